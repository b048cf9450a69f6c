import PyProof.Rows.All
import Wide.All
import OpenK.AllK
import Wide.FinOn
import KE.KStateDown
import Lean
import HandS.ForMost
import KE.GoesEnum
import HandS.Wide
import HandS.TupAny
import HandS.TupMul
import HandS.SortInts
import HandS.IsInst
import HandS.Conv
import HandS.Style
import HandS.Deep
import HandS.Comp
import HandS.Defaults
import HandS.More
import HandS.TupLe
import HandS.Text
import HandS.HeadHook1
import HandS.HeadHook2
import HandS.Dict
import HandS.Small
import HandS.SortRule
import HandS.TupLen
import HandS.WordsDict
import KE.SortData
import PyProof.StrOps2
import HandS.TupSets
import HandS.SetFor
import HandS.Iter
import PyProof.Rows.TupDisplay
import KE.KTupSum
import HandS.DictTup
import HandS.WordsExc
import HandS.Head0
import HandS.Head1
import HandS.Head2
import HandS.HeadEnd
import PySem.Challenge.RW_piecesplaced_k56_whole_counts_of_rows_of
set_option Elab.async false
set_option linter.all false
set_option maxRecDepth 100000
set_option autoImplicit false
set_option maxHeartbeats 0
namespace Bd
abbrev Sq := Int × Int
def lt (p q : Sq) : Prop := p.1 < q.1 ∨ (p.1 = q.1 ∧ p.2 < q.2)
def le (p q : Sq) : Bool := decide (p.1 < q.1 ∨ (p.1 = q.1 ∧ p.2 ≤ q.2))
theorem lt_irrefl (p : Sq) : ¬ lt p p := by unfold lt; omega
theorem lt_trans {p q r : Sq} (h1 : lt p q) (h2 : lt q r) : lt p r := by unfold lt at *; omega
theorem ext_lt : ∀ l m : List Sq, l.Pairwise lt → m.Pairwise lt → (∀ p, p ∈ l ↔ p ∈ m) → l = m
  | [], [], _, _, _ => rfl
  | [], y :: m, _, _, h => by have := (h y).mpr (by simp); simp at this
  | x :: l, [], _, _, h => by have := (h x).mp (by simp); simp at this
  | x :: l, y :: m, hl, hm, h => by
    rw [List.pairwise_cons] at hl hm
    have e : x = y := by
      rcases List.mem_cons.mp ((h x).mp (by simp)) with e | hx
      · exact e
      · rcases List.mem_cons.mp ((h y).mpr (by simp)) with e | hy
        · exact e.symm
        · exact absurd (lt_trans (hm.1 x hx) (hl.1 y hy)) (lt_irrefl _)
    subst e
    refine congrArg _ (ext_lt l m hl.2 hm.2 fun p => ⟨fun hp => ?_, fun hp => ?_⟩)
    · rcases List.mem_cons.mp ((h p).mp (by simp [hp])) with rfl | q
      · exact absurd (hl.1 _ hp) (lt_irrefl _)
      · exact q
    · rcases List.mem_cons.mp ((h p).mpr (by simp [hp])) with rfl | q
      · exact absurd (hm.1 _ hp) (lt_irrefl _)
      · exact q
theorem lt_nodup {l : List Sq} (h : l.Pairwise lt) : l.Nodup := h.imp fun h e => by subst e; exact lt_irrefl _ h
def msort (l : List Sq) : List Sq := l.mergeSort le
theorem msort_eq {l m : List Sq} (n : l.Nodup) (hm : m.Pairwise lt) (h : ∀ p, p ∈ l ↔ p ∈ m) : msort l = m := by
  have hp : (msort l).Perm l := List.mergeSort_perm l le
  have hs : (msort l).Pairwise fun p q => le p q = true := List.pairwise_mergeSort (fun a b c h1 h2 => by
    simp only [le, decide_eq_true_eq] at *; omega) (fun a b => by
    simp only [le, Bool.or_eq_true, decide_eq_true_eq]; omega) l
  have hn : (msort l).Nodup := hp.nodup_iff.mpr n
  refine ext_lt _ _ ?_ hm fun p => by rw [hp.mem_iff, h]
  refine (hs.and hn).imp fun {p q} h => ?_
  obtain ⟨h1, h2⟩ := h
  simp only [le, decide_eq_true_eq] at h1
  unfold lt
  have : ¬ (p.1 = q.1 ∧ p.2 = q.2) := fun e => h2 (Prod.ext e.1 e.2)
  omega
theorem msort_self {l : List Sq} (h : l.Pairwise lt) : msort l = l := msort_eq (lt_nodup h) h fun _ => Iff.rfl

def row (r c : Nat) (f : Nat → Bool) : List Sq := ((List.range c).filter f).map fun (j : Nat) => ((r : Int), (j : Int))
def sqs (n c : Nat) (b : Nat → Nat → Bool) : List Sq := (List.range n).flatMap fun r => row r c (b r)
theorem mem_row {r c : Nat} {f : Nat → Bool} {p : Sq} : p ∈ row r c f ↔ ∃ j : Nat, j < c ∧ f j = true ∧ p = ((r : Int), (j : Int)) := by
  unfold row
  simp only [List.mem_map, List.mem_filter, List.mem_range]
  constructor
  · rintro ⟨j, ⟨h1, h2⟩, rfl⟩; exact ⟨j, h1, h2, rfl⟩
  · rintro ⟨j, h1, h2, rfl⟩; exact ⟨j, ⟨h1, h2⟩, rfl⟩
theorem mem_sqs {n c : Nat} {b : Nat → Nat → Bool} {p : Sq} : p ∈ sqs n c b ↔ ∃ r j : Nat, r < n ∧ j < c ∧ b r j = true ∧ p = ((r : Int), (j : Int)) := by
  unfold sqs
  simp only [List.mem_flatMap, List.mem_range, mem_row]
  constructor
  · rintro ⟨r, h1, j, h2, h3, rfl⟩; exact ⟨r, j, h1, h2, h3, rfl⟩
  · rintro ⟨r, j, h1, h2, h3, rfl⟩; exact ⟨r, h1, j, h2, h3, rfl⟩
theorem row_lt {r c : Nat} {f : Nat → Bool} : (row r c f).Pairwise lt := by
  unfold row
  rw [List.pairwise_map]
  refine List.Pairwise.filter _ ?_
  refine List.pairwise_lt_range.imp fun {a b} h => ?_
  right; exact ⟨rfl, by show (a : Int) < (b : Int); omega⟩
theorem sqs_succ {n c : Nat} {b : Nat → Nat → Bool} : sqs (n + 1) c b = sqs n c b ++ row n c (b n) := by
  unfold sqs; rw [List.range_succ, List.flatMap_append]; simp
theorem sqs_lt {n c : Nat} {b : Nat → Nat → Bool} : (sqs n c b).Pairwise lt := by
  induction n with
  | zero => exact .nil
  | succ n ih =>
    rw [sqs_succ, List.pairwise_append]
    refine ⟨ih, row_lt, fun p hp q hq => ?_⟩
    obtain ⟨r, j, h1, _, _, rfl⟩ := mem_sqs.mp hp
    obtain ⟨k, _, _, rfl⟩ := mem_row.mp hq
    left; show (r : Int) < (n : Int); omega
theorem row_len {r c : Nat} {f : Nat → Bool} : (row r c f).length ≤ c := by
  unfold row; rw [List.length_map]; exact Nat.le_trans (List.length_filter_le _ _) (by simp)
theorem sqs_len {n c : Nat} {b : Nat → Nat → Bool} : (sqs n c b).length ≤ n * c := by
  induction n with
  | zero => simp [sqs]
  | succ n ih => rw [sqs_succ, List.length_append, Nat.succ_mul]; have := row_len (r := n) (c := c) (f := b n); omega

inductive Kd where
  | tower | runner | queen | king
  | leap (a b : Int)
  deriving DecidableEq
def ab (i : Int) : Int := if i < 0 then -i else i
def takes (k : Kd) (p q : Sq) : Bool :=
  let d := ab (p.1 - q.1)
  let e := ab (p.2 - q.2)
  if d = 0 ∧ e = 0 then false else match k with
  | .tower => decide (d = 0 ∨ e = 0)
  | .runner => decide (d = e)
  | .queen => decide (d = 0 ∨ e = 0 ∨ d = e)
  | .king => decide (d ≤ 1 ∧ e ≤ 1)
  | .leap a b => decide ((d = a ∧ e = b) ∨ (e = a ∧ d = b))
theorem ab_neg (i : Int) : ab (-i) = ab i := by unfold ab; split <;> split <;> omega
theorem ab_sub (i j : Int) : ab (i - j) = ab (j - i) := by unfold ab; split <;> split <;> omega
theorem takes_comm (k : Kd) (p q : Sq) : takes k p q = takes k q p := by
  unfold takes; rw [ab_sub p.1, ab_sub p.2]
def sw (p : Sq) : Sq := (p.2, p.1)
theorem takes_sw (k : Kd) (p q : Sq) : takes k (sw p) (sw q) = takes k p q := by
  unfold takes sw
  dsimp only
  generalize ab (p.1 - q.1) = d
  generalize ab (p.2 - q.2) = e
  by_cases h : d = 0 ∧ e = 0
  · rw [if_pos h, if_pos ⟨h.2, h.1⟩]
  · rw [if_neg h, if_neg (fun z => h ⟨z.2, z.1⟩)]
    cases k <;> dsimp only <;> congr 1 <;> apply propext <;> omega
theorem takes_self (k : Kd) (p : Sq) : takes k p p = false := by
  unfold takes; simp [ab]
/-- what a piece takes -/
def taken (k : Kd) (l : List Sq) (p : Sq) : List Sq := l.filter (takes k p)
/-- what placed pieces take or stand on -/
def seen (k : Kd) (l pl : List Sq) : List Sq := l.filter fun q => pl.any fun p => decide (p = q) || takes k p q
def apart (k : Kd) (pl : List Sq) : Bool := !(List.range pl.length).any fun i => (pl.take i).any fun q => takes k (pl.getD i (0, 0)) q
/-- the law's steps -/
def steps : Kd → List Sq
  | .tower => [(1, 0), (0, 1), (-1, 0), (0, -1)]
  | .runner => [(1, 1), (1, -1), (-1, 1), (-1, -1)]
  | .queen | .king => [(1, 0), (0, 1), (-1, 0), (0, -1), (1, 1), (1, -1), (-1, 1), (-1, -1)]
  | .leap a b => [(a, b), (a, 0 - b), (0 - a, b), (0 - a, 0 - b), (b, a), (b, 0 - a), (0 - b, a), (0 - b, 0 - a)]
def often : Kd → Int
  | .tower | .runner | .queen => 24
  | _ => 1
def Kd.ok : Kd → Prop
  | .leap a b => 1 ≤ a ∧ 0 ≤ b ∧ b ≤ a ∧ a ≤ 12
  | _ => True
theorem ab_cases (i : Int) : (0 ≤ i ∧ ab i = i) ∨ (i < 0 ∧ ab i = -i) := by unfold ab; split <;> omega
theorem steps_takes (k : Kd) (hk : k.ok) (p q : Sq) (h1 : -24 < p.1 - q.1 ∧ p.1 - q.1 < 24) (h2 : -24 < p.2 - q.2 ∧ p.2 - q.2 < 24) :
    (∃ s ∈ steps k, ∃ m : Int, 1 ≤ m ∧ m ≤ often k ∧ q = (p.1 + m * s.1, p.2 + m * s.2)) ↔ takes k p q = true := by
  obtain ⟨x, y⟩ := p
  obtain ⟨u, v⟩ := q
  dsimp only at h1 h2
  unfold takes
  dsimp only
  have c1 := ab_cases (x - u)
  have c2 := ab_cases (y - v)
  generalize ab (x - u) = d at *
  generalize ab (y - v) = e at *
  have lin : ∀ (a b : Int), (∃ m : Int, 1 ≤ m ∧ m ≤ 24 ∧ (u, v) = (x + m * a, y + m * b)) ↔ ∃ m : Int, 1 ≤ m ∧ m ≤ 24 ∧ u = x + m * a ∧ v = y + m * b := fun a b => by simp only [Prod.mk.injEq]
  cases k with
  | tower =>
    simp only [steps, often, List.mem_cons, List.mem_nil_iff, or_false, exists_eq_or_imp, exists_eq_left, lin, Int.mul_zero, Int.mul_one, Int.mul_neg]
    split
    · constructor
      · rintro (⟨m, _⟩ | ⟨m, _⟩ | ⟨m, _⟩ | ⟨m, _⟩) <;> omega
      · intro h; cases h
    · rw [decide_eq_true_eq]
      constructor
      · rintro (⟨m, _⟩ | ⟨m, _⟩ | ⟨m, _⟩ | ⟨m, _⟩) <;> omega
      · intro h
        by_cases a1 : x < u
        · exact .inl ⟨u - x, by omega⟩
        by_cases a2 : y < v
        · exact .inr (.inl ⟨v - y, by omega⟩)
        by_cases a3 : u < x
        · exact .inr (.inr (.inl ⟨x - u, by omega⟩))
        · exact .inr (.inr (.inr ⟨y - v, by omega⟩))
  | runner =>
    simp only [steps, often, List.mem_cons, List.mem_nil_iff, or_false, exists_eq_or_imp, exists_eq_left, lin, Int.mul_zero, Int.mul_one, Int.mul_neg]
    split
    · constructor
      · rintro (⟨m, _⟩ | ⟨m, _⟩ | ⟨m, _⟩ | ⟨m, _⟩) <;> omega
      · intro h; cases h
    · rw [decide_eq_true_eq]
      constructor
      · rintro (⟨m, _⟩ | ⟨m, _⟩ | ⟨m, _⟩ | ⟨m, _⟩) <;> omega
      · intro h
        by_cases a1 : x < u
        · by_cases a2 : y < v
          · exact .inl ⟨u - x, by omega⟩
          · exact .inr (.inl ⟨u - x, by omega⟩)
        · by_cases a2 : y < v
          · exact .inr (.inr (.inl ⟨x - u, by omega⟩))
          · exact .inr (.inr (.inr ⟨x - u, by omega⟩))
  | queen =>
    simp only [steps, often, List.mem_cons, List.mem_nil_iff, or_false, exists_eq_or_imp, exists_eq_left, lin, Int.mul_zero, Int.mul_one, Int.mul_neg]
    split
    · constructor
      · rintro (⟨m, _⟩ | ⟨m, _⟩ | ⟨m, _⟩ | ⟨m, _⟩ | ⟨m, _⟩ | ⟨m, _⟩ | ⟨m, _⟩ | ⟨m, _⟩) <;> omega
      · intro h; cases h
    · rw [decide_eq_true_eq]
      constructor
      · rintro (⟨m, _⟩ | ⟨m, _⟩ | ⟨m, _⟩ | ⟨m, _⟩ | ⟨m, _⟩ | ⟨m, _⟩ | ⟨m, _⟩ | ⟨m, _⟩) <;> omega
      · intro h
        by_cases b1 : y = v
        · by_cases a1 : x < u
          · exact .inl ⟨u - x, by omega⟩
          · exact .inr (.inr (.inl ⟨x - u, by omega⟩))
        by_cases b2 : x = u
        · by_cases a1 : y < v
          · exact .inr (.inl ⟨v - y, by omega⟩)
          · exact .inr (.inr (.inr (.inl ⟨y - v, by omega⟩)))
        by_cases a1 : x < u
        · by_cases a2 : y < v
          · exact .inr (.inr (.inr (.inr (.inl ⟨u - x, by omega⟩))))
          · exact .inr (.inr (.inr (.inr (.inr (.inl ⟨u - x, by omega⟩)))))
        · by_cases a2 : y < v
          · exact .inr (.inr (.inr (.inr (.inr (.inr (.inl ⟨x - u, by omega⟩))))))
          · exact .inr (.inr (.inr (.inr (.inr (.inr (.inr ⟨x - u, by omega⟩))))))
  | king =>
    have one : ∀ (a b : Int), (∃ m : Int, 1 ≤ m ∧ m ≤ 1 ∧ (u, v) = (x + m * a, y + m * b)) ↔ u = x + a ∧ v = y + b := fun a b => by
      simp only [Prod.mk.injEq]
      constructor
      · rintro ⟨m, h1, h2, h3, h4⟩
        have : m = 1 := by omega
        subst this
        omega
      · intro h; exact ⟨1, by omega, by omega, by omega, by omega⟩
    simp only [steps, often, List.mem_cons, List.mem_nil_iff, or_false, exists_eq_or_imp, exists_eq_left, one]
    split
    · constructor
      · intro h; omega
      · intro h; cases h
    · rw [decide_eq_true_eq]; omega
  | leap a b =>
    have one : ∀ (a b : Int), (∃ m : Int, 1 ≤ m ∧ m ≤ 1 ∧ (u, v) = (x + m * a, y + m * b)) ↔ u = x + a ∧ v = y + b := fun a b => by
      simp only [Prod.mk.injEq]
      constructor
      · rintro ⟨m, h1, h2, h3, h4⟩
        have : m = 1 := by omega
        subst this
        omega
      · intro h; exact ⟨1, by omega, by omega, by omega, by omega⟩
    obtain ⟨k1, k2, k3, k4⟩ := hk
    simp only [steps, often, List.mem_cons, List.mem_nil_iff, or_false, exists_eq_or_imp, exists_eq_left, one]
    split
    · constructor
      · rintro (⟨_, _⟩ | ⟨_, _⟩ | ⟨_, _⟩ | ⟨_, _⟩ | ⟨_, _⟩ | ⟨_, _⟩ | ⟨_, _⟩ | ⟨_, _⟩) <;> omega
      · intro h; cases h
    · rw [decide_eq_true_eq]
      constructor
      · rintro (⟨_, _⟩ | ⟨_, _⟩ | ⟨_, _⟩ | ⟨_, _⟩ | ⟨_, _⟩ | ⟨_, _⟩ | ⟨_, _⟩ | ⟨_, _⟩)
        · left; omega
        · left; omega
        · left; omega
        · left; omega
        · right; omega
        · right; omega
        · right; omega
        · right; omega
      · rintro (⟨_, _⟩ | ⟨_, _⟩) <;> rcases c1 with ⟨_, _⟩ | ⟨_, _⟩ <;> rcases c2 with ⟨_, _⟩ | ⟨_, _⟩
        · exact .inr (.inr (.inr (.inl ⟨by omega, by omega⟩)))
        · exact .inr (.inr (.inl ⟨by omega, by omega⟩))
        · exact .inr (.inl ⟨by omega, by omega⟩)
        · exact .inl ⟨by omega, by omega⟩
        · exact .inr (.inr (.inr (.inr (.inr (.inr (.inr ⟨by omega, by omega⟩))))))
        · exact .inr (.inr (.inr (.inr (.inr (.inr (.inl ⟨by omega, by omega⟩))))))
        · exact .inr (.inr (.inr (.inr (.inr (.inl ⟨by omega, by omega⟩)))))
        · exact .inr (.inr (.inr (.inr (.inl ⟨by omega, by omega⟩))))
end Bd

namespace Bd
def full : Nat → Nat → Bool := fun _ _ => true
def sm (n : Nat) (f : Nat → Nat) : Nat := match n with
  | 0 => 0
  | n + 1 => sm n f + f n
theorem sm_ext {n : Nat} {f g : Nat → Nat} (h : ∀ r, r < n → f r = g r) : sm n f = sm n g := by
  induction n with
  | zero => rfl
  | succ n ih => simp only [sm]; rw [ih fun r hr => h r (by omega), h n (by omega)]
theorem sm_add {n : Nat} {f g : Nat → Nat} : sm n (fun r => f r + g r) = sm n f + sm n g := by
  induction n with
  | zero => rfl
  | succ n ih => simp only [sm, ih]; omega
/-- how many j below n are so -/
def cnt (n : Nat) (p : Nat → Bool) : Nat := sm n fun j => if p j then 1 else 0
theorem cnt_len {n : Nat} {p : Nat → Bool} : ((List.range n).filter p).length = cnt n p := by
  induction n with
  | zero => rfl
  | succ n ih =>
    rw [List.range_succ, List.filter_append, List.length_append, ih]
    show _ = cnt n p + _
    congr 1
    cases h : p n <;> simp [h]
theorem len_sqs {h w : Nat} {P : Sq → Bool} : ((sqs h w full).filter P).length = sm h fun (r : Nat) => cnt w fun (j : Nat) => P ((r : Int), (j : Int)) := by
  induction h with
  | zero => rfl
  | succ h ih =>
    rw [sqs_succ, List.filter_append, List.length_append, ih]
    show _ = sm h _ + cnt w (fun (j : Nat) => P ((h : Int), (j : Int)))
    congr 1
    unfold row
    rw [List.filter_map, List.length_map, ← cnt_len]
    congr 1
    rw [List.filter_filter]
    refine List.filter_congr fun j _ => ?_
    simp [full]
def dst (a b : Nat) : Nat := if a < b then b - a else a - b
theorem dst_ab (a b : Nat) : ab ((b : Int) - (a : Int)) = (dst a b : Int) := by unfold ab dst; split <;> split <;> omega
theorem dst_cases (a b : Nat) : (a < b ∧ dst a b = b - a) ∨ (b ≤ a ∧ dst a b = a - b) := by unfold dst; split <;> omega
/-- places at a distance d -/
theorem cnt_dst (y d : Nat) (hd : 0 < d) : ∀ n : Nat, cnt n (fun j => decide (dst j y = d)) = (if d ≤ y ∧ y - d < n then 1 else 0) + (if y + d < n then 1 else 0)
  | 0 => by simp [cnt, sm]
  | n + 1 => by
    have ih := cnt_dst y d hd n
    show cnt n _ + _ = _
    rw [ih]
    have c := dst_cases n y
    simp only [decide_eq_true_eq]
    split <;> split <;> split <;> split <;> split <;> omega
theorem cnt_at (y : Nat) : ∀ n : Nat, cnt n (fun j => decide (dst j y = 0)) = if y < n then 1 else 0
  | 0 => by simp [cnt, sm]
  | n + 1 => by
    have ih := cnt_at y n
    show cnt n _ + _ = _
    rw [ih]
    have c := dst_cases n y
    simp only [decide_eq_true_eq]
    split <;> split <;> split <;> omega
theorem cnt_off (y : Nat) : ∀ n : Nat, cnt n (fun j => decide (dst j y ≠ 0)) = n - if y < n then 1 else 0
  | 0 => by simp [cnt, sm]
  | n + 1 => by
    have ih := cnt_off y n
    show cnt n _ + _ = _
    rw [ih]
    have c := dst_cases n y
    simp only [decide_eq_true_eq]
    split <;> split <;> split <;> omega
theorem cnt_near (y : Nat) : ∀ n : Nat, cnt n (fun j => decide (dst j y ≤ 1)) = (if y < n then 1 else 0) + ((if 1 ≤ y ∧ y - 1 < n then 1 else 0) + (if y + 1 < n then 1 else 0))
  | 0 => by simp [cnt, sm]
  | n + 1 => by
    have ih := cnt_near y n
    show cnt n _ + _ = _
    rw [ih]
    have c := dst_cases n y
    simp only [decide_eq_true_eq]
    split <;> split <;> split <;> split <;> split <;> split <;> split <;> omega
theorem cnt_one (y : Nat) (n : Nat) : cnt n (fun j => decide (dst j y = 1)) = ((if 1 ≤ y ∧ y - 1 < n then 1 else 0) + (if y + 1 < n then 1 else 0)) := cnt_dst y 1 (by omega) n
theorem cnt_ext {n : Nat} {p q : Nat → Bool} (h : ∀ j, j < n → p j = q j) : cnt n p = cnt n q := sm_ext fun j hj => by rw [h j hj]
theorem cnt_none {n : Nat} {p : Nat → Bool} (h : ∀ j, j < n → p j = false) : cnt n p = 0 := by
  rw [cnt_ext (q := fun _ => false) h]
  induction n with
  | zero => rfl
  | succ n ih => show cnt n _ + _ = 0; rw [ih fun j hj => h j (by omega)]; rfl
theorem cnt_or {p q : Nat → Bool} (hd : ∀ j, ¬ (p j = true ∧ q j = true)) : ∀ n : Nat, cnt n (fun j => p j || q j) = cnt n p + cnt n q
  | 0 => rfl
  | n + 1 => by
    have ih := cnt_or hd n
    show cnt n _ + _ = (cnt n p + _) + (cnt n q + _)
    rw [ih]
    have := hd n
    cases h1 : p n <;> cases h2 : q n <;> simp [h1, h2] at this ⊢ <;> omega
section
variable {h w x y : Nat}
theorem tk_row (k : Kd) (r : Nat) : (cnt w fun (j : Nat) => takes k ((x : Int), (y : Int)) ((r : Int), (j : Int))) = cnt w fun j => (if dst r x = 0 ∧ dst j y = 0 then false else match k with
    | .tower => decide (dst r x = 0 ∨ dst j y = 0)
    | .runner => decide (dst r x = dst j y)
    | .queen => decide (dst r x = 0 ∨ dst j y = 0 ∨ dst r x = dst j y)
    | .king => decide (dst r x ≤ 1 ∧ dst j y ≤ 1)
    | .leap a b => decide (((dst r x : Int) = a ∧ (dst j y : Int) = b) ∨ ((dst j y : Int) = a ∧ (dst r x : Int) = b))) := by
  refine cnt_ext fun j _ => ?_
  unfold takes
  dsimp only
  rw [dst_ab, dst_ab]
  have e1 : ((dst r x : Int) = 0 ∧ (dst j y : Int) = 0) ↔ (dst r x = 0 ∧ dst j y = 0) := by omega
  simp only [e1]
  split
  · rfl
  · cases k <;> dsimp only <;> apply decide_eq_decide.mpr <;> omega
theorem row_tower (r : Nat) (hy : y < w) : (cnt w fun (j : Nat) => takes .tower ((x : Int), (y : Int)) ((r : Int), (j : Int))) = if dst r x = 0 then w - 1 else 1 := by
  rw [tk_row]
  by_cases q : dst r x = 0
  · rw [if_pos q]
    have := cnt_off y w
    rw [if_pos hy] at this
    rw [← this]
    refine cnt_ext fun j _ => ?_
    by_cases z : dst j y = 0 <;> simp [q, z]
  · rw [if_neg q]
    have := cnt_at y w
    rw [if_pos hy] at this
    rw [← this]
    refine cnt_ext fun j _ => ?_
    simp [q]
theorem row_runner (r : Nat) (hy : y < w) : (cnt w fun (j : Nat) => takes .runner ((x : Int), (y : Int)) ((r : Int), (j : Int))) = if dst r x = 0 then 0 else (if dst r x ≤ y then 1 else 0) + (if dst r x ≤ w - 1 - y then 1 else 0) := by
  rw [tk_row]
  by_cases q : dst r x = 0
  · rw [if_pos q]
    refine cnt_none fun j _ => ?_
    by_cases z : dst j y = 0
    · simp [q, z]
    · have : ¬ 0 = dst j y := fun e => z e.symm
      simp [q, z, this]
  · rw [if_neg q]
    have := cnt_dst y (dst r x) (by omega) w
    rw [cnt_ext (q := fun j => decide (dst j y = dst r x)) fun j _ => by simp [q, eq_comm], this]
    congr 1
    · split <;> split <;> omega
    · split <;> split <;> omega
theorem row_queen (r : Nat) (hy : y < w) : (cnt w fun (j : Nat) => takes .queen ((x : Int), (y : Int)) ((r : Int), (j : Int))) = (cnt w fun (j : Nat) => takes .tower ((x : Int), (y : Int)) ((r : Int), (j : Int))) + (cnt w fun (j : Nat) => takes .runner ((x : Int), (y : Int)) ((r : Int), (j : Int))) := by
  rw [tk_row .queen, tk_row .tower, tk_row .runner, ← cnt_or]
  · refine cnt_ext fun j _ => ?_
    by_cases a : dst r x = 0 <;> by_cases b : dst j y = 0
    · simp [a, b]
    · have : ¬ 0 = dst j y := fun e => b e.symm
      simp [a, b, this]
    · simp [a, b]
    · simp [a, b]
  · intro j
    by_cases a : dst r x = 0 <;> by_cases b : dst j y = 0
    · simp [a, b]
    · have : ¬ 0 = dst j y := fun e => b e.symm
      simp [a, b, this]
    · simp [a, b]
    · simp [a, b]
theorem row_king (r : Nat) (hy : y < w) : (cnt w fun (j : Nat) => takes .king ((x : Int), (y : Int)) ((r : Int), (j : Int))) = if dst r x = 0 then min y 1 + min (w - 1 - y) 1 else if dst r x = 1 then 1 + (min y 1 + min (w - 1 - y) 1) else 0 := by
  rw [tk_row]
  by_cases q : dst r x = 0
  · rw [if_pos q, cnt_ext (q := fun j => decide (dst j y = 1)) fun j _ => by
      by_cases z : dst j y = 0
      · simp [q, z]
      · simp [q, z]; omega, cnt_one]
    split <;> split <;> omega
  · rw [if_neg q]
    by_cases q1 : dst r x = 1
    · rw [if_pos q1, cnt_ext (q := fun j => decide (dst j y ≤ 1)) fun j _ => by simp [q1], cnt_near]
      split <;> split <;> split <;> omega
    · rw [if_neg q1]
      refine cnt_none fun j _ => ?_
      simp [q]
      omega
theorem sum_tower (hx : x < h) (v : Nat) : sm h (fun r => if dst r x = 0 then v else 1) = h - 1 + v := by
  have key : ∀ n : Nat, sm n (fun r => if dst r x = 0 then v else 1) = if n ≤ x then n else n - 1 + v := by
    intro n
    induction n with
    | zero => simp [sm]
    | succ n ih =>
      simp only [sm, ih]
      have c := dst_cases n x
      split <;> split <;> split <;> omega
  rw [key, if_neg (by omega)]
theorem sum_side (L : Nat) : ∀ n : Nat, sm n (fun r => if dst r x = 0 then 0 else if dst r x ≤ L then 1 else 0) = if n ≤ x then min x L - min (x - n) L else min x L + min (n - 1 - x) L
  | 0 => by simp [sm]
  | n + 1 => by
    have ih := sum_side L n
    simp only [sm, ih]
    have c := dst_cases n x
    split <;> split <;> (try split) <;> (try split) <;> omega
theorem sum_king (hx : x < h) (K : Nat) : sm h (fun r => if dst r x = 0 then K else if dst r x = 1 then 1 + K else 0) = K + min x 1 * (1 + K) + min (h - 1 - x) 1 * (1 + K) := by
  have key : ∀ n : Nat, sm n (fun r => if dst r x = 0 then K else if dst r x = 1 then 1 + K else 0) = if n < x then 0 else if n = x then (if x = 0 then 0 else 1 + K) else if n = x + 1 then (if x = 0 then 0 else 1 + K) + K else (if x = 0 then 0 else 1 + K) + K + (1 + K) := by
    intro n
    induction n with
    | zero =>
      simp only [sm]
      split
      · rfl
      · rw [if_pos (by omega), if_pos (by omega)]
    | succ n ih =>
      simp only [sm, ih]
      have c := dst_cases n x
      split <;> split <;> (try split) <;> (try split) <;> (try split) <;> (try split) <;> (try split) <;> (try split) <;> (try split) <;> omega
  rw [key, if_neg (by omega), if_neg (by omega)]
  have m1 : min x 1 * (1 + K) = if x = 0 then 0 else 1 + K := by
    split
    · rename_i z; subst z; simp
    · rw [Nat.min_eq_right (by omega)]; omega
  have m2 : min (h - 1 - x) 1 * (1 + K) = if h = x + 1 then 0 else 1 + K := by
    split
    · rename_i z; subst z; simp
    · rw [Nat.min_eq_right (by omega)]; omega
  rw [m1, m2]
  split <;> split <;> omega
def asl (h w x y : Nat) : Nat := min x y + min x (w - 1 - y) + min (h - 1 - x) y + min (h - 1 - x) (w - 1 - y)
theorem len_tower (hx : x < h) (hy : y < w) : (taken .tower (sqs h w full) ((x : Int), (y : Int))).length = h + w - 2 := by
  unfold taken
  rw [len_sqs, sm_ext fun r _ => row_tower r hy, sum_tower hx]; omega
theorem sum_runner (hx : x < h) (hy : y < w) : (sm h fun (r : Nat) => cnt w fun (j : Nat) => takes .runner ((x : Int), (y : Int)) ((r : Int), (j : Int))) = asl h w x y := by
  rw [sm_ext fun r _ => row_runner r hy, sm_ext (g := fun r => (if dst r x = 0 then 0 else if dst r x ≤ y then 1 else 0) + (if dst r x = 0 then 0 else if dst r x ≤ w - 1 - y then 1 else 0)) fun r _ => by
    split <;> rfl, sm_add, sum_side, sum_side, if_neg (by omega), if_neg (by omega)]
  unfold asl; omega
theorem len_runner (hx : x < h) (hy : y < w) : (taken .runner (sqs h w full) ((x : Int), (y : Int))).length = asl h w x y := by
  unfold taken
  rw [len_sqs, sum_runner hx hy]
theorem len_queen (hx : x < h) (hy : y < w) : (taken .queen (sqs h w full) ((x : Int), (y : Int))).length = h + w - 2 + asl h w x y := by
  unfold taken
  rw [len_sqs, sm_ext fun r _ => row_queen r hy, sm_add, sum_runner hx hy, sm_ext fun r _ => row_tower r hy, sum_tower hx]; omega
theorem len_king (hx : x < h) (hy : y < w) : (taken .king (sqs h w full) ((x : Int), (y : Int))).length = (1 + min x 1 + min (h - 1 - x) 1) * (1 + min y 1 + min (w - 1 - y) 1) - 1 := by
  unfold taken
  rw [len_sqs, sm_ext fun r _ => row_king r hy, sum_king hx]
  generalize hK : min y 1 + min (w - 1 - y) 1 = K
  have : 1 + min y 1 + min (w - 1 - y) 1 = 1 + K := by omega
  rw [this, Nat.add_mul, Nat.add_mul]
  omega
end
def diag (n : Nat) : List Sq := (List.range n).map fun (i : Nat) => ((i : Int), (i : Int))
theorem mem_diag {n : Nat} {p : Sq} : p ∈ diag n ↔ ∃ i : Nat, i < n ∧ p = ((i : Int), (i : Int)) := by
  unfold diag
  simp only [List.mem_map, List.mem_range]
  exact ⟨fun ⟨i, h, e⟩ => ⟨i, h, e.symm⟩, fun ⟨i, h, e⟩ => ⟨i, h, e.symm⟩⟩
theorem diag_lt {n : Nat} : (diag n).Pairwise lt := by
  unfold diag
  rw [List.pairwise_map]
  exact List.pairwise_lt_range.imp fun {a b} h => .inl (by show (a : Int) < (b : Int); omega)
/-- the rows of the kings -/
def kr (n : Nat) : List Nat := (List.range ((n - (if 1 < n then 1 else 0) + 2) / 3)).map fun t => (if 1 < n then 1 else 0) + 3 * t
def kings (h w : Nat) : List Sq := (kr h).flatMap fun (r : Nat) => (kr w).map fun (j : Nat) => ((r : Int), (j : Int))
theorem mem_kr {n r : Nat} : r ∈ kr n ↔ r < n ∧ r % 3 = (if 1 < n then 1 else 0) := by
  unfold kr
  simp only [List.mem_map, List.mem_range]
  constructor
  · rintro ⟨t, h, rfl⟩
    split at h <;> split <;> omega
  · rintro ⟨h1, h2⟩
    refine ⟨r / 3, ?_, ?_⟩ <;> split at h2 <;> split <;> omega
theorem kr_lt {n : Nat} : (kr n).Pairwise (· < ·) := by
  unfold kr
  rw [List.pairwise_map]
  exact List.pairwise_lt_range.imp fun {a b} h => by omega
theorem mem_kings {h w : Nat} {p : Sq} : p ∈ kings h w ↔ ∃ r j : Nat, r ∈ kr h ∧ j ∈ kr w ∧ p = ((r : Int), (j : Int)) := by
  unfold kings
  simp only [List.mem_flatMap, List.mem_map]
  exact ⟨fun ⟨r, h1, j, h2, e⟩ => ⟨r, j, h1, h2, e.symm⟩, fun ⟨r, j, h1, h2, e⟩ => ⟨r, h1, j, h2, e.symm⟩⟩
theorem fm_lt {m : List Nat} (hm : m.Pairwise (· < ·)) : ∀ (l : List Nat), l.Pairwise (· < ·) → (l.flatMap fun (r : Nat) => m.map fun (j : Nat) => ((r : Int), (j : Int))).Pairwise lt
  | [], _ => .nil
  | r :: l, h => by
    rw [List.pairwise_cons] at h
    rw [List.flatMap_cons, List.pairwise_append]
    refine ⟨?_, fm_lt hm l h.2, fun p hp q hq => ?_⟩
    · rw [List.pairwise_map]
      exact hm.imp fun {a b} hab => .inr ⟨rfl, by show (a : Int) < (b : Int); omega⟩
    · obtain ⟨j, _, rfl⟩ := List.mem_map.mp hp
      obtain ⟨r', h1, h2⟩ := List.mem_flatMap.mp hq
      obtain ⟨j', _, rfl⟩ := List.mem_map.mp h2
      have := h.1 r' h1
      left; show (r : Int) < (r' : Int); omega
theorem kings_lt {h w : Nat} : (kings h w).Pairwise lt := fm_lt kr_lt _ kr_lt
theorem mem_full {h w : Nat} {p : Sq} : p ∈ sqs h w full ↔ ∃ r j : Nat, r < h ∧ j < w ∧ p = ((r : Int), (j : Int)) := by
  rw [mem_sqs]; simp [full]
theorem cov {n : Nat} (h1 : 1 ≤ n) (h2 : n ≤ 24) : (∀ r, r < n → ∃ r' ∈ kr n, dst r r' ≤ 1) ↔ (n < 3 ∨ n % 3 ≠ 1) := by
  constructor
  · intro h
    by_cases q : n < 3 ∨ n % 3 ≠ 1
    · exact q
    · exfalso
      obtain ⟨r', h3, h4⟩ := h (n - 1) (by omega)
      rw [mem_kr] at h3
      have c := dst_cases (n - 1) r'
      rw [if_pos (by omega)] at h3
      omega
  · intro h r hr
    by_cases q : 1 < n
    · by_cases q3 : r % 3 = 2
      · exact ⟨r - 1, mem_kr.mpr (by rw [if_pos q]; omega), by have c := dst_cases r (r - 1); omega⟩
      · by_cases q4 : r % 3 = 1
        · exact ⟨r, mem_kr.mpr (by rw [if_pos q]; omega), by have c := dst_cases r r; omega⟩
        · exact ⟨r + 1, mem_kr.mpr (by rw [if_pos q]; omega), by have c := dst_cases r (r + 1); omega⟩
    · exact ⟨0, mem_kr.mpr (by rw [if_neg q]; omega), by have c := dst_cases r 0; omega⟩
end Bd

namespace Lm
open Bd
def mx (i j : Int) : Int := if j > i then j else i
theorem mx_le {i j k : Int} : mx i j ≤ k ↔ i ≤ k ∧ j ≤ k := by unfold mx; split <;> omega
theorem ab_nn (i : Int) : 0 ≤ ab i := by unfold ab; split <;> omega
def cost (u v w z : Int) : Int := mx (ab u) (ab z) + mx (ab v) (ab w)
theorem cost_nn (u v w z : Int) : 0 ≤ cost u v w z := by
  have := ab_nn u; have := ab_nn z; have := ab_nn v; have := ab_nn w
  unfold cost mx; split <;> split <;> omega
theorem cost_uv (u v w z : Int) : ab u + ab v ≤ cost u v w z := by
  unfold cost mx; split <;> split <;> omega
def rg (e : Int) : List Int := (List.range 6).map fun (k : Nat) => e - 2 + (k : Int)
theorem mem_rg {e t : Int} : t ∈ rg e ↔ e - 2 ≤ t ∧ t ≤ e + 3 := by
  unfold rg
  simp only [List.mem_map, List.mem_range]
  constructor
  · rintro ⟨k, hk, rfl⟩; omega
  · intro h; exact ⟨(t - (e - 2)).toNat, by omega, by omega⟩
def bn (left times room : Int) : List Int := if times = 0 then [] else rg ((left - room) / times) ++ rg ((left + room) / times)
theorem mem_bn {A z l t : Int} : t ∈ bn z l A ↔ l ≠ 0 ∧ (((z - A) / l - 2 ≤ t ∧ t ≤ (z - A) / l + 3) ∨ ((z + A) / l - 2 ≤ t ∧ t ≤ (z + A) / l + 3)) := by
  unfold bn
  by_cases h : l = 0
  · simp [h]
  · rw [if_neg h, List.mem_append, mem_rg, mem_rg]; simp [h]
theorem edge {E l T : Int} (hl : 0 < l) (h : ¬ (E / l - 2 ≤ T ∧ T ≤ E / l + 3)) : l * (T + 2) ≤ E ∨ E < l * (T - 2) := by
  have h1 := Int.mul_ediv_self_le (x := E) (k := l) (by omega)
  have h2 := Int.lt_mul_ediv_self_add (x := E) (k := l) hl
  generalize E / l = e at *
  have h3 : T + 2 ≤ e ∨ e + 1 ≤ T - 2 := by omega
  rcases h3 with h3 | h3
  · have := Int.mul_le_mul_of_nonneg_left h3 (show 0 ≤ l by omega); exact .inl (by omega)
  · have := Int.mul_le_mul_of_nonneg_left h3 (show 0 ≤ l by omega)
    rw [Int.mul_add] at this
    exact .inr (by omega)
theorem aff {A z l T : Int} (hA : 0 ≤ A) (hl : 0 ≤ l) (h : T ∉ bn z l A) :
    mx A (ab (z - l * (T - 2))) + mx A (ab (z - l * (T + 2))) = 2 * mx A (ab (z - l * T)) := by
  by_cases h0 : l = 0
  · subst h0; simp only [Int.zero_mul]; omega
  · have hl' : 0 < l := by omega
    have h1 : ¬ ((z - A) / l - 2 ≤ T ∧ T ≤ (z - A) / l + 3) := fun c => h (mem_bn.mpr ⟨h0, .inl c⟩)
    have h2 : ¬ ((z + A) / l - 2 ≤ T ∧ T ≤ (z + A) / l + 3) := fun c => h (mem_bn.mpr ⟨h0, .inr c⟩)
    have e1 := edge hl' h1
    have e2 := edge hl' h2
    have x1 : l * (T + 2) = l * T + 2 * l := by rw [Int.mul_add]; omega
    have x2 : l * (T - 2) = l * T - 2 * l := by rw [Int.mul_sub]; omega
    rw [x1, x2] at e1 e2
    rw [x1, x2]
    clear x1 x2 h1 h2 h
    generalize l * T = P at *
    rcases e1 with e1 | e1 <;> rcases e2 with e2 | e2 <;> unfold mx ab <;> (repeat' split) <;> omega
def Fe (u v w z l s t : Int) : Prop := (u - (z - l * t)) % 2 = 0 ∧ (v - (w + s * t)) % 2 = 0
instance {u v w z l s t : Int} : Decidable (Fe u v w z l s t) := inferInstanceAs (Decidable (_ ∧ _))
def ct (u v w z l s t : Int) : Int := cost u v (w + s * t) (z - l * t)
def cands (u v w z l s : Int) : List Int := bn z l (ab u) ++ bn (-w) s (ab v)
theorem fe2 {u v w z l s t : Int} : (Fe u v w z l s (t + 2) ↔ Fe u v w z l s t) ∧ (Fe u v w z l s (t - 2) ↔ Fe u v w z l s t) := by
  unfold Fe
  rw [Int.mul_add, Int.mul_add, Int.mul_sub, Int.mul_sub]
  generalize l * t = P
  generalize s * t = Q
  constructor <;> omega
theorem ct_t {u v w z l s t : Int} (hl : 1 ≤ l) : -(ct u v w z l s t + ab z) ≤ t := by
  have h1 : ab (z - l * t) ≤ ct u v w z l s t := by
    have := ab_nn v; have := ab_nn (w + s * t)
    unfold ct cost mx; split <;> split <;> omega
  by_cases ht : 0 ≤ t
  · have := cost_nn u v (w + s * t) (z - l * t)
    have := ab_nn z
    unfold ct; omega
  · have : l * t ≤ 1 * t := Int.mul_le_mul_of_nonpos_right (by omega) (by omega)
    have : -t ≤ ab (z - l * t) + ab z := by
      generalize l * t = P at *
      unfold ab; split <;> split <;> omega
    omega
theorem near {u v w z l s : Int} (hl : 1 ≤ l) (hs : 0 ≤ s) (T : Int) (hT : Fe u v w z l s T) : ∃ t ∈ cands u v w z l s, Fe u v w z l s t ∧ ct u v w z l s t ≤ ct u v w z l s T := by
  by_cases h1 : ct u v w z l s (T + 2) < ct u v w z l s T
  · obtain ⟨t, m, f, c⟩ := near hl hs (T + 2) (fe2.1.mpr hT)
    exact ⟨t, m, f, by omega⟩
  · by_cases h2 : ct u v w z l s (T - 2) ≤ ct u v w z l s T
    · obtain ⟨t, m, f, c⟩ := near hl hs (T - 2) (fe2.2.mpr hT)
      exact ⟨t, m, f, by omega⟩
    · refine ⟨T, ?_, hT, by omega⟩
      unfold cands
      rw [List.mem_append]
      refine Decidable.byContradiction fun hc => ?_
      have n1 : T ∉ bn z l (ab u) := fun c => hc (.inl c)
      have n2 : T ∉ bn (-w) s (ab v) := fun c => hc (.inr c)
      have a1 := aff (ab_nn u) (show 0 ≤ l by omega) n1
      have a2 := aff (ab_nn v) hs n2
      have q : ∀ x : Int, ab (-w - s * x) = ab (w + s * x) := fun x => by rw [← ab_neg]; congr 1; omega
      rw [q, q, q] at a2
      unfold ct cost at h1 h2
      omega
termination_by ((ct u v w z l s T).toNat, (T + ct u v w z l s T + ab z).toNat)
decreasing_by
  · have := cost_nn u v (w + s * (T + 2)) (z - l * (T + 2))
    have e : ct u v w z l s (T + 2) = cost u v (w + s * (T + 2)) (z - l * (T + 2)) := rfl
    exact Prod.Lex.left _ _ (by omega)
  · have := cost_nn u v (w + s * (T - 2)) (z - l * (T - 2))
    have e : ct u v w z l s (T - 2) = cost u v (w + s * (T - 2)) (z - l * (T - 2)) := rfl
    have b1 := ct_t (u := u) (v := v) (w := w) (z := z) (s := s) (t := T - 2) hl
    have b2 := ct_t (u := u) (v := v) (w := w) (z := z) (s := s) (t := T) hl
    by_cases c : ct u v w z l s (T - 2) = ct u v w z l s T
    · rw [c]
      refine Prod.Lex.right _ ?_
      rw [c] at b1
      omega
    · exact Prod.Lex.left _ _ (by omega)
abbrev R3 := Option (Int × Int × Int)
def bstep (u v w z l s : Int) (r : R3) (t : Int) : R3 :=
  if Fe u v w z l s t then
    match r with
    | none => some (ct u v w z l s t, w + s * t, z - l * t)
    | some q => if ct u v w z l s t < q.1 then some (ct u v w z l s t, w + s * t, z - l * t) else some q
  else r
def best (u v w z l s : Int) : R3 := (cands u v w z l s).foldl (bstep u v w z l s) none
/-- what is found is one of them -/
def Ok3 (u v w z l s : Int) (r : R3) : Prop := ∀ q, r = some q → ∃ t, Fe u v w z l s t ∧ q = (ct u v w z l s t, w + s * t, z - l * t)
theorem bstep_ok {u v w z l s : Int} {r : R3} {t : Int} (h : Ok3 u v w z l s r) : Ok3 u v w z l s (bstep u v w z l s r t) := by
  intro q e
  unfold bstep at e
  split at e
  · rename_i hf
    split at e
    · injection e with e; exact ⟨t, hf, e.symm⟩
    · rename_i q'
      split at e
      · injection e with e; exact ⟨t, hf, e.symm⟩
      · exact h q e
  · exact h q e
def Lq (r : R3) (c : Int) : Prop := ∃ q, r = some q ∧ q.1 ≤ c
theorem bstep_le {u v w z l s : Int} {r : R3} {t c : Int} (h : Lq r c) : Lq (bstep u v w z l s r t) c := by
  obtain ⟨q, rfl, hq⟩ := h
  unfold bstep
  split
  · dsimp only
    split
    · exact ⟨_, rfl, by dsimp only; omega⟩
    · exact ⟨q, rfl, hq⟩
  · exact ⟨q, rfl, hq⟩
theorem bstep_at {u v w z l s : Int} {r : R3} {t : Int} (h : Fe u v w z l s t) : Lq (bstep u v w z l s r t) (ct u v w z l s t) := by
  unfold bstep
  rw [if_pos h]
  split
  · exact ⟨_, rfl, by dsimp only; omega⟩
  · rename_i q
    split
    · exact ⟨_, rfl, by dsimp only; omega⟩
    · exact ⟨q, rfl, by omega⟩
theorem fold_le {u v w z l s c : Int} : ∀ (ts : List Int) {r : R3}, Lq r c → Lq (ts.foldl (bstep u v w z l s) r) c
  | [], _, h => h
  | t :: ts, _, h => fold_le ts (bstep_le h)
theorem fold_at {u v w z l s t : Int} (h : Fe u v w z l s t) : ∀ (ts : List Int) {r : R3}, t ∈ ts → Lq (ts.foldl (bstep u v w z l s) r) (ct u v w z l s t)
  | x :: ts, r, m => by
    rcases List.mem_cons.mp m with e | m
    · subst e; exact fold_le ts (bstep_at h)
    · exact fold_at h ts m
theorem fold_ok {u v w z l s : Int} : ∀ (ts : List Int) {r : R3}, Ok3 u v w z l s r → Ok3 u v w z l s (ts.foldl (bstep u v w z l s) r)
  | [], _, h => h
  | t :: ts, _, h => fold_ok ts (bstep_ok h)
theorem best_ok {u v w z l s : Int} : Ok3 u v w z l s (best u v w z l s) := fold_ok _ fun q e => by cases e
theorem best_le {u v w z l s t : Int} (hl : 1 ≤ l) (hs : 0 ≤ s) (h : Fe u v w z l s t) : Lq (best u v w z l s) (ct u v w z l s t) := by
  obtain ⟨t', m, f, c⟩ := near hl hs t h
  obtain ⟨q, e, hq⟩ := fold_at f _ (r := none) m
  exact ⟨q, e, by omega⟩
abbrev R5 := Option (Int × Int × Int × Int × Int)
section
variable (u0 v0 w0 z0 l s : Int)
def U (i : Int) : Int := u0 + s * i
def V (i : Int) : Int := v0 - l * i
def FE (i j : Int) : Prop := Fe (U u0 s i) (V v0 l i) w0 z0 l s j
def cE (i j : Int) : Int := ct (U u0 s i) (V v0 l i) w0 z0 l s j
def sumE (i : Int) : Int := ab (U u0 s i) + ab (V v0 l i)
def upd (r : R5) (i : Int) : R5 := match best (U u0 s i) (V v0 l i) w0 z0 l s with
  | none => r
  | some q => match r with
    | none => some (q.1, U u0 s i, V v0 l i, q.2.1, q.2.2)
    | some k => if q.1 < k.1 then some (q.1, U u0 s i, V v0 l i, q.2.1, q.2.2) else some k
def OkR (r : R5) : Prop := ∀ q, r = some q → ∃ i j, FE u0 v0 w0 z0 l s i j ∧ q = (cE u0 v0 w0 z0 l s i j, U u0 s i, V v0 l i, w0 + s * j, z0 - l * j)
end
def LqR (r : R5) (c : Int) : Prop := ∃ q, r = some q ∧ q.1 ≤ c
section
variable {u0 v0 w0 z0 l s : Int}
theorem LqR.mono {r : R5} {c d : Int} (h : LqR r c) (hc : c ≤ d) : LqR r d := by
  obtain ⟨q, e, hq⟩ := h; exact ⟨q, e, by omega⟩
theorem upd_ok {r : R5} {i : Int} (h : OkR u0 v0 w0 z0 l s r) : OkR u0 v0 w0 z0 l s (upd u0 v0 w0 z0 l s r i) := by
  intro k e
  unfold upd at e
  split at e
  · exact h k e
  · rename_i q hq
    obtain ⟨j, hf, rfl⟩ := best_ok q hq
    split at e
    · injection e with e; exact ⟨i, j, hf, e.symm⟩
    · split at e
      · injection e with e; exact ⟨i, j, hf, e.symm⟩
      · exact h k e
theorem upd_le {r : R5} {i c : Int} (h : LqR r c) : LqR (upd u0 v0 w0 z0 l s r i) c := by
  obtain ⟨k, rfl, hk⟩ := h
  unfold upd
  split
  · exact ⟨k, rfl, hk⟩
  · dsimp only
    split
    · exact ⟨_, rfl, by dsimp only; omega⟩
    · exact ⟨k, rfl, hk⟩
theorem upd_at {r : R5} {i j : Int} (hl : 1 ≤ l) (hs : 0 ≤ s) (h : FE u0 v0 w0 z0 l s i j) : LqR (upd u0 v0 w0 z0 l s r i) (cE u0 v0 w0 z0 l s i j) := by
  obtain ⟨q, e, hq⟩ := best_le hl hs h
  unfold upd
  rw [e]
  dsimp only
  split
  · exact ⟨_, rfl, hq⟩
  · split
    · exact ⟨_, rfl, hq⟩
    · exact ⟨_, rfl, by unfold cE; omega⟩
theorem cE_sum {i j : Int} : sumE u0 v0 l s i ≤ cE u0 v0 w0 z0 l s i j := cost_uv _ _ _ _
theorem mid (hl : 1 ≤ l) : 0 ≤ v0 - l * (v0 / l) ∧ v0 - l * (v0 / l) < l := by
  have h1 := Int.mul_ediv_self_le (x := v0) (k := l) (by omega)
  have h2 := Int.lt_mul_ediv_self_add (x := v0) (k := l) (by omega)
  omega
theorem up_far {t : Int} (hl : 1 ≤ l) (h : v0 / l ≤ t) : t - v0 / l - 1 < ab (V v0 l t) ∨ t = v0 / l := by
  by_cases e : t = v0 / l
  · exact .inr e
  refine .inl ?_
  have m := mid (v0 := v0) hl
  generalize v0 / l = k at *
  obtain ⟨d, rfl⟩ : ∃ d, t = k + d := ⟨t - k, by omega⟩
  have : 1 * (d - 1) ≤ l * (d - 1) := Int.mul_le_mul_of_nonneg_right hl (by omega)
  rw [Int.one_mul, Int.mul_sub, Int.mul_one] at this
  unfold V
  rw [Int.mul_add]
  generalize l * d = x at *
  unfold ab; split <;> omega
theorem dn_far {t : Int} (hl : 1 ≤ l) (h : t ≤ v0 / l) : v0 / l - t ≤ ab (V v0 l t) := by
  have m := mid (v0 := v0) hl
  generalize v0 / l = k at *
  obtain ⟨d, rfl⟩ : ∃ d, t = k - d := ⟨k - t, by omega⟩
  have : 1 * d ≤ l * d := Int.mul_le_mul_of_nonneg_right hl (by omega)
  unfold V
  rw [Int.mul_sub]
  generalize l * d = x at *
  unfold ab; split <;> omega
theorem up_mono {t i : Int} (hl : 1 ≤ l) (hs : 0 ≤ s) (hsl : s ≤ l) (h : v0 / l + 1 ≤ t) (hi : t ≤ i) : sumE u0 v0 l s t ≤ sumE u0 v0 l s i := by
  have m := mid (v0 := v0) hl
  have y : l * (v0 / l + 1) ≤ l * t := Int.mul_le_mul_of_nonneg_left h (by omega)
  obtain ⟨d, rfl⟩ : ∃ d, i = t + d := ⟨i - t, by omega⟩
  have x1 : s * d ≤ l * d := Int.mul_le_mul_of_nonneg_right hsl (by omega)
  have x2 : 0 ≤ s * d := Int.mul_nonneg hs (by omega)
  unfold sumE U V
  rw [Int.mul_add, Int.mul_add]
  rw [Int.mul_add] at y
  generalize l * d = a at *
  generalize s * d = b at *
  generalize l * t = c at *
  generalize s * t = e at *
  generalize l * (v0 / l) = f at *
  unfold ab; split <;> split <;> split <;> split <;> omega
theorem dn_mono {t i : Int} (hl : 1 ≤ l) (hs : 0 ≤ s) (hsl : s ≤ l) (h : t ≤ v0 / l - 1) (hi : i ≤ t) : sumE u0 v0 l s t ≤ sumE u0 v0 l s i := by
  have m := mid (v0 := v0) hl
  have y : l * t ≤ l * (v0 / l - 1) := Int.mul_le_mul_of_nonneg_left h (by omega)
  obtain ⟨d, rfl⟩ : ∃ d, i = t - d := ⟨t - i, by omega⟩
  have x1 : s * d ≤ l * d := Int.mul_le_mul_of_nonneg_right hsl (by omega)
  have x2 : 0 ≤ s * d := Int.mul_nonneg hs (by omega)
  unfold sumE U V
  rw [Int.mul_sub, Int.mul_sub]
  rw [Int.mul_sub] at y
  generalize l * d = a at *
  generalize s * d = b at *
  generalize l * t = c at *
  generalize s * t = e at *
  generalize l * (v0 / l) = f at *
  unfold ab; split <;> split <;> split <;> split <;> omega
end
structure Pos (l s : Int) : Prop where
  l1 : 1 ≤ l
  s0 : 0 ≤ s
  sl : s ≤ l
section
variable {u0 v0 w0 z0 l s : Int}
structure Up (u0 v0 w0 z0 l s : Int) (r : R5) (t : Int) : Prop where
  ok : OkR u0 v0 w0 z0 l s r
  ge : v0 / l ≤ t
  st : t = v0 / l → r = none
  seen : ∀ i j, v0 / l ≤ i → i < t → FE u0 v0 w0 z0 l s i j → LqR r (cE u0 v0 w0 z0 l s i j)
structure Dn (u0 v0 w0 z0 l s : Int) (F : Int) (r : R5) (t : Int) : Prop where
  ok : OkR u0 v0 w0 z0 l s r
  le : t ≤ v0 / l - 1
  q : LqR r F
  seen : ∀ i j, t < i → FE u0 v0 w0 z0 l s i j → LqR r (cE u0 v0 w0 z0 l s i j)
theorem Up.start : Up u0 v0 w0 z0 l s none (v0 / l) := ⟨fun q e => (by cases e), Int.le_refl _, fun _ => rfl, fun i j h1 h2 => by omega⟩
theorem Up.step (p : Pos l s) {r : R5} {t : Int} (h : Up u0 v0 w0 z0 l s r t) : Up u0 v0 w0 z0 l s (upd u0 v0 w0 z0 l s r t) (t + 1) where
  ok := upd_ok h.ok
  ge := by have := h.ge; omega
  st := fun e => by have := h.ge; omega
  seen := fun i j h1 h2 h3 => by
    by_cases e : i = t
    · subst e; exact upd_at p.l1 p.s0 h3
    · exact upd_le (h.seen i j h1 (by omega) h3)
/-- what is known of the fewest -/
def Ex (u0 v0 w0 z0 l s F : Int) : Prop := ∃ i j, (i = v0 / l ∨ i = v0 / l + 1) ∧ FE u0 v0 w0 z0 l s i j ∧ cE u0 v0 w0 z0 l s i j ≤ F
theorem Up.le {F : Int} (x : Ex u0 v0 w0 z0 l s F) {r : R5} {t : Int} (h : Up u0 v0 w0 z0 l s r t) (ht : v0 / l + 2 ≤ t) : LqR r F := by
  obtain ⟨i, j, hi, hf, hc⟩ := x
  exact (h.seen i j (by omega) (by omega) hf).mono hc
/-- the loop goes on -/
def On (u0 v0 l s : Int) (r : R5) (t : Int) : Prop := ∀ q, r = some q → sumE u0 v0 l s t < q.1
theorem Up.few {F : Int} (p : Pos l s) (x : Ex u0 v0 w0 z0 l s F) {r : R5} {t : Int} (h : Up u0 v0 w0 z0 l s r t) (hF : 0 ≤ F) (hg : On u0 v0 l s r t) : t ≤ v0 / l + F + 2 := by
  by_cases ht : v0 / l + 2 ≤ t
  · obtain ⟨q, e, hq⟩ := h.le x ht
    have := hg q e
    have := up_far (v0 := v0) p.l1 h.ge
    have := ab_nn (U u0 s t)
    unfold sumE at *
    omega
  · omega
theorem Up.done (p : Pos l s) {r : R5} {t : Int} (h : Up u0 v0 w0 z0 l s r t) (hg : ¬ On u0 v0 l s r t) (F : Int) (x : Ex u0 v0 w0 z0 l s F) : Dn u0 v0 w0 z0 l s F r (v0 / l - 1) := by
  obtain ⟨q, e, hq⟩ : ∃ q, r = some q ∧ q.1 ≤ sumE u0 v0 l s t := by
    refine Decidable.byContradiction fun c => hg fun q e => ?_
    by_cases z : sumE u0 v0 l s t < q.1
    · exact z
    · exact absurd ⟨q, e, by omega⟩ c
  have t1 : v0 / l + 1 ≤ t := by
    have := h.ge
    by_cases e2 : t = v0 / l
    · rw [h.st e2] at e; cases e
    · omega
  have sn : ∀ i j, v0 / l ≤ i → FE u0 v0 w0 z0 l s i j → LqR r (cE u0 v0 w0 z0 l s i j) := fun i j h1 h2 => by
    by_cases c : i < t
    · exact h.seen i j h1 c h2
    · have := up_mono (u0 := u0) (v0 := v0) p.l1 p.s0 p.sl t1 (show t ≤ i by omega)
      have := cE_sum (u0 := u0) (v0 := v0) (w0 := w0) (z0 := z0) (l := l) (s := s) (i := i) (j := j)
      exact ⟨q, e, by omega⟩
  obtain ⟨i, j, hi, hf, hc⟩ := id x
  exact ⟨h.ok, by omega, (sn i j (by omega) hf).mono hc, fun i j h1 h2 => sn i j (by omega) h2⟩
theorem Dn.step (p : Pos l s) {F : Int} {r : R5} {t : Int} (h : Dn u0 v0 w0 z0 l s F r t) : Dn u0 v0 w0 z0 l s F (upd u0 v0 w0 z0 l s r t) (t - 1) where
  ok := upd_ok h.ok
  le := by have := h.le; omega
  q := upd_le h.q
  seen := fun i j h1 h3 => by
    by_cases e : i = t
    · subst e; exact upd_at p.l1 p.s0 h3
    · exact upd_le (h.seen i j (by omega) h3)
theorem Dn.few {F : Int} (p : Pos l s) {r : R5} {t : Int} (h : Dn u0 v0 w0 z0 l s F r t) (hg : On u0 v0 l s r t) : v0 / l - F < t := by
  obtain ⟨q, e, hq⟩ := h.q
  have := hg q e
  have := dn_far (v0 := v0) p.l1 (show t ≤ v0 / l by have := h.le; omega)
  have := ab_nn (U u0 s t)
  unfold sumE at *
  omega
/-- the fewest are found -/
structure Fewest (u0 v0 w0 z0 l s F : Int) (r : R5) : Prop where
  ok : OkR u0 v0 w0 z0 l s r
  q : LqR r F
  least : ∀ i j, FE u0 v0 w0 z0 l s i j → LqR r (cE u0 v0 w0 z0 l s i j)
theorem Dn.done (p : Pos l s) {F : Int} {r : R5} {t : Int} (h : Dn u0 v0 w0 z0 l s F r t) (hg : ¬ On u0 v0 l s r t) : Fewest u0 v0 w0 z0 l s F r := by
  obtain ⟨q, e, hq⟩ : ∃ q, r = some q ∧ q.1 ≤ sumE u0 v0 l s t := by
    refine Decidable.byContradiction fun c => hg fun q e => ?_
    by_cases z : sumE u0 v0 l s t < q.1
    · exact z
    · exact absurd ⟨q, e, by omega⟩ c
  refine ⟨h.ok, h.q, fun i j h2 => ?_⟩
  by_cases c : t < i
  · exact h.seen i j c h2
  · have := dn_mono (u0 := u0) (v0 := v0) p.l1 p.s0 p.sl h.le (show i ≤ t by omega)
    have := cE_sum (u0 := u0) (v0 := v0) (w0 := w0) (z0 := z0) (l := l) (s := s) (i := i) (j := j)
    exact ⟨q, e, by omega⟩
end
theorem small {l s x u0 v0 i : Int} (p : Pos l s) (l12 : l ≤ 12) (h : l * u0 + s * v0 = x) (hx : -100 ≤ x ∧ x ≤ 100) (hi : i = v0 / l ∨ i = v0 / l + 1) : ab (v0 - l * i) ≤ 12 ∧ ab (u0 + s * i) ≤ 112 := by
  have m := mid (v0 := v0) p.l1
  have l1 := p.l1
  have s0 := p.s0
  have sl := p.sl
  have hv : -12 ≤ v0 - l * i ∧ v0 - l * i ≤ 12 := by
    rcases hi with rfl | rfl
    · omega
    · rw [Int.mul_add]; omega
  have e : l * (u0 + s * i) + s * (v0 - l * i) = x := by grind
  generalize v0 - l * i = y at *
  generalize u0 + s * i = u at *
  have y1 : s * y ≤ s * 12 := Int.mul_le_mul_of_nonneg_left (by omega) s0
  have y2 : s * (-12) ≤ s * y := Int.mul_le_mul_of_nonneg_left (by omega) s0
  refine ⟨by unfold ab; split <;> omega, ?_⟩
  have u1 : u ≤ 112 := by
    refine Decidable.byContradiction fun c => ?_
    have : l * 113 ≤ l * u := Int.mul_le_mul_of_nonneg_left (by omega) (by omega)
    omega
  have u2 : -112 ≤ u := by
    refine Decidable.byContradiction fun c => ?_
    have : l * u ≤ l * (-113) := Int.mul_le_mul_of_nonneg_left (by omega) (by omega)
    omega
  unfold ab; split <;> omega
theorem some_fe {l s x y p q u0 v0 w0 z0 : Int} (P : Pos l s) (l12 : l ≤ 12) (hb : p * l + q * s = 1) (h1 : l * u0 + s * v0 = x) (h2 : l * w0 + s * z0 = y) (hx : -100 ≤ x ∧ x ≤ 100) (hy : -100 ≤ y ∧ y ≤ 100)
    (hp : l % 2 = 1 → s % 2 = 1 → (x + y) % 2 = 0) : Ex u0 v0 w0 z0 l s 224 := by
  have key : ∃ i j, (i = v0 / l ∨ i = v0 / l + 1) ∧ (j = z0 / l ∨ j = z0 / l + 1) ∧ FE u0 v0 w0 z0 l s i j := by
    unfold FE Fe U V
    generalize v0 / l = m
    generalize z0 / l = k
    obtain ⟨l', hl⟩ : ∃ l', l = 2 * l' ∨ l = 2 * l' + 1 := ⟨l / 2, by omega⟩
    obtain ⟨s', hs⟩ : ∃ s', s = 2 * s' ∨ s = 2 * s' + 1 := ⟨s / 2, by omega⟩
    have ev : ∀ c t : Int, (2 * c) * t = 2 * (c * t) := fun c t => by rw [Int.mul_assoc]
    have od : ∀ c t : Int, (2 * c + 1) * t = 2 * (c * t) + t := fun c t => by rw [Int.add_mul, Int.mul_assoc, Int.one_mul]
    rcases hl with rfl | rfl <;> rcases hs with rfl | rfl
    · exfalso
      have : 2 * (p * l' + q * s') = 1 := by rw [← hb]; grind
      omega
    · simp only [ev, od]
      rcases (show (u0 + m - z0) % 2 = 0 ∨ (u0 + (m + 1) - z0) % 2 = 0 by omega) with a | a <;> rcases (show (v0 - w0 - k) % 2 = 0 ∨ (v0 - w0 - (k + 1)) % 2 = 0 by omega) with b | b
      · exact ⟨m, k, .inl rfl, .inl rfl, by omega, by omega⟩
      · exact ⟨m, k + 1, .inl rfl, .inr rfl, by omega, by omega⟩
      · exact ⟨m + 1, k, .inr rfl, .inl rfl, by omega, by omega⟩
      · exact ⟨m + 1, k + 1, .inr rfl, .inr rfl, by omega, by omega⟩
    · simp only [ev, od]
      rcases (show (v0 - m - w0) % 2 = 0 ∨ (v0 - (m + 1) - w0) % 2 = 0 by omega) with a | a <;> rcases (show (u0 - z0 + k) % 2 = 0 ∨ (u0 - z0 + (k + 1)) % 2 = 0 by omega) with b | b
      · exact ⟨m, k, .inl rfl, .inl rfl, by omega, by omega⟩
      · exact ⟨m, k + 1, .inl rfl, .inr rfl, by omega, by omega⟩
      · exact ⟨m + 1, k, .inr rfl, .inl rfl, by omega, by omega⟩
      · exact ⟨m + 1, k + 1, .inr rfl, .inr rfl, by omega, by omega⟩
    · have hp' := hp (by omega) (by omega)
      rw [od, od] at h1 h2
      simp only [od]
      generalize l' * u0 = q1 at *
      generalize s' * v0 = q2 at *
      generalize l' * w0 = q3 at *
      generalize s' * z0 = q4 at *
      rcases (show (u0 + m - z0 + k) % 2 = 0 ∨ (u0 + m - z0 + (k + 1)) % 2 = 0 by omega) with b | b
      · exact ⟨m, k, .inl rfl, .inl rfl, by omega, by omega⟩
      · exact ⟨m, k + 1, .inl rfl, .inr rfl, by omega, by omega⟩
  obtain ⟨i, j, hi, hj, hf⟩ := key
  refine ⟨i, j, hi, hf, ?_⟩
  obtain ⟨a1, a2⟩ := small P l12 h1 hx hi
  obtain ⟨b1, b2⟩ := small P l12 h2 hy hj
  unfold cE ct cost U V
  have c1 : mx (ab (u0 + s * i)) (ab (z0 - l * j)) ≤ 112 := mx_le.mpr ⟨a2, by omega⟩
  have c2 : mx (ab (v0 - l * i)) (ab (w0 + s * j)) ≤ 112 := mx_le.mpr ⟨by omega, b2⟩
  omega
structure Dec (a b X Y u v w z : Int) : Prop where
  eX : a * u + b * v = X
  eY : a * w + b * z = Y
  pu : (u - z) % 2 = 0
  pv : (v - w) % 2 = 0
structure Few (a b : Int) (p : Sq) (c u v w z : Int) : Prop where
  dec : Dec a b p.1 p.2 u v w z
  eq : c = cost u v w z
  le : ∀ u' v' w' z', Dec a b p.1 p.2 u' v' w' z' → c ≤ cost u' v' w' z'
  b : c ≤ 224
theorem few_of {a b g l s p q x y : Int} {X : Sq} {r : R5} (hg : 1 ≤ g) (ha : a = g * l) (hb : b = g * s) (hx : X.1 = g * x) (hy : X.2 = g * y) (hpq : p * l + q * s = 1) (f : Fewest (p * x) (q * x) (p * y) (q * y) l s 224 r) :
    ∃ c u v w z, r = some (c, u, v, w, z) ∧ Few a b X c u v w z := by
  obtain ⟨k, e, hk⟩ := f.q
  obtain ⟨i, j, hf, rfl⟩ := f.ok k e
  refine ⟨_, _, _, _, _, e, ⟨?_, ?_, ?_, ?_⟩, rfl, fun u' v' w' z' d => ?_, hk⟩
  · rw [hx, ha, hb]; unfold U V; grind
  · rw [hy, ha, hb]; grind
  · exact hf.1
  · exact hf.2
  · have d1 : l * u' + s * v' = x := by
      have : g * (l * u' + s * v') = g * x := by rw [← hx, ← d.eX, ha, hb]; grind
      exact Int.eq_of_mul_eq_mul_left (show g ≠ 0 by omega) this
    have d2 : l * w' + s * z' = y := by
      have : g * (l * w' + s * z') = g * y := by rw [← hy, ← d.eY, ha, hb]; grind
      exact Int.eq_of_mul_eq_mul_left (show g ≠ 0 by omega) this
    have i1 : u' = p * x + s * (q * u' - p * v') := by grind
    have i2 : v' = q * x - l * (q * u' - p * v') := by grind
    have j1 : w' = p * y + s * (q * w' - p * z') := by grind
    have j2 : z' = q * y - l * (q * w' - p * z') := by grind
    have fe : FE (p * x) (q * x) (p * y) (q * y) l s (q * u' - p * v') (q * w' - p * z') := by
      unfold FE Fe U V
      rw [← i1, ← i2, ← j1, ← j2]
      exact ⟨d.pu, d.pv⟩
    obtain ⟨k2, e2, h2⟩ := f.least _ _ fe
    rw [e] at e2
    injection e2 with e2
    subst e2
    have : cE (p * x) (q * x) (p * y) (q * y) l s (q * u' - p * v') (q * w' - p * z') = cost u' v' w' z' := by
      unfold cE ct U V
      rw [← i1, ← i2, ← j1, ← j2]
    rw [this] at h2
    exact h2
def l8 (a b : Int) : List Sq := [(a, b), (a, -b), (-a, b), (-a, -b), (b, a), (b, -a), (-b, a), (-b, -a)]
def sm (l : List Sq) : Sq := ((l.map (·.1)).sum, (l.map (·.2)).sum)
theorem sm_cons {q : Sq} {l : List Sq} : sm (q :: l) = (q.1 + (sm l).1, q.2 + (sm l).2) := by simp [sm]
theorem sm_app {l m : List Sq} : sm (l ++ m) = ((sm l).1 + (sm m).1, (sm l).2 + (sm m).2) := by simp [sm]
theorem sm_rev {l : List Sq} : sm l.reverse = sm l := by
  have h : ∀ m : List Int, m.reverse.sum = m.sum := fun m => by
    induction m with
    | nil => rfl
    | cons x m ih => simp [ih]; omega
  unfold sm
  rw [List.map_reverse, List.map_reverse, h, h]
theorem dec_row {a b : Int} : ∀ {l : List Sq}, (∀ q ∈ l, q ∈ l8 a b) → ∃ u v w z n m : Int, Dec a b (sm l).1 (sm l).2 u v w z ∧ ab u ≤ n ∧ ab z ≤ n ∧ ab v ≤ m ∧ ab w ≤ m ∧ n + m = l.length
  | [], _ => ⟨0, 0, 0, 0, 0, 0, ⟨by simp [sm], by simp [sm], rfl, rfl⟩, by decide, by decide, by decide, by decide, rfl⟩
  | q :: l, h => by
    obtain ⟨u, v, w, z, n, m, ⟨d1, d2, d3, d4⟩, h1, h2, h3, h4, h5⟩ := dec_row (l := l) fun x hx => h x (by simp [hx])
    have hq := h q (by simp)
    rw [sm_cons]
    dsimp only
    have up : ∀ {i n : Int}, ab i ≤ n → ab (i + 1) ≤ n + 1 ∧ ab (i - 1) ≤ n + 1 := fun {i n} hi => by unfold ab at *; split at hi <;> (constructor <;> split <;> omega)
    have ln : ((q :: l).length : Int) = l.length + 1 := by simp
    rw [ln]
    simp only [l8, List.mem_cons, List.not_mem_nil, or_false] at hq
    rcases hq with e | e | e | e | e | e | e | e <;> subst e <;> dsimp only
    · exact ⟨u + 1, v, w, z + 1, n + 1, m, ⟨by grind, by grind, by omega, by omega⟩, (up h1).1, (up h2).1, h3, h4, by omega⟩
    · exact ⟨u + 1, v, w, z - 1, n + 1, m, ⟨by grind, by grind, by omega, by omega⟩, (up h1).1, (up h2).2, h3, h4, by omega⟩
    · exact ⟨u - 1, v, w, z + 1, n + 1, m, ⟨by grind, by grind, by omega, by omega⟩, (up h1).2, (up h2).1, h3, h4, by omega⟩
    · exact ⟨u - 1, v, w, z - 1, n + 1, m, ⟨by grind, by grind, by omega, by omega⟩, (up h1).2, (up h2).2, h3, h4, by omega⟩
    · exact ⟨u, v + 1, w + 1, z, n, m + 1, ⟨by grind, by grind, by omega, by omega⟩, h1, h2, (up h3).1, (up h4).1, by omega⟩
    · exact ⟨u, v + 1, w - 1, z, n, m + 1, ⟨by grind, by grind, by omega, by omega⟩, h1, h2, (up h3).1, (up h4).2, by omega⟩
    · exact ⟨u, v - 1, w + 1, z, n, m + 1, ⟨by grind, by grind, by omega, by omega⟩, h1, h2, (up h3).2, (up h4).1, by omega⟩
    · exact ⟨u, v - 1, w - 1, z, n, m + 1, ⟨by grind, by grind, by omega, by omega⟩, h1, h2, (up h3).2, (up h4).2, by omega⟩
theorem Few.le_row {a b : Int} {p : Sq} {c u v w z : Int} (f : Few a b p c u v w z) {l : List Sq} (hl : ∀ q ∈ l, q ∈ l8 a b) (hs : sm l = p) : c ≤ l.length := by
  obtain ⟨u', v', w', z', n, m, d, h1, h2, h3, h4, h5⟩ := dec_row hl
  rw [hs] at d
  have := f.le _ _ _ _ d
  have e1 : mx (ab u') (ab z') ≤ n := mx_le.mpr ⟨h1, h2⟩
  have e2 : mx (ab v') (ab w') ≤ m := mx_le.mpr ⟨h3, h4⟩
  unfold cost at this
  omega
def sg (n : Int) (u a : Int) (i : Nat) : Int := if 2 * (i : Int) < n + u then a else -a
theorem sum_sg {n : Nat} {u a : Int} (h : ab u ≤ n) (hp : ((n : Int) - u) % 2 = 0) : ((List.range n).map (sg n u a)).sum = a * u := by
  obtain ⟨k, hk⟩ : ∃ k : Int, (n : Int) + u = 2 * k := ⟨((n : Int) + u) / 2, by omega⟩
  have hn : 0 ≤ k ∧ k ≤ n := by unfold ab at h; split at h <;> omega
  have key : ∀ m : Nat, ((List.range m).map (sg n u a)).sum = a * (if (m : Int) ≤ k then (m : Int) else 2 * k - m) := fun m => by
    induction m with
    | zero => simp [hn.1]
    | succ m ih =>
      rw [List.range_succ, List.map_append, List.sum_append, ih]
      simp only [List.map_cons, List.map_nil, List.sum_cons, List.sum_nil, Int.add_zero]
      unfold sg
      by_cases c1 : (m : Int) + 1 ≤ k
      · rw [if_pos (by omega), if_pos (by omega), if_pos (by simpa using c1)]
        grind
      · by_cases c2 : (m : Int) ≤ k
        · have : (m : Int) = k := by omega
          rw [if_pos c2, if_neg (by omega), if_neg (by simpa using c1)]
          grind
        · rw [if_neg c2, if_neg (by omega), if_neg (by simpa using c1)]
          grind
  rw [key]
  congr 1
  split <;> omega
def half (n : Int) (u z a b : Int) : List Sq := (List.range n.toNat).map fun i => (sg n u a i, sg n z b i)
theorem half_sm {n u z a b : Int} (hn : 0 ≤ n) (h1 : ab u ≤ n) (h2 : ab z ≤ n) (p1 : (n - u) % 2 = 0) (p2 : (n - z) % 2 = 0) : sm (half n u z a b) = (a * u, b * z) := by
  obtain ⟨m, rfl⟩ : ∃ m : Nat, n = (m : Int) := ⟨n.toNat, by omega⟩
  unfold sm half
  rw [Int.toNat_natCast, List.map_map, List.map_map]
  have e1 : (fun x : Sq => x.1) ∘ (fun i => (sg m u a i, sg m z b i)) = sg m u a := rfl
  have e2 : (fun x : Sq => x.2) ∘ (fun i => (sg m u a i, sg m z b i)) = sg m z b := rfl
  rw [e1, e2, sum_sg h1 p1, sum_sg h2 p2]
def rowOf (a b u v w z : Int) : List Sq := half (mx (ab u) (ab z)) u z a b ++ half (mx (ab v) (ab w)) v w b a
theorem rowOf_mem {a b u v w z : Int} : ∀ q ∈ rowOf a b u v w z, q ∈ l8 a b := by
  intro q hq
  unfold rowOf half at hq
  simp only [List.mem_append, List.mem_map, List.mem_range] at hq
  unfold sg at hq
  rcases hq with ⟨i, _, rfl⟩ | ⟨i, _, rfl⟩ <;> split <;> split <;> simp [l8]
theorem rowOf_len {a b u v w z : Int} : ((rowOf a b u v w z).length : Int) = cost u v w z := by
  have := ab_nn u; have := ab_nn z; have := ab_nn v; have := ab_nn w
  have e1 : 0 ≤ mx (ab u) (ab z) := by unfold mx; split <;> omega
  have e2 : 0 ≤ mx (ab v) (ab w) := by unfold mx; split <;> omega
  unfold rowOf half cost
  simp
  omega
theorem ab_par (i : Int) : (ab i - i) % 2 = 0 := by unfold ab; split <;> omega
theorem rowOf_sm {a b X Y u v w z : Int} (d : Dec a b X Y u v w z) : sm (rowOf a b u v w z) = (X, Y) := by
  have := ab_nn u; have := ab_nn z; have := ab_nn v; have := ab_nn w
  have := ab_par u; have := ab_par z; have := ab_par v; have := ab_par w
  have pu := d.pu
  have pv := d.pv
  unfold rowOf
  rw [sm_app, half_sm (by unfold mx; split <;> omega) (by unfold mx; split <;> omega) (by unfold mx; split <;> omega) (by unfold mx; split <;> omega) (by unfold mx; split <;> omega),
    half_sm (by unfold mx; split <;> omega) (by unfold mx; split <;> omega) (by unfold mx; split <;> omega) (by unfold mx; split <;> omega) (by unfold mx; split <;> omega), ← d.eX, ← d.eY]
  dsimp only
  rw [Int.add_comm (b * z)]
/-- there is a row with the fewest leaps -/
theorem Few.row {a b : Int} {p : Sq} {c u v w z : Int} (f : Few a b p c u v w z) : (∀ q ∈ rowOf a b u v w z, q ∈ l8 a b) ∧ sm (rowOf a b u v w z) = p ∧ ((rowOf a b u v w z).length : Int) = c :=
  ⟨rowOf_mem, rowOf_sm f.dec, by rw [rowOf_len, f.eq]⟩
end Lm
namespace Lm
open Bd
theorem Few.part1 {a b : Int} {p : Sq} {c u v w z c1 u1 v1 w1 z1 : Int} {l1 l2 : List Sq} (f : Few a b p c u v w z) (h2 : ∀ q ∈ l2, q ∈ l8 a b) (h1 : ∀ q ∈ l1, q ∈ l8 a b) (hs : sm (l1 ++ l2) = p) (hc : ((l1 ++ l2).length : Int) = c) (f1 : Few a b (sm l1) c1 u1 v1 w1 z1) : c1 = l1.length := by
  have a1 := f1.le_row h1 rfl
  obtain ⟨r1, r2, r3⟩ := f1.row
  have a2 := f.le_row (l := rowOf a b u1 v1 w1 z1 ++ l2) (fun q hq => by
    rcases List.mem_append.mp hq with hq | hq
    · exact r1 q hq
    · exact h2 q hq) (by rw [sm_app, r2, ← sm_app, hs])
  simp only [List.length_append] at a2 hc
  omega
theorem Few.part2 {a b : Int} {p : Sq} {c u v w z c1 u1 v1 w1 z1 : Int} {l1 l2 : List Sq} (f : Few a b p c u v w z) (h2 : ∀ q ∈ l2, q ∈ l8 a b) (h1 : ∀ q ∈ l1, q ∈ l8 a b) (hs : sm (l1 ++ l2) = p) (hc : ((l1 ++ l2).length : Int) = c) (f1 : Few a b (sm l2) c1 u1 v1 w1 z1) : c1 = l2.length := by
  have a1 := f1.le_row h2 rfl
  obtain ⟨r1, r2, r3⟩ := f1.row
  have a2 := f.le_row (l := l1 ++ rowOf a b u1 v1 w1 z1) (fun q hq => by
    rcases List.mem_append.mp hq with hq | hq
    · exact h1 q hq
    · exact r1 q hq) (by rw [sm_app, r2, ← sm_app, hs])
  simp only [List.length_append] at a2 hc
  omega
end Lm

namespace Lm
open Bd
def vadd (p q : Sq) : Sq := (p.1 + q.1, p.2 + q.2)
/-- so many leaps lead there -/
def R (a b : Int) (i : Nat) (p : Sq) : Prop := ∃ l : List Sq, (∀ q ∈ l, q ∈ l8 a b) ∧ l.length = i ∧ sm l = p
/-- these are the fewest -/
def Di (a b : Int) (i : Nat) (p : Sq) : Prop := R a b i p ∧ ∀ k, k < i → ¬ R a b k p
section
variable {a b : Int} {p q : Sq} {i k : Nat}
theorem R.zero : R a b 0 (0, 0) := ⟨[], by simp, rfl, rfl⟩
theorem R.of_zero (h : R a b 0 p) : p = (0, 0) := by
  obtain ⟨l, _, h2, rfl⟩ := h
  rw [List.length_eq_zero_iff.mp h2]; rfl
theorem R.step (h : R a b i p) (hq : q ∈ l8 a b) : R a b (i + 1) (vadd p q) := by
  obtain ⟨l, h1, h2, rfl⟩ := h
  refine ⟨q :: l, fun x hx => ?_, by simp [h2], ?_⟩
  · rcases List.mem_cons.mp hx with rfl | hx
    · exact hq
    · exact h1 x hx
  · rw [sm_cons]; unfold vadd; ext <;> dsimp only <;> omega
theorem R.unstep (h : R a b (i + 1) p) : ∃ r s, R a b i r ∧ s ∈ l8 a b ∧ p = vadd r s := by
  obtain ⟨l, h1, h2, rfl⟩ := h
  match l, h1, h2 with
  | s :: l, h1, h2 =>
    refine ⟨sm l, s, ⟨l, fun x hx => h1 x (by simp [hx]), by simpa using h2, rfl⟩, h1 s (by simp), ?_⟩
    rw [sm_cons]; unfold vadd; ext <;> dsimp only <;> omega
theorem R.few {c u v w z : Int} (h : R a b i p) (f : Few a b p c u v w z) : c ≤ i := by
  obtain ⟨l, h1, h2, h3⟩ := h
  have := f.le_row h1 h3
  omega
theorem Few.R {c u v w z : Int} (f : Few a b p c u v w z) : R a b c.toNat p ∧ 0 ≤ c := by
  obtain ⟨h1, h2, h3⟩ := f.row
  exact ⟨⟨_, h1, by omega, h2⟩, by omega⟩
theorem Di.few {c u v w z : Int} (h : Di a b i p) (f : Few a b p c u v w z) : c = i := by
  have h1 := h.1.few f
  obtain ⟨h2, h3⟩ := f.R
  by_cases e : c.toNat < i
  · exact absurd h2 (h.2 _ e)
  · omega
theorem R.map (g : Sq → Sq) (g0 : g (0, 0) = (0, 0)) (ga : ∀ x y, g (vadd x y) = vadd (g x) (g y)) (gl : ∀ q ∈ l8 a b, g q ∈ l8 a b) : ∀ {i : Nat} {p : Sq}, R a b i p → R a b i (g p)
  | 0, p, h => by rw [h.of_zero, g0]; exact R.zero
  | i + 1, p, h => by
    obtain ⟨r, s, h1, h2, rfl⟩ := h.unstep
    rw [ga]
    exact (R.map g g0 ga gl h1).step (gl s h2)
theorem R.swap (h : R a b i p) : R a b i (p.2, p.1) := h.map (fun q => (q.2, q.1)) rfl (fun _ _ => rfl) fun q hq => by
  simp only [l8, List.mem_cons, List.not_mem_nil, or_false] at hq ⊢
  rcases hq with rfl | rfl | rfl | rfl | rfl | rfl | rfl | rfl <;> simp
theorem R.neg (h : R a b i p) : R a b i (0 - p.1, p.2) := h.map (fun q => (0 - q.1, q.2)) (by simp) (fun x y => by unfold vadd; ext <;> dsimp only; omega) fun q hq => by
  simp only [l8, List.mem_cons, List.not_mem_nil, or_false] at hq ⊢
  rcases hq with rfl | rfl | rfl | rfl | rfl | rfl | rfl | rfl <;> simp
theorem Di.swap (h : Di a b i p) : Di a b i (p.2, p.1) := ⟨h.1.swap, fun k hk c => h.2 k hk c.swap⟩
theorem Di.neg (h : Di a b i p) : Di a b i (0 - p.1, p.2) := ⟨h.1.neg, fun k hk c => h.2 k hk (by
  have := c.neg
  have e : ((0 - (0 - p.1), p.2) : Sq) = p := by ext <;> dsimp only; omega
  dsimp only at this
  rw [e] at this
  exact this)⟩
theorem R.bound (hb : 0 ≤ b ∧ b ≤ a) : ∀ {i : Nat} {p : Sq}, R a b i p → ab p.1 ≤ i * a ∧ ab p.2 ≤ i * a ∧ ab p.1 + ab p.2 ≤ i * (a + b)
  | 0, p, h => by rw [h.of_zero]; simp [ab]
  | i + 1, p, h => by
    obtain ⟨r, s, h1, h2, rfl⟩ := h.unstep
    obtain ⟨i1, i2, i3⟩ := R.bound hb h1
    have t : ∀ i j : Int, ab (i + j) ≤ ab i + ab j := fun i j => by unfold ab; split <;> split <;> split <;> omega
    have t1 := t r.1 s.1
    have t2 := t r.2 s.2
    have v : ab s.1 ≤ a ∧ ab s.2 ≤ a ∧ ab s.1 + ab s.2 = a + b := by
      simp only [l8, List.mem_cons, List.not_mem_nil, or_false] at h2
      unfold ab
      rcases h2 with rfl | rfl | rfl | rfl | rfl | rfl | rfl | rfl <;> dsimp only <;> (repeat' split) <;> omega
    have e1 : (((i + 1 : Nat)) : Int) * a = i * a + a := by rw [Int.natCast_add, Int.add_mul]; simp
    have e2 : (((i + 1 : Nat)) : Int) * (a + b) = i * (a + b) + a + b := by rw [Int.natCast_add, Int.add_mul]; simp; omega
    rw [e1, e2]
    unfold vadd
    dsimp only
    omega
theorem Di.far (ha : 1 ≤ a) (hb : 0 ≤ b ∧ b ≤ a) (i : Nat) : Di a b i ((i : Int) * a, (i : Int) * b) := by
  refine ⟨?_, fun k hk c => ?_⟩
  · induction i with
    | zero => simpa using R.zero
    | succ i ih =>
      have := ih.step (q := (a, b)) (by simp [l8])
      unfold vadd at this
      have e : ((((i + 1 : Nat) : Int) * a, ((i + 1 : Nat) : Int) * b) : Sq) = ((i : Int) * a + a, (i : Int) * b + b) := by
        rw [Int.natCast_add, Int.add_mul, Int.add_mul]; simp
      rw [e]; exact this
  · have := (c.bound hb).1
    dsimp only at this
    have h1 : (k : Int) * a + 1 * a ≤ (i : Int) * a := by
      rw [← Int.add_mul]
      exact Int.mul_le_mul_of_nonneg_right (by omega) (by omega)
    have h2 : (i : Int) * a ≤ ab ((i : Int) * a) := by unfold ab; split <;> omega
    omega
def rd (k P n : Int) : Int := (2 * k * P + n) / (2 * n)
theorem rd_b {k P n : Int} (hn : 1 ≤ n) : 2 * n * rd k P n ≤ 2 * k * P + n ∧ 2 * k * P + n < 2 * n * rd k P n + 2 * n := by
  have h1 := Int.mul_ediv_self_le (x := 2 * k * P + n) (k := 2 * n) (by omega)
  have h2 := Int.lt_mul_ediv_self_add (x := 2 * k * P + n) (k := 2 * n) (by omega)
  exact ⟨h1, h2⟩
theorem rd_zero {P n : Int} (hn : 0 ≤ n) : rd 0 P n = 0 := by
  unfold rd
  by_cases h : n = 0
  · subst h; simp
  · have : 2 * 0 * P + n = n := by simp
    rw [this]
    exact Int.ediv_eq_zero_of_lt hn (by omega)
theorem rd_end {P n : Int} (hn : 0 ≤ n) (hP : 0 ≤ P ∧ P ≤ n) : rd n P n = P := by
  by_cases h : n = 0
  · subst h; unfold rd; simp; omega
  · obtain ⟨h1, h2⟩ := rd_b (k := n) (P := P) (n := n) (by omega)
    generalize rd n P n = r at *
    have e1 : 2 * n * r ≤ 2 * n * P + n := h1
    have e2 : 2 * n * P + n < 2 * n * r + 2 * n := h2
    have l1 : r ≤ P := by
      refine Decidable.byContradiction fun c => ?_
      have : 2 * n * (P + 1) ≤ 2 * n * r := Int.mul_le_mul_of_nonneg_left (by omega) (by omega)
      rw [Int.mul_add] at this
      omega
    have l2 : P ≤ r := by
      refine Decidable.byContradiction fun c => ?_
      have : 2 * n * (r + 1) ≤ 2 * n * P := Int.mul_le_mul_of_nonneg_left (by omega) (by omega)
      rw [Int.mul_add] at this
      omega
    omega
theorem rd_step {k P n : Int} (hn : 0 ≤ n) (hP : 0 ≤ P ∧ P ≤ n) : rd (k + 1) P n = rd k P n ∨ rd (k + 1) P n = rd k P n + 1 := by
  by_cases h : n = 0
  · subst h; unfold rd; simp
  · obtain ⟨h1, h2⟩ := rd_b (k := k) (P := P) (n := n) (by omega)
    obtain ⟨h3, h4⟩ := rd_b (k := k + 1) (P := P) (n := n) (by omega)
    have e : 2 * (k + 1) * P = 2 * k * P + 2 * P := by grind
    rw [e] at h3 h4
    generalize rd k P n = r at *
    generalize rd (k + 1) P n = r' at *
    generalize 2 * k * P = x at *
    have l1 : r ≤ r' := by
      refine Decidable.byContradiction fun c => ?_
      have : 2 * n * (r' + 1) ≤ 2 * n * r := Int.mul_le_mul_of_nonneg_left (by omega) (by omega)
      rw [Int.mul_add] at this
      omega
    have l2 : r' ≤ r + 1 := by
      refine Decidable.byContradiction fun c => ?_
      have : 2 * n * (r + 2) ≤ 2 * n * r' := Int.mul_le_mul_of_nonneg_left (by omega) (by omega)
      rw [Int.mul_add] at this
      omega
    omega
/-- signs, one after the other, as even as can be -/
def ss (n u k : Int) : Int := 2 * rd k ((n + u) / 2) n - k
structure Sg (n u : Int) : Prop where
  n0 : 0 ≤ n
  un : ab u ≤ n
  par : (n - u) % 2 = 0
theorem Sg.P {n u : Int} (h : Sg n u) : 0 ≤ (n + u) / 2 ∧ (n + u) / 2 ≤ n ∧ 2 * ((n + u) / 2) = n + u := by
  obtain ⟨h1, h2, h3⟩ := h
  unfold ab at h2
  split at h2 <;> omega
theorem ss_zero {n u : Int} (h : Sg n u) : ss n u 0 = 0 := by unfold ss; rw [rd_zero h.n0]; rfl
theorem ss_end {n u : Int} (h : Sg n u) : ss n u n = u := by
  obtain ⟨p1, p2, p3⟩ := h.P
  unfold ss; rw [rd_end h.n0 ⟨p1, p2⟩]; omega
theorem ss_step {n u k : Int} (h : Sg n u) : ss n u (k + 1) = ss n u k + 1 ∨ ss n u (k + 1) = ss n u k - 1 := by
  obtain ⟨p1, p2, p3⟩ := h.P
  unfold ss
  rcases rd_step (k := k) h.n0 ⟨p1, p2⟩ with e | e <;> rw [e] <;> omega
theorem ss_dev {n u k : Int} (h : Sg n u) (hn : 1 ≤ n) : ∃ e, n * ss n u k = k * u + e ∧ -n ≤ e ∧ e ≤ n := by
  obtain ⟨p1, p2, p3⟩ := h.P
  obtain ⟨h1, h2⟩ := rd_b (k := k) (P := (n + u) / 2) (n := n) hn
  have e1 : 2 * k * ((n + u) / 2) = k * n + k * u := by
    have : 2 * k * ((n + u) / 2) = k * (2 * ((n + u) / 2)) := by grind
    rw [this, p3, Int.mul_add]
  rw [e1] at h1 h2
  refine ⟨n * ss n u k - k * u, by omega, ?_⟩
  unfold ss
  have e2 : n * (2 * rd k ((n + u) / 2) n - k) = 2 * n * rd k ((n + u) / 2) n - k * n := by grind
  rw [e2]
  generalize 2 * n * rd k ((n + u) / 2) n = x at *
  generalize k * n = y at *
  generalize k * u = z at *
  omega
theorem dev {n N t k u s d e : Int} (hn : 1 ≤ n) (hN : 0 ≤ N) (hu : -n ≤ u ∧ u ≤ n) (h1 : n * s = k * u + e) (he : -n ≤ e ∧ e ≤ n) (h2 : 2 * N * k = 2 * t * n + d) (hd : -N ≤ d ∧ d ≤ N) : -(3 * N) ≤ 2 * N * s - 2 * t * u ∧ 2 * N * s - 2 * t * u ≤ 3 * N := by
  have key : n * (2 * N * s - 2 * t * u) = u * d + 2 * N * e := by grind
  have b1 : -(n * N) ≤ u * d ∧ u * d ≤ n * N := by
    have : u.natAbs * d.natAbs ≤ n.natAbs * N.natAbs := Nat.mul_le_mul (by omega) (by omega)
    rw [← Int.natAbs_mul, ← Int.natAbs_mul] at this
    have : 0 ≤ n * N := Int.mul_nonneg (by omega) hN
    omega
  have b2 : -(2 * (n * N)) ≤ 2 * N * e ∧ 2 * N * e ≤ 2 * (n * N) := by
    have : N.natAbs * e.natAbs ≤ N.natAbs * n.natAbs := Nat.mul_le_mul (by omega) (by omega)
    rw [← Int.natAbs_mul, ← Int.natAbs_mul] at this
    have : 0 ≤ N * n := Int.mul_nonneg hN (by omega)
    have : N * n = n * N := Int.mul_comm _ _
    have : 2 * N * e = 2 * (N * e) := Int.mul_assoc _ _ _
    omega
  generalize 2 * N * s - 2 * t * u = x at *
  constructor
  · refine Decidable.byContradiction fun c => ?_
    have : n * x ≤ n * (-(3 * N) - 1) := Int.mul_le_mul_of_nonneg_left (by omega) (by omega)
    have e3 : n * (-(3 * N) - 1) = -(3 * (n * N)) - n := by grind
    omega
  · refine Decidable.byContradiction fun c => ?_
    have : n * (3 * N + 1) ≤ n * x := Int.mul_le_mul_of_nonneg_left (by omega) (by omega)
    have e3 : n * (3 * N + 1) = 3 * (n * N) + n := by grind
    omega
end
theorem dev0 {n N t k u : Int} (g : Sg n u) (hN : 1 ≤ N) {d : Int} (h2 : 2 * N * k = 2 * t * n + d) (hd : -N ≤ d ∧ d ≤ N) : -(3 * N) ≤ 2 * N * ss n u k - 2 * t * u ∧ 2 * N * ss n u k - 2 * t * u ≤ 3 * N := by
  have n0 := g.n0
  have un := g.un
  have hu : -n ≤ u ∧ u ≤ n := by unfold ab at un; split at un <;> omega
  by_cases h : n = 0
  · subst h
    have u0 : u = 0 := by omega
    subst u0
    have k0 : k = 0 := by
      rw [Int.mul_zero, Int.zero_add] at h2
      have l1 : ¬ 1 ≤ k := fun c => by
        have : 2 * N * 1 ≤ 2 * N * k := Int.mul_le_mul_of_nonneg_left c (by omega)
        omega
      have l2 : ¬ k ≤ -1 := fun c => by
        have : 2 * N * k ≤ 2 * N * (-1) := Int.mul_le_mul_of_nonneg_left c (by omega)
        omega
      omega
    subst k0
    rw [ss_zero g]
    simp; omega
  · obtain ⟨e, e1, e2, e3⟩ := ss_dev (k := k) g (by omega)
    exact dev (by omega) (by omega) hu e1 ⟨e2, e3⟩ h2 hd
def k1 (n m : Int) (t : Int) : Int := rd t n (n + m)
def pl (a b n m u v w z : Int) (t : Int) : Sq := (a * ss n u (k1 n m t) + b * ss m v (t - k1 n m t), a * ss m w (t - k1 n m t) + b * ss n z (k1 n m t))
theorem pl_step {a b n m u v w z t : Int} (hu : Sg n u) (hz : Sg n z) (hv : Sg m v) (hw : Sg m w) : ∃ s ∈ l8 a b, pl a b n m u v w z (t + 1) = vadd (pl a b n m u v w z t) s := by
  have n0 := hu.n0
  have m0 := hv.n0
  have hs : ∀ e f : Int, (e = 1 ∨ e = -1) → (f = 1 ∨ f = -1) → (a * e, b * f) ∈ l8 a b ∧ (b * e, a * f) ∈ l8 a b := fun e f he hf => by
    rcases he with rfl | rfl <;> rcases hf with rfl | rfl <;> simp [l8]
  have st : ∀ {n u k : Int}, Sg n u → ∃ e, (e = 1 ∨ e = -1) ∧ ss n u (k + 1) = ss n u k + e := fun g => by
    rcases ss_step g with e | e
    · exact ⟨1, .inl rfl, e⟩
    · exact ⟨-1, .inr rfl, by rw [e]; omega⟩
  unfold pl k1 vadd
  rcases rd_step (k := t) (P := n) (n := n + m) (by omega) ⟨n0, by omega⟩ with e | e <;> rw [e]
  · generalize rd t n (n + m) = k
    rw [show t + 1 - k = t - k + 1 by omega]
    obtain ⟨e1, h1, q1⟩ := st (k := t - k) hv
    obtain ⟨e2, h2, q2⟩ := st (k := t - k) hw
    refine ⟨_, (hs e1 e2 h1 h2).2, ?_⟩
    rw [q1, q2]; ext <;> dsimp only <;> grind
  · generalize rd t n (n + m) = k
    rw [show t + 1 - (k + 1) = t - k by omega]
    obtain ⟨e1, h1, q1⟩ := st (k := k) hu
    obtain ⟨e2, h2, q2⟩ := st (k := k) hz
    refine ⟨_, (hs e1 e2 h1 h2).1, ?_⟩
    rw [q1, q2]; ext <;> dsimp only <;> grind
theorem pl_zero {a b n m u v w z : Int} (hu : Sg n u) (hz : Sg n z) (hv : Sg m v) (hw : Sg m w) : pl a b n m u v w z 0 = (0, 0) := by
  have n0 := hu.n0
  have m0 := hv.n0
  unfold pl k1
  rw [rd_zero (by omega), Int.sub_zero, ss_zero hu, ss_zero hz, ss_zero hv, ss_zero hw]
  simp
theorem pl_end {a b n m u v w z : Int} (hu : Sg n u) (hz : Sg n z) (hv : Sg m v) (hw : Sg m w) : pl a b n m u v w z (n + m) = (a * u + b * v, a * w + b * z) := by
  have n0 := hu.n0
  have m0 := hv.n0
  unfold pl k1
  rw [rd_end (by omega) ⟨n0, by omega⟩, show n + m - n = m by omega, ss_end hu, ss_end hz, ss_end hv, ss_end hw]
theorem near_x {a b N t X s1 s2 u v : Int} (hN : 1 ≤ N) (ha : 0 ≤ b ∧ b ≤ a) (ht : 0 ≤ t ∧ t ≤ N) (hX : a * u + b * v = X) (h1 : -(3 * N) ≤ 2 * N * s1 - 2 * t * u ∧ 2 * N * s1 - 2 * t * u ≤ 3 * N) (h2 : -(3 * N) ≤ 2 * N * s2 - 2 * t * v ∧ 2 * N * s2 - 2 * t * v ≤ 3 * N) : ab (a * s1 + b * s2) ≤ ab X + 3 * a := by
  have key : 2 * N * (a * s1 + b * s2) = 2 * t * X + a * (2 * N * s1 - 2 * t * u) + b * (2 * N * s2 - 2 * t * v) := by rw [← hX]; grind
  have e1 : -(a * (3 * N)) ≤ a * (2 * N * s1 - 2 * t * u) ∧ a * (2 * N * s1 - 2 * t * u) ≤ a * (3 * N) := by
    constructor
    · rw [← Int.mul_neg]; exact Int.mul_le_mul_of_nonneg_left h1.1 (by omega)
    · exact Int.mul_le_mul_of_nonneg_left h1.2 (by omega)
  have e2 : -(a * (3 * N)) ≤ b * (2 * N * s2 - 2 * t * v) ∧ b * (2 * N * s2 - 2 * t * v) ≤ a * (3 * N) := by
    have z : b * (3 * N) ≤ a * (3 * N) := Int.mul_le_mul_of_nonneg_right ha.2 (by omega)
    constructor
    · have : b * (-(3 * N)) ≤ b * (2 * N * s2 - 2 * t * v) := Int.mul_le_mul_of_nonneg_left h2.1 ha.1
      rw [Int.mul_neg] at this; omega
    · have : b * (2 * N * s2 - 2 * t * v) ≤ b * (3 * N) := Int.mul_le_mul_of_nonneg_left h2.2 ha.1
      omega
  have e3 : -(2 * (N * ab X)) ≤ 2 * t * X ∧ 2 * t * X ≤ 2 * (N * ab X) := by
    have : t.natAbs * X.natAbs ≤ N.natAbs * X.natAbs := Nat.mul_le_mul_right _ (by omega)
    rw [← Int.natAbs_mul] at this
    have q1 : 2 * t * X = 2 * (t * X) := Int.mul_assoc _ _ _
    have q2 : N * ab X = ((N.natAbs * X.natAbs : Nat) : Int) := by
      rw [Int.natCast_mul, Int.natAbs_of_nonneg (show 0 ≤ N by omega)]
      congr 1
      unfold ab; split <;> omega
    omega
  rw [show a * (3 * N) = 3 * (N * a) by grind] at e1 e2
  generalize a * s1 + b * s2 = x at *
  generalize a * (2 * N * s1 - 2 * t * u) = y1 at *
  generalize b * (2 * N * s2 - 2 * t * v) = y2 at *
  generalize 2 * t * X = y3 at *
  have l1 : x ≤ ab X + 3 * a := by
    refine Decidable.byContradiction fun c => ?_
    have : N * (ab X + 3 * a + 1) ≤ N * x := Int.mul_le_mul_of_nonneg_left (by omega) (by omega)
    have q : N * (ab X + 3 * a + 1) = N * ab X + 3 * (N * a) + N := by grind
    have q3 : 2 * N * x = 2 * (N * x) := Int.mul_assoc _ _ _
    omega
  have l2 : -x ≤ ab X + 3 * a := by
    refine Decidable.byContradiction fun c => ?_
    have : N * (ab X + 3 * a + 1) ≤ N * (-x) := Int.mul_le_mul_of_nonneg_left (by omega) (by omega)
    have q : N * (ab X + 3 * a + 1) = N * ab X + 3 * (N * a) + N := by grind
    have q3 : 2 * N * x = 2 * (N * x) := Int.mul_assoc _ _ _
    rw [Int.mul_neg] at this
    omega
  unfold ab at *; split <;> omega
/-- so many leaps lead there, within a box -/
def RB (a b m : Int) : Nat → Sq → Prop
  | 0, p => p = (0, 0)
  | i + 1, p => ∃ r s, RB a b m i r ∧ s ∈ l8 a b ∧ p = vadd r s ∧ ab p.1 ≤ m ∧ ab p.2 ≤ m
theorem RB.R {a b m : Int} : ∀ {i : Nat} {p : Sq}, RB a b m i p → R a b i p
  | 0, p, h => by rw [show p = (0, 0) from h]; exact Lm.R.zero
  | i + 1, p, ⟨r, s, h1, h2, h3, _⟩ => by rw [h3]; exact (RB.R h1).step h2
theorem box_row {a b m q : Int} {p : Sq} {c u v w z : Int} (hb : 0 ≤ b ∧ b ≤ a) (f : Few a b p c u v w z) (h1 : ab p.1 ≤ q) (h2 : ab p.2 ≤ q) (hm : q + 3 * a ≤ m) : RB a b m c.toNat p := by
  have d := f.dec
  have pu := d.pu
  have pv := d.pv
  have := ab_nn u; have := ab_nn z; have := ab_nn v; have := ab_nn w
  have := ab_par u; have := ab_par z; have := ab_par v; have := ab_par w
  obtain ⟨n, hn⟩ : ∃ n, n = mx (ab u) (ab z) := ⟨_, rfl⟩
  obtain ⟨k, hk⟩ : ∃ k, k = mx (ab v) (ab w) := ⟨_, rfl⟩
  have gu : Sg n u := ⟨by rw [hn]; unfold mx; split <;> omega, by rw [hn]; unfold mx; split <;> omega, by rw [hn]; unfold mx; split <;> omega⟩
  have gz : Sg n z := ⟨by rw [hn]; unfold mx; split <;> omega, by rw [hn]; unfold mx; split <;> omega, by rw [hn]; unfold mx; split <;> omega⟩
  have gv : Sg k v := ⟨by rw [hk]; unfold mx; split <;> omega, by rw [hk]; unfold mx; split <;> omega, by rw [hk]; unfold mx; split <;> omega⟩
  have gw : Sg k w := ⟨by rw [hk]; unfold mx; split <;> omega, by rw [hk]; unfold mx; split <;> omega, by rw [hk]; unfold mx; split <;> omega⟩
  have ec : c = n + k := by rw [f.eq, hn, hk]; rfl
  have n0 := gu.n0
  have k0 := gv.n0
  have key : ∀ t : Nat, (t : Int) ≤ n + k → RB a b m t (pl a b n k u v w z (t : Int)) := by
    intro t
    induction t with
    | zero => intro _; exact pl_zero gu gz gv gw
    | succ t ih =>
      intro ht
      obtain ⟨s, hs, e⟩ := pl_step (a := a) (b := b) (t := (t : Int)) gu gz gv gw
      have e' : pl a b n k u v w z ((t + 1 : Nat) : Int) = vadd (pl a b n k u v w z (t : Int)) s := e
      refine ⟨_, s, ih (by omega), hs, e', ?_, ?_⟩
      · have hN : 1 ≤ n + k := by omega
        obtain ⟨r1, r2⟩ := rd_b (k := ((t + 1 : Nat) : Int)) (P := n) (n := n + k) hN
        generalize hT : ((t + 1 : Nat) : Int) = T at *
        have hd : ∃ d, 2 * (n + k) * rd T n (n + k) = 2 * T * n + d ∧ -(n + k) ≤ d ∧ d ≤ n + k := ⟨2 * (n + k) * rd T n (n + k) - 2 * T * n, by omega, by omega, by omega⟩
        obtain ⟨d0, d1, d2, d3⟩ := hd
        have d1' : 2 * (n + k) * (T - rd T n (n + k)) = 2 * T * k + (-d0) := by grind
        have x := near_x (a := a) (b := b) (N := n + k) (t := T) (X := p.1) hN hb ⟨by omega, by omega⟩ d.eX (dev0 gu hN d1 ⟨d2, d3⟩) (dev0 gv hN d1' ⟨by omega, by omega⟩)
        show ab (a * ss n u (rd T n (n + k)) + b * ss k v (T - rd T n (n + k))) ≤ m
        omega
      · have hN : 1 ≤ n + k := by omega
        obtain ⟨r1, r2⟩ := rd_b (k := ((t + 1 : Nat) : Int)) (P := n) (n := n + k) hN
        generalize hT : ((t + 1 : Nat) : Int) = T at *
        have hd : ∃ d, 2 * (n + k) * rd T n (n + k) = 2 * T * n + d ∧ -(n + k) ≤ d ∧ d ≤ n + k := ⟨2 * (n + k) * rd T n (n + k) - 2 * T * n, by omega, by omega, by omega⟩
        obtain ⟨d0, d1, d2, d3⟩ := hd
        have d1' : 2 * (n + k) * (T - rd T n (n + k)) = 2 * T * k + (-d0) := by grind
        have x := near_x (a := a) (b := b) (N := n + k) (t := T) (X := p.2) hN hb ⟨by omega, by omega⟩ d.eY (dev0 gw hN d1' ⟨by omega, by omega⟩) (dev0 gz hN d1 ⟨d2, d3⟩)
        show ab (a * ss k w (T - rd T n (n + k)) + b * ss n z (rd T n (n + k))) ≤ m
        omega
  have last := key c.toNat (by omega)
  have hc : ((c.toNat : Nat) : Int) = n + k := by omega
  rw [hc, pl_end gu gz gv gw, d.eX, d.eY] at last
  exact last
def cdiv (m d : Int) : Int := -(-m / d)
theorem cdiv_lt {m d k : Int} (hd : 0 < d) : k < cdiv m d ↔ k * d < m := by
  unfold cdiv
  have h1 : k < -(-m / d) ↔ -m / d < -k := by omega
  rw [h1, Int.ediv_lt_iff_lt_mul hd, Int.neg_mul]
  omega
def mxy (p : Sq) : Int := mx (ab p.1) (ab p.2)
def sxy (p : Sq) : Int := ab p.1 + ab p.2
def fl (a b : Int) (p : Sq) : Int := mx (cdiv (mxy p) a) (cdiv (sxy p) (a + b))
theorem lt_fl {a b : Int} {p : Sq} {k : Int} (ha : 1 ≤ a) (hb : 0 ≤ b) : k < fl a b p ↔ k * a < mxy p ∨ k * (a + b) < sxy p := by
  rw [← cdiv_lt (show (0 : Int) < a by omega), ← cdiv_lt (show (0 : Int) < a + b by omega)]
  unfold fl mx
  split <;> omega
theorem R.fl {a b : Int} {p : Sq} {i : Nat} (ha : 1 ≤ a) (hb : 0 ≤ b ∧ b ≤ a) (h : R a b i p) : Lm.fl a b p ≤ i := by
  obtain ⟨h1, h2, h3⟩ := h.bound hb
  refine Decidable.byContradiction fun c => ?_
  have := (lt_fl (p := p) (k := (i : Int)) ha hb.1).mp (by omega)
  have : mxy p ≤ i * a := by unfold mxy mx; split <;> omega
  unfold sxy at *
  omega
theorem fl_nn {a b : Int} {p : Sq} (ha : 1 ≤ a) (hb : 0 ≤ b) : 0 ≤ fl a b p := by
  refine Decidable.byContradiction fun c => ?_
  have := (lt_fl (p := p) (k := -1) ha hb).mpr (.inl (by
    have : 0 ≤ mxy p := by have := ab_nn p.1; have := ab_nn p.2; unfold mxy mx; split <;> omega
    omega))
  omega
def Can (a b X f l : Int) : Prop := ∃ u v, a * u + b * v = X ∧ ab u ≤ f ∧ ab v ≤ l ∧ (u - f) % 2 = 0 ∧ (v - l) % 2 = 0
theorem Few.can {a b : Int} {p : Sq} {c u v w z f l : Int} (h : Few a b p c u v w z) (h1 : Can a b p.1 f l) (h2 : Can a b p.2 l f) : c ≤ f + l := by
  obtain ⟨u', v', e1, a1, a2, a3, a4⟩ := h1
  obtain ⟨w', z', e2, b1, b2, b3, b4⟩ := h2
  have := h.le u' v' w' z' ⟨e1, e2, by omega, by omega⟩
  have x1 : mx (ab u') (ab z') ≤ f := mx_le.mpr ⟨a1, b2⟩
  have x2 : mx (ab v') (ab w') ≤ l := mx_le.mpr ⟨a2, b1⟩
  unfold cost at this
  omega
theorem Few.some {a b : Int} {p : Sq} {c u v w z : Int} (h : Few a b p c u v w z) : ∃ f, 0 ≤ f ∧ f ≤ c ∧ Can a b p.1 f (c - f) ∧ Can a b p.2 (c - f) f := by
  have d := h.dec
  have pu := d.pu
  have pv := d.pv
  have := ab_nn u; have := ab_nn z; have := ab_nn v; have := ab_nn w
  have := ab_par u; have := ab_par z; have := ab_par v; have := ab_par w
  have ec : c - mx (ab u) (ab z) = mx (ab v) (ab w) := by rw [h.eq]; unfold cost; omega
  refine ⟨mx (ab u) (ab z), by unfold mx; split <;> omega, ?_, ⟨u, v, d.eX, ?_, ?_, ?_, ?_⟩, ⟨w, z, d.eY, ?_, ?_, ?_, ?_⟩⟩
  · rw [h.eq]; unfold cost mx; (repeat' split) <;> omega
  all_goals (try rw [ec]); unfold mx; (repeat' split) <;> omega
theorem few10 {p : Sq} {c u v w z : Int} (h : Few 1 0 p c u v w z) : c = ab p.1 + ab p.2 := by
  have d := h.dec
  have e1 : u = p.1 := by have := d.eX; omega
  have e2 : w = p.2 := by have := d.eY; omega
  have l1 := h.le p.1 p.2 p.2 p.1 ⟨by omega, by omega, by omega, by omega⟩
  have x1 : cost p.1 p.2 p.2 p.1 = ab p.1 + ab p.2 := by unfold cost mx; simp
  rw [x1] at l1
  have := h.eq
  subst e1 e2
  unfold cost mx at this
  split at this <;> split at this <;> omega
theorem few11 {p : Sq} {c u v w z : Int} (h : Few 1 1 p c u v w z) : c = mx (ab p.1) (ab p.2) := by
  have d := h.dec
  have e1 := d.eX
  have e2 := d.eY
  have pu := d.pu
  have pv := d.pv
  have l1 := h.le p.1 0 0 p.2 ⟨by omega, by omega, by omega, by omega⟩
  have x1 : cost p.1 0 0 p.2 = mx (ab p.1) (ab p.2) := by unfold cost; simp [mx, ab]
  rw [x1] at l1
  have := h.eq
  have t1 : ab p.1 ≤ ab u + ab v := by unfold ab; (repeat' split) <;> omega
  have t2 : ab p.2 ≤ ab w + ab z := by unfold ab; (repeat' split) <;> omega
  have : mx (ab p.1) (ab p.2) ≤ cost u v w z := by
    unfold cost mx; (repeat' split) <;> omega
  omega
/-- the leaper (2, 1) -/
def kn0 (x y : Nat) : Nat := max ((x + 1) / 2) ((x + y + 2) / 3)
def kn (x y : Nat) : Nat := if x = 1 ∧ y = 0 then 3 else if x = 2 ∧ y = 2 then 4 else kn0 x y + (kn0 x y + x + y) % 2
def can1 (X p q : Nat) : Bool := decide (X ≤ 2 * p + q) && (decide ((2 * p + q - X) % 2 = 0) && (decide (1 ≤ q) || decide ((2 * p + q - X) % 4 = 0)))
theorem can1_ok {X p q : Nat} (h : can1 X p q = true) : Can 2 1 X p q := by
  unfold can1 at h
  simp only [Bool.and_eq_true, Bool.or_eq_true, decide_eq_true_eq] at h
  obtain ⟨h1, h2, h3⟩ := h
  obtain ⟨k, hk⟩ : ∃ k, 2 * p + q - X = 2 * k := ⟨(2 * p + q - X) / 2, by omega⟩
  -- 2 i + j = k
  have key : ∃ i j : Nat, 2 * i + j = k ∧ i ≤ p ∧ j ≤ q := by
    rcases (show 1 ≤ q ∨ (q = 0 ∧ (2 * p + q - X) % 4 = 0) by omega) with h3 | h3
    · by_cases c : k / 2 ≤ p
      · by_cases c2 : k % 2 ≤ q
        · exact ⟨k / 2, k % 2, by omega, c, c2⟩
        · omega
      · exact ⟨p, k - 2 * p, by omega, by omega, by omega⟩
    · exact ⟨k / 2, 0, by omega, by omega, by omega⟩
  obtain ⟨i, j, e, hi, hj⟩ := key
  refine ⟨(p : Int) - 2 * i, (q : Int) - 2 * j, by omega, ?_, ?_, by omega, by omega⟩
  · unfold ab; split <;> omega
  · unfold ab; split <;> omega
def knOk (x y : Nat) : Bool := (List.range 3).any fun k => let m := kn x y; let n := x - m + k; decide (n ≤ m) && (can1 x n (m - n) && can1 y (m - n) n)
theorem kn_all : ((List.range 101).all fun x => (List.range (x + 1)).all fun y => knOk x y) = true := by decide +kernel
theorem kn_can {x y : Nat} (hx : x ≤ 100) (hy : y ≤ x) : ∃ f l : Int, Can 2 1 x f l ∧ Can 2 1 y l f ∧ f + l = (kn x y : Int) := by
  have h := kn_all
  rw [List.all_eq_true] at h
  have h1 := h x (List.mem_range.mpr (by omega))
  rw [List.all_eq_true] at h1
  have h2 := h1 y (List.mem_range.mpr (by omega))
  unfold knOk at h2
  rw [List.any_eq_true] at h2
  obtain ⟨k, _, h3⟩ := h2
  simp only [Bool.and_eq_true, decide_eq_true_eq] at h3
  obtain ⟨a1, a2, a3⟩ := h3
  refine ⟨_, _, can1_ok a2, can1_ok a3, by omega⟩
theorem R.par21 : ∀ {i : Nat} {p : Sq}, R 2 1 i p → (p.1 + p.2 - i) % 2 = 0
  | 0, p, h => by rw [h.of_zero]; rfl
  | i + 1, p, h => by
    obtain ⟨r, s, h1, h2, rfl⟩ := h.unstep
    have := R.par21 h1
    simp only [l8, List.mem_cons, List.not_mem_nil, or_false] at h2
    unfold vadd
    rcases h2 with rfl | rfl | rfl | rfl | rfl | rfl | rfl | rfl <;> dsimp only <;> omega
theorem R.one {a b : Int} {p : Sq} (h : R a b 1 p) : p ∈ l8 a b := by
  obtain ⟨r, s, h1, h2, rfl⟩ := h.unstep
  rw [h1.of_zero]
  have : vadd (0, 0) s = s := by unfold vadd; simp
  rw [this]; exact h2
theorem kn_low {x y i : Nat} (h : R 2 1 i ((x : Int), (y : Int))) : kn x y ≤ i := by
  have h1 := h.par21
  obtain ⟨b1, b2, b3⟩ := h.bound ⟨by omega, by omega⟩
  dsimp only at h1 b1 b2 b3
  have q1 : ab (x : Int) = x := by unfold ab; split <;> omega
  have q2 : ab (y : Int) = y := by unfold ab; split <;> omega
  rw [q1] at b1 b3
  rw [q2] at b3
  have k0 : kn0 x y ≤ i := by unfold kn0; omega
  unfold kn
  split
  · rename_i e
    obtain ⟨rfl, rfl⟩ := e
    by_cases c : i = 1
    · subst c
      have := h.one
      simp [l8] at this
    · omega
  · split
    · rename_i e
      obtain ⟨rfl, rfl⟩ := e
      by_cases c : i = 2
      · subst c
        obtain ⟨r, s, g1, g2, e⟩ := h.unstep
        have g3 := g1.one
        unfold vadd at e
        simp only [Prod.mk.injEq] at e
        simp only [l8, List.mem_cons, List.not_mem_nil, or_false] at g2 g3
        rcases g2 with rfl | rfl | rfl | rfl | rfl | rfl | rfl | rfl <;> rcases g3 with rfl | rfl | rfl | rfl | rfl | rfl | rfl | rfl <;> simp at e
      · omega
    · omega
theorem R.to_oct {i : Nat} {a b : Int} {p : Sq} : R a b i p ↔ R a b i (mx (ab p.1) (ab p.2), if ab p.2 < ab p.1 then ab p.2 else ab p.1) := by
  have n1 : R a b i p ↔ R a b i (ab p.1, p.2) := by
    unfold ab
    split
    · have e : (0 - (0 - p.1), p.2) = p := by ext <;> dsimp only; omega
      have e2 : -p.1 = 0 - p.1 := by omega
      rw [e2]
      exact ⟨fun h => h.neg, fun h => by have := h.neg; dsimp only at this; rw [e] at this; exact this⟩
    · exact Iff.rfl
  have sw : ∀ x y : Int, R a b i (x, y) ↔ R a b i (y, x) := fun x y => ⟨fun h => h.swap, fun h => h.swap⟩
  have n2 : ∀ x : Int, R a b i (x, p.2) ↔ R a b i (x, ab p.2) := fun x => by
    rw [sw, sw x]
    unfold ab
    split
    · have e : ((0 - (0 - p.2), x) : Sq) = (p.2, x) := by ext <;> dsimp only; omega
      have e2 : -p.2 = 0 - p.2 := by omega
      rw [e2]
      exact ⟨fun h => h.neg, fun h => by have := h.neg; dsimp only at this; rw [e] at this; exact this⟩
    · exact Iff.rfl
  rw [n1, n2]
  unfold mx
  by_cases c : ab p.2 < ab p.1
  · rw [if_neg (by omega), if_pos c]
  · by_cases c2 : ab p.2 > ab p.1
    · rw [if_pos c2, if_neg c]; exact sw _ _
    · have : ab p.1 = ab p.2 := by omega
      rw [if_neg c2, if_neg c, this]
theorem few21 {p : Sq} {c u v w z : Int} (h : Few 2 1 p c u v w z) (h1 : ab p.1 ≤ 100) (h2 : ab p.2 ≤ 100) : c = (kn (mx (ab p.1) (ab p.2)).toNat (if ab p.2 < ab p.1 then ab p.2 else ab p.1).toNat : Int) := by
  have z1 := ab_nn p.1
  have z2 := ab_nn p.2
  obtain ⟨x, hx⟩ : ∃ x : Nat, mx (ab p.1) (ab p.2) = x := ⟨(mx (ab p.1) (ab p.2)).toNat, by unfold mx; split <;> omega⟩
  obtain ⟨y, hy⟩ : ∃ y : Nat, (if ab p.2 < ab p.1 then ab p.2 else ab p.1) = (y : Int) := ⟨(if ab p.2 < ab p.1 then ab p.2 else ab p.1).toNat, by split <;> omega⟩
  have hxy : y ≤ x ∧ x ≤ 100 := by
    unfold mx at hx
    split at hx <;> split at hy <;> omega
  rw [hx, hy, Int.toNat_natCast, Int.toNat_natCast]
  obtain ⟨r, r0⟩ := h.R
  have r' := R.to_oct.mp r
  rw [hx, hy] at r'
  have low := kn_low r'
  -- a row with so many leaps
  obtain ⟨f, l, c1, c2, e⟩ := kn_can hxy.2 hxy.1
  have up : R 2 1 (kn x y) ((x : Int), (y : Int)) := by
    obtain ⟨u', v', e1, a1, a2, a3, a4⟩ := c1
    obtain ⟨w', z', e2, b1, b2, b3, b4⟩ := c2
    have f0 : 0 ≤ f := by have := ab_nn u'; omega
    have l0 : 0 ≤ l := by have := ab_nn v'; omega
    refine ⟨half f u' z' 2 1 ++ half l v' w' 1 2, fun q hq => ?_, ?_, ?_⟩
    · unfold half at hq
      simp only [List.mem_append, List.mem_map, List.mem_range] at hq
      unfold sg at hq
      rcases hq with ⟨i, _, rfl⟩ | ⟨i, _, rfl⟩ <;> split <;> split <;> simp [l8]
    · unfold half; simp; omega
    · rw [sm_app, half_sm f0 a1 b2 (by omega) (by omega), half_sm l0 a2 b1 (by omega) (by omega)]
      ext <;> dsimp only <;> omega
  have up' : R 2 1 (kn x y) p := R.to_oct.mpr (by rw [hx, hy]; exact up)
  have := up'.few h
  omega
/-- all of a leaper times a number -/
theorem few_times {a b t : Int} (ht : 1 ≤ t) {p : Sq} {c u v w z c' u' v' w' z' : Int} (h : Few a b p c u v w z) (h' : Few (t * a) (t * b) (t * p.1, t * p.2) c' u' v' w' z') : c' = c := by
  have d := h.dec
  have d' := h'.dec
  have e1 := h'.le u v w z ⟨by have := d.eX; dsimp only; rw [← this]; grind, by have := d.eY; dsimp only; rw [← this]; grind, d.pu, d.pv⟩
  have cx : ∀ x y X : Int, t * a * x + t * b * y = t * X → a * x + b * y = X := fun x y X e => by
    have : t * (a * x + b * y) = t * X := by rw [← e]; grind
    exact Int.eq_of_mul_eq_mul_left (show t ≠ 0 by omega) this
  have e2 := h.le u' v' w' z' ⟨cx _ _ _ d'.eX, cx _ _ _ d'.eY, d'.pu, d'.pv⟩
  have := h.eq
  have := h'.eq
  omega
end Lm

namespace Lm
open Bd
def vsub (p q : Sq) : Sq := (p.1 - q.1, p.2 - q.2)
def W (lv : List Sq) : Nat → Sq → Int
  | 0, p => if p = (0, 0) then 1 else 0
  | k + 1, p => (lv.map fun s => W lv k (vsub p s)).sum
theorem sum_perm {l m : List Int} (h : l.Perm m) : l.sum = m.sum := by
  induction h with
  | nil => rfl
  | cons x h ih => simp [ih]
  | swap x y l => simp; omega
  | trans h1 h2 ih1 ih2 => rw [ih1, ih2]
theorem W_map {lv lv' : List Sq} (g : Sq → Sq) (hp : (lv.map g).Perm lv') (gs : ∀ p s, vsub (g p) (g s) = g (vsub p s)) (g0 : ∀ p, g p = (0, 0) ↔ p = (0, 0)) : ∀ (k : Nat) (p : Sq), W lv' k (g p) = W lv k p
  | 0, p => by
    unfold W
    by_cases h : p = (0, 0)
    · rw [if_pos h, if_pos ((g0 p).mpr h)]
    · rw [if_neg h, if_neg (fun z => h ((g0 p).mp z))]
  | k + 1, p => by
    show (lv'.map fun s => W lv' k (vsub (g p) s)).sum = (lv.map fun s => W lv k (vsub p s)).sum
    rw [← sum_perm (hp.map fun s => W lv' k (vsub (g p) s)), List.map_map]
    congr 1
    apply List.map_congr_left
    intro s _
    show W lv' k (vsub (g p) (g s)) = _
    rw [gs, W_map g hp gs g0 k]
theorem perm_of {l m : List Sq} (hl : l.Nodup) (hm : m.Nodup) (h : ∀ x, x ∈ l ↔ x ∈ m) : l.Perm m := (List.perm_ext_iff_of_nodup hl hm).mpr h
theorem nodup_map {l : List Sq} {g : Sq → Sq} (hi : ∀ x y, g x = g y → x = y) (h : l.Nodup) : (l.map g).Nodup := by
  rw [List.nodup_iff_pairwise_ne] at *
  exact List.pairwise_map.mpr (h.imp fun hne z => hne (hi _ _ z))
theorem sum_zero {α : Type} {l : List α} {f : α → Int} (h : ∀ x ∈ l, f x = 0) : (l.map f).sum = 0 := by
  induction l with
  | nil => rfl
  | cons x l ih =>
    rw [List.map_cons, List.sum_cons, h x (by simp), ih fun y hy => h y (by simp [hy])]; rfl
theorem sum_add {α : Type} {l : List α} {f g : α → Int} : (l.map fun x => f x + g x).sum = (l.map f).sum + (l.map g).sum := by
  induction l with
  | nil => rfl
  | cons x l ih => simp only [List.map_cons, List.sum_cons, ih]; omega
theorem sum_swap {α β : Type} (f : α → β → Int) : ∀ (l : List α) (m : List β), (l.map fun x => (m.map fun y => f x y).sum).sum = (m.map fun y => (l.map fun x => f x y).sum).sum
  | [], m => by simp [sum_zero]
  | x :: l, m => by
    rw [List.map_cons, List.sum_cons, sum_swap f l m, ← sum_add]
    simp
theorem sum_pick {l : List Sq} {w : Sq → Int} (hn : l.Nodup) (q : Sq) : (l.map fun p => if p = q then w p else 0).sum = if q ∈ l then w q else 0 := by
  induction l with
  | nil => rfl
  | cons x l ih =>
    obtain ⟨h1, h2⟩ := List.nodup_cons.mp hn
    rw [List.map_cons, List.sum_cons, ih h2]
    by_cases e : x = q
    · subst e; rw [if_pos rfl, if_neg h1, if_pos (by simp)]; omega
    · have e' : ¬ q = x := fun z => e z.symm
      rw [if_neg e]
      by_cases m : q ∈ l
      · rw [if_pos m, if_pos (by simp [m])]; omega
      · rw [if_neg m, if_neg (by simp [m, e'])]; omega
/-- what some pairs bring to a pair -/
def Sm (lv pre : List Sq) (w : Sq → Int) (q : Sq) : Int := (pre.map fun p => (lv.map fun s => if vadd p s = q then w p else 0).sum).sum
theorem vadd_eq {p s q : Sq} : vadd p s = q ↔ p = vsub q s := by
  unfold vadd vsub
  constructor
  · rintro rfl; ext <;> dsimp only <;> omega
  · rintro rfl; ext <;> dsimp only <;> omega
theorem Sm_all {lv K : List Sq} {w : Sq → Int} (hn : K.Nodup) (hw : ∀ p, p ∉ K → w p = 0) (q : Sq) : Sm lv K w q = (lv.map fun s => w (vsub q s)).sum := by
  unfold Sm
  rw [sum_swap (fun p s => if vadd p s = q then w p else 0)]
  congr 1
  apply List.map_congr_left
  intro s _
  have : (fun p => if vadd p s = q then w p else 0) = fun p => if p = vsub q s then w p else 0 := by
    funext p
    by_cases c : vadd p s = q
    · rw [if_pos c, if_pos (vadd_eq.mp c)]
    · rw [if_neg c, if_neg (fun z => c (vadd_eq.mpr z))]
  rw [this, sum_pick hn]
  split
  · rfl
  · rename_i h; exact (hw _ h).symm
theorem Sm_total {lv K K' : List Sq} {w : Sq → Int} (hn : K'.Nodup) (hK : ∀ p ∈ K, ∀ s ∈ lv, vadd p s ∈ K') : (K'.map fun q => Sm lv K w q).sum = lv.length * (K.map w).sum := by
  unfold Sm
  rw [sum_swap (fun q p => (lv.map fun s => if vadd p s = q then w p else 0).sum)]
  have : ∀ p ∈ K, (K'.map fun q => (lv.map fun s => if vadd p s = q then w p else 0).sum).sum = (lv.length : Int) * w p := fun p hp => by
    rw [sum_swap (fun q s => if vadd p s = q then w p else 0)]
    have : ∀ s ∈ lv, (K'.map fun q => if vadd p s = q then w p else 0).sum = w p := fun s hs => by
      have e : (fun q => if vadd p s = q then w p else 0) = fun q => if q = vadd p s then (fun _ => w p) q else 0 := by
        funext q
        by_cases c : vadd p s = q
        · rw [if_pos c, if_pos c.symm]
        · rw [if_neg c, if_neg (fun z => c z.symm)]
      rw [e, sum_pick hn, if_pos (hK p hp s hs)]
    rw [List.map_congr_left this]
    clear this hK
    induction lv with
    | nil => simp
    | cons s lv ih => simp only [List.map_cons, List.sum_cons, ih, List.length_cons, Int.natCast_add, Int.add_mul]; omega
  rw [List.map_congr_left this]
  clear this hK
  induction K with
  | nil => simp
  | cons p K ih => rw [List.map_cons, List.sum_cons, ih, List.map_cons, List.sum_cons, Int.mul_add]
def av : Nat → Int → Int
  | 0, s => if s = 0 then 1 else 0
  | n + 1, s => av n (s - 1) + av n (s + 1)
theorem av_out : ∀ {n : Nat} {s : Int}, (n : Int) < ab s → av n s = 0
  | 0, s, h => by
    unfold av
    rw [if_neg (fun z => by rw [z] at h; simp [ab] at h)]
  | n + 1, s, h => by
    unfold av
    rw [av_out (by unfold ab at *; split at h <;> split <;> omega), av_out (by unfold ab at *; split at h <;> split <;> omega)]; rfl
theorem av_par : ∀ {n : Nat} {s : Int}, (n + s) % 2 = 1 → av n s = 0
  | 0, s, h => by
    unfold av
    rw [if_neg (fun z => by rw [z] at h; simp at h)]
  | n + 1, s, h => by
    unfold av
    rw [av_par (by omega), av_par (by omega)]; rfl
theorem W10 : ∀ (n : Nat) (p : Sq), W [(-1, 0), (0, -1), (0, 1), (1, 0)] n p = av n (p.1 + p.2) * av n (p.1 - p.2)
  | 0, p => by
    unfold W av
    by_cases h : p = (0, 0)
    · subst h; simp
    · rw [if_neg h]
      by_cases h1 : p.1 + p.2 = 0
      · by_cases h2 : p.1 - p.2 = 0
        · exact absurd (by ext <;> dsimp only <;> omega) h
        · rw [if_neg h2]; simp
      · rw [if_neg h1]; simp
  | n + 1, p => by
    show (List.map (fun s => W [(-1, 0), (0, -1), (0, 1), (1, 0)] n (vsub p s)) [(-1, 0), (0, -1), (0, 1), (1, 0)]).sum = _
    simp only [List.map_cons, List.map_nil, List.sum_cons, List.sum_nil, W10 n]
    unfold vsub
    dsimp only
    rw [show av (n + 1) (p.1 + p.2) = av n (p.1 + p.2 - 1) + av n (p.1 + p.2 + 1) from rfl, show av (n + 1) (p.1 - p.2) = av n (p.1 - p.2 - 1) + av n (p.1 - p.2 + 1) from rfl]
    have e1 : p.1 - -1 + (p.2 - 0) = p.1 + p.2 + 1 := by omega
    have e2 : p.1 - -1 - (p.2 - 0) = p.1 - p.2 + 1 := by omega
    have e3 : p.1 - 0 + (p.2 - -1) = p.1 + p.2 + 1 := by omega
    have e4 : p.1 - 0 - (p.2 - -1) = p.1 - p.2 - 1 := by omega
    have e5 : p.1 - 0 + (p.2 - 1) = p.1 + p.2 - 1 := by omega
    have e6 : p.1 - 0 - (p.2 - 1) = p.1 - p.2 + 1 := by omega
    have e7 : p.1 - 1 + (p.2 - 0) = p.1 + p.2 - 1 := by omega
    have e8 : p.1 - 1 - (p.2 - 0) = p.1 - p.2 - 1 := by omega
    rw [e1, e2, e3, e4, e5, e6, e7, e8]
    grind
theorem W11 : ∀ (n : Nat) (p : Sq), W [(-1, -1), (-1, 1), (1, -1), (1, 1)] n p = av n p.1 * av n p.2
  | 0, p => by
    unfold W av
    by_cases h : p = (0, 0)
    · subst h; simp
    · rw [if_neg h]
      by_cases h1 : p.1 = 0
      · by_cases h2 : p.2 = 0
        · exact absurd (by ext <;> dsimp only <;> omega) h
        · rw [if_neg h2]; simp
      · rw [if_neg h1]; simp
  | n + 1, p => by
    show (List.map (fun s => W [(-1, -1), (-1, 1), (1, -1), (1, 1)] n (vsub p s)) [(-1, -1), (-1, 1), (1, -1), (1, 1)]).sum = _
    simp only [List.map_cons, List.map_nil, List.sum_cons, List.sum_nil, W11 n]
    unfold vsub
    dsimp only
    rw [show av (n + 1) p.1 = av n (p.1 - 1) + av n (p.1 + 1) from rfl, show av (n + 1) p.2 = av n (p.2 - 1) + av n (p.2 + 1) from rfl]
    have e1 : p.1 - -1 = p.1 + 1 := by omega
    have e2 : p.2 - -1 = p.2 + 1 := by omega
    rw [e1, e2]
    grind
theorem sub_len : ∀ {l m : List Sq}, l.Nodup → (∀ x ∈ l, x ∈ m) → l.length ≤ m.length
  | [], m, _, _ => by simp
  | x :: l, m, hn, hs => by
    obtain ⟨h1, h2⟩ := List.nodup_cons.mp hn
    have hx := hs x (by simp)
    have ih := sub_len (l := l) (m := m.erase x) h2 fun y hy => by
      rw [List.mem_erase_of_ne (fun e => h1 (by rw [← e]; exact hy))]
      exact hs y (by simp [hy])
    rw [List.length_erase_of_mem hx] at ih
    have : 0 < m.length := List.length_pos_of_mem hx
    simp; omega
def boxL (w : Nat) : List Sq := (List.range w).flatMap fun (i : Nat) => (List.range w).map fun (j : Nat) => ((i : Int) - ((w : Int) - 1) / 2, (j : Int) - ((w : Int) - 1) / 2)
theorem boxL_len (w : Nat) : (boxL w).length = w * w := by
  unfold boxL
  rw [List.length_flatMap]
  simp [List.map_const', List.sum_replicate_nat]
theorem len_box {m : Nat} {K : List Sq} (nK : K.Nodup) (h : ∀ p ∈ K, ab p.1 ≤ (m : Int) ∧ ab p.2 ≤ (m : Int)) : K.length ≤ (2 * m + 1) * (2 * m + 1) := by
  rw [← boxL_len]
  refine sub_len nK fun p hp => ?_
  obtain ⟨h1, h2⟩ := h p hp
  have q1 : -(m : Int) ≤ p.1 ∧ p.1 ≤ m := by unfold ab at h1; split at h1 <;> omega
  have q2 : -(m : Int) ≤ p.2 ∧ p.2 ≤ m := by unfold ab at h2; split at h2 <;> omega
  unfold boxL
  simp only [List.mem_flatMap, List.mem_map, List.mem_range]
  exact ⟨(p.1 + m).toNat, by omega, (p.2 + m).toNat, by omega, by ext <;> dsimp only <;> omega⟩
end Lm

namespace Mp

inductive D where
  | non
  | bl (b : Bool)
  | int (i : Int)
  | str (s : List Nat)
  | tup (ds : List D)
  /-- a written tuple of the top -/
  | ktup (ds : List D)
  | lst (ds : List D)
  | dct (t : Bool) (ks vs : List D)
  | ref (j : Nat)
  | scr (ns : List Int)

mutual
def D.beq : D → D → Bool
  | .non, .non => true
  | .bl a, .bl b => a == b
  | .int a, .int b => a == b
  | .str a, .str b => a == b
  | .tup a, .tup b => D.beqs a b
  | .ktup a, .ktup b => D.beqs a b
  | .lst a, .lst b => D.beqs a b
  | .dct t a b, .dct u c d => t == u && D.beqs a c && D.beqs b d
  | .ref a, .ref b => a == b
  | .scr a, .scr b => a == b
  | _, _ => false
def D.beqs : List D → List D → Bool
  | [], [] => true
  | a :: r, b :: q => D.beq a b && D.beqs r q
  | _, _ => false
end
mutual
theorem D.eq_of_beq : ∀ a b : D, D.beq a b = true → a = b
  | .non, b, h => by cases b <;> simp_all [D.beq]
  | .bl a, b, h => by cases b <;> simp_all [D.beq]
  | .int a, b, h => by cases b <;> simp_all [D.beq]
  | .str a, b, h => by cases b <;> simp_all [D.beq]
  | .tup a, b, h => by
    cases b <;> simp [D.beq] at h
    rw [D.eq_of_beqs _ _ h]
  | .ktup a, b, h => by
    cases b <;> simp [D.beq] at h
    rw [D.eq_of_beqs _ _ h]
  | .lst a, b, h => by
    cases b <;> simp [D.beq] at h
    rw [D.eq_of_beqs _ _ h]
  | .dct t a b, c, h => by
    cases c <;> simp [D.beq] at h
    rw [h.1.1, D.eq_of_beqs _ _ h.1.2, D.eq_of_beqs _ _ h.2]
  | .ref a, b, h => by cases b <;> simp_all [D.beq]
  | .scr a, b, h => by cases b <;> simp_all [D.beq]
theorem D.eq_of_beqs : ∀ a b : List D, D.beqs a b = true → a = b
  | [], b, h => by cases b <;> simp_all [D.beqs]
  | a :: r, b, h => by
    cases b with
    | nil => simp [D.beqs] at h
    | cons b q =>
      simp [D.beqs] at h
      rw [D.eq_of_beq _ _ h.1, D.eq_of_beqs _ _ h.2]
end
mutual
theorem D.beq_self : ∀ a : D, D.beq a a = true
  | .non => rfl
  | .bl a => by simp [D.beq]
  | .int a => by simp [D.beq]
  | .str a => by simp [D.beq]
  | .tup a => by simp [D.beq, D.beqs_self a]
  | .ktup a => by simp [D.beq, D.beqs_self a]
  | .lst a => by simp [D.beq, D.beqs_self a]
  | .dct t a b => by simp [D.beq, D.beqs_self a, D.beqs_self b]
  | .ref a => by simp [D.beq]
  | .scr a => by simp [D.beq]
theorem D.beqs_self : ∀ a : List D, D.beqs a a = true
  | [] => rfl
  | a :: r => by simp [D.beqs, D.beq_self a, D.beqs_self r]
end
instance : DecidableEq D := fun a b =>
  match h : D.beq a b with
  | true => .isTrue (D.eq_of_beq a b h)
  | false => .isFalse fun e => by rw [e, D.beq_self] at h; cases h

/-- a slot: plain data, or a list (a dict) that this name alone holds -/
inductive Sl where
  | pl (d : D)
  | own (d : D)
  deriving DecidableEq
/-- an expression's value: data; a new list; the list that a name holds -/
inductive RV where
  | pl (d : D)
  | fr (d : D)
  | bor (i : Nat)

inductive Obj where
  | lst (ds : List D)
  | dct (t : Bool) (ks vs : List D)
  | ins (cls : Nat) (fs : List (String × D))

abbrev Env := List (Option Sl)
abbrev Store := List Obj
structure Exc where
  cls : Nat
  arg : Option D

inductive Rs (α : Type) where
  | ok (a : α)
  | ex (x : Exc) (S : Store)
  | no
@[inline] def Rs.bind {α β : Type} (a : Rs α) (f : α → Rs β) : Rs β :=
  match a with
  | .ok a => f a
  | .ex x S => .ex x S
  | .no => .no
instance : Monad Rs where
  pure := .ok
  bind := Rs.bind
@[simp] theorem ok_bind {α β : Type} (a : α) (f : α → Rs β) : (Rs.ok a >>= f) = f a := id rfl
@[simp] theorem no_bind {α β : Type} (f : α → Rs β) : ((Rs.no : Rs α) >>= f) = .no := id rfl
@[simp] theorem ex_bind {α β : Type} (x : Exc) (S : Store) (f : α → Rs β) : ((Rs.ex x S : Rs α) >>= f) = .ex x S := id rfl
@[simp] theorem pure_ok {α : Type} (a : α) : (pure a : Rs α) = .ok a := id rfl
theorem bind_ok {α β : Type} {a : Rs α} {f : α → Rs β} {b : β} (h : (a >>= f) = .ok b) : ∃ x, a = .ok x ∧ f x = .ok b := by
  cases a with
  | ok x => exact ⟨x, rfl, h⟩
  | ex x S => cases h
  | no => cases h

structure CallI where
  call : Nat → List D → Store → Rs (Bool × D × Store)
  wf : Nat

abbrev Den := Env → Store → Rs (RV × Env × Store)
abbrev ADen := Env → Store → Rs (List D × Env × Store)
/-- a test -/
abbrev CDen := Env → Store → Rs (Bool × Env × Store)
/-- what is walked -/
abbrev IDen := Env → Store → Rs (List D × Env × Store)
/-- a target -/
abbrev TDen := D → Env → Rs Env
inductive Out where
  | nx (ε : Env) (S : Store)
  | rt (f : Bool) (d : D) (S : Store)
  | bk (ε : Env) (S : Store)
  | ct (ε : Env) (S : Store)
abbrev SDen := Env → Store → Rs Out

def slot (ε : Env) (i : Nat) : Option Sl := (ε[i]?).getD none
/-- what a value holds -/
def RV.get (r : RV) (ε : Env) : Rs D :=
  match r with
  | .pl d => .ok d
  | .fr d => .ok d
  | .bor i => match slot ε i with
    | some (.own d) => .ok d
    | some (.pl d) => .ok d
    | none => .no
/-- as data: a name's own list is held by others from then on -/
def RV.fix (r : RV) (ε : Env) : Rs (D × Env) :=
  match r with
  | .pl d => .ok (d, ε)
  | .fr d => .ok (d, ε)
  | .bor i => match slot ε i with
    | some (.own d) => .ok (d, ε.set i (some (.pl d)))
    | some (.pl d) => .ok (d, ε)
    | none => .no

def eVar (i : Nat) : Den := fun ε S => match slot ε i with
  | some (.pl d) => .ok (.pl d, ε, S)
  | some (.own _) => .ok (.bor i, ε, S)
  | none => .no
def eC (d : D) : Den := fun ε S => .ok (.pl d, ε, S)
def eUn (f : D → Store → Rs RV) (a : Den) : Den := fun ε S => do
  let (r, ε1, S1) ← a ε S
  let x ← r.get ε1
  let v ← f x S1
  .ok (v, ε1, S1)
def eBin (f : D → D → Store → Rs RV) (a b : Den) : Den := fun ε S => do
  let (r1, ε1, S1) ← a ε S
  let (r2, ε2, S2) ← b ε1 S1
  let x ← r1.get ε2
  let y ← r2.get ε2
  let v ← f x y S2
  .ok (v, ε2, S2)
def aNil : ADen := fun ε S => .ok ([], ε, S)
def aCons (a : Den) (as : ADen) : ADen := fun ε S => do
  let (r, ε1, S1) ← a ε S
  let (d, ε2) ← r.fix ε1
  let (ds, ε3, S3) ← as ε2 S1
  .ok (d :: ds, ε3, S3)
def eTup (as : ADen) : Den := fun ε S => do
  let (ds, ε1, S1) ← as ε S
  if ds.length ≤ 16777216 then .ok (.pl (.tup ds), ε1, S1) else .no
def eLst (as : ADen) : Den := fun ε S => do
  let (ds, ε1, S1) ← as ε S
  if ds.length ≤ 16777216 then .ok (.fr (.lst ds), ε1, S1) else .no
/-- a new list that is shared from the start -/
def eNew (a : Den) : Den := fun ε S => do
  let (r, ε1, S1) ← a ε S
  match r with
  | .fr (.lst ds) => .ok (.pl (.ref S1.length), ε1, S1 ++ [.lst ds])
  | .fr (.dct t ks vs) => .ok (.pl (.ref S1.length), ε1, S1 ++ [.dct t ks vs])
  | _ => .no
def eCall (F : CallI) (f : Nat) (as : ADen) : Den := fun ε S => do
  let (ds, ε1, S1) ← as ε S
  let (b, d, S2) ← F.call f ds S1
  .ok (if b then .fr d else .pl d, ε1, S2)
def cVal (a : Den) : CDen := fun ε S => do
  let (r, ε1, S1) ← a ε S
  match ← r.get ε1 with
  | .bl b => .ok (b, ε1, S1)
  | _ => .no
def cAnd (a b : CDen) : CDen := fun ε S => do
  let (x, ε1, S1) ← a ε S
  if x then b ε1 S1 else .ok (false, ε1, S1)
def cOr (a b : CDen) : CDen := fun ε S => do
  let (x, ε1, S1) ← a ε S
  if x then .ok (true, ε1, S1) else b ε1 S1
def cNot (a : CDen) : CDen := fun ε S => do
  let (x, ε1, S1) ← a ε S
  .ok (!x, ε1, S1)
def eAnd (a b : Den) : Den := fun ε S => do
  let (r, ε1, S1) ← a ε S
  match ← r.get ε1 with
  | .bl x => if x then b ε1 S1 else .ok (.pl (.bl false), ε1, S1)
  | _ => .no
def eOr (a b : Den) : Den := fun ε S => do
  let (r, ε1, S1) ← a ε S
  match ← r.get ε1 with
  | .bl x => if x then .ok (.pl (.bl true), ε1, S1) else b ε1 S1
  | _ => .no
def eNot (a : Den) : Den := eUn (fun x _ => match x with | .bl b => .ok (.pl (.bl !b)) | _ => .no) a
def eIf (c : CDen) (a b : Den) : Den := fun ε S => do
  let (x, ε1, S1) ← c ε S
  if x then a ε1 S1 else b ε1 S1
/-- a < b < c -/
def eChain (f g : D → D → Store → Rs RV) (a b c : Den) : Den := fun ε S => do
  let (r1, ε1, S1) ← a ε S
  let (r2, ε2, S2) ← b ε1 S1
  let x ← r1.get ε2
  let y ← r2.get ε2
  match ← f x y S2 with
  | .pl (.bl true) => do
      let (r3, ε3, S3) ← c ε2 S2
      let y' ← r2.get ε3
      let z ← r3.get ε3
      let v ← g y' z S3
      .ok (v, ε3, S3)
  | .pl (.bl false) => .ok (.pl (.bl false), ε2, S2)
  | _ => .no

def itemsOf (d : D) : Rs (List D) := match d with
  | .tup ds => .ok ds
  | .lst ds => .ok ds
  | _ => .no
def intsFrom (lo : Int) (n : Nat) : List D := (List.range n).map fun (i : Nat) => .int (lo + (i : Int))
def tName (i : Nat) : TDen := fun d ε => .ok (ε.set i (some (.pl d)))
abbrev TsDen := List D → Env → Rs Env
def tsNil : TsDen := fun ds ε => match ds with | [] => .ok ε | _ => .no
def tsCons (t : TDen) (ts : TsDen) : TsDen := fun ds ε => match ds with
  | d :: r => do
    let ε1 ← t d ε
    ts r ε1
  | [] => .no
def tTup (n : Nat) (ts : TsDen) : TDen := fun d ε => match d with
  | .tup ds => if ds.length = n then ts ds ε else .no
  | .ktup ds => if ds.length = n then ts ds ε else .no
  | _ => .no
def wipe (ε : Env) (vs : List Nat) : Env := vs.foldr (fun v e => e.set v none) ε
/-- a comprehension's turns -/
def compGo (vs : List Nat) (t : TDen) (c : CDen) (e : Den) (ε0 : Env) : List D → Store → List D → Rs (List D × Store)
  | [], S, acc => .ok (acc, S)
  | x :: xs, S, acc => do
    let ε1 ← t x ε0
    let (b, ε2, S2) ← c ε1 S
    if wipe ε1 vs = ε0 ∧ ε2 = ε1 then
      if b then do
        let (r, ε3, S3) ← e ε1 S2
        match r with
        | .bor _ => .no
        | .pl d => if ε3 = ε1 ∧ acc.length < 16777216 then compGo vs t c e ε0 xs S3 (acc ++ [d]) else .no
        | .fr d => if ε3 = ε1 ∧ acc.length < 16777216 then compGo vs t c e ε0 xs S3 (acc ++ [d]) else .no
      else compGo vs t c e ε0 xs S2 acc
    else .no
def eComp (vs : List Nat) (it : IDen) (t : TDen) (c : CDen) (e : Den) : Den := fun ε S => do
  let (xs, ε1, S1) ← it ε S
  let (ds, S2) ← compGo vs t c e (wipe ε1 vs) xs S1 []
  .ok (.fr (.lst ds), ε1, S2)
def cYes : CDen := fun ε S => .ok (true, ε, S)

def sNil : SDen := fun ε S => .ok (.nx ε S)
def sSeq (a b : SDen) : SDen := fun ε S => do
  match ← a ε S with
  | .nx ε1 S1 => b ε1 S1
  | o => .ok o
def sPass : SDen := fun ε S => .ok (.nx ε S)
def sBreak : SDen := fun ε S => .ok (.bk ε S)
def sCont : SDen := fun ε S => .ok (.ct ε S)
def sDrop (a : Den) : SDen := fun ε S => do
  let (_, ε1, S1) ← a ε S
  .ok (.nx ε1 S1)
def sRet (a : Den) : SDen := fun ε S => do
  let (r, ε1, S1) ← a ε S
  match r with
  | .pl d => .ok (.rt false d S1)
  | .fr d => .ok (.rt true d S1)
  | .bor i => match slot ε1 i with
    | some (.own d) => .ok (.rt true d S1)
    | some (.pl d) => .ok (.rt false d S1)
    | none => .no
def sRetN : SDen := fun _ S => .ok (.rt false .non S)
def sIf (c : CDen) (a b : SDen) : SDen := fun ε S => do
  let (x, ε1, S1) ← c ε S
  if x then a ε1 S1 else b ε1 S1
/-- name = value, the name's list never changed -/
def sSet (i : Nat) (a : Den) : SDen := fun ε S => do
  let (r, ε1, S1) ← a ε S
  let (d, ε2) ← r.fix ε1
  .ok (.nx (ε2.set i (some (.pl d))) S1)
/-- name = value, the name's list changed later -/
def sOwn (i : Nat) (a : Den) : SDen := fun ε S => do
  let (r, ε1, S1) ← a ε S
  match r with
  | .pl d => .ok (.nx (ε1.set i (some (.pl d))) S1)
  | .fr d => if i < ε1.length then .ok (.nx (ε1.set i (some (.own d))) S1) else .no
  | .bor j => match slot ε1 j with
    | some (.own d) => if i < ε1.length then .ok (.nx ((ε1.set j none).set i (some (.own d))) S1) else .no
    | some (.pl d) => .ok (.nx (ε1.set i (some (.pl d))) S1)
    | none => .no
/-- target = value -/
def sAsg (t : TDen) (a : Den) : SDen := fun ε S => do
  let (r, ε1, S1) ← a ε S
  let (d, ε2) ← r.fix ε1
  let ε3 ← t d ε2
  .ok (.nx ε3 S1)
def forGo (t : TDen) (b : SDen) : List D → Env → Store → Rs Out
  | [], ε, S => .ok (.nx ε S)
  | x :: xs, ε, S => do
    let ε1 ← t x ε
    match ← b ε1 S with
    | .nx ε2 S2 => forGo t b xs ε2 S2
    | .ct ε2 S2 => forGo t b xs ε2 S2
    | .bk ε2 S2 => .ok (.nx ε2 S2)
    | .rt f d S2 => .ok (.rt f d S2)
def sFor (t : TDen) (it : IDen) (b : SDen) : SDen := fun ε S => do
  let (xs, ε1, S1) ← it ε S
  forGo t b xs ε1 S1
def whileGo (c : CDen) (b : SDen) : Nat → Env → Store → Rs Out
  | 0, _, _ => .no
  | n + 1, ε, S => do
    let (x, ε1, S1) ← c ε S
    if x then
      match ← b ε1 S1 with
      | .nx ε2 S2 => whileGo c b n ε2 S2
      | .ct ε2 S2 => whileGo c b n ε2 S2
      | .bk ε2 S2 => .ok (.nx ε2 S2)
      | .rt f d S2 => .ok (.rt f d S2)
    else .ok (.nx ε1 S1)
def sWhile (F : CallI) (c : CDen) (b : SDen) : SDen := fun ε S => whileGo c b F.wf ε S

/-- a def's body run at its arguments -/
def runBody (n : Nat) (b : SDen) (ds : List D) (S : Store) : Rs (Bool × D × Store) := do
  match ← b (ds.map (fun d => some (.pl d)) ++ List.replicate (n - ds.length) none) S with
  | .nx _ S1 => .ok (false, .non, S1)
  | .rt f d S1 => .ok (f, d, S1)
  | _ => .no
end Mp

namespace Mp
open PySem PySem.Spec PyProof.Rows L2

/-- what is written, and where the classes stand -/
structure Kc where
  F : PySem.W.Frag
  cl : Nat → Addr
structure Rc where
  Z : Addr → Option HO
  ρ : List Addr

def KT (K : Kc) (a : Addr) (xs : List V) : Prop :=
  ∃ (o : PySem.Obj) (its : Array Value) (n : Nat), K.F.lookup a = some o ∧ o.cls = .type "tuple" ∧ o.data = .seq its n ∧ its.size ≤ sizeLine ∧ Vals xs its.toList
def KL (K : Kc) (a : Addr) (xs : List V) : Prop :=
  ∃ (o : PySem.Obj) (its : Array Value) (n : Nat), K.F.lookup a = some o ∧ o.cls = .type "list" ∧ o.dict = none ∧ o.data = .seq its n ∧ its.size ≤ sizeLine ∧ Vals xs its.toList
def ZT (_ : Kc) (R : Rc) (a : Addr) (vs : List V) : Prop := R.Z a = some (.tup vs)
/-- a tuple, new or written -/
def TQ (K : Kc) (R : Rc) (a : Addr) (vs : List V) : Prop := R.Z a = some (.tup vs) ∨ KT K a vs
def ZL (_ : Kc) (R : Rc) (a : Addr) (vs : List V) : Prop := R.Z a = some (.lst vs)

/-- a dict's key -/
def D.key : D → Option L2.Key
  | .int i => some (.inl i)
  | .str s => some (.inr ⟨s.toArray⟩)
  | _ => none
def D.keys : List D → Option (List L2.Key)
  | [] => some []
  | d :: r => match d.key, D.keys r with
    | some k, some ks => some (k :: ks)
    | _, _ => none
/-- a dict's key that is a tuple -/
def D.keyT : D → Option (List L2.Key)
  | .tup ds => D.keys ds
  | _ => none
/-- told, maybe locked -/
def RdZ (R : Rc) (a : Addr) (o : HO) : Prop := R.Z a = some o ∨ ∃ od, R.Z a = some (.frz od o)
mutual
def Rep (K : Kc) (R : Rc) : D → V → Prop
  | .non, v => v = .non
  | .bl b, v => v = .bl b
  | .int i, v => v = .int i
  | .str s, v => v = .str ⟨s.toArray⟩
  | .tup ds, v => ∃ a vs, v = .ref a ∧ ZT K R a vs ∧ Reps K R ds vs
  | .ktup ds, v => ∃ a vs, v = .ref a ∧ KT K a vs ∧ Reps K R ds vs
  | .lst ds, v => ∃ a vs, v = .ref a ∧ ZL K R a vs ∧ Reps K R ds vs
  | .dct t ks vs, v => ∃ a ws, v = .ref a ∧ Reps K R vs ws ∧
      ((t = false ∧ ∃ kk : List L2.Key, RdZ R a (.dK (kk.zip ws)) ∧ kk.length = ws.length ∧ ks.map D.key = kk.map some) ∨
       (t = true ∧ ∃ kk : List (List L2.Key), RdZ R a (.dT (kk.zip ws)) ∧ kk.length = ws.length ∧ ks.map D.keyT = kk.map some))
  | .ref j, v => ∃ a, R.ρ[j]? = some a ∧ v = .ref a
  | .scr ns, v => ∃ a, v = .ref a ∧ ((∃ o, R.Z a = some (.frz o (.lst (ns.map V.int)))) ∨ KL K a (ns.map V.int))
def Reps (K : Kc) (R : Rc) : List D → List V → Prop
  | [], vs => vs = []
  | d :: ds, vs => ∃ v r, vs = v :: r ∧ Rep K R d v ∧ Reps K R ds r
end

/-- R' tells all that R tells -/
structure Le (R R' : Rc) : Prop where
  z : ∀ a o, R.Z a = some o → R'.Z a = some o
  ρ : R.ρ <+: R'.ρ
theorem Le.refl (R : Rc) : Le R R := ⟨fun _ _ h => h, List.prefix_refl _⟩
theorem Le.trans {R R1 R2 : Rc} (a : Le R R1) (b : Le R1 R2) : Le R R2 := ⟨fun x o h => b.z x o (a.z x o h), a.ρ.trans b.ρ⟩
theorem pre_get {α : Type} {l l' : List α} (h : l <+: l') {j : Nat} {x : α} (e : l[j]? = some x) : l'[j]? = some x := by
  obtain ⟨r, rfl⟩ := h
  have hj : j < l.length := (List.getElem?_eq_some_iff.mp e).1
  rw [List.getElem?_append_left hj]; exact e
theorem RdZ.mono {R R' : Rc} (l : Le R R') {a : Addr} {o : HO} (h : RdZ R a o) : RdZ R' a o := h.imp (l.z _ _) fun ⟨od, z⟩ => ⟨od, l.z _ _ z⟩
theorem ZT.mono {K : Kc} {R R' : Rc} (l : Le R R') {a : Addr} {vs : List V} (h : ZT K R a vs) : ZT K R' a vs := l.z _ _ h
theorem TQ.mono {K : Kc} {R R' : Rc} (l : Le R R') {a : Addr} {vs : List V} (h : TQ K R a vs) : TQ K R' a vs := h.imp (l.z _ _) id
theorem ZL.mono {K : Kc} {R R' : Rc} (l : Le R R') {a : Addr} {vs : List V} (h : ZL K R a vs) : ZL K R' a vs := l.z _ _ h
mutual
theorem Rep.mono {K : Kc} {R R' : Rc} (l : Le R R') : ∀ (d : D) (v : V), Rep K R d v → Rep K R' d v
  | .non, v, h => h
  | .bl _, v, h => h
  | .int _, v, h => h
  | .str _, v, h => h
  | .tup ds, v, h => by
    obtain ⟨a, vs, e, z, r⟩ := h
    exact ⟨a, vs, e, z.mono l, Reps.mono l ds vs r⟩
  | .ktup ds, v, h => by
    obtain ⟨a, vs, e, z, r⟩ := h
    exact ⟨a, vs, e, z, Reps.mono l ds vs r⟩
  | .lst ds, v, h => by
    obtain ⟨a, vs, e, z, r⟩ := h
    exact ⟨a, vs, e, z.mono l, Reps.mono l ds vs r⟩
  | .dct t ks vs, v, h => by
    obtain ⟨a, ws, e, r, z⟩ := h
    exact ⟨a, ws, e, Reps.mono l vs ws r, z.imp (fun ⟨t, kk, z, q⟩ => ⟨t, kk, z.mono l, q⟩) (fun ⟨t, kk, z, q⟩ => ⟨t, kk, z.mono l, q⟩)⟩
  | .ref j, v, h => by
    obtain ⟨a, e, r⟩ := h
    exact ⟨a, pre_get l.ρ e, r⟩
  | .scr ns, v, h => by
    obtain ⟨a, e, r⟩ := h
    exact ⟨a, e, r.imp (fun ⟨o, z⟩ => ⟨o, l.z _ _ z⟩) id⟩
theorem Reps.mono {K : Kc} {R R' : Rc} (l : Le R R') : ∀ (ds : List D) (vs : List V), Reps K R ds vs → Reps K R' ds vs
  | [], vs, h => h
  | d :: ds, vs, h => by
    obtain ⟨v, r, e, p, q⟩ := h
    exact ⟨v, r, e, Rep.mono l d v p, Reps.mono l ds r q⟩
end
section
variable {K : Kc} {R : Rc}
theorem Reps.length : ∀ {ds : List D} {vs : List V}, Reps K R ds vs → vs.length = ds.length
  | [], vs, h => by rw [show vs = [] from h]; rfl
  | d :: ds, vs, h => by
    obtain ⟨v, r, rfl, _, q⟩ := h
    simp [Reps.length q]
theorem Reps.get : ∀ {ds : List D} {vs : List V} {i : Nat} {d : D}, Reps K R ds vs → ds[i]? = some d → ∃ v, vs[i]? = some v ∧ Rep K R d v
  | [], vs, i, d, h, e => by simp at e
  | d :: ds, vs, 0, x, h, e => by
    obtain ⟨v, r, rfl, p, _⟩ := h
    simp at e; subst e
    exact ⟨v, rfl, p⟩
  | d :: ds, vs, i + 1, x, h, e => by
    obtain ⟨v, r, rfl, _, q⟩ := h
    obtain ⟨u, e1, p⟩ := Reps.get (i := i) q (by simpa using e)
    exact ⟨u, by simpa using e1, p⟩
theorem Reps.append : ∀ {ds es : List D} {vs ws : List V}, Reps K R ds vs → Reps K R es ws → Reps K R (ds ++ es) (vs ++ ws)
  | [], es, vs, ws, h, q => by rw [show vs = [] from h]; exact q
  | d :: ds, es, vs, ws, h, q => by
    obtain ⟨v, r, rfl, p, p'⟩ := h
    exact ⟨v, r ++ ws, rfl, p, Reps.append p' q⟩
theorem Reps.one {d : D} {v : V} (h : Rep K R d v) : Reps K R [d] [v] := ⟨v, [], rfl, h, rfl⟩
theorem Reps.take : ∀ {ds : List D} {vs : List V} (n : Nat), Reps K R ds vs → Reps K R (ds.take n) (vs.take n)
  | ds, vs, 0, h => by simp [Reps]
  | [], vs, n + 1, h => by rw [show vs = [] from h]; simp [Reps]
  | d :: ds, vs, n + 1, h => by
    obtain ⟨v, r, rfl, p, p'⟩ := h
    exact ⟨v, r.take n, rfl, p, Reps.take n p'⟩
theorem Reps.drop : ∀ {ds : List D} {vs : List V} (n : Nat), Reps K R ds vs → Reps K R (ds.drop n) (vs.drop n)
  | ds, vs, 0, h => by simpa using h
  | [], vs, n + 1, h => by rw [show vs = [] from h]; simp [Reps]
  | d :: ds, vs, n + 1, h => by
    obtain ⟨v, r, rfl, p, p'⟩ := h
    simpa using Reps.drop n p'
theorem Reps.set : ∀ {ds : List D} {vs : List V} (i : Nat) {d : D} {v : V}, Reps K R ds vs → Rep K R d v → Reps K R (ds.set i d) (vs.set i v)
  | [], vs, i, d, v, h, q => by rw [show vs = [] from h]; simp [Reps]
  | e :: ds, vs, 0, d, v, h, q => by
    obtain ⟨w, r, rfl, p, p'⟩ := h
    exact ⟨v, r, rfl, q, p'⟩
  | e :: ds, vs, i + 1, d, v, h, q => by
    obtain ⟨w, r, rfl, p, p'⟩ := h
    exact ⟨w, r.set i v, rfl, p, Reps.set i p' q⟩
theorem Reps.ints : ∀ {ns : List Int} {vs : List V}, Reps K R (ns.map D.int) vs → vs = ns.map V.int
  | [], vs, h => h
  | n :: ns, vs, h => by
    obtain ⟨v, r, rfl, p, q⟩ := h
    rw [show v = V.int n from p, Reps.ints q]
    rfl
theorem Reps.of_ints : ∀ ns : List Int, Reps K R (ns.map D.int) (ns.map V.int)
  | [] => rfl
  | n :: ns => ⟨_, _, rfl, rfl, Reps.of_ints ns⟩
end

/-- what a dict is -/
def DctO (K : Kc) (R : Rc) (t : Bool) (ks vs : List D) (o : HO) : Prop := ∃ ws, Reps K R vs ws ∧
  ((t = false ∧ ∃ kk : List L2.Key, o = .dK (kk.zip ws) ∧ kk.length = ws.length ∧ ks.map D.key = kk.map some) ∨
   (t = true ∧ ∃ kk : List (List L2.Key), o = .dT (kk.zip ws) ∧ kk.length = ws.length ∧ ks.map D.keyT = kk.map some))
theorem DctO.mono {K : Kc} {R R' : Rc} (l : Le R R') {t : Bool} {ks vs : List D} {o : HO} (h : DctO K R t ks vs o) : DctO K R' t ks vs o := by
  obtain ⟨ws, r, q⟩ := h
  exact ⟨ws, r.mono l, q⟩
theorem DctO.rep {K : Kc} {R : Rc} {t : Bool} {ks vs : List D} {o : HO} {a : Addr} (h : DctO K R t ks vs o) (z : RdZ R a o) : Rep K R (.dct t ks vs) (.ref a) := by
  obtain ⟨ws, r, q⟩ := h
  refine ⟨a, ws, rfl, r, ?_⟩
  rcases q with ⟨t, kk, e, q⟩ | ⟨t, kk, e, q⟩
  · exact .inl ⟨t, kk, by rw [← e]; exact z, q⟩
  · exact .inr ⟨t, kk, by rw [← e]; exact z, q⟩
theorem Rep.dctO {K : Kc} {R : Rc} {t : Bool} {ks vs : List D} {v : V} (h : Rep K R (.dct t ks vs) v) : ∃ a o, v = .ref a ∧ RdZ R a o ∧ DctO K R t ks vs o := by
  obtain ⟨a, ws, e, r, q⟩ := h
  rcases q with ⟨t, kk, z, q⟩ | ⟨t, kk, z, q⟩
  · exact ⟨a, _, e, z, ws, r, .inl ⟨t, kk, rfl, q⟩⟩
  · exact ⟨a, _, e, z, ws, r, .inr ⟨t, kk, rfl, q⟩⟩
/-- what a list (a dict) that one name holds is -/
def CR (K : Kc) (R : Rc) : D → HO → Prop
  | .lst ds, o => ∃ vs, o = .lst vs ∧ Reps K R ds vs
  | .dct t ks vs, o => DctO K R t ks vs o
  | _, _ => False
theorem CR.mono {K : Kc} {R R' : Rc} (l : Le R R') {d : D} {o : HO} (h : CR K R d o) : CR K R' d o := by
  cases d with
  | lst ds =>
    obtain ⟨vs, e, r⟩ := h
    exact ⟨vs, e, r.mono l⟩
  | dct t ks vs => exact DctO.mono l h
  | _ => exact h.elim
theorem CR.not_tup {K : Kc} {R : Rc} {d : D} {vs : List V} (h : CR K R d (.tup vs)) : False := by
  cases d with
  | lst ds => obtain ⟨_, e, _⟩ := h; cases e
  | dct t ks us => obtain ⟨ws, _, ⟨_, kk, e, _⟩ | ⟨_, kk, e, _⟩⟩ := h <;> cases e
  | _ => exact h.elim
def SlR (K : Kc) (R : Rc) (H : Hp) (w : Option Addr) : Sl → V → Prop
  | .pl d, v => w = none ∧ Rep K R d v
  | .own d, v => ∃ a o, v = .ref a ∧ w = some a ∧ H a = some o ∧ CR K R d o
def FsR (K : Kc) (R : Rc) : List (String × D) → List (Str × V) → Prop
  | [], vs => vs = []
  | p :: ps, vs => ∃ v r, vs = (Str.ofString p.1, v) :: r ∧ Rep K R p.2 v ∧ FsR K R ps r
def ObjR (K : Kc) (R : Rc) (H : Hp) (a : Addr) : Obj → Prop
  | .lst ds => ∃ vs, H a = some (.lst vs) ∧ Reps K R ds vs
  | .ins c fs => ∃ dx vs, H a = some (.ins (K.cl c) dx vs) ∧ FsR K R fs vs
  | .dct t ks vs => ∃ o, H a = some o ∧ DctO K R t ks vs o
theorem FsR.mono {K : Kc} {R R' : Rc} (l : Le R R') : ∀ {ps : List (String × D)} {vs : List (Str × V)}, FsR K R ps vs → FsR K R' ps vs
  | [], vs, h => h
  | p :: ps, vs, h => by
    obtain ⟨v, r, e, a, b⟩ := h
    exact ⟨v, r, e, a.mono l, FsR.mono l b⟩
theorem ObjR.mono {K : Kc} {R R' : Rc} (l : Le R R') {H H' : Hp} {a : Addr} {ob : Obj} (e : ∀ o, H a = some o → H' a = some o) (h : ObjR K R H a ob) : ObjR K R' H' a ob := by
  cases ob with
  | lst ds => obtain ⟨vs, p, q⟩ := h; exact ⟨vs, e _ p, q.mono l⟩
  | ins c fs => obtain ⟨dx, vs, p, q⟩ := h; exact ⟨dx, vs, e _ p, q.mono l⟩
  | dct t ks vs => obtain ⟨o, p, q⟩ := h; exact ⟨o, e _ p, q.mono l⟩

/-- the part of the relation that no name takes part in -/
structure GR (K : Kc) (R : Rc) (S : Store) (H : Hp) : Prop where
  zh : ∀ a o, R.Z a = some o → H a = some o
  sl : S.length = R.ρ.length
  st : ∀ (j : Nat) (ob : Obj), S[j]? = some ob → ∃ a, R.ρ[j]? = some a ∧ ObjR K R H a ob
  ρz : ∀ a, a ∈ R.ρ → R.Z a = none
  ρn : R.ρ.Nodup
  ρh : ∀ a, a ∈ R.ρ → ∃ o, H a = some o
abbrev Om := Nat → Option Addr
structure SR (K : Kc) (R : Rc) (ω : Om) (ε : Env) (S : Store) (σ : L2.St) (H : Hp) : Prop where
  g : GR K R S H
  len : ε.length = σ.length
  sl : ∀ i s, slot ε i = some s → ∃ v, σ[i]? = some (some v) ∧ SlR K R H (ω i) s v
  oz : ∀ i a, ω i = some a → R.Z a = none
  oρ : ∀ i a, ω i = some a → a ∉ R.ρ
  oi : ∀ i j a, ω i = some a → ω j = some a → i = j
  oh : ∀ i a, ω i = some a → ∃ o, H a = some o
  on : ∀ i a, ω i = some a → ∃ d, slot ε i = some (.own d)

/-- what a step may do -/
structure Ex (R : Rc) (ω : Om) (H : Hp) (R' : Rc) (ω' : Om) (H' : Hp) : Prop where
  le : Le R R'
  al : ∀ a o, H a = some o → ∃ o', H' a = some o'
  fr : ∀ a o, H a = some o → a ∉ R.ρ → (∀ i, ω i ≠ some a) → H' a = some o
  zn : ∀ a o, R'.Z a = some o → R.Z a = some o ∨ H a = none ∨ (∃ i, ω i = some a) ∨ a ∈ R.ρ ∨ ∃ vs, H a = some (.tup vs)
  ρn : ∀ a, a ∈ R'.ρ → a ∈ R.ρ ∨ H a = none ∨ ∃ i, ω i = some a
  ωn : ∀ i a, ω' i = some a → (∃ j, ω j = some a) ∨ H a = none
theorem Ex.refl (R : Rc) (ω : Om) (H : Hp) : Ex R ω H R ω H :=
  ⟨.refl R, fun _ o h => ⟨o, h⟩, fun _ _ h _ _ => h, fun _ _ h => .inl h, fun _ h => .inl h, fun i _ h => .inl ⟨i, h⟩⟩
theorem Ex.back {R : Rc} {ω : Om} {H : Hp} {R1 : Rc} {ω1 : Om} {H1 : Hp} (a : Ex R ω H R1 ω1 H1) {x : Addr} (h : H1 x = none) : H x = none := by
  cases q : H x with
  | none => rfl
  | some o =>
    obtain ⟨o', e⟩ := a.al x o q
    rw [h] at e; cases e
theorem Ex.trans {R : Rc} {ω : Om} {H : Hp} {R1 : Rc} {ω1 : Om} {H1 : Hp} {R2 : Rc} {ω2 : Om} {H2 : Hp} (a : Ex R ω H R1 ω1 H1) (b : Ex R1 ω1 H1 R2 ω2 H2) : Ex R ω H R2 ω2 H2 where
  le := a.le.trans b.le
  al := fun x o h => let ⟨o1, e⟩ := a.al x o h; b.al x o1 e
  fr := fun x o h n m => by
    refine b.fr x o (a.fr x o h n m) (fun z => ?_) fun i z => ?_
    · rcases a.ρn x z with q | q | ⟨i, q⟩
      · exact n q
      · rw [h] at q; cases q
      · exact m i q
    · rcases a.ωn i x z with ⟨j, q⟩ | q
      · exact m j q
      · rw [h] at q; cases q
  zn := fun x o h => by
    rcases b.zn x o h with q | q | ⟨i, q⟩ | q | ⟨vs, q⟩
    · exact a.zn x o q
    · exact .inr (.inl (a.back q))
    · rcases a.ωn i x q with q | q
      · exact .inr (.inr (.inl q))
      · exact .inr (.inl q)
    · rcases a.ρn x q with q | q | q
      · exact .inr (.inr (.inr (.inl q)))
      · exact .inr (.inl q)
      · exact .inr (.inr (.inl q))
    · cases e : H x with
      | none => exact .inr (.inl rfl)
      | some u =>
        by_cases n : x ∈ R.ρ
        · exact .inr (.inr (.inr (.inl n)))
        · by_cases m : ∃ i, ω i = some x
          · exact .inr (.inr (.inl m))
          · have z := a.fr x u e n fun i hi => m ⟨i, hi⟩
            rw [q] at z
            cases z
            exact .inr (.inr (.inr (.inr ⟨vs, rfl⟩)))
  ρn := fun x h => by
    rcases b.ρn x h with q | q | ⟨i, q⟩
    · exact a.ρn x q
    · exact .inr (.inl (a.back q))
    · rcases a.ωn i x q with q | q
      · exact .inr (.inr q)
      · exact .inr (.inl q)
  ωn := fun i x h => by
    rcases b.ωn i x h with ⟨j, q⟩ | q
    · exact a.ωn j x q
    · exact .inr (a.back q)

/-- a value, over the state at its start -/
def RVR (K : Kc) (ω0 : Om) (H0 : Hp) (R : Rc) (ω : Om) (H : Hp) (σ : L2.St) : RV → V → Prop
  | .pl d, v => Rep K R d v
  | .fr d, v => ∃ a o, v = .ref a ∧ H a = some o ∧ CR K R d o ∧ R.Z a = none ∧ a ∉ R.ρ ∧ (∀ i, ω i ≠ some a) ∧ (H0 a = none ∨ ∃ i, ω0 i = some a)
  | .bor i, v => σ[i]? = some (some v)
/-- a value's content -/
def VR (K : Kc) (R : Rc) (H : Hp) (d : D) (v : V) : Prop := Rep K R d v ∨ ∃ a o, v = .ref a ∧ H a = some o ∧ CR K R d o
section
variable {K : Kc} {R R' : Rc} {ω ω' ω0 : Om} {H H' H0 : Hp} {σ : L2.St} {ε ε' : Env} {S : Store}
theorem RVR.keep {r : RV} {v : V} (h : RVR K ω0 H0 R ω H σ r v) (x : Ex R ω H R' ω' H') : RVR K ω0 H0 R' ω' H' σ r v := by
  cases r with
  | pl d => exact Rep.mono x.le d v h
  | bor i => exact h
  | fr d =>
    obtain ⟨a, o, e, ho, c, z, n, m, w⟩ := h
    refine ⟨a, o, e, x.fr a o ho n m, c.mono x.le, ?_, fun q => ?_, fun i q => ?_, w⟩
    · cases q : R'.Z a with
      | none => rfl
      | some o' =>
        rcases x.zn a o' q with q | q | ⟨i, q⟩ | q | ⟨vs, q⟩
        · rw [z] at q; cases q
        · rw [ho] at q; cases q
        · exact absurd q (m i)
        · exact absurd q n
        · rw [ho] at q; cases q; exact c.not_tup.elim
    · rcases x.ρn a q with q | q | ⟨i, q⟩
      · exact n q
      · rw [ho] at q; cases q
      · exact m i q
    · rcases x.ωn i a q with ⟨j, q⟩ | q
      · exact m j q
      · rw [ho] at q; cases q
theorem RVR.start {ω1 : Om} {H1 : Hp} {R1 : Rc} {r : RV} {v : V} (h : RVR K ω1 H1 R ω H σ r v) (x : Ex R1 ω0 H0 R' ω1 H1) : RVR K ω0 H0 R ω H σ r v := by
  cases r with
  | pl d => exact h
  | bor i => exact h
  | fr d =>
    obtain ⟨a, o, e, ho, c, z, n, m, w⟩ := h
    refine ⟨a, o, e, ho, c, z, n, m, ?_⟩
    rcases w with w | ⟨i, w⟩
    · exact .inl (x.back w)
    · exact (x.ωn i a w).symm
theorem RVR.vr {r : RV} {v : V} {d : D} (h : RVR K ω0 H0 R ω H σ r v) (s : SR K R ω ε S σ H) (e : r.get ε = .ok d) : VR K R H d v := by
  cases r with
  | pl x => cases e; exact .inl h
  | fr x =>
    cases e
    obtain ⟨a, o, e, ho, c, _⟩ := h
    exact .inr ⟨a, o, e, ho, c⟩
  | bor i =>
    have h' : σ[i]? = some (some v) := h
    cases q : slot ε i with
    | none => simp [RV.get, q] at e
    | some t =>
      obtain ⟨u, e1, p⟩ := s.sl i t q
      rw [h'] at e1; cases e1
      cases t with
      | pl x =>
        simp [RV.get, q] at e; subst e
        exact .inl p.2
      | own x =>
        simp [RV.get, q] at e; subst e
        obtain ⟨a, o, e, _, ho, c⟩ := p
        exact .inr ⟨a, o, e, ho, c⟩

structure Gw (R : Rc) (H : Hp) (R' : Rc) (H' : Hp) : Prop where
  le : Le R R'
  ρ : R'.ρ = R.ρ
  sm : ∀ a o, H a = some o → H' a = some o
  zn : ∀ a o, R'.Z a = some o → R.Z a = some o ∨ H a = none ∨ ∃ vs, H a = some (.tup vs)
  zh : ∀ a o, R'.Z a = some o → R.Z a = some o ∨ H' a = some o
theorem Gw.refl (R : Rc) (H : Hp) : Gw R H R H := ⟨.refl R, rfl, fun _ _ h => h, fun _ _ h => .inl h, fun _ _ h => .inl h⟩
theorem Gw.ex (x : Gw R H R' H') (ω : Om) : Ex R ω H R' ω H' :=
  ⟨x.le, fun a o h => ⟨o, x.sm a o h⟩, fun a o h _ _ => x.sm a o h, fun a o h => (x.zn a o h).imp id (Or.imp id fun q => .inr (.inr q)), fun a h => .inl (by rw [x.ρ] at h; exact h), fun i a h => .inl ⟨i, h⟩⟩
theorem ObjR.not_tup {a : Addr} {ob : Obj} {vs : List V} (h : ObjR K R H a ob) (e : H a = some (.tup vs)) : False := by
  cases ob with
  | lst ds => obtain ⟨us, p, _⟩ := h; rw [e] at p; cases p
  | ins c fs => obtain ⟨dx, us, p, _⟩ := h; rw [e] at p; cases p
  | dct t ks us =>
    obtain ⟨o, p, q⟩ := h
    rw [e] at p; cases p
    obtain ⟨ws, _, ⟨_, kk, e, _⟩ | ⟨_, kk, e, _⟩⟩ := q <;> cases e
theorem GR.not_tup {a : Addr} {vs : List V} (g : GR K R S H) (m : a ∈ R.ρ) (e : H a = some (.tup vs)) : False := by
  obtain ⟨j, hj, ej⟩ := List.mem_iff_getElem.mp m
  have hs : j < S.length := by rw [g.sl]; exact hj
  obtain ⟨b, eb, q⟩ := g.st j _ (List.getElem?_eq_getElem hs)
  rw [List.getElem?_eq_getElem hj, ej] at eb
  cases eb
  exact q.not_tup e
theorem SR.not_tup {a : Addr} {i : Nat} {vs : List V} (s : SR K R ω ε S σ H) (m : ω i = some a) (e : H a = some (.tup vs)) : False := by
  obtain ⟨d, hd⟩ := s.on i a m
  obtain ⟨v, _, b, o, _, e2, e3, c⟩ := s.sl i _ hd
  rw [m] at e2; cases e2
  rw [e] at e3; cases e3
  exact c.not_tup
theorem Gw.gr (x : Gw R H R' H') (g : GR K R S H) : GR K R' S H' where
  zh := fun a o h => (x.zh a o h).elim (fun q => x.sm a o (g.zh a o q)) id
  sl := by rw [x.ρ]; exact g.sl
  st := fun j ob h => by
    obtain ⟨a, e, q⟩ := g.st j ob h
    exact ⟨a, by rw [x.ρ]; exact e, q.mono x.le fun o => x.sm a o⟩
  ρz := fun a h => by
    rw [x.ρ] at h
    cases q : R'.Z a with
    | none => rfl
    | some o =>
      rcases x.zn a o q with q | q | ⟨vs, q⟩
      · rw [g.ρz a h] at q; cases q
      · obtain ⟨o', e⟩ := g.ρh a h
        rw [e] at q; cases q
      · exact (g.not_tup h q).elim
  ρn := by rw [x.ρ]; exact g.ρn
  ρh := fun a h => by
    rw [x.ρ] at h
    obtain ⟨o, e⟩ := g.ρh a h
    exact ⟨o, x.sm a o e⟩
theorem SlR.gw (x : Gw R H R' H') {w : Option Addr} {s : Sl} {v : V} (h : SlR K R H w s v) : SlR K R' H' w s v := by
  cases s with
  | pl d => exact ⟨h.1, Rep.mono x.le d v h.2⟩
  | own d =>
    obtain ⟨a, o, e, e2, ho, c⟩ := h
    exact ⟨a, o, e, e2, x.sm a o ho, c.mono x.le⟩
theorem Gw.sr (x : Gw R H R' H') (s : SR K R ω ε S σ H) : SR K R' ω ε S σ H' where
  g := x.gr s.g
  len := s.len
  sl := fun i t h => let ⟨v, e, q⟩ := s.sl i t h; ⟨v, e, q.gw x⟩
  oz := fun i a h => by
    cases q : R'.Z a with
    | none => rfl
    | some o =>
      rcases x.zn a o q with q | q | ⟨vs, q⟩
      · rw [s.oz i a h] at q; cases q
      · obtain ⟨o', e⟩ := s.oh i a h
        rw [e] at q; cases q
      · exact (s.not_tup h q).elim
  oρ := fun i a h => by rw [x.ρ]; exact s.oρ i a h
  oi := s.oi
  oh := fun i a h => let ⟨o, e⟩ := s.oh i a h; ⟨o, x.sm a o e⟩
  on := s.on
/-- tuples that stand there are told -/
def Rc.tellT (R : Rc) (H : Hp) (bs : List Addr) : Rc := { R with Z := fun b => if b ∈ bs then H b else R.Z b }
theorem Gw.tellT {bs : List Addr} (zh : ∀ a o, R.Z a = some o → H a = some o) (h : ∀ b, b ∈ bs → ∃ vs, H b = some (.tup vs)) : Gw R H (R.tellT H bs) H := by
  refine ⟨⟨fun a o e => ?_, List.prefix_refl _⟩, rfl, fun _ _ e => e, fun a o e => ?_, fun a o e => ?_⟩
  · show (if a ∈ bs then H a else R.Z a) = some o
    split
    · exact zh a o e
    · exact e
  · have e' : (if a ∈ bs then H a else R.Z a) = some o := e
    split at e'
    · rename_i m; exact .inr (.inr (h a m))
    · exact .inl e'
  · have e' : (if a ∈ bs then H a else R.Z a) = some o := e
    split at e'
    · exact .inr e'
    · exact .inl e'
/-- a new object, not told -/
theorem Gw.new {p : Addr} {o : HO} (n : H p = none) : Gw R H R (upd H p o) :=
  ⟨.refl R, rfl, fun a o' h => by rw [upd_ne (ne_of_none h n)]; exact h, fun _ _ h => .inl h, fun _ _ h => .inl h⟩
def Rc.tell (R : Rc) (p : Addr) (o : HO) : Rc := { R with Z := fun b => if b = p then some o else R.Z b }
theorem tell_at {p : Addr} {o : HO} : (R.tell p o).Z p = some o := by simp [Rc.tell]
theorem tell_ne {p b : Addr} {o : HO} (h : b ≠ p) : (R.tell p o).Z b = R.Z b := by simp [Rc.tell, h]
theorem tell_le {p : Addr} {o : HO} (h : R.Z p = none) : Le R (R.tell p o) :=
  ⟨fun a o' e => by rw [tell_ne (fun z => by rw [z, h] at e; cases e)]; exact e, List.prefix_refl _⟩
theorem GR.free {S : Store} (g : GR K R S H) {p : Addr} (n : H p = none) : R.Z p = none := by
  cases q : R.Z p with
  | none => rfl
  | some o => rw [g.zh p o q] at n; cases n
/-- a new object, told -/
theorem Gw.tell {p : Addr} {o : HO} (n : H p = none) (z : R.Z p = none) : Gw R H (R.tell p o) (upd H p o) := by
  refine ⟨tell_le z, rfl, fun a o' h => by rw [upd_ne (ne_of_none h n)]; exact h, fun a o' h => ?_, fun a o' h => ?_⟩
  · by_cases e : a = p
    · subst e; exact .inr (.inl n)
    · rw [tell_ne e] at h; exact .inl h
  · by_cases e : a = p
    · subst e; rw [tell_at] at h; cases h; exact .inr upd_same
    · rw [tell_ne e] at h; exact .inl h
theorem Gw.trans {R2 : Rc} {H2 : Hp} (a : Gw R H R' H') (b : Gw R' H' R2 H2) : Gw R H R2 H2 where
  le := a.le.trans b.le
  ρ := b.ρ.trans a.ρ
  sm := fun x o h => b.sm x o (a.sm x o h)
  zn := fun x o h => by
    rcases b.zn x o h with q | q | ⟨vs, q⟩
    · exact a.zn x o q
    · right
      left
      cases q2 : H x with
      | none => rfl
      | some o' => rw [a.sm x o' q2] at q; cases q
    · right
      cases q2 : H x with
      | none => exact .inl rfl
      | some o' => rw [a.sm x o' q2] at q; cases q; exact .inr ⟨vs, rfl⟩
  zh := fun x o h => by
    rcases b.zh x o h with q | q
    · exact (a.zh x o q).imp id fun q => b.sm x o q
    · exact .inr q

theorem SR.tell {a : Addr} {o : HO} (s : SR K R ω ε S σ H) (ho : H a = some o) (n : a ∉ R.ρ) (m : ∀ i, ω i ≠ some a) : SR K (R.tell a o) ω ε S σ H := by
  by_cases zz : R.Z a = none
  · have l : Le R (R.tell a o) := tell_le zz
    exact {
      g := {
        zh := fun b o' h => by
          by_cases e : b = a
          · subst e; rw [tell_at] at h; cases h; exact ho
          · rw [tell_ne e] at h; exact s.g.zh b o' h
        sl := s.g.sl
        st := fun j ob h => let ⟨b, e, q⟩ := s.g.st j ob h; ⟨b, e, q.mono l fun _ h => h⟩
        ρz := fun b h => (tell_ne fun z => n (by rw [← z]; exact h)).trans (s.g.ρz b h)
        ρn := s.g.ρn
        ρh := s.g.ρh }
      len := s.len
      sl := fun i t h => by
        obtain ⟨v, e, q⟩ := s.sl i t h
        refine ⟨v, e, ?_⟩
        cases t with
        | pl d => exact ⟨q.1, Rep.mono l d v q.2⟩
        | own d =>
          obtain ⟨b, o', e1, e2, e3, c⟩ := q
          exact ⟨b, o', e1, e2, e3, c.mono l⟩
      oz := fun i b h => (tell_ne fun z => m i (by rw [← z]; exact h)).trans (s.oz i b h)
      oρ := s.oρ
      oi := s.oi
      oh := s.oh
      on := s.on }
  · have e : R.tell a o = R := by
      have : (fun b => if b = a then some o else R.Z b) = R.Z := by
        funext b
        by_cases e : b = a
        · subst e
          rw [if_pos rfl]
          cases q : R.Z b with
          | none => exact absurd q zz
          | some o' =>
            have := s.g.zh b o' q
            rw [ho] at this; cases this; rfl
        · rw [if_neg e]
      unfold Rc.tell
      rw [this]
    rw [e]; exact s
theorem rep_tell {a : Addr} {o : HO} {d : D} (c : CR K R d o) (l : Le R (R.tell a o)) : Rep K (R.tell a o) d (.ref a) := by
  cases d with
  | lst ds =>
    obtain ⟨vs, e, r⟩ := c
    subst e
    exact ⟨a, vs, rfl, tell_at, r.mono l⟩
  | dct t ks vs => exact DctO.rep (DctO.mono l c) (.inl tell_at)
  | _ => exact c.elim
theorem slot_set {ε : Env} {i j : Nat} {x : Option Sl} : slot (ε.set i x) j = if i = j then (if i < ε.length then x else none) else slot ε j := by
  unfold slot
  rw [List.getElem?_set]
  split
  · subst_vars
    split
    · rename_i h; simp [h]
    · rename_i h; simp [h]
  · rfl
theorem slot_lt {ε : Env} {i : Nat} {s : Sl} (h : slot ε i = some s) : i < ε.length := by
  unfold slot at h
  cases q : ε[i]? with
  | none => rw [q] at h; cases h
  | some t => exact (List.getElem?_eq_some_iff.mp q).1
def Om.off (ω : Om) (i : Nat) : Om := fun j => if j = i then none else ω j
theorem off_some {ω : Om} {i j : Nat} {a : Addr} (h : ω.off i j = some a) : j ≠ i ∧ ω j = some a := by
  unfold Om.off at h
  split at h
  · cases h
  · rename_i q; exact ⟨q, h⟩
theorem off_ne {ω : Om} {i j : Nat} (h : j ≠ i) : ω.off i j = ω j := by unfold Om.off; rw [if_neg h]
theorem off_same {ω : Om} {i : Nat} : ω.off i i = none := by unfold Om.off; rw [if_pos rfl]
/-- a slot is forgotten -/
theorem SR.forget (s : SR K R ω ε S σ H) (i : Nat) : SR K R (ω.off i) (ε.set i none) S σ H where
  g := s.g
  len := by rw [List.length_set]; exact s.len
  sl := fun j t h => by
    rw [slot_set] at h
    split at h
    · split at h <;> cases h
    · rename_i q
      rw [off_ne (Ne.symm q)]
      exact s.sl j t h
  oz := fun j a h => s.oz j a (off_some h).2
  oρ := fun j a h => s.oρ j a (off_some h).2
  oi := fun j k a h h' => s.oi j k a (off_some h).2 (off_some h').2
  oh := fun j a h => s.oh j a (off_some h).2
  on := fun j a h => by
    obtain ⟨d, e⟩ := s.on j a (off_some h).2
    exact ⟨d, by rw [slot_set, if_neg (Ne.symm (off_some h).1)]; exact e⟩
/-- a slot that holds data is told so -/
theorem SR.plain (s : SR K R ω ε S σ H) {i : Nat} {d : D} {v : V} (hσ : σ[i]? = some (some v)) (hw : ω i = none) (r : Rep K R d v) : SR K R ω (ε.set i (some (.pl d))) S σ H where
  g := s.g
  len := by rw [List.length_set]; exact s.len
  sl := fun j t h => by
    rw [slot_set] at h
    split at h
    · rename_i q
      subst q
      split at h
      · cases h
        exact ⟨v, hσ, hw, r⟩
      · cases h
    · exact s.sl j t h
  oz := s.oz
  oρ := s.oρ
  oi := s.oi
  oh := s.oh
  on := fun j a h => by
    obtain ⟨d', e⟩ := s.on j a h
    have hj : i ≠ j := fun z => by rw [z, h] at hw; cases hw
    exact ⟨d', by rw [slot_set, if_neg hj]; exact e⟩
theorem set_set {ε : Env} {i : Nat} {x y : Option Sl} : (ε.set i x).set i y = ε.set i y := by simp
theorem Ex.tell {R1 : Rc} {a : Addr} {o : HO} (x : Ex R1 ω0 H0 R ω H) (ho : H a = some o) (z : R.Z a = none) (w : H0 a = none ∨ ∃ i, ω0 i = some a) (hω : ∀ i b, ω' i = some b → ω i = some b) : Ex R1 ω0 H0 (R.tell a o) ω' H where
  le := x.le.trans (tell_le z)
  al := x.al
  fr := x.fr
  zn := fun b o' h => by
    by_cases e : b = a
    · subst e; exact .inr (w.imp id .inl)
    · rw [tell_ne e] at h; exact x.zn b o' h
  ρn := x.ρn
  ωn := fun i b h => x.ωn i b (hω i b h)
/-- a value as data -/
theorem RVR.fix {R1 : Rc} {r : RV} {v : V} {d : D} (h : RVR K ω0 H0 R ω H σ r v) (s : SR K R ω ε S σ H) (x : Ex R1 ω0 H0 R ω H) (e : r.fix ε = .ok (d, ε')) :
    ∃ R2 ω2, Ex R1 ω0 H0 R2 ω2 H ∧ SR K R2 ω2 ε' S σ H ∧ Rep K R2 d v := by
  cases r with
  | pl y =>
    cases e
    exact ⟨R, ω, x, s, h⟩
  | fr y =>
    cases e
    obtain ⟨a, o, e, ho, c, z, n, m, w⟩ := h
    subst e
    exact ⟨R.tell a o, ω, x.tell ho z w fun _ _ h => h, s.tell ho n m, rep_tell c (tell_le z)⟩
  | bor i =>
    have h' : σ[i]? = some (some v) := h
    cases q : slot ε i with
    | none => simp [RV.fix, q] at e
    | some t =>
      obtain ⟨u, e1, p⟩ := s.sl i t q
      rw [h'] at e1; cases e1
      cases t with
      | pl y =>
        simp [RV.fix, q] at e
        obtain ⟨rfl, rfl⟩ := e
        exact ⟨R, ω, x, s, p.2⟩
      | own y =>
        simp [RV.fix, q] at e
        obtain ⟨rfl, rfl⟩ := e
        obtain ⟨a, o, rfl, e2, ho, c⟩ := p
        have z := s.oz i a e2
        have s1 := (s.forget i).tell (a := a) (o := o) ho (s.oρ i a e2) fun j e3 => (off_some e3).1 (s.oi j i a (off_some e3).2 e2)
        refine ⟨R.tell a o, ω.off i, x.tell ho z ?_ fun j b h => (off_some h).2, ?_, rep_tell c (tell_le z)⟩
        · exact (x.ωn i a e2).symm
        · have s2 := s1.plain (i := i) (v := .ref a) h' off_same (rep_tell c (tell_le z))
          rw [set_set] at s2
          exact s2
end
end Mp

namespace Mp
open PySem PySem.Spec PyProof.Rows L2

abbrev kx (X : Cx) (cl : Nat → Addr) : Kc := ⟨X.K, cl⟩
section
variable {X : Cx}
theorem PE.im {e : Expr} {t t' : TE} (h : PE X e t) (i : ∀ σ H Q, t' σ H Q → t σ H Q) : PE X e t' := ⟨fun pins s σ H Q I hw => h.run pins s σ H Q I (i σ H Q hw)⟩
theorem PT.im {e : Expr} {t t' : TT} (h : PT X e t) (i : ∀ σ H Q, t' σ H Q → t σ H Q) : PT X e t' := ⟨fun pins s σ H Q I hw => h.run pins s σ H Q I (i σ H Q hw)⟩
theorem PW.im {e : Expr} {t t' : TT} (h : PW X e t) (i : ∀ σ H Q, t' σ H Q → t σ H Q) : PW X e t' := ⟨fun wh pins s σ H Q I hw => h.run wh pins s σ H Q I (i σ H Q hw)⟩
theorem PA.im {es : List Expr} {t t' : TA} (h : PA X es t) (i : ∀ σ H Q, t' σ H Q → t σ H Q) : PA X es t' := ⟨fun pos pins s σ H Q I hw => h.run pos pins s σ H Q I (i σ H Q hw)⟩
theorem PS.im {st : Stmt} {t t' : TS} (h : PS X st t) (i : ∀ D σ H, t' D σ H → t D σ H) : PS X st t' := ⟨fun pins s σ H D I hw => h.run pins s σ H D I (i D σ H hw)⟩
theorem PSs.im {st : List Stmt} {t t' : TS} (h : PSs X st t) (i : ∀ D σ H, t' D σ H → t D σ H) : PSs X st t' := ⟨fun pins s σ H D I hw => h.run pins s σ H D I (i D σ H hw)⟩
theorem PG.im {e : Expr} {t t' : TG} (h : PG X e t) (i : ∀ v σ H Q, t' v σ H Q → t v σ H Q) : PG X e t' := ⟨fun pins s σ H v u Q I r hw => h.run pins s σ H v u Q I r (i v σ H Q hw)⟩
theorem PGs.im {es : List Expr} {t t' : TGs} (h : PGs X es t) (i : ∀ v σ H Q, t' v σ H Q → t v σ H Q) : PGs X es t' := ⟨fun pins s σ H vs us Q I r hw => h.run pins s σ H vs us Q I r (i vs σ H Q hw)⟩
theorem PI.im {tg iter : Expr} {t t' : TI} (h : PI X tg iter t) (i : ∀ σ H R, t' σ H R → t σ H R) : PI X tg iter t' := ⟨fun pins s σ H R I hw => h.run pins s σ H R I (i σ H R hw)⟩
end

def tOf (K : Kc) (E : Den) : TE := fun σ H Q => ∃ ε S R ω r ε' S', E ε S = .ok (r, ε', S') ∧ SR K R ω ε S σ H ∧
  ∀ v R' ω' H', Ex R ω H R' ω' H' → SR K R' ω' ε' S' σ H' → RVR K ω H R' ω' H' σ r v → Q v H'
def aOf (K : Kc) (A : ADen) : TA := fun σ H Q => ∃ ε S R ω ds ε' S', A ε S = .ok (ds, ε', S') ∧ SR K R ω ε S σ H ∧
  ∀ vs R' ω' H', Ex R ω H R' ω' H' → SR K R' ω' ε' S' σ H' → Reps K R' ds vs → Q vs H'
def cOf (K : Kc) (C : CDen) : TT := fun σ H Q => ∃ ε S R ω b ε' S', C ε S = .ok (b, ε', S') ∧ SR K R ω ε S σ H ∧
  ∀ R' ω' H', Ex R ω H R' ω' H' → SR K R' ω' ε' S' σ H' → Q b H'
def RetR (K : Kc) (ω0 : Om) (H0 : Hp) (R : Rc) (H : Hp) (f : Bool) (d : D) (v : V) : Prop :=
  if f = true then ∃ a o, v = .ref a ∧ H a = some o ∧ CR K R d o ∧ R.Z a = none ∧ a ∉ R.ρ ∧ (H0 a = none ∨ ∃ i, ω0 i = some a) else Rep K R d v
theorem RetR.plain {K : Kc} {ω0 : Om} {H0 : Hp} {R : Rc} {H : Hp} {d : D} {v : V} (h : Rep K R d v) : RetR K ω0 H0 R H false d v := by
  unfold RetR; rw [if_neg Bool.false_ne_true]; exact h
theorem RetR.fresh {K : Kc} {ω0 : Om} {H0 : Hp} {R : Rc} {H : Hp} {d : D} {v : V} (h : ∃ a o, v = .ref a ∧ H a = some o ∧ CR K R d o ∧ R.Z a = none ∧ a ∉ R.ρ ∧ (H0 a = none ∨ ∃ i, ω0 i = some a)) : RetR K ω0 H0 R H true d v := by
  unfold RetR; rw [if_pos rfl]; exact h
theorem RetR.start {K : Kc} {ω0 ω1 : Om} {H0 H1 H : Hp} {R R0 R1 : Rc} {f : Bool} {d : D} {v : V} (h : RetR K ω1 H1 R H f d v) (x : Ex R0 ω0 H0 R1 ω1 H1) : RetR K ω0 H0 R H f d v := by
  cases f with
  | false => exact .plain (by unfold RetR at h; rw [if_neg Bool.false_ne_true] at h; exact h)
  | true =>
    unfold RetR at h; rw [if_pos rfl] at h
    obtain ⟨a, o, e, ho, c, z, n, w⟩ := h
    refine .fresh ⟨a, o, e, ho, c, z, n, ?_⟩
    rcases w with w | ⟨i, w⟩
    · exact .inl (x.back w)
    · exact (x.ωn i a w).symm
def EndOk (K : Kc) (R : Rc) (ω : Om) (H : Hp) (D : Ends) : Out → Prop
  | .nx ε' S' => ∀ σ' R' ω' H', Ex R ω H R' ω' H' → SR K R' ω' ε' S' σ' H' → D.nx σ' H'
  | .bk ε' S' => ∀ σ' R' ω' H', Ex R ω H R' ω' H' → SR K R' ω' ε' S' σ' H' → D.bk σ' H'
  | .ct ε' S' => ∀ σ' R' ω' H', Ex R ω H R' ω' H' → SR K R' ω' ε' S' σ' H' → D.ct σ' H'
  | .rt f d S' => ∀ v R' ω' H', Ex R ω H R' ω' H' → GR K R' S' H' → RetR K ω H R' H' f d v → D.rt v H'
theorem EndOk.step {K : Kc} {R R1 : Rc} {ω ω1 : Om} {H H1 : Hp} {D : Ends} {o : Out} (x : Ex R ω H R1 ω1 H1) (h : EndOk K R ω H D o) : EndOk K R1 ω1 H1 D o := by
  cases o with
  | nx ε' S' => exact fun σ' R' ω' H' y s => h σ' R' ω' H' (x.trans y) s
  | bk ε' S' => exact fun σ' R' ω' H' y s => h σ' R' ω' H' (x.trans y) s
  | ct ε' S' => exact fun σ' R' ω' H' y s => h σ' R' ω' H' (x.trans y) s
  | rt f d S' => exact fun v R' ω' H' y g r => h v R' ω' H' (x.trans y) g (r.start x)
def sOf (K : Kc) (M : SDen) : TS := fun D σ H => ∃ ε S R ω o, M ε S = .ok o ∧ SR K R ω ε S σ H ∧ EndOk K R ω H D o
/-- the slots outside ts stay -/
def Stay (ts : List Nat) (σ σ' : L2.St) : Prop := σ'.length = σ.length ∧ ∀ j : Nat, j ∉ ts → σ'[j]? = σ[j]?
def gOf (K : Kc) (ts : List Nat) (T : TDen) : TG := fun v σ H Q => ∃ d ε S R ω ε', T d ε = .ok ε' ∧ SR K R ω ε S σ H ∧ Rep K R d v ∧
  ∀ σ' R' ω' H', Ex R ω H R' ω' H' → SR K R' ω' ε' S σ' H' → Stay ts σ σ' → Q σ' H'
def gsOf (K : Kc) (ts : List Nat) (T : TsDen) : TGs := fun vs σ H Q => ∃ ds ε S R ω ε', T ds ε = .ok ε' ∧ SR K R ω ε S σ H ∧ Reps K R ds vs ∧
  ∀ σ' R' ω' H', Ex R ω H R' ω' H' → SR K R' ω' ε' S σ' H' → Stay ts σ σ' → Q σ' H'
/-- an iterator that walks the items ds -/
structure JW (K : Kc) (R : Rc) (J : It) (ds : List D) : Prop where
  go : ∀ (i : Nat) (S : Store) (H : Hp) (R' : Rc), Le R R' → GR K R' S H → i < ds.length → J.go i H
  yl : ∀ (i : Nat) (S : Store) (H : Hp) (R' : Rc) (x : V) (H' : Hp) (d : D), Le R R' → GR K R' S H → ds[i]? = some d → J.yld i H x H' → ∃ R2, Gw R' H R2 H' ∧ Rep K R2 d x
  sp : ∀ (S : Store) (H : Hp) (R' : Rc), Le R R' → GR K R' S H → J.stop ds.length H
def iOf (K : Kc) (I : IDen) : TI := fun σ H C => ∃ ε S R ω ds ε' S', I ε S = .ok (ds, ε', S') ∧ SR K R ω ε S σ H ∧
  ∀ J R' ω' H', Ex R ω H R' ω' H' → SR K R' ω' ε' S' σ H' → JW K R' J ds → C J H'

/-- what an operator gives -/
def RNew (K : Kc) (H : Hp) (R' : Rc) (H' : Hp) : RV → V → Prop
  | .pl d, v => Rep K R' d v
  | .fr d, v => ∃ a o, v = .ref a ∧ H' a = some o ∧ CR K R' d o ∧ R'.Z a = none ∧ H a = none
  | .bor _, _ => False
theorem RNew.rvr {K : Kc} {R R' R0 : Rc} {ω ω0 : Om} {H H' H0 : Hp} {σ : L2.St} {ε : Env} {S : Store} {r : RV} {v : V} (s : SR K R ω ε S σ H) (x : Ex R0 ω0 H0 R ω H) (g : Gw R H R' H') (h : RNew K H R' H' r v) : RVR K ω0 H0 R' ω H' σ r v := by
  cases r with
  | pl d => exact h
  | bor i => exact h.elim
  | fr d =>
    obtain ⟨a, o, e, ho, c, z, n⟩ := h
    refine ⟨a, o, e, ho, c, z, fun q => ?_, fun i q => ?_, .inl (x.back n)⟩
    · rw [g.ρ] at q
      obtain ⟨o', e'⟩ := s.g.ρh a q
      rw [n] at e'; cases e'
    · obtain ⟨o', e'⟩ := s.oh i a q
      rw [n] at e'; cases e'
def OpOk (K : Kc) (f : D → D → Store → Rs RV) (r : R2) : Prop :=
  ∀ x y S rv v w R H Q, f x y S = .ok rv → GR K R S H → VR K R H x v → VR K R H y w → (∀ v' R' H', Gw R H R' H' → RNew K H R' H' rv v' → Q v' H') → r v w H Q
def UnOk (K : Kc) (f : D → Store → Rs RV) (r : V → Hp → VK → Prop) : Prop :=
  ∀ x S rv v R H Q, f x S = .ok rv → GR K R S H → VR K R H x v → (∀ v' R' H', Gw R H R' H' → RNew K H R' H' rv v' → Q v' H') → r v H Q
section
variable {X : Cx} {cl : Nat → Addr} {e a b c : Expr} {Ea Eb Ec : Den} {pos : Pos}
theorem ev_bin {f : D → D → Store → Rs RV} {r : R2} (h : PE X e (tOp r (tOf (kx X cl) Ea) (tOf (kx X cl) Eb))) (ok : OpOk (kx X cl) f r) : PE X e (tOf (kx X cl) (eBin f Ea Eb)) := by
  refine PE.im h fun σ H Q hh => ?_
  obtain ⟨ε, S, R, ω, rv, ε', S', he, s, k⟩ := hh
  obtain ⟨⟨r1, ε1, S1⟩, e1, he⟩ := bind_ok he
  obtain ⟨⟨r2, ε2, S2⟩, e2, he⟩ := bind_ok he
  obtain ⟨x, ex, he⟩ := bind_ok he
  obtain ⟨y, ey, he⟩ := bind_ok he
  obtain ⟨rr, er, he⟩ := bind_ok he
  cases he
  refine ⟨ε, S, R, ω, r1, ε1, S1, e1, s, fun v1 R1 ω1 H1 x1 s1 p1 => ⟨ε1, S1, R1, ω1, r2, ε', S', e2, s1, fun v2 R2 ω2 H2 x2 s2 p2 => ?_⟩⟩
  have q1 := p1.keep x2
  refine ok x y S' rv v1 v2 R2 H2 Q er s2.g (q1.vr s2 ex) (p2.vr s2 ey) fun v' R' H' g n => ?_
  exact k v' R' ω2 H' ((x1.trans x2).trans (g.ex ω2)) (g.sr s2) (n.rvr s2 (x1.trans x2) g)
theorem ev_un {f : D → Store → Rs RV} {r : V → Hp → VK → Prop} (h : PE X e (tUn r (tOf (kx X cl) Ea))) (ok : UnOk (kx X cl) f r) : PE X e (tOf (kx X cl) (eUn f Ea)) := by
  refine PE.im h fun σ H Q hh => ?_
  obtain ⟨ε, S, R, ω, rv, ε', S', he, s, k⟩ := hh
  obtain ⟨⟨r1, ε1, S1⟩, e1, he⟩ := bind_ok he
  obtain ⟨x, ex, he⟩ := bind_ok he
  obtain ⟨rr, er, he⟩ := bind_ok he
  cases he
  refine ⟨ε, S, R, ω, r1, ε', S', e1, s, fun v1 R1 ω1 H1 x1 s1 p1 => ?_⟩
  refine ok x S' rv v1 R1 H1 Q er s1.g (p1.vr s1 ex) fun v' R' H' g n => ?_
  exact k v' R' ω1 H' (x1.trans (g.ex ω1)) (g.sr s1) (n.rvr s1 x1 g)
theorem ev_var {i : Nat} {x : Str} (h : PE X (.Name x pos) (tVar i)) : PE X (.Name x pos) (tOf (kx X cl) (eVar i)) := by
  refine PE.im h fun σ H Q hh => ?_
  obtain ⟨ε, S, R, ω, rv, ε', S', he, s, k⟩ := hh
  unfold eVar at he
  cases q : slot ε i with
  | none => rw [q] at he; cases he
  | some t =>
    obtain ⟨v, e1, p⟩ := s.sl i t q
    rw [q] at he
    cases t with
    | pl d =>
      cases he
      exact ⟨v, e1, k v R ω H (.refl _ _ _) s p.2⟩
    | own d =>
      cases he
      exact ⟨v, e1, k v R ω H (.refl _ _ _) s e1⟩
theorem ev_c {v : V} {d : D} (h : PE X e (tC v)) (r : ∀ R, Rep (kx X cl) R d v) : PE X e (tOf (kx X cl) (eC d)) := by
  refine PE.im h fun σ H Q hh => ?_
  obtain ⟨ε, S, R, ω, rv, ε', S', he, s, k⟩ := hh
  cases he
  exact k v R ω H (.refl _ _ _) s (r R)
theorem ev_int {i : Int} {j : Nat} : PE X (.Constant (.int i) j pos) (tOf (kx X cl) (eC (.int i))) := ev_c pe_int fun _ => rfl
theorem ev_bl {i : Bool} {j : Nat} : PE X (.Constant (.bool i) j pos) (tOf (kx X cl) (eC (.bl i))) := ev_c pe_bl fun _ => rfl
theorem ev_non {j : Nat} : PE X (.Constant .none j pos) (tOf (kx X cl) (eC .non)) := ev_c pe_non fun _ => rfl
theorem ev_str {x : Str} {s : List Nat} {j : Nat} (h : x = ⟨s.toArray⟩) : PE X (.Constant (.str x) j pos) (tOf (kx X cl) (eC (.str s))) := ev_c pe_str fun _ => by rw [h]; rfl
theorem ev_anil : PA X [] (aOf (kx X cl) aNil) := by
  refine PA.im pa_nil fun σ H Q hh => ?_
  obtain ⟨ε, S, R, ω, ds, ε', S', he, s, k⟩ := hh
  cases he
  exact k [] R ω H (.refl _ _ _) s rfl
theorem ev_acons {es : List Expr} {As : ADen} (ha : PE X e (tOf (kx X cl) Ea)) (hr : PA X es (aOf (kx X cl) As)) (hs : starEach (e :: es) X.env = (false, eval e X.env) :: starEach es X.env := by rfl) : PA X (e :: es) (aOf (kx X cl) (aCons Ea As)) := by
  refine PA.im (pa_cons ha hr hs) fun σ H Q hh => ?_
  obtain ⟨ε, S, R, ω, ds, ε', S', he, s, k⟩ := hh
  obtain ⟨⟨r1, ε1, S1⟩, e1, he⟩ := bind_ok he
  obtain ⟨⟨d, ε2⟩, e2, he⟩ := bind_ok he
  obtain ⟨⟨dr, ε3, S3⟩, e3, he⟩ := bind_ok he
  cases he
  refine ⟨ε, S, R, ω, r1, ε1, S1, e1, s, fun v1 R1 ω1 H1 x1 s1 p1 => ?_⟩
  obtain ⟨R2, ω2, x2, s2, p2⟩ := p1.fix s1 x1 e2
  refine ⟨ε2, S1, R2, ω2, dr, ε', S', e3, s2, fun vs R3 ω3 H3 x3 s3 p3 => ?_⟩
  exact k _ R3 ω3 H3 (x2.trans x3) s3 ⟨v1, vs, rfl, Rep.mono x3.le d v1 p2, p3⟩
theorem sizeLine_is : (sizeLine : Nat) = 16777216 := sizeLine_eq
theorem ev_tup {es : List Expr} {As : ADen} {x1 : Nat} (h : PA X es (aOf (kx X cl) As)) : PE X (.Tuple es x1 pos) (tOf (kx X cl) (eTup As)) := by
  refine PE.im (pe_tup h) fun σ H Q hh => ?_
  obtain ⟨ε, S, R, ω, rv, ε', S', he, s, k⟩ := hh
  obtain ⟨⟨ds, ε1, S1⟩, e1, he⟩ := bind_ok he
  simp only at he
  split at he
  · rename_i hl
    cases he
    refine ⟨ε, S, R, ω, ds, ε', S', e1, s, fun vs R1 ω1 H1 x1 s1 p1 => ⟨by rw [p1.length, sizeLine_is]; exact hl, fun p np => ?_⟩⟩
    have z := s1.g.free np
    have g := Gw.tell (o := .tup vs) np z
    exact k _ _ ω1 _ (x1.trans (g.ex ω1)) (g.sr s1) ⟨p, vs, rfl, tell_at, p1.mono (tell_le z)⟩
  · cases he
theorem ev_lst {es : List Expr} {As : ADen} (h : PA X es (aOf (kx X cl) As)) : PE X (.List es pos) (tOf (kx X cl) (eLst As)) := by
  refine PE.im (pe_lst h) fun σ H Q hh => ?_
  obtain ⟨ε, S, R, ω, rv, ε', S', he, s, k⟩ := hh
  obtain ⟨⟨ds, ε1, S1⟩, e1, he⟩ := bind_ok he
  simp only at he
  split at he
  · rename_i hl
    cases he
    refine ⟨ε, S, R, ω, ds, ε', S', e1, s, fun vs R1 ω1 H1 x1 s1 p1 => ⟨by rw [p1.length, sizeLine_is]; exact hl, fun p np => ?_⟩⟩
    have g : Gw R1 H1 R1 (upd H1 p (.lst vs)) := Gw.new np
    have n : RNew (kx X cl) H1 R1 (upd H1 p (.lst vs)) (.fr (.lst ds)) (.ref p) := ⟨p, _, rfl, upd_same, ⟨vs, rfl, p1⟩, s1.g.free np, np⟩
    exact k _ _ ω1 _ (x1.trans (g.ex ω1)) (g.sr s1) (n.rvr s1 x1 g)
  · cases he
/-- a new list goes into the store -/
theorem SR.put {K : Kc} {R : Rc} {ω : Om} {ε : Env} {S : Store} {σ : L2.St} {H : Hp} {a : Addr} {ob : Obj} (s : SR K R ω ε S σ H) (ho : ObjR K { R with ρ := R.ρ ++ [a] } H a ob) (h : ∃ o, H a = some o) (z : R.Z a = none) (n : a ∉ R.ρ) (m : ∀ i, ω i ≠ some a) :
    SR K { R with ρ := R.ρ ++ [a] } ω ε (S ++ [ob]) σ H := by
  have l : Le R { R with ρ := R.ρ ++ [a] } := ⟨fun _ _ h => h, List.prefix_append _ _⟩
  exact {
    g := {
      zh := s.g.zh
      sl := by simp [s.g.sl]
      st := fun j x e => by
        by_cases hj : j < S.length
        · rw [List.getElem?_append_left hj] at e
          obtain ⟨b, e1, q⟩ := s.g.st j x e
          exact ⟨b, pre_get l.ρ e1, q.mono l fun _ h => h⟩
        · have hj' : S.length ≤ j := Nat.le_of_not_lt hj
          rw [List.getElem?_append_right hj'] at e
          have hz : j - S.length = 0 := by
            cases q : j - S.length with
            | zero => rfl
            | succ m => rw [q] at e; simp at e
          rw [hz] at e
          simp at e
          subst e
          refine ⟨a, ?_, ho⟩
          have hj2 : j = R.ρ.length := by rw [← s.g.sl]; omega
          simp [hj2]
      ρz := fun b h => by
        rcases List.mem_append.mp h with h | h
        · exact s.g.ρz b h
        · rw [List.mem_singleton.mp h]; exact z
      ρn := List.nodup_append.mpr ⟨s.g.ρn, by simp, fun b h c h' => by
        rw [List.mem_singleton.mp h']
        intro q; rw [q] at h; exact n h⟩
      ρh := fun b h' => by
        rcases List.mem_append.mp h' with h' | h'
        · exact s.g.ρh b h'
        · rw [List.mem_singleton.mp h']; exact h }
    len := s.len
    sl := fun i t e => by
      obtain ⟨v, e1, q⟩ := s.sl i t e
      refine ⟨v, e1, ?_⟩
      cases t with
      | pl d => exact ⟨q.1, Rep.mono l d v q.2⟩
      | own d =>
        obtain ⟨b, o, e2, e3, e4, c⟩ := q
        exact ⟨b, o, e2, e3, e4, c.mono l⟩
    oz := s.oz
    oρ := fun i b e h' => by
      rcases List.mem_append.mp h' with h' | h'
      · exact s.oρ i b e h'
      · rw [List.mem_singleton.mp h'] at e; exact m i e
    oi := s.oi
    oh := s.oh
    on := s.on }
theorem ev_new (h : PE X e (tOf (kx X cl) Ea)) : PE X e (tOf (kx X cl) (eNew Ea)) := by
  refine PE.im h fun σ H Q hh => ?_
  obtain ⟨ε, S, R, ω, rv, ε', S', he, s, k⟩ := hh
  obtain ⟨⟨r, ε1, S1⟩, e1, he⟩ := bind_ok he
  refine ⟨ε, S, R, ω, r, ε1, S1, e1, s, fun v1 R1 ω1 H1 x1 s1 p1 => ?_⟩
  match r, he, p1 with
  | .fr (.lst ds), he, p1 =>
    cases he
    obtain ⟨a, o, rfl, ho, ⟨vs, rfl, rs⟩, z, n, m, w⟩ := p1
    have l : Le R1 { R1 with ρ := R1.ρ ++ [a] } := ⟨fun _ _ h => h, List.prefix_append _ _⟩
    have s2 := s1.put (a := a) (ob := .lst ds) ⟨vs, ho, rs.mono l⟩ ⟨_, ho⟩ z n m
    refine k _ { R1 with ρ := R1.ρ ++ [a] } ω1 H1 ?_ s2 ⟨a, ?_, rfl⟩
    · exact ⟨x1.le.trans l, x1.al, x1.fr, x1.zn, fun b h => by
        rcases List.mem_append.mp h with h | h
        · exact x1.ρn b h
        · rw [List.mem_singleton.mp h]; exact .inr w, x1.ωn⟩
    · simp [s1.g.sl]
  | .fr (.dct t ks vs), he, p1 =>
    obtain ⟨a, o, rfl, ho, c, z, n, m, w⟩ := p1
    cases he
    have l : Le R1 { R1 with ρ := R1.ρ ++ [a] } := ⟨fun _ _ h => h, List.prefix_append _ _⟩
    have s2 := s1.put (a := a) (ob := .dct t ks vs) ⟨o, ho, DctO.mono l c⟩ ⟨_, ho⟩ z n m
    refine k _ { R1 with ρ := R1.ρ ++ [a] } ω1 H1 ?_ s2 ⟨a, ?_, rfl⟩
    · exact ⟨x1.le.trans l, x1.al, x1.fr, x1.zn, fun b h => by
        rcases List.mem_append.mp h with h | h
        · exact x1.ρn b h
        · rw [List.mem_singleton.mp h]; exact .inr w, x1.ωn⟩
    · rw [s1.g.sl]; simp
theorem VR.bl {K : Kc} {R : Rc} {H : Hp} {b : Bool} {v : V} (h : VR K R H (.bl b) v) : v = .bl b := by
  rcases h with h | ⟨_, _, _, _, c⟩
  · exact h
  · exact c.elim
theorem VR.int {K : Kc} {R : Rc} {H : Hp} {b : Int} {v : V} (h : VR K R H (.int b) v) : v = .int b := by
  rcases h with h | ⟨_, _, _, _, c⟩
  · exact h
  · exact c.elim
theorem VR.str {K : Kc} {R : Rc} {H : Hp} {b : List Nat} {v : V} (h : VR K R H (.str b) v) : v = .str ⟨b.toArray⟩ := by
  rcases h with h | ⟨_, _, _, _, c⟩
  · exact h
  · exact c.elim
theorem VR.non {K : Kc} {R : Rc} {H : Hp} {v : V} (h : VR K R H .non v) : v = .non := by
  rcases h with h | ⟨_, _, _, _, c⟩
  · exact h
  · exact c.elim
/-- a value that is a bool, as a test -/
theorem ev_val (h : PT X e (tB (tOf (kx X cl) Ea))) : PT X e (cOf (kx X cl) (cVal Ea)) := by
  refine PT.im h fun σ H Q hh => ?_
  obtain ⟨ε, S, R, ω, b, ε', S', he, s, k⟩ := hh
  obtain ⟨⟨r, ε1, S1⟩, e1, he⟩ := bind_ok he
  obtain ⟨d, ed, he⟩ := bind_ok he
  refine ⟨ε, S, R, ω, r, ε1, S1, e1, s, fun v1 R1 ω1 H1 x1 s1 p1 => ?_⟩
  match d, he, ed with
  | .bl c, he, ed =>
    cases he
    exact ⟨b, (p1.vr s1 ed).bl, k R1 ω1 H1 x1 s1⟩
theorem ev_cnot {C : CDen} (h : PT X a (cOf (kx X cl) C)) : PT X (.UnaryOp .Not a pos) (cOf (kx X cl) (cNot C)) := by
  refine PT.im (pt_not h) fun σ H Q hh => ?_
  obtain ⟨ε, S, R, ω, b, ε', S', he, s, k⟩ := hh
  obtain ⟨⟨c, ε1, S1⟩, e1, he⟩ := bind_ok he
  cases he
  exact ⟨ε, S, R, ω, c, ε', S', e1, s, k⟩
theorem ev_cand1 {C : CDen} (h : PT X a (cOf (kx X cl) C)) : PW X (.BoolOp .And [a] pos) (cOf (kx X cl) C) := pw_and1 h
theorem ev_cor1 {C : CDen} (h : PT X a (cOf (kx X cl) C)) : PW X (.BoolOp .Or [a] pos) (cOf (kx X cl) C) := pw_or1 h
theorem ev_cand {rest : List Expr} {C C' : CDen} (ha : PT X a (cOf (kx X cl) C)) (hb : PW X (.BoolOp .And (b :: rest) pos) (cOf (kx X cl) C')) : PW X (.BoolOp .And (a :: b :: rest) pos) (cOf (kx X cl) (cAnd C C')) := by
  refine PW.im (pw_and ha hb) fun σ H Q hh => ?_
  obtain ⟨ε, S, R, ω, c, ε', S', he, s, k⟩ := hh
  obtain ⟨⟨c1, ε1, S1⟩, e1, he⟩ := bind_ok he
  refine ⟨ε, S, R, ω, c1, ε1, S1, e1, s, fun R1 ω1 H1 x1 s1 => ?_⟩
  cases c1 with
  | true =>
    rw [if_pos rfl]
    exact ⟨ε1, S1, R1, ω1, c, ε', S', he, s1, fun R2 ω2 H2 x2 s2 => k R2 ω2 H2 (x1.trans x2) s2⟩
  | false =>
    cases he
    rw [if_neg Bool.false_ne_true]
    exact k R1 ω1 H1 x1 s1
theorem ev_cor {rest : List Expr} {C C' : CDen} (ha : PT X a (cOf (kx X cl) C)) (hb : PW X (.BoolOp .Or (b :: rest) pos) (cOf (kx X cl) C')) : PW X (.BoolOp .Or (a :: b :: rest) pos) (cOf (kx X cl) (cOr C C')) := by
  refine PW.im (pw_or ha hb) fun σ H Q hh => ?_
  obtain ⟨ε, S, R, ω, c, ε', S', he, s, k⟩ := hh
  obtain ⟨⟨c1, ε1, S1⟩, e1, he⟩ := bind_ok he
  refine ⟨ε, S, R, ω, c1, ε1, S1, e1, s, fun R1 ω1 H1 x1 s1 => ?_⟩
  cases c1 with
  | true =>
    cases he
    rw [if_pos rfl]
    exact k R1 ω1 H1 x1 s1
  | false =>
    rw [if_neg Bool.false_ne_true]
    exact ⟨ε1, S1, R1, ω1, c, ε', S', he, s1, fun R2 ω2 H2 x2 s2 => k R2 ω2 H2 (x1.trans x2) s2⟩
theorem ev_ifexp {C : CDen} (hc : PT X c (cOf (kx X cl) C)) (ha : PE X a (tOf (kx X cl) Ea)) (hb : PE X b (tOf (kx X cl) Eb)) : PE X (.IfExp c a b pos) (tOf (kx X cl) (eIf C Ea Eb)) := by
  refine PE.im (pe_ifExp hc ha hb) fun σ H Q hh => ?_
  obtain ⟨ε, S, R, ω, rv, ε', S', he, s, k⟩ := hh
  obtain ⟨⟨c1, ε1, S1⟩, e1, he⟩ := bind_ok he
  refine ⟨ε, S, R, ω, c1, ε1, S1, e1, s, fun R1 ω1 H1 x1 s1 => ?_⟩
  cases c1 with
  | true =>
    rw [if_pos rfl]
    exact ⟨ε1, S1, R1, ω1, rv, ε', S', he, s1, fun v R2 ω2 H2 x2 s2 p2 => k v R2 ω2 H2 (x1.trans x2) s2 (p2.start x1)⟩
  | false =>
    rw [if_neg Bool.false_ne_true]
    exact ⟨ε1, S1, R1, ω1, rv, ε', S', he, s1, fun v R2 ω2 H2 x2 s2 p2 => k v R2 ω2 H2 (x1.trans x2) s2 (p2.start x1)⟩
theorem ev_one {op : PySem.BoolOp} (h : PE X a (tOf (kx X cl) Ea)) : PE X (.BoolOp op [a] pos) (tOf (kx X cl) Ea) := pe_one h
theorem ev_and {rest : List Expr} (ha : PE X a (tOf (kx X cl) Ea)) (hb : PE X (.BoolOp .And (b :: rest) pos) (tOf (kx X cl) Eb)) : PE X (.BoolOp .And (a :: b :: rest) pos) (tOf (kx X cl) (eAnd Ea Eb)) := by
  refine PE.im (pe_and ha hb) fun σ H Q hh => ?_
  obtain ⟨ε, S, R, ω, rv, ε', S', he, s, k⟩ := hh
  obtain ⟨⟨r, ε1, S1⟩, e1, he⟩ := bind_ok he
  obtain ⟨d, ed, he⟩ := bind_ok he
  refine ⟨ε, S, R, ω, r, ε1, S1, e1, s, fun v1 R1 ω1 H1 x1 s1 p1 => ?_⟩
  match d, he, ed with
  | .bl true, he, ed =>
    refine ⟨true, (p1.vr s1 ed).bl, ?_⟩
    rw [if_pos rfl]
    exact ⟨ε1, S1, R1, ω1, rv, ε', S', he, s1, fun v R2 ω2 H2 x2 s2 p2 => k v R2 ω2 H2 (x1.trans x2) s2 (p2.start x1)⟩
  | .bl false, he, ed =>
    refine ⟨false, (p1.vr s1 ed).bl, ?_⟩
    cases he
    rw [if_neg Bool.false_ne_true]
    exact k _ R1 ω1 H1 x1 s1 rfl
theorem ev_or {rest : List Expr} (ha : PE X a (tOf (kx X cl) Ea)) (hb : PE X (.BoolOp .Or (b :: rest) pos) (tOf (kx X cl) Eb)) : PE X (.BoolOp .Or (a :: b :: rest) pos) (tOf (kx X cl) (eOr Ea Eb)) := by
  refine PE.im (pe_or ha hb) fun σ H Q hh => ?_
  obtain ⟨ε, S, R, ω, rv, ε', S', he, s, k⟩ := hh
  obtain ⟨⟨r, ε1, S1⟩, e1, he⟩ := bind_ok he
  obtain ⟨d, ed, he⟩ := bind_ok he
  refine ⟨ε, S, R, ω, r, ε1, S1, e1, s, fun v1 R1 ω1 H1 x1 s1 p1 => ?_⟩
  match d, he, ed with
  | .bl true, he, ed =>
    refine ⟨true, (p1.vr s1 ed).bl, ?_⟩
    cases he
    rw [if_pos rfl]
    exact k _ R1 ω1 H1 x1 s1 rfl
  | .bl false, he, ed =>
    refine ⟨false, (p1.vr s1 ed).bl, ?_⟩
    rw [if_neg Bool.false_ne_true]
    exact ⟨ε1, S1, R1, ω1, rv, ε', S', he, s1, fun v R2 ω2 H2 x2 s2 p2 => k v R2 ω2 H2 (x1.trans x2) s2 (p2.start x1)⟩
theorem ev_not (ha : PE X a (tOf (kx X cl) Ea)) : PE X (.UnaryOp .Not a pos) (tOf (kx X cl) (eNot Ea)) := by
  refine PE.im (pe_not ha) fun σ H Q hh => ?_
  obtain ⟨ε, S, R, ω, rv, ε', S', he, s, k⟩ := hh
  obtain ⟨⟨r, ε1, S1⟩, e1, he⟩ := bind_ok he
  obtain ⟨d, ed, he⟩ := bind_ok he
  obtain ⟨rr, er, he⟩ := bind_ok he
  cases he
  refine ⟨ε, S, R, ω, r, ε', S', e1, s, fun v1 R1 ω1 H1 x1 s1 p1 => ?_⟩
  match d, er, ed with
  | .bl c, er, ed =>
    cases er
    exact ⟨c, (p1.vr s1 ed).bl, k _ R1 ω1 H1 x1 s1 rfl⟩
theorem ev_chain {e : Expr} {f g : D → D → Store → Rs RV} {r r' : R2} (h : PE X e (tChain r r' (tOf (kx X cl) Ea) (tOf (kx X cl) Eb) (tOf (kx X cl) Ec))) (o1 : OpOk (kx X cl) f r) (o2 : OpOk (kx X cl) g r') : PE X e (tOf (kx X cl) (eChain f g Ea Eb Ec)) := by
  refine PE.im h fun σ H Q hh => ?_
  obtain ⟨ε, S, R, ω, rv, ε', S', he, s, k⟩ := hh
  obtain ⟨⟨r1, ε1, S1⟩, e1, he⟩ := bind_ok he
  obtain ⟨⟨r2, ε2, S2⟩, e2, he⟩ := bind_ok he
  obtain ⟨x, ex, he⟩ := bind_ok he
  obtain ⟨y, ey, he⟩ := bind_ok he
  obtain ⟨rr, er, he⟩ := bind_ok he
  refine ⟨ε, S, R, ω, r1, ε1, S1, e1, s, fun v1 R1 ω1 H1 x1 s1 p1 => ⟨ε1, S1, R1, ω1, r2, ε2, S2, e2, s1, fun v2 R2 ω2 H2 x2 s2 p2 => ?_⟩⟩
  have q1 := p1.keep x2
  refine o1 x y S2 rr v1 v2 R2 H2 _ er s2.g (q1.vr s2 ex) (p2.vr s2 ey) fun v' R3 H3 g n => ?_
  have s3 := g.sr s2
  have x3 := (x1.trans x2).trans (g.ex ω2)
  match rr, he, n with
  | .pl (.bl true), he, n =>
    refine ⟨true, n, ?_⟩
    rw [if_pos rfl]
    obtain ⟨⟨r3, ε4, S4⟩, e4, he⟩ := bind_ok he
    obtain ⟨y', ey', he⟩ := bind_ok he
    obtain ⟨z, ez, he⟩ := bind_ok he
    obtain ⟨vv, ev, he⟩ := bind_ok he
    cases he
    refine ⟨ε2, S2, R3, ω2, r3, ε', S', e4, s3, fun v4 R4 ω4 H4 x4 s4 p4 => ?_⟩
    have q2 := (p2.keep (g.ex ω2)).keep x4
    refine o2 y' z S' rv v2 v4 R4 H4 Q ev s4.g (q2.vr s4 ey') (p4.vr s4 ez) fun v5 R5 H5 g5 n5 => ?_
    exact k v5 R5 ω4 H5 ((x3.trans x4).trans (g5.ex ω4)) (g5.sr s4) (n5.rvr s4 (x3.trans x4) g5)
  | .pl (.bl false), he, n =>
    refine ⟨false, n, ?_⟩
    cases he
    rw [if_neg Bool.false_ne_true]
    exact k _ R3 ω2 H3 x3 s3 rfl
end
end Mp

namespace Mp
open PySem PySem.Spec PyProof.Rows L2

section
variable {K : Kc} {R R' R1 : Rc} {ω ω' ω0 ω1 : Om} {H H' H0 H1 : Hp} {σ : L2.St} {ε ε' ε1 : Env} {S S' S1 S2 : Store}
theorem SR.store_pl (s : SR K R ω ε S σ H) {i : Nat} {d : D} {v : V} (r : Rep K R d v) : SR K R (ω.off i) (ε.set i (some (.pl d))) S (σ.set i (some v)) H where
  g := s.g
  len := by rw [List.length_set, List.length_set]; exact s.len
  sl := fun j t h => by
    rw [slot_set] at h
    split at h
    · rename_i q
      subst q
      split at h
      · rename_i hl
        cases h
        exact ⟨v, by rw [List.getElem?_set_self (by rw [← s.len]; exact hl)], off_same, r⟩
      · cases h
    · rename_i q
      obtain ⟨u, e, p⟩ := s.sl j t h
      exact ⟨u, by rw [List.getElem?_set_ne q]; exact e, by rw [off_ne (Ne.symm q)]; exact p⟩
  oz := fun j a h => s.oz j a (off_some h).2
  oρ := fun j a h => s.oρ j a (off_some h).2
  oi := fun j k a h h' => s.oi j k a (off_some h).2 (off_some h').2
  oh := fun j a h => s.oh j a (off_some h).2
  on := fun j a h => by
    obtain ⟨d', e⟩ := s.on j a (off_some h).2
    exact ⟨d', by rw [slot_set, if_neg (Ne.symm (off_some h).1)]; exact e⟩
def Om.put (ω : Om) (i : Nat) (a : Addr) : Om := fun j => if j = i then some a else ω j
theorem put_same {i : Nat} {a : Addr} : ω.put i a i = some a := by unfold Om.put; rw [if_pos rfl]
theorem put_ne {i j : Nat} {a : Addr} (h : j ≠ i) : ω.put i a j = ω j := by unfold Om.put; rw [if_neg h]
theorem put_some {i j : Nat} {a b : Addr} (h : ω.put i a j = some b) : (j = i ∧ b = a) ∨ (j ≠ i ∧ ω j = some b) := by
  by_cases e : j = i
  · subst e; rw [put_same] at h; cases h; exact .inl ⟨rfl, rfl⟩
  · rw [put_ne e] at h; exact .inr ⟨e, h⟩
theorem SR.store_own (s : SR K R ω ε S σ H) {i : Nat} {d : D} {a : Addr} {o : HO} (hi : i < ε.length) (ho : H a = some o) (c : CR K R d o) (z : R.Z a = none) (n : a ∉ R.ρ) (m : ∀ j, ω j ≠ some a) :
    SR K R (ω.put i a) (ε.set i (some (.own d))) S (σ.set i (some (.ref a))) H where
  g := s.g
  len := by rw [List.length_set, List.length_set]; exact s.len
  sl := fun j t h => by
    rw [slot_set] at h
    split at h
    · rename_i q
      subst q
      first | rw [if_pos hi] at h | skip
      cases h
      exact ⟨.ref a, by rw [List.getElem?_set_self (by rw [← s.len]; exact hi)], a, o, rfl, put_same, ho, c⟩
    · rename_i q
      obtain ⟨u, e, p⟩ := s.sl j t h
      exact ⟨u, by rw [List.getElem?_set_ne q]; exact e, by rw [put_ne (Ne.symm q)]; exact p⟩
  oz := fun j b h => by
    rcases put_some h with ⟨_, e⟩ | ⟨_, e⟩
    · rw [e]; exact z
    · exact s.oz j b e
  oρ := fun j b h => by
    rcases put_some h with ⟨_, e⟩ | ⟨_, e⟩
    · rw [e]; exact n
    · exact s.oρ j b e
  oi := fun j k b h h' => by
    rcases put_some h with ⟨q, e⟩ | ⟨q, e⟩
    · rcases put_some h' with ⟨q', e'⟩ | ⟨q', e'⟩
      · rw [q, q']
      · rw [e] at e'; exact absurd e' (m k)
    · rcases put_some h' with ⟨q', e'⟩ | ⟨q', e'⟩
      · rw [e'] at e; exact absurd e (m j)
      · exact s.oi j k b e e'
  oh := fun j b h => by
    rcases put_some h with ⟨_, e⟩ | ⟨_, e⟩
    · rw [e]; exact ⟨o, ho⟩
    · exact s.oh j b e
  on := fun j b h => by
    rcases put_some h with ⟨q, e⟩ | ⟨q, e⟩
    · subst q; exact ⟨d, by rw [slot_set, if_pos rfl, if_pos hi]⟩
    · obtain ⟨d', e'⟩ := s.on j b e
      exact ⟨d', by rw [slot_set, if_neg (Ne.symm q)]; exact e'⟩
theorem Ex.om (x : Ex R1 ω1 H1 R ω H) (h : ∀ i a, ω' i = some a → (∃ j, ω1 j = some a) ∨ H1 a = none) : Ex R1 ω1 H1 R ω' H := ⟨x.le, x.al, x.fr, x.zn, x.ρn, h⟩
theorem Ex.off (x : Ex R1 ω1 H1 R ω H) (i : Nat) : Ex R1 ω1 H1 R (ω.off i) H := x.om fun j a h => x.ωn j a (off_some h).2
theorem Ex.put {i : Nat} {a : Addr} (x : Ex R1 ω1 H1 R ω H) (w : H1 a = none ∨ ∃ i, ω1 i = some a) : Ex R1 ω1 H1 R (ω.put i a) H := x.om fun j b h => by
  rcases put_some h with ⟨_, e⟩ | ⟨_, e⟩
  · rw [e]; exact w.symm
  · exact x.ωn j b e

def Om.offs (ω : Om) (vs : List Nat) : Om := fun j => if j ∈ vs then none else ω j
theorem offs_some {vs : List Nat} {j : Nat} {a : Addr} (h : ω.offs vs j = some a) : j ∉ vs ∧ ω j = some a := by
  unfold Om.offs at h
  split at h
  · cases h
  · rename_i q; exact ⟨q, h⟩
theorem SR.forget2 (s : SR K R ω ε S σ H) (i : Nat) : SR K R (ω.off i) (ε.set i none) S (σ.set i none) H where
  g := s.g
  len := by rw [List.length_set, List.length_set]; exact s.len
  sl := fun j t h => by
    rw [slot_set] at h
    split at h
    · split at h <;> cases h
    · rename_i q
      obtain ⟨u, e, p⟩ := s.sl j t h
      exact ⟨u, by rw [List.getElem?_set_ne q]; exact e, by rw [off_ne (Ne.symm q)]; exact p⟩
  oz := fun j a h => s.oz j a (off_some h).2
  oρ := fun j a h => s.oρ j a (off_some h).2
  oi := fun j k a h h' => s.oi j k a (off_some h).2 (off_some h').2
  oh := fun j a h => s.oh j a (off_some h).2
  on := fun j a h => by
    obtain ⟨d', e⟩ := s.on j a (off_some h).2
    exact ⟨d', by rw [slot_set, if_neg (Ne.symm (off_some h).1)]; exact e⟩
theorem SR.wiped (s : SR K R ω ε S σ H) : ∀ vs : List Nat, SR K R (ω.offs vs) (wipe ε vs) S (L2.wipe σ vs) H
  | [] => by
    have e : ω.offs [] = ω := by funext j; unfold Om.offs; rw [if_neg (by simp)]
    rw [e]; exact s
  | v :: vs => by
    have q := (SR.wiped s vs).forget2 v
    have e : (ω.offs vs).off v = ω.offs (v :: vs) := by
      funext j
      unfold Om.off Om.offs
      by_cases h : j = v
      · subst h; simp
      · simp [h]
    rw [e] at q
    exact q
theorem slot_wipe {j : Nat} : ∀ {vs : List Nat}, slot (wipe ε vs) j = if j ∈ vs then none else slot ε j
  | [] => by simp [wipe]
  | v :: vs => by
    have ih := slot_wipe (j := j) (vs := vs)
    show slot ((wipe ε vs).set v none) j = _
    rw [slot_set, ih]
    by_cases h : v = j
    · subst h; simp
    · rw [if_neg h]
      by_cases h2 : j ∈ vs
      · rw [if_pos h2, if_pos (List.mem_cons_of_mem _ h2)]
      · rw [if_neg h2, if_neg (by intro q; rcases List.mem_cons.mp q with q | q; exact h q.symm; exact h2 q)]
theorem SR.unwipe {vs : List Nat} (s1 : SR K R1 ω1 ε1 S1 σ H1) (sb : SR K R' ω' (wipe ε1 vs) S2 (L2.wipe σ vs) H') (x : Ex R1 (ω1.offs vs) H1 R' ω' H') : SR K R' ω1 ε1 S2 σ H' ∧ Ex R1 ω1 H1 R' ω1 H' := by
  have key : ∀ j a, j ∉ vs → ω1 j = some a → ω' j = some a := fun j a hj h => by
    obtain ⟨d, e⟩ := s1.on j a h
    obtain ⟨v, e1, a1, o1, rfl, e2, _⟩ := s1.sl j _ e
    rw [h] at e2; cases e2
    obtain ⟨v2, e3, a2, o2, rfl, e4, _⟩ := sb.sl j _ (by rw [slot_wipe, if_neg hj]; exact e)
    rw [wipe_out hj, e1] at e3; cases e3
    exact e4
  have inn : ∀ j a, j ∈ vs → ω1 j = some a → ∀ i, ω1.offs vs i ≠ some a := fun j a hj h i q => by
    obtain ⟨q1, q2⟩ := offs_some q
    rw [s1.oi i j a q2 h] at q1
    exact q1 hj
  constructor
  · exact {
      g := sb.g
      len := s1.len
      sl := fun j t h => by
        obtain ⟨v, e, p⟩ := s1.sl j t h
        refine ⟨v, e, ?_⟩
        cases t with
        | pl d => exact ⟨p.1, Rep.mono x.le d v p.2⟩
        | own d =>
          obtain ⟨a, o, rfl, e2, ho, c⟩ := p
          by_cases hj : j ∈ vs
          · exact ⟨a, o, rfl, e2, x.fr a o ho (s1.oρ j a e2) (inn j a hj e2), c.mono x.le⟩
          · obtain ⟨v2, e3, a2, o2, rfl, e4, ho2, c2⟩ := sb.sl j _ (by rw [slot_wipe, if_neg hj]; exact h)
            rw [wipe_out hj, e] at e3; cases e3
            exact ⟨a, o2, rfl, e2, ho2, c2⟩
      oz := fun i a h => by
        by_cases hi : i ∈ vs
        · cases q : R'.Z a with
          | none => rfl
          | some o =>
            rcases x.zn a o q with q | q | ⟨j, q⟩ | q | ⟨us, q⟩
            · rw [s1.oz i a h] at q; cases q
            · obtain ⟨o', e⟩ := s1.oh i a h
              rw [e] at q; cases q
            · exact absurd q (inn i a hi h j)
            · exact absurd q (s1.oρ i a h)
            · exact (s1.not_tup h q).elim
        · exact sb.oz i a (key i a hi h)
      oρ := fun i a h => by
        by_cases hi : i ∈ vs
        · intro q
          rcases x.ρn a q with q | q | ⟨j, q⟩
          · exact s1.oρ i a h q
          · obtain ⟨o', e⟩ := s1.oh i a h
            rw [e] at q; cases q
          · exact absurd q (inn i a hi h j)
        · exact sb.oρ i a (key i a hi h)
      oi := s1.oi
      oh := fun i a h => let ⟨o, e⟩ := s1.oh i a h; x.al a o e
      on := s1.on }
  · exact ⟨x.le, x.al, fun a o h n m => x.fr a o h n fun i q => m i (offs_some q).2, fun a o h => (x.zn a o h).imp id (Or.imp id (Or.imp (fun ⟨i, q⟩ => ⟨i, (offs_some q).2⟩) id)),
      fun a h => (x.ρn a h).imp id (Or.imp id fun ⟨i, q⟩ => ⟨i, (offs_some q).2⟩), fun i a h => .inl ⟨i, h⟩⟩
/-- an object that nobody tells changes -/
theorem SR.other {a : Addr} {o : HO} (s : SR K R ω ε S σ H) (z : R.Z a = none) (n : a ∉ R.ρ) (m : ∀ i, ω i ≠ some a) : SR K R ω ε S σ (upd H a o) := by
  have ne : ∀ b, b ≠ a → upd H a o b = H b := fun b h => upd_ne h
  have nz : ∀ b o', R.Z b = some o' → b ≠ a := fun b o' h q => by rw [q, z] at h; cases h
  have nρ : ∀ b, b ∈ R.ρ → b ≠ a := fun b h q => n (by rw [← q]; exact h)
  have nω : ∀ i b, ω i = some b → b ≠ a := fun i b h q => m i (by rw [← q]; exact h)
  exact {
    g := {
      zh := fun b o' h => by rw [ne b (nz b o' h)]; exact s.g.zh b o' h
      sl := s.g.sl
      st := fun j ob h => by
        obtain ⟨b, e, q⟩ := s.g.st j ob h
        refine ⟨b, e, ?_⟩
        have hb := ne b (nρ b (List.mem_of_getElem? e))
        cases ob with
        | lst ds => obtain ⟨vs, q1, q2⟩ := q; exact ⟨vs, by rw [hb]; exact q1, q2⟩
        | ins c fs => obtain ⟨dx, vs, q1, q2⟩ := q; exact ⟨dx, vs, by rw [hb]; exact q1, q2⟩
        | dct t ks vs => obtain ⟨ow, q1, q2⟩ := q; exact ⟨ow, by rw [hb]; exact q1, q2⟩
      ρz := s.g.ρz
      ρn := s.g.ρn
      ρh := fun b h => by rw [ne b (nρ b h)]; exact s.g.ρh b h }
    len := s.len
    sl := fun i t h => by
      obtain ⟨v, e, p⟩ := s.sl i t h
      refine ⟨v, e, ?_⟩
      cases t with
      | pl d => exact p
      | own d =>
        obtain ⟨b, o', e1, e2, e3, c⟩ := p
        exact ⟨b, o', e1, e2, by rw [ne b (nω i b e2)]; exact e3, c⟩
    oz := s.oz
    oρ := s.oρ
    oi := s.oi
    oh := fun i b h => by rw [ne b (nω i b h)]; exact s.oh i b h
    on := s.on }
theorem Ex.other {a : Addr} {o : HO} (x : Ex R1 ω1 H1 R ω H) (h : H1 a = none) : Ex R1 ω1 H1 R ω (upd H a o) :=
  ⟨x.le, fun b o' e => by rw [upd_ne (ne_of_none e h)]; exact x.al b o' e, fun b o' e n m => by rw [upd_ne (ne_of_none e h)]; exact x.fr b o' e n m, x.zn, x.ρn, x.ωn⟩
/-- an object that stands apart from all that is told -/
structure Apart (R : Rc) (ω : Om) (a : Addr) : Prop where
  z : R.Z a = none
  n : a ∉ R.ρ
  m : ∀ i, ω i ≠ some a
theorem Apart.new (s : SR K R ω ε S σ H) {a : Addr} (h : H a = none) : Apart R ω a :=
  ⟨s.g.free h, fun q => (by obtain ⟨o, e⟩ := s.g.ρh a q; rw [h] at e; cases e), fun i q => (by obtain ⟨o, e⟩ := s.oh i a q; rw [h] at e; cases e)⟩
theorem Apart.keep {a : Addr} {ws : List V} (p : Apart R ω a) (ho : H a = some (.lst ws)) (x : Ex R ω H R' ω' H') : Apart R' ω' a ∧ H' a = some (.lst ws) := by
  refine ⟨⟨?_, fun q => ?_, fun i q => ?_⟩, x.fr a _ ho p.n p.m⟩
  · cases q : R'.Z a with
    | none => rfl
    | some o' =>
      rcases x.zn a o' q with q | q | ⟨i, q⟩ | q | ⟨us, q⟩
      · rw [p.z] at q; cases q
      · rw [ho] at q; cases q
      · exact absurd q (p.m i)
      · exact absurd q p.n
      · rw [ho] at q; cases q
  · rcases x.ρn a q with q | q | ⟨i, q⟩
    · exact p.n q
    · rw [ho] at q; cases q
    · exact p.m i q
  · rcases x.ωn i a q with ⟨j, q⟩ | q
    · exact p.m j q
    · rw [ho] at q; cases q
end

section
variable {X : Cx} {cl : Nat → Addr} {e a b c : Expr} {Ea Eb Ec : Den} {pos : Pos}
theorem Stay.refl (ts : List Nat) (σ : L2.St) : Stay ts σ σ := ⟨rfl, fun _ _ => rfl⟩
theorem Stay.trans {ts us : List Nat} {σ σ1 σ2 : L2.St} (a : Stay ts σ σ1) (b : Stay us σ1 σ2) : Stay (ts ++ us) σ σ2 :=
  ⟨b.1.trans a.1, fun j h => (b.2 j fun q => h (List.mem_append_right _ q)).trans (a.2 j fun q => h (List.mem_append_left _ q))⟩
theorem Stay.mono {ts us : List Nat} {σ σ1 : L2.St} (a : Stay ts σ σ1) (h : ∀ i ∈ ts, i ∈ us) : Stay us σ σ1 := ⟨a.1, fun j q => a.2 j fun z => q (h j z)⟩
theorem Stay.set {i : Nat} {σ : L2.St} {x : Option V} : Stay [i] σ (σ.set i x) := ⟨List.length_set .., fun j h => by rw [List.getElem?_set_ne (by intro q; subst q; exact h (by simp))]⟩
theorem Stay.wipe {vs : List Nat} {σ σ1 : L2.St} (a : Stay vs σ σ1) : L2.wipe σ1 vs = L2.wipe σ vs := by
  apply List.ext_getElem?
  intro j
  by_cases h : j ∈ vs
  · have inn : ∀ (τ : L2.St) (us : List Nat), j ∈ us → (L2.wipe τ us)[j]? = if j < τ.length then some none else none := by
      intro τ us
      induction us with
      | nil => intro q; cases q
      | cons v r ih =>
        intro q
        show ((L2.wipe τ r).set v none)[j]? = _
        by_cases e : v = j
        · subst e
          rw [List.getElem?_set]
          simp [wipe_length]
        · rw [List.getElem?_set_ne e]
          exact ih ((List.mem_cons.mp q).elim (fun z => absurd z.symm e) id)
    rw [inn _ _ h, inn _ _ h, a.1]
  · rw [wipe_out h, wipe_out h]; exact a.2 j h
theorem gv_name {i : Nat} {x : Str} (h : PG X (.Name x pos) (gName i)) : PG X (.Name x pos) (gOf (kx X cl) [i] (tName i)) := by
  refine PG.im h fun v σ H Q hh => ?_
  obtain ⟨d, ε, S, R, ω, ε', he, s, r, k⟩ := hh
  cases he
  exact k _ R (ω.off i) H ((Ex.refl R ω H).off i) (s.store_pl r) .set
theorem gv_nil : PGs X [] (gsOf (kx X cl) [] tsNil) := by
  refine PGs.im pgs_nil fun vs σ H Q hh => ?_
  obtain ⟨ds, ε, S, R, ω, ε', he, s, r, k⟩ := hh
  match ds, he, r with
  | [], he, r =>
    cases he
    exact ⟨r, k σ R ω H (.refl _ _ _) s (.refl _ _)⟩
theorem gv_cons {es : List Expr} {T : TDen} {Ts : TsDen} {ts us : List Nat} (h1 : PG X e (gOf (kx X cl) ts T)) (h2 : PGs X es (gsOf (kx X cl) us Ts))
    (hs : (assignEach (e :: es) X.env).map (·.2) = assign e X.env :: (assignEach es X.env).map (·.2) := by rfl) : PGs X (e :: es) (gsOf (kx X cl) (ts ++ us) (tsCons T Ts)) := by
  refine PGs.im (pgs_cons h1 h2 hs) fun vs σ H Q hh => ?_
  obtain ⟨ds, ε, S, R, ω, ε', he, s, r, k⟩ := hh
  match ds, he, r with
  | d :: dr, he, r =>
    obtain ⟨v, vr, rfl, r1, r2⟩ := r
    obtain ⟨ε1, e1, he⟩ := bind_ok he
    exact ⟨v, vr, rfl, d, ε, S, R, ω, ε1, e1, s, r1, fun σ1 R1 ω1 H1 x1 s1 y1 => ⟨dr, ε1, S, R1, ω1, ε', he, s1, r2.mono x1.le, fun σ2 R2 ω2 H2 x2 s2 y2 => k σ2 R2 ω2 H2 (x1.trans x2) s2 (y1.trans y2)⟩⟩
theorem gv_tup {es : List Expr} {n k : Nat} {Ts : TsDen} {ts : List Nat} (hc : X.calm = true) (h : PGs X es (gsOf (kx X cl) ts Ts))
    (hn : (assignEach es X.env).length = n := by rfl) (hst : (assignEach es X.env).findIdx? (·.1) = none := by rfl) : PG X (.Tuple es k pos) (gOf (kx X cl) ts (tTup n Ts)) := by
  refine PG.im (pg_tup hc h hn hst) fun v σ H Q hh => ?_
  obtain ⟨d, ε, S, R, ω, ε', he, s, r, k⟩ := hh
  match d, he, r with
  | .tup ds, he, r =>
    obtain ⟨a, vs, rfl, z, rs⟩ := r
    simp only [tTup] at he
    split at he
    · rename_i hl
      exact ⟨a, vs, rfl, .inl (.inl (s.g.zh a _ z)), by rw [rs.length]; exact hl, ds, ε, S, R, ω, ε', he, s, rs, k⟩
    · cases he
  | .ktup ds, he, r =>
    obtain ⟨a, vs, rfl, z, rs⟩ := r
    simp only [tTup] at he
    split at he
    · rename_i hl
      exact ⟨a, vs, rfl, .inr z, by rw [rs.length]; exact hl, ds, ε, S, R, ω, ε', he, s, rs, k⟩
    · cases he

theorem sv_nil : PSs X [] (sOf (kx X cl) sNil) := by
  refine PSs.im pss_nil fun D σ H hh => ?_
  obtain ⟨ε, S, R, ω, o, he, s, k⟩ := hh
  cases he
  exact k σ R ω H (.refl _ _ _) s
theorem sv_cons {st : Stmt} {rest : List Stmt} {M N : SDen} (h1 : PS X st (sOf (kx X cl) M)) (h2 : PSs X rest (sOf (kx X cl) N)) : PSs X (st :: rest) (sOf (kx X cl) (sSeq M N)) := by
  refine PSs.im (pss_cons h1 h2) fun D σ H hh => ?_
  obtain ⟨ε, S, R, ω, o, he, s, k⟩ := hh
  obtain ⟨o1, e1, he⟩ := bind_ok he
  refine ⟨ε, S, R, ω, o1, e1, s, ?_⟩
  cases o1 with
  | nx ε1 S1 => exact fun σ1 R1 ω1 H1 x1 s1 => ⟨ε1, S1, R1, ω1, o, he, s1, k.step x1⟩
  | rt f d S1 => cases he; exact k
  | bk ε1 S1 => cases he; exact k
  | ct ε1 S1 => cases he; exact k
theorem sv_one {st : Stmt} {M : SDen} (h1 : PS X st (sOf (kx X cl) M)) : PSs X [st] (sOf (kx X cl) M) := pss_one h1
theorem sv_pass : PS X (.Pass pos) (sOf (kx X cl) sPass) := by
  refine PS.im ps_pass fun D σ H hh => ?_
  obtain ⟨ε, S, R, ω, o, he, s, k⟩ := hh
  cases he
  exact k σ R ω H (.refl _ _ _) s
theorem sv_break : PS X (.Break pos) (sOf (kx X cl) sBreak) := by
  refine PS.im ps_break fun D σ H hh => ?_
  obtain ⟨ε, S, R, ω, o, he, s, k⟩ := hh
  cases he
  exact k σ R ω H (.refl _ _ _) s
theorem sv_continue : PS X (.Continue pos) (sOf (kx X cl) sCont) := by
  refine PS.im ps_continue fun D σ H hh => ?_
  obtain ⟨ε, S, R, ω, o, he, s, k⟩ := hh
  cases he
  exact k σ R ω H (.refl _ _ _) s
theorem sv_expr (he : PE X e (tOf (kx X cl) Ea)) (hs : swapsWith e none pos.line X.env = pure false := by rfl) : PS X (.Expr e pos) (sOf (kx X cl) (sDrop Ea)) := by
  refine PS.im (ps_expr he hs) fun D σ H hh => ?_
  obtain ⟨ε, S, R, ω, o, he, s, k⟩ := hh
  obtain ⟨⟨r, ε1, S1⟩, e1, he⟩ := bind_ok he
  cases he
  exact ⟨ε, S, R, ω, r, ε1, S1, e1, s, fun v R1 ω1 H1 x1 s1 p1 => k σ R1 ω1 H1 x1 s1⟩
theorem sv_ret (he : PE X e (tOf (kx X cl) Ea)) : PS X (.Return (some e) pos) (sOf (kx X cl) (sRet Ea)) := by
  refine PS.im (ps_ret he) fun D σ H hh => ?_
  obtain ⟨ε, S, R, ω, o, he, s, k⟩ := hh
  obtain ⟨⟨r, ε1, S1⟩, e1, he⟩ := bind_ok he
  refine ⟨ε, S, R, ω, r, ε1, S1, e1, s, fun v R1 ω1 H1 x1 s1 p1 => ?_⟩
  cases r with
  | pl d => cases he; exact k v R1 ω1 H1 x1 s1.g (.plain p1)
  | fr d =>
    cases he
    obtain ⟨a, o, e, ho, c, z, n, m, w⟩ := p1
    exact k v R1 ω1 H1 x1 s1.g (.fresh ⟨a, o, e, ho, c, z, n, w⟩)
  | bor i =>
    simp only at he
    split at he
    · rename_i d q
      cases he
      obtain ⟨u, e2, a, o, rfl, e3, ho, c⟩ := s1.sl i _ q
      have p1' : σ[i]? = some (some v) := p1
      rw [p1'] at e2; cases e2
      exact k _ R1 ω1 H1 x1 s1.g (.fresh ⟨a, o, rfl, ho, c, s1.oz i a e3, s1.oρ i a e3, (x1.ωn i a e3).symm⟩)
    · rename_i d q
      cases he
      obtain ⟨u, e2, _, r⟩ := s1.sl i _ q
      have p1' : σ[i]? = some (some v) := p1
      rw [p1'] at e2; cases e2
      exact k _ R1 ω1 H1 x1 s1.g (.plain r)
    · cases he
theorem sv_retn : PS X (.Return none pos) (sOf (kx X cl) sRetN) := by
  refine PS.im ps_retN fun D σ H hh => ?_
  obtain ⟨ε, S, R, ω, o, he, s, k⟩ := hh
  cases he
  exact k .non R ω H (.refl _ _ _) s.g (.plain rfl)
theorem sv_if {p q : List Stmt} {C : CDen} {M N : SDen} (hc : PT X c (cOf (kx X cl) C)) (ha : PSs X p (sOf (kx X cl) M)) (hb : PSs X q (sOf (kx X cl) N)) : PS X (.If c p q pos) (sOf (kx X cl) (sIf C M N)) := by
  refine PS.im (ps_if hc ha hb) fun D σ H hh => ?_
  obtain ⟨ε, S, R, ω, o, he, s, k⟩ := hh
  obtain ⟨⟨t, ε1, S1⟩, e1, he⟩ := bind_ok he
  refine ⟨ε, S, R, ω, t, ε1, S1, e1, s, fun R1 ω1 H1 x1 s1 => ?_⟩
  cases t with
  | true => rw [if_pos rfl]; exact ⟨ε1, S1, R1, ω1, o, he, s1, k.step x1⟩
  | false => rw [if_neg Bool.false_ne_true]; exact ⟨ε1, S1, R1, ω1, o, he, s1, k.step x1⟩
/-- name = value, over any reading of the value -/
theorem set_im {te : TE} {i : Nat} (h : ∀ σ H Q, tOf (kx X cl) Ea σ H Q → te σ H Q) (D : Ends) (σ : L2.St) (H : Hp) (hh : sOf (kx X cl) (sSet i Ea) D σ H) : tAsg te (gName i) D σ H := by
  obtain ⟨ε, S, R, ω, o, he, s, k⟩ := hh
  obtain ⟨⟨r, ε1, S1⟩, e1, he⟩ := bind_ok he
  obtain ⟨⟨d, ε2⟩, e2, he⟩ := bind_ok he
  cases he
  refine h _ _ _ ⟨ε, S, R, ω, r, ε1, S1, e1, s, fun v1 R1 ω1 H1 x1 s1 p1 => ?_⟩
  obtain ⟨R2, ω2, x2, s2, p2⟩ := p1.fix s1 x1 e2
  exact k _ R2 (ω2.off i) H1 (x2.off i) (s2.store_pl p2)
theorem own_im {te : TE} {i : Nat} (h : ∀ σ H Q, tOf (kx X cl) Ea σ H Q → te σ H Q) (D : Ends) (σ : L2.St) (H : Hp) (hh : sOf (kx X cl) (sOwn i Ea) D σ H) : tAsg te (gName i) D σ H := by
  obtain ⟨ε, S, R, ω, o, he, s, k⟩ := hh
  obtain ⟨⟨r, ε1, S1⟩, e1, he⟩ := bind_ok he
  refine h _ _ _ ⟨ε, S, R, ω, r, ε1, S1, e1, s, fun v1 R1 ω1 H1 x1 s1 p1 => ?_⟩
  cases r with
  | pl d => cases he; exact k _ R1 (ω1.off i) H1 (x1.off i) (s1.store_pl p1)
  | fr d =>
    simp only at he
    split at he
    · rename_i hl
      cases he
      obtain ⟨a, o, rfl, ho, c, z, n, m, w⟩ := p1
      exact k _ R1 (ω1.put i a) H1 (x1.put w) (s1.store_own hl ho c z n m)
    · cases he
  | bor j =>
    have p1' : σ[j]? = some (some v1) := p1
    simp only at he
    split at he
    · rename_i d q
      split at he
      · rename_i hl
        cases he
        obtain ⟨u, e2, a, o, rfl, e3, ho, c⟩ := s1.sl j _ q
        rw [p1'] at e2; cases e2
        have sf := s1.forget j
        refine k _ R1 ((ω1.off j).put i a) H1 ((x1.off j).put (x1.ωn j a e3).symm) (sf.store_own (by rw [List.length_set]; exact hl) ho c (s1.oz j a e3) (s1.oρ j a e3) fun l q' => ?_)
        obtain ⟨q1, q2⟩ := off_some q'
        exact q1 (s1.oi l j a q2 e3)
      · cases he
    · rename_i d q
      cases he
      obtain ⟨u, e2, _, r⟩ := s1.sl j _ q
      rw [p1'] at e2; cases e2
      exact k _ R1 (ω1.off i) H1 (x1.off i) (s1.store_pl r)
    · cases he
theorem sv_set {st : Stmt} {i : Nat} (h : PS X st (tAsg (tOf (kx X cl) Ea) (gName i))) : PS X st (sOf (kx X cl) (sSet i Ea)) := PS.im h (set_im fun _ _ _ q => q)
theorem sv_own {st : Stmt} {i : Nat} (h : PS X st (tAsg (tOf (kx X cl) Ea) (gName i))) : PS X st (sOf (kx X cl) (sOwn i Ea)) := PS.im h (own_im fun _ _ _ q => q)
theorem sv_asg {st : Stmt} {T : TDen} {ts : List Nat} (h : PS X st (tAsg (tOf (kx X cl) Ea) (gOf (kx X cl) ts T))) : PS X st (sOf (kx X cl) (sAsg T Ea)) := by
  refine PS.im h fun D σ H hh => ?_
  obtain ⟨ε, S, R, ω, o, he, s, k⟩ := hh
  obtain ⟨⟨r, ε1, S1⟩, e1, he⟩ := bind_ok he
  obtain ⟨⟨d, ε2⟩, e2, he⟩ := bind_ok he
  obtain ⟨ε3, e3, he⟩ := bind_ok he
  cases he
  refine ⟨ε, S, R, ω, r, ε1, S1, e1, s, fun v1 R1 ω1 H1 x1 s1 p1 => ?_⟩
  obtain ⟨R2, ω2, x2, s2, p2⟩ := p1.fix s1 x1 e2
  exact ⟨d, ε2, S1, R2, ω2, ε3, e3, s2, p2, fun σ' R' ω' H' x' s' _ => k σ' R' ω' H' (x2.trans x') s'⟩
theorem sv_for {iter tg : Expr} {body : List Stmt} {I : IDen} {T : TDen} {M : SDen} {ts : List Nat} (h : PS X (.For tg iter body [] pos) (tFor (iOf (kx X cl) I) (gOf (kx X cl) ts T) (sOf (kx X cl) M))) : PS X (.For tg iter body [] pos) (sOf (kx X cl) (sFor T I M)) := by
  refine PS.im h fun D σ H hh => ?_
  obtain ⟨ε, S, R, ω, o, he, s, k⟩ := hh
  obtain ⟨⟨xs, ε1, S1⟩, e1, he⟩ := bind_ok he
  refine ⟨ε, S, R, ω, xs, ε1, S1, e1, s, fun J R1 ω1 H1 x1 s1 w => ?_⟩
  refine ⟨fun i m σ2 H2 => ∃ ε2 S2 R2 ω2, SR (kx X cl) R2 ω2 ε2 S2 σ2 H2 ∧ Ex R1 ω1 H1 R2 ω2 H2 ∧ forGo T M (xs.drop i) ε2 S2 = .ok o ∧ m = xs.length - i ∧ i ≤ xs.length, ⟨xs.length, ε1, S1, R1, ω1, s1, .refl _ _ _, by simpa using he, by simp, by simp⟩, ?_⟩
  rintro i m σ2 H2 ⟨ε2, S2, R2, ω2, s2, x2, hgo, rfl, hil⟩
  by_cases hi : i < xs.length
  · refine .inr ⟨w.go i S2 H2 R2 x2.le s2.g hi, fun σ' H' => ∃ ε3 S3 R3 ω3, SR (kx X cl) R3 ω3 ε3 S3 σ' H' ∧ Ex R1 ω1 H1 R3 ω3 H' ∧ forGo T M (xs.drop (i + 1)) ε3 S3 = .ok o, fun σ' H' ⟨ε3, S3, R3, ω3, q1, q2, q3⟩ => ⟨xs.length - (i + 1), by omega, ε3, S3, R3, ω3, q1, q2, q3, rfl, hi⟩, fun x H' y => ?_⟩
    rw [List.drop_eq_getElem_cons hi] at hgo
    obtain ⟨ε3, e3, hgo⟩ := bind_ok hgo
    obtain ⟨o1, e4, hgo⟩ := bind_ok hgo
    obtain ⟨R3, g3, r3⟩ := w.yl i S2 H2 R2 x H' xs[i] x2.le s2.g (List.getElem?_eq_getElem hi) y
    have x3 := x2.trans (g3.ex ω2)
    refine ⟨xs[i], ε2, S2, R3, ω2, ε3, e3, g3.sr s2, r3, fun σ4 R4 ω4 H4 x4 s4 _ => ?_⟩
    refine ⟨ε3, S2, R4, ω4, o1, e4, s4, ?_⟩
    cases o1 with
    | nx ε5 S5 => exact fun σ5 R5 ω5 H5 x5 s5 => ⟨ε5, S5, R5, ω5, s5, (x3.trans x4).trans x5, hgo⟩
    | ct ε5 S5 => exact fun σ5 R5 ω5 H5 x5 s5 => ⟨ε5, S5, R5, ω5, s5, (x3.trans x4).trans x5, hgo⟩
    | bk ε5 S5 =>
      cases hgo
      exact fun σ5 R5 ω5 H5 x5 s5 => k σ5 R5 ω5 H5 (((x1.trans x3).trans x4).trans x5) s5
    | rt f d S5 =>
      cases hgo
      exact fun v5 R5 ω5 H5 x5 g5 r5 => k v5 R5 ω5 H5 (((x1.trans x3).trans x4).trans x5) g5 (r5.start ((x1.trans x3).trans x4))
  · have hi' : xs.length ≤ i := Nat.le_of_not_lt hi
    rw [List.drop_eq_nil_of_le hi'] at hgo
    cases hgo
    have hie : i = xs.length := Nat.le_antisymm hil hi'
    rw [hie]
    exact .inl ⟨w.sp S2 H2 R2 x2.le s2.g, k σ2 R2 ω2 H2 (x1.trans x2) s2⟩
theorem sv_while {F : CallI} {body : List Stmt} {C : CDen} {M : SDen} (h : PS X (.While c body [] pos) (tWhile (cOf (kx X cl) C) (sOf (kx X cl) M))) : PS X (.While c body [] pos) (sOf (kx X cl) (sWhile F C M)) := by
  refine PS.im h fun D σ H hh => ?_
  obtain ⟨ε, S, R, ω, o, he, s, k⟩ := hh
  refine ⟨fun m σ2 H2 => ∃ ε2 S2 R2 ω2, SR (kx X cl) R2 ω2 ε2 S2 σ2 H2 ∧ Ex R ω H R2 ω2 H2 ∧ whileGo C M m ε2 S2 = .ok o, ⟨F.wf, ε, S, R, ω, s, .refl _ _ _, he⟩, ?_⟩
  rintro m σ2 H2 ⟨ε2, S2, R2, ω2, s2, x2, hgo⟩
  cases m with
  | zero => cases hgo
  | succ m =>
    obtain ⟨⟨t, ε3, S3⟩, e3, hgo⟩ := bind_ok hgo
    refine ⟨ε2, S2, R2, ω2, t, ε3, S3, e3, s2, fun R3 ω3 H3 x3 s3 => ?_⟩
    cases t with
    | false =>
      cases hgo
      rw [if_neg Bool.false_ne_true]
      exact k σ2 R3 ω3 H3 (x2.trans x3) s3
    | true =>
      rw [if_pos rfl]
      obtain ⟨o1, e4, hgo⟩ := bind_ok hgo
      refine ⟨fun σ' H' => ∃ ε4 S4 R4 ω4, SR (kx X cl) R4 ω4 ε4 S4 σ' H' ∧ Ex R ω H R4 ω4 H' ∧ whileGo C M m ε4 S4 = .ok o, fun σ' H' q => ⟨m, Nat.lt_succ_self m, q⟩, ε3, S3, R3, ω3, o1, e4, s3, ?_⟩
      cases o1 with
      | nx ε5 S5 => exact fun σ5 R5 ω5 H5 x5 s5 => ⟨ε5, S5, R5, ω5, s5, (x2.trans x3).trans x5, hgo⟩
      | ct ε5 S5 => exact fun σ5 R5 ω5 H5 x5 s5 => ⟨ε5, S5, R5, ω5, s5, (x2.trans x3).trans x5, hgo⟩
      | bk ε5 S5 =>
        cases hgo
        exact fun σ5 R5 ω5 H5 x5 s5 => k σ5 R5 ω5 H5 ((x2.trans x3).trans x5) s5
      | rt f d S5 =>
        cases hgo
        exact fun v5 R5 ω5 H5 x5 g5 r5 => k v5 R5 ω5 H5 ((x2.trans x3).trans x5) g5 (r5.start (x2.trans x3))
theorem SR.wipeTo {K : Kc} {R : Rc} {ω : Om} {ε : Env} {S : Store} {σ : L2.St} {H : Hp} (s : SR K R ω ε S σ H) (vs : List Nat) {ε0 : Env} {σ0 : L2.St} (h : wipe ε vs = ε0) (h2 : L2.wipe σ vs = σ0) : SR K R (ω.offs vs) ε0 S σ0 H := by
  rw [← h, ← h2]; exact s.wiped vs
theorem Ex.offs {R R1 : Rc} {ω ω1 : Om} {H H1 : Hp} (x : Ex R1 ω1 H1 R ω H) (vs : List Nat) : Ex R1 ω1 H1 R (ω.offs vs) H := x.om fun j a h => x.ωn j a (offs_some h).2
theorem Apart.offs {R : Rc} {ω : Om} {a : Addr} (p : Apart R ω a) (vs : List Nat) : Apart R (ω.offs vs) a := ⟨p.z, p.n, fun i q => p.m i (offs_some q).2⟩
theorem lc_im {I : IDen} {T : TDen} {C : CDen} {vs ts : List Nat} (ht : ∀ i ∈ ts, i ∈ vs) (σ : L2.St) (H : Hp) (Q : VK) (hh : tOf (kx X cl) (eComp vs I T C Ea) σ H Q) : tLc (iOf (kx X cl) I) (gOf (kx X cl) ts T) (cOf (kx X cl) C) (tOf (kx X cl) Ea) vs σ H Q := by
  obtain ⟨ε, S, R, ω, rv, ε', S', he, s, k⟩ := hh
  obtain ⟨⟨xs, ε1, S1⟩, e1, he⟩ := bind_ok he
  obtain ⟨⟨ds, Sd⟩, e2, he⟩ := bind_ok he
  cases he
  refine ⟨ε, S, R, ω, xs, ε', S1, e1, s, fun J R1 ω1 H1 x1 s1 w D nD => ?_⟩
  have p1 : Apart R1 ω1 D := .new s1 nD
  refine ⟨fun i m H2 => ∃ S2 R2 ω2 acc vacc, SR (kx X cl) R2 ω2 (wipe ε' vs) S2 (L2.wipe σ vs) H2 ∧ Ex R1 (ω1.offs vs) H1 R2 ω2 H2 ∧ H2 D = some (.lst vacc) ∧ Reps (kx X cl) R2 acc vacc ∧ Apart R2 ω2 D ∧
    compGo vs T C Ea (wipe ε' vs) (xs.drop i) S2 acc = .ok (ds, S') ∧ m = xs.length - i ∧ i ≤ xs.length, ⟨xs.length, S1, R1, ω1.offs vs, [], [], ?_, ?_, upd_same, rfl, p1.offs vs, by simpa using e2, by simp, by simp⟩, ?_⟩
  · exact (s1.wiped vs).other p1.z p1.n fun i q => p1.m i (offs_some q).2
  · exact (Ex.refl _ _ _).other nD
  rintro i m H2 ⟨S2, R2, ω2, acc, vacc, s2, x2, hD, ra, pD, hgo, rfl, hil⟩
  by_cases hi : i < xs.length
  · refine .inr ⟨w.go i S2 H2 R2 x2.le s2.g hi, fun H' => ∃ S3 R3 ω3 acc vacc, SR (kx X cl) R3 ω3 (wipe ε' vs) S3 (L2.wipe σ vs) H' ∧ Ex R1 (ω1.offs vs) H1 R3 ω3 H' ∧ H' D = some (.lst vacc) ∧ Reps (kx X cl) R3 acc vacc ∧ Apart R3 ω3 D ∧
      compGo vs T C Ea (wipe ε' vs) (xs.drop (i + 1)) S3 acc = .ok (ds, S'), fun H' ⟨S3, R3, ω3, acc, vacc, q1, q2, q3, q4, q5, q6⟩ => ⟨xs.length - (i + 1), by omega, S3, R3, ω3, acc, vacc, q1, q2, q3, q4, q5, q6, rfl, hi⟩, fun x H' y => ?_⟩
    rw [List.drop_eq_getElem_cons hi] at hgo
    obtain ⟨ε3, e3, hgo⟩ := bind_ok hgo
    obtain ⟨⟨t, ε4, S4⟩, e4, hgo⟩ := bind_ok hgo
    simp only at hgo
    split at hgo
    case isFalse => cases hgo
    rename_i heq
    obtain ⟨hw, rfl⟩ := heq
    obtain ⟨R3, g3, r3⟩ := w.yl i S2 H2 R2 x H' xs[i] x2.le s2.g (List.getElem?_eq_getElem hi) y
    have x3 := g3.ex ω2
    have s3 := g3.sr s2
    obtain ⟨pD3, hD3⟩ := pD.keep hD x3
    refine ⟨xs[i], wipe ε' vs, S2, R3, ω2, ε4, e3, s3, r3, fun σ4 R4 ω4 H4 x4 s4 y4 => ?_⟩
    have hwσ : L2.wipe σ4 vs = L2.wipe σ vs := by
      have q := (y4.mono ht).wipe
      rw [q]
      exact (Stay.wipe (vs := vs) ⟨wipe_length σ vs, fun j hj => wipe_out hj⟩)
    obtain ⟨pD4, hD4⟩ := pD3.keep hD3 x4
    refine ⟨hwσ, ε4, S2, R4, ω4, t, ε4, S4, e4, s4, fun R5 ω5 H5 x5 s5 => ?_⟩
    obtain ⟨pD5, hD5⟩ := pD4.keep hD4 x5
    have xx5 := ((x2.trans x3).trans x4).trans x5
    cases t with
    | false =>
      rw [if_neg Bool.false_ne_true]
      exact ⟨S4, R5, ω5.offs vs, acc, vacc, s5.wipeTo vs hw hwσ, xx5.offs vs, hD5, ra.mono ((x3.le.trans x4.le).trans x5.le), pD5.offs vs, hgo⟩
    | true =>
      rw [if_pos rfl]
      rw [if_pos rfl] at hgo
      obtain ⟨⟨r, ε5, S5⟩, e5, hgo⟩ := bind_ok hgo
      refine ⟨ε4, S4, R5, ω5, r, ε5, S5, e5, s5, fun v6 R6 ω6 H6 x6 s6 p6 => ?_⟩
      obtain ⟨pD6, hD6⟩ := pD5.keep hD5 x6
      have fin : ∀ (d : Mp.D) (ε6 : Env) (R7 : Rc), ε6 = ε4 → acc.length < 16777216 → compGo vs T C Ea (wipe ε' vs) (xs.drop (i + 1)) S5 (acc ++ [d]) = .ok (ds, S') → Le R6 R7 → Ex R5 ω5 H5 R7 ω6 H6 → SR (kx X cl) R7 ω6 ε6 S5 σ4 H6 → Apart R7 ω6 D → Rep (kx X cl) R7 d v6 →
          ∃ acc, H6 D = some (.lst acc) ∧ acc.length < sizeLine ∧ ∃ S3 R3 ω3 acc1 vacc, SR (kx X cl) R3 ω3 (wipe ε' vs) S3 (L2.wipe σ vs) (upd H6 D (.lst (acc ++ [v6]))) ∧ Ex R1 (ω1.offs vs) H1 R3 ω3 (upd H6 D (.lst (acc ++ [v6]))) ∧ (upd H6 D (.lst (acc ++ [v6]))) D = some (.lst vacc) ∧ Reps (kx X cl) R3 acc1 vacc ∧ Apart R3 ω3 D ∧
            compGo vs T C Ea (wipe ε' vs) (xs.drop (i + 1)) S3 acc1 = .ok (ds, S') := by
        intro d ε6 R7 he6 hl hgo7 l7 x7 s7 pD7 r7
        subst he6
        have ra7 := ra.mono (((x3.le.trans x4.le).trans x5.le).trans (x6.le.trans l7))
        refine ⟨vacc, hD6, by rw [ra.length, sizeLine_is]; exact hl, S5, R7, ω6.offs vs, acc ++ [d], vacc ++ [v6], ?_, ?_, upd_same, ra7.append (Reps.one r7), pD7.offs vs, hgo7⟩
        · exact (s7.wipeTo vs hw hwσ).other pD7.z pD7.n fun j q => pD7.m j (offs_some q).2
        · exact ((xx5.trans x7).offs vs).other nD
      cases r with
      | bor j => cases hgo
      | pl d =>
        simp only at hgo
        split at hgo
        case isFalse => cases hgo
        rename_i h2
        exact fin d ε5 R6 h2.1 h2.2 hgo (.refl _) x6 s6 pD6 p6
      | fr d =>
        simp only at hgo
        split at hgo
        case isFalse => cases hgo
        rename_i h2
        obtain ⟨a, o, rfl, ho, c, z, n, m, w'⟩ := p6
        have hDa : D ≠ a := by
          intro q
          subst q
          rcases w' with w' | ⟨j, w'⟩
          · rw [hD5] at w'; cases w'
          · exact pD5.m j w'
        exact fin d ε5 (R6.tell a o) h2.1 h2.2 hgo (tell_le z) (x6.tell ho z w' fun _ _ h => h) (s6.tell ho n m) ⟨(tell_ne hDa).trans pD6.z, pD6.n, pD6.m⟩ (rep_tell c (tell_le z))
  · have hi' : xs.length ≤ i := Nat.le_of_not_lt hi
    rw [List.drop_eq_nil_of_le hi'] at hgo
    cases hgo
    obtain ⟨s3, x3⟩ := s1.unwipe s2 x2
    have hie : i = xs.length := Nat.le_antisymm hil hi'
    rw [hie]
    refine .inl ⟨w.sp _ H2 R2 x2.le s2.g, k (.ref D) R2 ω1 H2 (x1.trans x3) s3 ⟨D, _, rfl, hD, ⟨vacc, rfl, ra⟩, pD.z, pD.n, fun j q => p1.m j q, .inl (x1.back nD)⟩⟩
def spOf (K : Kc) (call : List D → Store → Rs (Bool × D × Store)) : Sp := fun vs H Q E => ∃ ds S R b d S', call ds S = .ok (b, d, S') ∧ Reps K R ds vs ∧ GR K R S H ∧
  ∀ v R' H', Ex R (fun _ => none) H R' (fun _ => none) H' → GR K R' S' H' → RetR K (fun _ => none) H R' H' b d v → Q v H'
theorem SR.called {K : Kc} {R R' : Rc} {ω : Om} {ε : Env} {S S' : Store} {σ : L2.St} {H H' : Hp} (s : SR K R ω ε S σ H) (x : Ex R (fun _ => none) H R' (fun _ => none) H') (g : GR K R' S' H') : SR K R' ω ε S' σ H' ∧ Ex R ω H R' ω H' := by
  have ap : ∀ i a, ω i = some a → R'.Z a = none ∧ a ∉ R'.ρ := fun i a h => by
    obtain ⟨o, e⟩ := s.oh i a h
    constructor
    · cases q : R'.Z a with
      | none => rfl
      | some o' =>
        rcases x.zn a o' q with q | q | ⟨j, q⟩ | q | ⟨us, q⟩
        · rw [s.oz i a h] at q; cases q
        · rw [e] at q; cases q
        · cases q
        · exact absurd q (s.oρ i a h)
        · exact (s.not_tup h q).elim
    · intro q
      rcases x.ρn a q with q | q | ⟨j, q⟩
      · exact s.oρ i a h q
      · rw [e] at q; cases q
      · cases q
  constructor
  · exact {
      g := g
      len := s.len
      sl := fun i t h => by
        obtain ⟨v, e, p⟩ := s.sl i t h
        refine ⟨v, e, ?_⟩
        cases t with
        | pl d => exact ⟨p.1, Rep.mono x.le d v p.2⟩
        | own d =>
          obtain ⟨a, o, e1, e2, ho, c⟩ := p
          exact ⟨a, o, e1, e2, x.fr a o ho (s.oρ i a e2) (fun _ q => nomatch q), c.mono x.le⟩
      oz := fun i a h => (ap i a h).1
      oρ := fun i a h => (ap i a h).2
      oi := s.oi
      oh := fun i a h => let ⟨o, e⟩ := s.oh i a h; x.al a o e
      on := s.on }
  · exact ⟨x.le, x.al, fun a o h n m => x.fr a o h n (fun _ q => nomatch q), fun a o h => (x.zn a o h).imp id (Or.imp id (Or.imp (fun ⟨_, q⟩ => nomatch q) id)), fun a h => (x.ρn a h).imp id (Or.imp id (fun ⟨_, q⟩ => nomatch q)), fun i a h => .inl ⟨i, h⟩⟩
theorem RetR.rvr {K : Kc} {R R' R0 : Rc} {ω ω0 : Om} {ε : Env} {S : Store} {σ : L2.St} {H H' H0 : Hp} {b : Bool} {d : D} {v : V} (s : SR K R ω ε S σ H) (x0 : Ex R0 ω0 H0 R ω H) (r : RetR K (fun _ => none) H R' H' b d v) : RVR K ω0 H0 R' ω H' σ (if b then .fr d else .pl d) v := by
  cases b with
  | false => unfold RetR at r; rw [if_neg Bool.false_ne_true] at r; exact r
  | true =>
    unfold RetR at r; rw [if_pos rfl] at r
    obtain ⟨a, o, e, ho, c, z, n, w⟩ := r
    rcases w with w | ⟨j, w⟩
    · refine ⟨a, o, e, ho, c, z, n, fun i q => ?_, .inl (x0.back w)⟩
      obtain ⟨o', e'⟩ := s.oh i a q
      rw [w] at e'; cases e'
    · cases w
end
end Mp

namespace Mp
open PySem PySem.Spec PyProof.Rows L2

inductive SK where
  | lst (a : Addr)
  | tup (a : Addr)
  | str (z : Str) (t : Tok)
def SK.val : SK → Value
  | .lst a => .ref a
  | .tup a => .ref a
  | .str z t => .str z t
def SK.obj : SK → PySem.Obj
  | .lst a => { cls := .type "list_iterator", data := .fields #[.ref a, .int 0 0] }
  | .tup a => { cls := .type "tuple_iterator", data := .fields #[.ref a, .int 0 0] }
  | .str z t => { cls := .type (strIterType z), data := .fields #[.str z t, .int 0 0] }
def SK.it : SK → Addr → Nat → Heap → Prop
  | .lst a, it, i, h => h.IsListIter it a i
  | .tup a, it, i, h => h.IsTupleIter it a i
  | .str z t, it, i, h => h.IsStrIter it (strIterType z) z t i
def SK.has : SK → Array Value → Heap → Prop
  | .lst a, its, h => h.IsList a its
  | .tup a, its, h => h.IsTuple a its
  | .str _ _, _, _ => True
theorem SK.begins (k : SK) (its : Array Value) : Begins k.val k.obj (k.has its) := by
  cases k with
  | lst a => exact begins_list a its
  | tup a => exact begins_tuple a its
  | str z t => exact begins_text z t
theorem SK.first (k : SK) {h : Heap} {it : Addr} (e : h.get? it = some k.obj) : k.it it 0 h := by
  cases k with
  | lst a => exact ⟨_, e, rfl, rfl⟩
  | tup a => exact ⟨_, e, rfl, rfl⟩
  | str z t => exact ⟨_, e, rfl, rfl⟩
/-- the items at the level of values -/
def SrcV (K : PySem.W.Frag) (H : Hp) : SK → List V → Prop
  | .lst a, xs => SqL K H a xs
  | .tup a, xs => SqT K H a xs
  | .str z _, xs => xs = z.cps.toList.map fun c => V.str ⟨#[c]⟩
theorem SK.cell (k : SK) {it : Addr} {i : Nat} {h : Heap} (s : k.it it i h) : ∃ o, h.get? it = some o ∧ ∀ v, o.data ≠ .cell v := by
  cases k with
  | lst a => obtain ⟨o, e, _, d⟩ := s; exact ⟨o, e, fun v q => by rw [d] at q; cases q⟩
  | tup a => obtain ⟨o, e, _, d⟩ := s; exact ⟨o, e, fun v q => by rw [d] at q; cases q⟩
  | str z t => obtain ⟨o, e, _, d⟩ := s; exact ⟨o, e, fun v q => by rw [d] at q; cases q⟩
theorem SK.kept (k : SK) {it : Addr} {i : Nat} {h h' : Heap} (s : k.it it i h) (f : ∀ o, h.get? it = some o → h'.get? it = some o) : k.it it i h' := by
  cases k with
  | lst a => obtain ⟨o, e, r⟩ := s; exact ⟨o, f o e, r⟩
  | tup a => obtain ⟨o, e, r⟩ := s; exact ⟨o, f o e, r⟩
  | str z t => obtain ⟨o, e, r⟩ := s; exact ⟨o, f o e, r⟩
/-- what such an iterator draws, as the source stands -/
structure SDraw (X : Cx) (pins : List (Addr × PySem.Obj)) (H : Hp) (A : Around) (s : Shared) (k : SK) (xs : List V) (it : Addr) (i : Nat) where
  fp : List Addr
  P : Nat → Value → Prop
  St : Nat → Heap → Prop
  D : Draws X.prog X.w A it fp xs.length P St
  st : St i s.heap
  to : ∀ j h, St j h → k.it it j h
  rel : ∀ j u, P j u → ∃ x, xs[j]? = some x ∧ RelV x u
  mem : it ∈ fp
  ap : ∀ b ∈ fp, b = it ∨ ∀ c, FpOk X pins H c → c ≠ b
section
variable {X : Cx} {pins : List (Addr × PySem.Obj)} {σ : L2.St} {H : Hp} {s : Shared}
theorem src_has {k : SK} {xs : List V} (I : Inv X pins σ H s) (hk : SrcV X.K H k xs) : ∃ its : Array Value, k.has its s.heap := by
  cases k with
  | lst a => obtain ⟨its, rv, p, _⟩ := I.list hk; exact ⟨_, p.isList⟩
  | tup a => obtain ⟨its, rv, p, _⟩ := I.tuple hk; exact ⟨_, p⟩
  | str z t => exact ⟨#[], trivial⟩
theorem fp_base (I : Inv X pins σ H s) {a : Addr} {o : PySem.Obj} (h : X.base.get? a = some o) : ∀ c, FpOk X pins H c → c ≠ a := fun c hc e => by
  subst e
  obtain ⟨_, _, _, h4, _⟩ := hc
  rcases h4 with h4 | h4
  · exact I.ok.noex c o h h4
  · exact absurd (Nat.lt_of_lt_of_le (Heap.lt_size h) (Nat.le_trans I.ok.bsz h4)) (Nat.lt_irrefl _)
theorem fp_rd {a : Addr} {u : HO} (h : Rd H a u) : ∀ c, FpOk X pins H c → c ≠ a := fun c hc e => by
  subst e
  rcases h with h | ⟨o, h⟩ <;> (rw [hc.1] at h; cases h)
theorem src_draw {A : Around} {k : SK} {xs : List V} {it : Addr} {i : Nat} (hh : A.handled = none) (I : Inv X pins σ H s) (hf : FpOk X pins H it) (hk : SrcV X.K H k xs) (hit : k.it it i s.heap) : Nonempty (SDraw X pins H A s k xs it i) := by
  cases k with
  | lst a =>
    obtain ⟨its, rv, p, _⟩ := I.list hk
    have q := p.isList
    have ap : ∀ c, FpOk X pins H c → c ≠ a := by
      rcases hk with hk | ⟨o, _, _, hk, _⟩
      · exact fp_rd hk
      · exact fp_base I (I.ok.mod.kin a o hk)
    have ne : a ≠ it := Ne.symm (ap it hf)
    have sz : its.toArray.size = xs.length := by simp [rv.length]
    refine ⟨⟨[it, a], fun i v => its.toArray[i]? = some v, fun i h => h.IsListIter it a i ∧ h.IsList a its.toArray, by rw [← sz]; exact Draws.list hh it a ne its.toArray, ⟨hit, q⟩, fun _ _ r => r.1, fun j u e => ?_, by simp, fun b hb => ?_⟩⟩
    · have e' : its[j]? = some u := by simpa using e
      have hj : j < xs.length := by rw [rv.length]; exact (List.getElem?_eq_some_iff.mp e').1
      obtain ⟨u', e2, r⟩ := rv.get (List.getElem?_eq_getElem hj)
      rw [e'] at e2; cases e2
      exact ⟨_, List.getElem?_eq_getElem hj, r⟩
    · rcases List.mem_cons.mp hb with e | hb
      · exact .inl e
      · rw [List.mem_singleton.mp hb]
        exact .inr ap
  | tup a =>
    obtain ⟨its, rv, p, _⟩ := I.tuple hk
    have q : s.heap.IsTuple a its.toArray := p
    have ap : ∀ c, FpOk X pins H c → c ≠ a := by
      rcases hk with hk | ⟨o, _, _, hk, _⟩
      · exact fp_rd hk
      · exact fp_base I (I.ok.mod.kin a o hk)
    have ne : a ≠ it := Ne.symm (ap it hf)
    have sz : its.toArray.size = xs.length := by simp [rv.length]
    refine ⟨⟨[it, a], fun i v => its.toArray[i]? = some v, fun i h => h.IsTupleIter it a i ∧ h.IsTuple a its.toArray, by rw [← sz]; exact Draws.tuple hh it a ne its.toArray, ⟨hit, q⟩, fun _ _ r => r.1, fun j u e => ?_, by simp, fun b hb => ?_⟩⟩
    · have e' : its[j]? = some u := by simpa using e
      have hj : j < xs.length := by rw [rv.length]; exact (List.getElem?_eq_some_iff.mp e').1
      obtain ⟨u', e2, r⟩ := rv.get (List.getElem?_eq_getElem hj)
      rw [e'] at e2; cases e2
      exact ⟨_, List.getElem?_eq_getElem hj, r⟩
    · rcases List.mem_cons.mp hb with e | hb
      · exact .inl e
      · rw [List.mem_singleton.mp hb]
        exact .inr ap
  | str z t =>
    have hk' : xs = z.cps.toList.map fun c => V.str ⟨#[c]⟩ := hk
    have sz : z.cps.size = xs.length := by rw [hk']; simp
    refine ⟨⟨[it], fun i v => ∃ c u, z.cps[i]? = some c ∧ v = .str ⟨#[c]⟩ u, fun i h => h.IsStrIter it (strIterType z) z t i, by rw [← sz]; exact Draws.text hh it z t, hit, fun _ _ r => r, fun j u e => ?_, by simp, fun b hb => .inl (List.mem_singleton.mp hb)⟩⟩
    obtain ⟨c, t', e1, rfl⟩ := e
    refine ⟨.str ⟨#[c]⟩, ?_, ⟨t', rfl⟩⟩
    rw [hk', List.getElem?_map]
    have e1' : z.cps.toList[j]? = some c := by simpa using e1
    rw [e1']; rfl
end

/-- n turns; the tuple at turn i is vs i; C: what must be so -/
def Itw (n : Nat) (vs : Nat → List V) (C : Hp → Prop) : It :=
  ⟨fun i H => C H ∧ i < n, fun i H x H' => ∃ T, x = .ref T ∧ H T = none ∧ H' = upd H T (.tup (vs i)), fun i H => C H ∧ i = n⟩
theorem turn_walk {P : Program} {w : World} {K : PySem.W.Frag} {elts : List Expr} {kk : Nat} {tpos : Pos} {I : Addr} {fp : List Addr} {n : Nat} {vs : Nat → List V} {C : Hp → Prop} {tn : Nat → Heap → Prop}
    (mem : I ∈ fp) (obj : ∀ i h, tn i h → ∀ b ∈ fp, ∃ o, h.get? b = some o ∧ ∀ v, o.data ≠ .cell v)
    (keep : ∀ i h h', tn i h → (∀ b ∈ fp, ∀ o, h.get? b = some o → h'.get? b = some o) → tn i h')
    (hz : ∀ i, (vs i).length ≤ sizeLine)
    (self : ∀ (A : Around) (i : Nat) (s : Shared) (Q : Value → Shared → Prop) (E : Value → Shared → Prop), tn i s.heap → Q (.ref I) s → wpAny (model P w) A (pyIter (.ref I)) Q E s)
    (hW : ∀ (X : Cx), X.prog = P → X.w = w → X.K = K → X.calm = true → ∀ (i : Nat) (pins : List (Addr × PySem.Obj)) (s : Shared) (σ : L2.St) (H : Hp), Inv X pins σ H s → (∀ b ∈ fp, FpOk X pins H b) → tn i s.heap → C H →
      ∃ (fpw wr : List Addr) (Pt : Nat → Array Value → Prop) (St : Nat → Heap → Prop) (Mid : Nat → Addr → Heap → Prop), WalksT P w X.A I fpw wr n Pt St Mid ∧ St i s.heap ∧ (∀ b ∈ wr, b ∈ fp) ∧
        (∀ j vals, Pt j vals → Vals (vs j) vals.toList) ∧ ∀ j h, St j h → tn j h) : Turn P w K (.Tuple elts kk tpos) (Itw n vs C) fp I tn where
  mem := mem
  obj := obj
  keep := keep
  item := by
    intro X hP hw hK hc i pins s σ H E I0 hf st hg
    obtain ⟨hC, hi⟩ := hg
    obtain ⟨fpw, wr, Pt, St, Mid, W, st', sub, rel, to⟩ := hW X hP hw hK hc i pins s σ H I0 hf st hC
    subst hP hw hK
    refine W.item i s _ _ hi st' fun T vals h' tk hPt hT hIT hM kk' => ?_
    refine ⟨_, rfl, W.go elts kk tpos i T { s with heap := h', toks := tk } _ _ hM fun h'' st2 kk2 => ?_⟩
    have nT : H T = none := I0.hok.fresh hT
    have Tap : T ∉ wr := W.apart i T h' hM
    have hT2 : h''.IsTuple T vals := hIT.at fun o e => kk2 T o Tap e
    have rv : Vals (vs i) vals.toList := rel i vals hPt
    have new : ObjOk X.prog X.w (upd H T (.tup (vs i))) h'' T (.tup (vs i)) := ⟨hz i, vals.toList, rv, by simpa using (show IsTup h'' T vals from hT2)⟩
    have I1 : Inv X pins σ (upd H T (.tup (vs i))) { s with heap := h'', toks := tk } :=
      I0.turnedNew (ch := fp) (fun b o hb e => kk2 b o (fun z => hb (sub b z)) (kk' b o (fun z => hb (sub b z)) e)) hf hT new
    refine ⟨.ref T, _, I1, rfl, ⟨T, rfl, nT, rfl⟩, to _ _ st2, fun b hb => ?_⟩
    have hb' : b < s.heap.objs.size := by
      obtain ⟨o, e, _⟩ := obj i _ st b hb
      exact Heap.lt_size e
    rw [upd_ne (Nat.ne_of_lt (Nat.lt_of_lt_of_le hb' hT))]
    exact (hf b hb).1
  done := by
    intro X hP hw hK hc i pins s σ H E I0 hf st hg
    obtain ⟨hC, hi⟩ := hg
    obtain ⟨fpw, wr, Pt, St, Mid, W, st', sub, rel, to⟩ := hW X hP hw hK hc i pins s σ H I0 hf st hC
    subst hP hw hK
    subst hi
    exact W.done s _ _ st' fun h' tk kk' => ⟨rfl, I0.turnedL (ch := fp) (fun b o hb e => kk' b o (fun z => hb (sub b z)) e) hf⟩
  self := self
set_option maxHeartbeats 1000000 in
theorem meets_enum1 {v : Value} {o : PySem.Obj} {H : Heap → Prop} (B : Begins v o H) :
    Meets (Builtin.«enumerate.__new__» ⟨[.type "enumerate", v], []⟩) (fun _ R s => H s.heap ∧
      R (.ok (.ret (.ref (s.heap.push o).objs.size))) { s with heap := (s.heap.push o).push { cls := .type "enumerate", data := .fields #[.none, .bool false, .ref s.heap.objs.size, rawInt 0, .none, .none] } }) :=
  .of_wp fun prog w A R s h => by
    obtain ⟨hp, g, d, tk, os⟩ := s; obtain ⟨h1, h⟩ := h
    have hsub := sub_enumerate
    have q1 : ∀ {A' : Around} {E : Value → Shared → Prop} {Q : Value → Shared → Prop}, Q (.ref hp.objs.size) ⟨hp.push o, g, d, tk, os⟩ → wpAny (model prog w) A' (pyIter v) Q E ⟨hp, g, d, tk, os⟩ :=
      fun q => B.iter prog w _ _ ⟨hp, g, d, tk, os⟩ _ h1 q
    wp_walk using q1
    refine wpAny_stack_any fun st => wpAny_pure ?_
    split
    · rename_i c _ _ _ _ _
      cases (c == Value.type "enumerate")
      · wp_walk using q1
        exact ⟨_, rfl, h⟩
      · wp_walk using q1
        exact ⟨_, rfl, h⟩
    · wp_walk using q1
      exact ⟨_, rfl, h⟩
theorem call_enum1 {prog : Program} {w : World} {A : Around} {E : Value → Shared → Prop} {s : Shared} {v : Value} {o : PySem.Obj} {H : Heap → Prop} {Q : Value → Shared → Prop} (B : Begins v o H) (h1 : H s.heap)
    (h : ∀ h', IsEnum h' (s.heap.objs.size + 1) s.heap.objs.size 0 .none → h'.get? s.heap.objs.size = some o → h'.objs.size = s.heap.objs.size + 2 →
      (∀ b o, s.heap.get? b = some o → h'.get? b = some o) → Q (.ref (s.heap.objs.size + 1)) { s with heap := h' }) :
    wpAny (model prog w) A (call (.type "enumerate") [v]) Q E s := by
  refine callType_new F.called_enumerate (by decide) (F.typeCall_enumerate_1 _) (F.newCall_enumerate_1 _) (fun obj => F.args_object_init_2 obj _) F.entry_enumerate_new
    (meets_enum1 B) ⟨h1, ?_⟩
  have hz : (s.heap.push o).objs.size = s.heap.objs.size + 1 := Heap.size_push ..
  show _ ∧ _
  rw [hz]
  have he : IsEnum ((s.heap.push o).push { cls := .type "enumerate", data := .fields #[.none, .bool false, .ref s.heap.objs.size, rawInt 0, .none, .none] }) (s.heap.objs.size + 1) s.heap.objs.size 0 .none := by
    have := Heap.get?_push_size (s.heap.push o) (o := { cls := .type "enumerate", data := .fields #[.none, .bool false, .ref s.heap.objs.size, rawInt 0, .none, .none] }) rfl
    rw [hz] at this; exact this
  exact ⟨⟨_, he, rfl⟩, h _ he (Heap.get?_push_of_some _ (Heap.get?_push_size _ B.free)) (by rw [Heap.size_push, hz]) fun b o x => Heap.get?_push_of_some _ (Heap.get?_push_of_some _ x)⟩
/-- the pairs of enumerate -/
def Ite1 (xs : List V) (C : Hp → Prop) : It := Itw xs.length (fun i => [.int (i : Nat), xs.getD i .non]) C
def iEnumS (K : PySem.W.Frag) (ta : TA) : TI := fun σ H R => ta σ H fun vs H1 => ∃ xs, (∃ a, vs = [.ref a] ∧ SqL K H1 a xs ∧ R (Ite1 xs fun H => SqL K H a xs) H1) ∨ (∃ a, vs = [.ref a] ∧ SqT K H1 a xs ∧ R (Ite1 xs fun H => SqT K H a xs) H1) ∨
  ∃ z : Str, vs = [.str z] ∧ xs = z.cps.toList.map (fun c => V.str ⟨#[c]⟩) ∧ R (Ite1 xs fun _ => True) H1
theorem pair_small {x y : V} : [x, y].length ≤ sizeLine := by show 2 ≤ sizeLine; decide
theorem turn_enumS {P : Program} {w : World} {K : PySem.W.Frag} {elts : List Expr} {kk : Nat} {tpos : Pos} (k : SK) (xs : List V) (e it : Addr) (C : Hp → Prop) (hC : ∀ H, C H → SrcV K H k xs) :
    Turn P w K (.Tuple elts kk tpos) (Ite1 xs C) [e, it] e (fun i h => (∃ old, IsEnum h e it (0 + (i : Int)) old) ∧ k.it it i h ∧ e ≠ it) := by
  refine turn_walk (by simp) (fun i h st b hb => ?_) (fun i h h' st kp => ?_) (fun i => pair_small) (fun A i s Q E st q => ?_) fun X hP hw hK hc i pins s σ H I hf st c => ?_
  · obtain ⟨⟨old, he⟩, hi, _⟩ := st
    rcases List.mem_cons.mp hb with z | hb
    · rw [z]; exact ⟨_, he, fun v q => nomatch q⟩
    · rw [List.mem_singleton.mp hb]; exact k.cell hi
  · obtain ⟨⟨old, he⟩, hi, ne⟩ := st
    exact ⟨⟨old, kp e (by simp) _ he⟩, k.kept hi (kp it (by simp)), ne⟩
  · obtain ⟨⟨old, he⟩, _⟩ := st
    exact wpAny_pyIter_enum he q
  · obtain ⟨⟨old, he⟩, hi, ne⟩ := st
    subst hP hw hK
    have hh : X.A.in1.handled = none := I.ok.hd hc
    obtain ⟨D⟩ := src_draw (A := X.A.in1) hh I (hf it (by simp)) (hC H c) hi
    have hef : e ∉ D.fp := fun q => by
      rcases D.ap e q with z | z
      · exact ne z
      · exact z e (hf e (by simp)) rfl
    refine ⟨_, _, _, _, _, WalksT.enumFrom 0 D.D e ne hef D.mem, ⟨⟨old, he⟩, D.st⟩, fun b hb => hb, fun j vals hp => ?_, fun j h hs => ⟨hs.1, D.to j h hs.2, ne⟩⟩
    obtain ⟨t, x, hx, rfl⟩ := hp
    obtain ⟨y, e1, r⟩ := D.rel j x hx
    have e2 : xs.getD j .non = y := by rw [List.getD_eq_getElem?_getD, e1]; rfl
    exact .cons ⟨t, by rw [Int.zero_add]⟩ (.cons (by rw [e2]; exact r) .nil)
theorem pi_enumS {X : Cx} {e : Expr} {ta : TA} {p pos tpos : Pos} {elts : List Expr} {kk : Nat} (hg : Gl X "enumerate") (hm : X.mg "enumerate" = none) (ha : PA X [e] ta) (hs : starEach [e] X.env = [(false, eval e X.env)] := by rfl) :
    PI X (.Tuple elts kk tpos) (.Call (.Name "enumerate" p) [e] [] pos) (iEnumS X.K ta) := by
  refine ⟨fun pins s σ H R I h => ?_⟩
  refine Call_ (ld_blt I hg hm boot_enumerate (PyProof.Rows.callWith_type1 (thn (ha.run pos pins s σ H _ I h) fun us s1 ⟨vs, H1, I1, r1, q1⟩ => ?_) hs rfl))
  have key : ∀ (k : SK) (xs : List V) (C : Hp → Prop), us = [k.val] → SrcV X.K H1 k xs → (∀ H, C H → SrcV X.K H k xs) → R (Ite1 xs C) H1 →
      wpAny (model X.prog X.w) X.A (call (.type "enumerate") us) (fun v s1 => wpAny (model X.prog X.w) X.A (pyIter v) (PIE X pins σ (.Tuple elts kk tpos) R) X.xe s1) X.xe s1 := by
    intro k xs C hu hk hC q
    subst hu
    obtain ⟨its, hits⟩ := src_has I1 hk
    refine call_enum1 (k.begins its) hits fun h' he hit hsz hk' => wpAny_pyIter_enum he ?_
    have I2 : Inv X pins σ H1 { s1 with heap := h' } := I1.kept (t' := s1.toks) hk'
    refine ⟨s1.heap.objs.size + 1, [s1.heap.objs.size + 1, s1.heap.objs.size], _, _, H1, rfl, I2, turn_enumS k xs (s1.heap.objs.size + 1) s1.heap.objs.size C hC, ⟨⟨.none, he⟩, k.first hit, Nat.succ_ne_self _⟩, fun b hb => ?_, q⟩
    have e' : b = s1.heap.objs.size + 1 ∨ b = s1.heap.objs.size := by simpa using hb
    have hle : s1.heap.objs.size ≤ b := by
      rcases e' with z | z
      · rw [z]; exact Nat.le_add_right _ _
      · rw [z]; exact Nat.le_refl _
    exact I1.fpOk hle (I1.hok.fresh hle)
  obtain ⟨xs, q1⟩ := q1
  rcases q1 with ⟨a, rfl, hq, q⟩ | ⟨a, rfl, hq, q⟩ | ⟨z, rfl, hq, q⟩
  · cases r1 with
    | cons r rr => cases rr; cases r; exact key (.lst a) xs _ rfl hq (fun _ h => h) q
  · cases r1 with
    | cons r rr => cases rr; cases r; exact key (.tup a) xs _ rfl hq (fun _ h => h) q
  · cases r1 with
    | cons r rr => cases rr; obtain ⟨t, rfl⟩ := r; exact key (.str z t) xs _ rfl hq (fun _ _ => hq) q
def Itz1 (xs ys : List V) (C : Hp → Prop) : It := Itw (min xs.length ys.length) (fun i => [xs.getD i .non, ys.getD i .non]) C
/-- a source at the level of values: what its kind asks -/
inductive SrcC (K : PySem.W.Frag) : V → List V → (Hp → Prop) → Prop
  | lst (a : Addr) (xs : List V) : SrcC K (.ref a) xs fun H => SqL K H a xs
  | tup (a : Addr) (xs : List V) : SrcC K (.ref a) xs fun H => SqT K H a xs
  | str (z : Str) : SrcC K (.str z) (z.cps.toList.map fun c => V.str ⟨#[c]⟩) fun _ => True
theorem SrcC.kind {K : PySem.W.Frag} {v : V} {xs : List V} {C : Hp → Prop} {u : Value} (h : SrcC K v xs C) (r : RelV v u) : ∃ k : SK, u = k.val ∧ ∀ H, C H → SrcV K H k xs := by
  cases h with
  | lst a xs => cases r; exact ⟨.lst a, rfl, fun _ h => h⟩
  | tup a xs => cases r; exact ⟨.tup a, rfl, fun _ h => h⟩
  | str z => obtain ⟨t, rfl⟩ := r; exact ⟨.str z t, rfl, fun _ _ => rfl⟩
def iZipS (K : PySem.W.Frag) (ta : TA) : TI := fun σ H R => ta σ H fun vs H1 => ∃ v1 v2 xs ys C1 C2, vs = [v1, v2] ∧ SrcC K v1 xs C1 ∧ SrcC K v2 ys C2 ∧ C1 H1 ∧ C2 H1 ∧ R (Itz1 xs ys fun H => C1 H ∧ C2 H) H1
theorem turn_zipS {P : Program} {w : World} {K : PySem.W.Frag} {elts : List Expr} {kk : Nat} {tpos : Pos} (k1 k2 : SK) (xs ys : List V) (z TI TO i1 i2 : Addr) (C : Hp → Prop) (h1 : ∀ H, C H → SrcV K H k1 xs) (h2 : ∀ H, C H → SrcV K H k2 ys)
    (d : TI ≠ z ∧ TO ≠ z ∧ TI ≠ TO ∧ TI ≠ i1 ∧ TI ≠ i2 ∧ z ≠ i1 ∧ z ≠ i2 ∧ TO ≠ i1 ∧ TO ≠ i2 ∧ i1 ≠ i2) :
    Turn P w K (.Tuple elts kk tpos) (Itz1 xs ys C) [z, TI, TO, i1, i2] z (fun i h => IsZip h z TI TO .none ∧ IsTupOf2 h TI (.ref i1) (.ref i2) ∧ (∃ a1 a2, IsTupOf2 h TO a1 a2) ∧ k1.it i1 i h ∧ k2.it i2 i h) := by
  obtain ⟨d1, d2, d3, d4, d5, d6, d7, d8, d9, d10⟩ := d
  refine turn_walk (by simp) (fun i h st b hb => ?_) (fun i h h' st kp => ?_) (fun i => pair_small) (fun A i s Q E st q => ?_) fun X hP hw hK hc i pins s σ H I hf st c => ?_
  · obtain ⟨hz, hTI, ⟨x, y, hTO⟩, e1, e2⟩ := st
    have e' : b = z ∨ b = TI ∨ b = TO ∨ b = i1 ∨ b = i2 := by simpa using hb
    rcases e' with q | q | q | q | q
    · rw [q]; exact ⟨_, hz, fun v q => nomatch q⟩
    · rw [q]; exact ⟨_, hTI, fun v q => nomatch q⟩
    · rw [q]; exact ⟨_, hTO, fun v q => nomatch q⟩
    · rw [q]; exact k1.cell e1
    · rw [q]; exact k2.cell e2
  · obtain ⟨hz, hTI, ⟨x, y, hTO⟩, e1, e2⟩ := st
    exact ⟨kp z (by simp) _ hz, kp TI (by simp) _ hTI, ⟨x, y, kp TO (by simp) _ hTO⟩, k1.kept e1 (kp i1 (by simp)), k2.kept e2 (kp i2 (by simp))⟩
  · obtain ⟨hz, _⟩ := st
    exact wpAny_pyIter_zip hz q
  · obtain ⟨hz, hTI, hTO, e1, e2⟩ := st
    subst hP hw hK
    have hh : X.A.in1.handled = none := I.ok.hd hc
    obtain ⟨D1⟩ := src_draw (A := X.A.in1) hh I (hf i1 (by simp)) (h1 H c) e1
    obtain ⟨D2⟩ := src_draw (A := X.A.in1) hh I (hf i2 (by simp)) (h2 H c) e2
    have out1 : ∀ b, b ∈ [z, TI, TO, i1, i2] → b ≠ i1 → b ∉ D1.fp := fun b hb hn q => by
      rcases D1.ap b q with y | y
      · exact hn y
      · exact y b (hf b hb) rfl
    have out2 : ∀ b, b ∈ [z, TI, TO, i1, i2] → b ≠ i2 → b ∉ D2.fp := fun b hb hn q => by
      rcases D2.ap b q with y | y
      · exact hn y
      · exact y b (hf b hb) rfl
    have S : ZipSep2 z TI TO i1 i2 D1.fp D2.fp := ⟨d1, d2, d3, d4, D1.mem, out1 z (by simp) d6, out1 TO (by simp) d8, d5, D2.mem, out2 z (by simp) d7, out2 TO (by simp) d9, out2 i1 (by simp) d10, out1 i2 (by simp) (Ne.symm d10)⟩
    refine ⟨_, _, _, _, _, WalksT.zipD2 S D1.D D2.D, ⟨hz, hTI, hTO, D1.st, D2.st⟩, fun b hb => ?_, fun j vals hp => ?_, fun j h hs => ⟨hs.1, hs.2.1, hs.2.2.1, D1.to j h hs.2.2.2.1, D2.to j h hs.2.2.2.2⟩⟩
    · simp at hb ⊢
      rcases hb with q | q | q | q <;> simp [q]
    · obtain ⟨x, y, hx, hy, rfl⟩ := hp
      obtain ⟨x', q1, r1⟩ := D1.rel j x hx
      obtain ⟨y', q2, r2⟩ := D2.rel j y hy
      have e3 : xs.getD j .non = x' := by rw [List.getD_eq_getElem?_getD, q1]; rfl
      have e4 : ys.getD j .non = y' := by rw [List.getD_eq_getElem?_getD, q2]; rfl
      exact .cons (by rw [e3]; exact r1) (.cons (by rw [e4]; exact r2) .nil)
theorem pi_zipS {X : Cx} {e e2 : Expr} {ta : TA} {p pos tpos : Pos} {elts : List Expr} {kk : Nat} (hg : Gl X "zip") (hm : X.mg "zip" = none) (ha : PA X [e, e2] ta)
    (hs : starEach [e, e2] X.env = (false, eval e X.env) :: starEach [e2] X.env := by rfl) (hpl : (backTo pos (starEach [e2] X.env)).any (·.1) = false := by rfl) :
    PI X (.Tuple elts kk tpos) (.Call (.Name "zip" p) [e, e2] [] pos) (iZipS X.K ta) := by
  refine ⟨fun pins s σ H R I h => ?_⟩
  refine Call_ (ld_blt I hg hm boot_zip (PyProof.Rows.callWith_type1 (thn (ha.run pos pins s σ H _ I h) fun us s1 ⟨vs, H1, I1, r1, q1⟩ => ?_) hs hpl))
  obtain ⟨v1, v2, xs, ys, C1, C2, rfl, c1, c2, hc1, hc2, q⟩ := q1
  cases r1 with
  | cons r rr =>
    cases rr with
    | cons r' rr =>
      cases rr
      obtain ⟨k1, rfl, f1⟩ := c1.kind r
      obtain ⟨k2, rfl, f2⟩ := c2.kind r'
      obtain ⟨its1, hits1⟩ := src_has I1 (f1 H1 hc1)
      obtain ⟨its2, hits2⟩ := src_has I1 (f2 H1 hc2)
      refine zip_begins2 (k1.begins its1) (k2.begins its2) hits1 hits2 fun h' hz hTI hTO hi1 hi2 hsz hk => wpAny_pyIter_zip hz ?_
      have I2 : Inv X pins σ H1 { s1 with heap := h' } := I1.kept (t' := s1.toks) hk
      generalize hN : s1.heap.objs.size = N at *
      have dd : ∀ a b : Nat, a ≠ b → (N + a : Nat) ≠ N + b := fun a b h => by omega
      refine ⟨N + 4, [N + 4, N + 2, N + 3, N, N + 1], _, _, H1, rfl, I2, turn_zipS k1 k2 xs ys (N + 4) (N + 2) (N + 3) N (N + 1) (fun H => C1 H ∧ C2 H) (fun H c => f1 H c.1) (fun H c => f2 H c.2)
        ⟨dd 2 4 (by decide), dd 3 4 (by decide), dd 2 3 (by decide), dd 2 0 (by decide), dd 2 1 (by decide), dd 4 0 (by decide), dd 4 1 (by decide), dd 3 0 (by decide), dd 3 1 (by decide), dd 0 1 (by decide)⟩,
        ⟨hz, hTI, ⟨_, _, hTO⟩, k1.first hi1, k2.first hi2⟩, fun b hb => ?_, q⟩
      have e' : b = N + 4 ∨ b = N + 2 ∨ b = N + 3 ∨ b = N ∨ b = N + 1 := by simpa using hb
      have hle : s1.heap.objs.size ≤ b := by
        rw [hN]
        have big : ∀ a : Nat, (N : Nat) ≤ N + a := fun a => Nat.le_add_right _ _
        rcases e' with q | q | q | q | q
        · rw [q]; exact big 4
        · rw [q]; exact big 2
        · rw [q]; exact big 3
        · rw [q]; exact big 0
        · rw [q]; exact big 1
      exact I1.fpOk hle (I1.hok.fresh hle)
end Mp

namespace Mp
open PySem PySem.Spec PyProof.Rows L2

def strItems (s : List Nat) : List D := s.map fun c => .str [c]
def seqItems (d : D) : Rs (List D) := match d with
  | .tup ds => .ok ds
  | .ktup ds => .ok ds
  | .lst ds => .ok ds
  | .str s => .ok (strItems s)
  | _ => .no
def iSeq (a : Den) : IDen := fun ε S => do
  let (r, ε1, S1) ← a ε S
  let (d, ε2) ← r.fix ε1
  let ds ← seqItems d
  .ok (ds, ε2, S1)
def iR1 (as : ADen) : IDen := fun ε S => do
  let (ds, ε1, S1) ← as ε S
  match ds with
  | [.int j] => if -(2 ^ 62) ≤ j ∧ j < 2 ^ 62 then .ok (intsFrom 0 j.toNat, ε1, S1) else .no
  | _ => .no
def iR2 (as : ADen) : IDen := fun ε S => do
  let (ds, ε1, S1) ← as ε S
  match ds with
  | [.int i, .int j] => if (-(2 ^ 62) ≤ i ∧ i < 2 ^ 62) ∧ -(2 ^ 62) ≤ j ∧ j < 2 ^ 62 then .ok (intsFrom i (j - i).toNat, ε1, S1) else .no
  | _ => .no
def intsBy (lo c : Int) (n : Nat) : List D := (List.range n).map fun (i : Nat) => .int (lo + (i : Int) * c)
def iR3 (as : ADen) : IDen := fun ε S => do
  let (ds, ε1, S1) ← as ε S
  match ds with
  | [.int i, .int j, .int c] =>
    if c = -1 then
      if (-(2 ^ 62) ≤ i ∧ i < 2 ^ 62) ∧ -(2 ^ 62) ≤ j ∧ j < 2 ^ 62 then .ok (intsBy i (-1) (i - j).toNat, ε1, S1) else .no
    else if c ≠ 0 ∧ c.natAbs < 1073741824 ∧ Builtin.Range.small i j c = true ∧ 0 ≤ Builtin.Range.rangeSize i j c then .ok (intsBy i c (Builtin.Range.rangeSize i j c).toNat, ε1, S1) else .no
  | _ => .no
def enumFrom (k : Int) : List D → List D
  | [] => []
  | d :: r => .tup [.int k, d] :: enumFrom (k + 1) r
theorem enumFrom_length : ∀ (k : Int) (ds : List D), (enumFrom k ds).length = ds.length
  | _, [] => rfl
  | k, d :: r => by simp [enumFrom, enumFrom_length (k + 1) r]
theorem enumFrom_get : ∀ (k : Int) (ds : List D) (i : Nat), (enumFrom k ds)[i]? = ds[i]?.map fun d => .tup [.int (k + (i : Int)), d]
  | _, [], i => by simp [enumFrom]
  | k, d :: r, 0 => by simp [enumFrom]
  | k, d :: r, i + 1 => by
    simp only [enumFrom, List.getElem?_cons_succ]
    rw [enumFrom_get (k + 1) r i]
    have e : k + 1 + (i : Int) = k + ((i + 1 : Nat) : Int) := by omega
    rw [e]
def iEnum (as : ADen) : IDen := fun ε S => do
  let (ds, ε1, S1) ← as ε S
  match ds with
  | [d] => do
    let xs ← seqItems d
    .ok (enumFrom 0 xs, ε1, S1)
  | _ => .no
def zipItems (xs ys : List D) : List D := List.zipWith (fun x y => .tup [x, y]) xs ys
def iZip (as : ADen) : IDen := fun ε S => do
  let (ds, ε1, S1) ← as ε S
  match ds with
  | [a, b] => do
    let xs ← seqItems a
    let ys ← seqItems b
    .ok (zipItems xs ys, ε1, S1)
  | _ => .no

section
variable {K : Kc} {R : Rc}
theorem Reps.getI {ds : List D} {vs : List V} {i : Nat} {d : D} {v : V} (h : Reps K R ds vs) (e : ds[i]? = some d) (e' : vs[i]? = some v) : Rep K R d v := by
  obtain ⟨u, e1, r⟩ := h.get e
  rw [e'] at e1; cases e1; exact r
theorem TQ.sq {a : Addr} {vs : List V} {S : Store} {H : Hp} (z : TQ K R a vs) (g : GR K R S H) : SqT K.F H a vs := z.elim (fun z => .inl (.inl (g.zh a _ z))) .inr
theorem ZT.sq {a : Addr} {vs : List V} {S : Store} {H : Hp} (z : ZT K R a vs) (g : GR K R S H) : SqT K.F H a vs := .inl (.inl (g.zh a _ z))
theorem jw_list {a : Addr} {vs : List V} {ds : List D} (z : R.Z a = some (.lst vs)) (r : Reps K R ds vs) : JW K R (Itl K.F a) ds where
  go := fun i S H R' l g hi => by
    have hv : i < vs.length := by rw [r.length]; exact hi
    exact ⟨vs, vs[i], SqL.of (g.zh a _ (l.z _ _ z)), List.getElem?_eq_getElem hv⟩
  yl := fun i S H R' x H' d l g e y => by
    obtain ⟨rfl, hx⟩ := y
    exact ⟨R', .refl _ _, (r.mono l).getI e (hx vs (SqL.of (g.zh a _ (l.z _ _ z))))⟩
  sp := fun S H R' l g => ⟨vs, SqL.of (g.zh a _ (l.z _ _ z)), Nat.le_of_eq r.length⟩
theorem jw_tup {a : Addr} {vs : List V} {ds : List D} (z : TQ K R a vs) (r : Reps K R ds vs) : JW K R (Itt K.F a) ds where
  go := fun i S H R' l g hi => by
    have hv : i < vs.length := by rw [r.length]; exact hi
    exact ⟨vs, vs[i], (z.mono l).sq g, List.getElem?_eq_getElem hv⟩
  yl := fun i S H R' x H' d l g e y => by
    obtain ⟨rfl, hx⟩ := y
    exact ⟨R', .refl _ _, (r.mono l).getI e (hx vs ((z.mono l).sq g))⟩
  sp := fun S H R' l g => ⟨vs, (z.mono l).sq g, Nat.le_of_eq r.length⟩
theorem jw_str {s : List Nat} : JW K R (Its ⟨s.toArray⟩) (strItems s) where
  go := fun i S H R' l g hi => by simpa [strItems, Its] using hi
  yl := fun i S H R' x H' d l g e y => by
    obtain ⟨rfl, c, hc, rfl⟩ := y
    have hc' : s[i]? = some c := by simpa using hc
    have e' : (s.map fun c => D.str [c])[i]? = some d := e
    rw [List.getElem?_map, hc'] at e'
    cases e'
    exact ⟨R', .refl _ _, rfl⟩
  sp := fun S H R' l g => by simp [strItems, Its]
theorem jw_range {lo : Int} {n : Nat} : JW K R (Itr lo n) (intsFrom lo n) where
  go := fun i S H R' l g hi => by simpa [intsFrom, Itr] using hi
  yl := fun i S H R' x H' d l g e y => by
    obtain ⟨rfl, rfl⟩ := y
    have hi : i < n := by simpa [intsFrom] using (List.getElem?_eq_some_iff.mp e).1
    have e' : d = .int (lo + (i : Int)) := by
      simp [intsFrom, hi] at e
      exact e.symm
    subst e'
    exact ⟨R', .refl _ _, rfl⟩
  sp := fun S H R' l g => by simp [intsFrom, Itr]
theorem jw_rangeC {lo c : Int} {n : Nat} : JW K R (Itc lo c n) (intsBy lo c n) where
  go := fun i S H R' l g hi => by simpa [intsBy, Itc] using hi
  yl := fun i S H R' x H' d l g e y => by
    obtain ⟨rfl, rfl⟩ := y
    have hi : i < n := by simpa [intsBy] using (List.getElem?_eq_some_iff.mp e).1
    have e' : d = .int (lo + (i : Int) * c) := by
      simp [intsBy, hi] at e
      exact e.symm
    subst e'
    exact ⟨R', .refl _ _, rfl⟩
  sp := fun S H R' l g => by simp [intsBy, Itc]
theorem jw_walk {n : Nat} {vf : Nat → List V} {C : Hp → Prop} {ds : List D} (hn : ds.length = n) (hC : ∀ S H R', Le R R' → GR K R' S H → C H) (hd : ∀ (i : Nat) d, ds[i]? = some d → ∃ es, d = .tup es ∧ Reps K R es (vf i)) : JW K R (Itw n vf C) ds where
  go := fun i S H R' l g hi => ⟨hC S H R' l g, by rw [← hn]; exact hi⟩
  yl := fun i S H R' x H' d l g e y => by
    obtain ⟨T, rfl, nT, rfl⟩ := y
    obtain ⟨es, rfl, r⟩ := hd i d e
    have z := g.free nT
    exact ⟨R'.tell T (.tup (vf i)), Gw.tell nT z, T, vf i, rfl, tell_at, r.mono (l.trans (tell_le z))⟩
  sp := fun S H R' l g => ⟨hC S H R' l g, hn⟩
theorem chr_reps : ∀ s : List Nat, Reps K R (s.map fun c => D.str [c]) (s.map fun c => V.str ⟨#[c]⟩)
  | [] => rfl
  | c :: r => ⟨_, _, rfl, rfl, chr_reps r⟩
theorem str_reps (s : List Nat) : Reps K R (strItems s) ((⟨s.toArray⟩ : Str).cps.toList.map fun c => V.str ⟨#[c]⟩) := chr_reps s
/-- a value with items is a source -/
theorem src_of {d : D} {v : V} {ds : List D} (h : Rep K R d v) (e : seqItems d = .ok ds) :
    ∃ (xs : List V) (C : Hp → Prop), SrcC K.F v xs C ∧ Reps K R ds xs ∧ (∀ S H R', Le R R' → GR K R' S H → C H) := by
  cases d with
  | tup es =>
    cases e
    obtain ⟨a, vs, rfl, z, r⟩ := h
    exact ⟨vs, fun H => SqT K.F H a vs, .tup a vs, r, fun S H R' l g => (z.mono l).sq g⟩
  | ktup es =>
    cases e
    obtain ⟨a, vs, rfl, z, r⟩ := h
    exact ⟨vs, fun H => SqT K.F H a vs, .tup a vs, r, fun S H R' l g => .inr z⟩
  | lst es =>
    cases e
    obtain ⟨a, vs, rfl, z, r⟩ := h
    exact ⟨vs, fun H => SqL K.F H a vs, .lst a vs, r, fun S H R' l g => SqL.of (g.zh a _ (l.z _ _ z))⟩
  | str s =>
    cases e
    have h' : v = .str ⟨s.toArray⟩ := h
    subst h'
    exact ⟨(⟨s.toArray⟩ : Str).cps.toList.map fun c => V.str ⟨#[c]⟩, fun _ => True, SrcC.str _, str_reps s, fun _ _ _ _ _ => trivial⟩
  | non => cases e
  | bl b => cases e
  | int i => cases e
  | dct t ks vs => cases e
  | ref j => cases e
  | scr ns => cases e
end
section
variable {X : Cx} {cl : Nat → Addr} {e e2 a b c tg : Expr} {Ea Eb Ec : Den} {pos p : Pos}
theorem PI.or {w1 w2 : TI} (h1 : PI X tg e w1) (h2 : PI X tg e w2) : PI X tg e (fun σ H R => w1 σ H R ∨ w2 σ H R) :=
  ⟨fun pins s σ H R I h => h.elim (h1.run pins s σ H R I) (h2.run pins s σ H R I)⟩
theorem iv_seq (h : PE X e (tOf (kx X cl) Ea)) : PI X tg e (iOf (kx X cl) (iSeq Ea)) := by
  refine PI.im (PI.or (pi_list h) (PI.or (pi_tup h) (pi_str h))) fun σ H C hh => ?_
  obtain ⟨ε, S, R, ω, ds, ε', S', he, s, k⟩ := hh
  obtain ⟨⟨r, ε1, S1⟩, e1, he⟩ := bind_ok he
  obtain ⟨⟨d, ε2⟩, e2, he⟩ := bind_ok he
  obtain ⟨xs, e3, he⟩ := bind_ok he
  cases he
  match d, e2, e3 with
  | .lst es, e2, e3 =>
    cases e3
    refine .inl ⟨ε, S, R, ω, r, ε1, S', e1, s, fun v1 R1 ω1 H1 x1 s1 p1 => ?_⟩
    obtain ⟨R2, ω2, x2, s2, a, vs, rfl, z, rs⟩ := p1.fix s1 x1 e2
    exact ⟨a, rfl, ⟨vs, SqL.of (s2.g.zh a _ z)⟩, k _ R2 ω2 H1 x2 s2 (jw_list z rs)⟩
  | .tup es, e2, e3 =>
    cases e3
    refine .inr (.inl ⟨ε, S, R, ω, r, ε1, S', e1, s, fun v1 R1 ω1 H1 x1 s1 p1 => ?_⟩)
    obtain ⟨R2, ω2, x2, s2, a, vs, rfl, z, rs⟩ := p1.fix s1 x1 e2
    exact ⟨a, rfl, ⟨vs, z.sq s2.g⟩, k _ R2 ω2 H1 x2 s2 (jw_tup (.inl z) rs)⟩
  | .ktup es, e2, e3 =>
    cases e3
    refine .inr (.inl ⟨ε, S, R, ω, r, ε1, S', e1, s, fun v1 R1 ω1 H1 x1 s1 p1 => ?_⟩)
    obtain ⟨R2, ω2, x2, s2, a, vs, rfl, z, rs⟩ := p1.fix s1 x1 e2
    exact ⟨a, rfl, ⟨vs, .inr z⟩, k _ R2 ω2 H1 x2 s2 (jw_tup (.inr z) rs)⟩
  | .str z, e2, e3 =>
    cases e3
    refine .inr (.inr ⟨ε, S, R, ω, r, ε1, S', e1, s, fun v1 R1 ω1 H1 x1 s1 p1 => ?_⟩)
    obtain ⟨R2, ω2, x2, s2, rr⟩ := p1.fix s1 x1 e2
    exact ⟨_, rr, k _ R2 ω2 H1 x2 s2 jw_str⟩
theorem iv_r1 {As : ADen} (hg : Gl X "range") (hm : X.mg "range" = none) (ha : PA X [a] (aOf (kx X cl) As)) (hs : starEach [a] X.env = [(false, eval a X.env)] := by rfl) : PI X tg (.Call (.Name "range" p) [a] [] pos) (iOf (kx X cl) (iR1 As)) := by
  refine PI.im (pi_range1 hg hm ha hs) fun σ H C hh => ?_
  obtain ⟨ε, S, R, ω, ds, ε', S', he, s, k⟩ := hh
  obtain ⟨⟨xs, ε1, S1⟩, e1, he⟩ := bind_ok he
  refine ⟨ε, S, R, ω, xs, ε1, S1, e1, s, fun vs R1 ω1 H1 x1 s1 p1 => ?_⟩
  match xs, he, p1 with
  | [.int j], he, p1 =>
    simp only at he
    split at he
    · rename_i hj
      cases he
      obtain ⟨v, r, rfl, rv, rr⟩ := p1
      cases (show r = [] from rr)
      cases (show v = .int j from rv)
      exact ⟨j, rfl, hj.1, hj.2, k _ R1 ω1 H1 x1 s1 jw_range⟩
    · cases he
theorem iv_r2 {As : ADen} (hg : Gl X "range") (hm : X.mg "range" = none) (ha : PA X [a, b] (aOf (kx X cl) As)) (hs : starEach [a, b] X.env = [(false, eval a X.env), (false, eval b X.env)] := by rfl) (hs2 : starEach [b] X.env = [(false, eval b X.env)] := by rfl) : PI X tg (.Call (.Name "range" p) [a, b] [] pos) (iOf (kx X cl) (iR2 As)) := by
  refine PI.im (pi_range2 hg hm ha hs hs2) fun σ H C hh => ?_
  obtain ⟨ε, S, R, ω, ds, ε', S', he, s, k⟩ := hh
  obtain ⟨⟨xs, ε1, S1⟩, e1, he⟩ := bind_ok he
  refine ⟨ε, S, R, ω, xs, ε1, S1, e1, s, fun vs R1 ω1 H1 x1 s1 p1 => ?_⟩
  match xs, he, p1 with
  | [.int i, .int j], he, p1 =>
    simp only at he
    split at he
    · rename_i hj
      cases he
      obtain ⟨v, r, rfl, rv, v2, r2, rfl, rv2, rr⟩ := p1
      cases (show r2 = [] from rr)
      cases (show v = .int i from rv)
      cases (show v2 = .int j from rv2)
      exact ⟨i, j, rfl, ⟨hj.1.1, hj.1.2, hj.2.1, hj.2.2⟩, k _ R1 ω1 H1 x1 s1 jw_range⟩
    · cases he
theorem iv_r3 {As : ADen} (hg : Gl X "range") (hm : X.mg "range" = none) (ha : PA X [a, b, c] (aOf (kx X cl) As)) (hs : starEach [a, b, c] X.env = (false, eval a X.env) :: starEach [b, c] X.env := by rfl) (hpl : (backTo pos (starEach [b, c] X.env)).any (·.1) = false := by rfl) : PI X tg (.Call (.Name "range" p) [a, b, c] [] pos) (iOf (kx X cl) (iR3 As)) := by
  refine PI.im (pi_range3 hg hm ha hs hpl) fun σ H C hh => ?_
  obtain ⟨ε, S, R, ω, ds, ε', S', he, s, k⟩ := hh
  obtain ⟨⟨xs, ε1, S1⟩, e1, he⟩ := bind_ok he
  refine ⟨ε, S, R, ω, xs, ε1, S1, e1, s, fun vs R1 ω1 H1 x1 s1 p1 => ?_⟩
  match xs, he, p1 with
  | [.int i, .int j, .int c], he, p1 =>
    obtain ⟨v, r, rfl, rv, v2, r2, rfl, rv2, v3, r3, rfl, rv3, rr⟩ := p1
    cases (show r3 = [] from rr)
    cases (show v = .int i from rv)
    cases (show v2 = .int j from rv2)
    cases (show v3 = .int c from rv3)
    simp only at he
    split at he
    · rename_i hc
      subst hc
      split at he
      · rename_i hj
        cases he
        exact ⟨i, j, -1, _, rfl, RgC.neg hj.1.1 hj.1.2 hj.2.1 hj.2.2, k _ R1 ω1 H1 x1 s1 jw_rangeC⟩
      · cases he
    · split at he
      · rename_i hc
        cases he
        exact ⟨i, j, c, _, rfl, ⟨hc.1, hc.2.1, hc.2.2.1, (Int.toNat_of_nonneg hc.2.2.2).symm⟩, k _ R1 ω1 H1 x1 s1 jw_rangeC⟩
      · cases he
theorem iv_enum {As : ADen} {tpos : Pos} {elts : List Expr} {kk : Nat} (hg : Gl X "enumerate") (hm : X.mg "enumerate" = none) (ha : PA X [e] (aOf (kx X cl) As)) (hs : starEach [e] X.env = [(false, eval e X.env)] := by rfl) :
    PI X (.Tuple elts kk tpos) (.Call (.Name "enumerate" p) [e] [] pos) (iOf (kx X cl) (Mp.iEnum As)) := by
  refine PI.im (pi_enumS hg hm ha hs) fun σ H C hh => ?_
  obtain ⟨ε, S, R, ω, ds, ε', S', he, s, k⟩ := hh
  obtain ⟨⟨xs, ε1, S1⟩, e1, he⟩ := bind_ok he
  refine ⟨ε, S, R, ω, xs, ε1, S1, e1, s, fun vs R1 ω1 H1 x1 s1 p1 => ?_⟩
  match xs, he, p1 with
  | [d], he, p1 =>
    obtain ⟨es, e3, he⟩ := bind_ok he
    cases he
    obtain ⟨v, r, rfl, rv, rr⟩ := p1
    cases (show r = [] from rr)
    obtain ⟨ws, C1, hsrc, rs, hC⟩ := src_of rv e3
    have j : ∀ C2 : Hp → Prop, (∀ S H R', Le R1 R' → GR (kx X cl) R' S H → C2 H) → JW (kx X cl) R1 (Ite1 ws C2) (enumFrom 0 es) := fun C2 hC2 => by
      refine jw_walk (by rw [enumFrom_length, rs.length]) hC2 fun i d hd => ?_
      rw [enumFrom_get] at hd
      cases q : es[i]? with
      | none => rw [q] at hd; cases hd
      | some y =>
        rw [q] at hd
        cases hd
        obtain ⟨u, e5, ru⟩ := rs.get q
        refine ⟨_, rfl, .int (i : Nat), [ws.getD i .non], rfl, ?_, Reps.one ?_⟩
        · show V.int (i : Nat) = V.int (0 + (i : Int))
          rw [Int.zero_add]
        · rw [List.getD_eq_getElem?_getD, e5]; exact ru
    refine ⟨ws, ?_⟩
    cases hsrc with
    | lst a => exact .inl ⟨a, rfl, hC _ _ R1 (.refl _) s1.g, k _ R1 ω1 H1 x1 s1 (j _ hC)⟩
    | tup a => exact .inr (.inl ⟨a, rfl, hC _ _ R1 (.refl _) s1.g, k _ R1 ω1 H1 x1 s1 (j _ hC)⟩)
    | str z => exact .inr (.inr ⟨z, rfl, rfl, k _ R1 ω1 H1 x1 s1 (j _ hC)⟩)
theorem iv_zip {As : ADen} {tpos : Pos} {elts : List Expr} {kk : Nat} (hg : Gl X "zip") (hm : X.mg "zip" = none) (ha : PA X [e, e2] (aOf (kx X cl) As))
    (hs : starEach [e, e2] X.env = (false, eval e X.env) :: starEach [e2] X.env := by rfl) (hpl : (backTo pos (starEach [e2] X.env)).any (·.1) = false := by rfl) :
    PI X (.Tuple elts kk tpos) (.Call (.Name "zip" p) [e, e2] [] pos) (iOf (kx X cl) (Mp.iZip As)) := by
  refine PI.im (pi_zipS hg hm ha hs hpl) fun σ H C hh => ?_
  obtain ⟨ε, S, R, ω, ds, ε', S', he, s, k⟩ := hh
  obtain ⟨⟨xs, ε1, S1⟩, e1, he⟩ := bind_ok he
  refine ⟨ε, S, R, ω, xs, ε1, S1, e1, s, fun vs R1 ω1 H1 x1 s1 p1 => ?_⟩
  match xs, he, p1 with
  | [d1, d2], he, p1 =>
    obtain ⟨es1, e3, he⟩ := bind_ok he
    obtain ⟨es2, e4, he⟩ := bind_ok he
    cases he
    obtain ⟨v, r, rfl, rv, v2, r2, rfl, rv2, rr⟩ := p1
    cases (show r2 = [] from rr)
    obtain ⟨ws1, C1, hs1, rs1, hC1⟩ := src_of rv e3
    obtain ⟨ws2, C2, hs2, rs2, hC2⟩ := src_of rv2 e4
    refine ⟨_, _, ws1, ws2, C1, C2, rfl, hs1, hs2, hC1 _ _ R1 (.refl _) s1.g, hC2 _ _ R1 (.refl _) s1.g, k _ R1 ω1 H1 x1 s1 ?_⟩
    refine jw_walk (by simp [zipItems, rs1.length, rs2.length]) (fun S H R' l g => ⟨hC1 S H R' l g, hC2 S H R' l g⟩) fun i d hd => ?_
    simp only [zipItems, List.getElem?_zipWith] at hd
    cases q1 : es1[i]? with
    | none => rw [q1] at hd; simp at hd
    | some y1 =>
      cases q2 : es2[i]? with
      | none => rw [q1, q2] at hd; simp at hd
      | some y2 =>
        rw [q1, q2] at hd
        simp at hd
        subst hd
        obtain ⟨u1, f1, ru1⟩ := rs1.get q1
        obtain ⟨u2, f2, ru2⟩ := rs2.get q2
        refine ⟨_, rfl, _, _, rfl, ?_, Reps.one ?_⟩
        · rw [List.getD_eq_getElem?_getD, f1]; exact ru1
        · rw [List.getD_eq_getElem?_getD, f2]; exact ru2
theorem ev_call {x : Str} {es : List Expr} {As : ADen} {C : CallI} {j k : Nat} {f : Addr} {fd : FuncData} {ps : List Str} (F : FnOk X.prog X.w X.K X.mg X.base CX0 k f fd ps (spOf (kx X cl) (C.call j))) (hr : Room k X.A) (hg : Gl X x) (hm : X.mg x = some (.ref f)) (hk : PySem.W.keepIn X.K (.ref f) = true) (hb : Binds X.K fd ps [])
    (ha : PA X (e :: es) (aOf (kx X cl) As)) (hdb : (x == ("__debug__" : Str)) = false := by decide) (he : starEach (e :: es) X.env = (false, eval e X.env) :: starEach es X.env := by rfl) (hpl : (backTo pos (starEach es X.env)).any (·.1) = false := by rfl) :
    PE X (.Call (.Name x p) (e :: es) [] pos) (tOf (kx X cl) (eCall C j As)) := by
  refine PE.im (pe_call F hr hg hm hk hb .nil pass0 ha hdb he hpl) fun σ H Q hh => ?_
  obtain ⟨ε, S, R, ω, rv, ε', S', hc, s, k⟩ := hh
  obtain ⟨⟨ds, ε1, S1⟩, e1, hc⟩ := bind_ok hc
  obtain ⟨⟨b, d, S2⟩, e2, hc⟩ := bind_ok hc
  cases hc
  refine ⟨ε, S, R, ω, ds, ε', S1, e1, s, fun vs R1 ω1 H1 x1 s1 p1 => ?_⟩
  show spOf _ _ (vs ++ []) H1 Q E0
  rw [List.append_nil]
  refine ⟨ds, S1, R1, b, d, S', e2, p1, s1.g, fun v R2 H2 x2 g2 r2 => ?_⟩
  obtain ⟨s2, x3⟩ := s1.called x2 g2
  exact k v R2 ω1 H2 (x1.trans x3) s2 (r2.rvr s1 x1)
theorem ev_call0 {x : Str} {C : CallI} {j k : Nat} {f : Addr} {fd : FuncData} {ps : List Str} (F : FnOk X.prog X.w X.K X.mg X.base CX0 k f fd ps (spOf (kx X cl) (C.call j))) (hr : Room k X.A) (hg : Gl X x) (hm : X.mg x = some (.ref f)) (hk : PySem.W.keepIn X.K (.ref f) = true) (hb : Binds X.K fd ps [])
    (hdb : (x == ("__debug__" : Str)) = false := by decide) : PE X (.Call (.Name x p) [] [] pos) (tOf (kx X cl) (eCall C j aNil)) := by
  refine PE.im (pe_call0 F hr hg hm hk hb .nil pass0 hdb) fun σ H Q hh => ?_
  obtain ⟨ε, S, R, ω, rv, ε', S', hc, s, k⟩ := hh
  obtain ⟨⟨ds, ε1, S1⟩, e1, hc⟩ := bind_ok hc
  obtain ⟨⟨b, d, S2⟩, e2, hc⟩ := bind_ok hc
  cases hc
  cases e1
  refine ⟨[], S, R, b, d, S', e2, rfl, s.g, fun v R2 H2 x2 g2 r2 => ?_⟩
  obtain ⟨s2, x3⟩ := s.called x2 g2
  exact k v R2 ω H2 x3 s2 (r2.rvr s (.refl _ _ _))
end
/-- a table of bodies: parameters, names, body -/
structure FnD where
  np : Nat
  nn : Nat
  body : CallI → SDen
def callF (tab : Nat → Option FnD) (wf : Nat) : Nat → Nat → List D → Store → Rs (Bool × D × Store)
  | 0, _, _, _ => .no
  | n + 1, f, ds, S => match tab f with
    | some g => if ds.length = g.np then runBody g.nn (g.body ⟨callF tab wf n, wf⟩) ds S else .no
    | none => .no
theorem start_sr {K : Kc} {R : Rc} {S : Store} {H : Hp} {ds : List D} {vs : List V} {N : List Str} (g : GR K R S H) (r : Reps K R ds vs) :
    SR K R (fun _ => none) (ds.map (fun d => some (Sl.pl d)) ++ List.replicate (N.length - ds.length) none) S (L2.start N vs) H where
  g := g
  len := by simp [L2.start, r.length]
  sl := fun i t h => by
    unfold slot at h
    by_cases hi : i < ds.length
    · rw [List.getElem?_append_left (by simpa using hi), List.getElem?_map, List.getElem?_eq_getElem hi] at h
      cases h
      obtain ⟨v, e, rv⟩ := r.get (List.getElem?_eq_getElem hi)
      refine ⟨v, ?_, rfl, rv⟩
      unfold L2.start
      rw [List.getElem?_append_left (by rw [List.length_map, r.length]; exact hi), List.getElem?_map, e]
      rfl
    · rw [List.getElem?_append_right (by simpa using Nat.le_of_not_lt hi), List.getElem?_replicate] at h
      split at h <;> cases h
  oz := fun _ _ h => nomatch h
  oρ := fun _ _ h => nomatch h
  oi := fun _ _ _ h => nomatch h
  oh := fun _ _ h => nomatch h
  on := fun _ _ h => nomatch h
/-- THE RULE for a def -/
theorem fn_step {P : Program} {w : World} {K : PySem.W.Frag} {mg : Str → Option Value} {base : Heap} {cl : Nat → Addr} {x qual : Str} {st : Stmt} {f : Addr} {fd : FuncData} {N ps : List Str} {n i : Nat} {tab : Nat → Option FnD} {wf : Nat} {M : CallI → SDen}
    (F : Fun K x qual st f fd) (S : FnScope N ps (defScope st)) (ht : tab i = some ⟨ps.length, N.length, M⟩)
    (hb : ∀ (cdv : Value) (A : Around) (outer : List PySem.Env) (s : Shared) (H : Hp) (E : XK), Room n (A.deeper (envOfC qual (defScope st) s.heap.objs.size f cdv)) →
      PSs (cxOf CX0 P w K mg base N qual (defScope st) f cdv A outer s H E).nox (defBody st) (sOf ⟨K, cl⟩ (M ⟨callF tab wf n, wf⟩))) :
    FnOk P w K mg base CX0 (n + 1) f fd ps (spOf ⟨K, cl⟩ (callF tab wf (n + 1) i)) := by
  have open_ : ∀ (ds : List D) (S : Store) (r : Bool × D × Store), callF tab wf (n + 1) i ds S = .ok r → ds.length = ps.length ∧ runBody N.length (M ⟨callF tab wf n, wf⟩) ds S = .ok r := by
    intro ds S r h
    unfold callF at h
    rw [ht] at h
    simp only at h
    split at h
    · rename_i q; exact ⟨q, h⟩
    · cases h
  refine F.ok S (fun vs H Q E h => ?_) fun cdv A outer s H vs Q E hr h => ?_
  · obtain ⟨ds, S, R, b, d, S', e, r, _⟩ := h
    rw [r.length]; exact (open_ _ _ _ e).1
  · obtain ⟨ds, S1, R, b, d, S', e, r, g, k⟩ := h
    refine ⟨_, hb cdv A outer s H E hr, ?_⟩
    obtain ⟨hl, e⟩ := open_ _ _ _ e
    obtain ⟨o, e1, e⟩ := bind_ok e
    refine ⟨_, S1, R, fun _ => none, o, e1, start_sr g r, ?_⟩
    cases o with
    | nx ε2 S2 =>
      cases e
      exact fun σ' R' ω' H' x' s' => k .non R' H' (x'.om fun _ _ h => nomatch h) s'.g (.plain rfl)
    | rt b2 d2 S2 =>
      cases e
      exact fun v R' ω' H' x' g' r' => k v R' H' (x'.om fun _ _ h => nomatch h) g' r'
    | bk ε2 S2 => cases e
    | ct ε2 S2 => cases e
/-- no depth at all: nothing is promised -/
theorem fn_zero {P : Program} {w : World} {K : PySem.W.Frag} {mg : Str → Option Value} {base : Heap} {cl : Nat → Addr} {f : Addr} {fd : FuncData} {ps : List Str} {i : Nat} {tab : Nat → Option FnD} {wf : Nat} : FnOk P w K mg base CX0 0 f fd ps (spOf ⟨K, cl⟩ (callF tab wf 0 i)) where
  len := fun vs H Q E h => by
    obtain ⟨ds, S, R, b, d, S', e, _⟩ := h
    cases e
  run := fun A outer s H args us vs Q E _ _ _ _ h => by
    obtain ⟨ds, S, R, b, d, S', e, _⟩ := h
    cases e
end Mp

namespace Mp
open PySem PySem.Spec PyProof.Rows L2

mutual
/-- data of depth at most n -/
def D.dat : Nat → D → Bool
  | _, .non => true
  | _, .bl _ => true
  | _, .int _ => true
  | _, .str s => s.all (· < 0x110000)
  | n, .tup ds => match n with | 0 => false | m + 1 => D.dats m ds
  | n, .ktup ds => match n with | 0 => false | m + 1 => D.dats m ds
  | n, .lst ds => match n with | 0 => false | m + 1 => D.dats m ds
  | _, .dct _ _ _ => false
  | _, .ref _ => false
  | _, .scr _ => false
def D.dats : Nat → List D → Bool
  | _, [] => true
  | n, d :: ds => D.dat n d && D.dats n ds
end
mutual
def D.py : D → PyData
  | .non => .none
  | .bl b => .bool b
  | .int i => .int i
  | .str s => .str ⟨s.toArray⟩
  | .tup ds => .tuple (D.pys ds)
  | .ktup ds => .tuple (D.pys ds)
  | .lst ds => .list (D.pys ds)
  | .dct _ _ _ => .none
  | .ref _ => .none
  | .scr _ => .none
def D.pys : List D → List PyData
  | [] => []
  | d :: ds => D.py d :: D.pys ds
end
theorem D.pys_map : ∀ ds : List D, D.pys ds = ds.map D.py
  | [] => rfl
  | d :: ds => by simp [D.pys, D.pys_map ds]
/-- == of data -/
def eqv (a b : D) : Bool := PyData.eqv a.py b.py
mutual
theorem D.canLay : ∀ (n : Nat) (d : D), d.dat n = true → d.py.canLay0 = true
  | _, .non, _ => by simp [D.py, PyData.canLay0]
  | _, .bl _, _ => by simp [D.py, PyData.canLay0]
  | _, .int _, _ => by simp [D.py, PyData.canLay0]
  | _, .str s, h => by
    simp only [D.py, PyData.canLay0, PyData.strOk]
    simpa [D.dat] using h
  | 0, .tup ds, h => by simp [D.dat] at h
  | n + 1, .tup ds, h => by
    simp only [D.py, PyData.canLay0]
    exact D.canLays n ds (by simpa [D.dat] using h)
  | 0, .ktup ds, h => by simp [D.dat] at h
  | n + 1, .ktup ds, h => by
    simp only [D.py, PyData.canLay0]
    exact D.canLays n ds (by simpa [D.dat] using h)
  | 0, .lst ds, h => by simp [D.dat] at h
  | n + 1, .lst ds, h => by
    simp only [D.py, PyData.canLay0]
    exact D.canLays n ds (by simpa [D.dat] using h)
  | _, .dct _ _ _, h => by simp [D.dat] at h
  | _, .ref _, h => by simp [D.dat] at h
  | _, .scr _, h => by simp [D.dat] at h
theorem D.canLays : ∀ (n : Nat) (ds : List D), D.dats n ds = true → PyData.canLayAll0 (D.pys ds) = true
  | _, [], _ => by simp [D.pys, PyData.canLayAll0]
  | n, d :: ds, h => by
    simp only [D.dats, Bool.and_eq_true] at h
    simp only [D.pys, PyData.canLayAll0, Bool.and_eq_true]
    exact ⟨D.canLay n d h.1, D.canLays n ds h.2⟩
end
mutual
theorem D.deep : ∀ (n : Nat) (d : D), d.dat n = true → d.py.depth ≤ n
  | _, .non, _ => by simp [D.py, PyData.depth]
  | _, .bl _, _ => by simp [D.py, PyData.depth]
  | _, .int _, _ => by simp [D.py, PyData.depth]
  | _, .str s, h => by simp [D.py, PyData.depth]
  | 0, .tup ds, h => by simp [D.dat] at h
  | n + 1, .tup ds, h => by
    simp only [D.py, PyData.depth]
    exact Nat.succ_le_succ (D.deeps n ds (by simpa [D.dat] using h))
  | 0, .ktup ds, h => by simp [D.dat] at h
  | n + 1, .ktup ds, h => by
    simp only [D.py, PyData.depth]
    exact Nat.succ_le_succ (D.deeps n ds (by simpa [D.dat] using h))
  | 0, .lst ds, h => by simp [D.dat] at h
  | n + 1, .lst ds, h => by
    simp only [D.py, PyData.depth]
    exact Nat.succ_le_succ (D.deeps n ds (by simpa [D.dat] using h))
  | _, .dct _ _ _, h => by simp [D.dat] at h
  | _, .ref _, h => by simp [D.dat] at h
  | _, .scr _, h => by simp [D.dat] at h
theorem D.deeps : ∀ (n : Nat) (ds : List D), D.dats n ds = true → PyData.depthAll (D.pys ds) ≤ n
  | _, [], _ => by simp [D.pys, PyData.depthAll]
  | n, d :: ds, h => by
    simp only [D.dats, Bool.and_eq_true] at h
    simp only [D.pys, PyData.depthAll]
    exact Nat.max_le.mpr ⟨D.deep n d h.1, D.deeps n ds h.2⟩
end
theorem D.shaped {d : D} (h : d.dat 64 = true) : SeqAt.shaped d.py = true := by
  unfold SeqAt.shaped
  rw [Bool.and_eq_true]
  exact ⟨D.canLay 64 d h, decide_eq_true (D.deep 64 d h)⟩
section
variable {K : Kc} {R : Rc} {S : Store} {H : Hp}
mutual
theorem Rep.dp (g : GR K R S H) : ∀ (n : Nat) (d : D) (v : V), d.dat n = true → Rep K R d v → Dp K.F H v d.py
  | _, .non, v, _, r => by cases (show v = .non from r); exact .non
  | _, .bl b, v, _, r => by cases (show v = .bl b from r); exact .bl b
  | _, .int i, v, _, r => by cases (show v = .int i from r); exact .int i
  | _, .str s, v, _, r => by cases (show v = .str ⟨s.toArray⟩ from r); exact .str _
  | 0, .tup ds, v, h, r => by simp [D.dat] at h
  | n + 1, .tup ds, v, h, r => by
    obtain ⟨a, vs, rfl, z, rs⟩ := r
    exact .tup (z.sq g) (Reps.dp g n ds vs (by simpa [D.dat] using h) rs)
  | 0, .ktup ds, v, h, r => by simp [D.dat] at h
  | n + 1, .ktup ds, v, h, r => by
    obtain ⟨a, vs, rfl, z, rs⟩ := r
    exact .tup (.inr z) (Reps.dp g n ds vs (by simpa [D.dat] using h) rs)
  | 0, .lst ds, v, h, r => by simp [D.dat] at h
  | n + 1, .lst ds, v, h, r => by
    obtain ⟨a, vs, rfl, z, rs⟩ := r
    exact .lst (SqL.of (g.zh a _ z)) (Reps.dp g n ds vs (by simpa [D.dat] using h) rs)
  | _, .dct _ _ _, v, h, r => by simp [D.dat] at h
  | _, .ref _, v, h, r => by simp [D.dat] at h
  | _, .scr _, v, h, r => by simp [D.dat] at h
theorem Reps.dp (g : GR K R S H) : ∀ (n : Nat) (ds : List D) (vs : List V), D.dats n ds = true → Reps K R ds vs → DpAll K.F H vs (D.pys ds)
  | _, [], vs, _, r => by cases (show vs = [] from r); exact .nil
  | n, d :: ds, vs, h, r => by
    obtain ⟨v, q, rfl, p, t⟩ := r
    simp only [D.dats, Bool.and_eq_true] at h
    exact .cons (Rep.dp g n d v h.1 p) (Reps.dp g n ds q h.2 t)
end
theorem VR.dp (g : GR K R S H) {n : Nat} {d : D} {v : V} (h : d.dat n = true) (r : VR K R H d v) : Dp K.F H v d.py := by
  rcases r with r | ⟨a, o, rfl, ho, c⟩
  · exact Rep.dp g n d v h r
  · cases d with
    | lst ds =>
      obtain ⟨vs, rfl, rs⟩ := c
      cases n with
      | zero => simp [D.dat] at h
      | succ n => exact .lst (SqL.of ho) (Reps.dp g n ds vs (by simpa [D.dat] using h) rs)
    | dct t ks vs => simp [D.dat] at h
    | _ => exact c.elim
theorem VR.lst (g : GR K R S H) {ds : List D} {v : V} (r : VR K R H (.lst ds) v) : ∃ a vs, v = .ref a ∧ H a = some (.lst vs) ∧ Reps K R ds vs := by
  rcases r with ⟨a, vs, rfl, z, rs⟩ | ⟨a, o, rfl, ho, vs, rfl, rs⟩
  · exact ⟨a, vs, rfl, g.zh a _ z, rs⟩
  · exact ⟨a, vs, rfl, ho, rs⟩
theorem VR.tup (g : GR K R S H) {ds : List D} {v : V} (r : VR K R H (.tup ds) v) : ∃ a vs, v = .ref a ∧ SqT K.F H a vs ∧ Reps K R ds vs := by
  rcases r with ⟨a, vs, rfl, z, rs⟩ | ⟨a, o, rfl, ho, c⟩
  · exact ⟨a, vs, rfl, z.sq g, rs⟩
  · exact c.elim
theorem VR.ktup (g : GR K R S H) {ds : List D} {v : V} (r : VR K R H (.ktup ds) v) : ∃ a vs, v = .ref a ∧ SqT K.F H a vs ∧ Reps K R ds vs := by
  rcases r with ⟨a, vs, rfl, z, rs⟩ | ⟨a, o, rfl, ho, c⟩
  · exact ⟨a, vs, rfl, .inr z, rs⟩
  · exact c.elim
theorem VR.ref (g : GR K R S H) {j : Nat} {v : V} (r : VR K R H (.ref j) v) : ∃ a, v = .ref a ∧ R.ρ[j]? = some a := by
  rcases r with ⟨a, e, rfl⟩ | ⟨a, o, rfl, ho, c⟩
  · exact ⟨a, rfl, e⟩
  · exact c.elim
theorem VR.tupZ {ds : List D} {v : V} (r : VR K R H (.tup ds) v) : Rep K R (.tup ds) v := by
  rcases r with r | ⟨a, o, rfl, ho, c⟩
  · exact r
  · exact c.elim
theorem res_lst {Q : VK} {ds : List D} {vs : List V} (g : GR K R S H) (k : ∀ v' R' H', Gw R H R' H' → RNew K H R' H' (.fr (.lst ds)) v' → Q v' H') (r : Reps K R ds vs) (p : Addr) (np : H p = none) : Q (.ref p) (upd H p (.lst vs)) :=
  k _ R _ (Gw.new np) ⟨p, _, rfl, upd_same, ⟨vs, rfl, r⟩, g.free np, np⟩
theorem res_tup {Q : VK} {ds : List D} {vs : List V} (g : GR K R S H) (k : ∀ v' R' H', Gw R H R' H' → RNew K H R' H' (.pl (.tup ds)) v' → Q v' H') (r : Reps K R ds vs) (p : Addr) (np : H p = none) : Q (.ref p) (upd H p (.tup vs)) :=
  k _ (R.tell p (.tup vs)) _ (Gw.tell np (g.free np)) ⟨p, vs, rfl, tell_at, r.mono (tell_le (g.free np))⟩
theorem res_pl {Q : VK} {d : D} {v : V} (k : ∀ v' R' H', Gw R H R' H' → RNew K H R' H' (.pl d) v' → Q v' H') (r : Rep K R d v) : Q v H := k v R H (.refl _ _) r
theorem Reps.rep {ds : List D} {vs : List V} (r : Reps K R ds vs) : ∀ n : Nat, Reps K R (List.replicate n ds).flatten (List.replicate n vs).flatten
  | 0 => rfl
  | n + 1 => by
    simp only [List.replicate_succ, List.flatten_cons]
    exact r.append (Reps.rep r n)
theorem Reps.atI {ds : List D} {vs : List V} {i : Int} {d : D} (r : Reps K R ds vs) (h : L2.atI ds i = some d) : ∃ v, L2.atI vs i = some v ∧ Rep K R d v := by
  unfold L2.atI at h ⊢
  rw [r.length]
  cases q : ixN ds.length i with
  | none => rw [q] at h; cases h
  | some j =>
    rw [q] at h
    obtain ⟨v, e, rv⟩ := r.get (show ds[j]? = some d from h)
    exact ⟨v, e, rv⟩
end

def mulOk (i j : Int) : Bool := decide (-(2 ^ 64) < i ∧ i < 2 ^ 64) || decide (-(2 ^ 64) < j ∧ j < 2 ^ 64) || decide (i.natAbs.log2 + j.natAbs.log2 < 1000000)
def pAdd (x y : D) (_ : Store) : Rs RV := match x, y with
  | .int i, .int j => .ok (.pl (.int (i + j)))
  | .str a, .str b => if a.length + b.length ≤ 16777216 then .ok (.pl (.str (a ++ b))) else .no
  | .lst a, .lst b => if a.length + b.length ≤ 16777216 then .ok (.fr (.lst (a ++ b))) else .no
  | .tup a, .tup b => if a.length + b.length ≤ 16777216 then .ok (.pl (.tup (a ++ b))) else .no
  | _, _ => .no
def pSub (x y : D) (_ : Store) : Rs RV := match x, y with
  | .int i, .int j => .ok (.pl (.int (i - j)))
  | _, _ => .no
def pMul (x y : D) (_ : Store) : Rs RV := match x, y with
  | .int i, .int j => if mulOk i j then .ok (.pl (.int (i * j))) else .no
  | .lst a, .int k => if (-(2 ^ 63) ≤ k ∧ k < 2 ^ 63) ∧ a.length * k.toNat ≤ 16777216 then .ok (.fr (.lst (List.replicate k.toNat a).flatten)) else .no
  | .tup a, .int k => if a ≠ [] ∧ 2 ≤ k ∧ k ≤ 1000 ∧ a.length ≤ 1000 then .ok (.pl (.tup (List.replicate k.toNat a).flatten)) else .no
  | _, _ => .no
def pFdiv (x y : D) (_ : Store) : Rs RV := match x, y with
  | .int i, .int j => if 0 < j ∧ j.natAbs.log2 < 9000 then .ok (.pl (.int (i / j))) else .no
  | _, _ => .no
def pMod (x y : D) (_ : Store) : Rs RV := match x, y with
  | .int i, .int j => if 0 < j then .ok (.pl (.int (i % j))) else .no
  | _, _ => .no
def pPow (x y : D) (_ : Store) : Rs RV := match x, y with
  | .int i, .int j => if 0 ≤ j ∧ j ≤ 1000000 ∧ i.natAbs < 2 ^ 64 then .ok (.pl (.int (i ^ j.toNat))) else .no
  | _, _ => .no
def pShl (x y : D) (_ : Store) : Rs RV := match x, y with
  | .int i, .int j => if 0 ≤ j ∧ j ≤ 1000000 ∧ i.natAbs < 2 ^ 64 then .ok (.pl (.int (i * 2 ^ j.toNat))) else .no
  | _, _ => .no
def pShr (x y : D) (_ : Store) : Rs RV := match x, y with
  | .int i, .int j => if 0 ≤ j then .ok (.pl (.int (i / 2 ^ j.toNat))) else .no
  | _, _ => .no
def pAnd (x y : D) (_ : Store) : Rs RV := match x, y with
  | .int i, .int j => .ok (.pl (.int (Builtin.bitAnd i j)))
  | _, _ => .no
def pOr (x y : D) (_ : Store) : Rs RV := match x, y with
  | .int i, .int j => .ok (.pl (.int (Builtin.bitOr i j)))
  | _, _ => .no
def pXor (x y : D) (_ : Store) : Rs RV := match x, y with
  | .int i, .int j => .ok (.pl (.int (Builtin.bitXor i j)))
  | _, _ => .no
def pNeg (x : D) (_ : Store) : Rs RV := match x with | .int i => .ok (.pl (.int (-i))) | _ => .no
def pInv (x : D) (_ : Store) : Rs RV := match x with | .int i => .ok (.pl (.int (Builtin.bitNot i))) | _ => .no
def pCmp (f : Int → Int → Bool) (x y : D) (_ : Store) : Rs RV := match x, y with
  | .int i, .int j => .ok (.pl (.bl (f i j)))
  | _, _ => .no
abbrev pLt := pCmp fun i j => decide (i < j)
abbrev pLe := pCmp fun i j => decide (i ≤ j)
abbrev pGt := pCmp fun i j => decide (j < i)
abbrev pGe := pCmp fun i j => decide (j ≤ i)
def pEq (x y : D) (_ : Store) : Rs RV := if x.dat 64 = true ∧ y.dat 64 = true then .ok (.pl (.bl (eqv x y))) else .no
def pNe (x y : D) (_ : Store) : Rs RV := if x.dat 64 = true ∧ y.dat 64 = true then .ok (.pl (.bl (!eqv x y))) else .no
def D.isNon : D → Bool
  | .non => true
  | _ => false
def pIs (x y : D) (_ : Store) : Rs RV := match y with
  | .non => .ok (.pl (.bl x.isNon))
  | .bl b => match x with | .bl a => .ok (.pl (.bl (decide (a = b)))) | _ => .no
  | _ => .no
def pIsNot (x y : D) (_ : Store) : Rs RV := match y with
  | .non => .ok (.pl (.bl (!x.isNon)))
  | .bl b => match x with | .bl a => .ok (.pl (.bl (!decide (a = b)))) | _ => .no
  | _ => .no
/-- what a container holds, for `in` -/
def pIn (neg : Bool) (x y : D) (_ : Store) : Rs RV := match y with
  | .lst ds => if x.dat 64 = true ∧ (D.lst ds).dat 64 = true then .ok (.pl (.bl (neg != ds.any fun d => eqv d x))) else .no
  | .tup ds => if x.dat 64 = true ∧ (D.tup ds).dat 64 = true then .ok (.pl (.bl (neg != ds.any fun d => eqv d x))) else .no
  | .ktup ds => if x.dat 64 = true ∧ (D.ktup ds).dat 64 = true then .ok (.pl (.bl (neg != ds.any fun d => eqv d x))) else .no
  | .str z => match x with | .str [c] => .ok (.pl (.bl (neg != decide (c ∈ z)))) | _ => .no
  | _ => .no
section
variable {X : Cx} {cl : Nat → Addr}
theorem str_app (a b : List Nat) : ((⟨a.toArray⟩ : Str) ++ (⟨b.toArray⟩ : Str)) = ⟨(a ++ b).toArray⟩ := by
  show Str.append _ _ = _
  unfold Str.append
  simp
def rAddAll (K : PySem.W.Frag) : R2 := fun x y H Q => rI0 (fun i j => .int (i + j)) x y H Q ∨ (∃ i j, x = .str i ∧ y = .str j ∧ i.length + j.length ≤ sizeLine ∧ Q (.str (i ++ j)) H) ∨ rCat x y H Q ∨ rCatA K x y H Q
theorem or_add : OpR X (binaryOp .Add) (rAddAll X.K) := OpR.or op_add (OpR.or op_add_str (OpR.or op_cat op_catA))
theorem ok_add : OpOk (kx X cl) pAdd (rAddAll X.K) := by
  intro x y S rv v w R H Q e g rx ry k
  unfold pAdd at e
  split at e
  · cases e
    exact .inl ⟨_, _, rx.int, ry.int, res_pl k rfl⟩
  · split at e
    · rename_i hl
      cases e
      refine .inr (.inl ⟨_, _, rx.str, ry.str, by rw [sizeLine_is]; simpa [Str.length] using hl, res_pl k ?_⟩)
      rw [str_app]; rfl
    · cases e
  · split at e
    · rename_i hl
      cases e
      obtain ⟨a, vs, rfl, ha, ra⟩ := rx.lst g
      obtain ⟨b, ws, rfl, hb, rb⟩ := ry.lst g
      exact .inr (.inr (.inl ⟨a, b, vs, ws, rfl, rfl, ha, hb, by rw [ra.length, rb.length, sizeLine_is]; exact hl, res_lst g k (ra.append rb)⟩))
    · cases e
  · rename_i da db
    split at e
    · rename_i hl
      cases e
      obtain ⟨a, vs, rfl, ha, ra⟩ := rx.tup g
      obtain ⟨b, ws, rfl, hb, rb⟩ := ry.tup g
      refine .inr (.inr (.inr ⟨a, b, vs, ws, rfl, rfl, ha, hb, by rw [ra.length, rb.length, sizeLine_is]; exact hl, fun hv => ?_, fun _ hw => ?_, fun _ _ => res_tup g k (ra.append rb)⟩))
      · have hd : da = [] := by
          have q := ra.length
          rw [hv] at q
          exact List.length_eq_zero_iff.mp q.symm
        subst hd
        exact res_pl k ry.tupZ
      · have hd : db = [] := by
          have q := rb.length
          rw [hw] at q
          exact List.length_eq_zero_iff.mp q.symm
        subst hd
        rw [List.append_nil] at k
        exact res_pl k rx.tupZ
    · cases e
  · cases e
theorem ok_sub : OpOk (kx X cl) pSub (rI0 fun i j => .int (i - j)) := by
  intro x y S rv v w R H Q e g rx ry k
  unfold pSub at e
  split at e
  · cases e; exact ⟨_, _, rx.int, ry.int, res_pl k rfl⟩
  · cases e
def rMulAll (K : PySem.W.Frag) : R2 := fun x y H Q => rI CMul (fun i j => .int (i * j)) x y H Q ∨ rI CMulW (fun i j => .int (i * j)) x y H Q ∨ rRep x y H Q ∨ rRepT K x y H Q
theorem or_mul : OpR X (binaryOp .Mult) (rMulAll X.K) := OpR.or op_mul (OpR.or op_mulW (OpR.or op_rep op_repT))
theorem ok_mul : OpOk (kx X cl) pMul (rMulAll X.K) := by
  intro x y S rv v w R H Q e g rx ry k
  unfold pMul at e
  split at e
  · split at e
    · rename_i i j hm
      cases e
      unfold mulOk at hm
      rw [Bool.or_eq_true, Bool.or_eq_true] at hm
      rcases hm with (hm | hm) | hm
      · exact .inl ⟨_, _, rx.int, ry.int, .inl (of_decide_eq_true hm), res_pl k rfl⟩
      · exact .inl ⟨_, _, rx.int, ry.int, .inr (of_decide_eq_true hm), res_pl k rfl⟩
      · exact .inr (.inl ⟨i, j, rx.int, ry.int, (show i.natAbs.log2 + j.natAbs.log2 < 1000000 from of_decide_eq_true hm), res_pl k rfl⟩)
    · cases e
  · split at e
    · rename_i hl
      cases e
      obtain ⟨a, vs, rfl, ha, ra⟩ := rx.lst g
      exact .inr (.inr (.inl ⟨a, _, vs, rfl, ry.int, ha, hl.1.1, hl.1.2, by rw [ra.length, sizeLine_is]; exact hl.2, res_lst g k (ra.rep _)⟩))
    · cases e
  · split at e
    · rename_i hl
      cases e
      obtain ⟨a, vs, rfl, ha, ra⟩ := rx.tup g
      refine .inr (.inr (.inr ⟨a, _, vs, rfl, ry.int, ha, fun q => hl.1 ?_, hl.2.1, hl.2.2.1, by rw [ra.length]; exact hl.2.2.2, res_tup g k (ra.rep _)⟩))
      have q2 := ra.length
      rw [q] at q2
      exact List.length_eq_zero_iff.mp q2.symm
    · cases e
  · cases e
theorem ok_fdiv : OpOk (kx X cl) pFdiv (rI CDivW fun i j => .int (i / j)) := by
  intro x y S rv v w R H Q e g rx ry k
  unfold pFdiv at e
  split at e
  · split at e
    · rename_i h; cases e; exact ⟨_, _, rx.int, ry.int, h, res_pl k rfl⟩
    · cases e
  · cases e
theorem ok_mod : OpOk (kx X cl) pMod (rI (fun _ j => 0 < j) fun i j => .int (i % j)) := by
  intro x y S rv v w R H Q e g rx ry k
  unfold pMod at e
  split at e
  · split at e
    · rename_i h; cases e; exact ⟨_, _, rx.int, ry.int, h, res_pl k rfl⟩
    · cases e
  · cases e
theorem ok_pow : OpOk (kx X cl) pPow (rI CPow fun i j => .int (i ^ j.toNat)) := by
  intro x y S rv v w R H Q e g rx ry k
  unfold pPow at e
  split at e
  · split at e
    · rename_i h; cases e; exact ⟨_, _, rx.int, ry.int, h, res_pl k rfl⟩
    · cases e
  · cases e
theorem ok_shl : OpOk (kx X cl) pShl (rI CPow fun i j => .int (i * 2 ^ j.toNat)) := by
  intro x y S rv v w R H Q e g rx ry k
  unfold pShl at e
  split at e
  · split at e
    · rename_i h; cases e; exact ⟨_, _, rx.int, ry.int, h, res_pl k rfl⟩
    · cases e
  · cases e
theorem ok_shr : OpOk (kx X cl) pShr (rI (fun _ j => 0 ≤ j) fun i j => .int (i / 2 ^ j.toNat)) := by
  intro x y S rv v w R H Q e g rx ry k
  unfold pShr at e
  split at e
  · split at e
    · rename_i h; cases e; exact ⟨_, _, rx.int, ry.int, h, res_pl k rfl⟩
    · cases e
  · cases e
theorem ok_and : OpOk (kx X cl) pAnd (rI0 fun i j => .int (Builtin.bitAnd i j)) := by
  intro x y S rv v w R H Q e g rx ry k
  unfold pAnd at e
  split at e
  · cases e; exact ⟨_, _, rx.int, ry.int, res_pl k rfl⟩
  · cases e
theorem ok_or : OpOk (kx X cl) pOr (rI0 fun i j => .int (Builtin.bitOr i j)) := by
  intro x y S rv v w R H Q e g rx ry k
  unfold pOr at e
  split at e
  · cases e; exact ⟨_, _, rx.int, ry.int, res_pl k rfl⟩
  · cases e
theorem ok_xor : OpOk (kx X cl) pXor (rI0 fun i j => .int (Builtin.bitXor i j)) := by
  intro x y S rv v w R H Q e g rx ry k
  unfold pXor at e
  split at e
  · cases e; exact ⟨_, _, rx.int, ry.int, res_pl k rfl⟩
  · cases e
theorem ok_cmp {f : Int → Int → Bool} : OpOk (kx X cl) (pCmp f) (rI0 fun i j => .bl (f i j)) := by
  intro x y S rv v w R H Q e g rx ry k
  unfold pCmp at e
  split at e
  · cases e; exact ⟨_, _, rx.int, ry.int, res_pl k rfl⟩
  · cases e
theorem ok_neg : UnOk (kx X cl) pNeg (rU fun i => .int (-i)) := by
  intro x S rv v R H Q e g rx k
  unfold pNeg at e
  split at e
  · cases e; exact ⟨_, rx.int, res_pl k rfl⟩
  · cases e
theorem ok_inv : UnOk (kx X cl) pInv (rU fun i => .int (Builtin.bitNot i)) := by
  intro x S rv v R H Q e g rx k
  unfold pInv at e
  split at e
  · cases e; exact ⟨_, rx.int, res_pl k rfl⟩
  · cases e
theorem ok_eq : OpOk (kx X cl) pEq (rEqD X.K) := by
  intro x y S rv v w R H Q e g rx ry k
  unfold pEq at e
  split at e
  · rename_i h
    cases e
    exact ⟨_, _, rx.dp g h.1, ry.dp g h.2, D.shaped h.1, D.shaped h.2, res_pl k rfl⟩
  · cases e
theorem ok_ne : OpOk (kx X cl) pNe (rNeD X.K) := by
  intro x y S rv v w R H Q e g rx ry k
  unfold pNe at e
  split at e
  · rename_i h
    cases e
    exact ⟨_, _, rx.dp g h.1, ry.dp g h.2, D.shaped h.1, D.shaped h.2, res_pl k rfl⟩
  · cases e
def rIsAll : R2 := fun x y H Q => (y = .non ∧ Q (.bl (decide (x = .non))) H) ∨ rIsB x y H Q
def rIsNotAll : R2 := fun x y H Q => (y = .non ∧ Q (.bl (!decide (x = .non))) H) ∨ rNotB x y H Q
theorem or_is : OpR X (compareOp .Is) rIsAll := OpR.or op_isN op_isBl
theorem or_isnot : OpR X (compareOp .IsNot) rIsNotAll := OpR.or op_notN op_notBl
theorem VR.isnon {K : Kc} {R : Rc} {H : Hp} {x : D} {v : V} (r : VR K R H x v) : decide (v = .non) = x.isNon := by
  rcases r with r | ⟨a, o, rfl, _, c⟩
  · cases x with
    | non => rw [show v = .non from r]; rfl
    | bl b => rw [show v = .bl b from r]; rfl
    | int b => rw [show v = .int b from r]; rfl
    | str b => rw [show v = .str ⟨b.toArray⟩ from r]; rfl
    | tup b => obtain ⟨a, vs, rfl, _⟩ := r; rfl
    | ktup b => obtain ⟨a, vs, rfl, _⟩ := r; rfl
    | lst b => obtain ⟨a, vs, rfl, _⟩ := r; rfl
    | dct _ _ _ => obtain ⟨a, ws, rfl, _⟩ := r; rfl
    | ref j => obtain ⟨a, _, rfl⟩ := r; rfl
    | scr j => obtain ⟨a, rfl, _⟩ := r; rfl
  · cases x with
    | lst b => rfl
    | dct _ _ _ => rfl
    | _ => exact c.elim
theorem ok_is : OpOk (kx X cl) pIs rIsAll := by
  intro x y S rv v w R H Q e g rx ry k
  unfold pIs at e
  split at e
  · cases e
    refine .inl ⟨ry.non, ?_⟩
    rw [rx.isnon]
    exact res_pl k rfl
  · split at e
    · cases e
      exact .inr ⟨_, _, rx.bl, ry.bl, res_pl k rfl⟩
    · cases e
  · cases e
theorem ok_isnot : OpOk (kx X cl) pIsNot rIsNotAll := by
  intro x y S rv v w R H Q e g rx ry k
  unfold pIsNot at e
  split at e
  · cases e
    refine .inl ⟨ry.non, ?_⟩
    rw [rx.isnon]
    exact res_pl k rfl
  · split at e
    · cases e
      exact .inr ⟨_, _, rx.bl, ry.bl, res_pl k rfl⟩
    · cases e
  · cases e
def rInT (K : PySem.W.Frag) (neg : Bool) : R2 := fun x y H Q => ∃ d ds, Dp K H x d ∧ Dp K H y (.tuple ds) ∧ SeqAt.shaped d = true ∧ SeqAt.shaped (.tuple ds) = true ∧ Q (.bl (neg != ds.any fun z => PyData.eqv z d)) H
theorem op_inT (hu : X.A.units + 65 < cLine) : OpR X (compareOp .In) (rInT X.K false) := by
  intro pins s σ H x y v u Q I rx ry h
  obtain ⟨d, ds, hd, he, sd, se, q⟩ := h
  obtain ⟨as, r1⟩ := Dp.reads I d x v hd rx
  obtain ⟨bs, r2⟩ := Dp.reads I (.tuple ds) y u he ry
  exact SeqAt.in_tuple_reads r2 r1 (SeqAt.canLay_of_shaped se) (SeqAt.canLay_of_shaped sd) (room_in_shaped sd hu) ⟨.bl _, H, I, rfl, by simpa using q⟩
theorem op_notInT (hu : X.A.units + 65 < cLine) : OpR X (compareOp .NotIn) (rInT X.K true) := by
  intro pins s σ H x y v u Q I rx ry h
  obtain ⟨d, ds, hd, he, sd, se, q⟩ := h
  obtain ⟨as, r1⟩ := Dp.reads I d x v hd rx
  obtain ⟨bs, r2⟩ := Dp.reads I (.tuple ds) y u he ry
  exact SeqAt.notIn_tuple_reads r2 r1 (SeqAt.canLay_of_shaped se) (SeqAt.canLay_of_shaped sd) (room_in_shaped sd hu) ⟨.bl _, H, I, rfl, by simpa using q⟩
def rInAll (K : PySem.W.Frag) : R2 := fun x y H Q => rInD K x y H Q ∨ rInT K false x y H Q ∨ (∃ (c : Nat) (z : Str), x = .str ⟨#[c]⟩ ∧ y = .str z ∧ Q (.bl (decide (c ∈ z.cps.toList))) H)
def rNotInAll (K : PySem.W.Frag) : R2 := fun x y H Q => rNotInD K x y H Q ∨ rInT K true x y H Q ∨ (∃ (c : Nat) (z : Str), x = .str ⟨#[c]⟩ ∧ y = .str z ∧ Q (.bl (!decide (c ∈ z.cps.toList))) H)
theorem or_in (hu : X.A.units + 65 < cLine) : OpR X (compareOp .In) (rInAll X.K) := OpR.or (op_inD hu) (OpR.or (op_inT hu) op_in_sign)
theorem or_notin (hu : X.A.units + 65 < cLine) : OpR X (compareOp .NotIn) (rNotInAll X.K) := OpR.or (op_notInD hu) (OpR.or (op_notInT hu) op_notIn_sign)
theorem any_py (ds : List D) (x : D) : ((D.pys ds).any fun z => PyData.eqv z x.py) = ds.any fun d => eqv d x := by
  rw [D.pys_map, List.any_map]; rfl
theorem ok_in : OpOk (kx X cl) (pIn false) (rInAll X.K) := by
  intro x y S rv v w R H Q e g rx ry k
  unfold pIn at e
  split at e
  · rename_i ds
    split at e
    · rename_i h
      cases e
      refine .inl ⟨_, D.pys ds, rx.dp g h.1, ry.dp g h.2, D.shaped h.1, D.shaped h.2, ?_⟩
      rw [any_py]
      exact res_pl k (by simp [Rep])
    · cases e
  · rename_i ds
    split at e
    · rename_i h
      cases e
      refine .inr (.inl ⟨_, D.pys ds, rx.dp g h.1, ry.dp g h.2, D.shaped h.1, D.shaped h.2, ?_⟩)
      rw [any_py]
      exact res_pl k rfl
    · cases e
  · rename_i ds
    split at e
    · rename_i h
      cases e
      refine .inr (.inl ⟨_, D.pys ds, rx.dp g h.1, ry.dp g h.2, D.shaped h.1, D.shaped h.2, ?_⟩)
      rw [any_py]
      exact res_pl k rfl
    · cases e
  · split at e
    · cases e
      exact .inr (.inr ⟨_, _, rx.str, ry.str, res_pl k (by simp [Rep])⟩)
    · cases e
  · cases e
theorem ok_notin : OpOk (kx X cl) (pIn true) (rNotInAll X.K) := by
  intro x y S rv v w R H Q e g rx ry k
  unfold pIn at e
  split at e
  · rename_i ds
    split at e
    · rename_i h
      cases e
      refine .inl ⟨_, D.pys ds, rx.dp g h.1, ry.dp g h.2, D.shaped h.1, D.shaped h.2, ?_⟩
      rw [any_py]
      exact res_pl k (by simp [Rep])
    · cases e
  · rename_i ds
    split at e
    · rename_i h
      cases e
      refine .inr (.inl ⟨_, D.pys ds, rx.dp g h.1, ry.dp g h.2, D.shaped h.1, D.shaped h.2, ?_⟩)
      rw [any_py]
      exact res_pl k rfl
    · cases e
  · rename_i ds
    split at e
    · rename_i h
      cases e
      refine .inr (.inl ⟨_, D.pys ds, rx.dp g h.1, ry.dp g h.2, D.shaped h.1, D.shaped h.2, ?_⟩)
      rw [any_py]
      exact res_pl k rfl
    · cases e
  · split at e
    · cases e
      exact .inr (.inr ⟨_, _, rx.str, ry.str, res_pl k (by simp [Rep])⟩)
    · cases e
  · cases e
def pIdx (x y : D) (S : Store) : Rs RV := match y with
  | .int i => match x with
    | .lst ds => match L2.atI ds i with | some d => .ok (.pl d) | none => .no
    | .tup ds => match L2.atI ds i with | some d => .ok (.pl d) | none => .no
    | .ktup ds => match L2.atI ds i with | some d => .ok (.pl d) | none => .no
    | .str s => if s.length ≤ 16777216 then match L2.atI s i with | some c => .ok (.pl (.str [c])) | none => .no else .no
    | .ref j => match S[j]? with
      | some (.lst ds) => match L2.atI ds i with | some d => .ok (.pl d) | none => .no
      | _ => .no
    | _ => .no
  | _ => .no
theorem ok_idx : OpOk (kx X cl) pIdx (rIx X.K) := by
  intro x y S rv v w R H Q e g rx ry k
  unfold pIdx at e
  split at e
  · split at e
    · split at e
      · rename_i d hd
        cases e
        obtain ⟨a, vs, rfl, ha, ra⟩ := rx.lst g
        obtain ⟨u, e1, ru⟩ := ra.atI hd
        exact .inl ⟨a, vs, _, u, rfl, ry.int, SqL.of ha, e1, res_pl k ru⟩
      · cases e
    · split at e
      · rename_i d hd
        cases e
        obtain ⟨a, vs, rfl, ha, ra⟩ := rx.tup g
        obtain ⟨u, e1, ru⟩ := ra.atI hd
        exact .inr (.inl ⟨a, vs, _, u, rfl, ry.int, ha, e1, res_pl k ru⟩)
      · cases e
    · split at e
      · rename_i d hd
        cases e
        obtain ⟨a, vs, rfl, ha, ra⟩ := rx.ktup g
        obtain ⟨u, e1, ru⟩ := ra.atI hd
        exact .inr (.inl ⟨a, vs, _, u, rfl, ry.int, ha, e1, res_pl k ru⟩)
      · cases e
    · split at e
      · rename_i hl
        split at e
        · rename_i c hc
          cases e
          exact .inr (.inr ⟨_, _, c, rx.str, ry.int, by rw [sizeLine_is]; simpa [Str.length] using hl, by simpa using hc, res_pl k rfl⟩)
        · cases e
      · cases e
    · split at e
      · rename_i ds hs
        split at e
        · rename_i d hd
          cases e
          obtain ⟨a, rfl, ea⟩ := rx.ref g
          obtain ⟨b, eb, vs, ha, ra⟩ := g.st _ _ hs
          rw [ea] at eb; cases eb
          obtain ⟨u, e1, ru⟩ := ra.atI hd
          exact .inl ⟨a, vs, _, u, rfl, ry.int, SqL.of ha, e1, res_pl k ru⟩
        · cases e
      · cases e
    · cases e
  · cases e
end
end Mp

namespace Mp
open PySem PySem.Spec PyProof.Rows L2

section
variable {X : Cx} {cl : Nat → Addr} {e a b : Expr} {Ea Eb : Den} {pos p : Pos}
theorem ev_b1 {f : D → Store → Rs RV} {r : List V → Hp → VK → Prop} (h : PE X e (tCB r (tCons (tOf (kx X cl) Ea) tNil))) (ok : UnOk (kx X cl) f (fun x H Q => r [x] H Q)) : PE X e (tOf (kx X cl) (eUn f Ea)) := ev_un h ok
theorem ev_b2 {f : D → D → Store → Rs RV} {r : List V → Hp → VK → Prop} (h : PE X e (tCB r (tCons (tOf (kx X cl) Ea) (tCons (tOf (kx X cl) Eb) tNil)))) (ok : OpOk (kx X cl) f (fun x y H Q => r [x, y] H Q)) : PE X e (tOf (kx X cl) (eBin f Ea Eb)) := ev_bin h ok
def pLen (x : D) (S : Store) : Rs RV := match x with
  | .str s => if s.length ≤ 16777216 then .ok (.pl (.int s.length)) else .no
  | .tup ds => .ok (.pl (.int ds.length))
  | .ktup ds => .ok (.pl (.int ds.length))
  | .lst ds => .ok (.pl (.int ds.length))
  | .ref j => match S[j]? with
    | some (.lst ds) => .ok (.pl (.int ds.length))
    | _ => .no
  | _ => .no
theorem ok_len : UnOk (kx X cl) pLen (fun x H Q => ∃ y n, [x] = [y] ∧ LenV X.K y H n ∧ Q (.int n) H) := by
  intro x S rv v R H Q e g rx k
  unfold pLen at e
  split at e
  · rename_i s
    split at e
    · rename_i hl
      cases e
      refine ⟨v, s.length, rfl, ?_, res_pl k rfl⟩
      rw [rx.str]
      exact ⟨by rw [sizeLine_is]; simpa [Str.length] using hl, by simp [Str.length]⟩
    · cases e
  · rename_i ds
    cases e
    obtain ⟨a, vs, rfl, ha, ra⟩ := rx.tup g
    exact ⟨_, ds.length, rfl, .inr ⟨vs, ha, ra.length.symm⟩, res_pl k rfl⟩
  · rename_i ds
    cases e
    obtain ⟨a, vs, rfl, ha, ra⟩ := rx.ktup g
    exact ⟨_, ds.length, rfl, .inr ⟨vs, ha, ra.length.symm⟩, res_pl k rfl⟩
  · rename_i ds
    cases e
    obtain ⟨a, vs, rfl, ha, ra⟩ := rx.lst g
    exact ⟨_, ds.length, rfl, .inl ⟨vs, SqL.of ha, ra.length.symm⟩, res_pl k rfl⟩
  · split at e
    · rename_i ds hs
      cases e
      obtain ⟨a, rfl, ea⟩ := rx.ref g
      obtain ⟨b, eb, vs, ha, ra⟩ := g.st _ _ hs
      rw [ea] at eb; cases eb
      exact ⟨_, ds.length, rfl, .inl ⟨vs, SqL.of ha, ra.length.symm⟩, res_pl k rfl⟩
    · cases e
  · cases e
def pAbs (x : D) (_ : Store) : Rs RV := match x with | .int i => .ok (.pl (.int (if i < 0 then -i else i))) | _ => .no
def pInt (x : D) (_ : Store) : Rs RV := match x with | .int i => .ok (.pl (.int i)) | _ => .no
def pMax2 (x y : D) (_ : Store) : Rs RV := match x, y with | .int i, .int j => .ok (.pl (.int (if j > i then j else i))) | _, _ => .no
def pMin2 (x y : D) (_ : Store) : Rs RV := match x, y with | .int i, .int j => .ok (.pl (.int (if j < i then j else i))) | _, _ => .no
theorem ok_abs : UnOk (kx X cl) pAbs (fun x H Q => ∃ i, [x] = [.int i] ∧ Q (.int (if i < 0 then -i else i)) H) := by
  intro x S rv v R H Q e g rx k
  unfold pAbs at e
  split at e
  · cases e; exact ⟨_, by rw [rx.int], res_pl k rfl⟩
  · cases e
theorem ok_int : UnOk (kx X cl) pInt (fun x H Q => (∃ i, [x] = [.int i] ∧ Q (.int i) H) ∨ ∃ k, [x] = [.bl k] ∧ Q (.int (if k then 1 else 0)) H) := by
  intro x S rv v R H Q e g rx k
  unfold pInt at e
  split at e
  · cases e; exact .inl ⟨_, by rw [rx.int], res_pl k rfl⟩
  · cases e
theorem ok_max2 : OpOk (kx X cl) pMax2 (fun x y H Q => ∃ i j, [x, y] = [.int i, .int j] ∧ Q (.int (if j > i then j else i)) H) := by
  intro x y S rv v w R H Q e g rx ry k
  unfold pMax2 at e
  split at e
  · cases e; exact ⟨_, _, by rw [rx.int, ry.int], res_pl k rfl⟩
  · cases e
theorem ok_min2 : OpOk (kx X cl) pMin2 (fun x y H Q => ∃ i j, [x, y] = [.int i, .int j] ∧ Q (.int (if j < i then j else i)) H) := by
  intro x y S rv v w R H Q e g rx ry k
  unfold pMin2 at e
  split at e
  · cases e; exact ⟨_, _, by rw [rx.int, ry.int], res_pl k rfl⟩
  · cases e
def intsOf : List D → Option (List Int)
  | [] => some []
  | .int i :: r => (intsOf r).map (i :: ·)
  | _ :: _ => none
def blsOf : List D → Option (List Bool)
  | [] => some []
  | .bl b :: r => (blsOf r).map (b :: ·)
  | _ :: _ => none
theorem intsOf_eq : ∀ {ds : List D} {ns : List Int}, intsOf ds = some ns → ds = ns.map D.int
  | [], ns, h => by cases h; rfl
  | d :: r, ns, h => by
    cases d with
    | int i =>
      simp only [intsOf, Option.map_eq_some_iff] at h
      obtain ⟨m, e, rfl⟩ := h
      rw [intsOf_eq e]; rfl
    | _ => simp [intsOf] at h
@[simp] theorem intsOf_map (ns : List Int) : intsOf (ns.map D.int) = some ns := by
  induction ns with
  | nil => rfl
  | cons n r ih => simp [intsOf, ih]
theorem blsOf_eq : ∀ {ds : List D} {ns : List Bool}, blsOf ds = some ns → ds = ns.map D.bl
  | [], ns, h => by cases h; rfl
  | d :: r, ns, h => by
    cases d with
    | bl i =>
      simp only [blsOf, Option.map_eq_some_iff] at h
      obtain ⟨m, e, rfl⟩ := h
      rw [blsOf_eq e]; rfl
    | _ => simp [blsOf] at h
@[simp] theorem blsOf_map (ns : List Bool) : blsOf (ns.map D.bl) = some ns := by
  induction ns with
  | nil => rfl
  | cons n r ih => simp [blsOf, ih]
theorem Reps.bls {K : Kc} {R : Rc} : ∀ {ns : List Bool} {vs : List V}, Reps K R (ns.map D.bl) vs → vs = ns.map V.bl
  | [], vs, h => h
  | n :: ns, vs, h => by
    obtain ⟨v, r, rfl, p, q⟩ := h
    rw [show v = V.bl n from p, Reps.bls q]
    rfl
def leI (i j : Int) : Bool := decide (i ≤ j)
def sortI (ns : List Int) : List Int := ns.mergeSort leI
theorem sortI_perm (ns : List Int) : (sortI ns).Perm ns := List.mergeSort_perm ns leI
theorem sortI_sorted (ns : List Int) : (sortI ns).Pairwise (· ≤ ·) := by
  have h := List.pairwise_mergeSort (le := leI) (fun a b c h1 h2 => by simp [leI] at *; omega) (fun a b => by simp [leI]; omega) ns
  exact h.imp fun h => by simpa [leI] using h
theorem sorted_unique : ∀ {as bs : List Int}, as.Perm bs → as.Pairwise (· ≤ ·) → bs.Pairwise (· ≤ ·) → as = bs
  | [], bs, p, _, _ => by rw [List.nil_perm.mp p]
  | a :: as, bs, p, ha, hb => by
    cases bs with
    | nil => exact absurd p.symm (by intro q; have := q.length_eq; simp at this)
    | cons b bs =>
      have h1 := List.pairwise_cons.mp ha
      have h2 := List.pairwise_cons.mp hb
      have hab : a = b := by
        have m1 : a ∈ b :: bs := p.subset (by simp)
        have m2 : b ∈ a :: as := p.symm.subset (by simp)
        rcases List.mem_cons.mp m1 with e | m1
        · exact e
        · rcases List.mem_cons.mp m2 with e | m2
          · exact e.symm
          · have := h1.1 b m2
            have := h2.1 a m1
            omega
      subst hab
      rw [sorted_unique ((List.perm_cons a).mp p) h1.2 h2.2]
theorem sortI_eq {ns ms : List Int} (p : ms.Perm ns) (s : ms.Pairwise (· ≤ ·)) : ms = sortI ns := sorted_unique (p.trans (sortI_perm ns).symm) s (sortI_sorted ns)
def pSorted (x : D) (_ : Store) : Rs RV := match x with
  | .lst ds => match intsOf ds with | some ns => .ok (.fr (.lst ((sortI ns).map .int))) | none => .no
  | _ => .no
theorem ok_sorted : UnOk (kx X cl) pSorted (fun x H Q => rSortedI X.K [x] H Q) := by
  intro x S rv v R H Q e g rx k
  unfold pSorted at e
  split at e
  · split at e
    · rename_i ns hn
      cases e
      have hd := intsOf_eq hn
      subst hd
      obtain ⟨a, vs, rfl, ha, ra⟩ := rx.lst g
      cases ra.ints
      refine ⟨a, ns, rfl, SqL.of ha, fun ns' p hp hs np => ?_⟩
      rw [sortI_eq hp hs]
      exact res_lst g k (Reps.of_ints _) p np
    · cases e
  · cases e
def pSum (x : D) (_ : Store) : Rs RV := match x with
  | .lst ds => match intsOf ds with | some ns => .ok (.pl (.int ns.sum)) | none => .no
  | _ => .no
theorem ok_sum : UnOk (kx X cl) pSum (fun x H Q => rSum X.K [x] H Q) := by
  intro x S rv v R H Q e g rx k
  unfold pSum at e
  split at e
  · split at e
    · rename_i ns hn
      cases e
      have hd := intsOf_eq hn
      subst hd
      obtain ⟨a, vs, rfl, ha, ra⟩ := rx.lst g
      cases ra.ints
      exact ⟨a, ns, rfl, SqL.of ha, res_pl k rfl⟩
    · cases e
  · cases e
def pAll (x : D) (_ : Store) : Rs RV := match x with
  | .lst ds => match blsOf ds with | some ns => .ok (.pl (.bl (ns.all id))) | none => .no
  | _ => .no
def pAny (x : D) (_ : Store) : Rs RV := match x with
  | .lst ds => match blsOf ds with | some ns => .ok (.pl (.bl (ns.any id))) | none => .no
  | _ => .no
theorem ok_all : UnOk (kx X cl) pAll (fun x H Q => rAll X.K [x] H Q) := by
  intro x S rv v R H Q e g rx k
  unfold pAll at e
  split at e
  · split at e
    · rename_i ns hn
      cases e
      have hd := blsOf_eq hn
      subst hd
      obtain ⟨a, vs, rfl, ha, ra⟩ := rx.lst g
      cases ra.bls
      exact ⟨a, ns, rfl, SqL.of ha, res_pl k rfl⟩
    · cases e
  · cases e
theorem ok_any : UnOk (kx X cl) pAny (fun x H Q => rAny X.K [x] H Q) := by
  intro x S rv v R H Q e g rx k
  unfold pAny at e
  split at e
  · split at e
    · rename_i ns hn
      cases e
      have hd := blsOf_eq hn
      subst hd
      obtain ⟨a, vs, rfl, ha, ra⟩ := rx.lst g
      cases ra.bls
      exact ⟨a, ns, rfl, SqL.of ha, res_pl k rfl⟩
    · cases e
  · cases e
def maxOf : Int → List Int → Int := List.foldl fun m i => if m < i then i else m
def minOf : Int → List Int → Int := List.foldl fun m i => if i < m then i else m
theorem maxOf_is : ∀ (r : List Int) (m : Int), (maxOf m r = m ∨ maxOf m r ∈ r) ∧ m ≤ maxOf m r ∧ ∀ y ∈ r, y ≤ maxOf m r
  | [], m => ⟨.inl rfl, Int.le_refl _, fun _ h => nomatch h⟩
  | i :: r, m => by
    obtain ⟨h1, h2, h3⟩ := maxOf_is r (if m < i then i else m)
    show (maxOf (if m < i then i else m) r = m ∨ maxOf (if m < i then i else m) r ∈ i :: r) ∧ m ≤ maxOf (if m < i then i else m) r ∧ ∀ y ∈ i :: r, y ≤ maxOf (if m < i then i else m) r
    by_cases h : m < i
    · rw [if_pos h] at h1 h2 h3 ⊢
      refine ⟨.inr ?_, by omega, fun y hy => ?_⟩
      · rcases h1 with h1 | h1
        · rw [h1]; simp
        · exact List.mem_cons_of_mem _ h1
      · rcases List.mem_cons.mp hy with e | hy
        · omega
        · exact h3 y hy
    · rw [if_neg h] at h1 h2 h3 ⊢
      refine ⟨h1.imp id (List.mem_cons_of_mem _), h2, fun y hy => ?_⟩
      rcases List.mem_cons.mp hy with e | hy
      · omega
      · exact h3 y hy
theorem minOf_is : ∀ (r : List Int) (m : Int), (minOf m r = m ∨ minOf m r ∈ r) ∧ minOf m r ≤ m ∧ ∀ y ∈ r, minOf m r ≤ y
  | [], m => ⟨.inl rfl, Int.le_refl _, fun _ h => nomatch h⟩
  | i :: r, m => by
    obtain ⟨h1, h2, h3⟩ := minOf_is r (if i < m then i else m)
    show (minOf (if i < m then i else m) r = m ∨ minOf (if i < m then i else m) r ∈ i :: r) ∧ minOf (if i < m then i else m) r ≤ m ∧ ∀ y ∈ i :: r, minOf (if i < m then i else m) r ≤ y
    by_cases h : i < m
    · rw [if_pos h] at h1 h2 h3 ⊢
      refine ⟨.inr ?_, by omega, fun y hy => ?_⟩
      · rcases h1 with h1 | h1
        · rw [h1]; simp
        · exact List.mem_cons_of_mem _ h1
      · rcases List.mem_cons.mp hy with e | hy
        · omega
        · exact h3 y hy
    · rw [if_neg h] at h1 h2 h3 ⊢
      refine ⟨h1.imp id (List.mem_cons_of_mem _), h2, fun y hy => ?_⟩
      rcases List.mem_cons.mp hy with e | hy
      · omega
      · exact h3 y hy
def pMax (x : D) (_ : Store) : Rs RV := match x with
  | .lst ds => match intsOf ds with | some (n :: ns) => .ok (.pl (.int (maxOf n ns))) | _ => .no
  | _ => .no
def pMin (x : D) (_ : Store) : Rs RV := match x with
  | .lst ds => match intsOf ds with | some (n :: ns) => .ok (.pl (.int (minOf n ns))) | _ => .no
  | _ => .no
theorem ok_max : UnOk (kx X cl) pMax (fun x H Q => rMax X.K [x] H Q) := by
  intro x S rv v R H Q e g rx k
  unfold pMax at e
  split at e
  · split at e
    · rename_i n ns hn
      cases e
      have hd := intsOf_eq hn
      subst hd
      obtain ⟨a, vs, rfl, ha, ra⟩ := rx.lst g
      cases ra.ints
      refine ⟨a, n :: ns, rfl, SqL.of ha, by simp, fun m hm hy => ?_⟩
      obtain ⟨h1, h2, h3⟩ := maxOf_is ns n
      have e : m = maxOf n ns := by
        have p1 := hy (maxOf n ns) (h1.elim (fun h => by rw [h]; simp) (List.mem_cons_of_mem _))
        rcases List.mem_cons.mp hm with q | q
        · omega
        · have := h3 m q; omega
      rw [e]
      exact res_pl k rfl
    · cases e
  · cases e
theorem ok_min : UnOk (kx X cl) pMin (fun x H Q => rMin X.K [x] H Q) := by
  intro x S rv v R H Q e g rx k
  unfold pMin at e
  split at e
  · split at e
    · rename_i n ns hn
      cases e
      have hd := intsOf_eq hn
      subst hd
      obtain ⟨a, vs, rfl, ha, ra⟩ := rx.lst g
      cases ra.ints
      refine ⟨a, n :: ns, rfl, SqL.of ha, by simp, fun m hm hy => ?_⟩
      obtain ⟨h1, h2, h3⟩ := minOf_is ns n
      have e : m = minOf n ns := by
        have p1 := hy (minOf n ns) (h1.elim (fun h => by rw [h]; simp) (List.mem_cons_of_mem _))
        rcases List.mem_cons.mp hm with q | q
        · omega
        · have := h3 m q; omega
      rw [e]
      exact res_pl k rfl
    · cases e
  · cases e
def pList (x : D) (S : Store) : Rs RV := match x with
  | .lst ds => .ok (.fr (.lst ds))
  | .tup ds => .ok (.fr (.lst ds))
  | .ktup ds => .ok (.fr (.lst ds))
  | .scr ns => .ok (.fr (.lst (ns.map .int)))
  | .ref j => match S[j]? with | some (.lst ds) => .ok (.fr (.lst ds)) | _ => .no
  | _ => .no
def pTuple (x : D) (S : Store) : Rs RV := match x with
  | .lst ds => .ok (.pl (.tup ds))
  | .tup ds => .ok (.pl (.tup ds))
  | .ref j => match S[j]? with | some (.lst ds) => .ok (.pl (.tup ds)) | _ => .no
  | _ => .no
theorem ok_list : UnOk (kx X cl) pList (fun x H Q => ∃ p ys, [x] = [.ref p] ∧ (SqL X.K H p ys ∨ SqT X.K H p ys) ∧ ∀ l, H l = none → Q (.ref l) (upd H l (.lst ys))) := by
  intro x S rv v R H Q e g rx k
  unfold pList at e
  split at e
  · cases e
    obtain ⟨a, vs, rfl, ha, ra⟩ := rx.lst g
    exact ⟨a, vs, rfl, .inl (SqL.of ha), res_lst g k ra⟩
  · cases e
    obtain ⟨a, vs, rfl, ha, ra⟩ := rx.tup g
    exact ⟨a, vs, rfl, .inr ha, res_lst g k ra⟩
  · cases e
    obtain ⟨a, vs, rfl, ha, ra⟩ := rx.ktup g
    exact ⟨a, vs, rfl, .inr ha, res_lst g k ra⟩
  · rename_i ns
    cases e
    rcases rx with ⟨a, rfl, z⟩ | ⟨a, o, rfl, ho, c⟩
    · refine ⟨a, ns.map V.int, rfl, .inl ?_, res_lst g k (Reps.of_ints ns)⟩
      rcases z with ⟨o, z⟩ | z
      · exact .inl (.inr ⟨o, g.zh a _ z⟩)
      · exact .inr z
    · exact c.elim
  · split at e
    · rename_i ds hs
      cases e
      obtain ⟨a, rfl, ea⟩ := rx.ref g
      obtain ⟨b, eb, vs, ha, ra⟩ := g.st _ _ hs
      rw [ea] at eb; cases eb
      exact ⟨a, vs, rfl, .inl (SqL.of ha), res_lst g k ra⟩
    · cases e
  · cases e
theorem ok_tuple : UnOk (kx X cl) pTuple (fun x H Q => ∃ p ys, [x] = [.ref p] ∧ ((SqL X.K H p ys ∧ ∀ l, H l = none → Q (.ref l) (upd H l (.tup ys))) ∨ (SqT X.K H p ys ∧ Q (.ref p) H))) := by
  intro x S rv v R H Q e g rx k
  unfold pTuple at e
  split at e
  · cases e
    obtain ⟨a, vs, rfl, ha, ra⟩ := rx.lst g
    exact ⟨a, vs, rfl, .inl ⟨SqL.of ha, res_tup g k ra⟩⟩
  · cases e
    have q := rx.tupZ
    obtain ⟨a, vs, rfl, ha, ra⟩ := rx.tup g
    exact ⟨a, vs, rfl, .inr ⟨ha, res_pl k q⟩⟩
  · split at e
    · rename_i ds hs
      cases e
      obtain ⟨a, rfl, ea⟩ := rx.ref g
      obtain ⟨b, eb, vs, ha, ra⟩ := g.st _ _ hs
      rw [ea] at eb; cases eb
      exact ⟨a, vs, rfl, .inl ⟨SqL.of ha, res_tup g k ra⟩⟩
    · cases e
  · cases e
def tyOf (x : D) (S : Store) : Option String := match x with
  | .non => some "NoneType"
  | .bl _ => some "bool"
  | .int _ => some "int"
  | .str _ => some "str"
  | .tup _ => some "tuple"
  | .ktup _ => some "tuple"
  | .lst _ => some "list"
  | .ref j => match S[j]? with | some (.lst _) => some "list" | _ => none
  | .scr _ => none
  | .dct _ _ _ => none
/-- the answer of isinstance for plain types -/
def isTy (T : String) (x : D) (S : Store) : Option Bool := match tyOf x S with
  | some t => if T = "int" then some (t = "int" || t = "bool") else if T = "bool" then some (t = "bool") else if T = "str" then some (t = "str") else if T = "tuple" then some (t = "tuple") else if T = "list" then some (t = "list") else none
  | none => none
def pIsT (T : String) (x : D) (S : Store) : Rs RV := match isTy T x S with | some b => .ok (.pl (.bl b)) | none => .no
theorem kit_tab : ∀ t ∈ ["NoneType", "bool", "int", "str", "tuple", "list"], kitB t "int" = some (t = "int" || t = "bool") ∧ kitB t "bool" = some (t = "bool" : Bool) ∧ kitB t "str" = some (t = "str" : Bool) ∧ kitB t "tuple" = some (t = "tuple" : Bool) ∧ kitB t "list" = some (t = "list" : Bool) := by decide +kernel
theorem VR.ty {K : Kc} {R : Rc} {S : Store} {H : Hp} {x : D} {v : V} {t : String} (g : GR K R S H) (r : VR K R H x v) (h : tyOf x S = some t) : TyX K.F H v (.type t) ∧ t ∈ ["NoneType", "bool", "int", "str", "tuple", "list"] := by
  unfold tyOf at h
  split at h
  · cases h; rw [r.non]; exact ⟨.base .non, by simp⟩
  · cases h; rw [r.bl]; exact ⟨.base (.bl _), by simp⟩
  · cases h; rw [r.int]; exact ⟨.base (.int _), by simp⟩
  · cases h; rw [r.str]; exact ⟨.base (.str _), by simp⟩
  · cases h
    obtain ⟨a, vs, rfl, ha, ra⟩ := r.tupZ
    exact ⟨.base (.tup (g.zh a _ ha)), by simp⟩
  · cases h
    rcases r with ⟨a, vs, rfl, ⟨o, its, n, hk, hc, _⟩, ra⟩ | ⟨a, o, rfl, ho, c⟩
    · exact ⟨.kTuple hk hc, by simp⟩
    · exact c.elim
  · cases h
    obtain ⟨a, vs, rfl, ha, ra⟩ := r.lst g
    exact ⟨.base (.lst ha), by simp⟩
  · split at h
    · rename_i ds hs
      cases h
      obtain ⟨a, rfl, ea⟩ := r.ref g
      obtain ⟨b, eb, vs, ha, ra⟩ := g.st _ _ hs
      rw [ea] at eb; cases eb
      exact ⟨.base (.lst ha), by simp⟩
    · cases h
  · cases h
  · cases h
theorem ok_isT {T : String} : UnOk (kx X cl) (pIsT T) (fun x H Q => rIsi X.K [x, .ty T] H Q) := by
  intro x S rv v R H Q e g rx k
  unfold pIsT at e
  split at e
  · rename_i b hb
    cases e
    unfold isTy at hb
    split at hb
    · rename_i t ht
      obtain ⟨ty, hm⟩ := rx.ty g ht
      refine ⟨v, .ty T, .type t, .type T, b, rfl, .ty T, ty, kit_ty ?_, res_pl k rfl⟩
      obtain ⟨k1, k2, k3, k4, k5⟩ := kit_tab t hm
      split at hb
      · rename_i q; subst q; rw [k1]; exact hb
      · split at hb
        · rename_i q; subst q; rw [k2]; exact hb
        · split at hb
          · rename_i q; subst q; rw [k3]; exact hb
          · split at hb
            · rename_i q; subst q; rw [k4]; exact hb
            · split at hb
              · rename_i q; subst q; rw [k5]; exact hb
              · cases hb
    · cases hb
  · cases e
theorem ev_isT {T : String} (h : PE X e (tCB (rIsi X.K) (tCons (tOf (kx X cl) Ea) (tCons (tC (.ty T)) tNil)))) : PE X e (tOf (kx X cl) (eUn (pIsT T) Ea)) := ev_un h ok_isT
abbrev ODen := Mp.Env → Store → Rs (Option Int × Mp.Env × Store)
def oNone : ODen := fun ε S => .ok (none, ε, S)
def oSome (a : Den) : ODen := fun ε S => do
  let (r, ε1, S1) ← a ε S
  match ← r.get ε1 with
  | .int i => .ok (some i, ε1, S1)
  | _ => .no
def oOf (K : Kc) (O : ODen) : TO := fun σ H Q => ∃ ε S R ω o ε' S', O ε S = .ok (o, ε', S') ∧ SR K R ω ε S σ H ∧ ∀ R' ω' H', Ex R ω H R' ω' H' → SR K R' ω' ε' S' σ H' → Q o H'
theorem PO.im {o : Option Expr} {t t' : TO} (h : PO X o t) (i : ∀ σ H Q, t' σ H Q → t σ H Q) : PO X o t' := ⟨fun pins s σ H Q I hw => h.run pins s σ H Q I (i σ H Q hw)⟩
theorem ov_none : PO X none (oOf (kx X cl) oNone) := by
  refine PO.im po_none fun σ H Q hh => ?_
  obtain ⟨ε, S, R, ω, o, ε', S', he, s, k⟩ := hh
  cases he
  exact k R ω H (.refl _ _ _) s
theorem ov_some (h : PE X e (tOf (kx X cl) Ea)) : PO X (some e) (oOf (kx X cl) (oSome Ea)) := by
  refine PO.im (po_some h) fun σ H Q hh => ?_
  obtain ⟨ε, S, R, ω, o, ε', S', he, s, k⟩ := hh
  obtain ⟨⟨r, ε1, S1⟩, e1, he⟩ := bind_ok he
  obtain ⟨d, ed, he⟩ := bind_ok he
  refine ⟨ε, S, R, ω, r, ε1, S1, e1, s, fun v1 R1 ω1 H1 x1 s1 p1 => ?_⟩
  match d, he, ed with
  | .int i, he, ed =>
    cases he
    exact ⟨i, (p1.vr s1 ed).int, k R1 ω1 H1 x1 s1⟩
def cutL {α : Type} (xs : List α) (lo hi : Option Int) : List α := (xs.drop (HT.sIx xs.length 0 lo)).take (HT.sIx xs.length xs.length hi - HT.sIx xs.length 0 lo)
def eSl (a : Den) (lo hi : ODen) : Den := fun ε S => do
  let (r, ε1, S1) ← a ε S
  let (l, ε2, S2) ← lo ε1 S1
  let (h, ε3, S3) ← hi ε2 S2
  match ← r.get ε3 with
  | .lst ds => .ok (.fr (.lst (cutL ds l h)), ε3, S3)
  | .tup ds => .ok (.pl (.tup (cutL ds l h)), ε3, S3)
  | .str s => if s.length ≤ 16777216 then .ok (.pl (.str (cutL s l h)), ε3, S3) else .no
  | _ => .no
theorem Reps.cut {K : Kc} {R : Rc} {ds : List D} {vs : List V} (r : Reps K R ds vs) (lo hi : Option Int) : Reps K R (cutL ds lo hi) (cutV vs lo hi) := by
  unfold cutL cutV
  rw [r.length]
  exact (r.drop _).take _
theorem ev_slice {lo hi : Option Expr} {Lo Hi : ODen} {p2 : Pos} (ha : PE X a (tOf (kx X cl) Ea)) (hl : PO X lo (oOf (kx X cl) Lo)) (hu : PO X hi (oOf (kx X cl) Hi)) : PE X (.Subscript a (.Slice lo hi none p2) pos) (tOf (kx X cl) (eSl Ea Lo Hi)) := by
  refine PE.im (pe_slice (SlR.or sl_list (SlR.or sl_tupA sl_str)) ha hl hu) fun σ H Q hh => ?_
  obtain ⟨ε, S, R, ω, rv, ε', S', he, s, k⟩ := hh
  obtain ⟨⟨r, ε1, S1⟩, e1, he⟩ := bind_ok he
  obtain ⟨⟨l, ε2, S2⟩, e2, he⟩ := bind_ok he
  obtain ⟨⟨h, ε3, S3⟩, e3, he⟩ := bind_ok he
  obtain ⟨d, ed, he⟩ := bind_ok he
  refine ⟨ε, S, R, ω, r, ε1, S1, e1, s, fun v1 R1 ω1 H1 x1 s1 p1 => ⟨ε1, S1, R1, ω1, l, ε2, S2, e2, s1, fun R2 ω2 H2 x2 s2 => ⟨ε2, S2, R2, ω2, h, ε3, S3, e3, s2, fun R3 ω3 H3 x3 s3 => ?_⟩⟩⟩
  have xx := (x1.trans x2).trans x3
  have rd := ((p1.keep x2).keep x3).vr s3 ed
  have fin : ∀ rr : RV, Rs.ok (rr, ε3, S3) = Rs.ok (rv, ε', S') → ∀ v' R' H', Gw R3 H3 R' H' → RNew (kx X cl) H3 R' H' rr v' → Q v' H' := fun rr hr v' R' H' gw n => by
    cases hr
    exact k v' R' ω3 H' (xx.trans (gw.ex ω3)) (gw.sr s3) (n.rvr s3 xx gw)
  cases d with
  | lst ds =>
    obtain ⟨q, vs, rfl, hq, rq⟩ := rd.lst s3.g
    exact .inl ⟨q, vs, rfl, SqL.of hq, res_lst s3.g (fin _ he) (rq.cut l h)⟩
  | tup ds =>
    have rz := rd.tupZ
    obtain ⟨q, vs, rfl, hq, rq⟩ := rd.tup s3.g
    refine .inr (.inl ⟨q, vs, rfl, hq, fun hw => ?_, fun _ => res_tup s3.g (fin _ he) (rq.cut l h)⟩)
    have e5 : cutL ds l h = ds := by
      unfold cutL
      rw [rq.length] at hw
      rw [hw.1, hw.2]
      simp
    have he' : Rs.ok (RV.pl (.tup (cutL ds l h)), ε3, S3) = Rs.ok (rv, ε', S') := he
    rw [e5] at he'
    exact res_pl (fin _ he') rz
  | str z =>
    simp only at he
    split at he
    · rename_i hz
      refine .inr (.inr ⟨_, rd.str, by rw [sizeLine_is]; simpa [Str.length] using hz, res_pl (fin _ he) ?_⟩)
      show V.str (cutS ⟨z.toArray⟩ l h) = V.str ⟨(cutL z l h).toArray⟩
      unfold cutS cutL
      simp [Str.length]
    · cases he
  | non => cases he
  | bl b => cases he
  | int i => cases he
  | dct t ks vs => cases he
  | ref j => cases he
  | scr ns => cases he
  | ktup ns => cases he
end
end Mp

namespace Mp
open PySem PySem.Spec PyProof.Rows L2

/-- the list that a value stands for, to be changed -/
def getIn (r : RV) (ε : Env) (S : Store) : Rs (List D) := match r with
  | .bor i => match slot ε i with
    | some (.own (.lst ds)) => .ok ds
    | _ => .no
  | .pl (.ref j) => match S[j]? with
    | some (.lst ds) => .ok ds
    | _ => .no
  | _ => .no
def putIn (r : RV) (ds : List D) (ε : Env) (S : Store) : Env × Store := match r with
  | .bor i => (ε.set i (some (.own (.lst ds))), S)
  | .pl (.ref j) => (ε, S.set j (.lst ds))
  | _ => (ε, S)
def eMut (f : List D → List D → Rs (List D × D)) (o : Den) (as : ADen) : Den := fun ε S => do
  let (r, ε1, S1) ← o ε S
  let _ ← getIn r ε1 S1
  let (ds, ε2, S2) ← as ε1 S1
  let xs ← getIn r ε2 S2
  let (ys, d) ← f xs ds
  .ok (.pl d, (putIn r ys ε2 S2).1, (putIn r ys ε2 S2).2)
def fAppend (xs as : List D) : Rs (List D × D) := match as with
  | [d] => if xs.length < 16777216 then .ok (xs ++ [d], .non) else .no
  | _ => .no
def fPop (xs as : List D) : Rs (List D × D) := match as with
  | [] => match xs[xs.length - 1]? with
    | some d => .ok (xs.dropLast, d)
    | none => .no
  | _ => .no
def fPopAt (xs as : List D) : Rs (List D × D) := match as with
  | [.int i] => if xs.length ≤ 16777216 then match ixN xs.length i with
    | some k => match xs[k]? with
      | some d => .ok (xs.eraseIdx k, d)
      | none => .no
    | none => .no
    else .no
  | _ => .no
/-- x[i] = value -/
def sPut (o i a : Den) : SDen := fun ε S => do
  let (r, ε1, S1) ← a ε S
  let (d, ε2) ← r.fix ε1
  let (ro, ε3, S2) ← o ε2 S1
  let (ri, ε4, S3) ← i ε3 S2
  match ← ri.get ε4 with
  | .int k => do
    let xs ← getIn ro ε4 S3
    match ixN xs.length k with
    | some j => .ok (.nx (putIn ro (xs.set j d) ε4 S3).1 (putIn ro (xs.set j d) ε4 S3).2)
    | none => .no
  | _ => .no
/-- a value as a name is to hold it -/
def RV.low (own : Bool) (r : RV) (ε : Env) : Rs (Sl × Env) := match r with
  | .pl d => .ok (.pl d, ε)
  | .fr d => .ok (if own then .own d else .pl d, ε)
  | .bor i => match slot ε i with
    | some (.own d) => .ok (.pl d, ε.set i (some (.pl d)))
    | some (.pl d) => .ok (.pl d, ε)
    | none => .no
def Sl.rv : Sl → RV
  | .pl d => .pl d
  | .own d => .fr d
def sPar2 (o1 : Bool) (i : Nat) (o2 : Bool) (j : Nat) (a b : Den) : SDen := fun ε S => do
  let (r1, ε1, S1) ← a ε S
  let (t1, ε2) ← r1.low o1 ε1
  let (r2, ε3, S2) ← b ε2 S1
  let (t2, ε4) ← r2.low o2 ε3
  if i < ε4.length ∧ j < ε4.length then .ok (.nx ((ε4.set i (some t1)).set j (some t2)) S2) else .no
def sPar3 (o1 : Bool) (i : Nat) (o2 : Bool) (j : Nat) (o3 : Bool) (l : Nat) (a b c : Den) : SDen := fun ε S => do
  let (r1, ε1, S1) ← a ε S
  let (t1, ε2) ← r1.low o1 ε1
  let (r2, ε3, S2) ← b ε2 S1
  let (t2, ε4) ← r2.low o2 ε3
  let (r3, ε5, S3) ← c ε4 S2
  let (t3, ε6) ← r3.low o3 ε5
  if i < ε6.length ∧ j < ε6.length ∧ l < ε6.length then .ok (.nx (((ε6.set i (some t1)).set j (some t2)).set l (some t3)) S3) else .no

section
variable {K : Kc} {R R' R1 : Rc} {ω ω' ω0 ω1 : Om} {H H' H0 H1 : Hp} {σ : L2.St} {ε ε' ε1 : Env} {S S' S1 S2 : Store}
theorem Ex.chg {p : Addr} {o o' : HO} (hp : H p = some o) (h : p ∈ R.ρ ∨ ∃ i, ω i = some p) : Ex R ω H R ω (upd H p o') :=
  ⟨.refl R, fun a u e => by
    by_cases q : a = p
    · subst q; exact ⟨o', upd_same⟩
    · exact ⟨u, by rw [upd_ne q]; exact e⟩,
   fun a u e n m => by
    rw [upd_ne]
    · exact e
    · intro q; subst q
      rcases h with h | ⟨i, h⟩
      · exact n h
      · exact m i h,
   fun _ _ h => .inl h, fun _ h => .inl h, fun i _ h => .inl ⟨i, h⟩⟩
theorem SR.chg_own (s : SR K R ω ε S σ H) {i : Nat} {d0 d : D} {p : Addr} {o : HO} (hs : slot ε i = some (.own d0)) (hω : ω i = some p) (c : CR K R d o) : SR K R ω (ε.set i (some (.own d))) S σ (upd H p o) := by
  have z := s.oz i p hω
  have n := s.oρ i p hω
  have nz : ∀ b o', R.Z b = some o' → b ≠ p := fun b o' h q => by rw [q, z] at h; cases h
  have nρ : ∀ b, b ∈ R.ρ → b ≠ p := fun b h q => n (by rw [← q]; exact h)
  have hi : i < ε.length := by
    unfold slot at hs
    cases q : ε[i]? with
    | none => rw [q] at hs; cases hs
    | some _ => exact (List.getElem?_eq_some_iff.mp q).1
  obtain ⟨v, e1, a, o1, rfl, e2, e3, _⟩ := s.sl i _ hs
  rw [hω] at e2; cases e2
  exact {
    g := {
      zh := fun b o' h => by rw [upd_ne (nz b o' h)]; exact s.g.zh b o' h
      sl := s.g.sl
      st := fun j ob h => by
        obtain ⟨b, e, q⟩ := s.g.st j ob h
        refine ⟨b, e, ?_⟩
        have hb : (upd H p o) b = H b := upd_ne (nρ b (List.mem_of_getElem? e))
        cases ob with
        | lst ds => obtain ⟨vs, q1, q2⟩ := q; exact ⟨vs, by rw [hb]; exact q1, q2⟩
        | ins c fs => obtain ⟨dx, vs, q1, q2⟩ := q; exact ⟨dx, vs, by rw [hb]; exact q1, q2⟩
        | dct t ks vs => obtain ⟨ow, q1, q2⟩ := q; exact ⟨ow, by rw [hb]; exact q1, q2⟩
      ρz := s.g.ρz
      ρn := s.g.ρn
      ρh := fun b h => by rw [upd_ne (nρ b h)]; exact s.g.ρh b h }
    len := by rw [List.length_set]; exact s.len
    sl := fun j t h => by
      rw [slot_set] at h
      split at h
      · rename_i q
        subst q
        first | rw [if_pos hi] at h | skip
        cases h
        exact ⟨_, e1, p, o, rfl, hω, upd_same, c⟩
      · rename_i q
        obtain ⟨v, e, r⟩ := s.sl j t h
        refine ⟨v, e, ?_⟩
        cases t with
        | pl d => exact r
        | own d =>
          obtain ⟨b, o', e1, e2, e3, c⟩ := r
          exact ⟨b, o', e1, e2, by rw [upd_ne (fun z => q (by subst z; exact s.oi i j _ hω e2))]; exact e3, c⟩
    oz := s.oz
    oρ := s.oρ
    oi := s.oi
    oh := fun j b h => by
      by_cases q : b = p
      · subst q; exact ⟨o, upd_same⟩
      · rw [upd_ne q]; exact s.oh j b h
    on := fun j b h => by
      by_cases q : i = j
      · subst q; exact ⟨d, by rw [slot_set, if_pos rfl, if_pos hi]⟩
      · obtain ⟨d', e⟩ := s.on j b h
        exact ⟨d', by rw [slot_set, if_neg q]; exact e⟩ }
theorem SR.chg_ref (s : SR K R ω ε S σ H) {j : Nat} {ob : Obj} {p : Addr} {o : HO} (hj : R.ρ[j]? = some p) (c : ObjR K R (upd H p o) p ob) : SR K R ω ε (S.set j ob) σ (upd H p o) := by
  have mp : p ∈ R.ρ := List.mem_of_getElem? hj
  have z := s.g.ρz p mp
  have nz : ∀ b o', R.Z b = some o' → b ≠ p := fun b o' h q => by rw [q, z] at h; cases h
  have nω : ∀ i b, ω i = some b → b ≠ p := fun i b h q => s.oρ i b h (by rw [q]; exact mp)
  exact {
    g := {
      zh := fun b o' h => by rw [upd_ne (nz b o' h)]; exact s.g.zh b o' h
      sl := by rw [List.length_set]; exact s.g.sl
      st := fun k ob' h => by
        rw [List.getElem?_set] at h
        split at h
        · rename_i q
          subst q
          split at h
          · cases h; exact ⟨p, hj, c⟩
          · cases h
        · rename_i q
          obtain ⟨b, e, r⟩ := s.g.st k ob' h
          refine ⟨b, e, ?_⟩
          have nb : b ≠ p := fun z => q (by
            subst z
            exact (List.getElem?_inj (List.getElem?_eq_some_iff.mp hj).1 s.g.ρn).mp (hj.trans e.symm))
          have hb : (upd H p o) b = H b := upd_ne nb
          cases ob' with
          | lst ds => obtain ⟨vs, q1, q2⟩ := r; exact ⟨vs, by rw [hb]; exact q1, q2⟩
          | ins c fs => obtain ⟨dx, vs, q1, q2⟩ := r; exact ⟨dx, vs, by rw [hb]; exact q1, q2⟩
          | dct t ks vs => obtain ⟨ow, q1, q2⟩ := r; exact ⟨ow, by rw [hb]; exact q1, q2⟩
      ρz := s.g.ρz
      ρn := s.g.ρn
      ρh := fun b h => by
        by_cases q : b = p
        · subst q; exact ⟨o, upd_same⟩
        · rw [upd_ne q]; exact s.g.ρh b h }
    len := s.len
    sl := fun i t h => by
      obtain ⟨v, e, r⟩ := s.sl i t h
      refine ⟨v, e, ?_⟩
      cases t with
      | pl d => exact r
      | own d =>
        obtain ⟨b, o', e1, e2, e3, c⟩ := r
        exact ⟨b, o', e1, e2, by rw [upd_ne (nω i b e2)]; exact e3, c⟩
    oz := s.oz
    oρ := s.oρ
    oi := s.oi
    oh := fun i b h => by rw [upd_ne (nω i b h)]; exact s.oh i b h
    on := s.on }
/-- the place of a list, and its change -/
theorem mut_at {r : RV} {v : V} {xs : List D} (s : SR K R ω ε S σ H) (p : RVR K ω0 H0 R ω H σ r v) (e : getIn r ε S = .ok xs) :
    ∃ a vs, v = .ref a ∧ H a = some (.lst vs) ∧ Reps K R xs vs ∧
      ∀ ys ws, Reps K R ys ws → SR K R ω (putIn r ys ε S).1 (putIn r ys ε S).2 σ (upd H a (.lst ws)) ∧ Ex R ω H R ω (upd H a (.lst ws)) := by
  cases r with
  | fr d => cases e
  | bor i =>
    have p' : σ[i]? = some (some v) := p
    have e' : (match slot ε i with | some (.own (.lst ds)) => Rs.ok ds | _ => .no) = .ok xs := e
    split at e' <;> try cases e'
    rename_i hs
    obtain ⟨u, e1, a, o, rfl, e2, e3, c⟩ := s.sl _ _ hs
    rw [p'] at e1; cases e1
    obtain ⟨vs, rfl, rr⟩ := c
    exact ⟨a, vs, rfl, e3, rr, fun ys ws q => ⟨s.chg_own hs e2 ⟨ws, rfl, q⟩, .chg e3 (.inr ⟨_, e2⟩)⟩⟩
  | pl d =>
    unfold getIn at e
    split at e <;> try cases e
    · rename_i hs; cases hs
    rename_i j hs
    cases hs
    split at e <;> try cases e
    rename_i ds hs
    obtain ⟨a, e2, rfl⟩ := p
    obtain ⟨b, e3, vs, e4, rr⟩ := s.g.st j _ hs
    rw [e2] at e3; cases e3
    exact ⟨a, vs, rfl, e4, rr, fun ys ws q => ⟨s.chg_ref e2 ⟨ws, upd_same, q⟩, .chg e4 (.inl (List.mem_of_getElem? e2))⟩⟩
theorem Reps.last {xs : List D} {vs : List V} (r : Reps K R xs vs) : Reps K R xs.dropLast vs.dropLast := by
  rw [List.dropLast_eq_take, List.dropLast_eq_take, r.length]
  exact r.take _
theorem Reps.erase : ∀ {ds : List D} {vs : List V} (i : Nat), Reps K R ds vs → Reps K R (ds.eraseIdx i) (vs.eraseIdx i)
  | [], vs, i, h => by rw [show vs = [] from h]; simp [Reps]
  | d :: ds, vs, 0, h => by
    obtain ⟨v, r, rfl, p, p'⟩ := h
    exact p'
  | d :: ds, vs, i + 1, h => by
    obtain ⟨v, r, rfl, p, p'⟩ := h
    exact ⟨v, _, rfl, p, Reps.erase i p'⟩
theorem RVR.low {R1 : Rc} {own : Bool} {r : RV} {v : V} {t : Sl} (h : RVR K ω0 H0 R ω H σ r v) (s : SR K R ω ε S σ H) (x : Ex R1 ω0 H0 R ω H) (e : r.low own ε = .ok (t, ε')) :
    ∃ R2 ω2, Ex R1 ω0 H0 R2 ω2 H ∧ SR K R2 ω2 ε' S σ H ∧ RVR K ω0 H0 R2 ω2 H σ t.rv v := by
  cases r with
  | pl y => cases e; exact ⟨R, ω, x, s, h⟩
  | fr y =>
    cases own with
    | true => cases e; exact ⟨R, ω, x, s, h⟩
    | false =>
      cases e
      obtain ⟨a, o, e, ho, c, z, n, m, w⟩ := h
      subst e
      exact ⟨R.tell a o, ω, x.tell ho z w fun _ _ h => h, s.tell ho n m, rep_tell c (tell_le z)⟩
  | bor i =>
    unfold RV.low at e
    cases q : slot ε i with
    | none => simp [q] at e
    | some u =>
      cases u with
      | pl y =>
        simp [q] at e
        obtain ⟨rfl, rfl⟩ := e
        exact h.fix (d := y) s x (by simp [RV.fix, q])
      | own y =>
        simp [q] at e
        obtain ⟨rfl, rfl⟩ := e
        exact h.fix (d := y) s x (by simp [RV.fix, q])
/-- a name takes a lowered value -/
theorem SR.take {t : Sl} {v : V} {i : Nat} (s : SR K R ω ε S σ H) (x : Ex R1 ω0 H0 R ω H) (h : RVR K ω0 H0 R ω H σ t.rv v) (hi : i < ε.length) :
    ∃ ω2, SR K R ω2 (ε.set i (some t)) S (σ.set i (some v)) H ∧ Ex R1 ω0 H0 R ω2 H ∧ (∀ j b, ω2 j = some b → ω j = some b ∨ v = .ref b ∧ ∃ d, t = .own d) := by
  cases t with
  | pl d => exact ⟨ω.off i, s.store_pl h, x.off i, fun j b q => .inl (off_some q).2⟩
  | own d =>
    obtain ⟨a, o, rfl, ho, c, z, n, m, w⟩ := h
    exact ⟨ω.put i a, s.store_own hi ho c z n m, x.put w, fun j b q => by
      rcases put_some q with ⟨_, rfl⟩ | ⟨_, q⟩
      · exact .inr ⟨rfl, _, rfl⟩
      · exact .inl q⟩
end
section
variable {X : Cx} {cl : Nat → Addr} {e a b c o : Expr} {es : List Expr} {Ea Eb Ec Eo Ei : Den} {As : ADen} {pos apos : Pos}
def MutOk (K : Kc) (f : List D → List D → Rs (List D × D)) (r : V → List V → Hp → VK → Prop) : Prop :=
  ∀ xs as ys d p vs ws R H Q, f xs as = .ok (ys, d) → H p = some (.lst vs) → Reps K R xs vs → Reps K R as ws →
    (∀ us u, Reps K R ys us → Rep K R d u → Q u (upd H p (.lst us))) → r (.ref p) ws H Q
theorem mok_append : MutOk (kx X cl) fAppend rAppend := by
  intro xs as ys d p vs ws R H Q e hp rx ra k
  unfold fAppend at e
  split at e
  · split at e
    · rename_i hl
      cases e
      obtain ⟨v, r, rfl, p1, p2⟩ := ra
      cases (show r = [] from p2)
      exact ⟨p, vs, v, rfl, rfl, hp, by rw [rx.length, sizeLine_is]; exact hl, k _ _ (rx.append (.one p1)) rfl⟩
    · cases e
  · cases e
theorem mok_pop : MutOk (kx X cl) fPop rPop := by
  intro xs as ys d p vs ws R H Q e hp rx ra k
  unfold fPop at e
  split at e
  · split at e
    · rename_i q
      cases e
      cases (show ws = [] from ra)
      obtain ⟨v, e1, r1⟩ := rx.get q
      exact ⟨p, vs, v, rfl, rfl, hp, by rw [rx.length]; exact e1, k _ _ rx.last r1⟩
    · cases e
  · cases e
theorem mok_popAt : MutOk (kx X cl) fPopAt rPopAt := by
  intro xs as ys d p vs ws R H Q e hp rx ra k
  unfold fPopAt at e
  split at e
  · rename_i i
    split at e
    case isFalse => cases e
    rename_i hl
    split at e
    · rename_i j hj
      split at e
      · rename_i q
        cases e
        obtain ⟨v, r, rfl, p1, p2⟩ := ra
        cases (show r = [] from p2)
        cases (show v = .int i from p1)
        obtain ⟨v, e1, r1⟩ := rx.get q
        obtain ⟨h1, h2, h3, h4⟩ := ixN_seq hj
        exact ⟨p, vs, i, j, v, rfl, rfl, hp, by omega, by omega, by rw [rx.length]; exact h1, e1, k _ _ (rx.erase j) r1⟩
      · cases e
    · cases e
  · cases e
theorem mut_im {T : String} {f : List D → List D → Rs (List D × D)} {r : V → List V → Hp → VK → Prop} (ok : MutOk (kx X cl) f r) (hT : T = "list") (σ : L2.St) (H : Hp) (Q : VK) (hh : tOf (kx X cl) (eMut f Eo As) σ H Q) : tBM X.K T r (tOf (kx X cl) Eo) (aOf (kx X cl) As) σ H Q := by
  obtain ⟨ε, S, R, ω, rv, ε', S', he, s, k⟩ := hh
  obtain ⟨⟨ro, ε1, S1⟩, e1, he⟩ := bind_ok he
  obtain ⟨x0, e2, he⟩ := bind_ok he
  obtain ⟨⟨ds, ε2, S2⟩, e3, he⟩ := bind_ok he
  obtain ⟨xs, e4, he⟩ := bind_ok he
  obtain ⟨⟨ys, d⟩, e5, he⟩ := bind_ok he
  cases he
  refine ⟨ε, S, R, ω, ro, ε1, S1, e1, s, fun v1 R1 ω1 H1 x1 s1 p1 => ?_⟩
  obtain ⟨a0, vs0, rfl, h0, _⟩ := mut_at s1 p1 e2
  refine ⟨.inl ⟨hT, vs0, SqL.of h0⟩, ε1, S1, R1, ω1, ds, ε2, S2, e3, s1, fun ws R2 ω2 H2 x2 s2 p2 => ?_⟩
  obtain ⟨a, vs, ea, h2, rx, mk⟩ := mut_at s2 (p1.keep x2) e4
  cases ea
  refine ok xs ds ys d a0 vs ws R2 H2 Q e5 h2 rx p2 fun us u ru rd => ?_
  obtain ⟨s3, x3⟩ := mk ys us ru
  exact k u R2 ω2 _ ((x1.trans x2).trans x3) s3 rd
theorem mut_im0 {T : String} {f : List D → List D → Rs (List D × D)} {r : V → List V → Hp → VK → Prop} (ok : MutOk (kx X cl) f r) (hT : T = "list") (σ : L2.St) (H : Hp) (Q : VK) (hh : tOf (kx X cl) (eMut f Eo aNil) σ H Q) : tBM0 X.K T r (tOf (kx X cl) Eo) σ H Q := by
  obtain ⟨ε, S, R, ω, rv, ε', S', he, s, k⟩ := hh
  obtain ⟨⟨ro, ε1, S1⟩, e1, he⟩ := bind_ok he
  obtain ⟨x0, e2, he⟩ := bind_ok he
  obtain ⟨⟨ds, ε2, S2⟩, e3, he⟩ := bind_ok he
  obtain ⟨xs, e4, he⟩ := bind_ok he
  obtain ⟨⟨ys, d⟩, e5, he⟩ := bind_ok he
  cases he
  cases e3
  refine ⟨ε, S, R, ω, ro, ε1, S1, e1, s, fun v1 R1 ω1 H1 x1 s1 p1 => ?_⟩
  obtain ⟨a, vs, rfl, h2, rx, mk⟩ := mut_at s1 p1 e4
  refine ⟨.inl ⟨hT, vs, SqL.of h2⟩, ?_⟩
  refine ok xs [] ys d a vs [] R1 H1 Q e5 h2 rx rfl fun us u ru rd => ?_
  obtain ⟨s3, x3⟩ := mk ys us ru
  exact k u R1 ω1 _ (x1.trans x3) s3 rd
theorem ev_append (ho : PE X o (tOf (kx X cl) Eo)) (ha : PA X [e] (aOf (kx X cl) As)) (h : PE X c (tBM X.K "list" rAppend (tOf (kx X cl) Eo) (aOf (kx X cl) As))) : PE X c (tOf (kx X cl) (eMut fAppend Eo As)) := PE.im h (mut_im mok_append rfl)
theorem ev_mut {r : V → List V → Hp → VK → Prop} {f : List D → List D → Rs (List D × D)} (ok : MutOk (kx X cl) f r) (h : PE X c (tBM X.K "list" r (tOf (kx X cl) Eo) (aOf (kx X cl) As))) : PE X c (tOf (kx X cl) (eMut f Eo As)) := PE.im h (mut_im ok rfl)
theorem ev_mut0 {r : V → List V → Hp → VK → Prop} {f : List D → List D → Rs (List D × D)} (ok : MutOk (kx X cl) f r) (h : PE X c (tBM0 X.K "list" r (tOf (kx X cl) Eo))) : PE X c (tOf (kx X cl) (eMut f Eo aNil)) := PE.im h (mut_im0 ok rfl)
/-- x[i] = value -/
theorem sv_put {st : Stmt} (h : PS X st (tAsg (tOf (kx X cl) Ea) (gSub (tOf (kx X cl) Eo) (tOf (kx X cl) Ei) rSetL))) : PS X st (sOf (kx X cl) (sPut Eo Ei Ea)) := by
  refine PS.im h fun D σ H hh => ?_
  obtain ⟨ε, S, R, ω, oo, he, s, k⟩ := hh
  obtain ⟨⟨r, ε1, S1⟩, e1, he⟩ := bind_ok he
  obtain ⟨⟨d, ε2⟩, e2, he⟩ := bind_ok he
  obtain ⟨⟨ro, ε3, S2⟩, e3, he⟩ := bind_ok he
  obtain ⟨⟨ri, ε4, S3⟩, e4, he⟩ := bind_ok he
  obtain ⟨y, e5, he⟩ := bind_ok he
  match y, he, e5 with
  | .int i, he, e5 =>
    obtain ⟨xs, e6, he⟩ := bind_ok he
    split at he
    · rename_i j hj
      cases he
      refine ⟨ε, S, R, ω, r, ε1, S1, e1, s, fun v1 R1 ω1 H1 x1 s1 p1 => ?_⟩
      obtain ⟨R2, ω2, x2, s2, p2⟩ := p1.fix s1 x1 e2
      refine ⟨ε2, S1, R2, ω2, ro, ε3, S2, e3, s2, fun v3 R3 ω3 H3 x3 s3 p3 => ⟨ε3, S2, R3, ω3, ri, ε4, S3, e4, s3, fun v4 R4 ω4 H4 x4 s4 p4 => ?_⟩⟩
      obtain ⟨a, vs, rfl, h4, rx, mk⟩ := mut_at s4 (p3.keep x4) e6
      have hi := (p4.vr s4 e5).int
      refine ⟨a, vs, i, j, rfl, hi, h4, by rw [rx.length]; exact hj, ?_⟩
      obtain ⟨s5, x5⟩ := mk _ _ (rx.set j (Rep.mono (x3.le.trans x4.le) d v1 p2))
      exact k σ R4 ω4 _ (((x2.trans x3).trans x4).trans x5) s5
    · cases he
theorem RVR.shift {K : Kc} {R : Rc} {ω ω2 ω0 : Om} {H H0 : Hp} {σ σ2 : L2.St} {t t' : Sl} {u v : V} (h : RVR K ω0 H0 R ω H σ t.rv v)
    (f : ∀ j b, ω2 j = some b → ω j = some b ∨ (u = .ref b ∧ ∃ d, t' = .own d)) (ne : ∀ d d', t = .own d → t' = .own d' → u ≠ v) : RVR K ω0 H0 R ω2 H σ2 t.rv v := by
  cases t with
  | pl d => exact h
  | own d =>
    obtain ⟨a, o, rfl, ho, c, z, n, m, w⟩ := h
    exact ⟨a, o, rfl, ho, c, z, n, fun j q => (f j a q).elim (m j) fun ⟨e, d', e'⟩ => ne d d' rfl e' e, w⟩
theorem fresh_ne {K : Kc} {R R' : Rc} {ω ω' ω0 : Om} {H H' H0 : Hp} {σ σ' : L2.St} {t t' : Sl} {u v : V} (h : RVR K ω0 H0 R ω H σ t.rv u) (h' : RVR K ω H R' ω' H' σ' t'.rv v) (d' d : D) (e' : t' = .own d') (e : t = .own d) : u ≠ v := by
  subst e e'
  obtain ⟨a, o, rfl, ho, c, z, n, m, w⟩ := h
  obtain ⟨a', o', rfl, ho', c', z', n', m', w'⟩ := h'
  intro q
  cases q
  rcases w' with w' | ⟨i, w'⟩
  · rw [ho] at w'; cases w'
  · exact m i w'
theorem sv_par2 {st : Stmt} {i j : Nat} {o1 o2 : Bool} (h : PS X st (tPar i j (tCons (tOf (kx X cl) Ea) (tCons (tOf (kx X cl) Eb) tNil)))) : PS X st (sOf (kx X cl) (sPar2 o1 i o2 j Ea Eb)) := by
  refine PS.im h fun D σ H hh => ?_
  obtain ⟨ε, S, R, ω, oo, he, s, k⟩ := hh
  obtain ⟨⟨r1, ε1, S1⟩, e1, he⟩ := bind_ok he
  obtain ⟨⟨t1, ε2⟩, e2, he⟩ := bind_ok he
  obtain ⟨⟨r2, ε3, S2⟩, e3, he⟩ := bind_ok he
  obtain ⟨⟨t2, ε4⟩, e4, he⟩ := bind_ok he
  dsimp only at he
  split at he
  case isFalse => cases he
  rename_i hl
  cases he
  refine ⟨ε, S, R, ω, r1, ε1, S1, e1, s, fun v1 R1 ω1 H1 x1 s1 p1 => ?_⟩
  obtain ⟨R2, ω2, x2, s2, p2⟩ := p1.low s1 x1 e2
  refine ⟨ε2, S1, R2, ω2, r2, ε3, S2, e3, s2, fun v3 R3 ω3 H3 x3 s3 p3 => ?_⟩
  obtain ⟨R4, ω4, x4, s4, p4⟩ := p3.low s3 x3 e4
  refine ⟨v1, v3, rfl, ?_⟩
  have n1 := fresh_ne p2 p4
  obtain ⟨ω5, s5, x5, f5⟩ := s4.take (i := i) (x2.trans x4) (p2.keep x4) hl.1
  have p5 : RVR (kx X cl) ω H R4 ω5 H3 (σ.set i (some v1)) t2.rv v3 := (p4.start x2).shift f5 n1
  obtain ⟨ω6, s6, x6, _⟩ := s5.take (i := j) x5 p5 (by rw [List.length_set]; exact hl.2)
  exact k _ R4 ω6 H3 x6 s6
theorem sv_par3 {st : Stmt} {i j l : Nat} {o1 o2 o3 : Bool} (h : PS X st (tPar3 i j l (tCons (tOf (kx X cl) Ea) (tCons (tOf (kx X cl) Eb) (tCons (tOf (kx X cl) Ec) tNil))))) : PS X st (sOf (kx X cl) (sPar3 o1 i o2 j o3 l Ea Eb Ec)) := by
  refine PS.im h fun D σ H hh => ?_
  obtain ⟨ε, S, R, ω, oo, he, s, k⟩ := hh
  obtain ⟨⟨r1, ε1, S1⟩, e1, he⟩ := bind_ok he
  obtain ⟨⟨t1, ε2⟩, e2, he⟩ := bind_ok he
  obtain ⟨⟨r2, ε3, S2⟩, e3, he⟩ := bind_ok he
  obtain ⟨⟨t2, ε4⟩, e4, he⟩ := bind_ok he
  obtain ⟨⟨r3, ε5, S3⟩, e5, he⟩ := bind_ok he
  obtain ⟨⟨t3, ε6⟩, e6, he⟩ := bind_ok he
  dsimp only at he
  split at he
  case isFalse => cases he
  rename_i hl
  cases he
  refine ⟨ε, S, R, ω, r1, ε1, S1, e1, s, fun v1 R1 ω1 H1 x1 s1 p1 => ?_⟩
  obtain ⟨R2, ω2, x2, s2, p2⟩ := p1.low s1 x1 e2
  refine ⟨ε2, S1, R2, ω2, r2, ε3, S2, e3, s2, fun v3 R3 ω3 H3 x3 s3 p3 => ?_⟩
  obtain ⟨R4, ω4, x4, s4, p4⟩ := p3.low s3 x3 e4
  refine ⟨ε4, S2, R4, ω4, r3, ε5, S3, e5, s4, fun v5 R5 ω5 H5 x5 s5 p5 => ?_⟩
  obtain ⟨R6, ω6, x6, s6, p6⟩ := p5.low s5 x5 e6
  refine ⟨v1, v3, v5, rfl, ?_⟩
  have n1 := fresh_ne p2 p4
  have n2 := fresh_ne p4 p6
  have n3 := fresh_ne (p2.keep x4) p6
  have xx := (x2.trans x4).trans x6
  obtain ⟨ω7, s7, x7, f7⟩ := s6.take (i := i) xx ((p2.keep x4).keep x6) hl.1
  have p7 : RVR (kx X cl) ω H R6 ω7 H5 (σ.set i (some v1)) t2.rv v3 := ((p4.keep x6).start x2).shift f7 n1
  have p8 : RVR (kx X cl) ω H R6 ω7 H5 (σ.set i (some v1)) t3.rv v5 := (p6.start (x2.trans x4)).shift f7 n3
  obtain ⟨ω8, s8, x8, f8⟩ := s7.take (i := j) x7 p7 (by rw [List.length_set]; exact hl.2.1)
  have p9 : RVR (kx X cl) ω H R6 ω8 H5 ((σ.set i (some v1)).set j (some v3)) t3.rv v5 := p8.shift f8 n2
  obtain ⟨ω9, s9, x9, _⟩ := s8.take (i := l) x8 p9 (by rw [List.length_set, List.length_set]; exact hl.2.2)
  exact k _ R6 ω9 H5 x9 s9
end
end Mp

namespace Mp
open PySem PySem.Spec PyProof.Rows L2

theorem bt_len : bootBuiltins "len" = some (.builtin "len") := by decide +kernel
theorem bt_abs : bootBuiltins "abs" = some (.builtin "abs") := by decide +kernel
theorem bt_int : bootBuiltins "int" = some (.type "int") := by decide +kernel
theorem bt_str : bootBuiltins "str" = some (.type "str") := by decide +kernel
theorem bt_bool : bootBuiltins "bool" = some (.type "bool") := by decide +kernel
theorem bt_tuple : bootBuiltins "tuple" = some (.type "tuple") := by decide +kernel
theorem bt_list : bootBuiltins "list" = some (.type "list") := by decide +kernel
theorem bt_dict : bootBuiltins "dict" = some (.type "dict") := by decide +kernel
theorem bt_max : bootBuiltins "max" = some (.builtin "max") := by decide +kernel
theorem bt_min : bootBuiltins "min" = some (.builtin "min") := by decide +kernel
theorem bt_sum : bootBuiltins "sum" = some (.builtin "sum") := by decide +kernel
theorem bt_all : bootBuiltins "all" = some (.builtin "all") := by decide +kernel
theorem bt_any : bootBuiltins "any" = some (.builtin "any") := by decide +kernel
theorem bt_sorted : bootBuiltins "sorted" = some (.builtin "sorted") := by decide +kernel
theorem bt_isinstance : bootBuiltins "isinstance" = some (.builtin "isinstance") := by decide +kernel

def sNo : SDen := fun _ _ => .no
section
variable {X : Cx} {cl : Nat → Addr} {e a b c : Expr} {Ea Eb Ec : Den} {pos p : Pos}
theorem g_var {i : Nat} {x : Str} (hN : X.N[i]? = some x) (hv : Vis X.env.scope x) (hd : (x == ("__debug__" : Str)) = false := by decide) (hcd : (x == ("__classdict__" : Str)) = false := by decide) : PE X (.Name x pos) (tOf (kx X cl) (eVar i)) := ev_var (pe_var hN hv hd hcd)
theorem g_cint {x : Str} {i : Int} (h : ∃ t, X.mg x = some (.int i t)) (hg : Gl X x) (hd : (x == ("__debug__" : Str)) = false := by decide) : PE X (.Name x pos) (tOf (kx X cl) (eC (.int i))) := by
  obtain ⟨t, h⟩ := h
  exact ev_c (v := .int i) (pe_glob hg h ⟨t, rfl⟩ hd) fun _ => rfl
theorem g_cstr {x : Str} {s : List Nat} (h : ∃ t, X.mg x = some (.str ⟨s.toArray⟩ t)) (hg : Gl X x) (hd : (x == ("__debug__" : Str)) = false := by decide) : PE X (.Name x pos) (tOf (kx X cl) (eC (.str s))) := by
  obtain ⟨t, h⟩ := h
  exact ev_c (v := .str ⟨s.toArray⟩) (pe_glob hg h ⟨t, rfl⟩ hd) fun _ => rfl
theorem g_add (ha : PE X a (tOf (kx X cl) Ea)) (hb : PE X b (tOf (kx X cl) Eb)) : PE X (.BinOp a .Add b pos) (tOf (kx X cl) (eBin pAdd Ea Eb)) := ev_bin (pe_op or_add ha hb) ok_add
theorem g_sub (ha : PE X a (tOf (kx X cl) Ea)) (hb : PE X b (tOf (kx X cl) Eb)) : PE X (.BinOp a .Sub b pos) (tOf (kx X cl) (eBin pSub Ea Eb)) := ev_bin (pe_op op_sub ha hb) ok_sub
theorem g_mul (ha : PE X a (tOf (kx X cl) Ea)) (hb : PE X b (tOf (kx X cl) Eb)) : PE X (.BinOp a .Mult b pos) (tOf (kx X cl) (eBin pMul Ea Eb)) := ev_bin (pe_op or_mul ha hb) ok_mul
theorem g_fdiv (ha : PE X a (tOf (kx X cl) Ea)) (hb : PE X b (tOf (kx X cl) Eb)) : PE X (.BinOp a .FloorDiv b pos) (tOf (kx X cl) (eBin pFdiv Ea Eb)) := ev_bin (pe_op op_fdivW ha hb) ok_fdiv
theorem g_mod (ha : PE X a (tOf (kx X cl) Ea)) (hb : PE X b (tOf (kx X cl) Eb)) : PE X (.BinOp a .Mod b pos) (tOf (kx X cl) (eBin pMod Ea Eb)) := ev_bin (pe_op op_mod ha hb) ok_mod
theorem g_pow (ha : PE X a (tOf (kx X cl) Ea)) (hb : PE X b (tOf (kx X cl) Eb)) : PE X (.BinOp a .Pow b pos) (tOf (kx X cl) (eBin pPow Ea Eb)) := ev_bin (pe_op op_pow ha hb) ok_pow
theorem g_shl (ha : PE X a (tOf (kx X cl) Ea)) (hb : PE X b (tOf (kx X cl) Eb)) : PE X (.BinOp a .LShift b pos) (tOf (kx X cl) (eBin pShl Ea Eb)) := ev_bin (pe_op op_shl ha hb) ok_shl
theorem g_shr (ha : PE X a (tOf (kx X cl) Ea)) (hb : PE X b (tOf (kx X cl) Eb)) : PE X (.BinOp a .RShift b pos) (tOf (kx X cl) (eBin pShr Ea Eb)) := ev_bin (pe_op op_shr ha hb) ok_shr
theorem g_band (ha : PE X a (tOf (kx X cl) Ea)) (hb : PE X b (tOf (kx X cl) Eb)) : PE X (.BinOp a .BitAnd b pos) (tOf (kx X cl) (eBin pAnd Ea Eb)) := ev_bin (pe_op op_and ha hb) ok_and
theorem g_bor (ha : PE X a (tOf (kx X cl) Ea)) (hb : PE X b (tOf (kx X cl) Eb)) : PE X (.BinOp a .BitOr b pos) (tOf (kx X cl) (eBin pOr Ea Eb)) := ev_bin (pe_op op_or ha hb) ok_or
theorem g_bxor (ha : PE X a (tOf (kx X cl) Ea)) (hb : PE X b (tOf (kx X cl) Eb)) : PE X (.BinOp a .BitXor b pos) (tOf (kx X cl) (eBin pXor Ea Eb)) := ev_bin (pe_op op_xor ha hb) ok_xor
theorem g_neg (ha : PE X a (tOf (kx X cl) Ea)) : PE X (.UnaryOp .USub a pos) (tOf (kx X cl) (eUn pNeg Ea)) := ev_un (pe_un un_neg ha) ok_neg
theorem g_inv (ha : PE X a (tOf (kx X cl) Ea)) : PE X (.UnaryOp .Invert a pos) (tOf (kx X cl) (eUn pInv Ea)) := ev_un (pe_un un_inv ha) ok_inv
theorem g_cmp {op : CmpOp} {r : R2} {f : D → D → Store → Rs RV} (ho : OpR X (compareOp op) r) (ok : OpOk (kx X cl) f r) (ha : PE X a (tOf (kx X cl) Ea)) (hb : PE X b (tOf (kx X cl) Eb)) (hm : behindInMarks op b = false) : PE X (.Compare a [op] [b] pos) (tOf (kx X cl) (eBin f Ea Eb)) := ev_bin (pe_cmpR ho ha hb hm) ok
theorem bin_im {f : D → D → Store → Rs RV} {r : R2} (ok : OpOk (kx X cl) f r) (σ : L2.St) (H : Hp) (Q : VK) (hh : tOf (kx X cl) (eBin f Ea Eb) σ H Q) : tOp r (tOf (kx X cl) Ea) (tOf (kx X cl) Eb) σ H Q := by
  obtain ⟨ε, S, R, ω, rv, ε', S', he, s, k⟩ := hh
  obtain ⟨⟨r1, ε1, S1⟩, e1, he⟩ := bind_ok he
  obtain ⟨⟨r2, ε2, S2⟩, e2, he⟩ := bind_ok he
  obtain ⟨x, ex, he⟩ := bind_ok he
  obtain ⟨y, ey, he⟩ := bind_ok he
  obtain ⟨rr, er, he⟩ := bind_ok he
  cases he
  refine ⟨ε, S, R, ω, r1, ε1, S1, e1, s, fun v1 R1 ω1 H1 x1 s1 p1 => ⟨ε1, S1, R1, ω1, r2, ε', S', e2, s1, fun v2 R2 ω2 H2 x2 s2 p2 => ?_⟩⟩
  have q1 := p1.keep x2
  refine ok x y S' rv v1 v2 R2 H2 Q er s2.g (q1.vr s2 ex) (p2.vr s2 ey) fun v' R' H' g n => ?_
  exact k v' R' ω2 H' ((x1.trans x2).trans (g.ex ω2)) (g.sr s2) (n.rvr s2 (x1.trans x2) g)
theorem c_cmp {op : CmpOp} {r : R2} {f : D → D → Store → Rs RV} (ho : OpR X (compareOp op) r) (ok : OpOk (kx X cl) f r) (ha : PE X a (tOf (kx X cl) Ea)) (hb : PE X b (tOf (kx X cl) Eb)) (hm : behindInMarks op b = false) : PT X (.Compare a [op] [b] pos) (cOf (kx X cl) (cVal (eBin f Ea Eb))) :=
  ev_val (PT.im (pt_cmpR ho ha hb hm) fun σ H Q hh => bin_im ok σ H _ hh)
theorem chain_im {f g : D → D → Store → Rs RV} {r r' : R2} (o1 : OpOk (kx X cl) f r) (o2 : OpOk (kx X cl) g r') (σ : L2.St) (H : Hp) (Q : VK) (hh : tOf (kx X cl) (eChain f g Ea Eb Ec) σ H Q) : tChain r r' (tOf (kx X cl) Ea) (tOf (kx X cl) Eb) (tOf (kx X cl) Ec) σ H Q := by
  obtain ⟨ε, S, R, ω, rv, ε', S', he, s, k⟩ := hh
  obtain ⟨⟨r1, ε1, S1⟩, e1, he⟩ := bind_ok he
  obtain ⟨⟨r2, ε2, S2⟩, e2, he⟩ := bind_ok he
  obtain ⟨x, ex, he⟩ := bind_ok he
  obtain ⟨y, ey, he⟩ := bind_ok he
  obtain ⟨rr, er, he⟩ := bind_ok he
  refine ⟨ε, S, R, ω, r1, ε1, S1, e1, s, fun v1 R1 ω1 H1 x1 s1 p1 => ⟨ε1, S1, R1, ω1, r2, ε2, S2, e2, s1, fun v2 R2 ω2 H2 x2 s2 p2 => ?_⟩⟩
  refine o1 x y S2 rr v1 v2 R2 H2 _ er s2.g ((p1.keep x2).vr s2 ex) (p2.vr s2 ey) fun v' R' H' g n => ?_
  split at he
  · have n' : v' = .bl true := n
    refine ⟨true, n', ?_⟩
    rw [if_pos rfl]
    obtain ⟨⟨r3, ε3, S3⟩, e3, he⟩ := bind_ok he
    obtain ⟨y', ey', he⟩ := bind_ok he
    obtain ⟨z, ez, he⟩ := bind_ok he
    obtain ⟨rr', er', he⟩ := bind_ok he
    cases he
    refine ⟨ε2, S2, R', ω2, r3, ε', S', e3, g.sr s2, fun v3 R3 ω3 H3 x3 s3 p3 => ?_⟩
    have xg := (g.ex ω2).trans x3
    refine o2 y' z S' rv v2 v3 R3 H3 Q er' s3.g ((p2.keep xg).vr s3 ey') (p3.vr s3 ez) fun v'' R'' H'' g' n' => ?_
    have xx := ((x1.trans x2).trans xg)
    exact k v'' R'' ω3 H'' (xx.trans (g'.ex ω3)) (g'.sr s3) (n'.rvr s3 xx g')
  · have n' : v' = .bl false := n
    cases he
    refine ⟨false, n', ?_⟩
    rw [if_neg Bool.false_ne_true]
    have xx := ((x1.trans x2).trans (g.ex ω2))
    exact k (.bl false) R' ω2 H' xx (g.sr s2) rfl
  · cases he
theorem g_chain {op op' : CmpOp} {r r' : R2} {f g : D → D → Store → Rs RV} (ho : OpR X (compareOp op) r) (o1 : OpOk (kx X cl) f r) (ho' : OpR X (compareOp op') r') (o2 : OpOk (kx X cl) g r') (ha : PE X a (tOf (kx X cl) Ea)) (hb : PE X b (tOf (kx X cl) Eb)) (hc : PE X c (tOf (kx X cl) Ec))
    (hm : lastMarks [op, op'] [b, c] = false := by with_unfolding_all rfl) : PE X (.Compare a [op, op'] [b, c] pos) (tOf (kx X cl) (eChain f g Ea Eb Ec)) := PE.im (pe_chain ho ho' ha hb hc hm) (chain_im o1 o2)
theorem c_chain {op op' : CmpOp} {r r' : R2} {f g : D → D → Store → Rs RV} (ho : OpR X (compareOp op) r) (o1 : OpOk (kx X cl) f r) (ho' : OpR X (compareOp op') r') (o2 : OpOk (kx X cl) g r') (ha : PE X a (tOf (kx X cl) Ea)) (hb : PE X b (tOf (kx X cl) Eb)) (hc : PE X c (tOf (kx X cl) Ec))
    (hm : lastMarks [op, op'] [b, c] = false := by with_unfolding_all rfl) : PT X (.Compare a [op, op'] [b, c] pos) (cOf (kx X cl) (cVal (eChain f g Ea Eb Ec))) := ev_val (PT.im (pt_chain ho ho' ha hb hc hm) fun σ H Q hh => chain_im o1 o2 σ H _ hh)
theorem c_val (h : PE X e (tOf (kx X cl) Ea)) (he : ∀ whole, isTrue e X.env whole = (do let v ← whole; standAt e.pos; holding [v] (truthy v)) := by intro _; rfl) : PT X e (cOf (kx X cl) (cVal Ea)) := ev_val (pt_val h he)
theorem g_idx (ha : PE X a (tOf (kx X cl) Ea)) (hb : PE X b (tOf (kx X cl) Eb)) (hs : PlainIx b := by intro _ _; rfl) : PE X (.Subscript a b pos) (tOf (kx X cl) (eBin pIdx Ea Eb)) := ev_bin (pe_ix ix_seq ha hb hs) ok_idx
theorem pa1 (h : PE X e (tOf (kx X cl) Ea)) (hs : starEach [e] X.env = (false, eval e X.env) :: starEach [] X.env := by rfl) : PA X [e] (tCons (tOf (kx X cl) Ea) tNil) := pa_cons h pa_nil hs
theorem pa2 (h : PE X a (tOf (kx X cl) Ea)) (h' : PE X b (tOf (kx X cl) Eb)) (hs : starEach [a, b] X.env = (false, eval a X.env) :: starEach [b] X.env := by rfl) (hs' : starEach [b] X.env = (false, eval b X.env) :: starEach [] X.env := by rfl) : PA X [a, b] (tCons (tOf (kx X cl) Ea) (tCons (tOf (kx X cl) Eb) tNil)) := pa_cons h (pa_cons h' pa_nil hs') hs

variable {x : Str} {id T : String} {f1 : D → Store → Rs RV} {f2 : D → D → Store → Rs RV} {r : List V → Hp → VK → Prop}
theorem g_b1 (hc : CallR X (.builtin id) r) (ok : UnOk (kx X cl) f1 (fun v H Q => r [v] H Q)) (hv : bootBuiltins x = some (.builtin id)) (hg : Gl X x) (hm : X.mg x = none) (ha : PE X a (tOf (kx X cl) Ea)) (hn : x ≠ "__name__" := by decide) (hdb : (x == ("__debug__" : Str)) = false := by decide)
    (he : starEach [a] X.env = (false, eval a X.env) :: starEach [] X.env := by rfl) : PE X (.Call (.Name x p) [a] [] pos) (tOf (kx X cl) (eUn f1 Ea)) := ev_b1 (pe_callB hc hg hm hv (pa1 ha he) hn hdb he) ok
theorem g_b2 (hc : CallR X (.builtin id) r) (ok : OpOk (kx X cl) f2 (fun v w H Q => r [v, w] H Q)) (hv : bootBuiltins x = some (.builtin id)) (hg : Gl X x) (hm : X.mg x = none) (ha : PE X a (tOf (kx X cl) Ea)) (hb : PE X b (tOf (kx X cl) Eb)) (hn : x ≠ "__name__" := by decide) (hdb : (x == ("__debug__" : Str)) = false := by decide)
    (he : starEach [a, b] X.env = (false, eval a X.env) :: starEach [b] X.env := by rfl) (he' : starEach [b] X.env = (false, eval b X.env) :: starEach [] X.env := by rfl) (hpl : (backTo pos (starEach [b] X.env)).any (·.1) = false := by rfl) : PE X (.Call (.Name x p) [a, b] [] pos) (tOf (kx X cl) (eBin f2 Ea Eb)) := ev_b2 (pe_callB hc hg hm hv (pa2 ha hb he he') hn hdb he hpl) ok
theorem g_t1 (hc : CallR X (.type T) r) (ok : UnOk (kx X cl) f1 (fun v H Q => r [v] H Q)) (hv : bootBuiltins x = some (.type T)) (hg : Gl X x) (hm : X.mg x = none) (ha : PE X a (tOf (kx X cl) Ea)) (hn : x ≠ "__name__" := by decide) (hdb : (x == ("__debug__" : Str)) = false := by decide)
    (he : starEach [a] X.env = (false, eval a X.env) :: starEach [] X.env := by rfl) : PE X (.Call (.Name x p) [a] [] pos) (tOf (kx X cl) (eUn f1 Ea)) := ev_b1 (pe_callTy hc hg hm hv (pa1 ha he) hn hdb he) ok
theorem g_isT {y : Str} {p2 : Pos} (hg : Gl X "isinstance") (hm : X.mg "isinstance" = none) (hg2 : Gl X y) (hm2 : X.mg y = none) (hv : bootBuiltins y = some (.type T)) (ha : PE X a (tOf (kx X cl) Ea)) (hn : y ≠ "__name__" := by decide) (hdb : (y == ("__debug__" : Str)) = false := by decide)
    (he : starEach [a, .Name y p2] X.env = (false, eval a X.env) :: starEach [.Name y p2] X.env := by rfl) (he' : starEach [.Name y p2] X.env = (false, eval (.Name y p2) X.env) :: starEach [] X.env := by rfl) (hpl : (backTo pos (starEach [.Name y p2] X.env)).any (·.1) = false := by rfl) :
    PE X (.Call (.Name "isinstance" p) [a, .Name y p2] [] pos) (tOf (kx X cl) (eUn (pIsT T) Ea)) :=
  ev_isT (pe_callB call_isi hg hm bt_isinstance (pa_cons ha (pa_cons (pe_bltn (v := .ty T) hg2 hm2 hv rfl hn hdb) pa_nil he') he) (by decide) (by decide) he hpl)
def rgOk (a b : Int) : Bool := decide (-(2 ^ 62) ≤ a) && decide (a < 2 ^ 62) && decide (-(2 ^ 62) ≤ b) && decide (b < 2 ^ 62) && decide ((b - a).toNat ≤ 2 ^ 24)
theorem rgOk_ok {a b : Int} (h : rgOk a b = true) : RgOk a b := by
  unfold rgOk at h
  simp only [Bool.and_eq_true, decide_eq_true_eq] at h
  exact ⟨h.1.1.1.1, h.1.1.1.2, h.1.1.2, h.1.2, h.2⟩
def rgD (a b : Int) : List D := intsFrom a (b - a).toNat
theorem rg_reps {K : Kc} {R : Rc} (a b : Int) : Reps K R (rgD a b) (rgV a b) := by
  have h : rgD a b = ((List.range (b - a).toNat).map fun (i : Nat) => a + (i : Int)).map D.int := by simp [rgD, intsFrom]
  have h' : rgV a b = ((List.range (b - a).toNat).map fun (i : Nat) => a + (i : Int)).map V.int := by simp [rgV]
  rw [h, h']
  exact Reps.of_ints _
def pLRg1 (x : D) (_ : Store) : Rs RV := match x with
  | .int n => if rgOk 0 n then .ok (.fr (.lst (rgD 0 n))) else .no
  | _ => .no
def pTRg1 (x : D) (_ : Store) : Rs RV := match x with
  | .int n => if rgOk 0 n then .ok (.pl (.tup (rgD 0 n))) else .no
  | _ => .no
def pLRg2 (x y : D) (_ : Store) : Rs RV := match x, y with
  | .int m, .int n => if rgOk m n then .ok (.fr (.lst (rgD m n))) else .no
  | _, _ => .no
def pTRg2 (x y : D) (_ : Store) : Rs RV := match x, y with
  | .int m, .int n => if rgOk m n then .ok (.pl (.tup (rgD m n))) else .no
  | _, _ => .no
theorem un_im {f : D → Store → Rs RV} {r : V → Hp → VK → Prop} (ok : UnOk (kx X cl) f r) (σ : L2.St) (H : Hp) (Q : VK) (hh : tOf (kx X cl) (eUn f Ea) σ H Q) : tUn r (tOf (kx X cl) Ea) σ H Q := by
  obtain ⟨ε, S, R, ω, rv, ε', S', he, s, k⟩ := hh
  obtain ⟨⟨r1, ε1, S1⟩, e1, he⟩ := bind_ok he
  obtain ⟨x, ex, he⟩ := bind_ok he
  obtain ⟨rr, er, he⟩ := bind_ok he
  cases he
  refine ⟨ε, S, R, ω, r1, ε', S', e1, s, fun v1 R1 ω1 H1 x1 s1 p1 => ?_⟩
  refine ok x S' rv v1 R1 H1 Q er s1.g (p1.vr s1 ex) fun v' R' H' g n => ?_
  exact k v' R' ω1 H' (x1.trans (g.ex ω1)) (g.sr s1) (n.rvr s1 x1 g)
theorem ok_lrg1 : UnOk (kx X cl) pLRg1 (fun x H Q => ∃ n, x = .int n ∧ (RgOk 0 n ∧ ∀ q, H q = none → Q (.ref q) (upd H q (.lst (rgV 0 n))))) := by
  intro x S rv v R H Q e g rx k
  unfold pLRg1 at e
  split at e
  · split at e
    · rename_i h
      cases e
      exact ⟨_, rx.int, rgOk_ok h, res_lst g k (rg_reps _ _)⟩
    · cases e
  · cases e
theorem ok_trg1 : UnOk (kx X cl) pTRg1 (fun x H Q => ∃ n, x = .int n ∧ (RgOk 0 n ∧ ∀ q, H q = none → Q (.ref q) (upd H q (.tup (rgV 0 n))))) := by
  intro x S rv v R H Q e g rx k
  unfold pTRg1 at e
  split at e
  · split at e
    · rename_i h
      cases e
      exact ⟨_, rx.int, rgOk_ok h, res_tup g k (rg_reps _ _)⟩
    · cases e
  · cases e
theorem ok_lrg2 : OpOk (kx X cl) pLRg2 (fun x y H Q => ∃ m n, x = .int m ∧ y = .int n ∧ (RgOk m n ∧ ∀ q, H q = none → Q (.ref q) (upd H q (.lst (rgV m n))))) := by
  intro x y S rv v w R H Q e g rx ry k
  unfold pLRg2 at e
  split at e
  · split at e
    · rename_i h
      cases e
      exact ⟨_, _, rx.int, ry.int, rgOk_ok h, res_lst g k (rg_reps _ _)⟩
    · cases e
  · cases e
theorem ok_trg2 : OpOk (kx X cl) pTRg2 (fun x y H Q => ∃ m n, x = .int m ∧ y = .int n ∧ (RgOk m n ∧ ∀ q, H q = none → Q (.ref q) (upd H q (.tup (rgV m n))))) := by
  intro x y S rv v w R H Q e g rx ry k
  unfold pTRg2 at e
  split at e
  · split at e
    · rename_i h
      cases e
      exact ⟨_, _, rx.int, ry.int, rgOk_ok h, res_tup g k (rg_reps _ _)⟩
    · cases e
  · cases e
variable {p2 pos2 : Pos}
theorem g_lrg1 (hc : X.calm = true) (hg : Gl X "list") (hm : X.mg "list" = none) (hg2 : Gl X "range") (hm2 : X.mg "range" = none) (ha : PE X a (tOf (kx X cl) Ea)) (na : starEach [a] X.env = (false, eval a X.env) :: starEach [] X.env := by rfl)
    (nb : starEach [.Call (.Name "range" p2) [a] [] pos2] X.env = (false, eval (.Call (.Name "range" p2) [a] [] pos2) X.env) :: starEach [] X.env := by rfl) : PE X (.Call (.Name "list" p) [.Call (.Name "range" p2) [a] [] pos2] [] pos) (tOf (kx X cl) (eUn pLRg1 Ea)) :=
  PE.im (pe_listRg hc hg hm (prg_1 hg2 hm2 ha na) nb) fun σ H Q hh => un_im ok_lrg1 σ H Q hh
theorem g_trg1 (hc : X.calm = true) (hg : Gl X "tuple") (hm : X.mg "tuple" = none) (hg2 : Gl X "range") (hm2 : X.mg "range" = none) (ha : PE X a (tOf (kx X cl) Ea)) (na : starEach [a] X.env = (false, eval a X.env) :: starEach [] X.env := by rfl)
    (nb : starEach [.Call (.Name "range" p2) [a] [] pos2] X.env = (false, eval (.Call (.Name "range" p2) [a] [] pos2) X.env) :: starEach [] X.env := by rfl) : PE X (.Call (.Name "tuple" p) [.Call (.Name "range" p2) [a] [] pos2] [] pos) (tOf (kx X cl) (eUn pTRg1 Ea)) :=
  PE.im (pe_tupRg hc hg hm (prg_1 hg2 hm2 ha na) nb) fun σ H Q hh => un_im ok_trg1 σ H Q hh
theorem g_lrg2 (hc : X.calm = true) (hg : Gl X "list") (hm : X.mg "list" = none) (hg2 : Gl X "range") (hm2 : X.mg "range" = none) (ha : PE X a (tOf (kx X cl) Ea)) (hb : PE X b (tOf (kx X cl) Eb)) (na : starEach [a, b] X.env = (false, eval a X.env) :: starEach [b] X.env := by rfl) (nb : starEach [b] X.env = (false, eval b X.env) :: starEach [] X.env := by rfl) (hp : (backTo pos2 (starEach [b] X.env)).any (·.1) = false := by rfl)
    (nc : starEach [.Call (.Name "range" p2) [a, b] [] pos2] X.env = (false, eval (.Call (.Name "range" p2) [a, b] [] pos2) X.env) :: starEach [] X.env := by rfl) : PE X (.Call (.Name "list" p) [.Call (.Name "range" p2) [a, b] [] pos2] [] pos) (tOf (kx X cl) (eBin pLRg2 Ea Eb)) :=
  PE.im (pe_listRg hc hg hm (prg_2 hg2 hm2 ha hb na nb hp) nc) fun σ H Q hh => bin_im ok_lrg2 σ H Q hh
theorem g_trg2 (hc : X.calm = true) (hg : Gl X "tuple") (hm : X.mg "tuple" = none) (hg2 : Gl X "range") (hm2 : X.mg "range" = none) (ha : PE X a (tOf (kx X cl) Ea)) (hb : PE X b (tOf (kx X cl) Eb)) (na : starEach [a, b] X.env = (false, eval a X.env) :: starEach [b] X.env := by rfl) (nb : starEach [b] X.env = (false, eval b X.env) :: starEach [] X.env := by rfl) (hp : (backTo pos2 (starEach [b] X.env)).any (·.1) = false := by rfl)
    (nc : starEach [.Call (.Name "range" p2) [a, b] [] pos2] X.env = (false, eval (.Call (.Name "range" p2) [a, b] [] pos2) X.env) :: starEach [] X.env := by rfl) : PE X (.Call (.Name "tuple" p) [.Call (.Name "range" p2) [a, b] [] pos2] [] pos) (tOf (kx X cl) (eBin pTRg2 Ea Eb)) :=
  PE.im (pe_tupRg hc hg hm (prg_2 hg2 hm2 ha hb na nb hp) nc) fun σ H Q hh => bin_im ok_trg2 σ H Q hh
theorem g_yes : PTs X [] (cOf (kx X cl) cYes) := ⟨fun pins s σ H Q I hh => by
  obtain ⟨ε, S, R, ω, b, ε', S', he, s, k⟩ := hh
  cases he
  exact pts_nil.run pins _ σ H Q I (k R ω H (.refl _ _ _) s)⟩
theorem g_lc {elt tg iter : Expr} {ifs : List Expr} {scope : Scope} {own : List (Str × Nat)} {I : IDen} {T : TDen} {C : CDen} {ts vs : List Nat} (hc : X.calm = true) (hN : X.N.Nodup) (ok : BlkOk X.N X.env.scope scope own) (hi : PI X tg iter (iOf (kx X cl) I))
    (hg : ∀ (s : Shared) (H : Hp) (C : Addr) (cc : List (Str × Addr)) (fp : List Addr), PG (X.blk s H scope (compEnvC scope cc C X.env) fp) tg (gOf (kx X cl) ts T)) (ht : ∀ (s : Shared) (H : Hp) (B : Addr) (cc : List (Str × Addr)) (fp : List Addr), PTs (X.blk s H scope (compEnvC scope cc B X.env) fp) ifs (cOf (kx X cl) C))
    (he : ∀ (s : Shared) (H : Hp) (C : Addr) (cc : List (Str × Addr)) (fp : List Addr), PE (X.blk s H scope (compEnvC scope cc C X.env) fp) elt (tOf (kx X cl) Ea)) (hv : own.map (·.2) = vs := by rfl) (hsub : ∀ i ∈ ts, i ∈ vs := by decide) (hs : ∀ x, foldedSetIterable iter X.env x = pure x := by intro _; rfl) :
    PE X (.ListComp elt [⟨tg, iter, ifs, 0⟩] scope pos) (tOf (kx X cl) (eComp vs I T C Ea)) := by
  subst hv
  exact PE.im (pe_lc hc hN hi ok hg ht he hs) (lc_im hsub)
theorem g_setLc {i : Nat} {y : Str} {py spos : Pos} {elt tg iter : Expr} {ifs : List Expr} {scope : Scope} {own : List (Str × Nat)} {I : IDen} {T : TDen} {C : CDen} {ts vs : List Nat} (hc : X.calm = true) (hN : X.N.Nodup) (ok : BlkOk X.N X.env.scope scope own) (hy : X.N[i]? = some y) (hyl : X.env.scope.names.lookup y = some .local)
    (hsw : swapsWith (.ListComp elt [⟨tg, iter, ifs, 0⟩] scope pos) (some (.Name y py)) spos.line X.env = pure true) (hi : PI X tg iter (iOf (kx X cl) I))
    (hg : ∀ (s : Shared) (H : Hp) (C : Addr) (cc : List (Str × Addr)) (fp : List Addr), PG (X.blk s H scope (compEnvC scope cc C X.env) fp) tg (gOf (kx X cl) ts T)) (ht : ∀ (s : Shared) (H : Hp) (B : Addr) (cc : List (Str × Addr)) (fp : List Addr), PTs (X.blk s H scope (compEnvC scope cc B X.env) fp) ifs (cOf (kx X cl) C))
    (he : ∀ (s : Shared) (H : Hp) (C : Addr) (cc : List (Str × Addr)) (fp : List Addr), PE (X.blk s H scope (compEnvC scope cc C X.env) fp) elt (tOf (kx X cl) Ea)) (hv : own.map (·.2) = vs := by rfl) (hsub : ∀ i ∈ ts, i ∈ vs := by decide) (hs : ∀ x, foldedSetIterable iter X.env x = pure x := by intro _; rfl) :
    PS X (.Assign [.Name y py] (.ListComp elt [⟨tg, iter, ifs, 0⟩] scope pos) spos) (sOf (kx X cl) (sSet i (eComp vs I T C Ea))) ∧ PS X (.Assign [.Name y py] (.ListComp elt [⟨tg, iter, ifs, 0⟩] scope pos) spos) (sOf (kx X cl) (sOwn i (eComp vs I T C Ea))) := by
  subst hv
  exact ⟨PS.im (ps_setLc hc hN hy hyl hsw hi ok hg ht he hs) (set_im (lc_im hsub)), PS.im (ps_setLc hc hN hy hyl hsw hi ok hg ht he hs) (own_im (lc_im hsub))⟩
theorem g_set {i : Nat} {pos' : Pos} (hN : X.N.Nodup) (hi : X.N[i]? = some x) (hx : Loc X.env.scope x) (he : PE X e (tOf (kx X cl) Ea)) (hs : swapsWith e (some (.Name x pos')) pos.line X.env = pure false := by rfl) (hf : X.fn x = true ∨ X.env.scope.names.lookup x = some .local := by exact .inl rfl) : PS X (.Assign [.Name x pos'] e pos) (sOf (kx X cl) (sSet i Ea)) := sv_set (ps_set hN hi hx he hs hf)
theorem g_own {i : Nat} {pos' : Pos} (hN : X.N.Nodup) (hi : X.N[i]? = some x) (hx : Loc X.env.scope x) (he : PE X e (tOf (kx X cl) Ea)) (hs : swapsWith e (some (.Name x pos')) pos.line X.env = pure false := by rfl) (hf : X.fn x = true ∨ X.env.scope.names.lookup x = some .local := by exact .inl rfl) : PS X (.Assign [.Name x pos'] e pos) (sOf (kx X cl) (sOwn i Ea)) := sv_own (ps_set hN hi hx he hs hf)
theorem g_asg {tg : Expr} {T : TDen} {ts : List Nat} (he : PE X e (tOf (kx X cl) Ea)) (hg : PG X tg (gOf (kx X cl) ts T)) (hs : swapsWithSole [tg] e pos.line X.env = pure false := by rfl) (hw : swappedStores [tg] e X.env = pure none := by rfl) (h1 : (assignEach [tg] X.env).map (·.2) = [assign tg X.env] := by rfl) : PS X (.Assign [tg] e pos) (sOf (kx X cl) (sAsg T Ea)) := sv_asg (ps_asg he hg hs hw h1)
theorem g_put {o i : Expr} {Eo Ei : Den} {tp : Pos} (he : PE X e (tOf (kx X cl) Ea)) (ho : PE X o (tOf (kx X cl) Eo)) (hi : PE X i (tOf (kx X cl) Ei)) (ha : ∀ v, assign (.Subscript o i tp) X.env v = (do
      let ov ← holding [v] (eval o X.env)
      let iv ← holding [v, ov] (eval i X.env)
      standAt tp
      holding [v, ov, iv] (setItem ov iv v)
      release [v, ov, iv] []) := by intro _; rfl) (hs : swapsWithSole [.Subscript o i tp] e pos.line X.env = pure false := by rfl) (hw : swappedStores [.Subscript o i tp] e X.env = pure none := by rfl) (h1 : (assignEach [.Subscript o i tp] X.env).map (·.2) = [assign (.Subscript o i tp) X.env] := by rfl) : PS X (.Assign [.Subscript o i tp] e pos) (sOf (kx X cl) (sPut Eo Ei Ea)) := sv_put (ps_asg he (pg_sub ho hi set_list ha) hs hw h1)
theorem g_name {i : Nat} (hN : X.N.Nodup) (hi : X.N[i]? = some x) (hx : Loc X.env.scope x) (hf : X.fn x = true ∨ X.env.scope.names.lookup x = some .local := by first | exact .inl rfl | exact .inr rfl) : PG X (.Name x pos) (gOf (kx X cl) [i] (tName i)) := gv_name (pg_name hN hi hx hf)
theorem g_for {iter tg : Expr} {body : List Stmt} {I : IDen} {T : TDen} {M : SDen} {ts : List Nat} (hp : PassesOwn (model X.prog X.w) X.A X.env X.xe) (hc : X.calm = true) (hi : PI X tg iter (iOf (kx X cl) I)) (hg : PG X tg (gOf (kx X cl) ts T)) (hb : PSs X body (sOf (kx X cl) M)) (hs : ∀ x, foldedSetIterable iter X.env x = pure x := by intro _; rfl) : PS X (.For tg iter body [] pos) (sOf (kx X cl) (sFor T I M)) := sv_for (ps_for hp hc hi hg hb hs)
theorem g_while {F : CallI} {body : List Stmt} {C : CDen} {M : SDen} (hp : PassesOwn (model X.prog X.w) X.A X.env X.xe) (hc : PT X c (cOf (kx X cl) C)) (hb : PSs X body (sOf (kx X cl) M)) : PS X (.While c body [] pos) (sOf (kx X cl) (sWhile F C M)) := sv_while (ps_while hp hc hb)
theorem g_no {st : Stmt} : PS X st (sOf (kx X cl) sNo) := PS.im ps_never fun D σ H hh => by
  obtain ⟨ε, S, R, ω, o, he, s, k⟩ := hh
  cases he
end
theorem fn_stepD {P : Program} {w : World} {K : PySem.W.Frag} {mg : Str → Option Value} {base : Heap} {cl : Nat → Addr} {x qual : Str} {params : Arguments} {body : List Stmt} {scope : Scope} {dvs : List V} {kws : List (Str × V)} {f : Addr} {fd : FuncData} {N ps : List Str} {n i : Nat} {tab : Nat → Option FnD} {wf : Nat} {M : CallI → SDen}
    (F : FunD K x qual params body scope dvs kws f fd) (S : FnScope N ps scope) (ht : tab i = some ⟨ps.length, N.length, M⟩)
    (hb : ∀ (cdv : Value) (A : Around) (outer : List PySem.Env) (s : Shared) (H : Hp) (E : XK), Room n (A.deeper (envOfC qual scope s.heap.objs.size f cdv)) →
      PSs (cxOf CX0 P w K mg base N qual scope f cdv A outer s H E).nox body (sOf ⟨K, cl⟩ (M ⟨callF tab wf n, wf⟩))) :
    FnOk P w K mg base CX0 (n + 1) f fd ps (spOf ⟨K, cl⟩ (callF tab wf (n + 1) i)) := by
  have open_ : ∀ (ds : List D) (S : Store) (r : Bool × D × Store), callF tab wf (n + 1) i ds S = .ok r → ds.length = ps.length ∧ runBody N.length (M ⟨callF tab wf n, wf⟩) ds S = .ok r := by
    intro ds S r h
    unfold callF at h
    rw [ht] at h
    simp only at h
    split at h
    · rename_i q; exact ⟨q, h⟩
    · cases h
  refine F.ok S (fun vs H Q E h => ?_) fun cdv A outer s H vs Q E hr h => ?_
  · obtain ⟨ds, S, R, b, d, S', e, r, _⟩ := h
    rw [r.length]; exact (open_ _ _ _ e).1
  · obtain ⟨ds, S1, R, b, d, S', e, r, g, k⟩ := h
    refine ⟨_, (hb cdv A outer s H E hr).nox, ?_⟩
    obtain ⟨hl, e⟩ := open_ _ _ _ e
    obtain ⟨o, e1, e⟩ := bind_ok e
    refine ⟨_, S1, R, fun _ => none, o, e1, start_sr g r, ?_⟩
    cases o with
    | nx ε2 S2 =>
      cases e
      exact fun σ' R' ω' H' x' s' => k .non R' H' (x'.om fun _ _ h => nomatch h) s'.g (.plain rfl)
    | rt b2 d2 S2 =>
      cases e
      exact fun v R' ω' H' x' g' r' => k v R' H' (x'.om fun _ _ h => nomatch h) g' r'
    | bk ε2 S2 => cases e
    | ct ε2 S2 => cases e
/-- the start: the law's promise from one equation -/
theorem law_sp {K : PySem.W.Frag} {cl : Nat → Addr} {call : List D → Store → Rs (Bool × D × Store)} {H : Hp} {a : Addr} {ns : List Int} {Q : VK} {E : XK} {f : Bool} {S' : Store} (hO : Only H) (hS : SqL K H a (ns.map V.int)) (e : call [.scr ns] [] = .ok (f, .bl true, S'))
    (hQ : ∀ H', Q (.bl true) H') : spOf ⟨K, cl⟩ call [.ref a] H Q E := by
  refine ⟨[.scr ns], [], ⟨fun b => match H b with | some (.frz o u) => some (.frz o u) | _ => none, []⟩, f, .bl true, S', e, ⟨_, _, rfl, ⟨a, rfl, ?_⟩, rfl⟩, ?_, fun v R' H' x g r => ?_⟩
  · rcases hS with (h | ⟨o, h⟩) | h
    · rcases hO a with z | ⟨o, xs, z⟩
      · rw [z] at h; cases h
      · rw [z] at h; cases h
    · exact .inl ⟨o, by show (match H a with | some (.frz o u) => some (HO.frz o u) | _ => none) = _; rw [h]⟩
    · exact .inr h
  · exact {
      zh := fun b o h => by
        have h' : (match H b with | some (.frz o u) => some (HO.frz o u) | _ => none) = some o := h
        split at h'
        · rename_i q; cases h'; exact q
        · cases h'
      sl := rfl
      st := fun j ob h => by cases h
      ρz := fun b h => by cases h
      ρn := List.nodup_nil
      ρh := fun b h => by cases h }
  · cases f with
    | false => unfold RetR at r; rw [if_neg Bool.false_ne_true] at r; cases (show v = .bl true from r); exact hQ H'
    | true => unfold RetR at r; rw [if_pos rfl] at r; obtain ⟨a, o, e, ho, c, _⟩ := r; exact c.elim
theorem _root_.L2.Room.units65 {k : Nat} {A : Around} (r : Room k A) : A.units + 65 < cLine := by have := r.un; omega
theorem fn_any {α : Type} {P : Program} {w : World} {K : PySem.W.Frag} {mg : Str → Option Value} {base : Heap} {f : Addr} {fd : FuncData} {ps : List Str} {n : Nat} {sp : α → Sp} (h : ∀ a, FnOk P w K mg base CX0 n f fd ps (sp a)) : FnOk P w K mg base CX0 n f fd ps (fun vs H Q E => ∃ a, sp a vs H Q E) where
  len := fun vs H Q E ⟨a, q⟩ => (h a).len vs H Q E q
  run := fun A outer s H args us vs Q E h1 h2 h3 h4 ⟨a, q⟩ => (h a).run A outer s H args us vs Q E h1 h2 h3 h4 q
end Mp

namespace Mp

/-- a bound of a range -/
def inR (i : Int) : Prop := -(2 ^ 62) ≤ i ∧ i < 2 ^ 62
theorem inR_of {i : Int} (h1 : -1000000000 ≤ i) (h2 : i ≤ 1000000000) : inR i := ⟨by omega, by omega⟩
def ir1 (ds : List D) : Rs (List D) := match ds with
  | [.int j] => if -(2 ^ 62) ≤ j ∧ j < 2 ^ 62 then .ok (intsFrom 0 j.toNat) else .no
  | _ => .no
def ir2 (ds : List D) : Rs (List D) := match ds with
  | [.int i, .int j] => if (-(2 ^ 62) ≤ i ∧ i < 2 ^ 62) ∧ -(2 ^ 62) ≤ j ∧ j < 2 ^ 62 then .ok (intsFrom i (j - i).toNat) else .no
  | _ => .no
def ir3 (ds : List D) : Rs (List D) := match ds with
  | [.int i, .int j, .int c] =>
    if c = -1 then
      if (-(2 ^ 62) ≤ i ∧ i < 2 ^ 62) ∧ -(2 ^ 62) ≤ j ∧ j < 2 ^ 62 then .ok (intsBy i (-1) (i - j).toNat) else .no
    else if c ≠ 0 ∧ c.natAbs < 1073741824 ∧ PySem.Builtin.Range.small i j c = true ∧ 0 ≤ PySem.Builtin.Range.rangeSize i j c then .ok (intsBy i c (PySem.Builtin.Range.rangeSize i j c).toNat) else .no
  | _ => .no
@[simp] theorem ir1_ok {j : Int} (h : inR j) : ir1 [.int j] = .ok (intsFrom 0 j.toNat) := if_pos h
@[simp] theorem ir2_ok {i j : Int} (h : inR i) (h2 : inR j) : ir2 [.int i, .int j] = .ok (intsFrom i (j - i).toNat) := if_pos ⟨h, h2⟩
@[simp] theorem ir3_ok {i j : Int} (h : inR i) (h2 : inR j) : ir3 [.int i, .int j, .int (-1)] = .ok (intsBy i (-1) (i - j).toNat) := by
  unfold ir3
  dsimp only
  rw [if_pos rfl, if_pos (show (-(2 ^ 62) ≤ i ∧ i < 2 ^ 62) ∧ -(2 ^ 62) ≤ j ∧ j < 2 ^ 62 from ⟨h, h2⟩)]
@[simp] theorem inR_0 : inR 0 := inR_of (by omega) (by omega)
@[simp] theorem inR_1 : inR 1 := inR_of (by omega) (by omega)
@[simp] theorem inR_m1 : inR (-1) := inR_of (by omega) (by omega)
@[simp] theorem inR_2 : inR 2 := inR_of (by omega) (by omega)
section
variable {ε : Env} {S : Store} {f : D → Store → Rs RV} {g : D → D → Store → Rs RV} {a b c : Den} {as : ADen} {C C' : CDen} {M M' : SDen} {T : TDen} {Ts : TsDen} {d : D} {F : CallI} {i j n k : Nat} {x y : Sl} {o : Option Sl} {e : Env}
@[simp] theorem slot_z : slot (o :: e) 0 = o := id rfl
@[simp] theorem slot_s : slot (o :: e) (i + 1) = slot e i := by unfold slot; rw [List.getElem?_cons_succ]
@[simp] theorem get_pl : (RV.pl d).get ε = .ok d := id rfl
@[simp] theorem get_fr : (RV.fr d).get ε = .ok d := id rfl
@[simp] theorem get_bor : (RV.bor i).get ε = (match slot ε i with | some (.own d) => .ok d | some (.pl d) => .ok d | none => .no) := id rfl
@[simp] theorem fix_pl : (RV.pl d).fix ε = .ok (d, ε) := id rfl
@[simp] theorem fix_fr : (RV.fr d).fix ε = .ok (d, ε) := id rfl
@[simp] theorem fix_bor : (RV.bor i).fix ε = (match slot ε i with | some (.own d) => .ok (d, ε.set i (some (.pl d))) | some (.pl d) => .ok (d, ε) | none => .no) := id rfl
@[simp] theorem x_var : eVar i ε S = (match slot ε i with | some (.pl d) => .ok (.pl d, ε, S) | some (.own _) => .ok (.bor i, ε, S) | none => .no) := id rfl
@[simp] theorem x_c : eC d ε S = .ok (.pl d, ε, S) := id rfl
@[simp] theorem x_un : eUn f a ε S = (a ε S >>= fun p => p.1.get p.2.1 >>= fun x => f x p.2.2 >>= fun v => .ok (v, p.2.1, p.2.2)) := id rfl
@[simp] theorem x_bin : eBin g a b ε S = (a ε S >>= fun p => b p.2.1 p.2.2 >>= fun q => p.1.get q.2.1 >>= fun x => q.1.get q.2.1 >>= fun y => g x y q.2.2 >>= fun v => .ok (v, q.2.1, q.2.2)) := id rfl
@[simp] theorem x_anil : aNil ε S = .ok ([], ε, S) := id rfl
@[simp] theorem x_acons : aCons a as ε S = (a ε S >>= fun p => p.1.fix p.2.1 >>= fun q => as q.2 p.2.2 >>= fun r => .ok (q.1 :: r.1, r.2.1, r.2.2)) := id rfl
def lenOk (ds : List D) : Bool := decide (ds.length ≤ 16777216)
theorem lenOk_of {ds : List D} (h : ds.length ≤ 16777216) : lenOk ds = true := decide_eq_true h
@[simp] theorem lenOk_nil : lenOk [] = true := id rfl
@[simp] theorem lenOk_1 : lenOk [d] = true := id rfl
@[simp] theorem lenOk_2 {d1 d2 : D} : lenOk [d1, d2] = true := id rfl
@[simp] theorem lenOk_3 {d1 d2 d3 : D} : lenOk [d1, d2, d3] = true := id rfl
@[simp] theorem lenOk_4 {d1 d2 d3 d4 : D} : lenOk [d1, d2, d3, d4] = true := id rfl
@[simp] theorem lenOk_5 {d1 d2 d3 d4 d5 : D} : lenOk [d1, d2, d3, d4, d5] = true := id rfl
@[simp] theorem lenOk_6 {d1 d2 d3 d4 d5 d6 : D} : lenOk [d1, d2, d3, d4, d5, d6] = true := id rfl
@[simp] theorem lenOk_7 {d1 d2 d3 d4 d5 d6 d7 : D} : lenOk [d1, d2, d3, d4, d5, d6, d7] = true := id rfl
@[simp] theorem lenOk_8 {d1 d2 d3 d4 d5 d6 d7 d8 : D} : lenOk [d1, d2, d3, d4, d5, d6, d7, d8] = true := id rfl
@[simp] theorem x_tup : eTup as ε S = (as ε S >>= fun p => if lenOk p.1 = true then .ok (.pl (.tup p.1), p.2.1, p.2.2) else .no) := by
  show (as ε S >>= fun p => if p.1.length ≤ 16777216 then Rs.ok (RV.pl (.tup p.1), p.2.1, p.2.2) else .no) = _
  congr 1; funext p
  unfold lenOk
  by_cases h : p.1.length ≤ 16777216
  · rw [if_pos h, if_pos (decide_eq_true h)]
  · rw [if_neg h, if_neg (by rw [decide_eq_false h]; exact Bool.false_ne_true)]
@[simp] theorem x_lst : eLst as ε S = (as ε S >>= fun p => if lenOk p.1 = true then .ok (.fr (.lst p.1), p.2.1, p.2.2) else .no) := by
  show (as ε S >>= fun p => if p.1.length ≤ 16777216 then Rs.ok (RV.fr (.lst p.1), p.2.1, p.2.2) else .no) = _
  congr 1; funext p
  unfold lenOk
  by_cases h : p.1.length ≤ 16777216
  · rw [if_pos h, if_pos (decide_eq_true h)]
  · rw [if_neg h, if_neg (by rw [decide_eq_false h]; exact Bool.false_ne_true)]
@[simp] theorem x_new : eNew a ε S = (a ε S >>= fun p => match p.1 with | .fr (.lst ds) => .ok (.pl (.ref p.2.2.length), p.2.1, p.2.2 ++ [.lst ds]) | .fr (.dct t ks vs) => .ok (.pl (.ref p.2.2.length), p.2.1, p.2.2 ++ [.dct t ks vs]) | _ => .no) := id rfl
@[simp] theorem x_call : eCall F i as ε S = (as ε S >>= fun p => F.call i p.1 p.2.2 >>= fun q => .ok (if q.1 then .fr q.2.1 else .pl q.2.1, p.2.1, q.2.2)) := id rfl
@[simp] theorem x_cval : cVal a ε S = (a ε S >>= fun p => p.1.get p.2.1 >>= fun x => match x with | .bl b => .ok (b, p.2.1, p.2.2) | _ => .no) := id rfl
@[simp] theorem x_cand : cAnd C C' ε S = (C ε S >>= fun p => if p.1 then C' p.2.1 p.2.2 else .ok (false, p.2.1, p.2.2)) := id rfl
@[simp] theorem x_cor : cOr C C' ε S = (C ε S >>= fun p => if p.1 then .ok (true, p.2.1, p.2.2) else C' p.2.1 p.2.2) := id rfl
@[simp] theorem x_cnot : cNot C ε S = (C ε S >>= fun p => .ok (!p.1, p.2.1, p.2.2)) := id rfl
@[simp] theorem x_cyes : cYes ε S = .ok (true, ε, S) := id rfl
@[simp] theorem x_and : eAnd a b ε S = (a ε S >>= fun p => p.1.get p.2.1 >>= fun x => match x with | .bl x => if x then b p.2.1 p.2.2 else .ok (.pl (.bl false), p.2.1, p.2.2) | _ => .no) := id rfl
@[simp] theorem x_or : eOr a b ε S = (a ε S >>= fun p => p.1.get p.2.1 >>= fun x => match x with | .bl x => if x then .ok (.pl (.bl true), p.2.1, p.2.2) else b p.2.1 p.2.2 | _ => .no) := id rfl
@[simp] theorem x_not : eNot a ε S = (a ε S >>= fun p => p.1.get p.2.1 >>= fun x => (match x with | .bl b => Rs.ok (RV.pl (.bl !b)) | _ => .no) >>= fun v => .ok (v, p.2.1, p.2.2)) := id rfl
@[simp] theorem x_if : eIf C a b ε S = (C ε S >>= fun p => if p.1 then a p.2.1 p.2.2 else b p.2.1 p.2.2) := id rfl
@[simp] theorem x_chain {f g : D → D → Store → Rs RV} : eChain f g a b c ε S = (a ε S >>= fun p => b p.2.1 p.2.2 >>= fun q => p.1.get q.2.1 >>= fun x => q.1.get q.2.1 >>= fun y => f x y q.2.2 >>= fun v => match v with
  | .pl (.bl true) => c q.2.1 q.2.2 >>= fun r => q.1.get r.2.1 >>= fun y' => r.1.get r.2.1 >>= fun z => g y' z r.2.2 >>= fun v => .ok (v, r.2.1, r.2.2)
  | .pl (.bl false) => .ok (.pl (.bl false), q.2.1, q.2.2)
  | _ => .no) := id rfl
@[simp] theorem x_tname : tName i d ε = .ok (ε.set i (some (.pl d))) := id rfl
@[simp] theorem x_tsnil : tsNil [] ε = .ok ε := id rfl
@[simp] theorem x_tscons {ds : List D} : tsCons T Ts (d :: ds) ε = (T d ε >>= fun e => Ts ds e) := id rfl
@[simp] theorem x_ttup {ds : List D} : tTup n Ts (.tup ds) ε = (if ds.length = n then Ts ds ε else .no) := id rfl
@[simp] theorem x_ttupk {ds : List D} : tTup n Ts (.ktup ds) ε = (if ds.length = n then Ts ds ε else .no) := id rfl
@[simp] theorem x_snil : sNil ε S = .ok (.nx ε S) := id rfl
@[simp] theorem x_sseq : sSeq M M' ε S = (M ε S >>= fun o => match o with | .nx ε1 S1 => M' ε1 S1 | o => .ok o) := id rfl
@[simp] theorem x_pass : sPass ε S = .ok (.nx ε S) := id rfl
@[simp] theorem x_break : sBreak ε S = .ok (.bk ε S) := id rfl
@[simp] theorem x_cont : sCont ε S = .ok (.ct ε S) := id rfl
@[simp] theorem x_drop : sDrop a ε S = (a ε S >>= fun p => .ok (.nx p.2.1 p.2.2)) := id rfl
@[simp] theorem x_ret : sRet a ε S = (a ε S >>= fun p => match p.1 with
  | .pl d => .ok (.rt false d p.2.2)
  | .fr d => .ok (.rt true d p.2.2)
  | .bor i => match slot p.2.1 i with
    | some (.own d) => .ok (.rt true d p.2.2)
    | some (.pl d) => .ok (.rt false d p.2.2)
    | none => .no) := id rfl
@[simp] theorem x_retn : sRetN ε S = .ok (.rt false .non S) := id rfl
@[simp] theorem x_sif : sIf C M M' ε S = (C ε S >>= fun p => if p.1 then M p.2.1 p.2.2 else M' p.2.1 p.2.2) := id rfl
@[simp] theorem x_set : sSet i a ε S = (a ε S >>= fun p => p.1.fix p.2.1 >>= fun q => .ok (.nx (q.2.set i (some (.pl q.1))) p.2.2)) := id rfl
@[simp] theorem x_own : sOwn i a ε S = (a ε S >>= fun p => match p.1 with
  | .pl d => .ok (.nx (p.2.1.set i (some (.pl d))) p.2.2)
  | .fr d => if i < p.2.1.length then .ok (.nx (p.2.1.set i (some (.own d))) p.2.2) else .no
  | .bor j => match slot p.2.1 j with
    | some (.own d) => if i < p.2.1.length then .ok (.nx ((p.2.1.set j none).set i (some (.own d))) p.2.2) else .no
    | some (.pl d) => .ok (.nx (p.2.1.set i (some (.pl d))) p.2.2)
    | none => .no) := id rfl
@[simp] theorem x_asg : sAsg T a ε S = (a ε S >>= fun p => p.1.fix p.2.1 >>= fun q => T q.1 q.2 >>= fun e => .ok (.nx e p.2.2)) := id rfl
@[simp] theorem x_for {I : IDen} : sFor T I M ε S = (I ε S >>= fun p => forGo T M p.1 p.2.1 p.2.2) := id rfl
@[simp] theorem x_while : sWhile F C M ε S = whileGo C M F.wf ε S := id rfl
@[simp] theorem x_comp {vs : List Nat} {I : IDen} : eComp vs I T C a ε S = (I ε S >>= fun p => compGo vs T C a (wipe p.2.1 vs) p.1 p.2.2 [] >>= fun q => .ok (.fr (.lst q.1), p.2.1, q.2)) := id rfl
@[simp] theorem x_no : sNo ε S = .no := id rfl
@[simp] theorem x_mut {f : List D → List D → Rs (List D × D)} : eMut f a as ε S = (a ε S >>= fun p => getIn p.1 p.2.1 p.2.2 >>= fun _ => as p.2.1 p.2.2 >>= fun q => getIn p.1 q.2.1 q.2.2 >>= fun xs => f xs q.1 >>= fun r => .ok (.pl r.2, (putIn p.1 r.1 q.2.1 q.2.2).1, (putIn p.1 r.1 q.2.1 q.2.2).2)) := id rfl
@[simp] theorem x_put : sPut a b c ε S = (c ε S >>= fun p => p.1.fix p.2.1 >>= fun q => a q.2 p.2.2 >>= fun r => b r.2.1 r.2.2 >>= fun s => s.1.get s.2.1 >>= fun y => match y with
  | .int k => getIn r.1 s.2.1 s.2.2 >>= fun xs => match L2.ixN xs.length k with
    | some j => .ok (.nx (putIn r.1 (xs.set j q.1) s.2.1 s.2.2).1 (putIn r.1 (xs.set j q.1) s.2.1 s.2.2).2)
    | none => .no
  | _ => .no) := id rfl
@[simp] theorem getIn_bor : getIn (.bor i) ε S = (match slot ε i with | some (.own (.lst ds)) => .ok ds | _ => .no) := id rfl
@[simp] theorem getIn_ref : getIn (.pl (.ref j)) ε S = (match S[j]? with | some (.lst ds) => .ok ds | _ => .no) := id rfl
@[simp] theorem putIn_bor {ds : List D} : putIn (.bor i) ds ε S = (ε.set i (some (.own (.lst ds))), S) := id rfl
@[simp] theorem putIn_ref {ds : List D} : putIn (.pl (.ref j)) ds ε S = (ε, S.set j (.lst ds)) := id rfl
@[simp] theorem x_append {xs : List D} (h : xs.length < 16777216) : fAppend xs [d] = .ok (xs ++ [d], .non) := if_pos h
@[simp] theorem x_pop {xs : List D} : fPop xs [] = (match xs[xs.length - 1]? with | some d => .ok (xs.dropLast, d) | none => .no) := id rfl
@[simp] theorem x_par2 {o1 o2 : Bool} : sPar2 o1 i o2 j a b ε S = (a ε S >>= fun p => p.1.low o1 p.2.1 >>= fun t => b t.2 p.2.2 >>= fun q => q.1.low o2 q.2.1 >>= fun u => if i < u.2.length ∧ j < u.2.length then .ok (.nx ((u.2.set i (some t.1)).set j (some u.1)) q.2.2) else .no) := id rfl
@[simp] theorem x_par3 {o1 o2 o3 : Bool} : sPar3 o1 i o2 j o3 k a b c ε S = (a ε S >>= fun p => p.1.low o1 p.2.1 >>= fun t => b t.2 p.2.2 >>= fun q => q.1.low o2 q.2.1 >>= fun u => c u.2 q.2.2 >>= fun r => r.1.low o3 r.2.1 >>= fun w => if i < w.2.length ∧ j < w.2.length ∧ k < w.2.length then .ok (.nx (((w.2.set i (some t.1)).set j (some u.1)).set k (some w.1)) r.2.2) else .no) := id rfl
@[simp] theorem low_pl {o : Bool} : (RV.pl d).low o ε = .ok (.pl d, ε) := id rfl
@[simp] theorem low_fr_t : (RV.fr d).low true ε = .ok (.own d, ε) := id rfl
@[simp] theorem low_fr_f : (RV.fr d).low false ε = .ok (.pl d, ε) := id rfl
@[simp] theorem low_bor {o : Bool} : (RV.bor i).low o ε = (match slot ε i with | some (.own d) => .ok (.pl d, ε.set i (some (.pl d))) | some (.pl d) => .ok (.pl d, ε) | none => .no) := id rfl
@[simp] theorem x_iseq : iSeq a ε S = (a ε S >>= fun p => p.1.fix p.2.1 >>= fun q => seqItems q.1 >>= fun ds => .ok (ds, q.2, p.2.2)) := id rfl
@[simp] theorem seq_lst {ds : List D} : seqItems (.lst ds) = .ok ds := id rfl
@[simp] theorem seq_tup {ds : List D} : seqItems (.tup ds) = .ok ds := id rfl
@[simp] theorem seq_ktup {ds : List D} : seqItems (.ktup ds) = .ok ds := id rfl
@[simp] theorem x_ir1 {as : ADen} : iR1 as ε S = (as ε S >>= fun p => ir1 p.1 >>= fun xs => .ok (xs, p.2.1, p.2.2)) := by
  unfold iR1
  congr 1
  funext p
  obtain ⟨ds, ε1, S1⟩ := p
  dsimp only
  unfold ir1
  split
  · try dsimp only
    by_cases h : -(2 ^ 62) ≤ (‹Int› : Int) ∧ (‹Int› : Int) < 2 ^ 62
    · rw [if_pos h, if_pos h]; rfl
    · rw [if_neg h, if_neg h]; rfl
  · first | rfl | (split <;> first | rfl | simp_all)
@[simp] theorem x_ir2 {as : ADen} : iR2 as ε S = (as ε S >>= fun p => ir2 p.1 >>= fun xs => .ok (xs, p.2.1, p.2.2)) := by
  unfold iR2
  congr 1
  funext p
  obtain ⟨ds, ε1, S1⟩ := p
  dsimp only
  unfold ir2
  split
  · rename_i i j
    try dsimp only
    by_cases h : (-(2 ^ 62) ≤ i ∧ i < 2 ^ 62) ∧ -(2 ^ 62) ≤ j ∧ j < 2 ^ 62
    · rw [if_pos h, if_pos h]; rfl
    · rw [if_neg h, if_neg h]; rfl
  · first | rfl | (split <;> first | rfl | simp_all)
@[simp] theorem x_ir3 {as : ADen} : iR3 as ε S = (as ε S >>= fun p => ir3 p.1 >>= fun xs => .ok (xs, p.2.1, p.2.2)) := by
  unfold iR3
  congr 1
  funext p
  obtain ⟨ds, ε1, S1⟩ := p
  dsimp only
  unfold ir3
  split
  · rename_i i j c
    try dsimp only
    by_cases hc : c = -1
    · rw [if_pos hc, if_pos hc]
      by_cases h : (-(2 ^ 62) ≤ i ∧ i < 2 ^ 62) ∧ -(2 ^ 62) ≤ j ∧ j < 2 ^ 62
      · rw [if_pos h, if_pos h]; rfl
      · rw [if_neg h, if_neg h]; rfl
    · rw [if_neg hc, if_neg hc]
      by_cases h : c ≠ 0 ∧ c.natAbs < 1073741824 ∧ PySem.Builtin.Range.small i j c = true ∧ 0 ≤ PySem.Builtin.Range.rangeSize i j c
      · rw [if_pos h, if_pos h]; rfl
      · rw [if_neg h, if_neg h]; rfl
  · first | rfl | (split <;> first | rfl | simp_all)
@[simp] theorem x_ienum {as : ADen} : iEnum as ε S = (as ε S >>= fun p => match p.1 with
  | [d] => seqItems d >>= fun xs => .ok (enumFrom 0 xs, p.2.1, p.2.2)
  | _ => .no) := id rfl
@[simp] theorem x_izip {as : ADen} : iZip as ε S = (as ε S >>= fun p => match p.1 with
  | [a, b] => seqItems a >>= fun xs => seqItems b >>= fun ys => .ok (zipItems xs ys, p.2.1, p.2.2)
  | _ => .no) := id rfl
@[simp] theorem x_onone : oNone ε S = .ok (none, ε, S) := id rfl
@[simp] theorem x_osome : oSome a ε S = (a ε S >>= fun p => p.1.get p.2.1 >>= fun x => match x with | .int i => .ok (some i, p.2.1, p.2.2) | _ => .no) := id rfl
@[simp] theorem x_sl {lo hi : ODen} : eSl a lo hi ε S = (a ε S >>= fun p => lo p.2.1 p.2.2 >>= fun l => hi l.2.1 l.2.2 >>= fun h => p.1.get h.2.1 >>= fun x => match x with
  | .lst ds => .ok (.fr (.lst (cutL ds l.1 h.1)), h.2.1, h.2.2)
  | .tup ds => .ok (.pl (.tup (cutL ds l.1 h.1)), h.2.1, h.2.2)
  | .str s => if s.length ≤ 16777216 then .ok (.pl (.str (cutL s l.1 h.1)), h.2.1, h.2.2) else .no
  | _ => .no) := id rfl
end
section
variable {i j : Int} {S : Store} {ds es : List D}
@[simp] theorem y_add : pAdd (.int i) (.int j) S = .ok (.pl (.int (i + j))) := id rfl
@[simp] theorem y_addL (h : ds.length + es.length ≤ 16777216) : pAdd (.lst ds) (.lst es) S = .ok (.fr (.lst (ds ++ es))) := if_pos h
@[simp] theorem y_addT (h : ds.length + es.length ≤ 16777216) : pAdd (.tup ds) (.tup es) S = .ok (.pl (.tup (ds ++ es))) := if_pos h
@[simp] theorem y_sub : pSub (.int i) (.int j) S = .ok (.pl (.int (i - j))) := id rfl
@[simp] theorem y_mul (h : mulOk i j = true) : pMul (.int i) (.int j) S = .ok (.pl (.int (i * j))) := if_pos h
@[simp] theorem y_neg : pNeg (.int i) S = .ok (.pl (.int (-i))) := id rfl
@[simp] theorem y_cmp {f : Int → Int → Bool} : pCmp f (.int i) (.int j) S = .ok (.pl (.bl (f i j))) := id rfl
@[simp] theorem y_lenT : pLen (.tup ds) S = .ok (.pl (.int ds.length)) := id rfl
@[simp] theorem y_lenL : pLen (.lst ds) S = .ok (.pl (.int ds.length)) := id rfl
@[simp] theorem y_abs : pAbs (.int i) S = .ok (.pl (.int (if i < 0 then -i else i))) := id rfl
@[simp] theorem y_int : pInt (.int i) S = .ok (.pl (.int i)) := id rfl
@[simp] theorem y_max2 : pMax2 (.int i) (.int j) S = .ok (.pl (.int (if j > i then j else i))) := id rfl
@[simp] theorem y_min2 : pMin2 (.int i) (.int j) S = .ok (.pl (.int (if j < i then j else i))) := id rfl
@[simp] theorem y_idxL : pIdx (.lst ds) (.int i) S = (match L2.atI ds i with | some d => .ok (.pl d) | none => .no) := id rfl
@[simp] theorem y_lenK : pLen (.ktup ds) S = .ok (.pl (.int ds.length)) := id rfl
@[simp] theorem y_idxK : pIdx (.ktup ds) (.int i) S = (match L2.atI ds i with | some d => .ok (.pl d) | none => .no) := id rfl
@[simp] theorem y_idxT : pIdx (.tup ds) (.int i) S = (match L2.atI ds i with | some d => .ok (.pl d) | none => .no) := id rfl
@[simp] theorem y_idxR {k : Nat} : pIdx (.ref k) (.int i) S = (match S[k]? with | some (.lst ds) => (match L2.atI ds i with | some d => .ok (.pl d) | none => .no) | _ => .no) := id rfl
theorem mulOk_l (h : -(2 ^ 64) < i ∧ i < 2 ^ 64) : mulOk i j = true := by unfold mulOk; simp only [h, and_self, decide_true, Bool.true_or]
theorem mulOk_r (h : -(2 ^ 64) < j ∧ j < 2 ^ 64) : mulOk i j = true := by unfold mulOk; simp only [h, and_self, decide_true, Bool.or_true, Bool.true_or]
end
section
variable {T : TDen} {M : SDen} {C : CDen} {a : Den} {ε0 : Env} {vs : List Nat}
@[simp] theorem forGo_nil {ε : Env} {S : Store} : forGo T M [] ε S = .ok (.nx ε S) := id rfl
theorem forGo_cons {d : D} {ds : List D} {ε : Env} {S : Store} : forGo T M (d :: ds) ε S = (T d ε >>= fun e => M e S >>= fun o => match o with
  | .nx ε2 S2 => forGo T M ds ε2 S2
  | .ct ε2 S2 => forGo T M ds ε2 S2
  | .bk ε2 S2 => .ok (.nx ε2 S2)
  | .rt f d S2 => .ok (.rt f d S2)) := rfl
theorem for_inv {P : Nat → Env → Store → Prop} : ∀ (xs : List D) {ε : Env} {S : Store}, P 0 ε S →
    (∀ (i : Nat) (d : D) ε S, xs[i]? = some d → P i ε S → ∃ e, T d ε = .ok e ∧ ∃ ε2 S2, (M e S = .ok (.nx ε2 S2) ∨ M e S = .ok (.ct ε2 S2)) ∧ P (i + 1) ε2 S2) →
    ∃ ε' S', forGo T M xs ε S = .ok (.nx ε' S') ∧ P xs.length ε' S'
  | [], ε, S, h0, _ => ⟨ε, S, rfl, h0⟩
  | d :: r, ε, S, h0, hs => by
    obtain ⟨e, e1, ε2, S2, e2, p⟩ := hs 0 d ε S rfl h0
    obtain ⟨ε', S', e3, q⟩ := for_inv (P := fun i => P (i + 1)) r p fun i d ε S h p => hs (i + 1) d ε S (by simpa using h) p
    refine ⟨ε', S', ?_, q⟩
    rw [forGo_cons, e1, ok_bind]
    rcases e2 with e2 | e2 <;> rw [e2, ok_bind] <;> exact e3
/-- a comprehension, item by item, over a store that may change -/
theorem comp_st (τ : Nat → Store) : ∀ (xs ys acc : List D) (k : Nat), ys.length = xs.length → acc.length + xs.length ≤ 16777216 →
    (∀ (i : Nat) (x y : D), xs[i]? = some x → ys[i]? = some y → ∃ ε1, T x ε0 = .ok ε1 ∧ C ε1 (τ (k + i)) = .ok (true, ε1, τ (k + i)) ∧ wipe ε1 vs = ε0 ∧ (a ε1 (τ (k + i)) = .ok (.pl y, ε1, τ (k + i + 1)) ∨ a ε1 (τ (k + i)) = .ok (.fr y, ε1, τ (k + i + 1)))) →
    compGo vs T C a ε0 xs (τ k) acc = .ok (acc ++ ys, τ (k + xs.length))
  | [], [], acc, k, _, _, _ => by simp [compGo]
  | [], _ :: _, _, _, h, _, _ => by cases h
  | _ :: _, [], _, _, h, _, _ => by cases h
  | x :: xs, y :: ys, acc, k, hl, hz, hs => by
    obtain ⟨ε1, e1, e2, e3, e4⟩ := hs 0 x y rfl rfl
    have ih := comp_st τ xs ys (acc ++ [y]) (k + 1) (by simpa using hl) (by simp at hz ⊢; omega) fun i x y h1 h2 => by
      have q := hs (i + 1) x y (by simpa using h1) (by simpa using h2)
      have e : k + (i + 1) = k + 1 + i := by omega
      rw [e] at q
      exact q
    have hz' : acc.length < 16777216 := by simp at hz; omega
    have e5 : k + (x :: xs).length = k + 1 + xs.length := by simp; omega
    rw [e5]
    unfold compGo
    rw [e1]
    simp only [ok_bind, Nat.add_zero] at e2 e4 ⊢
    rw [e2]
    simp only [ok_bind, e3, and_self, if_true]
    rcases e4 with e4 | e4
    · rw [e4]
      simp only [ok_bind, hz', and_self, if_true]
      rw [ih]; simp
    · rw [e4]
      simp only [ok_bind, hz', and_self, if_true]
      rw [ih]; simp
theorem comp_at {S : Store} (ys : List D) {xs : List D} (hl : ys.length = xs.length) (hz : xs.length ≤ 16777216)
    (hs : ∀ (i : Nat) (x y : D), xs[i]? = some x → ys[i]? = some y → ∃ ε1, T x ε0 = .ok ε1 ∧ C ε1 S = .ok (true, ε1, S) ∧ wipe ε1 vs = ε0 ∧ (a ε1 S = .ok (.pl y, ε1, S) ∨ a ε1 S = .ok (.fr y, ε1, S))) :
    compGo vs T C a ε0 xs S [] = .ok (ys, S) := by
  have q := comp_st (T := T) (C := C) (a := a) (ε0 := ε0) (vs := vs) (fun _ => S) xs ys [] 0 hl (by simpa using hz) hs
  simpa using q
theorem whileGo_s {n : Nat} {ε : Env} {S : Store} : whileGo C M (n + 1) ε S = (C ε S >>= fun p => if p.1 then M p.2.1 p.2.2 >>= fun o => match o with
  | .nx ε2 S2 => whileGo C M n ε2 S2
  | .ct ε2 S2 => whileGo C M n ε2 S2
  | .bk ε2 S2 => .ok (.nx ε2 S2)
  | .rt f d S2 => .ok (.rt f d S2) else .ok (.nx p.2.1 p.2.2)) := rfl
end
section
@[simp] theorem atI_ofNat {α : Type} (xs : List α) (n : Nat) : L2.atI xs (n : Int) = xs[n]? := by
  unfold L2.atI L2.ixN
  rw [if_pos (by omega)]
  by_cases h : n < xs.length
  · rw [if_pos (by omega)]; simp
  · rw [if_neg (by omega)]
    simp [List.getElem?_eq_none (Nat.le_of_not_lt h)]
theorem ixN_ofNat {n k : Nat} (h : k < n) : L2.ixN n (k : Int) = some k := by
  unfold L2.ixN
  rw [if_pos (by omega), if_pos (by omega)]
  simp
@[simp] theorem atI_zero {α : Type} (xs : List α) : L2.atI xs 0 = xs[0]? := atI_ofNat xs 0
@[simp] theorem atI_one {α : Type} (xs : List α) : L2.atI xs 1 = xs[1]? := atI_ofNat xs 1
theorem atI_last {α : Type} (xs : List α) : L2.atI xs (-1) = xs[xs.length - 1]? := by
  unfold L2.atI L2.ixN
  rw [if_neg (by omega)]
  cases xs with
  | nil => simp
  | cons x r =>
    rw [if_pos (by simp; omega)]
    have e : (-1 + ((x :: r).length : Int)).toNat = (x :: r).length - 1 := by simp; omega
    show (some (-1 + ((x :: r).length : Int)).toNat).bind (fun j => (x :: r)[j]?) = _
    rw [e]
    rfl
theorem intsFrom_length (lo : Int) (n : Nat) : (intsFrom lo n).length = n := by simp [intsFrom]
theorem intsFrom_get {lo : Int} {n i : Nat} {d : D} (h : (intsFrom lo n)[i]? = some d) : i < n ∧ d = .int (lo + i) := by
  unfold intsFrom at h
  rw [List.getElem?_map] at h
  by_cases hi : i < n
  · rw [List.getElem?_range hi] at h
    simp at h
    exact ⟨hi, h.symm⟩
  · rw [List.getElem?_eq_none (by simp; omega)] at h
    simp at h
end
section
variable {tab : Nat → Option FnD} {wf n f np nn : Nat} {b : CallI → SDen} {ds : List D} {S S' : Store} {r : Bool} {d : D}
/-- a call by its body's run -/
theorem call_by (h : tab f = some ⟨np, nn, b⟩) (hl : ds.length = np) : callF tab wf (n + 1) f ds S = (b ⟨callF tab wf n, wf⟩ (ds.map (fun d => some (.pl d)) ++ List.replicate (nn - ds.length) none) S >>= fun o => match o with
  | .nx _ S1 => .ok (false, .non, S1)
  | .rt f d S1 => .ok (f, d, S1)
  | _ => .no) := by
  show (match tab f with | some g => if ds.length = g.np then runBody g.nn (g.body ⟨callF tab wf n, wf⟩) ds S else .no | none => .no) = _
  rw [h]
  simp only [hl, if_true]
  rw [← hl]
  rfl
end
end Mp

namespace Mp
open PySem

def intsD (ns : List Int) : List D := ns.map .int
@[simp] theorem intsD_len (ns : List Int) : (intsD ns).length = ns.length := by simp [intsD]
@[simp] theorem intsD_get (ns : List Int) (i : Nat) : (intsD ns)[i]? = ns[i]?.map .int := by simp [intsD]
theorem intsD_app (a b : List Int) : intsD a ++ intsD b = intsD (a ++ b) := by simp [intsD]
theorem intsD_set (a : List Int) (i : Nat) (v : Int) : (intsD a).set i (.int v) = intsD (a.set i v) := by simp [intsD]
theorem intsOf_D (ns : List Int) : intsOf (intsD ns) = some ns := intsOf_map ns
section
variable {S : Store} {ns : List Int} {i j : Int} {ds : List D}
@[simp] theorem y_sorted : pSorted (.lst (intsD ns)) S = .ok (.fr (.lst (intsD (sortI ns)))) := by
  show (match intsOf (intsD ns) with | some ns => Rs.ok (RV.fr (.lst ((sortI ns).map .int))) | none => .no) = _
  rw [intsOf_D]; rfl
@[simp] theorem y_sum : pSum (.lst (intsD ns)) S = .ok (.pl (.int ns.sum)) := by
  show (match intsOf (intsD ns) with | some ns => Rs.ok (RV.pl (.int ns.sum)) | none => .no) = _
  rw [intsOf_D]
theorem y_all {bs : List Bool} : pAll (.lst (bs.map .bl)) S = .ok (.pl (.bl (bs.all id))) := by
  show (match blsOf (bs.map .bl) with | some ns => Rs.ok (RV.pl (.bl (ns.all id))) | none => .no) = _
  rw [blsOf_map]
@[simp] theorem y_tupL : pTuple (.lst ds) S = .ok (.pl (.tup ds)) := by unfold pTuple; rfl
@[simp] theorem y_tupT : pTuple (.tup ds) S = .ok (.pl (.tup ds)) := by unfold pTuple; rfl
@[simp] theorem y_listL : pList (.lst ds) S = .ok (.fr (.lst ds)) := by unfold pList; rfl
@[simp] theorem y_listT : pList (.tup ds) S = .ok (.fr (.lst ds)) := by unfold pList; rfl
@[simp] theorem y_listS : pList (.scr ns) S = .ok (.fr (.lst (ns.map .int))) := by unfold pList; rfl
theorem y_mod (h : 0 < j) : pMod (.int i) (.int j) S = .ok (.pl (.int (i % j))) := by unfold pMod; simp only [h, if_true]
theorem y_fdiv (h : 0 < j) (h2 : j.natAbs.log2 < 9000) : pFdiv (.int i) (.int j) S = .ok (.pl (.int (i / j))) := by unfold pFdiv; simp only [h, h2, and_self, if_true]
theorem y_pow (h : 0 ≤ j) (h1 : j ≤ 1000000) (h2 : i.natAbs < 2 ^ 64) : pPow (.int i) (.int j) S = .ok (.pl (.int (i ^ j.toNat))) := by unfold pPow; exact if_pos ⟨h, h1, h2⟩
end
theorem log2_lt (j : Int) (k : Nat) (h : j.natAbs < 2 ^ k) (h2 : k ≤ 9000) (h0 : 0 < k) : j.natAbs.log2 < 9000 := Nat.lt_of_lt_of_le (by
  by_cases z : j.natAbs = 0
  · rw [z]; simpa using h0
  · exact (Nat.log2_lt z).mpr h) h2
section
variable {S : Store} {i : Int} {b : Bool} {s : List Nat} {ds : List D}
@[simp] theorem t_int_int : pIsT "int" (.int i) S = .ok (.pl (.bl true)) := by simp [pIsT, isTy, tyOf]
@[simp] theorem t_int_bl : pIsT "int" (.bl b) S = .ok (.pl (.bl true)) := by simp [pIsT, isTy, tyOf]
@[simp] theorem t_int_str : pIsT "int" (.str s) S = .ok (.pl (.bl false)) := by simp [pIsT, isTy, tyOf]
@[simp] theorem t_int_tup : pIsT "int" (.tup ds) S = .ok (.pl (.bl false)) := by simp [pIsT, isTy, tyOf]
@[simp] theorem t_int_lst : pIsT "int" (.lst ds) S = .ok (.pl (.bl false)) := by simp [pIsT, isTy, tyOf]
@[simp] theorem t_int_non : pIsT "int" .non S = .ok (.pl (.bl false)) := by simp [pIsT, isTy, tyOf]
@[simp] theorem t_bl_int : pIsT "bool" (.int i) S = .ok (.pl (.bl false)) := by simp [pIsT, isTy, tyOf]
@[simp] theorem t_bl_bl : pIsT "bool" (.bl b) S = .ok (.pl (.bl true)) := by simp [pIsT, isTy, tyOf]
@[simp] theorem t_bl_str : pIsT "bool" (.str s) S = .ok (.pl (.bl false)) := by simp [pIsT, isTy, tyOf]
@[simp] theorem t_bl_tup : pIsT "bool" (.tup ds) S = .ok (.pl (.bl false)) := by simp [pIsT, isTy, tyOf]
@[simp] theorem t_bl_lst : pIsT "bool" (.lst ds) S = .ok (.pl (.bl false)) := by simp [pIsT, isTy, tyOf]
@[simp] theorem t_bl_non : pIsT "bool" .non S = .ok (.pl (.bl false)) := by simp [pIsT, isTy, tyOf]
@[simp] theorem t_str_int : pIsT "str" (.int i) S = .ok (.pl (.bl false)) := by simp [pIsT, isTy, tyOf]
@[simp] theorem t_str_bl : pIsT "str" (.bl b) S = .ok (.pl (.bl false)) := by simp [pIsT, isTy, tyOf]
@[simp] theorem t_str_str : pIsT "str" (.str s) S = .ok (.pl (.bl true)) := by simp [pIsT, isTy, tyOf]
@[simp] theorem t_str_tup : pIsT "str" (.tup ds) S = .ok (.pl (.bl false)) := by simp [pIsT, isTy, tyOf]
@[simp] theorem t_str_lst : pIsT "str" (.lst ds) S = .ok (.pl (.bl false)) := by simp [pIsT, isTy, tyOf]
@[simp] theorem t_str_non : pIsT "str" .non S = .ok (.pl (.bl false)) := by simp [pIsT, isTy, tyOf]
@[simp] theorem t_tup_int : pIsT "tuple" (.int i) S = .ok (.pl (.bl false)) := by simp [pIsT, isTy, tyOf]
@[simp] theorem t_tup_bl : pIsT "tuple" (.bl b) S = .ok (.pl (.bl false)) := by simp [pIsT, isTy, tyOf]
@[simp] theorem t_tup_str : pIsT "tuple" (.str s) S = .ok (.pl (.bl false)) := by simp [pIsT, isTy, tyOf]
@[simp] theorem t_tup_tup : pIsT "tuple" (.tup ds) S = .ok (.pl (.bl true)) := by simp [pIsT, isTy, tyOf]
@[simp] theorem t_tup_lst : pIsT "tuple" (.lst ds) S = .ok (.pl (.bl false)) := by simp [pIsT, isTy, tyOf]
@[simp] theorem t_tup_non : pIsT "tuple" .non S = .ok (.pl (.bl false)) := by simp [pIsT, isTy, tyOf]
@[simp] theorem t_lst_int : pIsT "list" (.int i) S = .ok (.pl (.bl false)) := by simp [pIsT, isTy, tyOf]
@[simp] theorem t_lst_bl : pIsT "list" (.bl b) S = .ok (.pl (.bl false)) := by simp [pIsT, isTy, tyOf]
@[simp] theorem t_lst_str : pIsT "list" (.str s) S = .ok (.pl (.bl false)) := by simp [pIsT, isTy, tyOf]
@[simp] theorem t_lst_tup : pIsT "list" (.tup ds) S = .ok (.pl (.bl false)) := by simp [pIsT, isTy, tyOf]
@[simp] theorem t_lst_lst : pIsT "list" (.lst ds) S = .ok (.pl (.bl true)) := by simp [pIsT, isTy, tyOf]
@[simp] theorem t_lst_non : pIsT "list" .non S = .ok (.pl (.bl false)) := by simp [pIsT, isTy, tyOf]
@[simp] theorem t_int_ktup : pIsT "int" (.ktup ds) S = .ok (.pl (.bl false)) := by simp [pIsT, isTy, tyOf]
@[simp] theorem t_bl_ktup : pIsT "bool" (.ktup ds) S = .ok (.pl (.bl false)) := by simp [pIsT, isTy, tyOf]
@[simp] theorem t_str_ktup : pIsT "str" (.ktup ds) S = .ok (.pl (.bl false)) := by simp [pIsT, isTy, tyOf]
@[simp] theorem t_tup_ktup : pIsT "tuple" (.ktup ds) S = .ok (.pl (.bl true)) := by simp [pIsT, isTy, tyOf]
@[simp] theorem t_lst_ktup : pIsT "list" (.ktup ds) S = .ok (.pl (.bl false)) := by simp [pIsT, isTy, tyOf]
@[simp] theorem y_isnon {d : D} : pIs d .non S = .ok (.pl (.bl d.isNon)) := id rfl
@[simp] theorem y_isntnon {d : D} : pIsNot d .non S = .ok (.pl (.bl (!d.isNon))) := id rfl
end
@[simp] theorem non_int {i : Int} : (D.int i).isNon = false := id rfl
@[simp] theorem non_bl {i : Bool} : (D.bl i).isNon = false := id rfl
@[simp] theorem non_str {i : List Nat} : (D.str i).isNon = false := id rfl
@[simp] theorem non_ktup {i : List D} : (D.ktup i).isNon = false := id rfl
@[simp] theorem non_tup {i : List D} : (D.tup i).isNon = false := id rfl
@[simp] theorem non_lst {i : List D} : (D.lst i).isNon = false := id rfl
@[simp] theorem non_non : D.isNon .non = true := id rfl
theorem eqv_int (i j : Int) : eqv (.int i) (.int j) = decide (i = j) := by
  simp only [eqv, D.py, PyData.eqv]
  rfl
@[simp] theorem y_eqI {i j : Int} {S : Store} : pEq (.int i) (.int j) S = .ok (.pl (.bl (decide (i = j)))) := by
  unfold pEq; rw [eqv_int]; simp [D.dat]
@[simp] theorem y_neI {i j : Int} {S : Store} : pNe (.int i) (.int j) S = .ok (.pl (.bl (!decide (i = j)))) := by
  unfold pNe; rw [eqv_int]; simp [D.dat]
mutual
theorem eqv_refl' : ∀ (n : Nat) (d : D), d.dat n = true → PyData.eqv d.py d.py = true
  | _, .non, _ => by simp [D.py, PyData.eqv]
  | _, .bl _, _ => by simp [D.py, PyData.eqv]
  | _, .int _, _ => by simp [D.py, PyData.eqv]
  | _, .str _, _ => by simp [D.py, PyData.eqv]
  | n, .tup ds, h => by
    cases n with
    | zero => simp [D.dat] at h
    | succ m => simp [D.dat] at h; simp [D.py, PyData.eqv, eqvs_refl' m ds h]
  | n, .ktup ds, h => by
    cases n with
    | zero => simp [D.dat] at h
    | succ m => simp [D.dat] at h; simp [D.py, PyData.eqv, eqvs_refl' m ds h]
  | n, .lst ds, h => by
    cases n with
    | zero => simp [D.dat] at h
    | succ m => simp [D.dat] at h; simp [D.py, PyData.eqv, eqvs_refl' m ds h]
  | _, .dct _ _ _, h => by simp [D.dat] at h
  | _, .ref _, h => by simp [D.dat] at h
  | _, .scr _, h => by simp [D.dat] at h
theorem eqvs_refl' : ∀ (n : Nat) (ds : List D), D.dats n ds = true → PyData.eqvAll (D.pys ds) (D.pys ds) = true
  | _, [], _ => by simp [D.pys, PyData.eqvAll]
  | n, d :: ds, h => by
    simp [D.dats] at h
    simp [D.pys, PyData.eqvAll, eqv_refl' n d h.1, eqvs_refl' n ds h.2]
end
theorem eqv_refl {d : D} (h : d.dat 64 = true) : eqv d d = true := eqv_refl' 64 d h
theorem y_eq_refl {d : D} {S : Store} (h : d.dat 64 = true) : pEq d d S = .ok (.pl (.bl true)) := by
  unfold pEq; rw [if_pos ⟨h, h⟩, eqv_refl h]
theorem y_ne_refl {d : D} {S : Store} (h : d.dat 64 = true) : pNe d d S = .ok (.pl (.bl false)) := by
  unfold pNe; rw [if_pos ⟨h, h⟩, eqv_refl h]; rfl
theorem dats_ints (n : Nat) : ∀ ns : List Int, D.dats n (intsD ns) = true
  | [] => rfl
  | i :: r => by
    have := dats_ints n r
    unfold intsD at this ⊢
    simp [D.dats, D.dat, this]
theorem dat_lints {n : Nat} {ns : List Int} : D.dat (n + 1) (.lst (intsD ns)) = true := by simp [D.dat, dats_ints]
theorem dat_tints {n : Nat} {ns : List Int} : D.dat (n + 1) (.tup (intsD ns)) = true := by simp [D.dat, dats_ints]
mutual
theorem dat_mono : ∀ (n : Nat) (d : D), d.dat n = true → d.dat (n + 1) = true
  | _, .non, _ => by simp [D.dat]
  | _, .bl _, _ => by simp [D.dat]
  | _, .int _, _ => by simp [D.dat]
  | _, .str _, h => by simpa [D.dat] using h
  | n, .tup ds, h => by
    cases n with
    | zero => simp [D.dat] at h
    | succ m => simp [D.dat] at h ⊢; exact dats_mono m ds h
  | n, .ktup ds, h => by
    cases n with
    | zero => simp [D.dat] at h
    | succ m => simp [D.dat] at h ⊢; exact dats_mono m ds h
  | n, .lst ds, h => by
    cases n with
    | zero => simp [D.dat] at h
    | succ m => simp [D.dat] at h ⊢; exact dats_mono m ds h
  | _, .dct _ _ _, h => by simp [D.dat] at h
  | _, .ref _, h => by simp [D.dat] at h
  | _, .scr _, h => by simp [D.dat] at h
theorem dats_mono : ∀ (n : Nat) (ds : List D), D.dats n ds = true → D.dats (n + 1) ds = true
  | _, [], _ => by simp [D.dats]
  | n, d :: ds, h => by
    simp [D.dats] at h ⊢
    exact ⟨dat_mono n d h.1, dats_mono n ds h.2⟩
end
theorem dat_le {n m : Nat} {d : D} (h : d.dat n = true) (l : n ≤ m) : d.dat m = true := by
  induction l with
  | refl => exact h
  | step _ ih => exact dat_mono _ _ ih
theorem dats_all : ∀ (n : Nat) (ds : List D), D.dats n ds = ds.all fun d => d.dat n
  | _, [] => rfl
  | n, d :: ds => by simp [D.dats, dats_all n ds]
end Mp

namespace Mp
open PySem

def cupB (c1 c2 c3 c4 c5 : Int) (F : CallI) : SDen := sSeq (sSet 1 (eUn pAbs (eBin pIdx (eBin pAdd (eUn pList (eVar 0)) (eLst (aCons (eC (.int 0)) (aNil)))) (eC (.int 0))))) (sRet (eNew (eLst (aCons (eIf (cVal (eBin (pGe) (eVar 1) (eBin pPow (eC (.int 10)) (eC (.int 18))))) (eBin pFdiv (eVar 1) (eC (.int c1))) (eC (.int 0))) (aCons (eBin pAdd (eBin pMod (eUn pInt (eBin pAdd (eBin pMul (eVar 1) (eC (.int c2))) (eC (.int c3)))) (eC (.int c4))) (eC (.int c5))) (aNil))))))
def rollB (c1 c2 c3 c4 c5 c6 : Int) (F : CallI) : SDen := sSeq (sIf (cVal (eBin (pGt) (eBin pIdx (eVar 0) (eC (.int 0))) (eC (.int 0)))) (sSeq (sSet 2 (eBin pMod (eUn pInt (eBin pIdx (eVar 0) (eC (.int 0)))) (eVar 1))) (sSeq (sPut (eVar 0) (eC (.int 0)) (eBin pFdiv (eBin pIdx (eVar 0) (eC (.int 0))) (eVar 1))) (sRet (eVar 2)))) (sNil)) (sSeq (sPut (eVar 0) (eC (.int 1)) (eBin pMod (eUn pInt (eBin pAdd (eBin pMul (eBin pIdx (eVar 0) (eC (.int 1))) (eC (.int c1))) (eC (.int c2)))) (eC (.int c3)))) (sSeq (sSet 3 (eBin pMod (eUn pInt (eBin pMul (eBin pIdx (eVar 0) (eC (.int 1))) (eBin pAdd (eBin pIdx (eVar 0) (eC (.int 1))) (eC (.int c4))))) (eC (.int c5)))) (sRet (eBin pMod (eUn pInt (eBin pFdiv (eVar 3) (eC (.int c6)))) (eVar 1)))))
def someB (kr : Nat) (F : CallI) : SDen := sRet (eBin pIdx (eVar 1) (eCall F kr (aCons (eVar 0) (aCons (eUn pLen (eVar 1)) (aNil)))))
def sortB (F : CallI) : SDen := sSeq (sIf (cOr (cVal (eBin (pIs) (eVar 0) (eC .non))) (cVal (eUn (pIsT "bool") (eVar 0)))) (sRet (eIf (cVal (eBin (pIs) (eVar 0) (eC .non))) (eC (.int 0)) (eC (.int 1)))) (sNil)) (sSeq (sIf (cOr (cVal (eUn (pIsT "int") (eVar 0))) (cVal (eUn (pIsT "str") (eVar 0)))) (sRet (eIf (cVal (eUn (pIsT "int") (eVar 0))) (eC (.int 2)) (eC (.int 3)))) (sNil)) (sRet (eIf (cVal (eUn (pIsT "tuple") (eVar 0))) (eC (.int 4)) (eIf (cVal (eUn (pIsT "list") (eVar 0))) (eC (.int 5)) (eC (.int 6))))))
def likeB (ks kl : Nat) (F : CallI) : SDen := sSeq (sSet 2 (eCall F ks (aCons (eVar 1) (aNil)))) (sSeq (sIf (cOr (cVal (eBin (pNe) (eCall F ks (aCons (eVar 0) (aNil))) (eVar 2))) (cVal (eBin (pEq) (eVar 2) (eC (.int 6))))) (sRet (eC (.bl false))) (sNil)) (sSeq (sIf (cVal (eBin (pIn false) (eVar 2) (eTup (aCons (eC (.int 4)) (aCons (eC (.int 5)) (aNil)))))) (sRet (eAnd (eBin (pEq) (eUn pLen (eVar 0)) (eUn pLen (eVar 1))) (eBin (pEq) (eComp [3, 4] (iZip (aCons (eVar 0) (aCons (eVar 1) (aNil)))) (tTup 2 (tsCons (tName 3) (tsCons (tName 4) (tsNil)))) (cNot (cVal (eCall F kl (aCons (eVar 3) (aCons (eVar 4) (aNil)))))) (eC (.int 1))) (eLst (aNil))))) (sNil)) (sRet (eBin (pEq) (eVar 0) (eVar 1)))))

section
variable {tab : Nat → Option FnD} {wf n : Nat} {S : Store}
def sortD : D → Int
  | .non => 0
  | .bl _ => 1
  | .int _ => 2
  | .str _ => 3
  | .tup _ => 4
  | .ktup _ => 4
  | .lst _ => 5
  | _ => 6
theorem sort_ok {ks : Nat} (h : tab ks = some ⟨1, 1, sortB⟩) {m : Nat} {d : D} (hd : d.dat m = true) : callF tab wf (n + 1) ks [d] S = .ok (false, .int (sortD d), S) := by
  rw [call_by h rfl]
  cases d with
  | dct _ _ _ => simp [D.dat] at hd
  | ref _ => simp [D.dat] at hd
  | scr _ => simp [D.dat] at hd
  | _ => simp [sortB, sortD]
theorem in45 {i : Int} : pIn false (.int i) (.tup [.int 4, .int 5]) S = .ok (.pl (.bl (decide (i = 4) || decide (i = 5)))) := by
  unfold pIn
  simp only [D.dat, D.dats, Bool.and_self, and_self, if_true, List.any_cons, List.any_nil, eqv_int, Bool.or_false]
  simp [eq_comm]
theorem comp_none {T : TDen} {C : CDen} {a : Den} {ε0 : Env} {vs : List Nat} : ∀ (xs acc : List D), (∀ x ∈ xs, ∃ ε1, T x ε0 = .ok ε1 ∧ C ε1 S = .ok (false, ε1, S) ∧ wipe ε1 vs = ε0) → compGo vs T C a ε0 xs S acc = .ok (acc, S)
  | [], acc, _ => rfl
  | x :: xs, acc, h => by
    obtain ⟨ε1, e1, e2, e3⟩ := h x (by simp)
    unfold compGo
    rw [e1]
    simp only [ok_bind]
    rw [e2]
    simp only [ok_bind, e3, and_self, if_true]
    exact comp_none xs acc fun y hy => h y (by simp [hy])
theorem zip_self : ∀ (ds : List D) (x : D), x ∈ zipItems ds ds → ∃ d ∈ ds, x = .tup [d, d]
  | [], x, h => by simp [zipItems] at h
  | d :: ds, x, h => by
    simp only [zipItems, List.zipWith_cons_cons, List.mem_cons] at h
    rcases h with h | h
    · exact ⟨d, by simp, h⟩
    · obtain ⟨e, he, q⟩ := zip_self ds x h
      exact ⟨e, by simp [he], q⟩
theorem like_ok {ks kl : Nat} (hs : tab ks = some ⟨1, 1, sortB⟩) (hl : tab kl = some ⟨2, 5, likeB ks kl⟩) : ∀ (k n : Nat) (d : D), d.dat k = true → k ≤ 60 → callF tab wf (n + k + 2) kl [d, d] S = .ok (false, .bl true, S)
  | k, n, d, hd, hk => by
    have key : ∀ (m : Nat) (ds : List D), m + 1 = k → D.dats m ds = true → compGo [3, 4] (tTup 2 (tsCons (tName 3) (tsCons (tName 4) tsNil))) (cNot (cVal (eCall ⟨callF tab wf (n + k + 1), wf⟩ kl (aCons (eVar 3) (aCons (eVar 4) aNil))))) (eC (.int 1)) [some (.pl d), some (.pl d), some (.pl (.int (sortD d))), none, none] (zipItems ds ds) S [] = .ok ([], S) := by
      intro m ds hm hds
      refine comp_none _ _ fun x hx => ?_
      obtain ⟨e, he, rfl⟩ := zip_self ds x hx
      have hde : e.dat m = true := by
        rw [dats_all, List.all_eq_true] at hds
        exact hds e he
      have ih := like_ok hs hl m n e hde (by omega)
      have e1 : n + m + 2 = n + k + 1 := by omega
      rw [e1] at ih
      refine ⟨[some (.pl d), some (.pl d), some (.pl (.int (sortD d))), some (.pl e), some (.pl e)], by simp, by simp [ih], by simp [wipe]⟩
    have so : callF tab wf (n + k + 1) ks [d] S = .ok (false, .int (sortD d), S) := sort_ok hs hd
    have hnil : pEq (.lst []) (.lst []) S = .ok (.pl (.bl true)) := y_eq_refl rfl
    rw [show n + k + 2 = (n + k + 1) + 1 from rfl, call_by hl rfl]
    cases d with
    | dct _ _ _ => simp [D.dat] at hd
    | ref _ => simp [D.dat] at hd
    | scr _ => simp [D.dat] at hd
    | tup ds =>
      cases k with
      | zero => simp [D.dat] at hd
      | succ m =>
        have kk := key m ds rfl (by simpa [D.dat] using hd)
        simp only [sortD] at so kk
        simp [likeB, so, sortD, in45, wipe, kk, hnil]
    | ktup ds =>
      cases k with
      | zero => simp [D.dat] at hd
      | succ m =>
        have kk := key m ds rfl (by simpa [D.dat] using hd)
        simp only [sortD] at so kk
        simp [likeB, so, sortD, in45, wipe, kk, hnil]
    | lst ds =>
      cases k with
      | zero => simp [D.dat] at hd
      | succ m =>
        have kk := key m ds rfl (by simpa [D.dat] using hd)
        simp only [sortD] at so kk
        simp [likeB, so, sortD, in45, wipe, kk, hnil]
    | non => simp only [sortD] at so; simp [likeB, so, sortD, in45, y_eq_refl (d := .non) rfl]
    | bl b => simp only [sortD] at so; simp [likeB, so, sortD, in45, y_eq_refl (d := .bl b) rfl]
    | int b => simp only [sortD] at so; simp [likeB, so, sortD, in45]
    | str b => simp only [sortD] at so; simp [likeB, so, sortD, in45, y_eq_refl (d := .str b) (dat_le hd (by omega))]
  termination_by k => k
  decreasing_by omega
abbrev cupO (a b : Int) : Obj := .lst [.int a, .int b]
theorem roll_ok {kr j : Nat} {c1 c2 c3 c4 c5 c6 : Int} (h : tab kr = some ⟨2, 4, rollB c1 c2 c3 c4 c5 c6⟩) (h1 : 0 ≤ c1 ∧ c1 < 2 ^ 62) (h3 : 0 < c3 ∧ c3 < 2 ^ 62) (h4 : 0 ≤ c4 ∧ c4 < 2 ^ 62) (h5 : 0 < c5 ∧ c5 < 2 ^ 62) (h6 : 0 < c6 ∧ c6 < 2 ^ 62)
    {m a b : Int} (hm : 0 < m ∧ m < 2 ^ 62) (hS : S[j]? = some (cupO a b)) : ∃ r a' b', callF tab wf (n + 1) kr [.ref j, .int m] S = .ok (false, .int r, S.set j (cupO a' b')) ∧ 0 ≤ r ∧ r < m := by
  have lg : ∀ c : Int, 0 < c ∧ c < 2 ^ 62 → c.natAbs.log2 < 9000 := fun c hc => log2_lt c 62 (by omega) (by omega) (by omega)
  have hj : j < S.length := (List.getElem?_eq_some_iff.mp hS).1
  rw [call_by h rfl]
  by_cases ha : 0 < a
  · refine ⟨a % m, a / m, b, ?_, Int.emod_nonneg _ (by omega), Int.emod_lt_of_pos _ hm.1⟩
    have i0 : L2.ixN 2 0 = some 0 := rfl
    simp [rollB, hS, ha, y_mod hm.1, y_fdiv hm.1 (lg m hm), i0]
  · generalize hb' : (b * c1 + c2) % c3 = b'
    have r0 : 0 ≤ b' := by rw [← hb']; exact Int.emod_nonneg _ (by omega)
    have r1 : b' < c3 := by rw [← hb']; exact Int.emod_lt_of_pos _ h3.1
    have i1 : L2.ixN 2 1 = some 1 := rfl
    have g1 : (S.set j (.lst [.int a, .int b']))[j]? = some (.lst [.int a, .int b']) := by rw [List.getElem?_set_self hj]
    have m1 : mulOk b c1 = true := mulOk_r (by omega)
    have m2 : mulOk b' (b' + c4) = true := mulOk_l (by omega)
    refine ⟨(b' * (b' + c4) % c5 / c6) % m, a, b', ?_, Int.emod_nonneg _ (by omega), Int.emod_lt_of_pos _ hm.1⟩
    simp [rollB, hS, ha, y_mod hm.1, y_mod h3.1, y_mod h5.1, y_fdiv h6.1 (lg c6 h6), i1, m1, hb', g1, m2]
theorem cup_ok {kc : Nat} {c1 c2 c3 c4 c5 : Int} (h : tab kc = some ⟨1, 2, cupB c1 c2 c3 c4 c5⟩) (h1 : 0 < c1 ∧ c1 < 2 ^ 62) (h2 : 0 ≤ c2 ∧ c2 < 2 ^ 62) (h4 : 0 < c4) {ns : List Int} (hn : ns.length ≤ 63) :
    ∃ a b, callF tab wf (n + 1) kc [.scr ns] S = .ok (false, .ref S.length, S ++ [cupO a b]) := by
  rw [call_by h rfl]
  have hp : pPow (.int 10) (.int 18) S = .ok (.pl (.int (10 ^ 18))) := y_pow (by omega) (by omega) (by decide)
  have lg : c1.natAbs.log2 < 9000 := log2_lt c1 62 (by omega) (by omega) (by omega)
  obtain ⟨x, r, hx⟩ : ∃ x r, intsD ns ++ [D.int 0] = .int x :: r := by
    cases ns with
    | nil => exact ⟨0, [], rfl⟩
    | cons i r => exact ⟨i, intsD r ++ [.int 0], rfl⟩
  have hz : ns.length + 1 ≤ 16777216 := by omega
  have hx' : ns.map D.int ++ [D.int 0] = .int x :: r := hx
  have m1 : ∀ y : Int, mulOk y c2 = true := fun y => mulOk_r (by omega)
  have e0 : eBin pIdx (eBin pAdd (eUn pList (eVar 0)) (eLst (aCons (eC (.int 0)) (aNil)))) (eC (.int 0)) [some (.pl (.scr ns)), none] S = .ok (.pl (.int x), [some (.pl (.scr ns)), none], S) := by
    simp [hz, hx']
  generalize hy : (if x < 0 then -x else x) = y
  have e1 : sSet 1 (eUn pAbs (eBin pIdx (eBin pAdd (eUn pList (eVar 0)) (eLst (aCons (eC (.int 0)) (aNil)))) (eC (.int 0)))) [some (.pl (.scr ns)), none] S = .ok (.nx [some (.pl (.scr ns)), some (.pl (.int y))] S) := by
    rw [x_set, x_un, e0]; simp [hy]
  by_cases hc : (10 : Int) ^ 18 ≤ y
  · refine ⟨y / c1, (y * c2 + c3) % c4 + c5, ?_⟩
    show (cupB c1 c2 c3 c4 c5 _ [some (.pl (.scr ns)), none] S >>= _) = _
    unfold cupB
    rw [x_sseq, e1]
    have hc' : (1000000000000000000 : Int) ≤ y := hc
    simp [hp, hc', y_fdiv h1.1 lg, y_mod h4, m1]
  · refine ⟨0, (y * c2 + c3) % c4 + c5, ?_⟩
    show (cupB c1 c2 c3 c4 c5 _ [some (.pl (.scr ns)), none] S >>= _) = _
    unfold cupB
    rw [x_sseq, e1]
    have hc' : ¬ (1000000000000000000 : Int) ≤ y := hc
    simp [hp, hc', y_mod h4, m1]
end
end Mp

namespace Mp
open PySem

/-- the list f 0, .., f (n - 1) -/
def tabl {α : Type} (n : Nat) (f : Nat → α) : List α := (List.range n).map f
section
variable {α : Type} {n k : Nat} {f g : Nat → α} {v : α}
@[simp] theorem tabl_len : (tabl n f).length = n := by simp [tabl]
theorem tabl_get (h : k < n) : (tabl n f)[k]? = some (f k) := by
  unfold tabl; rw [List.getElem?_map, List.getElem?_range h]; rfl
theorem tabl_none (h : n ≤ k) : (tabl n f)[k]? = none := by simp [tabl, h]
theorem tabl_get? : (tabl n f)[k]? = if k < n then some (f k) else none := by
  by_cases h : k < n
  · rw [tabl_get h, if_pos h]
  · rw [tabl_none (by omega), if_neg h]
theorem tabl_ext (h : ∀ k, k < n → f k = g k) : tabl n f = tabl n g := by
  apply List.ext_getElem?
  intro k
  rw [tabl_get?, tabl_get?]
  by_cases q : k < n
  · rw [if_pos q, if_pos q, h k q]
  · rw [if_neg q, if_neg q]
theorem tabl_eq {l : List α} (hl : l.length = n) (h : ∀ k, k < n → l[k]? = some (f k)) : l = tabl n f := by
  apply List.ext_getElem?
  intro k
  rw [tabl_get?]
  by_cases q : k < n
  · rw [if_pos q, h k q]
  · rw [if_neg q, List.getElem?_eq_none (by omega)]
theorem tabl_snoc : tabl n f ++ [f n] = tabl (n + 1) f := by simp [tabl, List.range_succ]
theorem tabl_set (h : k < n) : (tabl n f).set k v = tabl n (fun j => if j = k then v else f j) := by
  refine tabl_eq (by simp) fun j hj => ?_
  rw [List.getElem?_set]
  by_cases q : k = j
  · subst q; simp [hj]
  · rw [if_neg q, tabl_get hj, if_neg (fun e => q e.symm)]
theorem tabl_map {β : Type} {φ : α → β} : (tabl n f).map φ = tabl n (fun k => φ (f k)) := by simp [tabl]
theorem tabl_intsD {f : Nat → Int} : intsD (tabl n f) = tabl n (fun k => D.int (f k)) := by simp [intsD, tabl]
end
theorem idxL {xs : List D} {i : Int} {k : Nat} {d : D} {S : Store} (h : i = (k : Int)) (g : xs[k]? = some d) : pIdx (.lst xs) (.int i) S = .ok (.pl d) := by
  subst h; simp [g]
theorem idxT {xs : List D} {i : Int} {k : Nat} {d : D} {S : Store} (h : i = (k : Int)) (g : xs[k]? = some d) : pIdx (.tup xs) (.int i) S = .ok (.pl d) := by
  subst h; simp [g]
theorem intsD_tabl_get {n k : Nat} {f : Nat → Int} (h : k < n) : (intsD (tabl n f))[k]? = some (.int (f k)) := by rw [intsD_get, tabl_get h]; rfl
theorem ixN_of {n k : Nat} {i : Int} (h : i = (k : Int)) (hk : k < n) : L2.ixN n i = some k := by subst h; exact ixN_ofNat hk
theorem intsD_enum {ns : List Int} {i : Nat} {d : D} (h : (enumFrom 0 (intsD ns))[i]? = some d) : ∃ x, ns[i]? = some x ∧ d = .tup [.int i, .int x] := by
  rw [enumFrom_get, intsD_get] at h
  cases q : ns[i]? with
  | none => rw [q] at h; simp at h
  | some x =>
    rw [q] at h
    simp at h
    exact ⟨x, rfl, h.symm⟩
theorem intsD_at {ns : List Int} {i : Nat} {d : D} (h : (intsD ns)[i]? = some d) : ∃ x, ns[i]? = some x ∧ d = .int x := by
  rw [intsD_get] at h
  cases q : ns[i]? with
  | none => rw [q] at h; simp at h
  | some x =>
    rw [q] at h
    simp at h
    exact ⟨x, rfl, h.symm⟩
/-- a comprehension whose items are only known by what they satisfy, over a store that may change -/
theorem comp_ex {T : TDen} {C : CDen} {a : Den} {ε0 : Env} {vs : List Nat} (Q : Store → Prop) (R : D → Prop) : ∀ (xs acc : List D) (S : Store), Q S → acc.length + xs.length ≤ 16777216 →
    (∀ (x : D) (S : Store), x ∈ xs → Q S → ∃ ε1 y S', T x ε0 = .ok ε1 ∧ C ε1 S = .ok (true, ε1, S) ∧ wipe ε1 vs = ε0 ∧ (a ε1 S = .ok (.pl y, ε1, S') ∨ a ε1 S = .ok (.fr y, ε1, S')) ∧ Q S' ∧ R y) →
    ∃ ys S', compGo vs T C a ε0 xs S acc = .ok (acc ++ ys, S') ∧ Q S' ∧ ys.length = xs.length ∧ ∀ y ∈ ys, R y
  | [], acc, S, q, _, _ => ⟨[], S, by simp [compGo], q, rfl, by simp⟩
  | x :: xs, acc, S, q, hz, hs => by
    obtain ⟨ε1, y, S', e1, e2, e3, e4, q', ry⟩ := hs x S (by simp) q
    obtain ⟨ys, S2, e5, q2, hl, hr⟩ := comp_ex Q R xs (acc ++ [y]) S' q' (by simp at hz ⊢; omega) fun x S hx q => hs x S (by simp [hx]) q
    refine ⟨y :: ys, S2, ?_, q2, by simp [hl], ?_⟩
    · have hz' : acc.length < 16777216 := by simp at hz; omega
      unfold compGo
      rw [e1]
      simp only [ok_bind]
      rw [e2]
      simp only [ok_bind, e3, and_self, if_true]
      rcases e4 with e4 | e4
      · rw [e4]
        simp only [ok_bind, hz', and_self, if_true]
        rw [e5]; simp
      · rw [e4]
        simp only [ok_bind, hz', and_self, if_true]
        rw [e5]; simp
    · intro z hz
      rcases List.mem_cons.mp hz with rfl | hz
      · exact ry
      · exact hr z hz
theorem ints_of {P : Int → Prop} : ∀ (ys : List D), (∀ y ∈ ys, ∃ i, y = .int i ∧ P i) → ∃ ns, ys = intsD ns ∧ ∀ i ∈ ns, P i
  | [], _ => ⟨[], rfl, by simp⟩
  | y :: ys, h => by
    obtain ⟨i, rfl, p⟩ := h y (by simp)
    obtain ⟨ns, rfl, q⟩ := ints_of ys fun z hz => h z (by simp [hz])
    exact ⟨i :: ns, rfl, by simpa using ⟨p, q⟩⟩
def sumN (n : Nat) (f : Nat → Int) : Int := match n with
  | 0 => 0
  | n + 1 => sumN n f + f n
theorem sumN_ext {n : Nat} {f g : Nat → Int} (h : ∀ k, k < n → f k = g k) : sumN n f = sumN n g := by
  induction n with
  | zero => rfl
  | succ n ih =>
    show sumN n f + f n = sumN n g + g n
    rw [ih fun k hk => h k (by omega), h n (by omega)]
theorem sumN_add {n : Nat} {f g : Nat → Int} : sumN n (fun k => f k + g k) = sumN n f + sumN n g := by
  induction n with
  | zero => rfl
  | succ n ih => simp only [sumN, ih]; omega
theorem sumN_mul {n : Nat} {f : Nat → Int} {c : Int} : sumN n (fun k => f k * c) = sumN n f * c := by
  induction n with
  | zero => simp [sumN]
  | succ n ih => simp only [sumN, ih, Int.add_mul]
theorem sumN_zero {n : Nat} {f : Nat → Int} (h : ∀ k, k < n → f k = 0) : sumN n f = 0 := by
  induction n with
  | zero => rfl
  | succ n ih => simp only [sumN, ih fun k hk => h k (by omega), h n (by omega)]; rfl
/-- the first term by itself -/
theorem sumN_front {n : Nat} {f : Nat → Int} : sumN (n + 1) f = f 0 + sumN n (fun k => f (k + 1)) := by
  induction n with
  | zero => simp [sumN]
  | succ n ih =>
    show sumN (n + 1) f + f (n + 1) = f 0 + (sumN n (fun k => f (k + 1)) + f (n + 1))
    rw [ih]; omega
/-- terms beyond m are 0 -/
theorem sumN_cut {n m : Nat} {f : Nat → Int} (h : m ≤ n) (z : ∀ k, m ≤ k → k < n → f k = 0) : sumN n f = sumN m f := by
  induction n with
  | zero => have : m = 0 := by omega
            subst this; rfl
  | succ n ih =>
    by_cases q : m = n + 1
    · rw [q]
    · show sumN n f + f n = _
      rw [z n (by omega) (by omega), ih (by omega) fun k a b => z k a (by omega)]; omega
theorem sumN_rev {n : Nat} {f : Nat → Int} : sumN n f = sumN n (fun k => f (n - 1 - k)) := by
  induction n with
  | zero => rfl
  | succ n ih =>
    rw [sumN_front (f := fun k => f (n + 1 - 1 - k))]
    show sumN n f + f n = _
    rw [ih]
    have e : sumN n (fun k => f (n - 1 - k)) = sumN n (fun k => f (n + 1 - 1 - (k + 1))) := sumN_ext fun k hk => by congr 1; omega
    rw [e]
    simp only [Nat.add_sub_cancel, Nat.sub_zero]
    omega
theorem sum_tabl {n : Nat} {f : Nat → Int} : (tabl n f).sum = sumN n f := by
  induction n with
  | zero => rfl
  | succ n ih => rw [← tabl_snoc, List.sum_append, ih]; simp [sumN]
end Mp

namespace Mp
open PySem PySem.Spec PyProof.Rows L2

def lexE (ns ms : List Int) (j : Nat) : Bool := decide (ns.getD j 0 = ms.getD j 0)
def lexLt (ns ms : List Int) : Bool := Ob.lexAt (lexE ns ms) (fun j => decide (ns.getD j 0 < ms.getD j 0)) (decide (ns.length < ms.length)) 0 (min ns.length ms.length)
def lexLe (ns ms : List Int) : Bool := Ob.lexAt (lexE ns ms) (fun j => decide (ns.getD j 0 ≤ ms.getD j 0)) (decide (ns.length ≤ ms.length)) 0 (min ns.length ms.length)
def rLtT (K : PySem.W.Frag) : R2 := fun x y H Q => ∃ (a b : Addr) (ns ms : List Int), x = .ref a ∧ y = .ref b ∧ SqT K H a (ns.map V.int) ∧ SqT K H b (ms.map V.int) ∧ Q (.bl (lexLt ns ms)) H
theorem op_ltT {X : Cx} (hu : X.A.units < cLine) : OpR X (compareOp .Lt) (rLtT X.K) := by
  intro pins s σ H x y v u Q I rx ry h
  obtain ⟨a, b, ns, ms, rfl, rfl, ha, hb, q⟩ := h
  cases rx
  cases ry
  obtain ⟨its, r1, p1, _⟩ := I.tuple ha
  obtain ⟨its2, r2, p2, _⟩ := I.tuple hb
  have i1 : IntsAre its ns := Vals.ints r1
  have i2 : IntsAre its2 ms := Vals.ints r2
  have e1 : its.toArray.size = ns.length := by rw [List.size_toArray]; exact i1.length
  have e2 : its2.toArray.size = ms.length := by rw [List.size_toArray]; exact i2.length
  have at1 : ∀ j (h1 : j < its.toArray.size), ∃ t, its.toArray[j] = .int (ns.getD j 0) t := fun j h1 => PyProof.Rows.IntsAre.int_at i1 _ _ (by simp at h1; simp [h1])
  have at2 : ∀ j (h1 : j < its2.toArray.size), ∃ t, its2.toArray[j] = .int (ms.getD j 0) t := fun j h1 => PyProof.Rows.IntsAre.int_at i2 _ _ (by simp at h1; simp [h1])
  have R := Ob.RcOp.tuples_lt (A := X.A) (s := s) (e := lexE ns ms) (r := fun j => decide (ns.getD j 0 < ms.getD j 0)) p1 p2 hu (fun j h1 h2 => by
    obtain ⟨t, et⟩ := at1 j h1
    obtain ⟨t', et'⟩ := at2 j h2
    rw [et, et']
    have z : (ns.getD j 0 == ms.getD j 0) = lexE ns ms j := by
      unfold lexE
      by_cases q : ns.getD j 0 = ms.getD j 0
      · rw [decide_eq_true q]; exact beq_iff_eq.mpr q
      · rw [decide_eq_false q]; exact beq_eq_false_iff_ne.mpr q
    rw [← z]
    exact SeqAt.EqAt.int_int _ _ _ _) (fun j h1 h2 _ => by
    obtain ⟨t, et⟩ := at1 j h1
    obtain ⟨t', et'⟩ := at2 j h2
    rw [et, et']
    exact Ob.RcOp.lt_int _ _ _ _)
  rw [e1, e2] at R
  have z : wpAny (model X.prog X.w) X.A (compareOp .Lt (.ref a) (.ref b)) (EP X pins σ Q) X.xe s := R X.prog X.w X.xe (EP X pins σ Q) ⟨.bl _, H, I, rfl, q⟩
  exact z
def pLtA (x y : D) (_ : Store) : Rs RV := match x, y with
  | .int i, .int j => .ok (.pl (.bl (decide (i < j))))
  | .tup a, .tup b => match intsOf a, intsOf b with
    | some ns, some ms => .ok (.pl (.bl (lexLt ns ms)))
    | _, _ => .no
  | _, _ => .no
def pLeA (x y : D) (_ : Store) : Rs RV := match x, y with
  | .int i, .int j => .ok (.pl (.bl (decide (i ≤ j))))
  | .tup a, .tup b => match intsOf a, intsOf b with
    | some ns, some ms => .ok (.pl (.bl (lexLe ns ms)))
    | _, _ => .no
  | _, _ => .no
section
variable {X : Cx} {cl : Nat → Addr} {e a b c : Expr} {Ea Eb Ec : Den} {pos p : Pos}
def rLtA (K : PySem.W.Frag) : R2 := fun x y H Q => rI0 (fun i j => .bl (decide (i < j))) x y H Q ∨ rLtT K x y H Q
def rLeA (K : PySem.W.Frag) : R2 := fun x y H Q => rI0 (fun i j => .bl (decide (i ≤ j))) x y H Q ∨ rLeT K x y H Q
theorem or_lt (hu : X.A.units < cLine) : OpR X (compareOp .Lt) (rLtA X.K) := OpR.or op_lt (op_ltT hu)
theorem or_le (hu : X.A.units < cLine) : OpR X (compareOp .LtE) (rLeA X.K) := OpR.or op_le (op_leT hu)
theorem ok_ltA : OpOk (kx X cl) pLtA (rLtA X.K) := by
  intro x y S rv v w R H Q e g rx ry k
  unfold pLtA at e
  split at e
  · cases e; exact .inl ⟨_, _, rx.int, ry.int, res_pl k rfl⟩
  · split at e
    · rename_i ns ms h1 h2
      cases e
      have d1 := intsOf_eq h1
      have d2 := intsOf_eq h2
      subst d1 d2
      obtain ⟨p, vs, rfl, hp, rp⟩ := rx.tup g
      obtain ⟨q, ws, rfl, hq, rq⟩ := ry.tup g
      cases rp.ints
      cases rq.ints
      exact .inr ⟨p, q, _, _, rfl, rfl, hp, hq, res_pl k rfl⟩
    · cases e
  · cases e
theorem ok_leA : OpOk (kx X cl) pLeA (rLeA X.K) := by
  intro x y S rv v w R H Q e g rx ry k
  unfold pLeA at e
  split at e
  · cases e; exact .inl ⟨_, _, rx.int, ry.int, res_pl k rfl⟩
  · split at e
    · rename_i ns ms h1 h2
      cases e
      have d1 := intsOf_eq h1
      have d2 := intsOf_eq h2
      subst d1 d2
      obtain ⟨p, vs, rfl, hp, rp⟩ := rx.tup g
      obtain ⟨q, ws, rfl, hq, rq⟩ := ry.tup g
      cases rp.ints
      cases rq.ints
      exact .inr ⟨p, q, _, _, rfl, rfl, hp, hq, res_pl k rfl⟩
    · cases e
  · cases e
def eSm (f : List Nat → D → Rs D) (o a : Den) : Den := fun ε S => do
  let (r1, ε1, S1) ← o ε S
  match ← r1.get ε1 with
  | .str s => do
    let (r2, ε2, S2) ← a ε1 S1
    let y ← r2.get ε2
    let d ← f s y
    .ok (.pl d, ε2, S2)
  | _ => .no
def SmOk (K : Kc) (f : List Nat → D → Rs D) (r : V → List V → Hp → VK → Prop) : Prop :=
  ∀ s y d v S R H Q, f s y = .ok d → GR K R S H → VR K R H y v → (∀ v', Rep K R d v' → Q v' H) → r (.str ⟨s.toArray⟩) [v] H Q
theorem ev_sm {f : List Nat → D → Rs D} {r : V → List V → Hp → VK → Prop} (h : PE X e (tM1 r (tOf (kx X cl) Ea) (tOf (kx X cl) Eb))) (ok : SmOk (kx X cl) f r) : PE X e (tOf (kx X cl) (eSm f Ea Eb)) := by
  refine PE.im h fun σ H Q hh => ?_
  obtain ⟨ε, S, R, ω, rv, ε', S', he, s, k⟩ := hh
  obtain ⟨⟨r1, ε1, S1⟩, e1, he⟩ := bind_ok he
  obtain ⟨x, ex, he⟩ := bind_ok he
  refine ⟨ε, S, R, ω, r1, ε1, S1, e1, s, fun v1 R1 ω1 H1 x1 s1 p1 => ?_⟩
  match x, he, ex with
  | .str z, he, ex =>
    have ev := (p1.vr s1 ex).str
    subst ev
    obtain ⟨⟨r2, ε2, S2⟩, e2, he⟩ := bind_ok he
    obtain ⟨y, ey, he⟩ := bind_ok he
    obtain ⟨d, ed, he⟩ := bind_ok he
    cases he
    refine ⟨⟨_, rfl⟩, ε1, S1, R1, ω1, r2, ε', S', e2, s1, fun v2 R2 ω2 H2 x2 s2 p2 => ?_⟩
    exact ok z y d v2 S' R2 H2 Q ed s2.g (p2.vr s2 ey) fun v' rd => k v' R2 ω2 H2 (x1.trans x2) s2 rd
def strsOf : List D → Option (List (List Nat))
  | [] => some []
  | .str s :: r => (strsOf r).map (s :: ·)
  | _ :: _ => none
theorem strsOf_reps {K : Kc} {R : Rc} : ∀ {ds : List D} {ss : List (List Nat)} {vs : List V}, strsOf ds = some ss → Reps K R ds vs → vs = (ss.map fun s => (⟨s.toArray⟩ : Str)).map V.str
  | [], ss, vs, h, r => by
    cases h
    exact r
  | d :: ds, ss, vs, h, r => by
    cases d with
    | str s =>
      simp only [strsOf, Option.map_eq_some_iff] at h
      obtain ⟨ss', h1, rfl⟩ := h
      obtain ⟨v, vr, rfl, r1, r2⟩ := r
      rw [strsOf_reps h1 r2, show v = V.str ⟨s.toArray⟩ from r1]
      rfl
    | _ => simp [strsOf] at h
def fJoin (s : List Nat) (y : D) : Rs D := match y with
  | .lst ds => match strsOf ds with
    | some ss => if (ss.map (·.length)).sum + ss.length * s.length ≤ 16777216 then .ok (.str (TL.joinL s ss)) else .no
    | none => .no
  | .tup ds => match strsOf ds with
    | some ss => if (ss.map (·.length)).sum + ss.length * s.length ≤ 16777216 then .ok (.str (TL.joinL s ss)) else .no
    | none => .no
  | _ => .no
theorem join_is (s : List Nat) (ss : List (List Nat)) : Txt.join ⟨s.toArray⟩ (ss.map fun s => (⟨s.toArray⟩ : Str)) = ⟨(TL.joinL s ss).toArray⟩ := by
  have h := TL.tl_join (⟨s.toArray⟩ : Str) (ss.map fun s => (⟨s.toArray⟩ : Str))
  rw [← TL.join_eq] at h
  have e : (ss.map fun s => (⟨s.toArray⟩ : Str)).map TL.tl = ss := by simp [TL.tl, List.map_map, Function.comp_def]
  rw [e] at h
  have h2 : (Txt.join ⟨s.toArray⟩ (ss.map fun s => (⟨s.toArray⟩ : Str))).cps.toList = TL.joinL s ss := h
  generalize Txt.join ⟨s.toArray⟩ (ss.map fun s => (⟨s.toArray⟩ : Str)) = z at h2 ⊢
  cases z with
  | mk cps =>
    congr 1
    rw [← h2]
theorem ok_join : SmOk (kx X cl) fJoin (fun x xs H Q => ∃ a p, ∃ ys : List Str, x = .str a ∧ xs = [.ref p] ∧ (SqL X.K H p (ys.map V.str) ∨ SqT X.K H p (ys.map V.str)) ∧
      (ys.map (·.length)).sum + ys.length * a.length ≤ 16777216 ∧ Q (.str (Txt.join a ys)) H) := by
  intro s y d v S R H Q e g ry k
  have len : ∀ ss : List (List Nat), ((ss.map fun s => (⟨s.toArray⟩ : Str)).map (·.length)).sum = (ss.map (·.length)).sum := fun ss => by
    simp [List.map_map, Function.comp_def, Str.length]
  unfold fJoin at e
  split at e
  · split at e
    · rename_i ss hs
      split at e
      · rename_i hz
        cases e
        obtain ⟨p, vs, rfl, hp, rp⟩ := ry.lst g
        have ev := strsOf_reps hs rp
        subst ev
        exact ⟨_, p, _, rfl, rfl, .inl (SqL.of hp), by rw [len]; simpa [Str.length] using hz, by rw [join_is]; exact k _ rfl⟩
      · cases e
    · cases e
  · split at e
    · rename_i ss hs
      split at e
      · rename_i hz
        cases e
        obtain ⟨p, vs, rfl, hp, rp⟩ := ry.tup g
        have ev := strsOf_reps hs rp
        subst ev
        exact ⟨_, p, _, rfl, rfl, .inr hp, by rw [len]; simpa [Str.length] using hz, by rw [join_is]; exact k _ rfl⟩
      · cases e
    · cases e
  · cases e
def pRevL (x : D) (_ : Store) : Rs RV := match x with
  | .lst ds => .ok (.fr (.lst ds.reverse))
  | _ => .no
theorem Reps.rev {K : Kc} {R : Rc} : ∀ {ds : List D} {vs : List V}, Reps K R ds vs → Reps K R ds.reverse vs.reverse
  | [], vs, h => by rw [show vs = [] from h]; rfl
  | d :: ds, vs, h => by
    obtain ⟨v, r, rfl, p, q⟩ := h
    rw [List.reverse_cons, List.reverse_cons]
    exact (Reps.rev q).append (.one p)
theorem ok_revL : UnOk (kx X cl) pRevL (fun x H Q => ∃ a xs, x = .ref a ∧ SqL X.K H a xs ∧ ∀ p, H p = none → Q (.ref p) (upd H p (.lst xs.reverse))) := by
  intro x S rv v R H Q e g rx k
  unfold pRevL at e
  split at e
  · cases e
    obtain ⟨p, vs, rfl, hp, rp⟩ := rx.lst g
    exact ⟨p, vs, rfl, SqL.of hp, res_lst g k rp.rev⟩
  · cases e
theorem g_revL {k : Nat} {p1 p2 p3 : Pos} (ha : PE X a (tOf (kx X cl) Ea)) : PE X (.Subscript a (.Slice none none (some (.UnaryOp .USub (.Constant (.int 1) k p1) p2)) p3) pos) (tOf (kx X cl) (eUn pRevL Ea)) :=
  PE.im (pe_revL ha) fun σ H Q hh => un_im ok_revL σ H Q hh
end
end Mp

namespace Mp
open PySem PySem.Spec PyProof.Rows L2

mutual
/-- the value u reads as d, by what K holds -/
def datB (K : PySem.W.Frag) : D → Value → Bool
  | .non, u => match u with | .none => true | _ => false
  | .bl b, u => match u with | .bool c => b == c | _ => false
  | .int i, u => match u with | .int j _ => decide (i = j) | _ => false
  | .str s, u => match u with | .str x _ => decide (x = ⟨s.toArray⟩) | _ => false
  | .ktup ds, u => match u with
    | .ref a => match K.lookup a with
      | some ⟨.type c, _, .seq its _, _⟩ => decide (c = "tuple") && (decide (its.size ≤ sizeLine) && datsB K ds its.toList)
      | _ => false
    | _ => false
  | .tup _, _ => false
  | .lst _, _ => false
  | .dct _ _ _, _ => false
  | .ref _, _ => false
  | .scr _, _ => false
def datsB (K : PySem.W.Frag) : List D → List Value → Bool
  | [], us => match us with | [] => true | _ => false
  | d :: ds, us => match us with | u :: r => datB K d u && datsB K ds r | [] => false
end
mutual
theorem datB_ok {K : PySem.W.Frag} : ∀ (d : D) (u : Value), datB K d u = true → ∃ v, RelV v u ∧ ∀ (cl : Nat → Addr) (R : Rc), Rep ⟨K, cl⟩ R d v
  | .non, u, h => by
    simp only [datB] at h
    split at h
    · exact ⟨.non, rfl, fun _ _ => rfl⟩
    · cases h
  | .bl b, u, h => by
    simp only [datB] at h
    split at h
    · have e := eq_of_beq h
      subst e
      exact ⟨.bl b, rfl, fun _ _ => rfl⟩
    · cases h
  | .int i, u, h => by
    simp only [datB] at h
    split at h
    · rename_i j t
      have e := of_decide_eq_true h
      subst e
      exact ⟨.int i, ⟨t, rfl⟩, fun _ _ => rfl⟩
    · cases h
  | .str s, u, h => by
    simp only [datB] at h
    split at h
    · rename_i x t
      have e := of_decide_eq_true h
      subst e
      exact ⟨.str ⟨s.toArray⟩, ⟨t, rfl⟩, fun _ _ => rfl⟩
    · cases h
  | .ktup ds, u, h => by
    simp only [datB] at h
    split at h
    · rename_i a
      split at h
      · rename_i c od its n osl q
        simp only [Bool.and_eq_true, decide_eq_true_eq] at h
        obtain ⟨h1, h2, h3⟩ := h
        obtain ⟨vs, r1, r2⟩ := datsB_ok ds its.toList h3
        exact ⟨.ref a, rfl, fun cl R => ⟨a, vs, rfl, ⟨_, its, n, q, congrArg Value.type h1, rfl, h2, r1⟩, r2 cl R⟩⟩
      · cases h
    · cases h
  | .tup _, _, h => by simp [datB] at h
  | .lst _, _, h => by simp [datB] at h
  | .dct _ _ _, _, h => by simp [datB] at h
  | .ref _, _, h => by simp [datB] at h
  | .scr _, _, h => by simp [datB] at h
theorem datsB_ok {K : PySem.W.Frag} : ∀ (ds : List D) (us : List Value), datsB K ds us = true → ∃ vs, Vals vs us ∧ ∀ (cl : Nat → Addr) (R : Rc), Reps ⟨K, cl⟩ R ds vs
  | [], us, h => by
    simp only [datsB] at h
    split at h
    · exact ⟨[], .nil, fun _ _ => rfl⟩
    · cases h
  | d :: ds, us, h => by
    simp only [datsB] at h
    split at h
    · simp only [Bool.and_eq_true] at h
      obtain ⟨v, r1, r2⟩ := datB_ok d _ h.1
      obtain ⟨vs, q1, q2⟩ := datsB_ok ds _ h.2
      exact ⟨v :: vs, .cons r1 q1, fun cl R => ⟨v, vs, rfl, r2 cl R, q2 cl R⟩⟩
    · cases h
end
/-- the top's name x stands for d -/
def glB (K : PySem.W.Frag) (x : Str) (d : D) : Bool := match PySem.W.nsIn K mainGlobals x with
  | some (some u) => datB K d u
  | _ => false
def GlD (K : PySem.W.Frag) (mg : Str → Option Value) (x : Str) (d : D) : Prop := ∃ u v, mg x = some u ∧ RelV v u ∧ ∀ (cl : Nat → Addr) (R : Rc), Rep ⟨K, cl⟩ R d v
theorem glB_ok {K : PySem.W.Frag} {h : Heap} {mg : Str → Option Value} (X : K.In h) (G : h.Ns mainGlobals mg) {x : Str} {d : D} (e : glB K x d = true) : GlD K mg x d := by
  unfold glB at e
  split at e
  · rename_i u q
    obtain ⟨v, r1, r2⟩ := datB_ok d u e
    exact ⟨u, v, PySem.W.mg_of X G q, r1, r2⟩
  · cases e
theorem g_cdat {X : Cx} {cl : Nat → Addr} {x : Str} {d : D} {pos : Pos} (h : GlD X.K X.mg x d) (hg : Gl X x) (hd : (x == ("__debug__" : Str)) = false := by decide) : PE X (.Name x pos) (tOf (kx X cl) (eC d)) := by
  obtain ⟨u, v, e, r1, r2⟩ := h
  exact ev_c (v := v) (pe_glob hg e r1 hd) fun R => r2 cl R
abbrev AlE : Type := He.AlD × Bool
def obsE (n : Nat) (fa : List He.Fa) (fn : List He.DefD) (ex : PySem.W.Frag → Bool) (g : Addr → Option PySem.Obj) : AlE := (He.obsD fa fn (He.frG g (He.asD g n)), ex (He.frG g (He.asD g n)))
def hookE (n : Nat) (fa : List He.Fa) (fn : List He.DefD) (ex : PySem.W.Frag → Bool) : PySem.W.Hook where
  α := AlE
  obs := fun s => obsE n fa fn ex s.heap.get?
  val := fun _ => (He.valD fn, true)
  says := fun _ h => ∃ K : PySem.W.Frag, K.In h ∧ He.SaysD fa fn K ∧ ex K = true
  of := fun _ _ e => ⟨_, He.frG_in, congrArg (fun z : AlE => z.1) e, congrArg (fun z : AlE => z.2) e⟩
  keeps := fun _ _ _ ⟨K, hK, c⟩ k => ⟨K, PySem.W.Frag.In.keeps hK k, c⟩
theorem obsE_eq {n : Nat} {fa : List He.Fa} {fn : List He.DefD} {ex : PySem.W.Frag → Bool} {g : Addr → Option PySem.Obj} {s : Shared} (h : ∀ a, g a = s.heap.get? a) : obsE n fa fn ex g = (hookE n fa fn ex).obs s := by
  have e : g = s.heap.get? := funext h
  rw [e] <;> rfl
end Mp

namespace Mp
open PySem PySem.Spec PyProof.Rows L2

def dGet : List D → List D → D → Option D
  | k :: ks, v :: vs, x => if k = x then some v else dGet ks vs x
  | _, _, _ => none
/-- in its place, or at the end -/
def dRep : List D → List D → D → D → List D
  | k :: ks, v :: vs, x, y => (if k = x then y else v) :: dRep ks vs x y
  | _, vs, _, _ => vs
def dSet (ks vs : List D) (x y : D) : List D × List D := if x ∈ ks then (ks, dRep ks vs x y) else (ks ++ [x], vs ++ [y])
theorem key_inj {a b : D} {k : L2.Key} (ha : a.key = some k) (hb : b.key = some k) : a = b := by
  cases a <;> simp [D.key] at ha <;> cases b <;> simp [D.key] at hb
  · rw [← ha] at hb; cases hb; rfl
  · rw [← ha] at hb; cases hb
  · rw [← ha] at hb; cases hb
  · rw [← ha] at hb
    cases hb
    congr 1
theorem keys_inj : ∀ {a b : List D} {k : List L2.Key}, D.keys a = some k → D.keys b = some k → a = b
  | [], [], _, _, _ => rfl
  | [], y :: b, k, ha, hb => by
    cases ha
    simp only [D.keys] at hb
    split at hb <;> cases hb
  | x :: a, [], k, ha, hb => by
    cases hb
    simp only [D.keys] at ha
    split at ha <;> cases ha
  | x :: a, y :: b, k, ha, hb => by
    simp only [D.keys] at ha hb
    split at ha
    · rename_i k1 r1 h1 h2
      cases ha
      split at hb
      · rename_i k2 r2 h3 h4
        cases hb
        rw [key_inj h1 h3, keys_inj h2 h4]
      · cases hb
    · cases ha
theorem keyT_inj {a b : D} {k : List L2.Key} (ha : a.keyT = some k) (hb : b.keyT = some k) : a = b := by
  cases a <;> simp [D.keyT] at ha
  cases b <;> simp [D.keyT] at hb
  rw [keys_inj ha hb]
section
variable {K : Kc} {R : Rc} {κ : Type} [DecidableEq κ] {f : D → Option κ}
/-- a look into a dict, as data and as values -/
theorem dGet_val (inj : ∀ {a b : D} {k : κ}, f a = some k → f b = some k → a = b) : ∀ {ks vs : List D} {kk : List κ} {ws : List V} {x : D} {k : κ}, ks.map f = kk.map some → kk.length = ws.length → Reps K R vs ws → f x = some k →
    (dGet ks vs x = none ∧ valV (kk.zip ws) k = none) ∨ ∃ d v, dGet ks vs x = some d ∧ valV (kk.zip ws) k = some v ∧ Rep K R d v
  | [], vs, [], ws, x, k, _, hl, r, _ => by
    cases ws with
    | nil => exact .inl ⟨by cases vs <;> rfl, rfl⟩
    | cons w ws => simp at hl
  | [], vs, _ :: _, ws, x, k, h, _, _, _ => by simp at h
  | _ :: _, vs, [], ws, x, k, h, _, _, _ => by simp at h
  | a :: ks, vs, b :: kk, ws, x, k, h, hl, r, hx => by
    simp only [List.map_cons, List.cons.injEq] at h
    cases ws with
    | nil => simp at hl
    | cons w ws =>
      cases vs with
      | nil => cases (show w :: ws = [] from r)
      | cons d vs =>
        obtain ⟨v, q, e, r1, r2⟩ := r
        cases e
        by_cases e : a = x
        · subst e
          rw [hx] at h
          have e2 : b = k := by have := h.1; simp at this; exact this.symm
          subst e2
          refine .inr ⟨d, w, by simp [dGet], ?_, r1⟩
          rw [List.zip_cons_cons]
          exact valV_pos rfl
        · have ne : b ≠ k := fun z => e (inj (by rw [h.1, z]) hx)
          rcases dGet_val inj (ks := ks) (vs := vs) (kk := kk) (ws := ws) h.2 (by simpa using hl) r2 hx with ⟨g1, g2⟩ | ⟨d', v', g1, g2, g3⟩
          · exact .inl ⟨by simp [dGet, e, g1], by rw [List.zip_cons_cons, valV_neg (by exact ne), g2]⟩
          · exact .inr ⟨d', v', by simp [dGet, e, g1], by rw [List.zip_cons_cons, valV_neg (by exact ne), g2], g3⟩
theorem any_mem (inj : ∀ {a b : D} {k : κ}, f a = some k → f b = some k → a = b) : ∀ {ks : List D} {kk : List κ} {ws : List V} {x : D} {k : κ}, ks.map f = kk.map some → kk.length = ws.length → f x = some k →
    ((kk.zip ws).any fun kv => decide (kv.1 = k)) = decide (x ∈ ks)
  | [], [], ws, x, k, _, _, _ => by simp
  | [], _ :: _, ws, x, k, h, _, _ => by simp at h
  | _ :: _, [], ws, x, k, h, _, _ => by simp at h
  | a :: ks, b :: kk, ws, x, k, h, hl, hx => by
    simp only [List.map_cons, List.cons.injEq] at h
    cases ws with
    | nil => simp at hl
    | cons w ws =>
      have ih := any_mem inj (ks := ks) (kk := kk) (ws := ws) h.2 (by simpa using hl) hx
      rw [List.zip_cons_cons, List.any_cons, ih]
      have e : decide (b = k) = decide (x = a) := by
        by_cases q : x = a
        · subst q
          rw [hx] at h
          have e2 : k = b := by have := h.1; simpa using this
          simp [e2]
        · have ne : ¬ b = k := fun z => q ((inj (by rw [h.1, z]) hx).symm)
          rw [decide_eq_false q, decide_eq_false ne]
      rw [e]
      simp [List.mem_cons]
theorem rep_val (inj : ∀ {a b : D} {k : κ}, f a = some k → f b = some k → a = b) : ∀ {ks vs : List D} {kk : List κ} {ws : List V} {x y : D} {k : κ} {v : V}, ks.map f = kk.map some → kk.length = ws.length → Reps K R vs ws → f x = some k → Rep K R y v →
    ∃ ws', (kk.zip ws).map (fun kv => if kv.1 = k then (kv.1, v) else kv) = kk.zip ws' ∧ kk.length = ws'.length ∧ Reps K R (dRep ks vs x y) ws'
  | [], vs, [], ws, x, y, k, v, _, hl, r, _, _ => by
    cases ws with
    | nil => exact ⟨[], rfl, rfl, by cases vs with | nil => rfl | cons d vs => obtain ⟨_, _, e, _⟩ := r; cases e⟩
    | cons w ws => simp at hl
  | [], vs, _ :: _, ws, x, y, k, v, h, _, _, _, _ => by simp at h
  | _ :: _, vs, [], ws, x, y, k, v, h, _, _, _, _ => by simp at h
  | a :: ks, vs, b :: kk, ws, x, y, k, v, h, hl, r, hx, ry => by
    simp only [List.map_cons, List.cons.injEq] at h
    cases ws with
    | nil => simp at hl
    | cons w ws =>
      cases vs with
      | nil => cases (show w :: ws = [] from r)
      | cons d vs =>
        obtain ⟨u, q, e, r1, r2⟩ := r
        cases e
        obtain ⟨ws', e1, e2, e3⟩ := rep_val inj (ks := ks) (vs := vs) (kk := kk) (ws := ws) h.2 (by simpa using hl) r2 hx ry
        by_cases e : a = x
        · subst e
          rw [hx] at h
          have e2' : b = k := by have := h.1; simp at this; exact this.symm
          subst e2'
          refine ⟨v :: ws', ?_, by simp [e2], ?_⟩
          · rw [List.zip_cons_cons, List.map_cons, e1, if_pos rfl]; rfl
          · exact ⟨v, ws', rfl, by simp [ry], e3⟩
        · have ne : b ≠ k := fun z => e (inj (by rw [h.1, z]) hx)
          refine ⟨w :: ws', ?_, by simp [e2], ?_⟩
          · rw [List.zip_cons_cons, List.map_cons, e1, if_neg (by exact ne)]; rfl
          · exact ⟨w, ws', rfl, by simp [e, r1], e3⟩
theorem dSet_val (inj : ∀ {a b : D} {k : κ}, f a = some k → f b = some k → a = b) {ks vs : List D} {kk : List κ} {ws : List V} {x y : D} {k : κ} {v : V} (h : ks.map f = kk.map some) (hl : kk.length = ws.length) (r : Reps K R vs ws) (hx : f x = some k) (ry : Rep K R y v) :
    ∃ (kk' : List κ) (ws' : List V), putK (kk.zip ws) k v = kk'.zip ws' ∧ kk'.length = ws'.length ∧ (dSet ks vs x y).1.map f = kk'.map some ∧ Reps K R (dSet ks vs x y).2 ws' := by
  unfold putK dSet
  rw [any_mem inj h hl hx]
  by_cases m : x ∈ ks
  · rw [if_pos (by simpa using m), if_pos m]
    obtain ⟨ws', e1, e2, e3⟩ := rep_val inj h hl r hx ry
    exact ⟨kk, ws', e1, e2, h, e3⟩
  · rw [if_neg (by simpa using m), if_neg m]
    refine ⟨kk ++ [k], ws ++ [v], ?_, by simp [hl], by simp [h, hx], r.append (Reps.one ry)⟩
    rw [List.zip_append hl]
    rfl
end
/-- the dict that a value stands for -/
def dctAt (x : D) (S : Store) : Option (Bool × List D × List D) := match x with
  | .dct t ks vs => some (t, ks, vs)
  | .ref j => match S[j]? with
    | some (.dct t ks vs) => some (t, ks, vs)
    | _ => none
  | _ => none
def isKey (t : Bool) (y : D) : Bool := if t then y.keyT.isSome else y.key.isSome
section
variable {K : Kc} {R : Rc} {S : Store} {H : Hp}
theorem dct_at {x : D} {v : V} {t : Bool} {ks vs : List D} (g : GR K R S H) (r : VR K R H x v) (h : dctAt x S = some (t, ks, vs)) : ∃ a o, v = .ref a ∧ Rd H a o ∧ DctO K R t ks vs o := by
  unfold dctAt at h
  split at h
  · cases h
    rcases r with r | ⟨a, o, rfl, ho, c⟩
    · obtain ⟨a, o, rfl, z, q⟩ := r.dctO
      exact ⟨a, o, rfl, z.imp (g.zh a o) fun ⟨od, z⟩ => ⟨od, g.zh a _ z⟩, q⟩
    · exact ⟨a, o, rfl, .inl ho, c⟩
  · split at h
    · rename_i hs
      cases h
      obtain ⟨a, rfl, ea⟩ := r.ref g
      obtain ⟨b, eb, o, ho, q⟩ := g.st _ _ hs
      rw [ea] at eb; cases eb
      exact ⟨a, o, rfl, .inl ho, q⟩
    · cases h
  · cases h
theorem key_val {y : D} {w : V} {k : L2.Key} (h : y.key = some k) (r : VR K R H y w) : w = kV k := by
  cases y <;> simp [D.key] at h
  · subst h; exact r.int
  · subst h; exact r.str
theorem keys_val : ∀ {ds : List D} {ws : List V} {k : List L2.Key}, D.keys ds = some k → Reps K R ds ws → ws = k.map kV
  | [], ws, k, h, r => by cases h; exact r
  | d :: ds, ws, k, h, r => by
    simp only [D.keys] at h
    split at h
    · rename_i k1 r1 h1 h2
      cases h
      obtain ⟨v, q, rfl, r1, r2⟩ := r
      rw [key_val (H := fun _ => none) h1 (.inl r1), keys_val h2 r2]
      rfl
    · cases h
theorem keyT_val {y : D} {w : V} {k : List L2.Key} (g : GR K R S H) (h : y.keyT = some k) (r : VR K R H y w) : ∃ b, w = .ref b ∧ H b = some (.tup (k.map kV)) := by
  cases y <;> simp [D.keyT] at h
  obtain ⟨a, vs, rfl, z, rs⟩ := r.tupZ
  rw [keys_val h rs] at z
  exact ⟨a, rfl, g.zh a _ z⟩
/-- a look, by values -/
theorem dget_val {t : Bool} {ks vs : List D} {o : HO} {a : Addr} {y : D} {w : V} (g : GR K R S H) (ho : Rd H a o) (q : DctO K R t ks vs o) (r : VR K R H y w) (hk : isKey t y = true) :
    (dGet ks vs y = none ∧ DGet H a w none) ∨ ∃ d v, dGet ks vs y = some d ∧ DGet H a w (some v) ∧ Rep K R d v := by
  obtain ⟨ws, rs, ⟨rfl, kk, rfl, hl, hm⟩ | ⟨rfl, kk, rfl, hl, hm⟩⟩ := q
  · obtain ⟨k, ek⟩ := Option.isSome_iff_exists.mp (show y.key.isSome = true from hk)
    have ew := key_val ek r
    subst ew
    rcases dGet_val (f := D.key) (fun h1 h2 => key_inj h1 h2) hm hl rs ek with ⟨g1, g2⟩ | ⟨d, v, g1, g2, g3⟩
    · exact .inl ⟨g1, by rw [← g2]; exact .inl ⟨_, _, ho, rfl, rfl⟩⟩
    · exact .inr ⟨d, v, g1, by rw [← g2]; exact .inl ⟨_, _, ho, rfl, rfl⟩, g3⟩
  · obtain ⟨k, ek⟩ := Option.isSome_iff_exists.mp (show y.keyT.isSome = true from hk)
    obtain ⟨b, rfl, eb⟩ := keyT_val g ek r
    rcases dGet_val (f := D.keyT) (fun h1 h2 => keyT_inj h1 h2) hm hl rs ek with ⟨g1, g2⟩ | ⟨d, v, g1, g2, g3⟩
    · exact .inl ⟨g1, by rw [← g2]; exact .inr ⟨_, _, _, ho, rfl, eb, rfl⟩⟩
    · exact .inr ⟨d, v, g1, by rw [← g2]; exact .inr ⟨_, _, _, ho, rfl, eb, rfl⟩, g3⟩
end
section
variable {X : Cx} {cl : Nat → Addr} {e a b c : Expr} {Ea Eb Ec : Den} {pos p : Pos}
/-- d[k] -/
def pDIdx (x y : D) (S : Store) : Rs RV := match dctAt x S with
  | some (t, ks, vs) => if isKey t y = true then match dGet ks vs y with
    | some d => .ok (.pl d)
    | none => .no
    else .no
  | none => .no
def pIdxA (x y : D) (S : Store) : Rs RV := match dctAt x S with
  | some _ => pDIdx x y S
  | none => pIdx x y S
def rDGet : R2 := fun x y H Q => ∃ a v, x = .ref a ∧ DGet H a y (some v) ∧ Q v H
theorem ok_didx : OpOk (kx X cl) pDIdx rDGet := by
  intro x y S rv v w R H Q e g rx ry k
  unfold pDIdx at e
  split at e
  · rename_i t ks vs hd
    split at e
    · rename_i hk
      obtain ⟨a, o, rfl, ho, q⟩ := dct_at g rx hd
      rcases dget_val g ho q ry hk with ⟨g1, _⟩ | ⟨d, u, g1, g2, g3⟩
      · rw [g1] at e; cases e
      · rw [g1] at e; cases e
        exact ⟨a, u, rfl, g2, res_pl k g3⟩
    · cases e
  · cases e
theorem PE.or {t1 t2 : TE} (h1 : PE X e t1) (h2 : PE X e t2) : PE X e (fun σ H Q => t1 σ H Q ∨ t2 σ H Q) := ⟨fun pins s σ H Q I h => h.elim (h1.run pins s σ H Q I) (h2.run pins s σ H Q I)⟩
theorem g_idxA (hu : X.A.units + 1 < cLine) (ha : PE X a (tOf (kx X cl) Ea)) (hb : PE X b (tOf (kx X cl) Eb)) (hs : PlainIx b := by intro _ _; rfl) (hn : NoSl b := by intro _ _ _; rfl) : PE X (.Subscript a b pos) (tOf (kx X cl) (eBin pIdxA Ea Eb)) := by
  refine PE.im (PE.or (pe_ix ix_seq ha hb hs) (pe_dget hu ha hb hn)) fun σ H Q hh => ?_
  obtain ⟨ε, S, R, ω, rv, ε', S', he, s, k⟩ := hh
  have h0 := he
  obtain ⟨⟨r1, ε1, S1⟩, e1, he⟩ := bind_ok he
  obtain ⟨⟨r2, ε2, S2⟩, e2, he⟩ := bind_ok he
  obtain ⟨x, ex, he⟩ := bind_ok he
  obtain ⟨y, ey, he⟩ := bind_ok he
  obtain ⟨rr, er, he⟩ := bind_ok he
  cases hd : dctAt x S2 with
  | none =>
    refine .inl (bin_im ok_idx σ H Q ⟨ε, S, R, ω, rv, ε', S', ?_, s, k⟩)
    have er' : pIdx x y S2 = .ok rr := by unfold pIdxA at er; rw [hd] at er; exact er
    show (Ea ε S >>= fun p => Eb p.2.1 p.2.2 >>= fun q => p.1.get q.2.1 >>= fun x => q.1.get q.2.1 >>= fun y => pIdx x y q.2.2 >>= fun v => Rs.ok (v, q.2.1, q.2.2)) = _
    rw [e1, ok_bind, e2, ok_bind, ex, ok_bind, ey, ok_bind, er', ok_bind]
    exact he
  | some z =>
    refine .inr (bin_im ok_didx σ H Q ⟨ε, S, R, ω, rv, ε', S', ?_, s, k⟩)
    have er' : pDIdx x y S2 = .ok rr := by unfold pIdxA at er; rw [hd] at er; exact er
    show (Ea ε S >>= fun p => Eb p.2.1 p.2.2 >>= fun q => p.1.get q.2.1 >>= fun x => q.1.get q.2.1 >>= fun y => pDIdx x y q.2.2 >>= fun v => Rs.ok (v, q.2.1, q.2.2)) = _
    rw [e1, ok_bind, e2, ok_bind, ex, ok_bind, ey, ok_bind, er', ok_bind]
    exact he
end
/-- the dict that a value stands for, to be changed -/
def getDct (r : RV) (ε : Env) (S : Store) : Rs (Bool × List D × List D) := match r with
  | .bor i => match slot ε i with
    | some (.own (.dct t ks vs)) => .ok (t, ks, vs)
    | _ => .no
  | .pl (.ref j) => match S[j]? with
    | some (.dct t ks vs) => .ok (t, ks, vs)
    | _ => .no
  | _ => .no
def putDct (r : RV) (t : Bool) (ks vs : List D) (ε : Env) (S : Store) : Env × Store := match r with
  | .bor i => (ε.set i (some (.own (.dct t ks vs))), S)
  | .pl (.ref j) => (ε, S.set j (.dct t ks vs))
  | _ => (ε, S)
section
variable {K : Kc} {R : Rc} {ω ω0 : Om} {H H0 : Hp} {σ : L2.St} {ε : Env} {S : Store}
theorem mut_dct {r : RV} {v : V} {t : Bool} {ks vs : List D} (s : SR K R ω ε S σ H) (p : RVR K ω0 H0 R ω H σ r v) (e : getDct r ε S = .ok (t, ks, vs)) :
    ∃ a o, v = .ref a ∧ H a = some o ∧ DctO K R t ks vs o ∧
      ∀ ks' vs' o', DctO K R t ks' vs' o' → SR K R ω (putDct r t ks' vs' ε S).1 (putDct r t ks' vs' ε S).2 σ (upd H a o') ∧ Ex R ω H R ω (upd H a o') := by
  cases r with
  | fr d => cases e
  | bor i =>
    have p' : σ[i]? = some (some v) := p
    have e' : (match slot ε i with | some (.own (.dct t ks vs)) => Rs.ok (t, ks, vs) | _ => .no) = .ok (t, ks, vs) := e
    split at e' <;> try cases e'
    rename_i hs
    obtain ⟨u, e1, a, o, rfl, e2, e3, c⟩ := s.sl _ _ hs
    rw [p'] at e1; cases e1
    exact ⟨a, o, rfl, e3, c, fun ks' vs' o' q => ⟨s.chg_own hs e2 q, .chg e3 (.inr ⟨_, e2⟩)⟩⟩
  | pl d =>
    unfold getDct at e
    split at e <;> try cases e
    · rename_i hs; cases hs
    rename_i j hs
    cases hs
    split at e <;> try cases e
    rename_i hs
    obtain ⟨a, e2, rfl⟩ := p
    obtain ⟨b, e3, o, e4, q⟩ := s.g.st j _ hs
    rw [e2] at e3; cases e3
    exact ⟨a, o, rfl, e4, q, fun ks' vs' o' q => ⟨s.chg_ref e2 ⟨o', upd_same, q⟩, .chg e4 (.inl (List.mem_of_getElem? e2))⟩⟩
/-- a store, by values -/
theorem dput_val {t : Bool} {ks vs : List D} {o : HO} {a : Addr} {y d : D} {w u : V} (g : GR K R S H) (ho : H a = some o) (q : DctO K R t ks vs o) (r : VR K R H y w) (hk : isKey t y = true) (rd : Rep K R d u) (hz : ks.length < 16777216) :
    ∃ o', DPut H a w u (upd H a o') ∧ DctO K R t (dSet ks vs y d).1 (dSet ks vs y d).2 o' := by
  obtain ⟨ws, rs, ⟨rfl, kk, rfl, hl, hm⟩ | ⟨rfl, kk, rfl, hl, hm⟩⟩ := q
  · obtain ⟨k, ek⟩ := Option.isSome_iff_exists.mp (show y.key.isSome = true from hk)
    have ew := key_val ek r
    subst ew
    have hn : (kk.zip ws).length < sizeLine := by
      have := congrArg List.length hm
      simp at this
      rw [List.length_zip, sizeLine_is]; omega
    obtain ⟨kk', ws', e1, e2, e3, e4⟩ := dSet_val (f := D.key) (fun h1 h2 => key_inj h1 h2) hm hl rs ek rd
    refine ⟨_, DPut.k ho hn, ?_⟩
    rw [e1]
    exact ⟨ws', e4, .inl ⟨rfl, kk', rfl, e2, e3⟩⟩
  · obtain ⟨k, ek⟩ := Option.isSome_iff_exists.mp (show y.keyT.isSome = true from hk)
    obtain ⟨b, rfl, eb⟩ := keyT_val g ek r
    have hn : (kk.zip ws).length < sizeLine := by
      have := congrArg List.length hm
      simp at this
      rw [List.length_zip, sizeLine_is]; omega
    obtain ⟨kk', ws', e1, e2, e3, e4⟩ := dSet_val (f := D.keyT) (fun h1 h2 => keyT_inj h1 h2) hm hl rs ek rd
    refine ⟨_, DPut.t ho eb hn, ?_⟩
    rw [e1]
    exact ⟨ws', e4, .inr ⟨rfl, kk', rfl, e2, e3⟩⟩
end
section
variable {X : Cx} {cl : Nat → Addr} {Ea Eo Ei : Den} {pos tp : Pos} {e o i : Expr}
def lt24 (ks : List D) : Bool := decide (ks.length < 16777216)
/-- d[k] = v -/
def sPutD (o i a : Den) : SDen := fun ε S => do
  let (r, ε1, S1) ← a ε S
  let (d, ε2) ← r.fix ε1
  let (ro, ε3, S2) ← o ε2 S1
  let (ri, ε4, S3) ← i ε3 S2
  let y ← ri.get ε4
  let (t, ks, vs) ← getDct ro ε4 S3
  if (isKey t y && lt24 ks) = true then .ok (.nx (putDct ro t (dSet ks vs y d).1 (dSet ks vs y d).2 ε4 S3).1 (putDct ro t (dSet ks vs y d).1 (dSet ks vs y d).2 ε4 S3).2) else .no
theorem sv_putD {st : Stmt} (h : PS X st (tAsg (tOf (kx X cl) Ea) (gSub (tOf (kx X cl) Eo) (tOf (kx X cl) Ei) rSetD))) : PS X st (sOf (kx X cl) (sPutD Eo Ei Ea)) := by
  refine PS.im h fun D σ H hh => ?_
  obtain ⟨ε, S, R, ω, oo, he, s, k⟩ := hh
  obtain ⟨⟨r, ε1, S1⟩, e1, he⟩ := bind_ok he
  obtain ⟨⟨d, ε2⟩, e2, he⟩ := bind_ok he
  obtain ⟨⟨ro, ε3, S2⟩, e3, he⟩ := bind_ok he
  obtain ⟨⟨ri, ε4, S3⟩, e4, he⟩ := bind_ok he
  obtain ⟨y, e5, he⟩ := bind_ok he
  obtain ⟨⟨t, ks, vs⟩, e6, he⟩ := bind_ok he
  dsimp only at he
  split at he
  case isFalse => cases he
  rename_i hc
  simp only [Bool.and_eq_true, lt24, decide_eq_true_eq] at hc
  cases he
  refine ⟨ε, S, R, ω, r, ε1, S1, e1, s, fun v1 R1 ω1 H1 x1 s1 p1 => ?_⟩
  obtain ⟨R2, ω2, x2, s2, p2⟩ := p1.fix s1 x1 e2
  refine ⟨ε2, S1, R2, ω2, ro, ε3, S2, e3, s2, fun v3 R3 ω3 H3 x3 s3 p3 => ⟨ε3, S2, R3, ω3, ri, ε4, S3, e4, s3, fun v4 R4 ω4 H4 x4 s4 p4 => ?_⟩⟩
  obtain ⟨a, ob, rfl, h4, q, mk⟩ := mut_dct s4 (p3.keep x4) e6
  obtain ⟨o', dp, q'⟩ := dput_val s4.g h4 q (p4.vr s4 e5) hc.1 (Rep.mono (x3.le.trans x4.le) d v1 p2) hc.2
  obtain ⟨s5, x5⟩ := mk _ _ o' q'
  exact ⟨a, _, rfl, dp, k σ R4 ω4 _ (((x2.trans x3).trans x4).trans x5) s5⟩
def eDct (t : Bool) : Den := fun ε S => .ok (.fr (.dct t [] []), ε, S)
theorem ev_dctK : PE X (.Dict [] [] pos) (tOf (kx X cl) (eDct false)) := by
  refine PE.im pe_dnewK fun σ H Q hh => ?_
  obtain ⟨ε, S, R, ω, rv, ε', S', he, s, k⟩ := hh
  cases he
  intro p np
  exact k _ R ω _ ((Gw.new np).ex ω) ((Gw.new np).sr s) (RNew.rvr s (.refl _ _ _) (Gw.new np) ⟨p, _, rfl, upd_same, ⟨[], rfl, .inl ⟨rfl, [], rfl, rfl, rfl⟩⟩, s.g.free np, np⟩)
theorem ev_dctT : PE X (.Dict [] [] pos) (tOf (kx X cl) (eDct true)) := by
  refine PE.im pe_dnewT fun σ H Q hh => ?_
  obtain ⟨ε, S, R, ω, rv, ε', S', he, s, k⟩ := hh
  cases he
  intro p np
  exact k _ R ω _ ((Gw.new np).ex ω) ((Gw.new np).sr s) (RNew.rvr s (.refl _ _ _) (Gw.new np) ⟨p, _, rfl, upd_same, ⟨[], rfl, .inr ⟨rfl, [], rfl, rfl, rfl⟩⟩, s.g.free np, np⟩)
variable {a b : Expr} {Eb : Den}
def pDIn (neg : Bool) (y x : D) (S : Store) : Rs RV := match dctAt x S with
  | some (t, ks, vs) => if isKey t y = true then .ok (.pl (.bl (neg != (dGet ks vs y).isSome))) else .no
  | none => .no
def pInA (neg : Bool) (y x : D) (S : Store) : Rs RV := match dctAt x S with
  | some _ => pDIn neg y x S
  | none => pIn neg y x S
def rDIn (neg : Bool) : R2 := fun y x H Q => ∃ a o, x = .ref a ∧ DGet H a y o ∧ Q (.bl (neg != o.isSome)) H
theorem ok_din {neg : Bool} : OpOk (kx X cl) (pDIn neg) (rDIn neg) := by
  intro y x S rv v w R H Q e g ry rx k
  unfold pDIn at e
  split at e
  · rename_i t ks vs hd
    split at e
    · rename_i hk
      cases e
      obtain ⟨a, o, rfl, ho, q⟩ := dct_at g rx hd
      rcases dget_val g ho q ry hk with ⟨g1, g2⟩ | ⟨d, u, g1, g2, g3⟩
      · exact ⟨a, none, rfl, g2, by rw [g1] at k; exact res_pl k rfl⟩
      · exact ⟨a, some u, rfl, g2, by rw [g1] at k; exact res_pl k rfl⟩
    · cases e
  · cases e
theorem bin_pick {f g h : D → D → Store → Rs RV} {p : D → D → Store → Bool} (hf : ∀ x y S, p x y S = true → f x y S = g x y S) (hg : ∀ x y S, p x y S = false → f x y S = h x y S) (σ : L2.St) (H : Hp) (Q : VK) (hh : tOf (kx X cl) (eBin f Ea Eb) σ H Q) : tOf (kx X cl) (eBin g Ea Eb) σ H Q ∨ tOf (kx X cl) (eBin h Ea Eb) σ H Q := by
  obtain ⟨ε, S, R, ω, rv, ε', S', he, s, k⟩ := hh
  obtain ⟨⟨r1, ε1, S1⟩, e1, he⟩ := bind_ok he
  obtain ⟨⟨r2, ε2, S2⟩, e2, he⟩ := bind_ok he
  obtain ⟨x, ex, he⟩ := bind_ok he
  obtain ⟨y, ey, he⟩ := bind_ok he
  obtain ⟨rr, er, he⟩ := bind_ok he
  have key : ∀ q : D → D → Store → Rs RV, q x y S2 = .ok rr → eBin q Ea Eb ε S = .ok (rv, ε', S') := fun q hq => by
    show (Ea ε S >>= fun p => Eb p.2.1 p.2.2 >>= fun r => p.1.get r.2.1 >>= fun x => r.1.get r.2.1 >>= fun y => q x y r.2.2 >>= fun v => Rs.ok (v, r.2.1, r.2.2)) = _
    rw [e1, ok_bind, e2, ok_bind, ex, ok_bind, ey, ok_bind, hq, ok_bind]
    exact he
  cases hp : p x y S2 with
  | true => exact .inl ⟨ε, S, R, ω, rv, ε', S', key g (by rw [← hf _ _ _ hp]; exact er), s, k⟩
  | false => exact .inr ⟨ε, S, R, ω, rv, ε', S', key h (by rw [← hg _ _ _ hp]; exact er), s, k⟩
theorem pick_in {neg : Bool} (σ : L2.St) (H : Hp) (Q : VK) (hh : tOf (kx X cl) (eBin (pInA neg) Ea Eb) σ H Q) : tOf (kx X cl) (eBin (pDIn neg) Ea Eb) σ H Q ∨ tOf (kx X cl) (eBin (pIn neg) Ea Eb) σ H Q :=
  bin_pick (p := fun _ x S => (dctAt x S).isSome) (fun y x S h => by
    unfold pInA
    cases hd : dctAt x S with
    | none => simp only [hd] at h; cases h
    | some z => rfl) (fun y x S h => by
    unfold pInA
    cases hd : dctAt x S with
    | none => rfl
    | some z => simp only [hd] at h; cases h) σ H Q hh
theorem din_f (σ : L2.St) (H : Hp) (Q : VK) (h : tOp (rDIn false) (tOf (kx X cl) Ea) (tOf (kx X cl) Eb) σ H Q) : tDIn (tOf (kx X cl) Ea) (tOf (kx X cl) Eb) σ H Q := by
  obtain ⟨ε, S, R, ω, rv, ε', S', he, s, k⟩ := h
  refine ⟨ε, S, R, ω, rv, ε', S', he, s, fun v R1 ω1 H1 x1 s1 p1 => ?_⟩
  obtain ⟨ε, S, R, ω, rv, ε', S', he, s, k⟩ := k v R1 ω1 H1 x1 s1 p1
  refine ⟨ε, S, R, ω, rv, ε', S', he, s, fun v R1 ω1 H1 x1 s1 p1 => ?_⟩
  obtain ⟨a, o, e, g, q⟩ := k v R1 ω1 H1 x1 s1 p1
  exact ⟨a, o, e, g, by cases o <;> exact q⟩
theorem g_inA (h65 : X.A.units + 65 < cLine) (ha : PE X a (tOf (kx X cl) Ea)) (hb : PE X b (tOf (kx X cl) Eb)) (hm : behindInMarks .In b = false) : PE X (.Compare a [.In] [b] pos) (tOf (kx X cl) (eBin (pInA false) Ea Eb)) := by
  refine PE.im (PE.or (pe_cmp (pc_din (by omega) ha hb) hm) (pe_cmpR (or_in h65) ha hb hm)) fun σ H Q hh => ?_
  exact (pick_in σ H Q hh).imp (fun h => din_f σ H Q (bin_im ok_din σ H Q h)) (fun h => bin_im ok_in σ H Q h)
theorem PT.or {t1 t2 : TT} (h1 : PT X e t1) (h2 : PT X e t2) : PT X e (fun σ H Q => t1 σ H Q ∨ t2 σ H Q) := ⟨fun pins s σ H Q I h => h.elim (h1.run pins s σ H Q I) (h2.run pins s σ H Q I)⟩
theorem c_inA (h65 : X.A.units + 65 < cLine) (ha : PE X a (tOf (kx X cl) Ea)) (hb : PE X b (tOf (kx X cl) Eb)) (hm : behindInMarks .In b = false) : PT X (.Compare a [.In] [b] pos) (cOf (kx X cl) (cVal (eBin (pInA false) Ea Eb))) := by
  refine ev_val (PT.im (PT.or (pt_cmp (pc_din (by omega) ha hb) hm) (pt_cmpR (or_in h65) ha hb hm)) fun σ H Q hh => ?_)
  exact (pick_in σ H _ hh).imp (fun h => din_f σ H _ (bin_im ok_din σ H _ h)) (fun h => bin_im ok_in σ H _ h)
theorem din_t (σ : L2.St) (H : Hp) (Q : VK) (h : tOp (rDIn true) (tOf (kx X cl) Ea) (tOf (kx X cl) Eb) σ H Q) : tDNotIn (tOf (kx X cl) Ea) (tOf (kx X cl) Eb) σ H Q := by
  obtain ⟨ε, S, R, ω, rv, ε', S', he, s, k⟩ := h
  refine ⟨ε, S, R, ω, rv, ε', S', he, s, fun v R1 ω1 H1 x1 s1 p1 => ?_⟩
  obtain ⟨ε, S, R, ω, rv, ε', S', he, s, k⟩ := k v R1 ω1 H1 x1 s1 p1
  refine ⟨ε, S, R, ω, rv, ε', S', he, s, fun v R1 ω1 H1 x1 s1 p1 => ?_⟩
  obtain ⟨a, o, e, g, q⟩ := k v R1 ω1 H1 x1 s1 p1
  exact ⟨a, o, e, g, by cases o <;> exact q⟩
theorem g_notinA (h65 : X.A.units + 65 < cLine) (ha : PE X a (tOf (kx X cl) Ea)) (hb : PE X b (tOf (kx X cl) Eb)) (hm : behindInMarks .NotIn b = false) : PE X (.Compare a [.NotIn] [b] pos) (tOf (kx X cl) (eBin (pInA true) Ea Eb)) := by
  refine PE.im (PE.or (pe_cmp (pc_dnotin (by omega) ha hb) hm) (pe_cmpR (or_notin h65) ha hb hm)) fun σ H Q hh => ?_
  exact (pick_in σ H Q hh).imp (fun h => din_t σ H Q (bin_im ok_din σ H Q h)) (fun h => bin_im ok_notin σ H Q h)
theorem c_notinA (h65 : X.A.units + 65 < cLine) (ha : PE X a (tOf (kx X cl) Ea)) (hb : PE X b (tOf (kx X cl) Eb)) (hm : behindInMarks .NotIn b = false) : PT X (.Compare a [.NotIn] [b] pos) (cOf (kx X cl) (cVal (eBin (pInA true) Ea Eb))) := by
  refine ev_val (PT.im (PT.or (pt_cmp (pc_dnotin (by omega) ha hb) hm) (pt_cmpR (or_notin h65) ha hb hm)) fun σ H Q hh => ?_)
  exact (pick_in σ H _ hh).imp (fun h => din_t σ H _ (bin_im ok_din σ H _ h)) (fun h => bin_im ok_notin σ H _ h)
end
end Mp

namespace Mp
open PySem PySem.Spec PyProof.Rows L2

mutual
def encD : D → PyData
  | .non => .none
  | .bl b => .bool b
  | .int i => .int i
  | .str s => .str ⟨s.toArray⟩
  | .tup ds => .tuple (encDs ds)
  | _ => .none
def encDs : List D → List PyData
  | [] => []
  | d :: r => encD d :: encDs r
end
mutual
/-- ints, texts, tuples of such, not deeper than n -/
def fitD : D → Nat → Bool
  | .int _, _ => true
  | .str _, _ => true
  | .tup ds, n => match n with | 0 => false | n + 1 => fitDs ds n
  | _, _ => false
def fitDs : List D → Nat → Bool
  | [], _ => true
  | d :: r, n => fitD d n && fitDs r n
end
def leD (a b : D) : Bool := PySem.W.dataLe false encD a b
def srtD (ds : List D) : List D := ds.mergeSort leD
def tupNE : D → Bool
  | .tup (_ :: _) => true
  | _ => false
def atomD : D → Bool
  | .int _ => true
  | .str _ => true
  | _ => false
def sortOk (ds : List D) : Bool := (ds.all fun d => fitD d 60) && (ds.all tupNE || ds.all atomD) && ds.all fun a => ds.all fun b => PySem.W.alike (encD a) (encD b)
mutual
theorem fit_depth : ∀ (d : D) (n : Nat), fitD d n = true → PyData.depth (encD d) ≤ n
  | .int i, n, _ => by simp [encD, PyData.depth]
  | .str s, n, _ => by simp [encD, PyData.depth]
  | .tup ds, 0, h => by simp [fitD] at h
  | .tup ds, n + 1, h => by
    have := fit_depths ds n (by simpa [fitD] using h)
    simp only [encD, PyData.depth]
    omega
  | .non, n, h => by simp [fitD] at h
  | .bl _, n, h => by simp [fitD] at h
  | .ktup _, n, h => by simp [fitD] at h
  | .lst _, n, h => by simp [fitD] at h
  | .dct _ _ _, n, h => by simp [fitD] at h
  | .ref _, n, h => by simp [fitD] at h
  | .scr _, n, h => by simp [fitD] at h
theorem fit_depths : ∀ (ds : List D) (n : Nat), fitDs ds n = true → PyData.depthAll (encDs ds) ≤ n
  | [], n, _ => by simp [encDs, PyData.depthAll]
  | d :: r, n, h => by
    simp only [fitDs, Bool.and_eq_true] at h
    have h1 := fit_depth d n h.1
    have h2 := fit_depths r n h.2
    simp only [encDs, PyData.depthAll]
    omega
end
section
variable {X : Cx} {cl : Nat → Addr} {pins : List (Addr × PySem.Obj)} {σ : L2.St} {H : Hp} {s : Shared} {R : Rc}
mutual
theorem reads_of (I : Inv X pins σ H s) (zh : ∀ a o, R.Z a = some o → H a = some o) : ∀ (d : D) (n : Nat) (x : V) (u : Value), fitD d n = true → Rep (kx X cl) R d x → RelV x u → Reads s.heap u (encD d) []
  | .int i, n, x, u, _, r, q => by
    cases (show x = V.int i from r)
    obtain ⟨t, rfl⟩ := q
    exact .int i t
  | .str z, n, x, u, _, r, q => by
    cases (show x = V.str ⟨z.toArray⟩ from r)
    obtain ⟨t, rfl⟩ := q
    exact .str _ t
  | .tup ds, 0, x, u, h, r, q => by simp [fitD] at h
  | .tup ds, n + 1, x, u, h, r, q => by
    obtain ⟨a, vs, rfl, z, rs⟩ := r
    obtain rfl : u = Value.ref a := q
    obtain ⟨_, its, rv, o, ho, hc, m, hd⟩ := (show ObjOk X.prog X.w H s.heap a (.tup vs) from I.hok a _ (zh _ _ z))
    exact .tuple ho hc hd (reads_all I zh ds n vs its (by simpa [fitD] using h) rs rv)
  | .non, n, x, u, h, _, _ => by simp [fitD] at h
  | .bl _, n, x, u, h, _, _ => by simp [fitD] at h
  | .ktup _, n, x, u, h, _, _ => by simp [fitD] at h
  | .lst _, n, x, u, h, _, _ => by simp [fitD] at h
  | .dct _ _ _, n, x, u, h, _, _ => by simp [fitD] at h
  | .ref _, n, x, u, h, _, _ => by simp [fitD] at h
  | .scr _, n, x, u, h, _, _ => by simp [fitD] at h
theorem reads_all (I : Inv X pins σ H s) (zh : ∀ a o, R.Z a = some o → H a = some o) : ∀ (ds : List D) (n : Nat) (xs : List V) (us : List Value), fitDs ds n = true → Reps (kx X cl) R ds xs → Vals xs us → ReadsAll s.heap us (encDs ds) []
  | [], n, xs, us, _, r, q => by
    cases (show xs = [] from r)
    cases q
    exact .nil
  | d :: ds, n, xs, us, h, r, q => by
    simp only [fitDs, Bool.and_eq_true] at h
    obtain ⟨v, xs', rfl, r1, r2⟩ := r
    cases q with
    | cons q1 q2 => exact .cons (as := []) (bs := []) (reads_of I zh d n v _ h.1 r1 q1) (reads_all I zh ds n xs' _ h.2 r2 q2)
end
/-- a value that stands for data -/
def StD (X : Cx) (cl : Nat → Addr) (R : Rc) (u : Value) (d : D) : Prop := ∃ x, RelV x u ∧ Rep (kx X cl) R d x
theorem each_of : ∀ {ds : List D} {xs : List V} {us : List Value}, Reps (kx X cl) R ds xs → Vals xs us → PySem.W.EachIs (StD X cl R) us ds
  | [], xs, us, r, q => by
    cases (show xs = [] from r)
    cases q
    exact .nil
  | d :: ds, xs, us, r, q => by
    obtain ⟨v, xs', rfl, r1, r2⟩ := r
    cases q with
    | cons q1 q2 => exact .cons ⟨v, q1, r1⟩ (each_of r2 q2)
theorem of_each : ∀ {ds : List D} {us : List Value}, PySem.W.EachIs (StD X cl R) us ds → ∃ xs, Vals xs us ∧ Reps (kx X cl) R ds xs
  | [], _, .nil => ⟨[], .nil, rfl⟩
  | d :: ds, _, .cons ⟨x, q, r⟩ t => by
    obtain ⟨xs, q2, r2⟩ := of_each t
    exact ⟨x :: xs, .cons q q2, x, xs, rfl, r, r2⟩
theorem each_reads (I : Inv X pins σ H s) (zh : ∀ a o, R.Z a = some o → H a = some o) {h' : Heap} (hk : ∀ b o, s.heap.get? b = some o → h'.get? b = some o) : ∀ {ds : List D} {us : List Value}, (∀ d ∈ ds, fitD d 60 = true) → PySem.W.EachIs (StD X cl R) us ds → PySem.W.EachIs (fun u d => Reads h' u (encD d) []) us ds
  | [], _, _, .nil => .nil
  | d :: ds, _, hf, .cons ⟨x, q, r⟩ t => .cons (PyProof.Rows.Reads.keeps hk (reads_of I zh d 60 x _ (hf d (by simp)) r q)) (each_reads I zh hk (fun d m => hf d (by simp [m])) t)
theorem sortOk_is {ds : List D} (h : sortOk ds = true) : (∀ d ∈ ds, fitD d 60 = true) ∧ PySem.W.Sortable (ds.map encD) ∧ PySem.W.AllAlike (ds.map encD) := by
  unfold sortOk at h
  simp only [Bool.and_eq_true, Bool.or_eq_true, List.all_eq_true] at h
  obtain ⟨⟨h1, h2⟩, h3⟩ := h
  refine ⟨h1, ?_, ?_⟩
  · rcases h2 with h2 | h2
    · refine .inl fun p hp => ?_
      obtain ⟨d, hd, rfl⟩ := List.mem_map.mp hp
      have := h2 d hd
      cases d <;> simp [tupNE] at this
      rename_i ds'
      cases ds' with
      | nil => simp [tupNE] at this
      | cons a b => exact ⟨encD a, encDs b, rfl⟩
    · refine .inr fun p hp => ?_
      obtain ⟨d, hd, rfl⟩ := List.mem_map.mp hp
      have := h2 d hd
      cases d <;> simp [atomD] at this <;> simp [encD]
  · intro p hp q hq
    obtain ⟨a, ha, rfl⟩ := List.mem_map.mp hp
    obtain ⟨b, hb, rfl⟩ := List.mem_map.mp hq
    exact h3 a ha b hb
/-- sorted(xs), by data -/
def rSortX (X : Cx) (cl : Nat → Addr) : List V → Hp → VK → Prop := fun xs H Q => ∃ a vs R ds, xs = [.ref a] ∧ SqL X.K H a vs ∧ (∀ a o, R.Z a = some o → H a = some o) ∧ Reps (kx X cl) R ds vs ∧ sortOk ds = true ∧
  ∀ ys p, Reps (kx X cl) R (srtD ds) ys → H p = none → Q (.ref p) (upd H p (.lst ys))
theorem cr_sortedX (hu : X.A.units + 65 < cLine) : CallR X (.builtin "sorted") (rSortX X cl) := by
  intro pins s σ H vs us Q I r h
  obtain ⟨a, xs, R, ds, rfl, hs, zh, rs, hk, q⟩ := h
  obtain ⟨its, rv, hl, hz⟩ := I.list hs
  obtain ⟨u, rfl, ru⟩ := vals1 r
  obtain rfl : u = Value.ref a := ru
  obtain ⟨h1, h2, h3⟩ := sortOk_is hk
  have el : ds.length = xs.length := rs.length.symm
  refine PySem.W.sorted_data (β := D) (bs := ds) (enc := encD) (R := StD X cl R) hl.isList (each_of rs rv) ((each_reads I zh (fun _ _ e => e) h1 (each_of rs rv)).mono fun _ _ e => ⟨_, e⟩) h3 h2 (by rw [el]; exact hz) (fun b hb => ?_) fun out ho eo => ?_
  · have := fit_depth b 60 (h1 b hb)
    omega
  · obtain ⟨ys, hv, hr⟩ := of_each eo
    obtain ⟨n, hn⟩ := sortedAll_at s.heap its out.toArray
    refine ⟨.ref (s.heap.objs.size + 1), upd H (s.heap.objs.size + 1) (.lst ys), I.laid (t' := s.toks) (fun b o e => sortedAll_old e) (Nat.le_succ _) ⟨?_, out, n, hv, hn⟩, rfl, q ys _ hr (I.hok.fresh (Nat.le_succ _))⟩
    rw [Paired.length hv, ho, el]; exact hz
end
end Mp

namespace Mp
open PySem PySem.Spec PyProof.Rows L2

theorem CallR.or {X : Cx} {f : Value} {r1 r2 : List V → Hp → VK → Prop} (h1 : CallR X f r1) (h2 : CallR X f r2) : CallR X f (fun vs H Q => r1 vs H Q ∨ r2 vs H Q) :=
  fun pins s σ H vs us Q I rv h => h.elim (h1 pins s σ H vs us Q I rv) (h2 pins s σ H vs us Q I rv)
def pIte (c : D → Store → Bool) (f g : D → Store → Rs RV) : D → Store → Rs RV := fun x S => if c x S = true then f x S else g x S
theorem ok_ite {K : Kc} {c : D → Store → Bool} {f g : D → Store → Rs RV} {r1 r2 : V → Hp → VK → Prop} (h1 : UnOk K f r1) (h2 : UnOk K g r2) : UnOk K (pIte c f g) (fun x H Q => r1 x H Q ∨ r2 x H Q) := by
  intro x S rv v R H Q e G rx k
  unfold pIte at e
  split at e
  · exact .inl (h1 x S rv v R H Q e G rx k)
  · exact .inr (h2 x S rv v R H Q e G rx k)
def isDc (x : D) (S : Store) : Bool := (dctAt x S).isSome
def isInts (x : D) (_ : Store) : Bool := match x with
  | .lst ds => (intsOf ds).isSome
  | _ => false
section
variable {X : Cx} {cl : Nat → Addr}
def pSortX (x : D) (_ : Store) : Rs RV := match x with
  | .lst ds => if sortOk ds = true then .ok (.fr (.lst (srtD ds))) else .no
  | _ => .no
theorem ok_sortX : UnOk (kx X cl) pSortX (fun x H Q => rSortX X cl [x] H Q) := by
  intro x S rv v R H Q e g rx k
  unfold pSortX at e
  split at e
  · split at e
    · rename_i ds hk
      cases e
      obtain ⟨a, vs, rfl, ha, ra⟩ := rx.lst g
      exact ⟨a, vs, R, ds, rfl, SqL.of ha, g.zh, ra, hk, fun ys p r np => res_lst g k r p np⟩
    · cases e
  · cases e
def rSortDc (X : Cx) (cl : Nat → Addr) : List V → Hp → VK → Prop := fun xs H Q => ∃ a o R t ks vs, xs = [.ref a] ∧ Rd H a o ∧ (∀ a o, R.Z a = some o → H a = some o) ∧ DctO (kx X cl) R t ks vs o ∧ sortOk ks = true ∧
  ∀ ys p bs, (∀ b, b ∈ bs → ∃ us, H b = some (.tup us)) → Reps (kx X cl) (R.tellT H bs) (srtD ks) ys → H p = none → Q (.ref p) (upd H p (.lst ys))
theorem keys_rep {K : Kc} {R : Rc} : ∀ {ds : List D} {k : List L2.Key}, D.keys ds = some k → Reps K R ds (k.map kV)
  | [], k, h => by cases h; rfl
  | d :: ds, k, h => by
    simp only [D.keys] at h
    split at h
    · rename_i k1 r1 h1 h2
      cases h
      refine ⟨kV k1, r1.map kV, rfl, ?_, keys_rep h2⟩
      cases d <;> simp [D.key] at h1 <;> subst h1 <;> rfl
    · cases h
theorem key_rep {K : Kc} {R : Rc} : ∀ {ks : List D} {kk : List L2.Key}, ks.map D.key = kk.map some → Reps K R ks (kk.map kV)
  | [], [], _ => rfl
  | [], _ :: _, h => by simp at h
  | _ :: _, [], h => by simp at h
  | d :: ks, k :: kk, h => by
    simp only [List.map_cons, List.cons.injEq] at h
    refine ⟨kV k, kk.map kV, rfl, ?_, key_rep h.2⟩
    have h1 := h.1
    cases d <;> simp [D.key] at h1 <;> subst h1 <;> rfl
theorem keyT_rep {K : Kc} {R : Rc} {H : Hp} {bs' : List Addr} : ∀ {ks : List D} {kk : List (List L2.Key)} {bs : List Addr}, ks.map D.keyT = kk.map some → (∀ b ∈ bs, b ∈ bs') →
    Paired (fun (k : List L2.Key) (b : Addr) => H b = some (.tup (k.map kV))) kk bs → Reps K (R.tellT H bs') ks (bs.map V.ref)
  | [], [], bs, _, _, p => by cases p; rfl
  | [], _ :: _, bs, h, _, _ => by simp at h
  | _ :: _, [], bs, h, _, _ => by simp at h
  | d :: ks, k :: kk, bs, h, hb, p => by
    simp only [List.map_cons, List.cons.injEq] at h
    cases p with
    | @cons _ b _ bs2 p1 p2 =>
      refine ⟨V.ref b, bs2.map V.ref, rfl, ?_, keyT_rep h.2 (fun b m => hb b (by simp [m])) p2⟩
      have h1 := h.1
      cases d <;> simp [D.keyT] at h1
      refine ⟨b, k.map kV, rfl, ?_, keys_rep h1⟩
      show (if b ∈ bs' then H b else R.Z b) = _
      rw [if_pos (hb b (by simp))]
      exact p1
theorem paired_tups {H : Hp} : ∀ {kk : List (List L2.Key)} {bs : List Addr}, Paired (fun (k : List L2.Key) (b : Addr) => H b = some (.tup (k.map kV))) kk bs → ∀ b, b ∈ bs → ∃ us, H b = some (.tup us)
  | _, _, .nil, b, m => by simp at m
  | _, _, .cons h t, c, m => by
    rcases List.mem_cons.mp m with rfl | m
    · exact ⟨_, h⟩
    · exact paired_tups t c m
theorem cr_sortDc (hc : X.calm = true) (hu : X.A.units + 65 < cLine) : CallR X (.builtin "sorted") (rSortDc X cl) := by
  intro pins s σ H xs us Q I r q
  obtain ⟨a, o, R, t, ks, vs, rfl, ha, zh, dq, hk, q⟩ := q
  obtain ⟨u, rfl, ru⟩ := vals1 r
  obtain rfl : u = Value.ref a := ru
  obtain ⟨h1, h2, h3⟩ := sortOk_is hk
  have rest : ∀ (R' : Rc) (h' : Heap) (tk : Nat) (acc : Array Value) (zs : List V), (∀ a o, R'.Z a = some o → H a = some o) → (∀ b o, s.heap.get? b = some o → h'.get? b = some o) → Vals zs acc.toList → Reps (kx X cl) R' ks zs → ks.length ≤ sizeLine →
      Inv X pins σ H { s with heap := h', toks := tk } := fun R' h' tk acc zs z2 kp rv rs hz => I.kept kp
  obtain ⟨ws, rs, ⟨rfl, kk, rfl, hl, hm⟩ | ⟨rfl, kk, rfl, hl, hm⟩⟩ := dq
  · obtain ⟨z, lo, vs, rel, dd⟩ := dk_rd I.hok ha
    obtain ⟨ep, hat⟩ := dd.dictAt
    have hkeys : vs.map (·.1) = kk := by
      rw [← rel.keys, List.map_fst_zip (by omega)]
    have hlk : ks.length = kk.length := by simpa using congrArg List.length hm
    have hl' : vs.length = kk.length := by rw [← hkeys]; simp
    have h16 : vs.length ≤ sizeLine := by
      rw [List.length_zip] at z; omega
    refine Calls.call_function_entry PyProof.Rows.kind_sorted PyProof.Rows.plain_sorted PyProof.Rows.entry_sorted (PyProof.Rows.args_sorted1 _) ?_
    unfold Builtin.«sorted»
    refine wpAny_bind (m := checkCount "sorted" 1 1 _) (wpAny_pure ?_)
    refine wpAny_bind (PySem.W.kdu_collect (A := X.A.in1) (PySem.W.kdl_dict (knd := mixKind X.prog X.w) (kvs := vs) (ep := ep) lo) (I.ok.hd hc) hat h16 fun h' tk acc hkp hacc => ?_)
    have hal : acc.toList.length = vs.length := by rw [Array.length_toList, hacc.1]
    have rv : Vals (vs.map fun p => kV p.1) acc.toList := keys_at hal fun j v e => by
      obtain ⟨k, x, e1, e2⟩ := hacc.2 j v (by rw [← Array.getElem?_toList]; exact e)
      exact ⟨k, x, e1, e2⟩
    have e0 : (vs.map fun p => kV p.1) = kk.map kV := by rw [← hkeys, List.map_map]; rfl
    rw [e0] at rv
    have rs' : Reps (kx X cl) R ks (kk.map kV) := key_rep hm
    have I1 : Inv X pins σ H { s with heap := h', toks := tk } := I.kept hkp
    refine wpAny_bind (wpAny_newList ?_ (by rw [hal]; exact h16))
    have hoL : (h'.push (seqObj "list" acc.toList.toArray 0)).get? h'.objs.size = some (seqObj "list" acc.toList.toArray 0) := Heap.get?_push_size _ rfl
    show wpAny _ _ _ _ _ { s with heap := h'.push (seqObj "list" acc.toList.toArray 0), toks := tk }
    have hkq : ∀ b o, h'.get? b = some o → (h'.push (seqObj "list" acc.toList.toArray 0)).get? b = some o := fun b o e => Heap.get?_push_of_some _ e
    refine wpAny_bind (wpAny_holding (PySem.W.list_sort_data (β := D) (bs := ks) (enc := encD) (R := StD X cl R) hoL (each_of rs' rv) ((each_reads I1 zh hkq h1 (each_of rs' rv)).mono fun _ _ e => ⟨_, e, by simp⟩) h3 h2 (by omega) (fun b hb => ?_) fun out ho eo => ?_))
    · have := fit_depth b 60 (h1 b hb)
      have e : X.A.in1.units = X.A.units + 1 := rfl
      omega
    · obtain ⟨ys, hv, hr⟩ := of_each eo
      obtain ⟨n, hn⟩ := sortedHeap_at (vs := acc.toList) (out := out.toArray) hoL
      have hr' : Reps (kx X cl) (R.tellT H []) (srtD ks) ys := hr.mono (Gw.tellT (bs := []) zh (by simp)).le
      refine wpAny_pure ⟨_, rfl, .ref h'.objs.size, upd H h'.objs.size (.lst ys), I1.laid (t' := tk) (fun b u e => ?_) (Nat.le_refl _)
        (show ObjOk X.prog X.w _ _ _ (.lst ys) from ⟨by rw [Paired.length hv, ho]; omega, out, n, hv, hn⟩), rfl, q ys _ [] (by simp) hr' (I1.hok.fresh (Nat.le_refl _))⟩
      have hb : b < h'.objs.size := Heap.lt_size e
      rw [PyProof.Rows.sortedHeap_old (Nat.ne_of_lt hb) (by rw [size_push']; exact Nat.lt_succ_of_lt hb)]
      exact Heap.get?_push_of_some _ e
  · obtain ⟨z, hs, xs, pr, o, es, ep, ho, hx, hdt, he, hn⟩ := (show ObjOk X.prog X.w H s.heap a (.dT (kk.zip ws)) from ha.ok I.hok)
    have l1 : es.size = xs.length := size_of_entries he
    have l2 : (kk.zip ws).length = xs.length := Paired.length pr
    have lk : (kk.zip ws).length = kk.length := by rw [List.length_zip]; omega
    have hlk : ks.length = kk.length := by simpa using congrArg List.length hm
    have pk : Paired (fun (k : List L2.Key) (b : Addr) => H b = some (.tup (k.map kV))) kk (xs.map fun x => x.2.1) := by
      have e : kk = (kk.zip ws).map (·.1) := by rw [List.map_fst_zip (by omega)]
      rw [e]
      clear e hm hl l2 lk z he hn l1 hlk
      generalize kk.zip ws = ps at pr
      induction pr with
      | nil => exact .nil
      | cons h t ih => exact .cons h.2.1 ih
    have tb : ∀ b, b ∈ (xs.map fun x => x.2.1) → ∃ us, H b = some (.tup us) := by
      exact paired_tups pk
    refine Calls.call_function_entry PyProof.Rows.kind_sorted PyProof.Rows.plain_sorted PyProof.Rows.entry_sorted (PyProof.Rows.args_sorted1 _) ?_
    unfold Builtin.«sorted»
    refine wpAny_bind (m := checkCount "sorted" 1 1 _) (wpAny_pure ?_)
    refine wpAny_bind (PySem.W.kdu_collect (A := X.A.in1) (kdl_raw hs hx hdt) (I.ok.hd hc) ho (by omega) fun h' tk acc hkp it => ?_)
    have ea : acc.toList = xs.map fun x => Value.ref x.2.1 := by
      have hl : acc.toList.length = xs.length := by rw [Array.length_toList, it.1]; exact l1
      apply List.ext_getElem?
      intro j
      rw [List.getElem?_map]
      cases hj : acc.toList[j]? with
      | none =>
        have h1 := List.getElem?_eq_none_iff.mp hj
        rw [List.getElem?_eq_none (by omega)]
        all_goals rfl
      | some v =>
        obtain ⟨en, hen, hv⟩ := it.2 j v (by rw [← Array.getElem?_toList]; exact hj)
        have qe := entry_at he j
        rw [hen] at qe
        cases hb : xs[j]? with
        | none =>
          rw [hb] at qe
          exact nomatch (show some en = none from qe)
        | some b =>
          rw [hb] at qe
          have e2 : en = entryOfKey (tupleKind (mixKind X.prog X.w)) b := Option.some.inj qe
          rw [hv, e2]
          all_goals rfl
    have rv : Vals ((xs.map fun x => x.2.1).map V.ref) acc.toList := by
      rw [ea]
      have := vals_refs (xs.map fun x => x.2.1)
      rw [List.map_map, List.map_map] at this
      rw [List.map_map]
      exact this
    have zt := (Gw.tellT (bs := xs.map fun x => x.2.1) zh tb)
    have zh' : ∀ a o, (R.tellT H (xs.map fun x => x.2.1)).Z a = some o → H a = some o := fun a o e => (zt.zh a o e).elim (zh a o) id
    have rs' : Reps (kx X cl) (R.tellT H (xs.map fun x => x.2.1)) ks ((xs.map fun x => x.2.1).map V.ref) := keyT_rep hm (fun _ m => m) pk
    have hal : acc.toList.length = xs.length := by rw [ea]; simp
    have I1 : Inv X pins σ H { s with heap := h', toks := tk } := I.kept hkp
    refine wpAny_bind (wpAny_newList ?_ (by omega))
    have hoL : (h'.push (seqObj "list" acc.toList.toArray 0)).get? h'.objs.size = some (seqObj "list" acc.toList.toArray 0) := Heap.get?_push_size _ rfl
    show wpAny _ _ _ _ _ { s with heap := h'.push (seqObj "list" acc.toList.toArray 0), toks := tk }
    have hkq : ∀ b o, h'.get? b = some o → (h'.push (seqObj "list" acc.toList.toArray 0)).get? b = some o := fun b o e => Heap.get?_push_of_some _ e
    refine wpAny_bind (wpAny_holding (PySem.W.list_sort_data (β := D) (bs := ks) (enc := encD) (R := StD X cl (R.tellT H (xs.map fun x => x.2.1))) hoL (each_of rs' rv) ((each_reads I1 zh' hkq h1 (each_of rs' rv)).mono fun _ _ e => ⟨_, e, by simp⟩) h3 h2 (by omega) (fun b hb => ?_) fun out ho eo => ?_))
    · have := fit_depth b 60 (h1 b hb)
      have e : X.A.in1.units = X.A.units + 1 := rfl
      omega
    · obtain ⟨ys, hv, hr⟩ := of_each eo
      obtain ⟨n, hn⟩ := sortedHeap_at (vs := acc.toList) (out := out.toArray) hoL
      refine wpAny_pure ⟨_, rfl, .ref h'.objs.size, upd H h'.objs.size (.lst ys), I1.laid (t' := tk) (fun b u e => ?_) (Nat.le_refl _)
        (show ObjOk X.prog X.w _ _ _ (.lst ys) from ⟨by rw [Paired.length hv, ho]; omega, out, n, hv, hn⟩), rfl, q ys _ _ tb hr (I1.hok.fresh (Nat.le_refl _))⟩
      have hb : b < h'.objs.size := Heap.lt_size e
      rw [PyProof.Rows.sortedHeap_old (Nat.ne_of_lt hb) (by rw [size_push']; exact Nat.lt_succ_of_lt hb)]
      exact Heap.get?_push_of_some _ e
theorem _root_.L2.collect_tup {prog : Program} {w : World} {A : Around} {E : List Value → Shared → Prop} {E' : Value → Shared → Prop} {s : Shared} {l : Addr} {vs : List Value} {Q : List Value → Shared → Prop} (hl : IsTup s.heap l vs.toArray)
    (h : Q vs { s with heap := (s.heap.push (seqObj "list" #[] 0)).update s.heap.objs.size (Obj.mapSeq (· ++ vs.toArray)) }) (hsz : vs.length ≤ sizeLine) :
    wpAny (model prog w) A (collect (.ref l)) Q E' s := by
  obtain ⟨o, ho, hc, n, hd⟩ := id hl
  unfold collect
  refine wpAny_bind (wpAny_runValue (codeAny_builtin PyProof.Rows.entry_proto_collect' ?_))
  show wpAny _ _ (do again (.builtin "list.__iadd__" ⟨[← newList [], .ref l], []⟩)) _ _ s
  refine wpAny_bind (wpAny_newList (wpAny_pure ⟨Code.quiet_builtin _ (by decide +kernel), codeAny_builtin PyProof.Rows.entry_list_iadd' ?_⟩))
  show wpAny _ _ (Builtin.List.listExtendWith (.ref s.heap.objs.size) (.ref l) (.ref s.heap.objs.size)) _ _ { s with heap := s.heap.push (seqObj "list" #[] 0) }
  unfold Builtin.List.listExtendWith
  have ho' : (s.heap.push (seqObj "list" #[] 0)).get? l = some o := Heap.get?_push_of_some _ ho
  refine wpAny_bind (wpAny_typeOf (T := "tuple") ⟨o, ho', hc⟩ ?_)
  have ht : (Value.type "tuple" == Value.type "tuple") = true := by rfl
  rw [if_pos (by rw [ht]; simp)]
  refine wpAny_bind (listItems_at ho' hd ?_)
  refine wpAny_bind (listItems_at (xs := #[]) (n := 0) (Heap.get?_push_size _ rfl) rfl ?_)
  rw [if_neg (by simp)]
  refine wpAny_bind (listUpdate_at (xs := #[]) (n := 0) (Heap.get?_push_size _ rfl) rfl ?_ (Nat.zero_le _) (by show (#[] ++ vs.toArray).size ≤ sizeLine + 1; simp only [Array.size_append, List.size_toArray, List.length_nil]; omega))
  refine wpAny_pure ?_
  show wpAny (model prog w) A (do
      let o ← load s.heap.objs.size
      match o.data with
      | .seq xs _ => pure xs.toList
      | _ => unsupported "internal:collect") Q E' { s with heap := (s.heap.push (seqObj "list" #[] 0)).update s.heap.objs.size (Obj.mapSeq (· ++ vs.toArray)) }
  refine wpAny_bind (wpAny_load (get?_update_seq (Heap.get?_push_size _ rfl) _) ?_)
  show wpAny _ _ (pure ((#[] : Array Value) ++ vs.toArray).toList) Q E' _
  rw [show ((#[] : Array Value) ++ vs.toArray).toList = vs by simp]
  exact wpAny_pure h
def rSortTp (X : Cx) (cl : Nat → Addr) : List V → Hp → VK → Prop := fun xs H Q => ∃ a vs R ds, xs = [.ref a] ∧ SqT X.K H a vs ∧ (∀ a o, R.Z a = some o → H a = some o) ∧ Reps (kx X cl) R ds vs ∧ sortOk ds = true ∧
  ∀ ys p, Reps (kx X cl) R (srtD ds) ys → H p = none → Q (.ref p) (upd H p (.lst ys))
theorem cr_sortTp (hu : X.A.units + 65 < cLine) : CallR X (.builtin "sorted") (rSortTp X cl) := by
  intro pins s σ H vs us Q I r h
  obtain ⟨a, xs, R, ks, rfl, hs, zh, rs', hk, q⟩ := h
  obtain ⟨its, rv, ht, hz⟩ := I.tuple hs
  obtain ⟨u, rfl, ru⟩ := vals1 r
  obtain rfl : u = Value.ref a := ru
  obtain ⟨h1, h2, h3⟩ := sortOk_is hk
  have el : ks.length = xs.length := rs'.length.symm
  have eli : its.length = xs.length := (Paired.length rv).symm
  refine Calls.call_function_entry PyProof.Rows.kind_sorted PyProof.Rows.plain_sorted PyProof.Rows.entry_sorted (PyProof.Rows.args_sorted1 _) ?_
  unfold Builtin.«sorted»
  refine wpAny_bind (m := checkCount "sorted" 1 1 _) (wpAny_pure ?_)
  refine wpAny_bind (L2.collect_tup (E := fun _ _ => True) ht ?_ (by rw [eli]; exact hz))
  generalize hh' : (s.heap.push (seqObj "list" #[] 0)).update s.heap.objs.size (Obj.mapSeq (· ++ its.toArray)) = h'
  have hkp : ∀ b o, s.heap.get? b = some o → h'.get? b = some o := fun b o e => by
    have hlt : b < s.heap.objs.size := Heap.lt_size e
    rw [← hh', Heap.get?_update_ne _ _ _ _ (Nat.ne_of_lt hlt)]
    exact Heap.get?_push_of_some _ e
  have I1 : Inv X pins σ H { s with heap := h', toks := s.toks } := I.kept hkp
  refine wpAny_bind (wpAny_newList ?_ (by rw [eli]; exact hz))
  have hoL : (h'.push (seqObj "list" its.toArray 0)).get? h'.objs.size = some (seqObj "list" its.toArray 0) := Heap.get?_push_size _ rfl
  show wpAny _ _ _ _ _ { s with heap := h'.push (seqObj "list" its.toArray 0), toks := s.toks }
  have hkq : ∀ b o, h'.get? b = some o → (h'.push (seqObj "list" its.toArray 0)).get? b = some o := fun b o e => Heap.get?_push_of_some _ e
  refine wpAny_bind (wpAny_holding (PySem.W.list_sort_data (β := D) (bs := ks) (enc := encD) (R := StD X cl R) hoL (each_of rs' rv) ((each_reads I1 zh hkq h1 (each_of rs' rv)).mono fun _ _ e => ⟨_, e, by simp⟩) h3 h2 (by rw [el]; exact hz) (fun b hb => ?_) fun out ho eo => ?_))
  · have := fit_depth b 60 (h1 b hb)
    have e : X.A.in1.units = X.A.units + 1 := rfl
    omega
  · obtain ⟨ys, hv, hr⟩ := of_each eo
    obtain ⟨n, hn⟩ := sortedHeap_at (vs := its) (out := out.toArray) hoL
    refine wpAny_pure ⟨_, rfl, .ref h'.objs.size, upd H h'.objs.size (.lst ys), I1.laid (t' := s.toks) (fun b u e => ?_) (Nat.le_refl _)
      (show ObjOk X.prog X.w _ _ _ (.lst ys) from ⟨by rw [Paired.length hv, ho, el]; exact hz, out, n, hv, hn⟩), rfl, q ys _ hr (I1.hok.fresh (Nat.le_refl _))⟩
    have hb : b < h'.objs.size := Heap.lt_size e
    rw [PyProof.Rows.sortedHeap_old (Nat.ne_of_lt hb) (by rw [size_push']; exact Nat.lt_succ_of_lt hb)]
    exact Heap.get?_push_of_some _ e
def isTp (x : D) (_ : Store) : Bool := match x with
  | .tup _ => true
  | .ktup _ => true
  | _ => false
def pSortTp (x : D) (_ : Store) : Rs RV := match x with
  | .tup ds => if sortOk ds = true then .ok (.fr (.lst (srtD ds))) else .no
  | _ => .no
theorem ok_sortTp : UnOk (kx X cl) pSortTp (fun x H Q => rSortTp X cl [x] H Q) := by
  intro x S rv v R H Q e g rx k
  unfold pSortTp at e
  split at e
  · split at e
    · rename_i ds hk
      cases e
      obtain ⟨a, vs, rfl, ha, ra⟩ := rx.tup g
      exact ⟨a, vs, R, ds, rfl, ha, g.zh, ra, hk, fun ys p r np => res_lst g k r p np⟩
    · cases e
  · cases e
def pSortDc (x : D) (S : Store) : Rs RV := match dctAt x S with
  | some (_, ks, _) => if sortOk ks = true then .ok (.fr (.lst (srtD ks))) else .no
  | none => .no
theorem res_tell {K : Kc} {R : Rc} {S : Store} {H : Hp} {Q : VK} {ds : List D} {ys : List V} {bs : List Addr} (g : GR K R S H) (k : ∀ v' R' H', Gw R H R' H' → RNew K H R' H' (.fr (.lst ds)) v' → Q v' H')
    (tb : ∀ b, b ∈ bs → ∃ us, H b = some (.tup us)) (r : Reps K (R.tellT H bs) ds ys) (p : Addr) (np : H p = none) : Q (.ref p) (upd H p (.lst ys)) := by
  have gw := Gw.tellT (bs := bs) g.zh tb
  refine k _ _ _ (gw.trans (Gw.new np)) ⟨p, _, rfl, upd_same, ⟨ys, rfl, r⟩, ?_, np⟩
  show (if p ∈ bs then H p else R.Z p) = none
  split
  · exact np
  · exact g.free np
theorem ok_sortDc : UnOk (kx X cl) pSortDc (fun x H Q => rSortDc X cl [x] H Q) := by
  intro x S rv v R H Q e g rx k
  unfold pSortDc at e
  split at e
  · rename_i t ks vs hd
    split at e
    · rename_i hk
      cases e
      obtain ⟨a, o, rfl, ho, q⟩ := dct_at g rx hd
      exact ⟨a, o, R, t, ks, vs, rfl, ho, g.zh, q, hk, fun ys p bs tb r np => res_tell g k tb r p np⟩
    · cases e
  · cases e
/-- sorted: of a list of ints, of other data, of a dict -/
def pSortA : D → Store → Rs RV := pIte isDc pSortDc (pIte isInts pSorted (pIte isTp pSortTp pSortX))
def rSortA (X : Cx) (cl : Nat → Addr) : List V → Hp → VK → Prop := fun vs H Q => rSortDc X cl vs H Q ∨ rSortedI X.K vs H Q ∨ rSortTp X cl vs H Q ∨ rSortX X cl vs H Q
theorem ok_sortA : UnOk (kx X cl) pSortA (fun x H Q => rSortA X cl [x] H Q) := ok_ite ok_sortDc (ok_ite ok_sorted (ok_ite ok_sortTp ok_sortX))
theorem cr_sortA (hc : X.calm = true) (hu : X.A.units + 65 < cLine) : CallR X (.builtin "sorted") (rSortA X cl) := CallR.or (cr_sortDc hc hu) (CallR.or cr_sortedI (CallR.or (cr_sortTp hu) (cr_sortedX hu)))
def pLenDc (x : D) (S : Store) : Rs RV := match dctAt x S with
  | some (_, ks, _) => .ok (.pl (.int ks.length))
  | none => .no
def rLenDc : List V → Hp → VK → Prop := fun xs H Q => (∃ a kvs, xs = [V.ref a] ∧ Rd H a (.dK kvs) ∧ Q (.int kvs.length) H) ∨ ∃ (p : Addr) (kvs : List (List L2.Key × V)), xs = [.ref p] ∧ Rd H p (.dT kvs) ∧ Q (.int ((kvs.length : Nat) : Int)) H
theorem call_lenDc : CallR X (.builtin "len") rLenDc := by
  intro pins s σ H xs us Q I r h
  rcases h with ⟨a, kvs, rfl, ha, q⟩ | ⟨p, kvs, rfl, hp, q⟩
  · obtain ⟨u, rfl, ru⟩ := vals1 r
    cases ru
    exact d_len I ha fun t s' I' => ⟨.int kvs.length, H, I', ⟨t, rfl⟩, q⟩
  · obtain ⟨u, rfl, rx⟩ := vals1 r
    obtain rfl : u = .ref p := rx
    obtain ⟨z, hd, ys, rel, dd⟩ := dt_rd I.hok hp
    have hl : kvs.length = ys.length := Paired.length rel
    refine call_len_dictH hd dd (by rw [← hl]; rw [sizeLine_is] at z; omega) ?_
    rw [← hl]
    exact ⟨.int ((kvs.length : Nat) : Int), H, I.tok _, ⟨_, rfl⟩, q⟩
theorem ok_lenDc : UnOk (kx X cl) pLenDc (fun x H Q => rLenDc [x] H Q) := by
  intro x S rv v R H Q e g rx k
  unfold pLenDc at e
  split at e
  · rename_i t ks vs hd
    cases e
    obtain ⟨a, o, rfl, ho, ws, rs, ⟨rfl, kk, rfl, hl, hm⟩ | ⟨rfl, kk, rfl, hl, hm⟩⟩ := dct_at g rx hd
    · refine .inl ⟨a, _, rfl, ho, ?_⟩
      have hlk : ks.length = kk.length := by simpa using congrArg List.length hm
      have e : (kk.zip ws).length = ks.length := by rw [List.length_zip]; omega
      rw [e]
      exact res_pl k rfl
    · refine .inr ⟨a, _, rfl, ho, ?_⟩
      have hlk : ks.length = kk.length := by simpa using congrArg List.length hm
      have e : (kk.zip ws).length = ks.length := by rw [List.length_zip]; omega
      rw [e]
      exact res_pl k rfl
  · cases e
def pLenA : D → Store → Rs RV := pIte isDc pLenDc pLen
def rLenA (X : Cx) : List V → Hp → VK → Prop := fun vs H Q => rLenDc vs H Q ∨ ∃ y n, vs = [y] ∧ LenV X.K y H n ∧ Q (.int n) H
theorem ok_lenA : UnOk (kx X cl) pLenA (fun x H Q => rLenA X [x] H Q) := ok_ite ok_lenDc ok_len
theorem cr_lenA : CallR X (.builtin "len") (rLenA X) := CallR.or call_lenDc call_len
end
section
variable {X : Cx} {cl : Nat → Addr} {Eo Ek Ed : Den} {o e f : Expr} {apos cpos : Pos}
def eGet2 (o k d : Den) : Den := fun ε S => do
  let (ro, ε1, S1) ← o ε S
  let x1 ← ro.get ε1
  match dctAt x1 S1 with
  | none => .no
  | some _ => do
    let (rk, ε2, S2) ← k ε1 S1
    let (rd, ε3, S3) ← d ε2 S2
    let x ← ro.get ε3
    let y ← rk.get ε3
    match dctAt x S3 with
    | none => .no
    | some (t, ks, vs) => if isKey t y = true then (match dGet ks vs y with
        | some z => .ok (.pl z, ε3, S3)
        | none => do
          let (z, ε4) ← rd.fix ε3
          .ok (.pl z, ε4, S3)) else .no
theorem isD_of {K : Kc} {R : Rc} {H : Hp} {t : Bool} {ks vs : List D} {ob : HO} {a : Addr} (ho : Rd H a ob) (q : DctO K R t ks vs ob) : IsD H a := by
  obtain ⟨ws, rs, ⟨rfl, kk, rfl, hl, hm⟩ | ⟨rfl, kk, rfl, hl, hm⟩⟩ := q
  · exact .inl ⟨_, ho⟩
  · exact .inr ⟨_, ho⟩
theorem ev_get2 (h : PE X (.Call (.Attribute o "get" apos) [e, f] [] cpos) (tDGet2 (tOf (kx X cl) Eo) (tOf (kx X cl) Ek) (tOf (kx X cl) Ed))) : PE X (.Call (.Attribute o "get" apos) [e, f] [] cpos) (tOf (kx X cl) (eGet2 Eo Ek Ed)) := by
  refine PE.im h fun σ H Q hh => ?_
  obtain ⟨ε, S, R, ω, rv, ε', S', he, s, k⟩ := hh
  obtain ⟨⟨ro, ε1, S1⟩, e1, he⟩ := bind_ok he
  obtain ⟨x1, ex1, he⟩ := bind_ok he
  dsimp only at he ex1
  split at he
  · cases he
  rename_i z1 hd1
  obtain ⟨⟨rk, ε2, S2⟩, e2, he⟩ := bind_ok he
  obtain ⟨⟨rd, ε3, S3⟩, e3, he⟩ := bind_ok he
  obtain ⟨x, ex, he⟩ := bind_ok he
  obtain ⟨y, ey, he⟩ := bind_ok he
  dsimp only at he ex ey
  split at he
  · cases he
  rename_i t ks vs hd
  split at he
  case isFalse => cases he
  rename_i hk
  refine ⟨ε, S, R, ω, ro, ε1, S1, e1, s, fun v1 R1 ω1 H1 x1' s1 p1 => ?_⟩
  obtain ⟨a, ob1, rfl, ho1, q1⟩ := dct_at s1.g (p1.vr s1 ex1) (t := z1.1) (ks := z1.2.1) (vs := z1.2.2) hd1
  refine ⟨a, rfl, isD_of ho1 q1, ε1, S1, R1, ω1, rk, ε2, S2, e2, s1, fun v2 R2 ω2 H2 x2 s2 p2 => ⟨ε2, S2, R2, ω2, rd, ε3, S3, e3, s2, fun v3 R3 ω3 H3 x3 s3 p3 => ?_⟩⟩
  obtain ⟨a', ob, ea, ho, q⟩ := dct_at s3.g ((p1.keep (x2.trans x3)).vr s3 ex) hd
  cases ea
  rcases dget_val s3.g ho q ((p2.keep x3).vr s3 ey) hk with ⟨g1, g2⟩ | ⟨d, u, g1, g2, g3⟩
  · rw [g1] at he
    obtain ⟨⟨z, ε4⟩, e4, he⟩ := bind_ok he
    cases he
    obtain ⟨R4, ω4, x4, s4, p4⟩ := p3.fix s3 x3 e4
    exact ⟨none, g2, k v3 R4 ω4 H3 ((x1'.trans x2).trans x4) s4 p4⟩
  · rw [g1] at he
    cases he
    exact ⟨some u, g2, k u R3 ω3 H3 ((x1'.trans x2).trans x3) s3 g3⟩
def eGet1 (o k : Den) : Den := fun ε S => do
  let (ro, ε1, S1) ← o ε S
  let x1 ← ro.get ε1
  match dctAt x1 S1 with
  | none => .no
  | some _ => do
    let (rk, ε2, S2) ← k ε1 S1
    let x ← ro.get ε2
    let y ← rk.get ε2
    match dctAt x S2 with
    | none => .no
    | some (t, ks, vs) => if isKey t y = true then .ok (.pl ((dGet ks vs y).getD .non), ε2, S2) else .no
theorem ev_get1 (h : PE X (.Call (.Attribute o "get" apos) [e] [] cpos) (tDGet1 (tOf (kx X cl) Eo) (tOf (kx X cl) Ek))) : PE X (.Call (.Attribute o "get" apos) [e] [] cpos) (tOf (kx X cl) (eGet1 Eo Ek)) := by
  refine PE.im h fun σ H Q hh => ?_
  obtain ⟨ε, S, R, ω, rv, ε', S', he, s, k⟩ := hh
  obtain ⟨⟨ro, ε1, S1⟩, e1, he⟩ := bind_ok he
  obtain ⟨x1, ex1, he⟩ := bind_ok he
  dsimp only at he ex1
  split at he
  · cases he
  rename_i z1 hd1
  obtain ⟨⟨rk, ε2, S2⟩, e2, he⟩ := bind_ok he
  obtain ⟨x, ex, he⟩ := bind_ok he
  obtain ⟨y, ey, he⟩ := bind_ok he
  dsimp only at he ex ey
  split at he
  · cases he
  rename_i t ks vs hd
  split at he
  case isFalse => cases he
  rename_i hk
  cases he
  refine ⟨ε, S, R, ω, ro, ε1, S1, e1, s, fun v1 R1 ω1 H1 x1' s1 p1 => ?_⟩
  obtain ⟨a, ob1, rfl, ho1, q1⟩ := dct_at s1.g (p1.vr s1 ex1) (t := z1.1) (ks := z1.2.1) (vs := z1.2.2) hd1
  refine ⟨a, rfl, isD_of ho1 q1, ε1, S1, R1, ω1, rk, _, _, e2, s1, fun v2 R2 ω2 H2 x2 s2 p2 => ?_⟩
  obtain ⟨a', ob, ea, ho, q⟩ := dct_at s2.g ((p1.keep x2).vr s2 ex) hd
  cases ea
  rcases dget_val s2.g ho q (p2.vr s2 ey) hk with ⟨g1, g2⟩ | ⟨d, u, g1, g2, g3⟩
  · exact ⟨none, g2, k .non R2 ω2 H2 (x1'.trans x2) s2 (by rw [g1]; rfl)⟩
  · exact ⟨some u, g2, k u R2 ω2 H2 (x1'.trans x2) s2 (by rw [g1]; exact g3)⟩
theorem g_get1 (hu : X.A.units + 65 < cLine) (ho : PE X o (tOf (kx X cl) Eo)) (he : PE X e (tOf (kx X cl) Ek)) (m : M1 X o "get" apos e cpos) : PE X (.Call (.Attribute o "get" apos) [e] [] cpos) (tOf (kx X cl) (eGet1 Eo Ek)) := ev_get1 (pe_dget1 (by omega) ho he m)
theorem g_get2 (hu : X.A.units + 65 < cLine) (ho : PE X o (tOf (kx X cl) Eo)) (he : PE X e (tOf (kx X cl) Ek)) (hf : PE X f (tOf (kx X cl) Ed)) (m : M2 X o "get" apos e f cpos) : PE X (.Call (.Attribute o "get" apos) [e, f] [] cpos) (tOf (kx X cl) (eGet2 Eo Ek Ed)) := ev_get2 (pe_dget2 (by omega) ho he hf m)
end
end Mp

namespace Mp
open PySem PySem.Spec PyProof.Rows L2 HT
theorem fm_some {α β : Type} (f : α → Option β) (g : α → β) : ∀ (l : List α), (∀ m ∈ l, f m = some (g m)) → l.filterMap f = l.map g
  | [], _ => rfl
  | a :: l, h => by rw [List.filterMap_cons, h a (by simp), fm_some f g l fun m hm => h m (by simp [hm])]; rfl
theorem pick_rev (xs : Array Value) : ((List.range xs.size).filterMap fun (m : Nat) => xs[(((xs.size : Int) - 1) + (m : Int) * (-1)).toNat]?).toArray = xs.toList.reverse.toArray := by
  congr 1
  have e : ∀ m ∈ List.range xs.size, xs[(((xs.size : Int) - 1) + (m : Int) * (-1)).toNat]? = some ((xs.toList.reverse)[m]?.getD .none) := by
    intro m hm
    have := List.mem_range.mp hm
    have e2 : (((xs.size : Int) - 1) + (m : Int) * (-1)).toNat = xs.size - 1 - m := by omega
    rw [e2, List.getElem?_reverse (by simpa using this)]
    rw [Array.length_toList, Array.getElem?_toList, Array.getElem?_eq_getElem (by omega)]
    rfl
  rw [fm_some _ _ _ e]
  apply List.ext_getElem?
  intro i
  rw [List.getElem?_map]
  by_cases h : i < xs.size
  · have hr : i < xs.toList.reverse.length := by simpa using h
    rw [List.getElem?_range h, List.getElem?_eq_getElem hr]
    show some (xs.toList.reverse[i]?.getD Value.none) = _
    rw [List.getElem?_eq_getElem hr]
    rfl
  · rw [List.getElem?_eq_none (by simpa using h), List.getElem?_eq_none (by simpa using h)]
    rfl
section
variable {prog : Program} {w : World} {A : Around} {E : Value → Shared → Prop} {s : Shared}
theorem sliceApplied_rev {sl : Addr} {vl vu vs : Value} {n : Nat} {Q : Int × Int × Nat → Shared → Prop} (hs : s.heap.IsSliceOf sl vl vu vs) (pl : IsPart vl none) (pu : IsPart vu none) (ps : IsPart vs (some (-1)))
    (h : Q ((n : Int) - 1, -1, n) s) : wpAny (model prog w) A (Builtin.Slice.sliceApplied (.ref sl) (pure (n : Int))) Q E s := by
  obtain ⟨os, hos, hcs, hds⟩ := id hs
  unfold Builtin.Slice.sliceApplied Builtin.Slice.sliceFields
  refine wpAny_bind (wpAny_bind (wpAny_field hos hds (x := vl) rfl (wpAny_bind (wpAny_field hos hds (x := vu) rfl (wpAny_bind (wpAny_field hos hds (x := vs) rfl (wpAny_pure ?_)))))))
  refine wpAny_bind (slicePart_ ps ?_)
  show wpAny _ _ (if ((-1 : Int) == 0) = true then _ else _) _ _ s
  rw [if_neg (by decide)]
  refine wpAny_bind (slicePart_ pl (wpAny_bind (slicePart_ pu (wpAny_bind (wpAny_pure ?_)))))
  show wpAny _ _ (match Builtin.Slice.sliceAdjust none none (-1) (n : Int) with | (lo, hi) => pure (lo, (-1 : Int), Builtin.Slice.slicePlaces lo hi (-1))) _ _ s
  have e1 : Builtin.Slice.sliceAdjust none none (-1) (n : Int) = ((n : Int) - 1, -1) := by
    unfold Builtin.Slice.sliceAdjust
    have h1 : ((-1 : Int) < 0) := by omega
    simp only [h1, if_true]
  have e2 : Builtin.Slice.slicePlaces ((n : Int) - 1) (-1) (-1) = n := by
    unfold Builtin.Slice.slicePlaces
    have h1 : ¬ ((-1 : Int) > 0) := by omega
    simp only [h1, if_false]
    have h3 : (- (-1 : Int)) = 1 := by decide
    rw [h3, Int.ediv_one]
    split <;> omega
  rw [e1]
  show wpAny _ _ (pure ((n : Int) - 1, (-1 : Int), Builtin.Slice.slicePlaces ((n : Int) - 1) (-1) (-1))) _ _ s
  rw [e2]
  exact wpAny_pure h
theorem getItem_tuple_rev {t sl : Addr} {items : Array Value} {vl vu vs : Value} {Q : Value → Shared → Prop} (ht : IsTup s.heap t items) (hs : s.heap.IsSliceOf sl vl vu vs) (pl : IsPart vl none) (pu : IsPart vu none) (ps : IsPart vs (some (-1)))
    (h : Q (.ref s.heap.objs.size) { s with heap := s.heap.push { cls := .type "tuple", data := .seq items.toList.reverse.toArray } })
    (hsz : items.size ≤ sizeLine) : wpAny (model prog w) A (getItem (.ref t) (.ref sl)) Q E s := by
  have htake : sizeOk (.seq items.toList.reverse.toArray) := by
    show items.toList.reverse.toArray.size ≤ sizeLine
    rw [List.size_toArray, List.length_reverse, Array.length_toList]
    omega
  obtain ⟨os, hos, hcs, hds⟩ := id hs
  have hTs : s.TypeIs (.ref sl) "slice" := ⟨os, hos, hcs⟩
  unfold getItem
  try with_reducible refine wpAny_holding ?_
  first | refine wpAny_bind (wpAny_pure ?_) | skip
  refine wpAny_bind (wpAny_sequenceKey ht.typeIs (by decide) ?_)
  refine wpAny_bind (wpAny_callSpecial?_slot (name := Str.ofString "__getitem__") ht.typeIs PyProof.Rows.slot_tuple_getitem
    (wpAny_call_entry PyProof.Rows.slot_tuple_getitem ht.typeIs entry_tuple_getitem ?_ (args_tuple_getitem _ _)))
  show wpAny _ _ (Builtin.Tuple.tupleItemsOf (.ref t) >>= _) _ _ s
  refine wpAny_bind (tupleItemsOf_ ht ?_)
  refine wpAny_bind (wpAny_typeOf hTs ?_)
  rw [if_pos (by decide)]
  refine wpAny_bind (sliceApplied_rev hs pl pu ps ?_)
  have hno : ¬ ((((items.size : Int) - 1) == 0 && (-1 : Int) == 1 && items.size == items.size) = true) := by
    intro q
    rw [Bool.and_eq_true, Bool.and_eq_true] at q
    exact absurd q.1.2 (by decide)
  show wpAny _ _ (if (((items.size : Int) - 1) == 0 && (-1 : Int) == 1 && items.size == items.size) = true then _ else _) _ _ s
  rw [if_neg hno, pick_rev]
  first
    | exact wpAny_bind (m := Builtin.Tuple.tupleExact _) (wpAny_newObj_type (wpAny_pure ⟨_, rfl, wpAny_pure h⟩) htake)
    | exact wpAny_bind (m := Builtin.Tuple.tupleExact _) (wpAny_newObj_type (wpAny_bind (wpAny_pure (wpAny_pure ⟨_, rfl, wpAny_pure h⟩))) htake)
    | exact wpAny_bind (wpAny_bind (m := Builtin.Tuple.tupleExact _) (wpAny_newObj_type (wpAny_pure (wpAny_pure ⟨_, rfl, wpAny_pure h⟩)) htake))
    | exact wpAny_bind (wpAny_bind (m := Builtin.Tuple.tupleExact _) (wpAny_newObj_type (wpAny_pure ⟨_, rfl, wpAny_pure h⟩) htake))
end
section
variable {X : Cx} {cl : Nat → Addr} {Ea : Den} {pos : Pos} {e : Expr}
def tRevT (K : PySem.W.Frag) (te : TE) : TE := fun σ H Q => te σ H fun x H1 => ∃ a xs, x = .ref a ∧ SqT K H1 a xs ∧ ∀ p, H1 p = none → Q (.ref p) (upd H1 p (.tup xs.reverse))
theorem pe_revT {te : TE} {k : Nat} {p1 p2 p3 : Pos} (he : PE X e te) : PE X (.Subscript e (.Slice none none (some (.UnaryOp .USub (.Constant (.int 1) k p1) p2)) p3) pos) (tRevT X.K te) := by
  refine ⟨fun pins s σ H Q I h => ?_⟩
  refine Subscript_ (thn (he.run pins s σ H _ I h) fun v s1 ⟨x, H1, I1, r1, q1⟩ => ?_)
  obtain ⟨a, xs, ex, hx, q⟩ := q1
  subst ex
  cases r1
  have hst : PO X (some (.UnaryOp .USub (.Constant (.int 1) k p1) p2)) (tPart (tUn (rU fun i => .int (-i)) (tC (.int 1)))) := po_some (pe_un un_neg pe_int)
  refine wpAny_Slice (thn (po_none.run pins s1 σ H1 (fun o H2 => o = none ∧ H2 = H1) I1 ⟨rfl, rfl⟩) fun vl s2 ⟨l, H2, I2, pl, el, e2⟩ => ?_)
  subst el e2
  refine thn (po_none.run pins s2 σ H2 (fun o H3 => o = none ∧ H3 = H2) I2 ⟨rfl, rfl⟩) fun vu s3 ⟨u, H3, I3, pu, eu, e3⟩ => ?_
  subst eu e3
  refine thn (hst.run pins s3 σ H3 (fun o H4 => o = some (-1) ∧ H4 = H3) I3 ⟨1, rfl, -1, rfl, rfl, rfl⟩) fun vs s4 ⟨o, H4, I4, ps, eo, e4⟩ => ?_
  subst eo e4
  have I5 : Inv X pins σ H4 { s4 with heap := s4.heap.push { cls := .type "slice", data := .fields #[vl, vu, vs] } } := I4.kept (t' := s4.toks) fun b ob q => Heap.get?_push_of_some _ q
  obtain ⟨its, r, ht, hz⟩ := I5.tuple hx
  have hlen := r.length
  show wpAny (model X.prog X.w) X.A (subscriptTail e (.Slice none none (some (.UnaryOp .USub (.Constant (.int 1) k p1) p2)) p3) (.ref a) (.ref s4.heap.objs.size)) (EP X pins σ Q) X.xe { s4 with heap := s4.heap.push { cls := .type "slice", data := .fields #[vl, vu, vs] } }
  refine tail_any (ops := [.ref a, .ref s4.heap.objs.size]) ht.typeIs (PyProof.Rows.slot_tuple_getitem.lookup) ?_ (by with_unfolding_all rfl)
  refine getItem_tuple_rev ht (Heap.IsSliceOf.new _ vl vu vs) pl pu ps ?_ (by rw [List.size_toArray]; omega)
  refine ⟨.ref _, _, I5.laid (t' := s4.toks) (o := .tup xs.reverse) (fun b ob q => Heap.get?_push_of_some _ q) (Nat.le_refl _) ?_, rfl, q _ (I5.hok.fresh (Nat.le_refl _))⟩
  exact ⟨by rw [List.length_reverse]; exact hz, its.reverse, r.reverse, IsTup.new _ _⟩
def pRevT (x : D) (_ : Store) : Rs RV := match x with
  | .tup ds => .ok (.pl (.tup ds.reverse))
  | .ktup ds => .ok (.pl (.tup ds.reverse))
  | _ => .no
def rRevT (X : Cx) : V → Hp → VK → Prop := fun x H Q => ∃ a xs, x = .ref a ∧ SqT X.K H a xs ∧ ∀ p, H p = none → Q (.ref p) (upd H p (.tup xs.reverse))
theorem ok_revT : UnOk (kx X cl) pRevT (rRevT X) := by
  intro x S rv v R H Q e g rx k
  unfold pRevT at e
  split at e
  · cases e
    obtain ⟨p, vs, rfl, hp, rp⟩ := rx.tup g
    exact ⟨p, vs, rfl, hp, res_tup g k rp.rev⟩
  · cases e
    obtain ⟨p, vs, rfl, hp, rp⟩ := rx.ktup g
    exact ⟨p, vs, rfl, hp, res_tup g k rp.rev⟩
  · cases e
def pRevA : D → Store → Rs RV := pIte isTp pRevT pRevL
theorem ite_im {c : D → Store → Bool} {f g : D → Store → Rs RV} (σ : L2.St) (H : Hp) (Q : VK) (hh : tOf (kx X cl) (eUn (pIte c f g) Ea) σ H Q) : tOf (kx X cl) (eUn f Ea) σ H Q ∨ tOf (kx X cl) (eUn g Ea) σ H Q := by
  obtain ⟨ε, S, R, ω, rv, ε', S', he, s, k⟩ := hh
  obtain ⟨⟨r1, ε1, S1⟩, e1, he⟩ := bind_ok he
  obtain ⟨x, ex, he⟩ := bind_ok he
  obtain ⟨rr, er, he⟩ := bind_ok he
  have key : ∀ q : D → Store → Rs RV, q x S1 = .ok rr → eUn q Ea ε S = .ok (rv, ε', S') := fun q hq => by
    show (Ea ε S >>= fun p => p.1.get p.2.1 >>= fun x => q x p.2.2 >>= fun v => Rs.ok (v, p.2.1, p.2.2)) = _
    rw [e1, ok_bind, ex, ok_bind, hq, ok_bind]
    exact he
  unfold pIte at er
  split at er
  · exact .inl ⟨ε, S, R, ω, rv, ε', S', key f er, s, k⟩
  · exact .inr ⟨ε, S, R, ω, rv, ε', S', key g er, s, k⟩
theorem g_revA {k : Nat} {p1 p2 p3 : Pos} (ha : PE X e (tOf (kx X cl) Ea)) : PE X (.Subscript e (.Slice none none (some (.UnaryOp .USub (.Constant (.int 1) k p1) p2)) p3) pos) (tOf (kx X cl) (eUn pRevA Ea)) :=
  PE.im (PE.or (pe_revT ha) (pe_revL ha)) fun σ H Q hh => (ite_im σ H Q hh).imp (fun h => un_im ok_revT σ H Q h) (fun h => un_im ok_revL σ H Q h)
end
end Mp

namespace Mp
open PySem PySem.Spec PyProof.Rows L2
section
variable {X : Cx} {cl : Nat → Addr} {Ea : Den} {pos : Pos} {e : Expr}
theorem g_putD (hu : X.A.units + 65 < cLine) {o i : Expr} {Eo Ei : Den} {tp : Pos} (he : PE X e (tOf (kx X cl) Ea)) (ho : PE X o (tOf (kx X cl) Eo)) (hi : PE X i (tOf (kx X cl) Ei)) (ha : ∀ v, assign (.Subscript o i tp) X.env v = (do
      let ov ← holding [v] (eval o X.env)
      let iv ← holding [v, ov] (eval i X.env)
      standAt tp
      holding [v, ov, iv] (setItem ov iv v)
      release [v, ov, iv] []) := by intro _; rfl) (hs : swapsWithSole [.Subscript o i tp] e pos.line X.env = pure false := by rfl) (hw : swappedStores [.Subscript o i tp] e X.env = pure none := by rfl) (h1 : (assignEach [.Subscript o i tp] X.env).map (·.2) = [assign (.Subscript o i tp) X.env] := by rfl) : PS X (.Assign [.Subscript o i tp] e pos) (sOf (kx X cl) (sPutD Eo Ei Ea)) := sv_putD (ps_asg he (pg_sub ho hi (set_dict (by omega)) ha) hs hw h1)
end
section
variable {t : Bool} {ks vs ds : List D} {x y : D} {S : Store} {ε : Env} {i : Nat} {Eo Ek Ed Ea : Den}
@[simp] theorem x_dct : eDct t ε S = .ok (.fr (.dct t [] []), ε, S) := id rfl
@[simp] theorem dctAt_dct : dctAt (.dct t ks vs) S = some (t, ks, vs) := id rfl
@[simp] theorem dctAt_lst : dctAt (.lst ds) S = none := id rfl
@[simp] theorem dctAt_tup : dctAt (.tup ds) S = none := id rfl
@[simp] theorem dctAt_ktup : dctAt (.ktup ds) S = none := id rfl
@[simp] theorem dctAt_str {s : List Nat} : dctAt (.str s) S = none := id rfl
@[simp] theorem y_idxA_lst : pIdxA (.lst ds) y S = pIdx (.lst ds) y S := id rfl
@[simp] theorem y_idxA_tup : pIdxA (.tup ds) y S = pIdx (.tup ds) y S := id rfl
@[simp] theorem y_idxA_ktup : pIdxA (.ktup ds) y S = pIdx (.ktup ds) y S := id rfl
@[simp] theorem y_idxA_str {s : List Nat} : pIdxA (.str s) y S = pIdx (.str s) y S := id rfl
theorem y_idxA_dct (h : isKey t y = true) (g : dGet ks vs y = some x) : pIdxA (.dct t ks vs) y S = .ok (.pl x) := by
  show pDIdx (.dct t ks vs) y S = _
  unfold pDIdx
  simp only [dctAt_dct, h, if_true, g]
@[simp] theorem y_inA_lst {n : Bool} : pInA n y (.lst ds) S = pIn n y (.lst ds) S := id rfl
@[simp] theorem y_inA_tup {n : Bool} : pInA n y (.tup ds) S = pIn n y (.tup ds) S := id rfl
@[simp] theorem y_inA_ktup {n : Bool} : pInA n y (.ktup ds) S = pIn n y (.ktup ds) S := id rfl
@[simp] theorem y_inA_str {n : Bool} {s : List Nat} : pInA n y (.str s) S = pIn n y (.str s) S := id rfl
theorem y_inA_dct {n : Bool} (h : isKey t y = true) : pInA n y (.dct t ks vs) S = .ok (.pl (.bl (n != (dGet ks vs y).isSome))) := by
  show pDIn n y (.dct t ks vs) S = _
  unfold pDIn
  simp only [dctAt_dct, h, if_true]
@[simp] theorem y_lenA_dct : pLenA (.dct t ks vs) S = .ok (.pl (.int ks.length)) := by simp [pLenA, pIte, isDc, pLenDc]
@[simp] theorem y_lenA_lst : pLenA (.lst ds) S = .ok (.pl (.int ds.length)) := by simp [pLenA, pIte, isDc]
@[simp] theorem y_lenA_tup : pLenA (.tup ds) S = .ok (.pl (.int ds.length)) := by simp [pLenA, pIte, isDc]
theorem y_get2_some {ro : RV} {z : D} {ε1 ε2 ε3 : Env} {S1 S2 S3 : Store} {rk rd : RV} {t' : Bool} {ks' vs' : List D} {x1 x2 : D} (e1 : Eo ε S = .ok (ro, ε1, S1)) (h1 : ro.get ε1 = .ok x1) (d1 : dctAt x1 S1 = some (t', ks', vs')) (e2 : Ek ε1 S1 = .ok (rk, ε2, S2)) (e3 : Ed ε2 S2 = .ok (rd, ε3, S3))
    (h2 : ro.get ε3 = .ok x2) (h3 : rk.get ε3 = .ok y) (d2 : dctAt x2 S3 = some (t, ks, vs)) (hk : isKey t y = true) (g : dGet ks vs y = some z) : eGet2 Eo Ek Ed ε S = .ok (.pl z, ε3, S3) := by
  unfold eGet2
  simp only [e1, ok_bind, h1, d1, e2, e3, h2, h3, d2, hk, if_true, g]
@[simp] theorem x_get2 : eGet2 Eo Ek Ed ε S = (Eo ε S >>= fun p => p.1.get p.2.1 >>= fun x1 => match dctAt x1 p.2.2 with
    | none => .no
    | some _ => Ek p.2.1 p.2.2 >>= fun q => Ed q.2.1 q.2.2 >>= fun r => p.1.get r.2.1 >>= fun x => q.1.get r.2.1 >>= fun y => match dctAt x r.2.2 with
      | none => .no
      | some (t, ks, vs) => if isKey t y = true then (match dGet ks vs y with
        | some z => .ok (.pl z, r.2.1, r.2.2)
        | none => r.1.fix r.2.1 >>= fun f => .ok (.pl f.1, f.2, r.2.2)) else .no) := id rfl
@[simp] theorem x_get1 : eGet1 Eo Ek ε S = (Eo ε S >>= fun p => p.1.get p.2.1 >>= fun x1 => match dctAt x1 p.2.2 with
    | none => .no
    | some _ => Ek p.2.1 p.2.2 >>= fun q => p.1.get q.2.1 >>= fun x => q.1.get q.2.1 >>= fun y => match dctAt x q.2.2 with
      | none => .no
      | some (t, ks, vs) => if isKey t y = true then .ok (.pl ((dGet ks vs y).getD .non), q.2.1, q.2.2) else .no) := id rfl
@[simp] theorem x_putD : sPutD Eo Ek Ea ε S = (Ea ε S >>= fun p => p.1.fix p.2.1 >>= fun q => Eo q.2 p.2.2 >>= fun r => Ek r.2.1 r.2.2 >>= fun u => u.1.get u.2.1 >>= fun y => getDct r.1 u.2.1 u.2.2 >>= fun z =>
    if (isKey z.1 y && lt24 z.2.1) = true then .ok (.nx (putDct r.1 z.1 (dSet z.2.1 z.2.2 y q.1).1 (dSet z.2.1 z.2.2 y q.1).2 u.2.1 u.2.2).1 (putDct r.1 z.1 (dSet z.2.1 z.2.2 y q.1).1 (dSet z.2.1 z.2.2 y q.1).2 u.2.1 u.2.2).2) else .no) := id rfl
@[simp] theorem getDct_bor : getDct (.bor i) ε S = (match slot ε i with | some (.own (.dct t ks vs)) => .ok (t, ks, vs) | _ => .no) := id rfl
@[simp] theorem putDct_bor : putDct (.bor i) t ks vs ε S = (ε.set i (some (.own (.dct t ks vs))), S) := id rfl
theorem lt24_of {ks : List D} (h : ks.length < 16777216) : lt24 ks = true := decide_eq_true h
theorem isKey_int {n : Int} : isKey false (.int n) = true := id rfl
theorem isKey_str {n : List Nat} : isKey false (.str n) = true := id rfl
theorem keys_ints : ∀ ns : List Int, D.keys (intsD ns) = some (ns.map Sum.inl)
  | [] => rfl
  | n :: ns => by
    show D.keys (.int n :: intsD ns) = _
    simp only [D.keys, D.key, keys_ints ns]; rfl
theorem isKey_ints {ns : List Int} : isKey true (.tup (intsD ns)) = true := by
  show (D.keys (intsD ns)).isSome = true
  rw [keys_ints]; rfl
end
section
variable {κ : Type} [DecidableEq κ] {f : κ → D}
theorem dGet_mem : ∀ {ks vs : List D} {x : D}, ks.length = vs.length → ((dGet ks vs x).isSome = decide (x ∈ ks))
  | [], vs, x, _ => by simp [dGet]
  | k :: ks, [], x, h => by simp at h
  | k :: ks, v :: vs, x, h => by
    unfold dGet
    by_cases q : k = x
    · subst q; simp
    · rw [if_neg q, dGet_mem (by simpa using h)]
      have : ¬ x = k := fun e => q e.symm
      simp [this]
theorem dGet_val' {ks vs : List D} {x d : D} (h : dGet ks vs x = some d) : d ∈ vs := by
  induction ks generalizing vs with
  | nil => simp [dGet] at h
  | cons k ks ih =>
    cases vs with
    | nil => simp [dGet] at h
    | cons v vs =>
      unfold dGet at h
      split at h
      · cases h; simp
      · exact List.mem_cons_of_mem _ (ih h)
theorem dRep_len : ∀ {ks vs : List D} {x y : D}, ks.length = vs.length → (dRep ks vs x y).length = vs.length
  | [], [], x, y, _ => rfl
  | [], _ :: _, x, y, h => by simp at h
  | _ :: _, [], x, y, h => by simp at h
  | k :: ks, v :: vs, x, y, h => by simp [dRep, dRep_len (ks := ks) (vs := vs) (by simpa using h)]
theorem dSet_len {ks vs : List D} {x y : D} (h : ks.length = vs.length) : (dSet ks vs x y).1.length = (dSet ks vs x y).2.length := by
  unfold dSet
  split
  · rw [dRep_len h, h]
  · simp [h]
theorem dSet_mem {ks vs : List D} {x y z : D} : z ∈ (dSet ks vs x y).1 ↔ z = x ∨ z ∈ ks := by
  unfold dSet
  split
  · rename_i h
    constructor
    · exact .inr
    · rintro (rfl | h')
      · exact h
      · exact h'
  · simp [or_comm]
theorem dSet_nodup {ks vs : List D} {x y : D} (h : ks.Nodup) : (dSet ks vs x y).1.Nodup := by
  unfold dSet
  split
  · exact h
  · rename_i q
    rw [List.nodup_append]
    refine ⟨h, by simp, fun a ha b hb => ?_⟩
    simp at hb
    subst hb
    exact fun e => q (e ▸ ha)
theorem dRep_all {P : D → Prop} : ∀ {ks vs : List D} {x y : D}, P y → (∀ v ∈ vs, P v) → ∀ v ∈ dRep ks vs x y, P v
  | [], vs, x, y, hy, h, v, m => by
    have : dRep [] vs x y = vs := by cases vs <;> rfl
    rw [this] at m; exact h v m
  | k :: ks, [], x, y, hy, h, v, m => by simp [dRep] at m
  | k :: ks, u :: vs, x, y, hy, h, v, m => by
    simp only [dRep, List.mem_cons] at m
    rcases m with rfl | m
    · split
      · exact hy
      · exact h _ (by simp)
    · exact dRep_all hy (fun v m => h v (by simp [m])) v m
theorem dSet_all {P : D → Prop} {ks vs : List D} {x y : D} (hy : P y) (h : ∀ v ∈ vs, P v) : ∀ v ∈ (dSet ks vs x y).2, P v := by
  unfold dSet
  split
  · exact dRep_all hy h
  · intro v m
    simp only [List.mem_append, List.mem_singleton] at m
    rcases m with m | rfl
    · exact h v m
    · exact hy
theorem dGet_dRep : ∀ {ks vs : List D} {x y z : D}, x ∈ ks → ks.length = vs.length → dGet ks (dRep ks vs x y) z = if z = x then some y else dGet ks vs z
  | [], vs, x, y, z, m, _ => by simp at m
  | k :: ks, [], x, y, z, m, h => by simp at h
  | k :: ks, v :: vs, x, y, z, m, h => by
    simp only [dRep, dGet]
    by_cases q : k = x
    · subst q
      by_cases r : k = z
      · subst r; simp
      · rw [if_neg r, if_neg (fun e => r e.symm), if_neg r]
        by_cases m2 : k ∈ ks
        · rw [dGet_dRep m2 (by simpa using h), if_neg (fun e => r e.symm)]
        · exact dGet_not m2 (by simpa using h) r
    · have m2 : x ∈ ks := by
        rcases List.mem_cons.mp m with e | e
        · exact absurd e.symm q
        · exact e
      by_cases r : k = z
      · subst r; simp [q]
      · rw [if_neg r, if_neg r, dGet_dRep m2 (by simpa using h)]
where
  dGet_not {ks vs : List D} {k z y : D} (m : k ∉ ks) (h : ks.length = vs.length) (r : k ≠ z) : dGet ks (dRep ks vs k y) z = dGet ks vs z := by
    have : dRep ks vs k y = vs := dRep_not m h
    rw [this]
  dRep_not : ∀ {ks vs : List D} {k y : D}, k ∉ ks → ks.length = vs.length → dRep ks vs k y = vs
    | [], vs, k, y, _, _ => by cases vs <;> rfl
    | a :: ks, [], k, y, _, h => by simp at h
    | a :: ks, v :: vs, k, y, m, h => by
      have h1 : ¬ a = k := fun e => m (by simp [e])
      have h2 : k ∉ ks := fun q => m (by simp [q])
      simp only [dRep, if_neg h1, dRep_not (y := y) h2 (show ks.length = vs.length by simpa using h)]
theorem dGet_app : ∀ {ks vs : List D} {x y z : D}, x ∉ ks → ks.length = vs.length → dGet (ks ++ [x]) (vs ++ [y]) z = if z = x then some y else dGet ks vs z
  | [], [], x, y, z, _, _ => by
    by_cases q : x = z
    · subst q; simp [dGet]
    · have : ¬ z = x := fun e => q e.symm
      simp [dGet, q, this]
  | [], _ :: _, x, y, z, _, h => by simp at h
  | _ :: _, [], x, y, z, _, h => by simp at h
  | k :: ks, v :: vs, x, y, z, m, h => by
    simp only [List.cons_append, dGet]
    have h1 : ¬ k = x := fun e => m (by simp [e])
    by_cases r : k = z
    · subst r; simp [h1]
    · rw [if_neg r, if_neg r, dGet_app (fun q => m (by simp [q])) (by simpa using h)]
theorem dGet_dSet {ks vs : List D} {x y z : D} (h : ks.length = vs.length) : dGet (dSet ks vs x y).1 (dSet ks vs x y).2 z = if z = x then some y else dGet ks vs z := by
  unfold dSet
  split
  · rename_i m
    exact dGet_dRep m h
  · rename_i m
    exact dGet_app m h
end
def prD (p : Bd.Sq) : D := .tup [.int p.1, .int p.2]
def prsD (ps : List Bd.Sq) : List D := ps.map prD
theorem prD_inj {p q : Bd.Sq} (h : prD p = prD q) : p = q := by
  unfold prD at h
  injection h with h
  simp only [List.cons.injEq, D.int.injEq] at h
  exact Prod.ext h.1 h.2.1
theorem prD_mem {p : Bd.Sq} {ps : List Bd.Sq} : prD p ∈ prsD ps ↔ p ∈ ps := by
  unfold prsD
  rw [List.mem_map]
  constructor
  · rintro ⟨q, hq, e⟩; rw [← prD_inj e]; exact hq
  · intro h; exact ⟨p, h, rfl⟩
theorem isKey_pr {p : Bd.Sq} : isKey true (prD p) = true := isKey_ints (ns := [p.1, p.2])
@[simp] theorem prsD_len {ps : List Bd.Sq} : (prsD ps).length = ps.length := by simp [prsD]
theorem leD_pr {p q : Bd.Sq} : leD (prD p) (prD q) = Bd.le p q := by
  unfold leD prD Bd.le
  rw [PySem.W.dataLe_eq]
  show (!PySem.W.dataLt (.tuple [.int q.1, .int q.2]) (.tuple [.int p.1, .int p.2])) = _
  rw [PySem.W.dataLt_ii]
  by_cases h : q.1 < p.1 ∨ q.1 = p.1 ∧ q.2 < p.2
  · rw [decide_eq_true h, decide_eq_false (by omega)]; rfl
  · rw [decide_eq_false h, decide_eq_true (by omega)]; rfl
theorem srtD_prs {ps : List Bd.Sq} : srtD (prsD ps) = prsD (Bd.msort ps) := by
  unfold srtD prsD Bd.msort
  exact (List.map_mergeSort (r := Bd.le) (s := leD) (f := prD) fun a _ b _ => leD_pr.symm).symm
theorem sortOk_prs {ps : List Bd.Sq} : sortOk (prsD ps) = true := by
  unfold sortOk
  simp only [Bool.and_eq_true, Bool.or_eq_true, List.all_eq_true, prsD, List.mem_map, forall_exists_index, and_imp, forall_apply_eq_imp_iff₂]
  exact ⟨⟨fun p _ => rfl, .inl fun p _ => rfl⟩, fun p _ q _ => by simp [prD, encD, encDs, PySem.W.alike, PySem.W.alikeAll]⟩
theorem intsOf_prs {p : Bd.Sq} {ps : List Bd.Sq} : intsOf (prsD (p :: ps)) = none := id rfl
theorem y_sortA_prs {ps : List Bd.Sq} {S : Store} : pSortA (.lst (prsD ps)) S = .ok (.fr (.lst (prsD (Bd.msort ps)))) := by
  cases ps with
  | nil =>
    have : pSortA (.lst []) S = pSorted (.lst (intsD [])) S := by simp [pSortA, pIte, isDc, isInts, intsOf, intsD]
    show pSortA (.lst []) S = _
    rw [this, y_sorted]
    show Rs.ok (RV.fr (D.lst (intsD (sortI [])))) = _
    rw [← sortI_eq (ns := []) (ms := []) (.refl _) .nil]
    simp [Bd.msort, prsD, intsD]
  | cons p ps =>
    have h1 : isDc (.lst (prsD (p :: ps))) S = false := by simp [isDc]
    have h2 : isInts (.lst (prsD (p :: ps))) S = false := by simp [isInts, intsOf_prs]
    have h3 : isTp (.lst (prsD (p :: ps))) S = false := rfl
    unfold pSortA pIte
    rw [h1, h2, if_neg (by simp), if_neg (by simp)]
    rw [h3, if_neg (by simp)]
    unfold pSortX
    simp only [sortOk_prs, if_true, srtD_prs]
theorem y_sortA_dprs {ps : List Bd.Sq} {vs : List D} {S : Store} : pSortA (.dct true (prsD ps) vs) S = .ok (.fr (.lst (prsD (Bd.msort ps)))) := by
  have h1 : isDc (.dct true (prsD ps) vs) S = true := by simp [isDc]
  unfold pSortA pIte
  rw [if_pos h1]
  unfold pSortDc
  simp only [dctAt_dct, sortOk_prs, if_true, srtD_prs]
theorem y_sortA_tprs {ps : List Bd.Sq} {S : Store} : pSortA (.tup (prsD ps)) S = .ok (.fr (.lst (prsD (Bd.msort ps)))) := by
  show pSortTp (.tup (prsD ps)) S = _
  unfold pSortTp
  simp only [sortOk_prs, if_true, srtD_prs]
theorem y_sortA_ints {ns : List Int} {S : Store} : pSortA (.lst (intsD ns)) S = .ok (.fr (.lst (intsD (sortI ns)))) := by
  have h1 : isDc (.lst (intsD ns)) S = false := by simp [isDc]
  have h2 : isInts (.lst (intsD ns)) S = true := by simp [isInts, intsOf_D]
  unfold pSortA pIte
  rw [h1, h2]
  simp
@[simp] theorem y_revT {ds : List D} {S : Store} : pRevA (.tup ds) S = .ok (.pl (.tup ds.reverse)) := id rfl
@[simp] theorem y_revL {ds : List D} {S : Store} : pRevA (.lst ds) S = .ok (.fr (.lst ds.reverse)) := id rfl
end Mp

namespace Mp
open PySem PySem.Spec PyProof.Rows L2
theorem foldl_cat (xs : Array Nat) : ∀ (n : Nat) (acc : Array Nat), (List.replicate n xs).foldl (· ++ ·) acc = acc ++ ((List.replicate n xs.toList).flatten).toArray
  | 0, acc => by simp
  | n + 1, acc => by
    rw [List.replicate_succ, List.foldl_cons, foldl_cat xs n (acc ++ xs), List.replicate_succ, List.flatten_cons]
    apply Array.ext'
    simp
def rMulS : R2 := fun x y H Q => ∃ (z : List Nat) (k : Int), x = .str ⟨z.toArray⟩ ∧ y = .int k ∧ 0 ≤ k ∧ k ≤ 100000 ∧ z.length ≤ 100 ∧ Q (.str ⟨((List.replicate k.toNat z).flatten).toArray⟩) H
theorem op_mulS {X : Cx} : OpR X (binaryOp .Mult) rMulS := by
  intro pins s σ H x y v u Q I rx ry h
  obtain ⟨z, k, rfl, rfl, h0, h1, hz, q⟩ := h
  obtain ⟨t, rfl⟩ := rx
  obtain ⟨t', rfl⟩ := ry
  have el : Str.length (⟨z.toArray⟩ : Str) = z.length := by simp [Str.length]
  have hm : z.length * k.toNat ≤ 10000000 := by
    have : z.length * k.toNat ≤ 100 * 100000 := Nat.mul_le_mul hz (by omega)
    omega
  refine P.mul_str (by rw [decide_eq_false (by omega), decide_eq_false (by omega)]; rfl) (fun c1 c2 => ?_) (fun c1 c2 => ?_) ?_
  · rw [el]
    have h2 : (2 ^ 63 - 1 : Int) / 100000 ≤ (2 ^ 63 - 1) / k := by
      refine Int.le_ediv_of_mul_le (by omega) ?_
      have : (2 ^ 63 - 1 : Int) / 100000 * k ≤ (2 ^ 63 - 1 : Int) / 100000 * 100000 := Int.mul_le_mul_of_nonneg_left h1 (by decide)
      have h3 : (2 ^ 63 - 1 : Int) / 100000 * 100000 ≤ 2 ^ 63 - 1 := by decide
      omega
    have h4 : (1000 : Int) ≤ (2 ^ 63 - 1 : Int) / 100000 := by decide
    omega
  · rw [el]
    unfold Builtin.Str.tooLong
    rw [sizeLine_eq]
    exact decide_eq_false (by omega)
  · split
    · rename_i c
      have : k = 0 := by omega
      subst this
      refine ⟨by decide, .str Str.empty, H, I.tok _, ⟨_, rfl⟩, ?_⟩
      have e : Str.empty = (⟨((List.replicate (0 : Int).toNat z).flatten).toArray⟩ : Str) := rfl
      rw [e]; exact q
    · split
      · rename_i c1 c2
        refine ⟨.str ⟨z.toArray⟩, H, I, ⟨_, rfl⟩, ?_⟩
        have e : (List.replicate k.toNat z).flatten = z := by
          rw [Bool.or_eq_true, beq_iff_eq, beq_iff_eq, el] at c2
          rcases c2 with c2 | c2
          · subst c2; simp
          · have : z = [] := List.eq_nil_of_length_eq_zero c2
            subst this; simp
        rw [e] at q; exact q
      · refine ⟨?_, .str ⟨((List.replicate k.toNat z).flatten).toArray⟩, H, I.tok _, ⟨s.toks, ?_⟩, q⟩
        · rw [foldl_cat]
          show _ ≤ _
          have e : k.toNat * z.length = z.length * k.toNat := Nat.mul_comm _ _
          have := sizeLine_eq
          simp [Str.length]
          omega
        · rw [foldl_cat]; simp

theorem tuple_mulW1 (l : Addr) (items : Array Value) (n : Nat) (dd : Option Addr) (sl : Array (Option Value)) (x : Int) (u : Tok) (c0 : (decide (x < -(2 ^ 63)) || decide (x ≥ 2 ^ 63)) = false) (c1 : (items.isEmpty || x == 1) = true) :
    Meets (Builtin.«tuple.__mul__» ⟨[.ref l, .int x u], []⟩) (fun _ R s => s.heap.get? l = some { cls := .type "tuple", dict := dd, data := .seq items n, slots := sl } ∧
      R (.ok (.ret (Value.ref l))) s) :=
  .of_wp fun prog w A R s h => by
    obtain ⟨hp, g, d, tk, os⟩ := s
    obtain ⟨hl, h⟩ := h
    have f1 := AutoSeq1.idx_int
    wp_walk using wpAny_loadPart' hl
    repeat (first
      | (refine wpAny_ite_false (decide_eq_false (by rw [c0]; exact Bool.false_ne_true)) ?_; wp_walk using wpAny_loadPart' hl)
      | (refine wpAny_ite_true (decide_eq_true c1) ?_; wp_walk using wpAny_loadPart' hl))
    exact ⟨_, rfl, h⟩
def rRepT1 (K : PySem.W.Frag) : R2 := fun x y H Q => ∃ l k xs, x = .ref l ∧ y = .int k ∧ SqT K H l xs ∧ (xs = [] ∨ k = 1) ∧ -1000000 ≤ k ∧ k ≤ 1000000 ∧ Q (.ref l) H
theorem op_repT1 {X : Cx} : OpR X (binaryOp .Mult) (rRepT1 X.K) := by
  intro pins s σ H x y v u Q I rx ry h
  obtain ⟨l, k, xs, rfl, rfl, hT, hk, h1, h2, q⟩ := h
  cases rx
  obtain ⟨t, rfl⟩ := ry
  obtain ⟨its, r, ⟨⟨cls, dd, data, sl⟩, ho, hc, n, hd⟩, hs⟩ := I.tuple hT
  simp only at hc hd
  subst hc hd
  have c0 : (decide (k < -(2 ^ 63)) || decide (k ≥ 2 ^ 63)) = false := by
    rw [decide_eq_false (by omega), decide_eq_false (by omega)] <;> rfl
  have c1 : (its.toArray.isEmpty || k == 1) = true := by
    rcases hk with e | e
    · subst e
      cases r
      rfl
    · subst e; simp
  exact wpAny_binaryOp_repeat_ref (T := "tuple") (U := "int") (by decide) ⟨_, ho, rfl⟩ (fun s' => typeIs_int s' k t) noFill_tuple_mul F.fills_int_mul F.slot_int_rmul repeat_tuple F.slot_int_index.lookup
    (call_meets F.slot_int_rmul (typeIs_int s k t) F.entry_int_rmul (F.args_int_rmul_2 _ _) (int_rmul_tuple k t l its.toArray n dd sl)
      ⟨ho, rfl, ⟨_, ho, rfl⟩, call_meets F.slot_tuple_mul ⟨_, ho, rfl⟩ F.entry_tuple_mul (F.args_tuple_mul_2 _ _) (tuple_mulW1 l its.toArray n dd sl k t c0 c1) ⟨ho, .ref l, H, I, rfl, q⟩⟩)
/-- * of all kinds -/
def pMulA (x y : D) (S : Store) : Rs RV := match x, y with
  | .str z, .int k => if 0 ≤ k ∧ k ≤ 100000 ∧ z.length ≤ 100 then .ok (.pl (.str (List.replicate k.toNat z).flatten)) else .no
  | .tup ds, .int k => if (ds = [] ∨ k = 1) ∧ -1000000 ≤ k ∧ k ≤ 1000000 then .ok (.pl (.tup ds)) else pMul x y S
  | _, _ => pMul x y S
section
variable {X : Cx} {cl : Nat → Addr} {a b : Expr} {Ea Eb : Den} {pos : Pos}
def rMulA (K : PySem.W.Frag) : R2 := fun x y H Q => rMulAll K x y H Q ∨ rMulS x y H Q ∨ rRepT1 K x y H Q
theorem or_mulA : OpR X (binaryOp .Mult) (rMulA X.K) := OpR.or or_mul (OpR.or op_mulS op_repT1)
theorem ok_mulA : OpOk (kx X cl) pMulA (rMulA X.K) := by
  intro x y S rv v w R H Q e g rx ry k
  unfold pMulA at e
  split at e
  · split at e
    · rename_i z i hc
      cases e
      rw [rx.str, ry.int]
      exact .inr (.inl ⟨z, i, rfl, rfl, hc.1, hc.2.1, hc.2.2, res_pl k rfl⟩)
    · cases e
  · split at e
    · rename_i ds i hc
      cases e
      rw [ry.int]
      obtain ⟨p, vs, rfl, hp, rp⟩ := rx.tup g
      refine .inr (.inr ⟨p, i, vs, rfl, rfl, hp, hc.1.imp (fun z => ?_) id, hc.2.1, hc.2.2, ?_⟩)
      · subst z; exact rp
      · exact res_pl k rx.tupZ
    · exact .inl (ok_mul _ _ S rv v w R H Q e g rx ry k)
  · exact .inl (ok_mul _ _ S rv v w R H Q e g rx ry k)
theorem g_mulA (ha : PE X a (tOf (kx X cl) Ea)) (hb : PE X b (tOf (kx X cl) Eb)) : PE X (.BinOp a .Mult b pos) (tOf (kx X cl) (eBin pMulA Ea Eb)) := ev_bin (pe_op or_mulA ha hb) ok_mulA
end
section
variable {i j : Int} {S : Store} {ds : List D} {z : List Nat}
@[simp] theorem y_mulA : pMulA (.int i) (.int j) S = pMul (.int i) (.int j) S := id rfl
@[simp] theorem y_mulA_lst : pMulA (.lst ds) (.int j) S = pMul (.lst ds) (.int j) S := id rfl
theorem y_mulA_str (h1 : 0 ≤ j) (h2 : j ≤ 100000) (h3 : z.length ≤ 100) : pMulA (.str z) (.int j) S = .ok (.pl (.str (List.replicate j.toNat z).flatten)) := if_pos ⟨h1, h2, h3⟩
theorem y_mulA_tup (h1 : 1 ≤ j) (h2 : j ≤ 1000) (h3 : ds.length ≤ 1000) : pMulA (.tup ds) (.int j) S = .ok (.pl (.tup (List.replicate j.toNat ds).flatten)) := by
  show (if (ds = [] ∨ j = 1) ∧ -1000000 ≤ j ∧ j ≤ 1000000 then _ else pMul (.tup ds) (.int j) S) = _
  by_cases q : ds = [] ∨ j = 1
  · rw [if_pos ⟨q, by omega, by omega⟩]
    rcases q with rfl | rfl
    · simp
    · simp
  · rw [if_neg (fun h => q h.1)]
    have h1' : j ≠ 1 := fun e => q (.inr e)
    exact if_pos ⟨fun e => q (.inl e), by omega, by omega, h3⟩
end
end Mp

namespace Mp
open PySem
@[simp] theorem y_ltAI {i j : Int} {S : Store} : pLtA (.int i) (.int j) S = .ok (.pl (.bl (decide (i < j)))) := id rfl
@[simp] theorem y_leAI {i j : Int} {S : Store} : pLeA (.int i) (.int j) S = .ok (.pl (.bl (decide (i ≤ j)))) := id rfl
mutual
/-- data without truth values, references, written tuples -/
def pd : D → Bool
  | .non => true
  | .int _ => true
  | .str _ => true
  | .tup ds => pds ds
  | .lst ds => pds ds
  | _ => false
def pds : List D → Bool
  | [] => true
  | d :: r => pd d && pds r
end
mutual
theorem eqv_pd' : ∀ a b : D, pd a = true → pd b = true → PyData.eqv a.py b.py = decide (a = b)
  | .non, b, _, hb => by cases b <;> simp_all [pd, D.py, PyData.eqv]
  | .int i, b, _, hb => by cases b <;> simp_all [pd, D.py, PyData.eqv] <;> rfl
  | .str s, b, _, hb => by
    cases b <;> simp_all [pd, D.py, PyData.eqv]
    rename_i z
    by_cases e : s = z
    · subst e; simp
    · have : ¬ (⟨s.toArray⟩ : Str) = ⟨z.toArray⟩ := fun h => e (by injection h with h; simpa using h)
      simp [e, this]
  | .tup ds, b, ha, hb => by
    cases b <;> simp_all [pd, D.py, PyData.eqv]
    rename_i es
    exact eqvs_pd' ds es ha hb
  | .lst ds, b, ha, hb => by
    cases b <;> simp_all [pd, D.py, PyData.eqv]
    rename_i es
    exact eqvs_pd' ds es ha hb
  | .bl _, b, ha, _ => by simp [pd] at ha
  | .ktup _, b, ha, _ => by simp [pd] at ha
  | .dct _ _ _, b, ha, _ => by simp [pd] at ha
  | .ref _, b, ha, _ => by simp [pd] at ha
  | .scr _, b, ha, _ => by simp [pd] at ha
theorem eqvs_pd' : ∀ a b : List D, pds a = true → pds b = true → PyData.eqvAll (D.pys a) (D.pys b) = decide (a = b)
  | [], b, _, hb => by cases b <;> simp [D.pys, PyData.eqvAll]
  | x :: a, [], ha, hb => by simp [D.pys, PyData.eqvAll]
  | x :: a, y :: b, ha, hb => by
    simp only [pds, Bool.and_eq_true] at ha hb
    simp only [D.pys, PyData.eqvAll, eqv_pd' x y ha.1 hb.1, eqvs_pd' a b ha.2 hb.2, List.cons.injEq]
    by_cases h1 : x = y <;> by_cases h2 : a = b <;> simp [h1, h2]
end
theorem eqv_pd {a b : D} (ha : pd a = true) (hb : pd b = true) : eqv a b = decide (a = b) := eqv_pd' a b ha hb
section
variable {a b : D} {S : Store}
theorem y_eq_pd (ha : pd a = true) (hb : pd b = true) (h1 : a.dat 64 = true) (h2 : b.dat 64 = true) : pEq a b S = .ok (.pl (.bl (decide (a = b)))) := by
  unfold pEq; rw [if_pos ⟨h1, h2⟩, eqv_pd ha hb]
theorem y_ne_pd (ha : pd a = true) (hb : pd b = true) (h1 : a.dat 64 = true) (h2 : b.dat 64 = true) : pNe a b S = .ok (.pl (.bl (!decide (a = b)))) := by
  unfold pNe; rw [if_pos ⟨h1, h2⟩, eqv_pd ha hb]
theorem pds_all : ∀ ds : List D, pds ds = ds.all pd
  | [] => rfl
  | d :: r => by simp [pds, pds_all r]
theorem pd_pr (p : Bd.Sq) : pd (prD p) = true := rfl
theorem dat_pr (p : Bd.Sq) (n : Nat) : (prD p).dat (n + 1) = true := rfl
theorem pds_prs (ps : List Bd.Sq) : pds (prsD ps) = true := by
  rw [pds_all, List.all_eq_true]
  intro d h
  obtain ⟨p, _, rfl⟩ := List.mem_map.mp h
  rfl
theorem dats_prs (ps : List Bd.Sq) (n : Nat) : D.dats (n + 1) (prsD ps) = true := by
  rw [dats_all, List.all_eq_true]
  intro d h
  obtain ⟨p, _, rfl⟩ := List.mem_map.mp h
  rfl
theorem prsD_inj {ps qs : List Bd.Sq} : prsD ps = prsD qs ↔ ps = qs := by
  constructor
  · intro h
    unfold prsD at h
    induction ps generalizing qs with
    | nil => cases qs with | nil => rfl | cons q qs => simp at h
    | cons p ps ih =>
      cases qs with
      | nil => simp at h
      | cons q qs =>
        simp only [List.map_cons, List.cons.injEq] at h
        rw [prD_inj h.1, ih h.2]
  · rintro rfl; rfl
theorem prD_iff {p q : Bd.Sq} : prD p = prD q ↔ p = q := ⟨prD_inj, fun h => by rw [h]⟩
theorem any_eqv {p : Bd.Sq} {ps : List Bd.Sq} : ((prsD ps).any fun d => eqv d (prD p)) = decide (p ∈ ps) := by
  unfold prsD
  rw [List.any_map]
  have e : ((fun d => eqv d (prD p)) ∘ prD) = fun q => decide (q = p) := by
    funext q
    show eqv (prD q) (prD p) = _
    rw [eqv_pd rfl rfl]
    simp only [prD_iff]
  rw [e]
  by_cases h : p ∈ ps
  · rw [decide_eq_true h, List.any_eq_true]; exact ⟨p, h, by simp⟩
  · rw [decide_eq_false h, List.any_eq_false]
    intro q hq
    simp
    rintro rfl
    exact h hq
theorem y_in_prsL {n : Bool} {p : Bd.Sq} {ps : List Bd.Sq} : pIn n (prD p) (.lst (prsD ps)) S = .ok (.pl (.bl (n != decide (p ∈ ps)))) := by
  unfold pIn
  dsimp only
  rw [if_pos ⟨rfl, by simp [D.dat, dats_prs]⟩, any_eqv]
theorem y_in_prsT {n : Bool} {p : Bd.Sq} {ps : List Bd.Sq} : pIn n (prD p) (.tup (prsD ps)) S = .ok (.pl (.bl (n != decide (p ∈ ps)))) := by
  unfold pIn
  dsimp only
  rw [if_pos ⟨rfl, by simp [D.dat, dats_prs]⟩, any_eqv]
theorem y_eq_prsT {ps qs : List Bd.Sq} : pEq (.tup (prsD ps)) (.tup (prsD qs)) S = .ok (.pl (.bl (decide (ps = qs)))) := by
  rw [y_eq_pd (by simp [pd, pds_prs]) (by simp [pd, pds_prs]) (by simp [D.dat, dats_prs]) (by simp [D.dat, dats_prs])]
  simp only [D.tup.injEq, prsD_inj]
theorem y_ne_prsL {ps qs : List Bd.Sq} : pNe (.lst (prsD ps)) (.lst (prsD qs)) S = .ok (.pl (.bl (!decide (ps = qs)))) := by
  rw [y_ne_pd (by simp [pd, pds_prs]) (by simp [pd, pds_prs]) (by simp [D.dat, dats_prs]) (by simp [D.dat, dats_prs])]
  simp only [D.lst.injEq, prsD_inj]
theorem y_eq_prsL {ps qs : List Bd.Sq} : pEq (.lst (prsD ps)) (.lst (prsD qs)) S = .ok (.pl (.bl (decide (ps = qs)))) := by
  rw [y_eq_pd (by simp [pd, pds_prs]) (by simp [pd, pds_prs]) (by simp [D.dat, dats_prs]) (by simp [D.dat, dats_prs])]
  simp only [D.lst.injEq, prsD_inj]
theorem y_eq_pr {p q : Bd.Sq} : pEq (prD p) (prD q) S = .ok (.pl (.bl (decide (p = q)))) := by
  rw [y_eq_pd rfl rfl rfl rfl]
  simp only [prD_iff]
theorem y_idx0 {p : Bd.Sq} : pIdx (prD p) (.int 0) S = .ok (.pl (.int p.1)) := rfl
theorem y_idx1 {p : Bd.Sq} : pIdx (prD p) (.int 1) S = .ok (.pl (.int p.2)) := rfl
theorem intsOf_pr {p : Bd.Sq} : intsOf [.int p.1, .int p.2] = some [p.1, p.2] := rfl
instance {p q : Bd.Sq} : Decidable (Bd.lt p q) := inferInstanceAs (Decidable (_ ∨ _))
theorem y_lt_pr {p q : Bd.Sq} : pLtA (prD p) (prD q) S = .ok (.pl (.bl (decide (Bd.lt p q)))) := by
  show Rs.ok (RV.pl (D.bl (lexLt [p.1, p.2] [q.1, q.2]))) = _
  have : lexLt [p.1, p.2] [q.1, q.2] = decide (Bd.lt p q) := by
    unfold Bd.lt
    simp only [lexLt]
    by_cases h1 : p.1 < q.1
    · have : p.1 ≠ q.1 := by omega
      simp [h1, this, Ob.lexAt, lexE]
    · by_cases h2 : p.1 = q.1
      · by_cases h3 : p.2 < q.2
        · have : p.2 ≠ q.2 := by omega
          simp [h2, h3, this, Ob.lexAt, lexE]
        · by_cases h4 : p.2 = q.2
          · simp [h2, h4, Ob.lexAt, lexE]
          · simp [h2, h3, h4, Ob.lexAt, lexE]
      · simp [h1, h2, Ob.lexAt, lexE]
  rw [this]
end
theorem y_allM {α : Type} {f : α → Bool} {l : List α} {S : Store} : pAll (.lst (l.map fun x => .bl (f x))) S = .ok (.pl (.bl (l.all f))) := by
  have h := y_all (bs := l.map f) (S := S)
  rw [List.map_map] at h
  rw [List.all_map] at h
  exact h
theorem y_any {bs : List Bool} {S : Store} : pAny (.lst (bs.map .bl)) S = .ok (.pl (.bl (bs.any id))) := by
  unfold pAny
  have : blsOf (bs.map .bl) = some bs := by
    induction bs with
    | nil => rfl
    | cons b r ih => simp [blsOf, ih]
  simp only [this]
theorem y_anyM {α : Type} {f : α → Bool} {l : List α} {S : Store} : pAny (.lst (l.map fun x => .bl (f x))) S = .ok (.pl (.bl (l.any f))) := by
  have h := y_any (bs := l.map f) (S := S)
  rw [List.map_map] at h
  rw [List.any_map] at h
  exact h
section
variable {T : TDen} {C : CDen} {a : Den} {ε0 : Env} {vs : List Nat} {α : Type}
theorem comp_fl (f : α → D) (p : α → Bool) (g : α → D) {S : Store} : ∀ (l : List α) (acc : List D), acc.length + l.length ≤ 16777216 →
    (∀ x, x ∈ l → ∃ ε1, T (f x) ε0 = .ok ε1 ∧ C ε1 S = .ok (p x, ε1, S) ∧ wipe ε1 vs = ε0 ∧ (p x = true → a ε1 S = .ok (.pl (g x), ε1, S) ∨ a ε1 S = .ok (.fr (g x), ε1, S))) →
    compGo vs T C a ε0 (l.map f) S acc = .ok (acc ++ (l.filter p).map g, S)
  | [], acc, _, _ => by simp [compGo]
  | x :: l, acc, hz, h => by
    obtain ⟨ε1, e1, e2, e3, e4⟩ := h x (by simp)
    have hz' : acc.length < 16777216 := by simp at hz; omega
    rw [List.map_cons]
    unfold compGo
    rw [e1]
    simp only [ok_bind]
    rw [e2]
    simp only [ok_bind, e3, and_self, if_true]
    cases hp : p x with
    | false =>
      simp only [Bool.false_eq_true, if_false]
      rw [comp_fl f p g l acc (by simp at hz; omega) fun y hy => h y (by simp [hy]), List.filter_cons_of_neg (by simp [hp])]
    | true =>
      simp only [if_true]
      have ih := comp_fl f p g l (acc ++ [g x]) (by simp at hz ⊢; omega) fun y hy => h y (by simp [hy])
      rcases e4 hp with e4 | e4
      · rw [e4]
        simp only [ok_bind, hz', and_self, if_true]
        rw [ih, List.filter_cons_of_pos hp]; simp
      · rw [e4]
        simp only [ok_bind, hz', and_self, if_true]
        rw [ih, List.filter_cons_of_pos hp]; simp
theorem comp_mp (f : α → D) (g : α → D) {S : Store} (l : List α) (hz : l.length ≤ 16777216)
    (h : ∀ x, x ∈ l → ∃ ε1, T (f x) ε0 = .ok ε1 ∧ C ε1 S = .ok (true, ε1, S) ∧ wipe ε1 vs = ε0 ∧ (a ε1 S = .ok (.pl (g x), ε1, S) ∨ a ε1 S = .ok (.fr (g x), ε1, S))) :
    compGo vs T C a ε0 (l.map f) S [] = .ok (l.map g, S) := by
  have q := comp_fl (T := T) (C := C) (a := a) (ε0 := ε0) (vs := vs) f (fun _ => true) g (S := S) l [] (by simpa using hz) fun x hx => by
    obtain ⟨ε1, e1, e2, e3, e4⟩ := h x hx
    exact ⟨ε1, e1, e2, e3, fun _ => e4⟩
  rw [List.filter_eq_self.mpr fun _ _ => rfl] at q
  simpa using q
/-- some of the items, by what the store says -/
theorem comp_sub (Q : Store → Prop) (f : α → D) : ∀ (l : List α) (acc : List D) (S : Store), Q S → acc.length + l.length ≤ 16777216 →
    (∀ x S, x ∈ l → Q S → ∃ ε1 b S', T (f x) ε0 = .ok ε1 ∧ C ε1 S = .ok (b, ε1, S') ∧ Q S' ∧ wipe ε1 vs = ε0 ∧ a ε1 S' = .ok (.pl (f x), ε1, S')) →
    ∃ (l' : List α) (S' : Store), compGo vs T C a ε0 (l.map f) S acc = .ok (acc ++ l'.map f, S') ∧ Q S' ∧ l'.Sublist l
  | [], acc, S, q, _, _ => ⟨[], S, by simp [compGo], q, .slnil⟩
  | x :: l, acc, S, q, hz, h => by
    obtain ⟨ε1, b, S1, e1, e2, q1, e3, e4⟩ := h x S (by simp) q
    have hz' : acc.length < 16777216 := by simp at hz; omega
    cases b with
    | false =>
      obtain ⟨l', S', e5, q5, s5⟩ := comp_sub Q f l acc S1 q1 (by simp at hz; omega) fun y S hy => h y S (by simp [hy])
      refine ⟨l', S', ?_, q5, .cons _ s5⟩
      rw [List.map_cons]
      unfold compGo
      rw [e1]
      simp only [ok_bind]
      rw [e2]
      simp only [ok_bind, e3, and_self, if_true, Bool.false_eq_true, if_false]
      exact e5
    | true =>
      obtain ⟨l', S', e5, q5, s5⟩ := comp_sub Q f l (acc ++ [f x]) S1 q1 (by simp at hz ⊢; omega) fun y S hy => h y S (by simp [hy])
      refine ⟨x :: l', S', ?_, q5, .cons_cons _ s5⟩
      rw [List.map_cons]
      unfold compGo
      rw [e1]
      simp only [ok_bind]
      rw [e2]
      simp only [ok_bind, e3, and_self, if_true]
      rw [e4]
      simp only [ok_bind, hz', and_self, if_true]
      rw [e5]; simp
/-- a loop over typed items -/
theorem for_pre {M : SDen} (f : α → D) {P : List α → Env → Store → Prop} (l0 : List α)
    (hs : ∀ (pre : List α) (x : α) (rest : List α) ε S, l0 = pre ++ x :: rest → P pre ε S → ∃ e, T (f x) ε = .ok e ∧ ∃ ε2 S2, (M e S = .ok (.nx ε2 S2) ∨ M e S = .ok (.ct ε2 S2)) ∧ P (pre ++ [x]) ε2 S2) :
    ∀ (l pre : List α) {ε : Env} {S : Store}, l0 = pre ++ l → P pre ε S → ∃ ε' S', forGo T M (l.map f) ε S = .ok (.nx ε' S') ∧ P l0 ε' S'
  | [], pre, ε, S, hl, h0 => ⟨ε, S, rfl, by rw [hl]; simpa using h0⟩
  | x :: l, pre, ε, S, hl, h0 => by
    obtain ⟨e, e1, ε2, S2, e2, p⟩ := hs pre x l ε S hl h0
    obtain ⟨ε', S', e3, q⟩ := for_pre f l0 hs l (pre ++ [x]) (by rw [hl]; simp) p
    refine ⟨ε', S', ?_, q⟩
    rw [List.map_cons, forGo_cons, e1, ok_bind]
    rcases e2 with e2 | e2 <;> rw [e2, ok_bind] <;> exact e3
end
theorem enum_map {α : Type} (f : α → D) : ∀ (l : List α) (k : Nat), enumFrom k (l.map f) = (l.zipIdx k).map fun x => .tup [.int (x.2 : Int), f x.1]
  | [], k => rfl
  | x :: l, k => by
    rw [List.map_cons, List.zipIdx_cons, List.map_cons, ← enum_map f l (k + 1)]
    rfl
theorem enum_map0 {α : Type} (f : α → D) (l : List α) : enumFrom 0 (l.map f) = l.zipIdx.map fun x => .tup [.int (x.2 : Int), f x.1] := enum_map f l 0
theorem zip_map {α : Type} (f : α → D) : ∀ (l m : List α), zipItems (l.map f) (m.map f) = (l.zip m).map fun x => .tup [f x.1, f x.2]
  | [], m => by simp [zipItems]
  | x :: l, [] => by simp [zipItems]
  | x :: l, y :: m => by
    have := zip_map f l m
    simp only [zipItems] at this ⊢
    simp [this]
theorem ints_map (lo : Int) (n : Nat) : intsFrom lo n = (List.range n).map fun (i : Nat) => .int (lo + (i : Int)) := rfl
end Mp

namespace Mp
open PySem Bd
def sgn (b : Bool) : Nat := if b then 46 else 35
def rowS (w : Nat) (f : Nat → Bool) : List Nat := (List.range w).map fun j => sgn (f j)
def brdR (h w : Nat) (b : Nat → Nat → Bool) : List D := (List.range h).map fun r => .str (rowS w (b r))
def brd (h w : Nat) (b : Nat → Nat → Bool) : D := .tup (brdR h w b)
@[simp] theorem rowS_len {w : Nat} {f : Nat → Bool} : (rowS w f).length = w := by simp [rowS]
@[simp] theorem brdR_len {h w : Nat} {b : Nat → Nat → Bool} : (brdR h w b).length = h := by simp [brdR]
theorem rowS_get {w j : Nat} {f : Nat → Bool} (h : j < w) : (rowS w f)[j]? = some (sgn (f j)) := by unfold rowS; rw [List.getElem?_map, List.getElem?_range h]; rfl
theorem brdR_get {h w r : Nat} {b : Nat → Nat → Bool} (k : r < h) : (brdR h w b)[r]? = some (.str (rowS w (b r))) := by unfold brdR; rw [List.getElem?_map, List.getElem?_range k]; rfl
structure Gb (h w : Nat) : Prop where
  h1 : 1 ≤ h
  h2 : h ≤ 24
  w1 : 1 ≤ w
  w2 : w ≤ 24
theorem range_map_get {α : Type} {n i : Nat} {f : Nat → α} {d : α} (h : ((List.range n).map f)[i]? = some d) : i < n ∧ d = f i := by
  rw [List.getElem?_map] at h
  by_cases hi : i < n
  · rw [List.getElem?_range hi] at h; simp at h; exact ⟨hi, h.symm⟩
  · rw [List.getElem?_eq_none (by simp; omega)] at h; simp at h
theorem enum_range {n : Nat} (f : Nat → D) : enumFrom 0 ((List.range n).map f) = (List.range n).map fun i => .tup [.int (i : Int), f i] := by
  apply List.ext_getElem?
  intro i
  rw [enumFrom_get, List.getElem?_map, List.getElem?_map]
  by_cases hi : i < n
  · rw [List.getElem?_range hi]; simp
  · rw [List.getElem?_eq_none (by simp; omega)]; rfl
theorem strItems_row {w : Nat} {f : Nat → Bool} : strItems (rowS w f) = (List.range w).map fun j => .str [sgn (f j)] := by simp [strItems, rowS, Function.comp_def]
theorem y_eq_sgn {x : Bool} {S : Store} : pEq (.str [sgn x]) (.str [46]) S = .ok (.pl (.bl x)) := by
  cases x
  · show pEq (.str [35]) (.str [46]) S = _
    rw [y_eq_pd rfl rfl rfl rfl]; rfl
  · exact y_eq_refl rfl
theorem y_in_sgn {x : Bool} {S : Store} : pIn false (.str [sgn x]) (.str [46, 35]) S = .ok (.pl (.bl true)) := by cases x <;> rfl
theorem y_addS {a b : List Nat} {S : Store} (h : a.length + b.length ≤ 16777216) : pAdd (.str a) (.str b) S = .ok (.pl (.str (a ++ b))) := if_pos h
theorem y_lenS {a : List Nat} {S : Store} (h : a.length ≤ 16777216) : pLen (.str a) S = .ok (.pl (.int a.length)) := if_pos h
theorem y_idxS {a : List Nat} {S : Store} {i : Int} {j c : Nat} (h : a.length ≤ 16777216) (e : i = (j : Int)) (g : a[j]? = some c) : pIdx (.str a) (.int i) S = .ok (.pl (.str [c])) := by
  show (if a.length ≤ 16777216 then (match L2.atI a i with | some c => Rs.ok (RV.pl (.str [c])) | none => .no) else .no) = _
  rw [if_pos h, e, atI_ofNat, g]
@[simp] theorem y_seqS {s : List Nat} : seqItems (.str s) = .ok (strItems s) := id rfl
theorem all_const {α : Type} (l : List α) : (l.all fun _ => true) = true := by simp
theorem dat_brd {h w : Nat} {b : Nat → Nat → Bool} {n : Nat} : (brd h w b).dat (n + 1) = true := by
  show D.dats n (brdR h w b) = true
  rw [dats_all, List.all_eq_true]
  intro d hd
  obtain ⟨r, _, rfl⟩ := List.mem_map.mp hd
  show (rowS w (b r)).all (· < 0x110000) = true
  rw [List.all_eq_true]
  intro c hc
  obtain ⟨j, _, rfl⟩ := List.mem_map.mp hc
  unfold sgn; split <;> decide
def kdD : Kd → D
  | .tower => .str [116, 111, 119, 101, 114]
  | .runner => .str [114, 117, 110, 110, 101, 114]
  | .queen => .str [113, 117, 101, 101, 110]
  | .king => .str [107, 105, 110, 103]
  | .leap a b => .tup [.int a, .int b]
theorem y_eq_str {a b : List Nat} {S : Store} (ha : a.all (· < 0x110000) = true) (hb : b.all (· < 0x110000) = true) : pEq (.str a) (.str b) S = .ok (.pl (.bl (decide (a = b)))) := by
  rw [y_eq_pd (a := .str a) (b := .str b) rfl rfl ha hb]; simp only [D.str.injEq]
theorem y_ne_str {a b : List Nat} {S : Store} (ha : a.all (· < 0x110000) = true) (hb : b.all (· < 0x110000) = true) : pNe (.str a) (.str b) S = .ok (.pl (.bl (!decide (a = b)))) := by
  rw [y_ne_pd (a := .str a) (b := .str b) rfl rfl ha hb]; simp only [D.str.injEq]
theorem y_eq_kd {k k' : Kd} {S : Store} : pEq (kdD k) (kdD k') S = .ok (.pl (.bl (decide (k = k')))) := by
  have h : ∀ k, pd (kdD k) = true ∧ (kdD k).dat 64 = true := fun k => by cases k <;> exact ⟨rfl, rfl⟩
  rw [y_eq_pd (h k).1 (h k').1 (h k).2 (h k').2]
  have : (kdD k = kdD k') ↔ k = k' := by cases k <;> cases k' <;> simp [kdD]
  simp only [this]
theorem y_ne_kd {k k' : Kd} {S : Store} : pNe (kdD k) (kdD k') S = .ok (.pl (.bl (!decide (k = k')))) := by
  have h : ∀ k, pd (kdD k) = true ∧ (kdD k).dat 64 = true := fun k => by cases k <;> exact ⟨rfl, rfl⟩
  rw [y_ne_pd (h k).1 (h k').1 (h k).2 (h k').2]
  have : (kdD k = kdD k') ↔ k = k' := by cases k <;> cases k' <;> simp [kdD]
  simp only [this]
def isLine : Kd → Bool
  | .tower => true
  | .runner => true
  | .queen => true
  | _ => false
def isName : Kd → Bool
  | .leap _ _ => false
  | _ => true
theorem y_in_lines {k : Kd} {S : Store} : pIn false (kdD k) (.ktup [.str [116, 111, 119, 101, 114], .str [114, 117, 110, 110, 101, 114], .str [113, 117, 101, 101, 110]]) S = .ok (.pl (.bl (isLine k))) := by
  cases k <;> rfl
theorem y_in_names {k : Kd} {S : Store} (h : isName k = true) : pIn false (kdD k) (.ktup [.str [116, 111, 119, 101, 114], .str [114, 117, 110, 110, 101, 114], .str [113, 117, 101, 101, 110], .str [107, 105, 110, 103]]) S = .ok (.pl (.bl true)) := by
  cases k <;> first | rfl | cases h
theorem t_str_kd {k : Kd} {S : Store} : pIsT "str" (kdD k) S = .ok (.pl (.bl (isName k))) := by cases k <;> simp [kdD, isName]
theorem cut1' {α : Type} (xs : List α) : cutL xs (some 1) none = xs.tail := by
  cases xs with
  | nil => rfl
  | cons x xs =>
    unfold cutL
    have e1 : HT.sIx (x :: xs).length 0 (some 1) = 1 := by simp [HT.sIx]
    have e2 : HT.sIx (x :: xs).length (x :: xs).length none = (x :: xs).length := by simp [HT.sIx]
    rw [e1, e2]
    rw [List.take_of_length_le (by simp), List.drop_one]
theorem cutTo {α : Type} (xs : List α) (k : Nat) : cutL xs none (some (k : Int)) = xs.take k := by
  unfold cutL
  have e1 : HT.sIx xs.length 0 none = 0 := rfl
  rw [e1, HT.sIx_nat]
  simp
theorem prsD_tail {ps : List Sq} : (prsD ps).tail = prsD ps.tail := by simp [prsD]
theorem prsD_take {ps : List Sq} {k : Nat} : (prsD ps).take k = prsD (ps.take k) := by simp [prsD, List.map_take]
theorem zip_tail_lt : ∀ {ps : List Sq}, ps.Pairwise lt → ∀ x ∈ ps.zip ps.tail, lt x.1 x.2
  | [], _, x, h => by simp at h
  | [p], _, x, h => by simp at h
  | p :: q :: ps, hp, x, h => by
    rw [List.pairwise_cons] at hp
    simp only [List.tail_cons, List.zip_cons_cons, List.mem_cons] at h
    rcases h with rfl | h
    · exact hp.1 q (by simp)
    · exact zip_tail_lt hp.2 x (by simpa using h)
def tk (k : Kd) (d e : Int) : Bool := if d = 0 ∧ e = 0 then false else match k with
  | .tower => decide (d = 0 ∨ e = 0)
  | .runner => decide (d = e)
  | .queen => decide (d = 0 ∨ e = 0 ∨ d = e)
  | .king => decide (d ≤ 1 ∧ e ≤ 1)
  | .leap a b => decide ((d = a ∧ e = b) ∨ (e = a ∧ d = b))
theorem takes_tk {k : Kd} {p q : Sq} : takes k p q = tk k (ab (p.1 - q.1)) (ab (p.2 - q.2)) := rfl
def apartZ (k : Kd) (pl : List Sq) : Bool := !(pl.zipIdx.any fun x => (pl.take x.2).any fun q => takes k x.1 q)
theorem strsOf_map {α : Type} {g : α → List Nat} : ∀ l : List α, strsOf (l.map fun x => .str (g x)) = some (l.map g)
  | [] => rfl
  | x :: l => by simp [strsOf, strsOf_map l]
theorem joinL_ones : ∀ l : List Nat, TL.joinL [] (l.map fun c => [c]) = l
  | [] => rfl
  | [c] => rfl
  | c :: d :: l => by
    have := joinL_ones (d :: l)
    simp only [List.map_cons] at this ⊢
    simp only [TL.joinL, this]
    rfl
theorem sum_ones : ∀ l : List Nat, ((l.map fun c => [c]).map (·.length)).sum = l.length
  | [] => rfl
  | c :: l => by
    have := sum_ones l
    simp only [List.map_cons, List.sum_cons, List.length_cons, List.length_nil] at this ⊢
    omega
theorem join_ones {l : List Nat} (h : l.length ≤ 16777216) : fJoin [] (.lst (l.map fun c => .str [c])) = .ok (.str l) := by
  unfold fJoin
  simp only [strsOf_map (g := fun c => [c]), joinL_ones, sum_ones]
  rw [if_pos (by simp; omega)]
theorem nd_len : ∀ (l m : List Sq), l.Nodup → (∀ p ∈ l, p ∈ m) → l.length ≤ m.length
  | [], m, _, _ => by simp
  | x :: l, m, hn, hm => by
    rw [List.nodup_cons] at hn
    have hx := hm x (by simp)
    have h1 := nd_len l (m.erase x) hn.2 fun p hp => (List.mem_erase_of_ne (fun e => hn.1 (by rw [← e]; exact hp))).mpr (hm p (by simp [hp]))
    rw [List.length_erase_of_mem hx] at h1
    have := List.length_pos_of_mem hx
    simp; omega
theorem pl_len {l m : List Sq} (hl : l.Pairwise lt) (hm : ∀ p ∈ l, p ∈ m) : l.length ≤ m.length := nd_len l m (lt_nodup hl) hm
theorem if_ab (i : Int) : (if i < 0 then -i else i) = ab i := rfl
end Mp

namespace Mp
open PySem PySem.Spec PyProof.Rows L2
section
variable {X : Cx} {cl : Nat → Addr} {Ea Eb : Den} {pos : Pos} {a b : Expr}
theorem sv_par2T {st : Stmt} {i j : Nat} {o1 o2 : Bool} (h : PS X st (tAsg (L2.tTup (tCons (tOf (kx X cl) Ea) (tCons (tOf (kx X cl) Eb) tNil))) (gTup X.K 2 (gCons (gName i) (gCons (gName j) gNil))))) : PS X st (sOf (kx X cl) (sPar2 o1 i o2 j Ea Eb)) := by
  refine PS.im h fun D σ H hh => ?_
  obtain ⟨ε, S, R, ω, oo, he, s, k⟩ := hh
  obtain ⟨⟨r1, ε1, S1⟩, e1, he⟩ := bind_ok he
  obtain ⟨⟨t1, ε2⟩, e2, he⟩ := bind_ok he
  obtain ⟨⟨r2, ε3, S2⟩, e3, he⟩ := bind_ok he
  obtain ⟨⟨t2, ε4⟩, e4, he⟩ := bind_ok he
  dsimp only at he
  split at he
  case isFalse => cases he
  rename_i hl
  cases he
  refine ⟨ε, S, R, ω, r1, ε1, S1, e1, s, fun v1 R1 ω1 H1 x1 s1 p1 => ?_⟩
  obtain ⟨R2, ω2, x2, s2, p2⟩ := p1.low s1 x1 e2
  refine ⟨ε2, S1, R2, ω2, r2, ε3, S2, e3, s2, fun v3 R3 ω3 H3 x3 s3 p3 => ?_⟩
  obtain ⟨R4, ω4, x4, s4, p4⟩ := p3.low s3 x3 e4
  refine ⟨by rw [sizeLine_is]; simp, fun p np => ⟨p, [v1, v3], rfl, SqT.of upd_same, rfl, v1, [v3], rfl, v3, [], rfl, rfl, ?_⟩⟩
  have gw : Gw R4 H3 R4 (upd H3 p (.tup [v1, v3])) := Gw.new np
  have n1 := fresh_ne p2 p4
  obtain ⟨ω5, s5, x5, f5⟩ := (gw.sr s4).take (i := i) ((x2.trans x4).trans (gw.ex ω4)) ((p2.keep x4).keep (gw.ex ω4)) hl.1
  have p5 : RVR (kx X cl) ω H R4 ω5 (upd H3 p (.tup [v1, v3])) (σ.set i (some v1)) t2.rv v3 := ((p4.keep (gw.ex ω4)).start x2).shift f5 n1
  obtain ⟨ω6, s6, x6, _⟩ := s5.take (i := j) x5 p5 (by rw [List.length_set]; exact hl.2)
  exact k _ R4 ω6 _ x6 s6
theorem g_par2T {i j : Nat} {o1 o2 : Bool} {x y : Str} {px py pt : Pos} {kt k2 : Nat} {pt2 : Pos} (hc : X.calm = true) (hN : X.N.Nodup) (hi : X.N[i]? = some x) (hj : X.N[j]? = some y) (hx : Loc X.env.scope x) (hy : Loc X.env.scope y)
    (ha : PE X a (tOf (kx X cl) Ea)) (hb : PE X b (tOf (kx X cl) Eb))
    (hf : X.fn x = true ∨ X.env.scope.names.lookup x = some .local := by first | exact .inl rfl | exact .inr rfl) (hf' : X.fn y = true ∨ X.env.scope.names.lookup y = some .local := by first | exact .inl rfl | exact .inr rfl)
    (hs : swapsWithSole [.Tuple [.Name x px, .Name y py] kt pt] (.Tuple [a, b] k2 pt2) pos.line X.env = pure false := by rfl) (hw : swappedStores [.Tuple [.Name x px, .Name y py] kt pt] (.Tuple [a, b] k2 pt2) X.env = pure none := by rfl)
    (h1 : (assignEach [.Tuple [.Name x px, .Name y py] kt pt] X.env).map (·.2) = [assign (.Tuple [.Name x px, .Name y py] kt pt) X.env] := by rfl)
    (s1 : starEach [a, b] X.env = (false, eval a X.env) :: starEach [b] X.env := by rfl) (s2 : starEach [b] X.env = (false, eval b X.env) :: starEach [] X.env := by rfl)
    (m1 : (assignEach [.Name x px, .Name y py] X.env).map (·.2) = assign (.Name x px) X.env :: (assignEach [.Name y py] X.env).map (·.2) := by rfl) (m2 : (assignEach [.Name y py] X.env).map (·.2) = assign (.Name y py) X.env :: (assignEach [] X.env).map (·.2) := by rfl)
    (hn : (assignEach [.Name x px, .Name y py] X.env).length = 2 := by rfl) (hst : (assignEach [.Name x px, .Name y py] X.env).findIdx? (·.1) = none := by rfl) :
    PS X (.Assign [.Tuple [.Name x px, .Name y py] kt pt] (.Tuple [a, b] k2 pt2) pos) (sOf (kx X cl) (sPar2 o1 i o2 j Ea Eb)) :=
  sv_par2T (ps_asg (pe_tup (pa_cons ha (pa_cons hb pa_nil s2) s1)) (pg_tup hc (pgs_cons (pg_name hN hi hx hf) (pgs_cons (pg_name hN hj hy hf') pgs_nil m2) m1) hn hst) hs hw h1)
end
end Mp

namespace Mp
open PySem Bd
def tr (l : List Sq) : List D := List.replicate l.length (.bl true)
/-- the dict that has the keys l, each with True -/
def setD (l : List Sq) : D := .dct true (prsD l) (tr l)
def addS (l : List Sq) (q : Sq) : List Sq := if q ∈ l then l else l ++ [q]
theorem mem_addS {l : List Sq} {q p : Sq} : p ∈ addS l q ↔ p ∈ l ∨ p = q := by
  unfold addS
  split
  · rename_i h
    constructor
    · exact .inl
    · rintro (h' | rfl) <;> assumption
  · simp
theorem nodup_addS {l : List Sq} {q : Sq} (h : l.Nodup) : (addS l q).Nodup := by
  unfold addS
  split
  · exact h
  · rename_i m
    rw [List.nodup_append]
    refine ⟨h, by simp, fun a ha b hb => ?_⟩
    simp at hb; subst hb
    exact fun e => m (e ▸ ha)
theorem len_addS {l : List Sq} {q : Sq} : (addS l q).length ≤ l.length + 1 := by
  unfold addS; split <;> simp
theorem dRep_same {y : D} : ∀ (ks : List D) (x : D) (n : Nat), ks.length = n → dRep ks (List.replicate n y) x y = List.replicate n y
  | [], x, n, h => by simp at h; subst h; rfl
  | k :: ks, x, n, h => by
    cases n with
    | zero => simp at h
    | succ n => simp [List.replicate_succ, dRep, dRep_same ks x n (by simpa using h)]
theorem dSet_set {l : List Sq} {q : Sq} : dSet (prsD l) (tr l) (prD q) (.bl true) = (prsD (addS l q), tr (addS l q)) := by
  unfold dSet addS
  by_cases h : q ∈ l
  · rw [if_pos (prD_mem.mpr h), if_pos h, tr, dRep_same _ _ _ (by simp)]
  · rw [if_neg (fun z => h (prD_mem.mp z)), if_neg h]
    simp [prsD, tr, List.replicate_succ']
theorem dGet_set {q : Sq} : ∀ {l : List Sq}, dGet (prsD l) (tr l) (prD q) = if q ∈ l then some (.bl true) else none
  | [] => rfl
  | p :: l => by
    have ih := dGet_set (q := q) (l := l)
    show (if prD p = prD q then some (.bl true) else dGet (prsD l) (tr l) (prD q)) = _
    rw [ih]
    simp only [prD_iff]
    by_cases e : p = q
    · simp [e]
    · have : ¬ q = p := fun z => e z.symm
      simp [e, this]
end Mp

namespace Mp
open PySem Bd
theorem taken_lt {k : Kd} {l : List Sq} {p : Sq} (h : l.Pairwise lt) : (taken k l p).Pairwise lt := List.Pairwise.filter _ h
theorem seen_lt {k : Kd} {l pl : List Sq} (h : l.Pairwise lt) : (seen k l pl).Pairwise lt := List.Pairwise.filter _ h
theorem mem_taken {k : Kd} {l : List Sq} {p q : Sq} : q ∈ taken k l p ↔ q ∈ l ∧ takes k p q = true := List.mem_filter
theorem mem_seen {k : Kd} {l pl : List Sq} {q : Sq} : q ∈ seen k l pl ↔ q ∈ l ∧ ∃ p ∈ pl, p = q ∨ takes k p q = true := by
  unfold seen
  rw [List.mem_filter, List.any_eq_true]
  simp only [Bool.or_eq_true, decide_eq_true_eq]
theorem sort_due {k : Kd} {l : List Sq} {p : Sq} (h : l.Pairwise lt) (hp : p ∈ l) : msort (taken k l p ++ [p]) = seen k l [p] := by
  refine msort_eq ?_ (seen_lt h) fun q => ?_
  · rw [List.nodup_append]
    refine ⟨lt_nodup (taken_lt h), by simp, fun a ha b hb => ?_⟩
    simp at hb
    subst hb
    intro e
    subst e
    have := (mem_taken.mp ha).2
    rw [takes_self] at this; cases this
  · rw [List.mem_append, mem_taken, mem_seen]
    simp only [List.mem_singleton]
    constructor
    · rintro (⟨h1, h2⟩ | rfl)
      · exact ⟨h1, p, rfl, .inr h2⟩
      · exact ⟨hp, q, rfl, .inl rfl⟩
    · rintro ⟨h1, p', rfl, rfl | h2⟩
      · exact .inr rfl
      · exact .inl ⟨h1, h2⟩
theorem back_none {k : Kd} {l : List Sq} {p : Sq} (hp : p ∈ l) : ((taken k l p).filter fun q => !decide (p ∈ taken k l q)) = [] := by
  rw [List.filter_eq_nil_iff]
  intro q hq
  have := mem_taken.mp hq
  simp
  exact mem_taken.mpr ⟨hp, by rw [takes_comm]; exact this.2⟩
theorem sw_sw (p : Sq) : sw (sw p) = p := rfl
theorem mem_sqs_sw {h w : Nat} {b : Nat → Nat → Bool} {p : Sq} : p ∈ sqs w h (fun r j => b j r) ↔ sw p ∈ sqs h w b := by
  rw [mem_sqs, mem_sqs]
  constructor
  · rintro ⟨r, j, h1, h2, h3, rfl⟩; exact ⟨j, r, h2, h1, h3, rfl⟩
  · rintro ⟨r, j, h1, h2, h3, e⟩
    refine ⟨j, r, h2, h1, h3, ?_⟩
    have := congrArg sw e
    rwa [sw_sw] at this
theorem sort_back {k : Kd} {h w : Nat} {b : Nat → Nat → Bool} {p : Sq} : msort ((taken k (sqs w h (fun r j => b j r)) (sw p)).map sw) = taken k (sqs h w b) p := by
  refine msort_eq ?_ (taken_lt sqs_lt) fun q => ?_
  · have n := lt_nodup (taken_lt (k := k) (p := sw p) (sqs_lt (n := w) (c := h) (b := fun r j => b j r)))
    unfold List.Nodup at n ⊢
    rw [List.pairwise_map]
    exact n.imp fun {a b} hab e => hab (by rw [← sw_sw a, ← sw_sw b, e])
  · rw [List.mem_map, mem_taken]
    constructor
    · rintro ⟨r, hr, rfl⟩
      obtain ⟨h1, h2⟩ := mem_taken.mp hr
      refine ⟨mem_sqs_sw.mp h1, ?_⟩
      rw [← takes_sw]; exact h2
    · rintro ⟨h1, h2⟩
      refine ⟨sw q, mem_taken.mpr ⟨mem_sqs_sw.mpr h1, ?_⟩, rfl⟩
      rw [takes_sw]; exact h2
theorem seen_len {k : Kd} {l pl : List Sq} : (seen k l pl).length = l.length ↔ seen k l pl = l := by
  constructor
  · intro h; exact (List.filter_sublist (l := l)).eq_of_length h
  · intro h; rw [h]
theorem seen_all {k : Kd} {l : List Sq} : seen k l l = l := by
  unfold seen
  rw [List.filter_eq_self]
  intro q hq
  rw [List.any_eq_true]
  exact ⟨q, hq, by simp⟩
theorem apart_nil {k : Kd} : apartZ k [] = true := rfl
theorem apart_one {k : Kd} {pl : List Sq} : apartZ k (pl.take 1) = true := by
  cases pl with
  | nil => rfl
  | cons p pl => simp [apartZ]
theorem msort_len {l : List Sq} : (msort l).length = l.length := (List.mergeSort_perm l le).length_eq
theorem sort_seen {k : Kd} {l m pl : List Sq} (hl : l.Pairwise lt) (hm : m.Nodup) (hp : ∀ p ∈ pl, p ∈ l) (h : ∀ q, q ∈ m ↔ ∃ p ∈ pl, p = q ∨ q ∈ taken k l p) : msort m = seen k l pl := by
  refine msort_eq hm (seen_lt hl) fun q => ?_
  rw [h, mem_seen]
  constructor
  · rintro ⟨p, h1, rfl | h2⟩
    · exact ⟨hp _ h1, p, h1, .inl rfl⟩
    · exact ⟨(mem_taken.mp h2).1, p, h1, .inr (mem_taken.mp h2).2⟩
  · rintro ⟨h1, p, h2, rfl | h3⟩
    · exact ⟨p, h2, .inl rfl⟩
    · exact ⟨p, h2, .inr (mem_taken.mpr ⟨h1, h3⟩)⟩
theorem apart_is {k : Kd} {pl : List Sq} : decide ((pl.zipIdx.filter fun x => !decide (((pl.take x.2).filter (takes k x.1)) = [])) = []) = apartZ k pl := by
  unfold apartZ
  rw [Bool.eq_iff_iff, decide_eq_true_eq, List.filter_eq_nil_iff]
  simp only [Bool.not_eq_true', List.any_eq_false, Bool.not_eq_true, decide_eq_false_iff_not, Bool.not_eq_false', decide_eq_true_eq]
  constructor
  · intro h x hx
    have := h x hx
    simp only [Classical.not_not] at this
    rw [List.filter_eq_nil_iff] at this
    intro q hq
    have := this q hq
    simpa using this
  · intro h x hx
    simp only [Classical.not_not]
    rw [List.filter_eq_nil_iff]
    intro q hq
    have := h x hx q hq
    simpa using this
/-- placed pieces of a board -/
structure Pl (h w : Nat) (b : Nat → Nat → Bool) (pl : List Sq) : Prop where
  m : ∀ p ∈ pl, p ∈ sqs h w b
  s : pl.Pairwise lt
theorem Pl.sub {h w : Nat} {b : Nat → Nat → Bool} {pl : List Sq} (hs : pl.Sublist (sqs h w b)) : Pl h w b pl := ⟨fun _ hp => hs.subset hp, sqs_lt.sublist hs⟩
theorem pd_const {α : Type} {l : List α} {S : Store} : pEq (.lst (l.map fun _ => .int 1)) (.lst []) S = .ok (.pl (.bl (decide (l = [])))) := by
  have e : (l.map fun _ => D.int 1) = intsD (l.map fun _ => (1 : Int)) := by simp [intsD, Function.comp_def]
  rw [e, y_eq_pd (by
    show pds (intsD _) = true
    rw [pds_all, List.all_eq_true]
    intro d hd
    obtain ⟨i, _, rfl⟩ := List.mem_map.mp hd
    rfl) rfl dat_lints rfl]
  cases l <;> simp [intsD]
end Mp

namespace Mp
open PySem Bd
theorem apartZ_of {k : Kd} {pl : List Sq} (h : ∀ p ∈ pl, ∀ q ∈ pl, takes k p q = false) : apartZ k pl = true := by
  unfold apartZ
  simp only [Bool.not_eq_true', List.any_eq_false, Bool.not_eq_true]
  intro x hx q hq
  exact h x.1 (by
    have := List.mem_zipIdx hx
    rw [this.2.2]; exact List.getElem_mem _) q (List.mem_of_mem_take hq)
section
variable {h w : Nat}
theorem apart_diag {n : Nat} : apartZ .tower (diag n) = true := by
  refine apartZ_of fun p hp q hq => ?_
  obtain ⟨i, _, rfl⟩ := mem_diag.mp hp
  obtain ⟨j, _, rfl⟩ := mem_diag.mp hq
  unfold takes
  dsimp only
  have c := ab_cases ((i : Int) - (j : Int))
  split
  · rfl
  · exact decide_eq_false (by omega)
theorem seen_of {k : Kd} {l pl : List Sq} (h : ∀ q ∈ l, ∃ p ∈ pl, p = q ∨ takes k p q = true) : seen k l pl = l := by
  unfold seen
  rw [List.filter_eq_self]
  intro q hq
  obtain ⟨p, h1, h2⟩ := h q hq
  rw [List.any_eq_true]
  refine ⟨p, h1, ?_⟩
  rcases h2 with h2 | h2 <;> simp [h2]
theorem seen_iff {k : Kd} {l pl : List Sq} : seen k l pl = l ↔ ∀ q ∈ l, ∃ p ∈ pl, p = q ∨ takes k p q = true := by
  refine ⟨fun h q hq => ?_, seen_of⟩
  rw [← h] at hq
  exact (mem_seen.mp hq).2
theorem seen_diag : seen .tower (sqs h w full) (diag (min h w)) = sqs h w full := by
  refine seen_of fun q hq => ?_
  obtain ⟨r, j, h1, h2, rfl⟩ := mem_full.mp hq
  by_cases e : r = j
  · subst e
    exact ⟨_, mem_diag.mpr ⟨r, by omega, rfl⟩, .inl rfl⟩
  · by_cases c : h ≤ w
    · refine ⟨_, mem_diag.mpr ⟨r, by omega, rfl⟩, .inr ?_⟩
      unfold takes
      dsimp only
      have c1 := ab_cases ((r : Int) - (r : Int))
      have c2 := ab_cases ((r : Int) - (j : Int))
      rw [if_neg (by omega)]
      exact decide_eq_true (by omega)
    · refine ⟨_, mem_diag.mpr ⟨j, by omega, rfl⟩, .inr ?_⟩
      unfold takes
      dsimp only
      have c1 := ab_cases ((j : Int) - (r : Int))
      have c2 := ab_cases ((j : Int) - (j : Int))
      rw [if_neg (by omega)]
      exact decide_eq_true (by omega)
theorem pl_diag : Pl h w full (diag (min h w)) := ⟨fun p hp => by
  obtain ⟨i, hi, rfl⟩ := mem_diag.mp hp
  exact mem_full.mpr ⟨i, i, by omega, by omega, rfl⟩, diag_lt⟩
theorem pl_kings : Pl h w full (kings h w) := ⟨fun p hp => by
  obtain ⟨r, j, h1, h2, rfl⟩ := mem_kings.mp hp
  exact mem_full.mpr ⟨r, j, (mem_kr.mp h1).1, (mem_kr.mp h2).1, rfl⟩, kings_lt⟩
theorem apart_kings : apartZ .king (kings h w) = true := by
  refine apartZ_of fun p hp q hq => ?_
  obtain ⟨r, j, h1, h2, rfl⟩ := mem_kings.mp hp
  obtain ⟨r', j', h3, h4, rfl⟩ := mem_kings.mp hq
  rw [mem_kr] at h1 h2 h3 h4
  unfold takes
  dsimp only
  have c1 := ab_cases ((r : Int) - (r' : Int))
  have c2 := ab_cases ((j : Int) - (j' : Int))
  have e1 : r % 3 = r' % 3 := by rw [h1.2, h3.2]
  have e2 : j % 3 = j' % 3 := by rw [h2.2, h4.2]
  split
  · rfl
  · exact decide_eq_false (by omega)
theorem king_near {r j r' j' : Nat} : (((r' : Int), (j' : Int)) = ((r : Int), (j : Int)) ∨ takes .king ((r' : Int), (j' : Int)) ((r : Int), (j : Int)) = true) ↔ dst r r' ≤ 1 ∧ dst j j' ≤ 1 := by
  unfold takes
  dsimp only
  have c1 := dst_cases r r'
  have c2 := dst_cases j j'
  have c3 := ab_cases ((r' : Int) - (r : Int))
  have c4 := ab_cases ((j' : Int) - (j : Int))
  simp only [Prod.mk.injEq]
  split
  · simp; omega
  · rw [decide_eq_true_eq]; omega
theorem seen_kings (h1 : 1 ≤ h) (h2 : h ≤ 24) (w1 : 1 ≤ w) (w2 : w ≤ 24) : seen .king (sqs h w full) (kings h w) = sqs h w full ↔ (h < 3 ∨ h % 3 ≠ 1) ∧ (w < 3 ∨ w % 3 ≠ 1) := by
  rw [seen_iff, ← cov h1 h2, ← cov w1 w2]
  constructor
  · intro H
    refine ⟨fun r hr => ?_, fun j hj => ?_⟩
    · obtain ⟨p, hp, hq⟩ := H ((r : Int), ((0 : Nat) : Int)) (mem_full.mpr ⟨r, 0, hr, by omega, rfl⟩)
      obtain ⟨r', j', a, b, rfl⟩ := mem_kings.mp hp
      exact ⟨r', a, (king_near.mp hq).1⟩
    · obtain ⟨p, hp, hq⟩ := H (((0 : Nat) : Int), (j : Int)) (mem_full.mpr ⟨0, j, by omega, hj, rfl⟩)
      obtain ⟨r', j', a, b, rfl⟩ := mem_kings.mp hp
      exact ⟨j', b, (king_near.mp hq).2⟩
  · rintro ⟨H1, H2⟩ q hq
    obtain ⟨r, j, a, b, rfl⟩ := mem_full.mp hq
    obtain ⟨r', c, d⟩ := H1 r a
    obtain ⟨j', e, f⟩ := H2 j b
    exact ⟨_, mem_kings.mpr ⟨r', j', c, e, rfl⟩, king_near.mpr ⟨d, f⟩⟩
def evs (h w : Nat) : List Sq := (sqs h w full).filter fun q => decide ((q.1 + q.2) % 2 = 0)
theorem pl_evs : Pl h w full (evs h w) := .sub List.filter_sublist
theorem apart_evs {a b : Int} (ho : (a + b) % 2 = 1) : apartZ (.leap a b) (evs h w) = true := by
  refine apartZ_of fun p hp q hq => ?_
  have e1 := (List.mem_filter.mp hp).2
  have e2 := (List.mem_filter.mp hq).2
  simp only [decide_eq_true_eq] at e1 e2
  unfold takes
  dsimp only
  have c1 := ab_cases (p.1 - q.1)
  have c2 := ab_cases (p.2 - q.2)
  split
  · rfl
  · exact decide_eq_false (by omega)
theorem par_none {a b : Int} {p : Sq} {l : List Sq} (ho : ¬ (a + b) % 2 = 1) : ((taken (.leap a b) l p).filter fun q => decide ((q.1 + q.2 - p.1 - p.2) % 2 = 1)) = [] := by
  rw [List.filter_eq_nil_iff]
  intro q hq
  have e := (mem_taken.mp hq).2
  unfold takes at e
  dsimp only at e
  have c1 := ab_cases (p.1 - q.1)
  have c2 := ab_cases (p.2 - q.2)
  split at e
  · cases e
  · simp only [decide_eq_true_eq] at e ⊢
    omega
end
theorem seq_nx {A B : SDen} {ε ε1 : Env} {S S1 : Store} {r : Rs Out} (h : A ε S = .ok (.nx ε1 S1)) (h2 : B ε1 S1 = r) : sSeq A B ε S = r := by
  show (A ε S >>= fun o => match o with | .nx ε1 S1 => B ε1 S1 | o => .ok o) = r
  rw [h]; exact h2
theorem ir3_kr {n : Nat} (h1 : 1 < n) (h2 : n ≤ 24) : ir3 [.int 1, .int n, .int 3] = .ok ((kr n).map fun (r : Nat) => .int (r : Int)) := by
  have : n = 2 ∨ n = 3 ∨ n = 4 ∨ n = 5 ∨ n = 6 ∨ n = 7 ∨ n = 8 ∨ n = 9 ∨ n = 10 ∨ n = 11 ∨ n = 12 ∨ n = 13 ∨ n = 14 ∨ n = 15 ∨ n = 16 ∨ n = 17 ∨ n = 18 ∨ n = 19 ∨ n = 20 ∨ n = 21 ∨ n = 22 ∨ n = 23 ∨ n = 24 := by omega
  rcases this with h | h | h | h | h | h | h | h | h | h | h | h | h | h | h | h | h | h | h | h | h | h | h <;> subst h <;> rfl
theorem ir3_k1 : ir3 [.int 0, .int 1, .int 3] = .ok ((kr 1).map fun (r : Nat) => .int (r : Int)) := rfl
end Mp

namespace Mp
open PySem PySem.Spec PyProof.Rows L2
theorem perm_inv {α β : Type} {f : α → β} {xs ys : List β} (h : xs.Perm ys) : ∀ L : List α, xs = L.map f → ∃ L1 : List α, L1.Perm L ∧ ys = L1.map f := by
  induction h with
  | nil => intro L e; cases L with | nil => exact ⟨[], .refl _, rfl⟩ | cons a L => simp at e
  | cons x h ih =>
    intro L e
    cases L with
    | nil => simp at e
    | cons a L =>
      simp only [List.map_cons, List.cons.injEq] at e
      obtain ⟨L1, p, q⟩ := ih L e.2
      exact ⟨a :: L1, p.cons a, by rw [q, e.1]; rfl⟩
  | swap x y l =>
    intro L e
    match L, e with
    | a :: b :: L, e =>
      simp only [List.map_cons, List.cons.injEq] at e
      exact ⟨b :: a :: L, .swap a b L, by simp [e.1, e.2.1, e.2.2]⟩
    | [a], e => simp at e
    | [], e => simp at e
  | trans h1 h2 ih1 ih2 =>
    intro L e
    obtain ⟨L1, p1, q1⟩ := ih1 L e
    obtain ⟨L2, p2, q2⟩ := ih2 L1 q1
    exact ⟨L2, p2.trans p1, q2⟩
/-- the pair that a row of two ints is -/
def prOf (q : Addr × List Int) : Bd.Sq := (q.2.getD 0 0, q.2.getD 1 0)
section
variable {X : Cx} {cl : Nat → Addr}
def rSortS (X : Cx) (cl : Nat → Addr) : List V → Hp → VK → Prop := fun vs H Q => ∃ (a : Addr) (L : List (Addr × List Int)) (R : Rc), vs = [V.ref a] ∧ H a = some (SetTO X.prog X.w a L) ∧ (∀ a o, R.Z a = some o → H a = some o) ∧
  (∀ p ∈ L, R.Z p.1 = some (.tup (p.2.map V.int))) ∧ (∀ p ∈ L, p.2.length = 2) ∧
  ∀ (ys : List V) (p : Addr) (L1 : List (Addr × List Int)), L1.Perm L → (L.map (·.2)).Nodup → Reps (kx X cl) R (srtD (prsD (L1.map prOf))) ys → H p = none → Q (.ref p) (upd H p (.lst ys))
theorem reps_rows {R : Rc} : ∀ {L : List (Addr × List Int)}, (∀ p ∈ L, R.Z p.1 = some (.tup (p.2.map V.int))) → (∀ p ∈ L, p.2.length = 2) → Reps (kx X cl) R (prsD (L.map prOf)) (L.map fun q => V.ref q.1)
  | [], _, _ => rfl
  | q :: L, h, h2 => by
    have ih : Reps (kx X cl) R (prsD (L.map prOf)) (L.map fun (q : Addr × List Int) => V.ref q.1) := reps_rows (L := L) (fun p hp => h p (List.mem_cons_of_mem _ hp)) fun p hp => h2 p (List.mem_cons_of_mem _ hp)
    refine ⟨V.ref q.1, L.map fun (q : Addr × List Int) => V.ref q.1, rfl, ?_, ih⟩
    have e := h q (by simp)
    have e2 := h2 q (by simp)
    obtain ⟨a, k⟩ := q
    match k, e2 with
    | [i, j], _ => exact ⟨a, [.int i, .int j], rfl, e, ⟨.int i, _, rfl, rfl, .int j, _, rfl, rfl, rfl⟩⟩
theorem cr_sortS (hc : X.calm = true) (hu : X.A.units + 65 < cLine) : CallR X (.builtin "sorted") (rSortS X cl) := by
  intro pins s σ H xs us Q I r h
  obtain ⟨a, L, R, rfl, ha, zh, hz2, h2', q⟩ := h
  have R0 : SetT0 X.prog X.w s.heap a L := (I.hok a _ ha).1
  have hT : ∀ p ∈ L, SqT X.K H p.1 (p.2.map V.int) := fun p hp => .inl (.inl (zh _ _ (hz2 p hp)))
  obtain ⟨es, ep, t, RR⟩ := R0.full fun p hp => I.isT (hT p hp)
  obtain ⟨u, rfl, ru⟩ := vals1 r
  obtain rfl : u = Value.ref a := ru
  obtain ⟨o, ho, hex, hd⟩ := RR.ob
  have hsz := RR.size
  have hfew := RR.few
  refine Calls.call_function_entry PyProof.Rows.kind_sorted PyProof.Rows.plain_sorted PyProof.Rows.entry_sorted (PyProof.Rows.args_sorted1 _) ?_
  unfold Builtin.«sorted»
  refine wpAny_bind (m := checkCount "sorted" 1 1 _) (wpAny_pure ?_)
  refine wpAny_bind (collect_set (A := X.A.in1) (I.ok.hd hc) ⟨o, ho, hex.1, hd⟩ RR.fits (by unfold scanBound; omega) RR.tab.ris RR.led fun s1 vs k1 hz g1 o1 pm => ?_)
  have hes : es.toList.map (·.2) = L.map fun q => Value.ref q.1 := by
    rw [RR.rows]
    unfold rowsOf
    rw [List.map_map] <;> rfl
  rw [hes] at pm
  obtain ⟨L1, pL, ev⟩ := perm_inv pm.symm L rfl
  have mL : ∀ p ∈ L1, p ∈ L := fun p hp => pL.mem_iff.mp hp
  have rs := reps_rows (X := X) (cl := cl) (R := R) (L := L1) (fun p hp => hz2 p (mL p hp)) fun p hp => h2' p (mL p hp)
  have rv : Vals (L1.map fun q => V.ref q.1) vs := by rw [ev]; exact vals_of_refs L1
  have hl1 : L1.length = L.length := pL.length_eq
  have hlv : vs.length = L1.length := by rw [ev, List.length_map]
  obtain ⟨h1, h2, h3⟩ := sortOk_is (sortOk_prs (ps := L1.map prOf))
  have e1 : s1 = { s with heap := s1.heap, gens := s1.gens, drawn := s1.drawn, toks := s1.toks } := by
    cases s1
    cases s
    cases o1
    rfl
  have J0 : Inv X pins σ H { s with heap := s1.heap, gens := s1.gens, drawn := s1.drawn, toks := s1.toks } := I.call (ch := []) (Un.kept k1) (I.hok.kept k1) (by rw [g1]; exact I.bare) (fun _ z => nomatch z)
  have J1 : Inv X pins σ H s1 := by rw [e1]; exact J0
  refine wpAny_bind (wpAny_newList ?_ (by rw [sizeLine_eq]; omega))
  have hoL : (s1.heap.push (seqObj "list" vs.toArray 0)).get? s1.heap.objs.size = some (seqObj "list" vs.toArray 0) := Heap.get?_push_size _ rfl
  have hkq : ∀ b o, s1.heap.get? b = some o → (s1.heap.push (seqObj "list" vs.toArray 0)).get? b = some o := fun b o e => Heap.get?_push_of_some _ e
  refine wpAny_bind (wpAny_holding (PySem.W.list_sort_data (s := { s1 with heap := s1.heap.push (seqObj "list" vs.toArray 0) }) (β := D) (bs := prsD (L1.map prOf)) (enc := encD) (R := StD X cl R) hoL (each_of rs rv) ((each_reads J1 zh hkq h1 (each_of rs rv)).mono fun _ _ e => ⟨_, e, by simp⟩) h3 h2 (by rw [prsD_len, List.length_map, sizeLine_eq]; omega) (fun b hb => ?_) fun out ho' eo => ?_))
  · have := fit_depth b 60 (h1 b hb)
    have e : X.A.in1.units = X.A.units + 1 := rfl
    omega
  · obtain ⟨ys, hv, hr⟩ := of_each eo
    obtain ⟨n, hn⟩ := sortedHeap_at (vs := vs) (out := out.toArray) hoL
    have hlen : ys.length ≤ sizeLine := by rw [Paired.length hv, ho', prsD_len, List.length_map, sizeLine_eq]; omega
    refine wpAny_pure ⟨_, rfl, .ref s1.heap.objs.size, upd H s1.heap.objs.size (.lst ys), J1.laid (t' := s1.toks) (fun b u e => ?_) (Nat.le_refl _)
      (show ObjOk X.prog X.w _ _ _ (.lst ys) from ⟨hlen, out, n, hv, hn⟩), rfl, q ys _ L1 pL RR.nd hr (J1.hok.fresh (Nat.le_refl _))⟩
    have hb : b < s1.heap.objs.size := Heap.lt_size e
    rw [PyProof.Rows.sortedHeap_old (Nat.ne_of_lt hb) (by rw [size_push']; exact Nat.lt_succ_of_lt hb)]
    exact Heap.get?_push_of_some _ e
end
/-- each once, in the order of the first -/
def dd (ps : List Bd.Sq) : List Bd.Sq := ps.foldl addS []
theorem dd_from : ∀ (ps acc : List Bd.Sq), acc.Nodup → (ps.foldl addS acc).Nodup ∧ ∀ q, q ∈ ps.foldl addS acc ↔ q ∈ acc ∨ q ∈ ps
  | [], acc, h => ⟨h, by simp⟩
  | p :: ps, acc, h => by
    obtain ⟨h1, h2⟩ := dd_from ps (addS acc p) (nodup_addS h)
    refine ⟨h1, fun q => ?_⟩
    rw [List.foldl_cons, h2, mem_addS, List.mem_cons]
    exact ⟨fun z => z.elim (fun z => z.elim .inl fun z => .inr (.inl z)) fun z => .inr (.inr z), fun z => z.elim (fun z => .inl (.inl z)) fun z => z.elim (fun z => .inl (.inr z)) .inr⟩
theorem dd_nodup (ps : List Bd.Sq) : (dd ps).Nodup := (dd_from ps [] .nil).1
theorem mem_dd {ps : List Bd.Sq} {q : Bd.Sq} : q ∈ dd ps ↔ q ∈ ps := by
  have := (dd_from ps [] .nil).2 q
  simpa [dd] using this
def usort (ps : List Bd.Sq) : List Bd.Sq := Bd.msort (dd ps)
theorem msort_lt {l : List Bd.Sq} (n : l.Nodup) : (Bd.msort l).Pairwise Bd.lt := by
  have hp : (Bd.msort l).Perm l := List.mergeSort_perm l Bd.le
  have hs : (Bd.msort l).Pairwise fun p q => Bd.le p q = true := List.pairwise_mergeSort (fun a b c h1 h2 => by
    simp only [Bd.le, decide_eq_true_eq] at *; omega) (fun a b => by
    simp only [Bd.le, Bool.or_eq_true, decide_eq_true_eq]; omega) l
  refine (hs.and (hp.nodup_iff.mpr n)).imp fun {p q} h => ?_
  obtain ⟨h1, h2⟩ := h
  simp only [Bd.le, decide_eq_true_eq] at h1
  unfold Bd.lt
  have : ¬ (p.1 = q.1 ∧ p.2 = q.2) := fun e => h2 (Prod.ext e.1 e.2)
  omega
theorem mem_msort {l : List Bd.Sq} {q : Bd.Sq} : q ∈ Bd.msort l ↔ q ∈ l := (List.mergeSort_perm l Bd.le).mem_iff
theorem msort_same {l m : List Bd.Sq} (hl : l.Nodup) (hm : m.Nodup) (h : ∀ q, q ∈ l ↔ q ∈ m) : Bd.msort l = Bd.msort m :=
  Bd.msort_eq hl (msort_lt hm) fun q => by rw [mem_msort, h]
theorem usort_eq {ps m : List Bd.Sq} (hm : m.Pairwise Bd.lt) (h : ∀ q, q ∈ ps ↔ q ∈ m) : usort ps = m := Bd.msort_eq (dd_nodup ps) hm fun q => by rw [mem_dd, h]
theorem usort_self {ps : List Bd.Sq} : usort ps = ps ↔ ps.Pairwise Bd.lt := by
  constructor
  · intro h; rw [← h]; exact msort_lt (dd_nodup ps)
  · intro h; exact usort_eq h fun _ => Iff.rfl
def prOf1 (d : D) : Option Bd.Sq := match d with
  | .tup [.int i, .int j] => some (i, j)
  | _ => none
theorem prOf1_eq {d : D} {p : Bd.Sq} (h : prOf1 d = some p) : d = prD p := by
  unfold prOf1 at h
  split at h
  · cases h; rfl
  · cases h
def prsOf : List D → Option (List Bd.Sq)
  | [] => some []
  | d :: r => match prOf1 d, prsOf r with
    | some p, some ps => some (p :: ps)
    | _, _ => none
theorem prsOf_prs : ∀ ps : List Bd.Sq, prsOf (prsD ps) = some ps
  | [] => rfl
  | p :: ps => by
    show (match prOf1 (prD p), prsOf (prsD ps) with | some p, some ps => some (p :: ps) | _, _ => none) = _
    rw [prsOf_prs ps]; rfl
theorem prsOf_eq : ∀ {ds : List D} {ps : List Bd.Sq}, prsOf ds = some ps → ds = prsD ps
  | [], ps, h => by cases h; rfl
  | d :: ds, ps, h => by
    simp only [prsOf] at h
    split at h
    · rename_i p qs h1 h2
      cases h
      rw [prOf1_eq h1, prsOf_eq h2]; rfl
    · cases h
theorem rows_of {K : Kc} {R : Rc} : ∀ {ps : List Bd.Sq} {vs : List V}, Reps K R (prsD ps) vs → ∃ ks : List (Addr × List Int), vs = ks.map (fun p => V.ref p.1) ∧ ks.map prOf = ps ∧ (∀ p ∈ ks, R.Z p.1 = some (.tup (p.2.map V.int))) ∧ ∀ p ∈ ks, p.2.length = 2
  | [], vs, h => ⟨[], h, rfl, by simp, by simp⟩
  | p :: ps, vs, h => by
    obtain ⟨v, r, rfl, h1, h2⟩ := h
    obtain ⟨ks, e1, e2, e3, e4⟩ := rows_of h2
    obtain ⟨a, ws, rfl, z, x1, w1, rfl, rx1, x2, w2, rfl, rx2, rfl⟩ := h1
    cases (show x1 = V.int p.1 from rx1)
    cases (show x2 = V.int p.2 from rx2)
    refine ⟨(a, [p.1, p.2]) :: ks, by rw [e1]; rfl, by rw [List.map_cons, e2]; rfl, fun q hq => ?_, fun q hq => ?_⟩
    · rcases List.mem_cons.mp hq with rfl | hq
      · exact z
      · exact e3 q hq
    · rcases List.mem_cons.mp hq with rfl | hq
      · rfl
      · exact e4 q hq
theorem prOf_inj {p q : Addr × List Int} (hp : p.2.length = 2) (hq : q.2.length = 2) (h : prOf p = prOf q) : p.2 = q.2 := by
  obtain ⟨a, k⟩ := p
  obtain ⟨b, l⟩ := q
  match k, l, hp, hq with
  | [i, j], [i', j'], _, _ =>
    unfold prOf at h
    simp at h
    simp [h]
section
variable {X : Cx} {cl : Nat → Addr} {Ea : Den} {e : Expr} {pos p1 p2 pos2 : Pos}
def pSortSet (x : D) (_ : Store) : Rs RV := match x with
  | .lst ds => match prsOf ds with
    | some ps => if ps.length < 64 then .ok (.fr (.lst (prsD (usort ps)))) else .no
    | none => .no
  | _ => .no
def rSS (X : Cx) (cl : Nat → Addr) : V → Hp → VK → Prop := fun x H Q => rSetOfT X.K X.prog X.w [x] H fun v H' => rSortS X cl [v] H' Q
theorem sorted_rows {R : Rc} {S : Store} {H : Hp} {Q : VK} {ps : List Bd.Sq} {ks L : List (Addr × List Int)} {b : Addr} (g : GR (kx X cl) R S H) {k : ∀ v' R' H', Gw R H R' H' → RNew (kx X cl) H R' H' (.fr (.lst (prsD (usort ps)))) v' → Q v' H'} (nb : H b = none)
    (e2 : ks.map prOf = ps) (e3 : ∀ p ∈ ks, R.Z p.1 = some (.tup (p.2.map V.int))) (e4 : ∀ p ∈ ks, p.2.length = 2) (hL1 : ∀ p ∈ L, p ∈ ks) (hL2 : ∀ p ∈ ks, p.2 ∈ L.map (·.2)) : rSortS X cl [.ref b] (upd H b (SetTO X.prog X.w b L)) Q := by
  refine ⟨b, L, R, rfl, upd_same, fun c o hc => ?_, fun p hp => e3 p (hL1 p hp), fun p hp => e4 p (hL1 p hp), fun ys p L1 pL nd r np => ?_⟩
  · have := g.zh c o hc
    rw [upd_ne (fun z => by rw [z, nb] at this; cases this)]; exact this
  · have nl : (L1.map prOf).Nodup := by
      have n2 := (pL.map (·.2)).nodup_iff.mpr nd
      unfold List.Nodup at n2 ⊢
      rw [List.pairwise_map] at n2 ⊢
      refine List.Pairwise.imp_of_mem (fun {x y} hx hy hne he => hne ?_) n2
      exact prOf_inj (e4 x (hL1 x (pL.mem_iff.mp hx))) (e4 y (hL1 y (pL.mem_iff.mp hy))) he
    have em : Bd.msort (L1.map prOf) = usort ps := msort_same nl (dd_nodup ps) fun q => by
      rw [mem_dd, ← e2]
      constructor
      · intro hq
        obtain ⟨p', h1, rfl⟩ := List.mem_map.mp hq
        exact List.mem_map.mpr ⟨p', hL1 p' (pL.mem_iff.mp h1), rfl⟩
      · intro hq
        obtain ⟨p', h1, rfl⟩ := List.mem_map.mp hq
        obtain ⟨p'', h2, h3⟩ := List.mem_map.mp (hL2 p' h1)
        refine List.mem_map.mpr ⟨p'', pL.mem_iff.mpr h2, ?_⟩
        unfold prOf
        rw [show p''.2 = p'.2 from h3]
    rw [srtD_prs, em] at r
    have g1 : Gw R H R (upd H b (SetTO X.prog X.w b L)) := Gw.new nb
    have hp0 : H p = none := by
      cases q : H p with
      | none => rfl
      | some o => rw [g1.sm p o q] at np; cases np
    exact k _ R _ (g1.trans (Gw.new np)) ⟨p, _, rfl, upd_same, ⟨ys, rfl, r⟩, g.free hp0, hp0⟩
theorem ok_sortSet : UnOk (kx X cl) pSortSet (rSS X cl) := by
  intro x S rv v R H Q e g rx k
  unfold pSortSet at e
  split at e
  · split at e
    · split at e
      · rename_i ds ps hps hl
        cases e
        cases prsOf_eq hps
        obtain ⟨a, vs, rfl, ha, ra⟩ := rx.lst g
        obtain ⟨ks, rfl, e2, e3, e4⟩ := rows_of ra
        have hlk : ks.length = ps.length := by rw [← e2]; simp
        refine ⟨a, ks, rfl, SqL.of ha, fun p hp => .inl (.inl (g.zh _ _ (e3 p hp))), by omega, fun b L nb hL1 hL2 => ?_⟩
        exact sorted_rows (k := k) g nb e2 e3 e4 hL1 hL2
      · cases e
    · cases e
  · cases e
theorem g_sortSet (hc : X.calm = true) (hu : X.A.units + 65 < cLine) (hg1 : Gl X "sorted") (hm1 : X.mg "sorted" = none) (hg2 : Gl X "set") (hm2 : X.mg "set" = none) (ha : PE X e (tOf (kx X cl) Ea))
    (he : starEach [e] X.env = (false, eval e X.env) :: starEach [] X.env := by rfl)
    (he2 : starEach [.Call (.Name "set" p2) [e] [] pos2] X.env = (false, eval (.Call (.Name "set" p2) [e] [] pos2) X.env) :: starEach [] X.env := by rfl) :
    PE X (.Call (.Name "sorted" p1) [.Call (.Name "set" p2) [e] [] pos2] [] pos) (tOf (kx X cl) (eUn pSortSet Ea)) :=
  ev_un (r := rSS X cl) (pe_callB (cr_sortS hc hu) hg1 hm1 bt_sorted (pa_cons (pe_callTy (cr_setOfT hc (by omega)) hg2 hm2 rfl (pa1 ha he) (he := he)) pa_nil he2) (he := he2)) ok_sortSet
@[simp] theorem y_sortSet {ps : List Bd.Sq} {S : Store} (h : ps.length < 64) : pSortSet (.lst (prsD ps)) S = .ok (.fr (.lst (prsD (usort ps)))) := by
  unfold pSortSet
  simp only [prsOf_prs, h, if_true]
end
end Mp

namespace Mp
open PySem PySem.Spec PyProof.Rows L2
/-- a set just begun -/
abbrev sNew (w : World) : PySem.Obj := { cls := .type "set", dict := none, data := .set #[] 0 (.fresh 0 0 (!w.params.followText "set-order")) }
section
variable {P : Program} {w : World} {A : Around} {E : Value → Shared → Prop} {s : Shared}
set_option maxHeartbeats 3200000 in
theorem set_of_tup {l : Addr} {its : Array Value} (rows : List (Addr × List Int)) {Q : Value → Shared → Prop} (free : A.handled = none) (tl : s.heap.IsTuple l its) (eit : its.toList = rows.map fun p => Value.ref p.1)
    (rk : ∀ p ∈ rows, IsT P w s.heap p.2 p.1) (few : rows.length < 64) (un : A.units + 3 < cLine)
    (fin : ∀ (h' : Heap) (tk : Nat) L es ep t, SetTR P w h' s.heap.objs.size L es ep t → Got rows rows.length L → (∀ b o, s.heap.get? b = some o → h'.get? b = some o) → Q (.ref s.heap.objs.size) { s with heap := h', toks := tk }) :
    wpAny (model P w) A (call (.type "set") [.ref l]) Q E s := by
  have size : its.size = rows.length := by
    have := congrArg List.length eit
    simpa using this
  obtain ⟨c, tl', hmro⟩ := F.called_set.mro
  have hmade := F.called_set.made
  have hsub := F.called_set.sub
  refine wpAny_call (codeAny_of_tree ?_)
  show wpAny _ _ (callAny (.type "set") ⟨[.ref l], []⟩) _ _ _
  refine wpAny_pure ⟨Code.quiet_builtin _ (by decide +kernel), codeAny_builtin F.entry_type_call ?_⟩
  rw [Around.under_plain (weight_type_call_type "set" [.ref l] []) rfl]
  have t1 := F.called_set.notType
  have t2 := F.called_set.canCreate
  have t3 := F.typeCall_set_1 (.ref l)
  repeat (any_goals (first | assumption | wp_step))
  refine codeAny_mono (code_set_led1 (.ref l) (E := E) (Q₁ := fun ob s₁ => ob = .ref s.heap.objs.size ∧ s₁ = { s with heap := s.heap.push (sNew w) }) ⟨rfl, rfl⟩) fun r s₁ hr => ?_
  cases r with
  | error e => exact hr
  | ok fl =>
    cases fl with
    | ret ob =>
      obtain ⟨rfl, rfl⟩ := hr
      have atS : (s.heap.push (sNew w)).get? s.heap.objs.size = some (sNew w) := Heap.get?_push_size _ rfl
      have tyS : Shared.TypeIs { s with heap := s.heap.push (sNew w) } (.ref s.heap.objs.size) "set" := ⟨_, atS, rfl⟩
      have i1 := F.called_set.init.lookup
      have i2 := F.called_set.init.bind (.ref s.heap.objs.size)
      repeat (any_goals (first | assumption | wp_step))
      refine codeAny_mono (codeAny_call_builtin (R := wants (fun r s₂ => r = .none ∧ ∃ h' tk L es ep t, s₂ = { s with heap := h', toks := tk } ∧ SetTR P w h' s.heap.objs.size L es ep t ∧ Got rows rows.length L ∧
          (∀ b o, s.heap.get? b = some o → h'.get? b = some o)) E) F.called_set.init.plain F.entry_set_init (check_set_init_1 tyS ?_)) fun r₂ s₂ hr₂ => ?_
      · obtain ⟨⟨oc, od, ot, os⟩, ho, hc, m, hd⟩ := tl
        simp only at hc hd
        subst hc hd
        have ho' : (s.heap.push (sNew w)).get? l = some { cls := .type "tuple", dict := od, data := .seq its m, slots := os } := Heap.get?_push_of_some _ ho
        have sb1 := F.sub_tuple_set
        have sb2 := F.sub_tuple_frozenset
        have nd : (Value.type "tuple" == Value.type "dict") = false := by decide
        have tl1 : (s.heap.push (sNew w)).IsTuple l its := ⟨_, ho', rfl, m, rfl⟩
        unfold Builtin.«set.__init__» noKeywords Builtin.Frozenset.updateFrom
        generalize hPI : pyIter = PI
        wp_walk
        subst hPI
        refine wpAny_pyIter_tuple tl1 ?_
        refine wpAny_bind (wpAny_runValue ?_)
        have lS : l < s.heap.objs.size := Heap.lt_size ho
        have h3 : A.in1.in1.in1.handled = none := by simp [free]
        have hz : (s.heap.push (sNew w)).objs.size = s.heap.objs.size + 1 := Heap.size_push ..
        have lI : l ≠ (s.heap.push (sNew w)).objs.size := by rw [hz]; exact Nat.ne_of_lt (Nat.lt_succ_of_lt lS)
        have nS : s.heap.objs.size ∉ [(s.heap.push (sNew w)).objs.size, l] := by
          rw [hz, List.mem_cons, List.mem_singleton, not_or]
          exact ⟨Nat.ne_of_lt (Nat.lt_succ_self _), Nat.ne_of_gt lS⟩
        have val : ∀ (i : Nat) (v : Value), its[i]? = some v → ∃ p, rows[i]? = some p ∧ v = .ref p.1 := fun i v hv => by
          rw [← Array.getElem?_toList, eit, List.getElem?_map] at hv
          cases hq : rows[i]? with
          | none => rw [hq] at hv; cases hv
          | some p => rw [hq] at hv; cases hv; exact ⟨p, rfl, rfl⟩
        have none_at : ∀ b, s.heap.objs.size ≤ b → s.heap.get? b = none := fun b hb => by
          cases q : s.heap.get? b with
          | none => rfl
          | some o => exact absurd (Nat.lt_of_lt_of_le (Heap.lt_size q) hb) (Nat.lt_irrefl _)
        refine set_update_tups ((Walks.tuple h3 _ l lI its).toS) s.heap.objs.size
          nS rows size few val s.heap rk (none_at _ (Nat.le_refl _)) (fun b hb => none_at b (by
            rw [List.mem_singleton.mp hb, hz]
            exact Nat.le_succ _)) un (its.size - 0) 0 _ (by omega) (Nat.zero_le _)
          ⟨⟨_, Heap.get?_push_size _ rfl, rfl, rfl⟩, (tl1.push _)⟩ (fun b o e => Heap.get?_push_of_some _ (Heap.get?_push_of_some _ e)) ?begun ?done
        case begun =>
          have hg : ((s.heap.push (sNew w)).push { cls := .type "tuple_iterator", data := .fields #[.ref l, .int 0 0] }).get? s.heap.objs.size = some (sNew w) := Heap.get?_push_of_some _ atS
          exact ⟨[], #[], 0, _, setTR_fresh hg, Got.zero rows⟩
        case done =>
          intro s' L es ep t mv R' G' kp
          obtain ⟨h', g2, d', tk', os'⟩ := s'
          have eg : g2 = s.gens := mv.gens
          have ed : d' = s.drawn := mv.drawn
          have eo : os' = s.os := mv.os
          subst eg; subst ed; subst eo
          show wpAny _ _ _ _ _ _
          refine wpAny_pure ?_
          show wpAny _ _ (ret Value.none) _ _ _
          rw [size] at G'
          exact wpAny_pure ⟨rfl, h', tk', L, es, ep, t, rfl, R', G', kp⟩
      · cases r₂ with
        | error e => exact hr₂
        | ok fl₂ =>
          cases fl₂ with
          | ret r =>
            obtain ⟨rfl, h', tk, L, es, ep, t, rfl, R', G', kp⟩ := hr₂
            repeat (any_goals (first | assumption | wp_step))
            exact fin _ _ _ _ _ _ R' G' kp
          | _ => exact hr₂.elim
    | _ => exact hr.elim
end
section
variable {X : Cx} {cl : Nat → Addr} {Ea : Den} {e : Expr} {pos p1 p2 pos2 : Pos}
def rSetT (X : Cx) : List V → Hp → VK → Prop := fun xs H Q => ∃ (l : Addr) (ks : List (Addr × List Int)), xs = [V.ref l] ∧ SqT X.K H l (ks.map fun p => V.ref p.1) ∧ (∀ p ∈ ks, SqT X.K H p.1 (p.2.map V.int)) ∧ ks.length < 64 ∧
  ∀ a L, H a = none → (∀ p ∈ L, p ∈ ks) → (∀ p ∈ ks, p.2 ∈ L.map (·.2)) → Q (.ref a) (upd H a (SetTO X.prog X.w a L))
theorem cr_setT (hc : X.calm = true) (hu : X.A.units + 65 < cLine) : CallR X (.type "set") (rSetT X) := by
  intro pins s σ H xs us Q I r h
  obtain ⟨l, ks, rfl, hl, hk, hf, q⟩ := h
  rw [Vals.ref1 r]
  obtain ⟨its, rv, pl, hz⟩ := I.tuple hl
  have hn : H s.heap.objs.size = none := I.hok.fresh (Nat.le_refl _)
  refine set_of_tup (P := X.prog) (w := X.w) ks (I.ok.hd hc) pl (by simpa using refs_of_vals rv) (fun p hp => I.isT (hk p hp)) hf (by omega) fun h' tk L es ep t R g k => ?_
  refine ⟨.ref s.heap.objs.size, upd H s.heap.objs.size (SetTO X.prog X.w s.heap.objs.size L), I.laid (t' := tk) k (Nat.le_refl _) (setTO_new R.t0), rfl, q _ L hn (fun p hp => ?_) fun p hp => ?_⟩
  · exact List.mem_of_mem_take (g.sub p hp)
  · exact g.all p (by rw [List.take_length]; exact hp)
def rSetA (X : Cx) : List V → Hp → VK → Prop := fun xs H Q => rSetOfT X.K X.prog X.w xs H Q ∨ rSetT X xs H Q
theorem cr_setA (hc : X.calm = true) (hu : X.A.units + 65 < cLine) : CallR X (.type "set") (rSetA X) := CallR.or (cr_setOfT hc (by omega)) (cr_setT hc hu)
def pSortSetA (x : D) (S : Store) : Rs RV := match x with
  | .tup ds => match prsOf ds with
    | some ps => if ps.length < 64 then .ok (.fr (.lst (prsD (usort ps)))) else .no
    | none => .no
  | _ => pSortSet x S
def rSSA (X : Cx) (cl : Nat → Addr) : V → Hp → VK → Prop := fun x H Q => rSetA X [x] H fun v H' => rSortS X cl [v] H' Q
theorem ok_sortSetA : UnOk (kx X cl) pSortSetA (rSSA X cl) := by
  intro x S rv v R H Q e g rx k
  unfold pSortSetA at e
  split at e
  · split at e
    · split at e
      · rename_i ds ps hps hl
        cases e
        cases prsOf_eq hps
        obtain ⟨a, vs, rfl, ha, ra⟩ := rx.tup g
        obtain ⟨ks, rfl, e2, e3, e4⟩ := rows_of ra
        have hlk : ks.length = ps.length := by rw [← e2]; simp
        refine .inr ⟨a, ks, rfl, ha, fun p hp => .inl (.inl (g.zh _ _ (e3 p hp))), by omega, fun b L nb hL1 hL2 => ?_⟩
        exact sorted_rows (k := k) g nb e2 e3 e4 hL1 hL2
      · cases e
    · cases e
  · obtain h := ok_sortSet (X := X) (cl := cl) x S rv v R H Q e g rx k
    exact .inl h
theorem g_sortSetA (hc : X.calm = true) (hu : X.A.units + 65 < cLine) (hg1 : Gl X "sorted") (hm1 : X.mg "sorted" = none) (hg2 : Gl X "set") (hm2 : X.mg "set" = none) (ha : PE X e (tOf (kx X cl) Ea))
    (he : starEach [e] X.env = (false, eval e X.env) :: starEach [] X.env := by rfl)
    (he2 : starEach [.Call (.Name "set" p2) [e] [] pos2] X.env = (false, eval (.Call (.Name "set" p2) [e] [] pos2) X.env) :: starEach [] X.env := by rfl) :
    PE X (.Call (.Name "sorted" p1) [.Call (.Name "set" p2) [e] [] pos2] [] pos) (tOf (kx X cl) (eUn pSortSetA Ea)) :=
  ev_un (r := rSSA X cl) (pe_callB (cr_sortS hc hu) hg1 hm1 bt_sorted (pa_cons (pe_callTy (cr_setA hc hu) hg2 hm2 rfl (pa1 ha he) (he := he)) pa_nil he2) (he := he2)) ok_sortSetA
@[simp] theorem y_sortSetA_lst {ds : List D} {S : Store} : pSortSetA (.lst ds) S = pSortSet (.lst ds) S := id rfl
theorem y_sortSetA_tup {ps : List Bd.Sq} {S : Store} (h : ps.length < 64) : pSortSetA (.tup (prsD ps)) S = .ok (.fr (.lst (prsD (usort ps)))) := by
  unfold pSortSetA
  simp only [prsOf_prs, h, if_true]
end
end Mp

namespace Mp
open PySem Bd
/-- plain values: depth at most n, rows of at most 20 -/
def okV : Nat → D → Bool
  | _, .non => true
  | _, .bl _ => true
  | _, .int _ => true
  | _, .str s => decide (s.length ≤ 100) && s.all (· < 0x110000)
  | 0, .tup ds => decide (ds = [])
  | 0, .lst ds => decide (ds = [])
  | n + 1, .tup ds => decide (ds.length ≤ 20) && ds.all (okV n)
  | n + 1, .lst ds => decide (ds.length ≤ 20) && ds.all (okV n)
  | _, _ => false
theorem okV_tup {n : Nat} {ds : List D} (h : ds.length ≤ 20) (a : ∀ d ∈ ds, okV n d = true) : okV (n + 1) (.tup ds) = true := by
  simp only [okV, Bool.and_eq_true, decide_eq_true_eq, List.all_eq_true]; exact ⟨h, a⟩
theorem okV_lst {n : Nat} {ds : List D} (h : ds.length ≤ 20) (a : ∀ d ∈ ds, okV n d = true) : okV (n + 1) (.lst ds) = true := by
  simp only [okV, Bool.and_eq_true, decide_eq_true_eq, List.all_eq_true]; exact ⟨h, a⟩
theorem of_okV_tup {n : Nat} {ds : List D} (h : okV (n + 1) (.tup ds) = true) : ds.length ≤ 20 ∧ ∀ d ∈ ds, okV n d = true := by
  simpa only [okV, Bool.and_eq_true, decide_eq_true_eq, List.all_eq_true] using h
theorem okV_up : ∀ (n : Nat) (d : D), okV n d = true → okV (n + 1) d = true
  | n, .non, _ => by cases n <;> rfl
  | n, .bl _, _ => by cases n <;> rfl
  | n, .int _, _ => by cases n <;> rfl
  | n, .str s, h => by cases n <;> exact h
  | 0, .tup ds, h => by
    simp only [okV, decide_eq_true_eq] at h
    subst h; rfl
  | 0, .lst ds, h => by
    simp only [okV, decide_eq_true_eq] at h
    subst h; rfl
  | n + 1, .tup ds, h => by
    simp only [okV, Bool.and_eq_true, decide_eq_true_eq, List.all_eq_true] at h ⊢
    exact ⟨h.1, fun d hd => okV_up n d (h.2 d hd)⟩
  | n + 1, .lst ds, h => by
    simp only [okV, Bool.and_eq_true, decide_eq_true_eq, List.all_eq_true] at h ⊢
    exact ⟨h.1, fun d hd => okV_up n d (h.2 d hd)⟩
  | 0, .ktup _, h => by simp [okV] at h
  | n + 1, .ktup _, h => by simp [okV] at h
  | 0, .dct _ _ _, h => by simp [okV] at h
  | n + 1, .dct _ _ _, h => by simp [okV] at h
  | 0, .ref _, h => by simp [okV] at h
  | n + 1, .ref _, h => by simp [okV] at h
  | 0, .scr _, h => by simp [okV] at h
  | n + 1, .scr _, h => by simp [okV] at h
theorem okV_dat : ∀ (n : Nat) (d : D), okV n d = true → d.dat (n + 1) = true
  | n, .non, _ => rfl
  | n, .bl _, _ => rfl
  | n, .int _, _ => rfl
  | n, .str s, h => by
    have h' : (decide (s.length ≤ 100) && s.all (· < 0x110000)) = true := by cases n <;> exact h
    rw [Bool.and_eq_true] at h'
    exact h'.2
  | 0, .tup ds, h => by
    simp only [okV, decide_eq_true_eq] at h
    subst h; rfl
  | 0, .lst ds, h => by
    simp only [okV, decide_eq_true_eq] at h
    subst h; rfl
  | n + 1, .tup ds, h => by
    simp only [okV, Bool.and_eq_true, decide_eq_true_eq, List.all_eq_true] at h
    show D.dats (n + 1) ds = true
    rw [dats_all, List.all_eq_true]
    exact fun d hd => okV_dat n d (h.2 d hd)
  | n + 1, .lst ds, h => by
    simp only [okV, Bool.and_eq_true, decide_eq_true_eq, List.all_eq_true] at h
    show D.dats (n + 1) ds = true
    rw [dats_all, List.all_eq_true]
    exact fun d hd => okV_dat n d (h.2 d hd)
  | 0, .ktup _, h => by simp [okV] at h
  | n + 1, .ktup _, h => by simp [okV] at h
  | 0, .dct _ _ _, h => by simp [okV] at h
  | n + 1, .dct _ _ _, h => by simp [okV] at h
  | 0, .ref _, h => by simp [okV] at h
  | n + 1, .ref _, h => by simp [okV] at h
  | 0, .scr _, h => by simp [okV] at h
  | n + 1, .scr _, h => by simp [okV] at h
theorem okV_pr (p : Sq) (n : Nat) : okV (n + 1) (prD p) = true := by
  cases n <;> rfl
def isI : D → Bool
  | .int _ => true
  | _ => false
def isTp2 : D → Bool
  | .tup [_, _] => true
  | _ => false
theorem prOf1_pr (p : Sq) : prOf1 (prD p) = some p := rfl
theorem prOf1_none {a b : D} (h : (isI a && isI b) = false) : prOf1 (.tup [a, b]) = none := by
  unfold prOf1
  split
  · rename_i h2
    cases h2
    simp [isI] at h
  · rfl
/-- all items pairs -/
theorem prsOf_all : ∀ {ds : List D}, (∀ d ∈ ds, ∃ p, prOf1 d = some p) → ∃ ps, ds = prsD ps
  | [], _ => ⟨[], rfl⟩
  | d :: ds, h => by
    obtain ⟨p, hp⟩ := h d (by simp)
    obtain ⟨ps, e⟩ := prsOf_all (ds := ds) fun e he => h e (List.mem_cons_of_mem _ he)
    exact ⟨p :: ps, by rw [prOf1_eq hp, e]; rfl⟩
theorem eq_nilL {n : Nat} {ds : List D} {S : Store} (h : (D.lst ds).dat 64 = true) : pEq (.lst ds) (.lst []) S = .ok (.pl (.bl (decide (ds = [])))) := by
  unfold pEq
  rw [if_pos ⟨h, rfl⟩]
  cases ds <;> simp [eqv, D.py, D.pys, PyData.eqv, PyData.eqvAll]
theorem ne_nilL {ds : List D} {S : Store} (h : (D.lst ds).dat 64 = true) : pNe (.lst ds) (.lst []) S = .ok (.pl (.bl (!decide (ds = [])))) := by
  unfold pNe
  rw [if_pos ⟨h, rfl⟩]
  cases ds <;> simp [eqv, D.py, D.pys, PyData.eqv, PyData.eqvAll]
theorem eq_nilT {ds : List D} {S : Store} (h : (D.tup ds).dat 64 = true) : pEq (.tup ds) (.tup []) S = .ok (.pl (.bl (decide (ds = [])))) := by
  unfold pEq
  rw [if_pos ⟨h, rfl⟩]
  cases ds <;> simp [eqv, D.py, D.pys, PyData.eqv, PyData.eqvAll]
/-- placed pieces, by the value -/
def fp (h w : Nat) (b : Nat → Nat → Bool) (d : D) : Bool := match d with
  | .tup ds => match prsOf ds with
    | some ps => (ps.all fun p => decide (p ∈ sqs h w b)) && decide (ps.Pairwise lt)
    | none => false
  | _ => false
/-- a square, by the value -/
def sqV (h w : Nat) (b : Nat → Nat → Bool) (d : D) : Bool := match prOf1 d with
  | some p => decide (p ∈ sqs h w b)
  | none => false
end Mp

namespace Mp
theorem _root_.L2.Room.units1 {k : Nat} {A : PySem.Around} (r : L2.Room k A) : A.units + 1 < PySem.cLine := by have := r.units65; omega
open PySem PySem.Spec PyProof.Rows L2

section
variable {K : Kc} {R R' R1 : Rc} {ω ω' ω0 : Om} {H H' H0 : Hp} {σ : L2.St} {ε ε' : Env} {S : Store}
theorem Apart.keepO {a : Addr} {o : HO} (p : Apart R ω a) (ho : H a = some o) (nt : ∀ vs, o ≠ .tup vs) (x : Ex R ω H R' ω' H') : Apart R' ω' a ∧ H' a = some o := by
  refine ⟨⟨?_, fun q => ?_, fun i q => ?_⟩, x.fr a _ ho p.n p.m⟩
  · cases q : R'.Z a with
    | none => rfl
    | some o' =>
      rcases x.zn a o' q with q | q | ⟨i, q⟩ | q | ⟨us, q⟩
      · rw [p.z] at q; cases q
      · rw [ho] at q; cases q
      · exact absurd q (p.m i)
      · exact absurd q p.n
      · rw [ho] at q; cases q; exact absurd rfl (nt _)
  · rcases x.ρn a q with q | q | ⟨i, q⟩
    · exact p.n q
    · rw [ho] at q; cases q
    · exact p.m i q
  · rcases x.ωn i a q with ⟨j, q⟩ | q
    · exact p.m j q
    · rw [ho] at q; cases q
theorem Ex.lock {a : Addr} {o o' : HO} (x : Ex R1 ω0 H0 R ω H) (w : H0 a = none ∨ ∃ i, ω0 i = some a) : Ex R1 ω0 H0 R ω (upd H a o') where
  le := x.le
  al := fun b u e => by
    by_cases q : b = a
    · subst q; exact ⟨o', upd_same⟩
    · rw [upd_ne q]; exact x.al b u e
  fr := fun b u e n m => by
    have q : b ≠ a := by
      rintro rfl
      rcases w with w | ⟨i, w⟩
      · rw [w] at e; cases e
      · exact m i w
    rw [upd_ne q]; exact x.fr b u e n m
  zn := x.zn
  ρn := x.ρn
  ωn := x.ωn
/-- a dict that is held alone; behind it is data -/
def heldD (r : RV) (ε : Env) : Rs (Bool × List D × List D × Env) := match r with
  | .fr (.dct t ks vs) => .ok (t, ks, vs, ε)
  | .bor i => match slot ε i with
    | some (.own (.dct t ks vs)) => .ok (t, ks, vs, ε.set i (some (.pl (.dct t ks vs))))
    | _ => .no
  | _ => .no
theorem RVR.lock {r : RV} {v : V} {t : Bool} {ks vs : List D} (h : RVR K ω0 H0 R ω H σ r v) (s : SR K R ω ε S σ H) (x : Ex R1 ω0 H0 R ω H) (e : heldD r ε = .ok (t, ks, vs, ε')) :
    ∃ a o, v = .ref a ∧ H a = some o ∧ DctO K R t ks vs o ∧ ∀ od, ∃ ω2, Le R (R.tell a (.frz od o)) ∧ Ex R1 ω0 H0 (R.tell a (.frz od o)) ω2 (upd H a (.frz od o)) ∧ SR K (R.tell a (.frz od o)) ω2 ε' S σ (upd H a (.frz od o)) := by
  cases r with
  | pl d => cases e
  | fr d =>
    cases d <;> try cases e
    obtain ⟨a, o, rfl, ho, c, z, n, m, w⟩ := h
    refine ⟨a, o, rfl, ho, c, fun od => ⟨ω, tell_le z, ?_, ?_⟩⟩
    · exact (x.lock (o := o) w).tell upd_same z w fun _ _ h => h
    · exact (s.other z n m).tell upd_same n m
  | bor i =>
    have h' : σ[i]? = some (some v) := h
    have e' : (match slot ε i with | some (.own (.dct t ks vs)) => Rs.ok (t, ks, vs, ε.set i (some (.pl (.dct t ks vs)))) | _ => .no) = .ok (t, ks, vs, ε') := e
    split at e' <;> try cases e'
    rename_i q
    obtain ⟨u, e1, a, o, rfl, e2, ho, c⟩ := s.sl i _ q
    rw [h'] at e1; cases e1
    have z := s.oz i a e2
    have n := s.oρ i a e2
    have m : ∀ j, ω.off i j ≠ some a := fun j e3 => (off_some e3).1 (s.oi j i a (off_some e3).2 e2)
    have w : H0 a = none ∨ ∃ i, ω0 i = some a := (x.ωn i a e2).symm
    refine ⟨a, o, rfl, ho, c, fun od => ⟨ω.off i, tell_le z, ?_, ?_⟩⟩
    · exact (x.lock (o := o) w).tell upd_same z w fun j b h => (off_some h).2
    · have s1 := ((s.forget i).other (o := .frz od o) z n m).tell upd_same n m
      have s2 := s1.plain (i := i) (v := .ref a) h' off_same (DctO.rep (DctO.mono (tell_le z) c) (.inr ⟨od, tell_at⟩))
      rw [set_set] at s2
      exact s2
end
theorem key_rep1 {K : Kc} {R : Rc} {d : D} {k : L2.Key} (h : d.key = some k) : Rep K R d (kV k) := by
  cases d <;> simp [D.key] at h <;> subst h <;> rfl
section
variable {K : Kc} {R : Rc}
theorem map_at {α : Type} {f : D → Option α} {ks : List D} {kk : List α} (h : ks.map f = kk.map some) {i : Nat} {d : D} {k : α} (e : ks[i]? = some d) (e2 : kk[i]? = some k) : f d = some k := by
  have q := congrArg (fun l : List (Option α) => l[i]?) h
  simp only [List.getElem?_map, e, e2, Option.map_some, Option.some.injEq] at q
  exact q
theorem zip_fst {α β : Type} {a : List α} {b : List β} {i : Nat} {x : α} {y : β} (e : (a.zip b)[i]? = some (x, y)) : a[i]? = some x := by
  rw [List.getElem?_zip_eq_some] at e
  exact e.1
theorem jw_keysK {a : Addr} {od : PySem.Obj} {kk : List L2.Key} {ws : List V} {ks : List D} (z : R.Z a = some (.frz od (.dK (kk.zip ws)))) (hl : kk.length = ws.length) (hm : ks.map D.key = kk.map some) : JW K R (Itk a od (kk.zip ws)) ks where
  go := fun i S H R' l g hi => by
    have hlk : ks.length = kk.length := by simpa using congrArg List.length hm
    exact ⟨g.zh _ _ (l.z _ _ z), by rw [List.length_zip]; omega⟩
  yl := fun i S H R' x H' d l g e y => by
    obtain ⟨rfl, k, v, e2, rfl⟩ := y
    exact ⟨R', .refl _ _, key_rep1 (map_at hm e (zip_fst e2))⟩
  sp := fun S H R' l g => by
    have hlk : ks.length = kk.length := by simpa using congrArg List.length hm
    exact ⟨g.zh _ _ (l.z _ _ z), by rw [List.length_zip]; omega⟩
theorem jw_keysT {a : Addr} {od : PySem.Obj} {kk : List (List L2.Key)} {ws : List V} {ks : List D} (z : R.Z a = some (.frz od (.dT (kk.zip ws)))) (hl : kk.length = ws.length) (hm : ks.map D.keyT = kk.map some) : JW K R (Itkt a od (kk.zip ws)) ks where
  go := fun i S H R' l g hi => by
    have hlk : ks.length = kk.length := by simpa using congrArg List.length hm
    exact ⟨g.zh _ _ (l.z _ _ z), by rw [List.length_zip]; omega⟩
  yl := fun i S H R' x H' d l g e y => by
    obtain ⟨rfl, k, v, b, e2, rfl, eb⟩ := y
    refine ⟨R'.tellT H' [b], Gw.tellT g.zh (fun c m => ?_), ?_⟩
    · rw [List.mem_singleton.mp m]; exact ⟨_, eb⟩
    · have h1 := map_at hm e (zip_fst e2)
      cases d <;> simp [D.keyT] at h1
      refine ⟨b, k.map kV, rfl, ?_, keys_rep h1⟩
      show (if b ∈ [b] then H' b else R'.Z b) = _
      rw [if_pos (by simp)]
      exact eb
  sp := fun S H R' l g => by
    have hlk : ks.length = kk.length := by simpa using congrArg List.length hm
    exact ⟨g.zh _ _ (l.z _ _ z), by rw [List.length_zip]; omega⟩
end
/-- the keys of a dict that is held alone -/
def iDc (a : Den) : IDen := fun ε S => do
  let (r, ε1, S1) ← a ε S
  let (_, ks, _, ε2) ← heldD r ε1
  .ok (ks, ε2, S1)
section
variable {X : Cx} {cl : Nat → Addr} {e k v tg : Expr} {Ea Ek Ev : Den} {pos : Pos}
theorem iv_dct (h : PE X e (tOf (kx X cl) Ea)) : PI X tg e (iOf (kx X cl) (iDc Ea)) := by
  refine ⟨fun pins s σ H C I hh => ?_⟩
  obtain ⟨ε, S, R, ω, ds, ε', S', he, sr, k⟩ := hh
  obtain ⟨⟨r, ε1, S1⟩, e1, he⟩ := bind_ok he
  obtain ⟨⟨t, ks, vs, ε2⟩, e2, he⟩ := bind_ok he
  cases he
  refine thn (h.run pins s σ H (fun v H1 => ∃ R1 ω1, Ex R ω H R1 ω1 H1 ∧ SR (kx X cl) R1 ω1 ε1 S' σ H1 ∧ RVR (kx X cl) ω H R1 ω1 H1 σ r v) I ⟨ε, S, R, ω, r, ε1, S', e1, sr, fun v1 R1 ω1 H1 x1 s1 p1 => ⟨R1, ω1, x1, s1, p1⟩⟩) fun u s1 ⟨x, H1, I1, rx, R1, ω1, x1, sr1, p1⟩ => ?_
  obtain ⟨a, o, rfl, ho, q, lk⟩ := p1.lock sr1 x1 e2
  obtain rfl : u = .ref a := rx
  obtain ⟨ws, rs, ⟨rfl, kk, rfl, hl, hm⟩ | ⟨rfl, kk, rfl, hl, hm⟩⟩ := q
  · obtain ⟨od, I2⟩ := I1.lock ho True.intro
    obtain ⟨ω2, le, x2, s2⟩ := lk od
    obtain ⟨hs, hgd, hx, es, ep, vs', hdt, hsz, kv, hm'⟩ := I2.frzK upd_same
    refine iter_keys hs hgd hx hdt (pi_one (tk := s1.toks) I2 _ (turn_keys _ hdt) ⟨_, Heap.get?_push_size _ rfl, rfl, ?_⟩ (k _ _ ω2 _ x2 s2 (jw_keysK tell_at hl hm)))
    rw [hsz]; rfl
  · obtain ⟨od, I2⟩ := I1.lock ho True.intro
    obtain ⟨ω2, le, x2, s2⟩ := lk od
    obtain ⟨hs, hgd, hx, es, ep, hdt, hsz, ent⟩ := I2.frzT upd_same
    refine iter_keys hs hgd hx hdt (pi_one (tk := s1.toks) I2 _ (turn_keysT _ hdt) ⟨_, Heap.get?_push_size _ rfl, rfl, ?_⟩ (k _ _ ω2 _ x2 s2 (jw_keysT tell_at hl hm)))
    rw [hsz]; rfl
def disp1Q (p : Addr) (Q : VK) : List (V × V) → Hp → Prop
  | [(x, y)], H2 => H2 p = some (.dT []) ∧ ∃ b kk, x = .ref b ∧ H2 b = some (.tup (kk.map kV)) ∧ Q (.ref p) (upd H2 p (.dT [(kk, y)]))
  | _, _ => False
def tDisp1 (tk tv : TE) : TE := fun σ H Q => ∀ p, H p = none → tPairs [(tk, tv)] σ (upd H p (.dT [])) (disp1Q p Q)
theorem pe_disp1T {tk tv : TE} (hu : X.A.units + 1 < cLine) (hk : PE X k tk) (hv : PE X v tv) : PE X (.Dict [some k] [v] pos) (tDisp1 tk tv) := by
  refine ⟨fun pins s σ H Q I q => ?_⟩
  have hn := I.hok.fresh (Nat.le_refl s.heap.objs.size)
  have I1 := I.laid (a := s.heap.objs.size) (o := .dT []) (h' := s.heap.push { cls := .type "dict", data := .dict #[] }) (t' := s.toks) (fun _ _ q => Heap.get?_push_of_some _ q) (Nat.le_refl _) (dt_empty s.heap I.big)
  refine wpAny_Dict_any (by rfl) rfl (by simp) (by simp) ?_
  refine thn ((pps_cons (pos := pos) hk hv pps_nil).run pins _ σ _ (disp1Q s.heap.objs.size Q) I1 (q _ hn)) fun ws s2 ⟨ps, H2, I2, rel, q2⟩ => ?_
  match ps, rel, q2 with
  | [(x, y)], rel, q2 =>
  obtain ⟨e, b, kk, rfl, eb, q2⟩ := q2
  cases rel with
  | @cons _ z _ _ r1 r2 =>
  cases r2
  obtain ⟨z1, z2⟩ := z
  obtain rfl : z1 = Value.ref b := r1.1
  have ry : RelV y z2 := r1.2
  obtain ⟨z, hd, xs, rel, dd⟩ := dt_of I2.hok e
  cases rel
  unfold storeAll
  rw [List.forIn_cons]
  refine wpAny_bind (wpAny_bind (wpAny_dictSet_heap (hsz := by simp) (show X.A.units < cLine by omega) (key_of I2.hok eb) dd fun h' dd' hs => wpAny_pure ?_))
  show wpAny _ _ (forIn [] PUnit.unit _) _ _ _
  rw [List.forIn_nil]
  refine wpAny_pure ?_
  obtain ⟨ob, es, ep, hq, h2, h3, h4, _, h5⟩ := dd'
  refine ⟨.ref s.heap.objs.size, _, d_write I2 (by rw [e]; exact True.intro) hs ⟨ob, hq⟩ (ob := .dT [(kk, y)]) ⟨by simp [sizeLine_is], hd, _, (L2.KT.put (Paired.nil : L2.KT H2 [] []) kk eb ry).keeps fun c ys ec => ?_, ob, es, ep, hq, h2, h3, h4, h5⟩, rfl, q2⟩
  rw [upd_ne (ne_of ec e (fun z => nomatch z))]
  exact ec
/-- {k: v} -/
def eDct1 (k v : Den) : Den := fun ε S => do
  let (rk, ε1, S1) ← k ε S
  let (y, ε2) ← rk.fix ε1
  let (rv, ε3, S2) ← v ε2 S1
  let (d, ε4) ← rv.fix ε3
  if isKey true y = true then .ok (.fr (.dct true [y] [d]), ε4, S2) else .no
theorem g_dct1 (hu : X.A.units + 1 < cLine) (hk : PE X k (tOf (kx X cl) Ek)) (hv : PE X v (tOf (kx X cl) Ev)) : PE X (.Dict [some k] [v] pos) (tOf (kx X cl) (eDct1 Ek Ev)) := by
  refine PE.im (pe_disp1T hu hk hv) fun σ H Q hh => ?_
  obtain ⟨ε, S, R, ω, rv, ε', S', he, s, k⟩ := hh
  obtain ⟨⟨r1, ε1, S1⟩, e1, he⟩ := bind_ok he
  obtain ⟨⟨y, ε2⟩, e2, he⟩ := bind_ok he
  obtain ⟨⟨r3, ε3, S3⟩, e3, he⟩ := bind_ok he
  obtain ⟨⟨d, ε4⟩, e4, he⟩ := bind_ok he
  dsimp only at he
  split at he
  case isFalse => cases he
  rename_i hk
  cases he
  intro p np
  have g0 : Gw R H R (upd H p (.dT [])) := Gw.new np
  have x0 := g0.ex ω
  have s0 := g0.sr s
  have a0 := Apart.new s np
  refine ⟨ε, S, R, ω, r1, ε1, S1, e1, s0, fun v1 R1 ω1 H1 x1 s1 p1 => ?_⟩
  obtain ⟨R2, ω2, x2, s2, p2⟩ := p1.fix s1 x1 e2
  refine ⟨ε2, S1, R2, ω2, r3, ε3, _, e3, s2, fun v3 R3 ω3 H3 x3 s3 p3 => ?_⟩
  obtain ⟨R4, ω4, x4, s4, p4⟩ := p3.fix s3 x3 e4
  have x5 := x2.trans x4
  obtain ⟨ap, hp⟩ := a0.keepO upd_same (fun vs => by simp) x5
  obtain ⟨kk, ek⟩ := Option.isSome_iff_exists.mp (show y.keyT.isSome = true from hk)
  obtain ⟨b, rfl, eb⟩ := keyT_val (H := H3) s4.g ek (.inl (Rep.mono x4.le _ _ p2))
  refine ⟨hp, b, kk, rfl, eb, ?_⟩
  refine k _ R4 ω4 _ ((x0.trans x5).other np) (s4.other ap.z ap.n ap.m) ?_
  exact ⟨p, _, rfl, upd_same, ⟨[v3], Reps.one p4, .inr ⟨rfl, [kk], rfl, rfl, by simp [ek]⟩⟩, ap.z, ap.n, ap.m, .inl np⟩
def rSumT (K : PySem.W.Frag) : List V → Hp → VK → Prop := fun vs H Q => ∃ (a : Addr) (ns : List Int), vs = [V.ref a] ∧ SqT K H a (ns.map V.int) ∧ Q (.int ns.sum) H
theorem cr_sumT (hc : X.calm = true) : CallR X (.builtin "sum") (rSumT X.K) := by
  intro pins s σ H vs us Q I r h
  obtain ⟨a, ns, rfl, hs, q⟩ := h
  obtain ⟨its, rv, hl, _⟩ := I.tuple hs
  rw [Vals.ref1 r]
  have hi : IntsAre its ns := rv.ints
  have hl : s.heap.IsTuple a its.toArray := hl
  obtain ⟨xs, hx⟩ := hi.allInts.items
  have hn : numsOf its.toArray.toList = ns := by rw [show its.toArray.toList = its from rfl, hi.numsOf]
  rw [hx] at hl hn
  rw [nums_intItems] at hn
  refine PySem.W.ktm_sumG (I.ok.hd hc) hl fun h' tk t' hk => ⟨.int ns.sum, H, I.kept hk, ⟨t', ?_⟩, q⟩
  rw [preSum_eq, List.take_of_length_le (by simp), hn]
def pSumT (x : D) (_ : Store) : Rs RV := match x with
  | .tup ds => match intsOf ds with | some ns => .ok (.pl (.int ns.sum)) | none => .no
  | _ => .no
theorem ok_sumT : UnOk (kx X cl) pSumT (fun x H Q => rSumT X.K [x] H Q) := by
  intro x S rv v R H Q e g rx k
  unfold pSumT at e
  split at e
  · split at e
    · rename_i ns hn
      cases e
      have hd := intsOf_eq hn
      subst hd
      rcases rx with rx | ⟨a, o, rfl, ho, c⟩
      · obtain ⟨a, vs, rfl, z, rs⟩ := rx
        cases rs.ints
        exact ⟨a, ns, rfl, ZT.sq z g, res_pl k rfl⟩
      · exact c.elim
    · cases e
  · cases e
def pSumA : D → Store → Rs RV := pIte isTp pSumT pSum
@[simp] theorem y_sumA_lst {ds : List D} {S : Store} : pSumA (.lst ds) S = pSum (.lst ds) S := by simp [pSumA, pIte, isTp]
@[simp] theorem y_sumA_tup {ds : List D} {S : Store} : pSumA (.tup ds) S = pSumT (.tup ds) S := by simp [pSumA, pIte, isTp]
theorem g_sumA {a : Expr} {p pos : Pos} (hc : X.calm = true) (hg : Gl X "sum") (hm : X.mg "sum" = none) (ha : PE X a (tOf (kx X cl) Ea)) (na : starEach [a] X.env = (false, eval a X.env) :: starEach [] X.env := by rfl) :
    PE X (.Call (.Name "sum" p) [a] [] pos) (tOf (kx X cl) (eUn pSumA Ea)) := g_b1 (CallR.or (cr_sumT hc) (cr_sum hc)) (ok_ite ok_sumT ok_sum) bt_sum hg hm ha (he := na)
end
end Mp

namespace Mp
open PySem PySem.Spec PyProof.Rows L2
section
variable {X : Cx} {pins : List (Addr × PySem.Obj)} {σ : L2.St} {H : Hp} {s : Shared} {d : Addr} {o : PySem.Obj}
theorem frzT2 {kvs : List (List L2.Key × V)} (I : Inv X pins σ H s) (h : H d = some (.frz o (.dT kvs))) :
    (d == sysModules) = false ∧ s.heap.get? d = some o ∧ o.ExactDict ∧ ∃ (es : Array DictEntry) (ep : Nat), o.data = .dict es ep ∧ es.size = kvs.length ∧
      ∀ (i : Nat) (k : List L2.Key) (v : V), kvs[i]? = some (k, v) → ∃ (en : DictEntry) (q : Addr), es[i]? = some en ∧ en.key = .ref q ∧ H q = some (.tup (k.map kV)) ∧ RelV v en.val := by
  obtain ⟨hd, z, hs, xs, pr, o', es, ep, ho, hx, hdt, he, _⟩ := I.hok d _ h
  rw [hd] at ho
  cases ho
  refine ⟨hs, hd, hx, es, ep, hdt, ?_, fun i k v e => ?_⟩
  · have l1 : es.size = xs.length := size_of_entries he
    have l2 : kvs.length = xs.length := Paired.length pr
    omega
  · obtain ⟨b, hb, e1, e2, e3⟩ := L2.paired_get pr e
    have q := entry_at he i
    rw [hb] at q
    exact ⟨_, b.2.1, q, rfl, e2, e3⟩
end
/-- the pairs, each a new tuple of the key's own tuple and the value -/
def ItiT (d : Addr) (o : PySem.Obj) (kvs : List (List L2.Key × V)) : It :=
  ⟨fun i H => H d = some (.frz o (.dT kvs)) ∧ i < kvs.length, fun i H x H' => ∃ (T : Addr) (k : List L2.Key) (v : V) (q : Addr), kvs[i]? = some (k, v) ∧ x = .ref T ∧ H T = none ∧ H q = some (.tup (k.map kV)) ∧ H' = upd H T (.tup [.ref q, v]), fun i H => H d = some (.frz o (.dT kvs)) ∧ kvs.length ≤ i⟩
theorem turn_itemsT {P : Program} {w : World} {K : PySem.W.Frag} {d : Addr} {o : PySem.Obj} {es : Array DictEntry} {ep : Nat} {kvs : List (List L2.Key × V)} {elts : List Expr} {kk : Nat} {tpos : Pos} (it : Addr) (hod : o.data = .dict es ep) :
    Turn P w K (.Tuple elts kk tpos) (ItiT d o kvs) [it] it (fun i h => ∃ ok ov, IsItemIter h it d i kvs.length ep ok ov) where
  mem := by simp
  obj := fun i h st b hb => by
    have e : b = it := by simpa using hb
    subst e
    obtain ⟨ok, ov, e⟩ := st
    exact ⟨_, e, fun v z => nomatch z⟩
  keep := fun i h h' st k => let ⟨ok, ov, e⟩ := st; ⟨ok, ov, k it (by simp) _ e⟩
  item := by
    intro X hP hw hK hc i pins s σ H E I hf st hg
    subst hP hw hK
    obtain ⟨hd, hi⟩ := hg
    obtain ⟨hs, hgd, hx, es', ep', hdt, hsz, ent⟩ := frzT2 I hd
    obtain ⟨rfl, rfl⟩ := dict_ep hod hdt
    obtain ⟨⟨k, v⟩, hkv⟩ : ∃ p, kvs[i]? = some p := ⟨kvs[i], List.getElem?_eq_getElem hi⟩
    obtain ⟨en, q, hen, hkey, hq, rv⟩ := ent i k v hkv
    obtain ⟨ok, ov, he⟩ := st
    rw [← hsz] at he
    have hlt : it < s.heap.objs.size := Heap.lt_size he
    have hie : i < es'.size := by omega
    have een : es'[i] = en := by rw [Array.getElem?_eq_getElem hie] at hen; exact Option.some.inj hen
    refine DT.nextI he ⟨o, hgd, hx, hdt⟩ hie fun h' ho hT hz hk => ?_
    rw [een] at ho hT
    refine ⟨_, rfl, wpAny_letOwnedTupleGo_items (s := { s with heap := h' }) ho fun h'' he' sb => ?_⟩
    have hT2 : h''.get? s.heap.objs.size = some { cls := .type "tuple", data := .seq #[en.key, en.val] } := (sb.2 _ (Nat.ne_of_gt hlt)).trans hT
    have new : ObjOk X.prog X.w (upd H s.heap.objs.size (.tup [.ref q, v])) h'' s.heap.objs.size (.tup [.ref q, v]) :=
      ⟨by show 2 ≤ sizeLine; decide, [en.key, en.val], .cons (show RelV (.ref q) en.key from hkey) (.cons rv .nil), ⟨_, hT2, rfl, _, rfl⟩⟩
    have I1 : Inv X pins σ (upd H s.heap.objs.size (.tup [.ref q, v])) { s with heap := h'' } :=
      I.turnedNew (t' := s.toks) (ch := [it]) (fun b ob hb e => (sb.2 b (by simpa using hb)).trans (hk b ob (by simpa using hb) e)) hf (Nat.le_refl _) new
    refine ⟨.ref s.heap.objs.size, _, I1, rfl, ⟨_, k, v, q, hkv, rfl, I.hok.fresh (Nat.le_refl _), hq, rfl⟩, ⟨en.key, en.val, ?_⟩, fun b hb => ?_⟩
    · rw [← hsz]; exact he'
    · have e : b = it := by simpa using hb
      rw [e, upd_ne (Nat.ne_of_lt hlt)]
      exact (hf it (by simp)).1
  done := by
    intro X hP hw hK hc i pins s σ H E I hf st hg
    subst hP hw hK
    obtain ⟨hd, hi⟩ := hg
    obtain ⟨f0, f1, f2, f3, f4, f5⟩ := hf it (by simp)
    obtain ⟨hs, hgd, hx, es', ep', hdt, hsz, ent⟩ := frzT2 I hd
    obtain ⟨rfl, rfl⟩ := dict_ep hod hdt
    obtain ⟨ok, ov, he⟩ := st
    rw [← hsz] at he
    exact DT.endI (I.ok.hd hc) he ⟨o, hgd, hx, hdt⟩ (by omega) fun h' eb => ⟨rfl, I.turned (t' := s.toks) (fun b ob hb e => eb b ob hb e) f0 f1 f3 f4 f5⟩
  self := fun A i s Q E st h => let ⟨_, _, e⟩ := st; PySem.W.kcp_self e h
section
variable {K : Kc} {R : Rc}
theorem zip_snd {α β : Type} {a : List α} {b : List β} {i : Nat} {x : α} {y : β} (e : (a.zip b)[i]? = some (x, y)) : b[i]? = some y := by
  rw [List.getElem?_zip_eq_some] at e
  exact e.2
theorem zipItems_get : ∀ {ks vs : List D} {i : Nat} {d : D}, (zipItems ks vs)[i]? = some d → ∃ x y, ks[i]? = some x ∧ vs[i]? = some y ∧ d = .tup [x, y] := by
  intro ks vs i d h
  unfold zipItems at h
  obtain ⟨x, y, h1, h2, h3⟩ := List.getElem?_zipWith_eq_some.mp h
  exact ⟨x, y, h1, h2, h3.symm⟩
theorem zipItems_len {ks vs : List D} (h : ks.length = vs.length) : (zipItems ks vs).length = ks.length := by
  unfold zipItems; simp [h]
theorem jw_itemsT {a : Addr} {od : PySem.Obj} {kk : List (List L2.Key)} {ws : List V} {ks vs : List D} (z : R.Z a = some (.frz od (.dT (kk.zip ws)))) (hl : kk.length = ws.length) (hm : ks.map D.keyT = kk.map some) (rs : Reps K R vs ws) : JW K R (ItiT a od (kk.zip ws)) (zipItems ks vs) where
  go := fun i S H R' l g hi => by
    have hlk : ks.length = kk.length := by simpa using congrArg List.length hm
    have hv := rs.length
    rw [zipItems_len (by omega)] at hi
    exact ⟨g.zh _ _ (l.z _ _ z), by rw [List.length_zip]; omega⟩
  yl := fun i S H R' x H' d l g e y => by
    obtain ⟨T, k, v, b, e2, rfl, hT, eb, rfl⟩ := y
    obtain ⟨x, y, e3, e4, rfl⟩ := zipItems_get e
    have n : R'.Z T = none := g.free hT
    have nb : b ≠ T := fun q => by rw [q, hT] at eb; cases eb
    have g1 : Gw R' H (R'.tellT H [b]) H := Gw.tellT g.zh fun c m => by
      rw [List.mem_singleton.mp m]; exact ⟨_, eb⟩
    have n1 : (R'.tellT H [b]).Z T = none := by
      show (if T ∈ [b] then H T else R'.Z T) = none
      rw [if_neg (by simpa using fun q : T = b => nb q.symm)]; exact n
    have g2 := g1.trans (Gw.tell (o := .tup [.ref b, v]) hT n1)
    refine ⟨_, g2, ?_⟩
    have h1 := map_at hm e3 (zip_fst e2)
    cases x <;> simp [D.keyT] at h1
    have zb : ((R'.tellT H [b]).tell T (.tup [.ref b, v])).Z b = some (.tup (k.map kV)) := by
      rw [tell_ne nb]
      show (if b ∈ [b] then H b else R'.Z b) = _
      rw [if_pos (by simp)]
      exact eb
    have rv : Rep K ((R'.tellT H [b]).tell T (.tup [.ref b, v])) y v := by
      obtain ⟨v', e5, r5⟩ := Reps.get rs e4
      rw [zip_snd e2] at e5
      cases e5
      exact r5.mono (l.trans g2.le)
    exact ⟨T, [.ref b, v], rfl, tell_at, ⟨.ref b, _, rfl, ⟨b, k.map kV, rfl, zb, keys_rep h1⟩, v, _, rfl, rv, rfl⟩⟩
  sp := fun S H R' l g => by
    have hlk : ks.length = kk.length := by simpa using congrArg List.length hm
    have hv := rs.length
    refine ⟨g.zh _ _ (l.z _ _ z), ?_⟩
    rw [zipItems_len (by omega), List.length_zip]; omega
end
/-- the items of a dict that is held alone -/
def iItms (a : Den) : IDen := fun ε S => do
  let (r, ε1, S1) ← a ε S
  let (t, ks, vs, ε2) ← heldD r ε1
  if t then .ok (zipItems ks vs, ε2, S1) else .no
section
variable {X : Cx} {cl : Nat → Addr} {e : Expr} {Ea : Den} {apos cpos tpos : Pos} {elts : List Expr} {kk : Nat}
theorem iv_items (h : PE X e (tOf (kx X cl) Ea)) (hbase : attributeBase e "items" X.env (eval e X.env) = eval e X.env := by rfl) (hline : (apos.endLine == cpos.line) = true := by rfl) :
    PI X (.Tuple elts kk tpos) (.Call (.Attribute e "items" apos) [] [] cpos) (iOf (kx X cl) (iItms Ea)) := by
  refine ⟨fun pins s σ H C I hh => ?_⟩
  obtain ⟨ε, S, R, ω, ds, ε', S', he, sr, k⟩ := hh
  obtain ⟨⟨r, ε1, S1⟩, e1, he⟩ := bind_ok he
  obtain ⟨⟨t, ks, vs, ε2⟩, e2, he⟩ := bind_ok he
  dsimp only at he
  split at he
  case isFalse => cases he
  rename_i ht
  subst ht
  cases he
  refine wpAny_Call_method (T := "dict") (id := "dict.items") hbase rfl hline F.plainAttrs_dict F.slot_dict_items F.type_dict_items (thn (h.run pins s σ H (fun v H1 => ∃ R1 ω1, Ex R ω H R1 ω1 H1 ∧ SR (kx X cl) R1 ω1 ε1 S' σ H1 ∧ RVR (kx X cl) ω H R1 ω1 H1 σ r v) I ⟨ε, S, R, ω, r, ε1, S', e1, sr, fun v1 R1 ω1 H1 x1 s1 p1 => ⟨R1, ω1, x1, s1, p1⟩⟩) fun u s1 ⟨x, H1, I1, rx, R1, ω1, x1, sr1, p1⟩ => ?_)
  obtain ⟨a, o, rfl, ho, q, lk⟩ := p1.lock sr1 x1 e2
  obtain rfl : u = .ref a := rx
  obtain ⟨ws, rs, ⟨ht, _⟩ | ⟨_, kk2, rfl, hl, hm⟩⟩ := q
  · cases ht
  obtain ⟨od, I2⟩ := I1.lock ho True.intro
  obtain ⟨ω2, le, x2, s2⟩ := lk od
  obtain ⟨hs, hgd, hx, es, ep, hdt, hsz, ent⟩ := frzT2 I2 upd_same
  have raw : DT.Raw s1.heap a es ep := ⟨od, hgd, hx, hdt⟩
  refine ⟨raw.typeIs, fun b eb => (by cases eb; exact ⟨od, hgd, hx.2.1⟩), ?_⟩
  have I3 : Inv X pins σ _ { s1 with heap := s1.heap.push { cls := .type "dict_items", data := .fields #[.ref a] } } := I2.kept (t' := s1.toks) fun b ob q => Heap.get?_push_of_some _ q
  have fin : wpAny (model X.prog X.w) X.A (pyIter (.ref s1.heap.objs.size)) (PIE X pins σ (.Tuple elts kk tpos) C) X.xe { s1 with heap := s1.heap.push { cls := .type "dict_items", data := .fields #[.ref a] } } := by
    refine DT.iterI (d := a) ⟨_, Heap.get?_push_size _ rfl, rfl, rfl⟩ (raw.push _) (pi_one (tk := s1.toks) I3 _ (turn_itemsT _ hdt) ⟨.none, .none, ?_⟩ (k _ _ ω2 _ x2 s2 (jw_itemsT tell_at hl hm (rs.mono le))))
    rw [← hsz]
    exact Heap.get?_push_size _ rfl
  show wpAny _ _ (callWith cpos (.builtin "dict.items") [.ref a] [] []) _ X.xe s1
  exact method_meetsIn F.slot_dict_items F.entry_dict_items rfl (PySem.evalArgs_none ⟨rfl, raw.typeIs, F.args_dict_items_1 _, _, DT.meetsItems (es := es) (ep := ep) hs, raw, fin⟩)
end
end Mp

namespace K56
open Mp

/-- is_integer -/
def m0 (F : CallI) : SDen := sRet (eAnd (eUn (pIsT "int") (eVar 0)) (eNot (eUn (pIsT "bool") (eVar 0))))
/-- is_whole -/
def m1 (F : CallI) : SDen := sRet (eAnd (eCall F 0 (aCons (eVar 0) (aNil))) (eChain (pLeA) (pLeA) (eVar 1) (eVar 0) (eVar 2)))
/-- need_whole -/
def m2 (F : CallI) : SDen := sIf (cNot (cVal (eCall F 1 (aCons (eVar 0) (aCons (eVar 1) (aCons (eVar 2) (aNil))))))) (sNo) (sNil)
/-- is_tuple_of -/
def m3 (F : CallI) : SDen := sRet (eAnd (eUn (pIsT "tuple") (eVar 0)) (eChain (pLeA) (pLeA) (eVar 1) (eUn pLen (eVar 0)) (eVar 2)))
/-- fits_kind -/
def m4 (F : CallI) : SDen := sSeq (sIf (cVal (eUn (pIsT "str") (eVar 0))) (sRet (eBin (pIn false) (eVar 0) (eC (.ktup [.str [116, 111, 119, 101, 114], .str [114, 117, 110, 110, 101, 114], .str [113, 117, 101, 101, 110], .str [107, 105, 110, 103]])))) (sNil)) (sRet (eAnd (eCall F 3 (aCons (eVar 0) (aCons (eC (.int 2)) (aCons (eC (.int 2)) (aNil))))) (eAnd (eCall F 1 (aCons (eBin pIdx (eVar 0) (eC (.int 0))) (aCons (eC (.int 1)) (aCons (eC (.int 12)) (aNil))))) (eCall F 1 (aCons (eBin pIdx (eVar 0) (eC (.int 1))) (aCons (eC (.int 0)) (aCons (eBin pIdx (eVar 0) (eC (.int 0))) (aNil))))))))
/-- fits_leaper -/
def m5 (F : CallI) : SDen := sRet (eAnd (eUn (pIsT "tuple") (eVar 0)) (eCall F 4 (aCons (eVar 0) (aNil))))
/-- need_leaper -/
def m6 (F : CallI) : SDen := sIf (cNot (cVal (eCall F 5 (aCons (eVar 0) (aNil))))) (sNo) (sNil)
def m7e1 (F : CallI) : Den := eCall F 1 (aCons (eVar 2) (aCons (eUn pNeg (eVar 1)) (aCons (eVar 1) (aNil))))
/-- fits_target -/
def m7 (F : CallI) : SDen := sRet (eAnd (eCall F 3 (aCons (eVar 0) (aCons (eC (.int 2)) (aCons (eC (.int 2)) (aNil))))) (eUn pAll (eComp [2] (iSeq (eVar 0)) (tName 2) (cYes) (m7e1 F))))
/-- need_target -/
def m8 (F : CallI) : SDen := sIf (cNot (cVal (eCall F 7 (aCons (eVar 0) (aCons (eVar 1) (aNil)))))) (sNo) (sNil)
/-- need_leaps -/
def m9 (F : CallI) : SDen := sDrop (eCall F 2 (aCons (eVar 0) (aCons (eC (.int 0)) (aCons (eC (.int 12)) (aNil)))))
def m10b1 (F : CallI) : SDen := sPutD (eVar 3) (eTup (aCons (eBin pMul (eVar 6) (eVar 4)) (aCons (eBin pMul (eVar 7) (eVar 5)) (aNil)))) (eC (.bl true))
def m10b2 (F : CallI) : SDen := sFor (tName 7) (iSeq (eTup (aCons (eC (.int 1)) (aCons (eUn pNeg (eC (.int 1))) (aNil))))) (m10b1 F)
def m10b3 (F : CallI) : SDen := sFor (tName 6) (iSeq (eTup (aCons (eC (.int 1)) (aCons (eUn pNeg (eC (.int 1))) (aNil))))) (m10b2 F)
/-- leaps_in -/
def m10 (F : CallI) : SDen := sSeq (sAsg (tTup 2 (tsCons (tName 1) (tsCons (tName 2) (tsNil)))) (eVar 0)) (sSeq (sOwn 3 (eDct true)) (sSeq (sFor (tTup 2 (tsCons (tName 4) (tsCons (tName 5) (tsNil)))) (iSeq (eTup (aCons (eTup (aCons (eVar 1) (aCons (eVar 2) (aNil)))) (aCons (eTup (aCons (eVar 2) (aCons (eVar 1) (aNil)))) (aNil))))) (m10b3 F)) (sRet (eUn pSortA (eVar 3)))))
def m11e1 (F : CallI) : Den := eBin pSub (eVar 5) (eBin pMul (eVar 4) (eVar 6))
def m11w1 (F : CallI) : CDen := cVal (eBin (pNe) (eBin pIdx (eVar 3) (eC (.int 0))) (eC (.int 0)))
def m11b1 (F : CallI) : SDen := sSeq (sSet 4 (eBin pFdiv (eBin pIdx (eVar 2) (eC (.int 0))) (eBin pIdx (eVar 3) (eC (.int 0))))) (sPar2 false 2 false 3 (eVar 3) (eUn pTuple (eComp [5, 6] (iZip (aCons (eVar 2) (aCons (eVar 3) (aNil)))) (tTup 2 (tsCons (tName 5) (tsCons (tName 6) (tsNil)))) (cYes) (m11e1 F))))
/-- joined -/
def m11 (F : CallI) : SDen := sSeq (sPar2 false 2 false 3 (eTup (aCons (eVar 0) (aCons (eC (.int 1)) (aCons (eC (.int 0)) (aNil))))) (eTup (aCons (eVar 1) (aCons (eC (.int 0)) (aCons (eC (.int 1)) (aNil)))))) (sSeq (sWhile F (m11w1 F) (m11b1 F)) (sRet (eVar 2)))
/-- is_halving_in -/
def m12 (F : CallI) : SDen := sSeq (sSet 1 (eBin pIdx (eCall F 11 (aCons (eBin pIdx (eVar 0) (eC (.int 0))) (aCons (eBin pIdx (eVar 0) (eC (.int 1))) (aNil)))) (eC (.int 0)))) (sRet (eAnd (eBin (pEq) (eBin pMod (eBin pFdiv (eBin pIdx (eVar 0) (eC (.int 0))) (eVar 1)) (eC (.int 2))) (eC (.int 1))) (eBin (pEq) (eBin pMod (eBin pFdiv (eBin pIdx (eVar 0) (eC (.int 1))) (eVar 1)) (eC (.int 2))) (eC (.int 1)))))
/-- comes_to -/
def m13 (F : CallI) : SDen := sSeq (sSet 2 (eBin pIdx (eCall F 11 (aCons (eBin pIdx (eVar 0) (eC (.int 0))) (aCons (eBin pIdx (eVar 0) (eC (.int 1))) (aNil)))) (eC (.int 0)))) (sSeq (sIf (cOr (cVal (eBin (pNe) (eBin pMod (eBin pIdx (eVar 1) (eC (.int 0))) (eVar 2)) (eC (.int 0)))) (cVal (eBin (pNe) (eBin pMod (eBin pIdx (eVar 1) (eC (.int 1))) (eVar 2)) (eC (.int 0))))) (sRet (eC (.bl false))) (sNil)) (sRet (eOr (eNot (eCall F 12 (aCons (eVar 0) (aNil)))) (eBin (pEq) (eBin pMod (eBin pAdd (eBin pFdiv (eBin pIdx (eVar 1) (eC (.int 0))) (eVar 2)) (eBin pFdiv (eBin pIdx (eVar 1) (eC (.int 1))) (eVar 2))) (eC (.int 2))) (eC (.int 0))))))
/-- shared -/
def m14 (F : CallI) : SDen := sSeq (sAsg (tTup 3 (tsCons (tName 2) (tsCons (tName 3) (tsCons (tName 4) (tsNil))))) (eCall F 11 (aCons (eBin pIdx (eVar 1) (eC (.int 0))) (aCons (eBin pIdx (eVar 1) (eC (.int 1))) (aNil))))) (sSeq (sPar2 false 5 false 6 (eBin pFdiv (eBin pIdx (eVar 0) (eC (.int 0))) (eVar 2)) (eBin pFdiv (eBin pIdx (eVar 0) (eC (.int 1))) (eVar 2))) (sRet (eTup (aCons (eBin pMul (eVar 3) (eVar 5)) (aCons (eBin pMul (eVar 4) (eVar 5)) (aCons (eBin pMul (eVar 3) (eVar 6)) (aCons (eBin pMul (eVar 4) (eVar 6)) (aCons (eBin pFdiv (eBin pIdx (eVar 1) (eC (.int 0))) (eVar 2)) (aCons (eBin pFdiv (eBin pIdx (eVar 1) (eC (.int 1))) (eVar 2)) (aNil))))))))))
def m15b1 (F : CallI) : SDen := sSet 3 (eBin pAdd (eVar 3) (eBin pLRg2 (eBin pSub (eBin pFdiv (eVar 4) (eVar 1)) (eC (.int 2))) (eBin pAdd (eBin pFdiv (eVar 4) (eVar 1)) (eC (.int 4)))))
/-- bounds_near -/
def m15 (F : CallI) : SDen := sSeq (sIf (cVal (eBin (pEq) (eVar 1) (eC (.int 0)))) (sRet (eLst (aNil))) (sNil)) (sSeq (sSet 3 (eLst (aNil))) (sSeq (sFor (tName 4) (iSeq (eTup (aCons (eBin pSub (eVar 0) (eVar 2)) (aCons (eBin pAdd (eVar 0) (eVar 2)) (aNil))))) (m15b1 F)) (sRet (eVar 3))))
def m16b1 (F : CallI) : SDen := sSeq (sPar2 false 8 false 9 (eBin pAdd (eVar 2) (eBin pMul (eVar 5) (eVar 7))) (eBin pSub (eVar 3) (eBin pMul (eVar 4) (eVar 7)))) (sIf (cAnd (cVal (eBin (pEq) (eBin pMod (eBin pSub (eVar 0) (eVar 9)) (eC (.int 2))) (eC (.int 0)))) (cVal (eBin (pEq) (eBin pMod (eBin pSub (eVar 1) (eVar 8)) (eC (.int 2))) (eC (.int 0))))) (sSeq (sSet 10 (eBin pAdd (eBin pMax2 (eUn pAbs (eVar 0)) (eUn pAbs (eVar 9))) (eBin pMax2 (eUn pAbs (eVar 1)) (eUn pAbs (eVar 8))))) (sIf (cOr (cVal (eBin (pIs) (eVar 6) (eC .non))) (cVal (eBin (pLtA) (eVar 10) (eBin pIdx (eVar 6) (eC (.int 0)))))) (sSet 6 (eTup (aCons (eVar 10) (aCons (eVar 8) (aCons (eVar 9) (aNil)))))) (sNil))) (sNil))
/-- best_beside -/
def m16 (F : CallI) : SDen := sSeq (sSet 6 (eC .non)) (sSeq (sFor (tName 7) (iSeq (eBin pAdd (eCall F 15 (aCons (eVar 3) (aCons (eVar 4) (aCons (eUn pAbs (eVar 0)) (aNil))))) (eCall F 15 (aCons (eUn pNeg (eVar 2)) (aCons (eVar 5) (aCons (eUn pAbs (eVar 1)) (aNil))))))) (m16b1 F)) (sRet (eVar 6)))
def m17w1 (F : CallI) : CDen := cOr (cVal (eBin (pIs) (eVar 9) (eC .non))) (cVal (eBin (pLtA) (eBin pAdd (eUn pAbs (eBin pAdd (eVar 2) (eBin pMul (eVar 7) (eVar 11)))) (eUn pAbs (eBin pSub (eVar 3) (eBin pMul (eVar 6) (eVar 11))))) (eBin pIdx (eVar 9) (eC (.int 0)))))
def m17b1 (F : CallI) : SDen := sSeq (sPar2 false 12 false 13 (eBin pAdd (eVar 2) (eBin pMul (eVar 7) (eVar 11))) (eBin pSub (eVar 3) (eBin pMul (eVar 6) (eVar 11)))) (sSeq (sSet 14 (eCall F 16 (aCons (eVar 12) (aCons (eVar 13) (aCons (eVar 4) (aCons (eVar 5) (aCons (eVar 6) (aCons (eVar 7) (aNil))))))))) (sSeq (sIf (cAnd (cVal (eBin (pIsNot) (eVar 14) (eC .non))) (cOr (cVal (eBin (pIs) (eVar 9) (eC .non))) (cVal (eBin (pLtA) (eBin pIdx (eVar 14) (eC (.int 0))) (eBin pIdx (eVar 9) (eC (.int 0))))))) (sSet 9 (eTup (aCons (eBin pIdx (eVar 14) (eC (.int 0))) (aCons (eVar 12) (aCons (eVar 13) (aCons (eBin pIdx (eVar 14) (eC (.int 1))) (aCons (eBin pIdx (eVar 14) (eC (.int 2))) (aNil)))))))) (sNil)) (sSet 11 (eBin pAdd (eVar 11) (eVar 10)))))
def m17b2 (F : CallI) : SDen := sSeq (sSet 11 (eIf (cVal (eBin (pEq) (eVar 10) (eC (.int 1)))) (eVar 8) (eBin pSub (eVar 8) (eC (.int 1))))) (sWhile F (m17w1 F) (m17b1 F))
/-- fewest_in -/
def m17 (F : CallI) : SDen := sSeq (sAsg (tTup 6 (tsCons (tName 2) (tsCons (tName 3) (tsCons (tName 4) (tsCons (tName 5) (tsCons (tName 6) (tsCons (tName 7) (tsNil)))))))) (eCall F 14 (aCons (eVar 1) (aCons (eVar 0) (aNil))))) (sSeq (sPar2 false 8 false 9 (eBin pFdiv (eVar 3) (eVar 6)) (eC .non)) (sSeq (sFor (tName 10) (iSeq (eTup (aCons (eC (.int 1)) (aCons (eUn pNeg (eC (.int 1))) (aNil))))) (m17b2 F)) (sRet (eVar 9))))
/-- leaps_of -/
def m18 (F : CallI) : SDen := sSeq (sDrop (eCall F 6 (aCons (eVar 0) (aNil)))) (sRet (eUn pTuple (eCall F 10 (aCons (eVar 0) (aNil)))))
/-- fewest_leaps -/
def m19 (F : CallI) : SDen := sSeq (sDrop (eCall F 6 (aCons (eVar 0) (aNil)))) (sSeq (sDrop (eCall F 8 (aCons (eVar 1) (aCons (eC (.int 100)) (aNil))))) (sRet (eIf (cVal (eCall F 13 (aCons (eVar 0) (aCons (eVar 1) (aNil))))) (eBin pIdx (eCall F 17 (aCons (eVar 0) (aCons (eVar 1) (aNil)))) (eC (.int 0))) (eC .non))))
def m20b1 (F : CallI) : SDen := sSeq (sSet 11 (eTup (aCons (eBin pAdd (eVar 6) (eVar 9)) (aCons (eBin pAdd (eVar 7) (eVar 10)) (aNil))))) (sPutD (eVar 5) (eVar 11) (eBin pAdd (eGet2 (eVar 5) (eVar 11) (eC (.int 0))) (eVar 8)))
def m20b2 (F : CallI) : SDen := sFor (tTup 2 (tsCons (tName 9) (tsCons (tName 10) (tsNil)))) (iSeq (eVar 2)) (m20b1 F)
def m20b3 (F : CallI) : SDen := sSeq (sOwn 5 (eDct true)) (sSeq (sFor (tTup 2 (tsCons (tTup 2 (tsCons (tName 6) (tsCons (tName 7) (tsNil)))) (tsCons (tName 8) (tsNil)))) (iItms (eVar 3)) (m20b2 F)) (sOwn 3 (eVar 5)))
/-- rows_in -/
def m20 (F : CallI) : SDen := sSeq (sPar2 false 2 true 3 (eCall F 10 (aCons (eVar 0) (aNil))) (eDct1 (eTup (aCons (eC (.int 0)) (aCons (eC (.int 0)) (aNil)))) (eC (.int 1)))) (sSeq (sFor (tName 4) (iR1 (aCons (eVar 1) (aNil))) (m20b3 F)) (sRet (eVar 3)))
/-- need_two -/
def m21 (F : CallI) : SDen := sSeq (sDrop (eCall F 6 (aCons (eVar 0) (aNil)))) (sDrop (eCall F 9 (aCons (eVar 1) (aNil))))
/-- count_leap_rows -/
def m22 (F : CallI) : SDen := sSeq (sDrop (eCall F 6 (aCons (eVar 0) (aNil)))) (sSeq (sDrop (eCall F 8 (aCons (eVar 1) (aCons (eC (.int 100)) (aNil))))) (sSeq (sDrop (eCall F 9 (aCons (eVar 2) (aNil)))) (sRet (eGet2 (eCall F 20 (aCons (eVar 0) (aCons (eVar 2) (aNil)))) (eVar 1) (eC (.int 0))))))
/-- count_back_rows -/
def m23 (F : CallI) : SDen := sSeq (sDrop (eCall F 21 (aCons (eVar 0) (aCons (eVar 1) (aNil))))) (sRet (eGet2 (eCall F 20 (aCons (eVar 0) (aCons (eVar 1) (aNil)))) (eTup (aCons (eC (.int 0)) (aCons (eC (.int 0)) (aNil)))) (eC (.int 0))))
/-- _law_cup -/
def m24 (F : CallI) : SDen := sSeq (sSet 1 (eUn pAbs (eBin pIdx (eBin pAdd (eUn pList (eVar 0)) (eLst (aCons (eC (.int 0)) (aNil)))) (eC (.int 0))))) (sRet (eNew (eLst (aCons (eIf (cVal (eBin (pGe) (eVar 1) (eBin pPow (eC (.int 10)) (eC (.int 18))))) (eBin pFdiv (eVar 1) (eC (.int 73))) (eC (.int 0))) (aCons (eBin pAdd (eBin pMod (eUn pInt (eBin pAdd (eBin pMul (eVar 1) (eC (.int 283))) (eC (.int 3907)))) (eC (.int 2077503167))) (eC (.int 167))) (aNil))))))
/-- _law_roll -/
def m25 (F : CallI) : SDen := sSeq (sIf (cVal (eBin (pGt) (eBin pIdx (eVar 0) (eC (.int 0))) (eC (.int 0)))) (sSeq (sSet 2 (eBin pMod (eUn pInt (eBin pIdx (eVar 0) (eC (.int 0)))) (eVar 1))) (sSeq (sPut (eVar 0) (eC (.int 0)) (eBin pFdiv (eBin pIdx (eVar 0) (eC (.int 0))) (eVar 1))) (sRet (eVar 2)))) (sNil)) (sSeq (sPut (eVar 0) (eC (.int 1)) (eBin pMod (eUn pInt (eBin pAdd (eBin pMul (eBin pIdx (eVar 0) (eC (.int 1))) (eC (.int 31051))) (eC (.int 7993)))) (eC (.int 2147483543)))) (sSeq (sSet 3 (eBin pMod (eUn pInt (eBin pMul (eBin pIdx (eVar 0) (eC (.int 1))) (eBin pAdd (eBin pIdx (eVar 0) (eC (.int 1))) (eC (.int 229))))) (eC (.int 2147483587)))) (sRet (eBin pMod (eUn pInt (eBin pFdiv (eVar 3) (eC (.int 821)))) (eVar 1)))))
/-- _law_some -/
def m26 (F : CallI) : SDen := sRet (eBin pIdx (eVar 1) (eCall F 25 (aCons (eVar 0) (aCons (eUn pLen (eVar 1)) (aNil)))))
/-- _law_sort -/
def m27 (F : CallI) : SDen := sSeq (sIf (cOr (cVal (eBin (pIs) (eVar 0) (eC .non))) (cVal (eUn (pIsT "bool") (eVar 0)))) (sRet (eIf (cVal (eBin (pIs) (eVar 0) (eC .non))) (eC (.int 0)) (eC (.int 1)))) (sNil)) (sSeq (sIf (cOr (cVal (eUn (pIsT "int") (eVar 0))) (cVal (eUn (pIsT "str") (eVar 0)))) (sRet (eIf (cVal (eUn (pIsT "int") (eVar 0))) (eC (.int 2)) (eC (.int 3)))) (sNil)) (sRet (eIf (cVal (eUn (pIsT "tuple") (eVar 0))) (eC (.int 4)) (eIf (cVal (eUn (pIsT "list") (eVar 0))) (eC (.int 5)) (eC (.int 6))))))
def m28c1 (F : CallI) : CDen := cNot (cVal (eCall F 28 (aCons (eVar 3) (aCons (eVar 4) (aNil)))))
def m28e1 (F : CallI) : Den := eC (.int 1)
/-- _law_like -/
def m28 (F : CallI) : SDen := sSeq (sSet 2 (eCall F 27 (aCons (eVar 1) (aNil)))) (sSeq (sIf (cOr (cVal (eBin (pNe) (eCall F 27 (aCons (eVar 0) (aNil))) (eVar 2))) (cVal (eBin (pEq) (eVar 2) (eC (.int 6))))) (sRet (eC (.bl false))) (sNil)) (sSeq (sIf (cVal (eBin (pIn false) (eVar 2) (eTup (aCons (eC (.int 4)) (aCons (eC (.int 5)) (aNil)))))) (sRet (eAnd (eBin (pEq) (eUn pLen (eVar 0)) (eUn pLen (eVar 1))) (eBin (pEq) (eComp [3, 4] (iZip (aCons (eVar 0) (aCons (eVar 1) (aNil)))) (tTup 2 (tsCons (tName 3) (tsCons (tName 4) (tsNil)))) (m28c1 F) (m28e1 F)) (eLst (aNil))))) (sNil)) (sRet (eBin (pEq) (eVar 0) (eVar 1)))))
/-- _law_leaper -/
def m29 (F : CallI) : SDen := sSeq (sSet 1 (eBin pAdd (eC (.int 1)) (eCall F 25 (aCons (eVar 0) (aCons (eCall F 26 (aCons (eVar 0) (aCons (eLst (aCons (eC (.int 3)) (aCons (eC (.int 5)) (aCons (eC (.int 12)) (aNil))))) (aNil)))) (aNil)))))) (sRet (eTup (aCons (eVar 1) (aCons (eCall F 25 (aCons (eVar 0) (aCons (eBin pAdd (eVar 1) (eC (.int 1))) (aNil)))) (aNil)))))
/-- _law_leaps -/
def m30 (F : CallI) : SDen := sSeq (sAsg (tTup 2 (tsCons (tName 1) (tsCons (tName 2) (tsNil)))) (eVar 0)) (sRet (eUn pSortSetA (eLst (aCons (eTup (aCons (eVar 1) (aCons (eVar 2) (aNil)))) (aCons (eTup (aCons (eVar 1) (aCons (eBin pSub (eC (.int 0)) (eVar 2)) (aNil)))) (aCons (eTup (aCons (eBin pSub (eC (.int 0)) (eVar 1)) (aCons (eVar 2) (aNil)))) (aCons (eTup (aCons (eBin pSub (eC (.int 0)) (eVar 1)) (aCons (eBin pSub (eC (.int 0)) (eVar 2)) (aNil)))) (aCons (eTup (aCons (eVar 2) (aCons (eVar 1) (aNil)))) (aCons (eTup (aCons (eVar 2) (aCons (eBin pSub (eC (.int 0)) (eVar 1)) (aNil)))) (aCons (eTup (aCons (eBin pSub (eC (.int 0)) (eVar 2)) (aCons (eVar 1) (aNil)))) (aCons (eTup (aCons (eBin pSub (eC (.int 0)) (eVar 2)) (aCons (eBin pSub (eC (.int 0)) (eVar 1)) (aNil)))) (aNil))))))))))))
def m31w1 (F : CallI) : CDen := cVal (eBin (pNe) (eVar 1) (eC (.int 0)))
def m31b1 (F : CallI) : SDen := sPar2 false 0 false 1 (eVar 1) (eBin pMod (eUn pInt (eVar 0)) (eVar 1))
/-- _law_divisor -/
def m31 (F : CallI) : SDen := sSeq (sPar2 false 0 false 1 (eUn pAbs (eVar 0)) (eUn pAbs (eVar 1))) (sSeq (sWhile F (m31w1 F) (m31b1 F)) (sRet (eVar 0)))
/-- _law_comes -/
def m32 (F : CallI) : SDen := sSeq (sSet 2 (eCall F 31 (aCons (eBin pIdx (eVar 0) (eC (.int 0))) (aCons (eBin pIdx (eVar 0) (eC (.int 1))) (aNil))))) (sSeq (sIf (cOr (cVal (eBin (pNe) (eBin pMod (eUn pInt (eBin pIdx (eVar 1) (eC (.int 0)))) (eVar 2)) (eC (.int 0)))) (cVal (eBin (pNe) (eBin pMod (eUn pInt (eBin pIdx (eVar 1) (eC (.int 1)))) (eVar 2)) (eC (.int 0))))) (sRet (eC (.bl false))) (sNil)) (sSeq (sSet 3 (eAnd (eBin (pEq) (eBin pMod (eUn pInt (eBin pFdiv (eBin pIdx (eVar 0) (eC (.int 0))) (eVar 2))) (eC (.int 2))) (eC (.int 1))) (eBin (pEq) (eBin pMod (eUn pInt (eBin pFdiv (eBin pIdx (eVar 0) (eC (.int 1))) (eVar 2))) (eC (.int 2))) (eC (.int 1))))) (sRet (eOr (eNot (eVar 3)) (eBin (pEq) (eBin pMod (eUn pInt (eBin pAdd (eBin pFdiv (eBin pIdx (eVar 1) (eC (.int 0))) (eVar 2)) (eBin pFdiv (eBin pIdx (eVar 1) (eC (.int 1))) (eVar 2)))) (eC (.int 2))) (eC (.int 0)))))))
def m33b1 (F : CallI) : SDen := sSeq (sSet 9 (eTup (aCons (eBin pAdd (eVar 5) (eVar 7)) (aCons (eBin pAdd (eVar 6) (eVar 8)) (aNil))))) (sPutD (eVar 4) (eVar 9) (eBin pAdd (eGet2 (eVar 4) (eVar 9) (eC (.int 0))) (eBin pIdxA (eVar 2) (eTup (aCons (eVar 5) (aCons (eVar 6) (aNil)))))))
def m33b2 (F : CallI) : SDen := sFor (tTup 2 (tsCons (tName 7) (tsCons (tName 8) (tsNil)))) (iSeq (eCall F 30 (aCons (eVar 0) (aNil)))) (m33b1 F)
def m33b3 (F : CallI) : SDen := sSeq (sOwn 4 (eDct true)) (sSeq (sFor (tTup 2 (tsCons (tName 5) (tsCons (tName 6) (tsNil)))) (iDc (eVar 2)) (m33b2 F)) (sOwn 2 (eVar 4)))
/-- _law_rows -/
def m33 (F : CallI) : SDen := sSeq (sOwn 2 (eDct1 (eTup (aCons (eC (.int 0)) (aCons (eC (.int 0)) (aNil)))) (eC (.int 1)))) (sSeq (sFor (tName 3) (iR1 (aCons (eVar 1) (aNil))) (m33b3 F)) (sRet (eVar 2)))
def m34b1 (F : CallI) : SDen := sSet 2 (eUn pInt (eBin pFdiv (eBin pMul (eVar 2) (eBin pSub (eVar 0) (eVar 3))) (eBin pAdd (eVar 3) (eC (.int 1)))))
/-- _law_choose -/
def m34 (F : CallI) : SDen := sSeq (sIf (cOr (cVal (eBin (pLtA) (eVar 1) (eC (.int 0)))) (cVal (eBin (pGt) (eVar 1) (eVar 0)))) (sRet (eC (.int 0))) (sNil)) (sSeq (sSet 2 (eC (.int 1))) (sSeq (sFor (tName 3) (iR1 (aCons (eVar 1) (aNil))) (m34b1 F)) (sRet (eVar 2))))
def m35c1 (F : CallI) : CDen := cAnd (cVal (eBin (pLeA) (eUn pAbs (eBin pIdx (eVar 7) (eC (.int 0)))) (eC (.int 100)))) (cVal (eBin (pLeA) (eUn pAbs (eBin pIdx (eVar 7) (eC (.int 1)))) (eC (.int 100))))
def m35e1 (F : CallI) : Den := eVar 7
def m35b1 (F : CallI) : SDen := sSeq (sSet 7 (eCall F 26 (aCons (eVar 0) (aCons (eVar 5) (aNil))))) (sSeq (sSet 8 (eLst (aCons (eCall F 22 (aCons (eVar 1) (aCons (eVar 7) (aCons (eVar 3) (aNil))))) (aCons (eCall F 22 (aCons (eVar 1) (aCons (eTup (aCons (eBin pIdx (eVar 7) (eC (.int 1))) (aCons (eBin pSub (eC (.int 0)) (eBin pIdx (eVar 7) (eC (.int 0)))) (aNil)))) (aCons (eVar 3) (aNil))))) (aNil))))) (sIf (cOr (cNot (cVal (eCall F 28 (aCons (eVar 8) (aCons (eBin pMul (eLst (aCons (eBin pIdxA (eVar 4) (eVar 7)) (aNil))) (eC (.int 2))) (aNil)))))) (cVal (eBin (pGt) (eCall F 19 (aCons (eVar 1) (aCons (eVar 7) (aNil)))) (eVar 3)))) (sRet (eC (.bl false))) (sNil)))
def m35b2 (F : CallI) : SDen := sSet 9 (eBin pMul (eVar 9) (eUn pLen (eCall F 18 (aCons (eVar 1) (aNil)))))
def m35e2 (F : CallI) : Den := eBin pIdxA (eVar 4) (eVar 11)
def m35e3 (F : CallI) : Den := eGet2 (eVar 10) (eVar 12) (eC (.int 0))
/-- _law_right -/
def m35 (F : CallI) : SDen := sSeq (sSet 3 (eCall F 25 (aCons (eVar 0) (aCons (eBin pAdd (eVar 2) (eC (.int 1))) (aNil))))) (sSeq (sOwn 4 (eCall F 33 (aCons (eVar 1) (aCons (eVar 3) (aNil))))) (sSeq (sSet 5 (eComp [7] (iSeq (eUn pSortA (eVar 4))) (tName 7) (m35c1 F) (m35e1 F))) (sSeq (sFor (tName 6) (iR1 (aCons (eC (.int 6)) (aNil))) (m35b1 F)) (sSeq (sSet 7 (eTup (aCons (eBin pSub (eCall F 25 (aCons (eVar 0) (aCons (eC (.int 15)) (aNil)))) (eC (.int 7))) (aCons (eBin pSub (eCall F 25 (aCons (eVar 0) (aCons (eC (.int 15)) (aNil)))) (eC (.int 7))) (aNil))))) (sSeq (sIf (cNot (cVal (eCall F 28 (aCons (eLst (aCons (eCall F 22 (aCons (eVar 1) (aCons (eVar 7) (aCons (eVar 3) (aNil))))) (aCons (eCall F 23 (aCons (eVar 1) (aCons (eVar 3) (aNil)))) (aNil)))) (aCons (eLst (aCons (eGet2 (eVar 4) (eVar 7) (eC (.int 0))) (aCons (eGet2 (eVar 4) (eTup (aCons (eC (.int 0)) (aCons (eC (.int 0)) (aNil)))) (eC (.int 0))) (aNil)))) (aNil)))))) (sRet (eC (.bl false))) (sNil)) (sSeq (sSet 9 (eC (.int 1))) (sSeq (sFor (tName 6) (iR1 (aCons (eVar 3) (aNil))) (m35b2 F)) (sSeq (sIf (cVal (eBin (pNe) (eUn pSum (eComp [11] (iDc (eVar 4)) (tName 11) (cYes) (m35e2 F))) (eVar 9))) (sRet (eC (.bl false))) (sNil)) (sSeq (sIf (cVal (eBin (pEq) (eVar 3) (eC (.int 0)))) (sRet (eC (.bl true))) (sNil)) (sSeq (sOwn 10 (eCall F 33 (aCons (eVar 1) (aCons (eBin pSub (eVar 3) (eC (.int 1))) (aNil))))) (sRet (eBin (pEq) (eCall F 23 (aCons (eVar 1) (aCons (eVar 3) (aNil)))) (eUn pSum (eComp [12] (iSeq (eCall F 30 (aCons (eVar 1) (aNil)))) (tName 12) (cYes) (m35e3 F)))))))))))))))
/-- _law_formula_right -/
def m36 (F : CallI) : SDen := sSeq (sPar3 false 1 false 2 false 3 (eCall F 25 (aCons (eVar 0) (aCons (eC (.int 13)) (aNil)))) (eBin pSub (eCall F 25 (aCons (eVar 0) (aCons (eC (.int 9)) (aNil)))) (eC (.int 4))) (eBin pSub (eCall F 25 (aCons (eVar 0) (aCons (eC (.int 9)) (aNil)))) (eC (.int 4)))) (sSeq (sAsg (tTup 2 (tsCons (tName 4) (tsCons (tName 5) (tsNil)))) (eTup (aCons (eC (.int 0)) (aCons (eC (.int 0)) (aNil))))) (sSeq (sIf (cVal (eBin (pEq) (eBin pMod (eUn pInt (eBin pAdd (eBin pAdd (eVar 1) (eVar 2)) (eVar 3))) (eC (.int 2))) (eC (.int 0)))) (sSet 4 (eBin pMul (eCall F 34 (aCons (eVar 1) (aCons (eUn pInt (eBin pFdiv (eBin pAdd (eBin pAdd (eVar 1) (eVar 2)) (eVar 3)) (eC (.int 2)))) (aNil)))) (eCall F 34 (aCons (eVar 1) (aCons (eUn pInt (eBin pFdiv (eBin pSub (eBin pAdd (eVar 1) (eVar 2)) (eVar 3)) (eC (.int 2)))) (aNil)))))) (sNil)) (sSeq (sIf (cAnd (cVal (eBin (pEq) (eBin pMod (eUn pInt (eBin pAdd (eVar 1) (eVar 2))) (eC (.int 2))) (eC (.int 0)))) (cVal (eBin (pEq) (eBin pMod (eUn pInt (eBin pAdd (eVar 1) (eVar 3))) (eC (.int 2))) (eC (.int 0))))) (sSet 5 (eBin pMul (eCall F 34 (aCons (eVar 1) (aCons (eUn pInt (eBin pFdiv (eBin pAdd (eVar 1) (eVar 2)) (eC (.int 2)))) (aNil)))) (eCall F 34 (aCons (eVar 1) (aCons (eUn pInt (eBin pFdiv (eBin pAdd (eVar 1) (eVar 3)) (eC (.int 2)))) (aNil)))))) (sNil)) (sSeq (sSet 6 (eBin pAdd (eC (.int 1)) (eCall F 25 (aCons (eVar 0) (aCons (eC (.int 12)) (aNil)))))) (sSeq (sSet 7 (eLst (aCons (eCall F 22 (aCons (eTup (aCons (eC (.int 1)) (aCons (eC (.int 0)) (aNil)))) (aCons (eTup (aCons (eVar 2) (aCons (eVar 3) (aNil)))) (aCons (eVar 1) (aNil))))) (aCons (eCall F 22 (aCons (eTup (aCons (eC (.int 1)) (aCons (eC (.int 1)) (aNil)))) (aCons (eTup (aCons (eVar 2) (aCons (eVar 3) (aNil)))) (aCons (eVar 1) (aNil))))) (aCons (eCall F 22 (aCons (eTup (aCons (eVar 6) (aCons (eC (.int 0)) (aNil)))) (aCons (eTup (aCons (eBin pMul (eVar 2) (eVar 6)) (aCons (eBin pMul (eVar 3) (eVar 6)) (aNil)))) (aCons (eVar 1) (aNil))))) (aNil)))))) (sSeq (sIf (cNot (cVal (eCall F 28 (aCons (eVar 7) (aCons (eLst (aCons (eVar 4) (aCons (eVar 5) (aCons (eVar 4) (aNil))))) (aNil)))))) (sRet (eC (.bl false))) (sNil)) (sSeq (sSet 8 (eIf (cVal (eBin (pEq) (eBin pMod (eUn pInt (eVar 1)) (eC (.int 2))) (eC (.int 0)))) (eBin pMul (eCall F 34 (aCons (eVar 1) (aCons (eUn pInt (eBin pFdiv (eVar 1) (eC (.int 2)))) (aNil)))) (eCall F 34 (aCons (eVar 1) (aCons (eUn pInt (eBin pFdiv (eVar 1) (eC (.int 2)))) (aNil))))) (eC (.int 0)))) (sRet (eCall F 28 (aCons (eLst (aCons (eCall F 23 (aCons (eTup (aCons (eC (.int 1)) (aCons (eC (.int 0)) (aNil)))) (aCons (eVar 1) (aNil)))) (aCons (eCall F 23 (aCons (eTup (aCons (eC (.int 1)) (aCons (eC (.int 1)) (aNil)))) (aCons (eVar 1) (aNil)))) (aCons (eCall F 23 (aCons (eTup (aCons (eVar 6) (aCons (eVar 6) (aNil)))) (aCons (eVar 1) (aNil)))) (aNil))))) (aCons (eBin pMul (eLst (aCons (eVar 8) (aNil))) (eC (.int 3))) (aNil))))))))))))
def m37e1 (F : CallI) : Den := eCall F 23 (aCons (eTup (aCons (eC (.int 2)) (aCons (eC (.int 1)) (aNil)))) (aCons (eVar 1) (aNil)))
/-- _law_written -/
def m37 (F : CallI) : SDen := sSeq (sSet 0 (eLst (aCons (eCall F 22 (aCons (eTup (aCons (eC (.int 1)) (aCons (eC (.int 0)) (aNil)))) (aCons (eTup (aCons (eC (.int 1)) (aCons (eC (.int 1)) (aNil)))) (aCons (eC (.int 2)) (aNil))))) (aCons (eCall F 22 (aCons (eTup (aCons (eC (.int 2)) (aCons (eC (.int 1)) (aNil)))) (aCons (eTup (aCons (eC (.int 0)) (aCons (eC (.int 0)) (aNil)))) (aCons (eC (.int 2)) (aNil))))) (aCons (eCall F 23 (aCons (eTup (aCons (eC (.int 2)) (aCons (eC (.int 1)) (aNil)))) (aCons (eC (.int 4)) (aNil)))) (aCons (eCall F 23 (aCons (eTup (aCons (eC (.int 1)) (aCons (eC (.int 0)) (aNil)))) (aCons (eC (.int 4)) (aNil)))) (aNil))))))) (sSeq (sSet 0 (eBin pAdd (eVar 0) (eLst (aCons (eCall F 22 (aCons (eTup (aCons (eC (.int 2)) (aCons (eC (.int 1)) (aNil)))) (aCons (eTup (aCons (eC (.int 9)) (aCons (eC (.int 9)) (aNil)))) (aCons (eC (.int 0)) (aNil))))) (aCons (eCall F 23 (aCons (eTup (aCons (eC (.int 5)) (aCons (eC (.int 3)) (aNil)))) (aCons (eC (.int 0)) (aNil)))) (aNil)))))) (sSeq (sIf (cNot (cVal (eCall F 28 (aCons (eVar 0) (aCons (eLst (aCons (eC (.int 2)) (aCons (eC (.int 8)) (aCons (eC (.int 168)) (aCons (eC (.int 36)) (aCons (eC (.int 0)) (aCons (eC (.int 1)) (aNil)))))))) (aNil)))))) (sRet (eC (.bl false))) (sNil)) (sSeq (sSet 0 (eBin pAdd (eComp [1] (iSeq (eTup (aCons (eC (.int 0)) (aCons (eC (.int 1)) (aCons (eC (.int 2)) (aCons (eC (.int 3)) (aCons (eC (.int 5)) (aCons (eC (.int 6)) (aNil))))))))) (tName 1) (cYes) (m37e1 F)) (eLst (aCons (eCall F 23 (aCons (eTup (aCons (eC (.int 1)) (aCons (eC (.int 0)) (aNil)))) (aCons (eC (.int 12)) (aNil)))) (aCons (eCall F 22 (aCons (eTup (aCons (eC (.int 12)) (aCons (eC (.int 0)) (aNil)))) (aCons (eTup (aCons (eC (.int 96)) (aCons (eC (.int 0)) (aNil)))) (aCons (eC (.int 8)) (aNil))))) (aNil)))))) (sSeq (sSet 0 (eBin pAdd (eVar 0) (eLst (aCons (eCall F 22 (aCons (eTup (aCons (eC (.int 1)) (aCons (eC (.int 1)) (aNil)))) (aCons (eTup (aCons (eUn pNeg (eC (.int 12))) (aCons (eC (.int 12)) (aNil)))) (aCons (eC (.int 12)) (aNil))))) (aCons (eCall F 23 (aCons (eTup (aCons (eC (.int 4)) (aCons (eC (.int 1)) (aNil)))) (aCons (eC (.int 2)) (aNil)))) (aNil)))))) (sRet (eCall F 28 (aCons (eVar 0) (aCons (eLst (aCons (eC (.int 1)) (aCons (eC (.int 0)) (aCons (eC (.int 8)) (aCons (eC (.int 0)) (aCons (eC (.int 0)) (aCons (eC (.int 5840)) (aCons (eBin pMul (eC (.int 924)) (eC (.int 924))) (aCons (eC (.int 1)) (aCons (eC (.int 1)) (aCons (eC (.int 8)) (aNil)))))))))))) (aNil)))))))))
def m38b1 (F : CallI) : SDen := sIf (cNot (cVal (eCall F 35 (aCons (eVar 1) (aCons (eCall F 29 (aCons (eVar 1) (aNil))) (aCons (eVar 2) (aNil))))))) (sRet (eC (.bl false))) (sNil)
/-- law -/
def m38 (F : CallI) : SDen := sSeq (sIf (cNot (cVal (eCall F 37 aNil))) (sRet (eC (.bl false))) (sNil)) (sSeq (sSet 1 (eCall F 24 (aCons (eVar 0) (aNil)))) (sSeq (sFor (tName 2) (iSeq (eTup (aCons (eC (.int 3)) (aCons (eC (.int 4)) (aNil))))) (m38b1 F)) (sSeq (sIf (cNot (cVal (eCall F 35 (aCons (eVar 1) (aCons (eCall F 26 (aCons (eVar 1) (aCons (eLst (aCons (eTup (aCons (eC (.int 1)) (aCons (eC (.int 0)) (aNil)))) (aCons (eTup (aCons (eC (.int 1)) (aCons (eC (.int 1)) (aNil)))) (aCons (eTup (aCons (eC (.int 2)) (aCons (eC (.int 1)) (aNil)))) (aCons (eTup (aCons (eC (.int 2)) (aCons (eC (.int 2)) (aNil)))) (aCons (eTup (aCons (eC (.int 3)) (aCons (eC (.int 0)) (aNil)))) (aCons (eTup (aCons (eC (.int 4)) (aCons (eC (.int 2)) (aNil)))) (aNil)))))))) (aNil)))) (aCons (eC (.int 8)) (aNil))))))) (sRet (eC (.bl false))) (sNil)) (sSeq (sIf (cAnd (cVal (eBin (pEq) (eCall F 25 (aCons (eVar 1) (aCons (eC (.int 6)) (aNil)))) (eC (.int 0)))) (cNot (cVal (eCall F 35 (aCons (eVar 1) (aCons (eCall F 26 (aCons (eVar 1) (aCons (eLst (aCons (eTup (aCons (eC (.int 2)) (aCons (eC (.int 1)) (aNil)))) (aCons (eTup (aCons (eC (.int 3)) (aCons (eC (.int 1)) (aNil)))) (aNil)))) (aNil)))) (aCons (eC (.int 12)) (aNil)))))))) (sRet (eC (.bl false))) (sNil)) (sSeq (sSet 3 (eCall F 29 (aCons (eVar 1) (aNil)))) (sSeq (sIf (cAnd (cNot (cVal (eCall F 32 (aCons (eVar 3) (aCons (eTup (aCons (eC (.int 1)) (aCons (eC (.int 0)) (aNil)))) (aNil)))))) (cVal (eBin (pNe) (eCall F 22 (aCons (eVar 3) (aCons (eTup (aCons (eC (.int 1)) (aCons (eC (.int 0)) (aNil)))) (aCons (eCall F 25 (aCons (eVar 1) (aCons (eC (.int 5)) (aNil)))) (aNil))))) (eC (.int 0))))) (sRet (eC (.bl false))) (sNil)) (sRet (eAnd (eCall F 36 (aCons (eVar 1) (aNil))) (eCall F 36 (aCons (eVar 1) (aNil)))))))))))
def tab : Nat → Option FnD
  | 0 => some ⟨1, 1, m0⟩
  | 1 => some ⟨3, 3, m1⟩
  | 2 => some ⟨3, 3, m2⟩
  | 3 => some ⟨3, 3, m3⟩
  | 4 => some ⟨1, 1, m4⟩
  | 5 => some ⟨1, 1, m5⟩
  | 6 => some ⟨1, 1, m6⟩
  | 7 => some ⟨2, 3, m7⟩
  | 8 => some ⟨2, 2, m8⟩
  | 9 => some ⟨1, 1, m9⟩
  | 10 => some ⟨1, 8, m10⟩
  | 11 => some ⟨2, 7, m11⟩
  | 12 => some ⟨1, 2, m12⟩
  | 13 => some ⟨2, 3, m13⟩
  | 14 => some ⟨2, 7, m14⟩
  | 15 => some ⟨3, 5, m15⟩
  | 16 => some ⟨6, 11, m16⟩
  | 17 => some ⟨2, 15, m17⟩
  | 18 => some ⟨1, 1, m18⟩
  | 19 => some ⟨2, 2, m19⟩
  | 20 => some ⟨2, 12, m20⟩
  | 21 => some ⟨2, 2, m21⟩
  | 22 => some ⟨3, 3, m22⟩
  | 23 => some ⟨2, 2, m23⟩
  | 24 => some ⟨1, 2, m24⟩
  | 25 => some ⟨2, 4, m25⟩
  | 26 => some ⟨2, 2, m26⟩
  | 27 => some ⟨1, 1, m27⟩
  | 28 => some ⟨2, 5, m28⟩
  | 29 => some ⟨1, 2, m29⟩
  | 30 => some ⟨1, 3, m30⟩
  | 31 => some ⟨2, 2, m31⟩
  | 32 => some ⟨2, 4, m32⟩
  | 33 => some ⟨2, 10, m33⟩
  | 34 => some ⟨2, 4, m34⟩
  | 35 => some ⟨3, 13, m35⟩
  | 36 => some ⟨1, 9, m36⟩
  | 37 => some ⟨0, 2, m37⟩
  | 38 => some ⟨1, 4, m38⟩
  | _ => none
end K56

namespace K56
open PySem PySem.Spec PyProof.Rows L2 Mp
def top (i : Nat) : Stmt := PySem.Challenge.pw_piecesplaced_k56_whole_counts_of_rows_of.main.body.getD i (.Pass ⟨0, 0, 0, 0⟩)
abbrev st0 : Stmt := top 10
abbrev st1 : Stmt := top 11
abbrev st2 : Stmt := top 12
abbrev st3 : Stmt := top 13
abbrev st4 : Stmt := top 14
abbrev st5 : Stmt := top 18
abbrev st6 : Stmt := top 19
abbrev st7 : Stmt := top 20
abbrev st8 : Stmt := top 21
abbrev st9 : Stmt := top 22
abbrev st10 : Stmt := top 23
abbrev st11 : Stmt := top 24
abbrev st12 : Stmt := top 25
abbrev st13 : Stmt := top 26
abbrev st14 : Stmt := top 27
abbrev st15 : Stmt := top 28
abbrev st16 : Stmt := top 29
abbrev st17 : Stmt := top 30
abbrev st18 : Stmt := top 31
abbrev st19 : Stmt := top 32
abbrev st20 : Stmt := top 34
abbrev st21 : Stmt := top 35
abbrev st22 : Stmt := top 36
abbrev st23 : Stmt := top 37
abbrev st24 : Stmt := top 39
abbrev st25 : Stmt := top 40
abbrev st26 : Stmt := top 41
abbrev st27 : Stmt := top 42
abbrev st28 : Stmt := top 43
abbrev st29 : Stmt := top 44
abbrev st30 : Stmt := top 45
abbrev st31 : Stmt := top 46
abbrev st32 : Stmt := top 47
abbrev st33 : Stmt := top 48
abbrev st34 : Stmt := top 49
abbrev st35 : Stmt := top 50
abbrev st36 : Stmt := top 51
abbrev st37 : Stmt := top 52
abbrev st38 : Stmt := top 53
structure Fx (K : PySem.W.Frag) (mg : Str → Option Value) (fa : Nat → Addr) (fd : Nat → FuncData) : Prop where
  F0 : FunD K "is_integer" "is_integer" (defArgs st0) (defBody st0) (defScope st0) [] [] (fa 0) (fd 0)
  g0 : mg "is_integer" = some (.ref (fa 0))
  B0 : Binds K (fd 0) ["value"] []
  F1 : FunD K "is_whole" "is_whole" (defArgs st1) (defBody st1) (defScope st1) [] [] (fa 1) (fd 1)
  g1 : mg "is_whole" = some (.ref (fa 1))
  B1 : Binds K (fd 1) ["value", "low", "high"] []
  F2 : FunD K "need_whole" "need_whole" (defArgs st2) (defBody st2) (defScope st2) [] [] (fa 2) (fd 2)
  g2 : mg "need_whole" = some (.ref (fa 2))
  B2 : Binds K (fd 2) ["value", "low", "high"] []
  F3 : FunD K "is_tuple_of" "is_tuple_of" (defArgs st3) (defBody st3) (defScope st3) [] [] (fa 3) (fd 3)
  g3 : mg "is_tuple_of" = some (.ref (fa 3))
  B3 : Binds K (fd 3) ["value", "low", "high"] []
  F4 : FunD K "fits_kind" "fits_kind" (defArgs st4) (defBody st4) (defScope st4) [] [] (fa 4) (fd 4)
  g4 : mg "fits_kind" = some (.ref (fa 4))
  B4 : Binds K (fd 4) ["value"] []
  F5 : FunD K "fits_leaper" "fits_leaper" (defArgs st5) (defBody st5) (defScope st5) [] [] (fa 5) (fd 5)
  g5 : mg "fits_leaper" = some (.ref (fa 5))
  B5 : Binds K (fd 5) ["value"] []
  F6 : FunD K "need_leaper" "need_leaper" (defArgs st6) (defBody st6) (defScope st6) [] [] (fa 6) (fd 6)
  g6 : mg "need_leaper" = some (.ref (fa 6))
  B6 : Binds K (fd 6) ["value"] []
  F7 : FunD K "fits_target" "fits_target" (defArgs st7) (defBody st7) (defScope st7) [] [] (fa 7) (fd 7)
  g7 : mg "fits_target" = some (.ref (fa 7))
  B7 : Binds K (fd 7) ["value", "most"] []
  F8 : FunD K "need_target" "need_target" (defArgs st8) (defBody st8) (defScope st8) [] [] (fa 8) (fd 8)
  g8 : mg "need_target" = some (.ref (fa 8))
  B8 : Binds K (fd 8) ["value", "most"] []
  F9 : FunD K "need_leaps" "need_leaps" (defArgs st9) (defBody st9) (defScope st9) [] [] (fa 9) (fd 9)
  g9 : mg "need_leaps" = some (.ref (fa 9))
  B9 : Binds K (fd 9) ["many"] []
  F10 : FunD K "leaps_in" "leaps_in" (defArgs st10) (defBody st10) (defScope st10) [] [] (fa 10) (fd 10)
  g10 : mg "leaps_in" = some (.ref (fa 10))
  B10 : Binds K (fd 10) ["leaper"] []
  F11 : FunD K "joined" "joined" (defArgs st11) (defBody st11) (defScope st11) [] [] (fa 11) (fd 11)
  g11 : mg "joined" = some (.ref (fa 11))
  B11 : Binds K (fd 11) ["one", "other"] []
  F12 : FunD K "is_halving_in" "is_halving_in" (defArgs st12) (defBody st12) (defScope st12) [] [] (fa 12) (fd 12)
  g12 : mg "is_halving_in" = some (.ref (fa 12))
  B12 : Binds K (fd 12) ["leaper"] []
  F13 : FunD K "comes_to" "comes_to" (defArgs st13) (defBody st13) (defScope st13) [] [] (fa 13) (fd 13)
  g13 : mg "comes_to" = some (.ref (fa 13))
  B13 : Binds K (fd 13) ["leaper", "target"] []
  F14 : FunD K "shared" "shared" (defArgs st14) (defBody st14) (defScope st14) [] [] (fa 14) (fd 14)
  g14 : mg "shared" = some (.ref (fa 14))
  B14 : Binds K (fd 14) ["target", "leaper"] []
  F15 : FunD K "bounds_near" "bounds_near" (defArgs st15) (defBody st15) (defScope st15) [] [] (fa 15) (fd 15)
  g15 : mg "bounds_near" = some (.ref (fa 15))
  B15 : Binds K (fd 15) ["left", "times", "room"] []
  F16 : FunD K "best_beside" "best_beside" (defArgs st16) (defBody st16) (defScope st16) [] [] (fa 16) (fd 16)
  g16 : mg "best_beside" = some (.ref (fa 16))
  B16 : Binds K (fd 16) ["u", "v", "w", "z", "long", "short"] []
  F17 : FunD K "fewest_in" "fewest_in" (defArgs st17) (defBody st17) (defScope st17) [] [] (fa 17) (fd 17)
  g17 : mg "fewest_in" = some (.ref (fa 17))
  B17 : Binds K (fd 17) ["leaper", "target"] []
  F18 : FunD K "leaps_of" "leaps_of" (defArgs st18) (defBody st18) (defScope st18) [] [] (fa 18) (fd 18)
  g18 : mg "leaps_of" = some (.ref (fa 18))
  B18 : Binds K (fd 18) ["leaper"] []
  F19 : FunD K "fewest_leaps" "fewest_leaps" (defArgs st19) (defBody st19) (defScope st19) [] [] (fa 19) (fd 19)
  g19 : mg "fewest_leaps" = some (.ref (fa 19))
  B19 : Binds K (fd 19) ["leaper", "target"] []
  F20 : FunD K "rows_in" "rows_in" (defArgs st20) (defBody st20) (defScope st20) [] [] (fa 20) (fd 20)
  g20 : mg "rows_in" = some (.ref (fa 20))
  B20 : Binds K (fd 20) ["leaper", "many"] []
  F21 : FunD K "need_two" "need_two" (defArgs st21) (defBody st21) (defScope st21) [] [] (fa 21) (fd 21)
  g21 : mg "need_two" = some (.ref (fa 21))
  B21 : Binds K (fd 21) ["leaper", "many"] []
  F22 : FunD K "count_leap_rows" "count_leap_rows" (defArgs st22) (defBody st22) (defScope st22) [] [] (fa 22) (fd 22)
  g22 : mg "count_leap_rows" = some (.ref (fa 22))
  B22 : Binds K (fd 22) ["leaper", "target", "many"] []
  F23 : FunD K "count_back_rows" "count_back_rows" (defArgs st23) (defBody st23) (defScope st23) [] [] (fa 23) (fd 23)
  g23 : mg "count_back_rows" = some (.ref (fa 23))
  B23 : Binds K (fd 23) ["leaper", "many"] []
  F24 : FunD K "_law_cup" "_law_cup" (defArgs st24) (defBody st24) (defScope st24) [] [] (fa 24) (fd 24)
  g24 : mg "_law_cup" = some (.ref (fa 24))
  B24 : Binds K (fd 24) ["script"] []
  F25 : FunD K "_law_roll" "_law_roll" (defArgs st25) (defBody st25) (defScope st25) [] [] (fa 25) (fd 25)
  g25 : mg "_law_roll" = some (.ref (fa 25))
  B25 : Binds K (fd 25) ["cup", "many"] []
  F26 : FunD K "_law_some" "_law_some" (defArgs st26) (defBody st26) (defScope st26) [] [] (fa 26) (fd 26)
  g26 : mg "_law_some" = some (.ref (fa 26))
  B26 : Binds K (fd 26) ["cup", "things"] []
  F27 : FunD K "_law_sort" "_law_sort" (defArgs st27) (defBody st27) (defScope st27) [] [] (fa 27) (fd 27)
  g27 : mg "_law_sort" = some (.ref (fa 27))
  B27 : Binds K (fd 27) ["value"] []
  F28 : FunD K "_law_like" "_law_like" (defArgs st28) (defBody st28) (defScope st28) [] [] (fa 28) (fd 28)
  g28 : mg "_law_like" = some (.ref (fa 28))
  B28 : Binds K (fd 28) ["one", "other"] []
  F29 : FunD K "_law_leaper" "_law_leaper" (defArgs st29) (defBody st29) (defScope st29) [] [] (fa 29) (fd 29)
  g29 : mg "_law_leaper" = some (.ref (fa 29))
  B29 : Binds K (fd 29) ["cup"] []
  F30 : FunD K "_law_leaps" "_law_leaps" (defArgs st30) (defBody st30) (defScope st30) [] [] (fa 30) (fd 30)
  g30 : mg "_law_leaps" = some (.ref (fa 30))
  B30 : Binds K (fd 30) ["leaper"] []
  F31 : FunD K "_law_divisor" "_law_divisor" (defArgs st31) (defBody st31) (defScope st31) [] [] (fa 31) (fd 31)
  g31 : mg "_law_divisor" = some (.ref (fa 31))
  B31 : Binds K (fd 31) ["one", "other"] []
  F32 : FunD K "_law_comes" "_law_comes" (defArgs st32) (defBody st32) (defScope st32) [] [] (fa 32) (fd 32)
  g32 : mg "_law_comes" = some (.ref (fa 32))
  B32 : Binds K (fd 32) ["leaper", "target"] []
  F33 : FunD K "_law_rows" "_law_rows" (defArgs st33) (defBody st33) (defScope st33) [] [] (fa 33) (fd 33)
  g33 : mg "_law_rows" = some (.ref (fa 33))
  B33 : Binds K (fd 33) ["leaper", "many"] []
  F34 : FunD K "_law_choose" "_law_choose" (defArgs st34) (defBody st34) (defScope st34) [] [] (fa 34) (fd 34)
  g34 : mg "_law_choose" = some (.ref (fa 34))
  B34 : Binds K (fd 34) ["many", "some"] []
  F35 : FunD K "_law_right" "_law_right" (defArgs st35) (defBody st35) (defScope st35) [] [] (fa 35) (fd 35)
  g35 : mg "_law_right" = some (.ref (fa 35))
  B35 : Binds K (fd 35) ["cup", "leaper", "most"] []
  F36 : FunD K "_law_formula_right" "_law_formula_right" (defArgs st36) (defBody st36) (defScope st36) [] [] (fa 36) (fd 36)
  g36 : mg "_law_formula_right" = some (.ref (fa 36))
  B36 : Binds K (fd 36) ["cup"] []
  F37 : FunD K "_law_written" "_law_written" (defArgs st37) (defBody st37) (defScope st37) [] [] (fa 37) (fd 37)
  g37 : mg "_law_written" = some (.ref (fa 37))
  B37 : Binds K (fd 37) [] []
  F38 : FunD K "law" "law" (defArgs st38) (defBody st38) (defScope st38) [] [] (fa 38) (fd 38)
  g38 : mg "law" = some (.ref (fa 38))
  B38 : Binds K (fd 38) ["script"] []
  b_isinstance : mg "isinstance" = none
  b_int : mg "int" = none
  b_bool : mg "bool" = none
  b_tuple : mg "tuple" = none
  b_len : mg "len" = none
  b_str : mg "str" = none
  b_all : mg "all" = none
  b_sorted : mg "sorted" = none
  b_zip : mg "zip" = none
  b_list : mg "list" = none
  b_range : mg "range" = none
  b_abs : mg "abs" = none
  b_max : mg "max" = none
  b_set : mg "set" = none
  b_sum : mg "sum" = none
  c_NAMES : GlD K mg "NAMES" (.ktup [.str [116, 111, 119, 101, 114], .str [114, 117, 110, 110, 101, 114], .str [113, 117, 101, 101, 110], .str [107, 105, 110, 103]])
  c_FAR_LEAP : ∃ t, mg "FAR_LEAP" = some (.int 12 t)
  c_LEAST_LEAP : ∃ t, mg "LEAST_LEAP" = some (.int 1 t)
  c_MANY : ∃ t, mg "MANY" = some (.int 12 t)
  c_NEAR : ∃ t, mg "NEAR" = some (.int 100 t)
structure Al (P : Program) (w : World) (K : PySem.W.Frag) (mg : Str → Option Value) (base : Heap) (cl : Nat → Addr) (fa : Nat → Addr) (fd : Nat → FuncData) (wf n : Nat) : Prop where
  a0 : FnOk P w K mg base CX0 n (fa 0) (fd 0) ["value"] (spOf ⟨K, cl⟩ (callF tab wf n 0))
  a1 : FnOk P w K mg base CX0 n (fa 1) (fd 1) ["value", "low", "high"] (spOf ⟨K, cl⟩ (callF tab wf n 1))
  a2 : FnOk P w K mg base CX0 n (fa 2) (fd 2) ["value", "low", "high"] (spOf ⟨K, cl⟩ (callF tab wf n 2))
  a3 : FnOk P w K mg base CX0 n (fa 3) (fd 3) ["value", "low", "high"] (spOf ⟨K, cl⟩ (callF tab wf n 3))
  a4 : FnOk P w K mg base CX0 n (fa 4) (fd 4) ["value"] (spOf ⟨K, cl⟩ (callF tab wf n 4))
  a5 : FnOk P w K mg base CX0 n (fa 5) (fd 5) ["value"] (spOf ⟨K, cl⟩ (callF tab wf n 5))
  a6 : FnOk P w K mg base CX0 n (fa 6) (fd 6) ["value"] (spOf ⟨K, cl⟩ (callF tab wf n 6))
  a7 : FnOk P w K mg base CX0 n (fa 7) (fd 7) ["value", "most"] (spOf ⟨K, cl⟩ (callF tab wf n 7))
  a8 : FnOk P w K mg base CX0 n (fa 8) (fd 8) ["value", "most"] (spOf ⟨K, cl⟩ (callF tab wf n 8))
  a9 : FnOk P w K mg base CX0 n (fa 9) (fd 9) ["many"] (spOf ⟨K, cl⟩ (callF tab wf n 9))
  a10 : FnOk P w K mg base CX0 n (fa 10) (fd 10) ["leaper"] (spOf ⟨K, cl⟩ (callF tab wf n 10))
  a11 : FnOk P w K mg base CX0 n (fa 11) (fd 11) ["one", "other"] (spOf ⟨K, cl⟩ (callF tab wf n 11))
  a12 : FnOk P w K mg base CX0 n (fa 12) (fd 12) ["leaper"] (spOf ⟨K, cl⟩ (callF tab wf n 12))
  a13 : FnOk P w K mg base CX0 n (fa 13) (fd 13) ["leaper", "target"] (spOf ⟨K, cl⟩ (callF tab wf n 13))
  a14 : FnOk P w K mg base CX0 n (fa 14) (fd 14) ["target", "leaper"] (spOf ⟨K, cl⟩ (callF tab wf n 14))
  a15 : FnOk P w K mg base CX0 n (fa 15) (fd 15) ["left", "times", "room"] (spOf ⟨K, cl⟩ (callF tab wf n 15))
  a16 : FnOk P w K mg base CX0 n (fa 16) (fd 16) ["u", "v", "w", "z", "long", "short"] (spOf ⟨K, cl⟩ (callF tab wf n 16))
  a17 : FnOk P w K mg base CX0 n (fa 17) (fd 17) ["leaper", "target"] (spOf ⟨K, cl⟩ (callF tab wf n 17))
  a18 : FnOk P w K mg base CX0 n (fa 18) (fd 18) ["leaper"] (spOf ⟨K, cl⟩ (callF tab wf n 18))
  a19 : FnOk P w K mg base CX0 n (fa 19) (fd 19) ["leaper", "target"] (spOf ⟨K, cl⟩ (callF tab wf n 19))
  a20 : FnOk P w K mg base CX0 n (fa 20) (fd 20) ["leaper", "many"] (spOf ⟨K, cl⟩ (callF tab wf n 20))
  a21 : FnOk P w K mg base CX0 n (fa 21) (fd 21) ["leaper", "many"] (spOf ⟨K, cl⟩ (callF tab wf n 21))
  a22 : FnOk P w K mg base CX0 n (fa 22) (fd 22) ["leaper", "target", "many"] (spOf ⟨K, cl⟩ (callF tab wf n 22))
  a23 : FnOk P w K mg base CX0 n (fa 23) (fd 23) ["leaper", "many"] (spOf ⟨K, cl⟩ (callF tab wf n 23))
  a24 : FnOk P w K mg base CX0 n (fa 24) (fd 24) ["script"] (spOf ⟨K, cl⟩ (callF tab wf n 24))
  a25 : FnOk P w K mg base CX0 n (fa 25) (fd 25) ["cup", "many"] (spOf ⟨K, cl⟩ (callF tab wf n 25))
  a26 : FnOk P w K mg base CX0 n (fa 26) (fd 26) ["cup", "things"] (spOf ⟨K, cl⟩ (callF tab wf n 26))
  a27 : FnOk P w K mg base CX0 n (fa 27) (fd 27) ["value"] (spOf ⟨K, cl⟩ (callF tab wf n 27))
  a28 : FnOk P w K mg base CX0 n (fa 28) (fd 28) ["one", "other"] (spOf ⟨K, cl⟩ (callF tab wf n 28))
  a29 : FnOk P w K mg base CX0 n (fa 29) (fd 29) ["cup"] (spOf ⟨K, cl⟩ (callF tab wf n 29))
  a30 : FnOk P w K mg base CX0 n (fa 30) (fd 30) ["leaper"] (spOf ⟨K, cl⟩ (callF tab wf n 30))
  a31 : FnOk P w K mg base CX0 n (fa 31) (fd 31) ["one", "other"] (spOf ⟨K, cl⟩ (callF tab wf n 31))
  a32 : FnOk P w K mg base CX0 n (fa 32) (fd 32) ["leaper", "target"] (spOf ⟨K, cl⟩ (callF tab wf n 32))
  a33 : FnOk P w K mg base CX0 n (fa 33) (fd 33) ["leaper", "many"] (spOf ⟨K, cl⟩ (callF tab wf n 33))
  a34 : FnOk P w K mg base CX0 n (fa 34) (fd 34) ["many", "some"] (spOf ⟨K, cl⟩ (callF tab wf n 34))
  a35 : FnOk P w K mg base CX0 n (fa 35) (fd 35) ["cup", "leaper", "most"] (spOf ⟨K, cl⟩ (callF tab wf n 35))
  a36 : FnOk P w K mg base CX0 n (fa 36) (fd 36) ["cup"] (spOf ⟨K, cl⟩ (callF tab wf n 36))
  a37 : FnOk P w K mg base CX0 n (fa 37) (fd 37) [] (spOf ⟨K, cl⟩ (callF tab wf n 37))
  a38 : FnOk P w K mg base CX0 n (fa 38) (fd 38) ["script"] (spOf ⟨K, cl⟩ (callF tab wf n 38))
section
variable {P : Program} {w : World} {K : PySem.W.Frag} {mg : Str → Option Value} {base : Heap} {cl : Nat → Addr} {fa : Nat → Addr} {fd : Nat → FuncData} {wf n : Nat}
theorem sc0 : FnScope ["value"] ["value"] (defScope st0) := ⟨rfl, rfl, rfl, by decide +kernel, rfl, by decide +kernel, by decide +kernel⟩
/-- is_integer -/
theorem ok0 (x : Fx K mg fa fd) (A : Al P w K mg base cl fa fd wf n) : FnOk P w K mg base CX0 (n + 1) (fa 0) (fd 0) ["value"] (spOf ⟨K, cl⟩ (callF tab wf (n + 1) 0)) := by
  have S := sc0
  exact fn_stepD x.F0 S rfl fun cdv A0 outer s H E hr =>
    (sv_one (sv_ret (ev_and (g_isT (T := "int") (by rfl) x.b_isinstance (by rfl) x.b_int bt_int (g_var (i := 0) (by rfl) (.inl (by rfl)))) (ev_one (ev_not (g_isT (T := "bool") (by rfl) x.b_isinstance (by rfl) x.b_bool bt_bool (g_var (i := 0) (by rfl) (.inl (by rfl)))))))))
theorem sc1 : FnScope ["value", "low", "high"] ["value", "low", "high"] (defScope st1) := ⟨rfl, rfl, rfl, by decide +kernel, rfl, by decide +kernel, by decide +kernel⟩
/-- is_whole -/
theorem ok1 (x : Fx K mg fa fd) (A : Al P w K mg base cl fa fd wf n) : FnOk P w K mg base CX0 (n + 1) (fa 1) (fd 1) ["value", "low", "high"] (spOf ⟨K, cl⟩ (callF tab wf (n + 1) 1)) := by
  have S := sc1
  exact fn_stepD x.F1 S rfl fun cdv A0 outer s H E hr =>
    (sv_one (sv_ret (ev_and (ev_call A.a0 hr (by rfl) x.g0 x.F0.kp x.B0 (ev_acons (g_var (i := 0) (by rfl) (.inl (by rfl))) ev_anil)) (ev_one (g_chain (or_le hr.units0) ok_leA (or_le hr.units0) ok_leA (g_var (i := 1) (by rfl) (.inl (by rfl))) (g_var (i := 0) (by rfl) (.inl (by rfl))) (g_var (i := 2) (by rfl) (.inl (by rfl))))))))
theorem sc2 : FnScope ["value", "low", "high"] ["value", "low", "high"] (defScope st2) := ⟨rfl, rfl, rfl, by decide +kernel, rfl, by decide +kernel, by decide +kernel⟩
/-- need_whole -/
theorem ok2 (x : Fx K mg fa fd) (A : Al P w K mg base cl fa fd wf n) : FnOk P w K mg base CX0 (n + 1) (fa 2) (fd 2) ["value", "low", "high"] (spOf ⟨K, cl⟩ (callF tab wf (n + 1) 2)) := by
  have S := sc2
  exact fn_stepD x.F2 S rfl fun cdv A0 outer s H E hr =>
    (sv_one (sv_if (ev_cnot (c_val (ev_call A.a1 hr (by rfl) x.g1 x.F1.kp x.B1 (ev_acons (g_var (i := 0) (by rfl) (.inl (by rfl))) (ev_acons (g_var (i := 1) (by rfl) (.inl (by rfl))) (ev_acons (g_var (i := 2) (by rfl) (.inl (by rfl))) ev_anil)))))) (sv_one g_no) sv_nil))
theorem sc3 : FnScope ["value", "low", "high"] ["value", "low", "high"] (defScope st3) := ⟨rfl, rfl, rfl, by decide +kernel, rfl, by decide +kernel, by decide +kernel⟩
/-- is_tuple_of -/
theorem ok3 (x : Fx K mg fa fd) (A : Al P w K mg base cl fa fd wf n) : FnOk P w K mg base CX0 (n + 1) (fa 3) (fd 3) ["value", "low", "high"] (spOf ⟨K, cl⟩ (callF tab wf (n + 1) 3)) := by
  have S := sc3
  exact fn_stepD x.F3 S rfl fun cdv A0 outer s H E hr =>
    (sv_one (sv_ret (ev_and (g_isT (T := "tuple") (by rfl) x.b_isinstance (by rfl) x.b_tuple bt_tuple (g_var (i := 0) (by rfl) (.inl (by rfl)))) (ev_one (g_chain (or_le hr.units0) ok_leA (or_le hr.units0) ok_leA (g_var (i := 1) (by rfl) (.inl (by rfl))) (g_b1 call_len ok_len bt_len (by rfl) x.b_len (g_var (i := 0) (by rfl) (.inl (by rfl)))) (g_var (i := 2) (by rfl) (.inl (by rfl))))))))
theorem sc4 : FnScope ["value"] ["value"] (defScope st4) := ⟨rfl, rfl, rfl, by decide +kernel, rfl, by decide +kernel, by decide +kernel⟩
/-- fits_kind -/
theorem ok4 (x : Fx K mg fa fd) (A : Al P w K mg base cl fa fd wf n) : FnOk P w K mg base CX0 (n + 1) (fa 4) (fd 4) ["value"] (spOf ⟨K, cl⟩ (callF tab wf (n + 1) 4)) := by
  have S := sc4
  exact fn_stepD x.F4 S rfl fun cdv A0 outer s H E hr =>
    (sv_cons (sv_if (c_val (g_isT (T := "str") (by rfl) x.b_isinstance (by rfl) x.b_str bt_str (g_var (i := 0) (by rfl) (.inl (by rfl))))) (sv_one (sv_ret (g_cmp (or_in hr.units65) ok_in (g_var (i := 0) (by rfl) (.inl (by rfl))) (g_cdat x.c_NAMES (by rfl)) (by with_unfolding_all rfl)))) sv_nil) (sv_one (sv_ret (ev_and (ev_call A.a3 hr (by rfl) x.g3 x.F3.kp x.B3 (ev_acons (g_var (i := 0) (by rfl) (.inl (by rfl))) (ev_acons ev_int (ev_acons ev_int ev_anil)))) (ev_and (ev_call A.a1 hr (by rfl) x.g1 x.F1.kp x.B1 (ev_acons (g_idx (g_var (i := 0) (by rfl) (.inl (by rfl))) ev_int) (ev_acons (g_cint x.c_LEAST_LEAP (by rfl)) (ev_acons (g_cint x.c_FAR_LEAP (by rfl)) ev_anil)))) (ev_one (ev_call A.a1 hr (by rfl) x.g1 x.F1.kp x.B1 (ev_acons (g_idx (g_var (i := 0) (by rfl) (.inl (by rfl))) ev_int) (ev_acons ev_int (ev_acons (g_idx (g_var (i := 0) (by rfl) (.inl (by rfl))) ev_int) ev_anil))))))))))
theorem sc5 : FnScope ["value"] ["value"] (defScope st5) := ⟨rfl, rfl, rfl, by decide +kernel, rfl, by decide +kernel, by decide +kernel⟩
/-- fits_leaper -/
theorem ok5 (x : Fx K mg fa fd) (A : Al P w K mg base cl fa fd wf n) : FnOk P w K mg base CX0 (n + 1) (fa 5) (fd 5) ["value"] (spOf ⟨K, cl⟩ (callF tab wf (n + 1) 5)) := by
  have S := sc5
  exact fn_stepD x.F5 S rfl fun cdv A0 outer s H E hr =>
    (sv_one (sv_ret (ev_and (g_isT (T := "tuple") (by rfl) x.b_isinstance (by rfl) x.b_tuple bt_tuple (g_var (i := 0) (by rfl) (.inl (by rfl)))) (ev_one (ev_call A.a4 hr (by rfl) x.g4 x.F4.kp x.B4 (ev_acons (g_var (i := 0) (by rfl) (.inl (by rfl))) ev_anil))))))
theorem sc6 : FnScope ["value"] ["value"] (defScope st6) := ⟨rfl, rfl, rfl, by decide +kernel, rfl, by decide +kernel, by decide +kernel⟩
/-- need_leaper -/
theorem ok6 (x : Fx K mg fa fd) (A : Al P w K mg base cl fa fd wf n) : FnOk P w K mg base CX0 (n + 1) (fa 6) (fd 6) ["value"] (spOf ⟨K, cl⟩ (callF tab wf (n + 1) 6)) := by
  have S := sc6
  exact fn_stepD x.F6 S rfl fun cdv A0 outer s H E hr =>
    (sv_one (sv_if (ev_cnot (c_val (ev_call A.a5 hr (by rfl) x.g5 x.F5.kp x.B5 (ev_acons (g_var (i := 0) (by rfl) (.inl (by rfl))) ev_anil)))) (sv_one g_no) sv_nil))
theorem sc7 : FnScope ["value", "most", "number"] ["value", "most"] (defScope st7) := ⟨rfl, rfl, rfl, by decide +kernel, rfl, by decide +kernel, by decide +kernel⟩
/-- fits_target -/
theorem ok7 (x : Fx K mg fa fd) (A : Al P w K mg base cl fa fd wf n) : FnOk P w K mg base CX0 (n + 1) (fa 7) (fd 7) ["value", "most"] (spOf ⟨K, cl⟩ (callF tab wf (n + 1) 7)) := by
  have S := sc7
  exact fn_stepD x.F7 S rfl fun cdv A0 outer s H E hr =>
    (sv_one (sv_ret (ev_and (ev_call A.a3 hr (by rfl) x.g3 x.F3.kp x.B3 (ev_acons (g_var (i := 0) (by rfl) (.inl (by rfl))) (ev_acons ev_int (ev_acons ev_int ev_anil)))) (ev_one (g_b1 (cr_all (by rfl)) ok_all bt_all (by rfl) x.b_all (g_lc (own := [("number", 2)]) (by rfl) S.nd (blkOk_by (N := ["value", "most", "number"]) (sc := defScope st7) (by decide +kernel)) (iv_seq (g_var (i := 0) (by rfl) (.inl (by rfl)))) (fun _ _ _ _ _ => (g_name (i := 2) S.nd (by rfl) (.inl (by rfl)))) (fun _ _ _ _ _ => g_yes) (fun _ _ _ _ _ => (ev_call A.a1 hr (by rfl) x.g1 x.F1.kp x.B1 (ev_acons (g_var (i := 2) (by rfl) (.inl (by rfl))) (ev_acons (g_neg (g_var (i := 1) (by rfl) (.inr (.inl (by rfl))))) (ev_acons (g_var (i := 1) (by rfl) (.inr (.inl (by rfl)))) ev_anil)))))))))))
theorem sc8 : FnScope ["value", "most"] ["value", "most"] (defScope st8) := ⟨rfl, rfl, rfl, by decide +kernel, rfl, by decide +kernel, by decide +kernel⟩
/-- need_target -/
theorem ok8 (x : Fx K mg fa fd) (A : Al P w K mg base cl fa fd wf n) : FnOk P w K mg base CX0 (n + 1) (fa 8) (fd 8) ["value", "most"] (spOf ⟨K, cl⟩ (callF tab wf (n + 1) 8)) := by
  have S := sc8
  exact fn_stepD x.F8 S rfl fun cdv A0 outer s H E hr =>
    (sv_one (sv_if (ev_cnot (c_val (ev_call A.a7 hr (by rfl) x.g7 x.F7.kp x.B7 (ev_acons (g_var (i := 0) (by rfl) (.inl (by rfl))) (ev_acons (g_var (i := 1) (by rfl) (.inl (by rfl))) ev_anil))))) (sv_one g_no) sv_nil))
theorem sc9 : FnScope ["many"] ["many"] (defScope st9) := ⟨rfl, rfl, rfl, by decide +kernel, rfl, by decide +kernel, by decide +kernel⟩
/-- need_leaps -/
theorem ok9 (x : Fx K mg fa fd) (A : Al P w K mg base cl fa fd wf n) : FnOk P w K mg base CX0 (n + 1) (fa 9) (fd 9) ["many"] (spOf ⟨K, cl⟩ (callF tab wf (n + 1) 9)) := by
  have S := sc9
  exact fn_stepD x.F9 S rfl fun cdv A0 outer s H E hr =>
    (sv_one (sv_expr (ev_call A.a2 hr (by rfl) x.g2 x.F2.kp x.B2 (ev_acons (g_var (i := 0) (by rfl) (.inl (by rfl))) (ev_acons ev_int (ev_acons (g_cint x.c_MANY (by rfl)) ev_anil))))))
theorem sc10 : FnScope ["leaper", "a", "b", "found", "down", "across", "one", "other"] ["leaper"] (defScope st10) := ⟨rfl, rfl, rfl, by decide +kernel, rfl, by decide +kernel, by decide +kernel⟩
/-- leaps_in -/
theorem ok10 (x : Fx K mg fa fd) (A : Al P w K mg base cl fa fd wf n) : FnOk P w K mg base CX0 (n + 1) (fa 10) (fd 10) ["leaper"] (spOf ⟨K, cl⟩ (callF tab wf (n + 1) 10)) := by
  have S := sc10
  exact fn_stepD x.F10 S rfl fun cdv A0 outer s H E hr =>
    (sv_cons (g_asg (g_var (i := 0) (by rfl) (.inl (by rfl))) (gv_tup (by rfl) (gv_cons (g_name (i := 1) S.nd (by rfl) (.inl (by rfl))) (gv_cons (g_name (i := 2) S.nd (by rfl) (.inl (by rfl))) gv_nil)))) (sv_cons (g_own (i := 3) S.nd (by rfl) (.inl (by rfl)) ev_dctT) (sv_cons (g_for (by exact PassesOwn.never) (by rfl) (iv_seq (ev_tup (ev_acons (ev_tup (ev_acons (g_var (i := 1) (by rfl) (.inl (by rfl))) (ev_acons (g_var (i := 2) (by rfl) (.inl (by rfl))) ev_anil))) (ev_acons (ev_tup (ev_acons (g_var (i := 2) (by rfl) (.inl (by rfl))) (ev_acons (g_var (i := 1) (by rfl) (.inl (by rfl))) ev_anil))) ev_anil)))) (gv_tup (by rfl) (gv_cons (g_name (i := 4) S.nd (by rfl) (.inl (by rfl))) (gv_cons (g_name (i := 5) S.nd (by rfl) (.inl (by rfl))) gv_nil))) (sv_one (g_for (by exact PassesOwn.never) (by rfl) (iv_seq (ev_tup (ev_acons ev_int (ev_acons (g_neg ev_int) ev_anil)))) (g_name (i := 6) S.nd (by rfl) (.inl (by rfl))) (sv_one (g_for (by exact PassesOwn.never) (by rfl) (iv_seq (ev_tup (ev_acons ev_int (ev_acons (g_neg ev_int) ev_anil)))) (g_name (i := 7) S.nd (by rfl) (.inl (by rfl))) (sv_one (g_putD hr.units65 ev_bl (g_var (i := 3) (by rfl) (.inl (by rfl))) (ev_tup (ev_acons (g_mul (g_var (i := 6) (by rfl) (.inl (by rfl))) (g_var (i := 4) (by rfl) (.inl (by rfl)))) (ev_acons (g_mul (g_var (i := 7) (by rfl) (.inl (by rfl))) (g_var (i := 5) (by rfl) (.inl (by rfl)))) ev_anil)))))))))) (sv_one (sv_ret (g_b1 (cr_sortA (by rfl) hr.units65) ok_sortA bt_sorted (by rfl) x.b_sorted (g_var (i := 3) (by rfl) (.inl (by rfl)))))))))
theorem sc11 : FnScope ["one", "other", "first", "last", "times", "own", "less"] ["one", "other"] (defScope st11) := ⟨rfl, rfl, rfl, by decide +kernel, rfl, by decide +kernel, by decide +kernel⟩
/-- joined -/
theorem ok11 (x : Fx K mg fa fd) (A : Al P w K mg base cl fa fd wf n) : FnOk P w K mg base CX0 (n + 1) (fa 11) (fd 11) ["one", "other"] (spOf ⟨K, cl⟩ (callF tab wf (n + 1) 11)) := by
  have S := sc11
  exact fn_stepD x.F11 S rfl fun cdv A0 outer s H E hr =>
    (sv_cons (sv_par2 (ps_par (by rfl) S.nd (by rfl) (by rfl) (by decide) (by rfl) (by rfl) (pa_cons (ev_tup (ev_acons (g_var (i := 0) (by rfl) (.inl (by rfl))) (ev_acons ev_int (ev_acons ev_int ev_anil)))) (pa_cons (ev_tup (ev_acons (g_var (i := 1) (by rfl) (.inl (by rfl))) (ev_acons ev_int (ev_acons ev_int ev_anil)))) pa_nil)) (by rfl))) (sv_cons (g_while (by exact PassesOwn.never) (c_cmp (op_neD hr.units) ok_ne (g_idx (g_var (i := 3) (by rfl) (.inl (by rfl))) ev_int) ev_int (nomark _)) (sv_cons (g_set (i := 4) S.nd (by rfl) (.inr (by rfl)) (g_fdiv (g_idx (g_var (i := 2) (by rfl) (.inl (by rfl))) ev_int) (g_idx (g_var (i := 3) (by rfl) (.inl (by rfl))) ev_int))) (sv_one (sv_par2 (ps_par (by rfl) S.nd (by rfl) (by rfl) (by decide) (by rfl) (by rfl) (pa_cons (g_var (i := 3) (by rfl) (.inl (by rfl))) (pa_cons (g_t1 call_tuple_of ok_tuple bt_tuple (by rfl) x.b_tuple (g_lc (own := [("own", 5), ("less", 6)]) (by rfl) S.nd (blkOk_by (N := ["one", "other", "first", "last", "times", "own", "less"]) (sc := defScope st11) (by decide +kernel)) (iv_zip (by rfl) x.b_zip (ev_acons (g_var (i := 2) (by rfl) (.inl (by rfl))) (ev_acons (g_var (i := 3) (by rfl) (.inl (by rfl))) ev_anil))) (fun _ _ _ _ _ => (gv_tup (by rfl) (gv_cons (g_name (i := 5) S.nd (by rfl) (.inl (by rfl))) (gv_cons (g_name (i := 6) S.nd (by rfl) (.inl (by rfl))) gv_nil)))) (fun _ _ _ _ _ => g_yes) (fun _ _ _ _ _ => (g_sub (g_var (i := 5) (by rfl) (.inl (by rfl))) (g_mul (g_var (i := 4) (by rfl) (.inr (.inl (by rfl)))) (g_var (i := 6) (by rfl) (.inl (by rfl)))))))) pa_nil)) (by rfl)))))) (sv_one (sv_ret (g_var (i := 2) (by rfl) (.inl (by rfl)))))))
theorem sc12 : FnScope ["leaper", "step"] ["leaper"] (defScope st12) := ⟨rfl, rfl, rfl, by decide +kernel, rfl, by decide +kernel, by decide +kernel⟩
/-- is_halving_in -/
theorem ok12 (x : Fx K mg fa fd) (A : Al P w K mg base cl fa fd wf n) : FnOk P w K mg base CX0 (n + 1) (fa 12) (fd 12) ["leaper"] (spOf ⟨K, cl⟩ (callF tab wf (n + 1) 12)) := by
  have S := sc12
  exact fn_stepD x.F12 S rfl fun cdv A0 outer s H E hr =>
    (sv_cons (g_set (i := 1) S.nd (by rfl) (.inl (by rfl)) (g_idx (ev_call A.a11 hr (by rfl) x.g11 x.F11.kp x.B11 (ev_acons (g_idx (g_var (i := 0) (by rfl) (.inl (by rfl))) ev_int) (ev_acons (g_idx (g_var (i := 0) (by rfl) (.inl (by rfl))) ev_int) ev_anil))) ev_int)) (sv_one (sv_ret (ev_and (g_cmp (op_eqD hr.units) ok_eq (g_mod (g_fdiv (g_idx (g_var (i := 0) (by rfl) (.inl (by rfl))) ev_int) (g_var (i := 1) (by rfl) (.inl (by rfl)))) ev_int) ev_int (nomark _)) (ev_one (g_cmp (op_eqD hr.units) ok_eq (g_mod (g_fdiv (g_idx (g_var (i := 0) (by rfl) (.inl (by rfl))) ev_int) (g_var (i := 1) (by rfl) (.inl (by rfl)))) ev_int) ev_int (nomark _)))))))
theorem sc13 : FnScope ["leaper", "target", "step"] ["leaper", "target"] (defScope st13) := ⟨rfl, rfl, rfl, by decide +kernel, rfl, by decide +kernel, by decide +kernel⟩
/-- comes_to -/
theorem ok13 (x : Fx K mg fa fd) (A : Al P w K mg base cl fa fd wf n) : FnOk P w K mg base CX0 (n + 1) (fa 13) (fd 13) ["leaper", "target"] (spOf ⟨K, cl⟩ (callF tab wf (n + 1) 13)) := by
  have S := sc13
  exact fn_stepD x.F13 S rfl fun cdv A0 outer s H E hr =>
    (sv_cons (g_set (i := 2) S.nd (by rfl) (.inl (by rfl)) (g_idx (ev_call A.a11 hr (by rfl) x.g11 x.F11.kp x.B11 (ev_acons (g_idx (g_var (i := 0) (by rfl) (.inl (by rfl))) ev_int) (ev_acons (g_idx (g_var (i := 0) (by rfl) (.inl (by rfl))) ev_int) ev_anil))) ev_int)) (sv_cons (sv_if (ev_cor (c_cmp (op_neD hr.units) ok_ne (g_mod (g_idx (g_var (i := 1) (by rfl) (.inl (by rfl))) ev_int) (g_var (i := 2) (by rfl) (.inl (by rfl)))) ev_int (nomark _)) (ev_cor1 (c_cmp (op_neD hr.units) ok_ne (g_mod (g_idx (g_var (i := 1) (by rfl) (.inl (by rfl))) ev_int) (g_var (i := 2) (by rfl) (.inl (by rfl)))) ev_int (nomark _)))).pt (sv_one (sv_ret ev_bl)) sv_nil) (sv_one (sv_ret (ev_or (ev_not (ev_call A.a12 hr (by rfl) x.g12 x.F12.kp x.B12 (ev_acons (g_var (i := 0) (by rfl) (.inl (by rfl))) ev_anil))) (ev_one (g_cmp (op_eqD hr.units) ok_eq (g_mod (g_add (g_fdiv (g_idx (g_var (i := 1) (by rfl) (.inl (by rfl))) ev_int) (g_var (i := 2) (by rfl) (.inl (by rfl)))) (g_fdiv (g_idx (g_var (i := 1) (by rfl) (.inl (by rfl))) ev_int) (g_var (i := 2) (by rfl) (.inl (by rfl))))) ev_int) ev_int (nomark _))))))))
theorem sc14 : FnScope ["target", "leaper", "step", "one", "other", "x", "y"] ["target", "leaper"] (defScope st14) := ⟨rfl, rfl, rfl, by decide +kernel, rfl, by decide +kernel, by decide +kernel⟩
/-- shared -/
theorem ok14 (x : Fx K mg fa fd) (A : Al P w K mg base cl fa fd wf n) : FnOk P w K mg base CX0 (n + 1) (fa 14) (fd 14) ["target", "leaper"] (spOf ⟨K, cl⟩ (callF tab wf (n + 1) 14)) := by
  have S := sc14
  exact fn_stepD x.F14 S rfl fun cdv A0 outer s H E hr =>
    (sv_cons (g_asg (ev_call A.a11 hr (by rfl) x.g11 x.F11.kp x.B11 (ev_acons (g_idx (g_var (i := 1) (by rfl) (.inl (by rfl))) ev_int) (ev_acons (g_idx (g_var (i := 1) (by rfl) (.inl (by rfl))) ev_int) ev_anil))) (gv_tup (by rfl) (gv_cons (g_name (i := 2) S.nd (by rfl) (.inl (by rfl))) (gv_cons (g_name (i := 3) S.nd (by rfl) (.inl (by rfl))) (gv_cons (g_name (i := 4) S.nd (by rfl) (.inl (by rfl))) gv_nil))))) (sv_cons (sv_par2 (ps_par (by rfl) S.nd (by rfl) (by rfl) (by decide) (by rfl) (by rfl) (pa_cons (g_fdiv (g_idx (g_var (i := 0) (by rfl) (.inl (by rfl))) ev_int) (g_var (i := 2) (by rfl) (.inl (by rfl)))) (pa_cons (g_fdiv (g_idx (g_var (i := 0) (by rfl) (.inl (by rfl))) ev_int) (g_var (i := 2) (by rfl) (.inl (by rfl)))) pa_nil)) (by rfl))) (sv_one (sv_ret (ev_tup (ev_acons (g_mul (g_var (i := 3) (by rfl) (.inl (by rfl))) (g_var (i := 5) (by rfl) (.inl (by rfl)))) (ev_acons (g_mul (g_var (i := 4) (by rfl) (.inl (by rfl))) (g_var (i := 5) (by rfl) (.inl (by rfl)))) (ev_acons (g_mul (g_var (i := 3) (by rfl) (.inl (by rfl))) (g_var (i := 6) (by rfl) (.inl (by rfl)))) (ev_acons (g_mul (g_var (i := 4) (by rfl) (.inl (by rfl))) (g_var (i := 6) (by rfl) (.inl (by rfl)))) (ev_acons (g_fdiv (g_idx (g_var (i := 1) (by rfl) (.inl (by rfl))) ev_int) (g_var (i := 2) (by rfl) (.inl (by rfl)))) (ev_acons (g_fdiv (g_idx (g_var (i := 1) (by rfl) (.inl (by rfl))) ev_int) (g_var (i := 2) (by rfl) (.inl (by rfl)))) ev_anil)))))))))))
theorem sc15 : FnScope ["left", "times", "room", "found", "edge"] ["left", "times", "room"] (defScope st15) := ⟨rfl, rfl, rfl, by decide +kernel, rfl, by decide +kernel, by decide +kernel⟩
/-- bounds_near -/
theorem ok15 (x : Fx K mg fa fd) (A : Al P w K mg base cl fa fd wf n) : FnOk P w K mg base CX0 (n + 1) (fa 15) (fd 15) ["left", "times", "room"] (spOf ⟨K, cl⟩ (callF tab wf (n + 1) 15)) := by
  have S := sc15
  exact fn_stepD x.F15 S rfl fun cdv A0 outer s H E hr =>
    (sv_cons (sv_if (c_cmp (op_eqD hr.units) ok_eq (g_var (i := 1) (by rfl) (.inl (by rfl))) ev_int (nomark _)) (sv_one (sv_ret (ev_lst ev_anil))) sv_nil) (sv_cons (g_set (i := 3) S.nd (by rfl) (.inl (by rfl)) (ev_lst ev_anil)) (sv_cons (g_for (by exact PassesOwn.never) (by rfl) (iv_seq (ev_tup (ev_acons (g_sub (g_var (i := 0) (by rfl) (.inl (by rfl))) (g_var (i := 2) (by rfl) (.inl (by rfl)))) (ev_acons (g_add (g_var (i := 0) (by rfl) (.inl (by rfl))) (g_var (i := 2) (by rfl) (.inl (by rfl)))) ev_anil)))) (g_name (i := 4) S.nd (by rfl) (.inl (by rfl))) (sv_one (g_set (i := 3) S.nd (by rfl) (.inl (by rfl)) (g_add (g_var (i := 3) (by rfl) (.inl (by rfl))) (g_lrg2 (by rfl) (by rfl) x.b_list (by rfl) x.b_range (g_sub (g_fdiv (g_var (i := 4) (by rfl) (.inl (by rfl))) (g_var (i := 1) (by rfl) (.inl (by rfl)))) ev_int) (g_add (g_fdiv (g_var (i := 4) (by rfl) (.inl (by rfl))) (g_var (i := 1) (by rfl) (.inl (by rfl)))) ev_int)))))) (sv_one (sv_ret (g_var (i := 3) (by rfl) (.inl (by rfl))))))))
theorem sc16 : FnScope ["u", "v", "w", "z", "long", "short", "found", "turn", "own", "other", "leaps"] ["u", "v", "w", "z", "long", "short"] (defScope st16) := ⟨rfl, rfl, rfl, by decide +kernel, rfl, by decide +kernel, by decide +kernel⟩
/-- best_beside -/
theorem ok16 (x : Fx K mg fa fd) (A : Al P w K mg base cl fa fd wf n) : FnOk P w K mg base CX0 (n + 1) (fa 16) (fd 16) ["u", "v", "w", "z", "long", "short"] (spOf ⟨K, cl⟩ (callF tab wf (n + 1) 16)) := by
  have S := sc16
  exact fn_stepD x.F16 S rfl fun cdv A0 outer s H E hr =>
    (sv_cons (g_set (i := 6) S.nd (by rfl) (.inl (by rfl)) ev_non) (sv_cons (g_for (by exact PassesOwn.never) (by rfl) (iv_seq (g_add (ev_call A.a15 hr (by rfl) x.g15 x.F15.kp x.B15 (ev_acons (g_var (i := 3) (by rfl) (.inl (by rfl))) (ev_acons (g_var (i := 4) (by rfl) (.inl (by rfl))) (ev_acons (g_b1 call_abs ok_abs bt_abs (by rfl) x.b_abs (g_var (i := 0) (by rfl) (.inl (by rfl)))) ev_anil)))) (ev_call A.a15 hr (by rfl) x.g15 x.F15.kp x.B15 (ev_acons (g_neg (g_var (i := 2) (by rfl) (.inl (by rfl)))) (ev_acons (g_var (i := 5) (by rfl) (.inl (by rfl))) (ev_acons (g_b1 call_abs ok_abs bt_abs (by rfl) x.b_abs (g_var (i := 1) (by rfl) (.inl (by rfl)))) ev_anil)))))) (g_name (i := 7) S.nd (by rfl) (.inl (by rfl))) (sv_cons (sv_par2 (ps_par (by rfl) S.nd (by rfl) (by rfl) (by decide) (by rfl) (by rfl) (pa_cons (g_add (g_var (i := 2) (by rfl) (.inl (by rfl))) (g_mul (g_var (i := 5) (by rfl) (.inl (by rfl))) (g_var (i := 7) (by rfl) (.inl (by rfl))))) (pa_cons (g_sub (g_var (i := 3) (by rfl) (.inl (by rfl))) (g_mul (g_var (i := 4) (by rfl) (.inl (by rfl))) (g_var (i := 7) (by rfl) (.inl (by rfl))))) pa_nil)) (by rfl))) (sv_one (sv_if (ev_cand (c_cmp (op_eqD hr.units) ok_eq (g_mod (g_sub (g_var (i := 0) (by rfl) (.inl (by rfl))) (g_var (i := 9) (by rfl) (.inl (by rfl)))) ev_int) ev_int (nomark _)) (ev_cand1 (c_cmp (op_eqD hr.units) ok_eq (g_mod (g_sub (g_var (i := 1) (by rfl) (.inl (by rfl))) (g_var (i := 8) (by rfl) (.inl (by rfl)))) ev_int) ev_int (nomark _)))).pt (sv_cons (g_set (i := 10) S.nd (by rfl) (.inl (by rfl)) (g_add (g_b2 (call_max2 (by rfl)) ok_max2 bt_max (by rfl) x.b_max (g_b1 call_abs ok_abs bt_abs (by rfl) x.b_abs (g_var (i := 0) (by rfl) (.inl (by rfl)))) (g_b1 call_abs ok_abs bt_abs (by rfl) x.b_abs (g_var (i := 9) (by rfl) (.inl (by rfl))))) (g_b2 (call_max2 (by rfl)) ok_max2 bt_max (by rfl) x.b_max (g_b1 call_abs ok_abs bt_abs (by rfl) x.b_abs (g_var (i := 1) (by rfl) (.inl (by rfl)))) (g_b1 call_abs ok_abs bt_abs (by rfl) x.b_abs (g_var (i := 8) (by rfl) (.inl (by rfl))))))) (sv_one (sv_if (ev_cor (c_cmp or_is ok_is (g_var (i := 6) (by rfl) (.inl (by rfl))) ev_non (nomark _)) (ev_cor1 (c_cmp (or_lt hr.units0) ok_ltA (g_var (i := 10) (by rfl) (.inl (by rfl))) (g_idx (g_var (i := 6) (by rfl) (.inl (by rfl))) ev_int) (nomark _)))).pt (sv_one (g_set (i := 6) S.nd (by rfl) (.inl (by rfl)) (ev_tup (ev_acons (g_var (i := 10) (by rfl) (.inl (by rfl))) (ev_acons (g_var (i := 8) (by rfl) (.inl (by rfl))) (ev_acons (g_var (i := 9) (by rfl) (.inl (by rfl))) ev_anil)))))) sv_nil))) sv_nil)))) (sv_one (sv_ret (g_var (i := 6) (by rfl) (.inl (by rfl)))))))
theorem sc17 : FnScope ["leaper", "target", "u", "v", "w", "z", "long", "short", "middle", "found", "way", "turn", "own", "other", "some"] ["leaper", "target"] (defScope st17) := ⟨rfl, rfl, rfl, by decide +kernel, rfl, by decide +kernel, by decide +kernel⟩
/-- fewest_in -/
theorem ok17 (x : Fx K mg fa fd) (A : Al P w K mg base cl fa fd wf n) : FnOk P w K mg base CX0 (n + 1) (fa 17) (fd 17) ["leaper", "target"] (spOf ⟨K, cl⟩ (callF tab wf (n + 1) 17)) := by
  have S := sc17
  exact fn_stepD x.F17 S rfl fun cdv A0 outer s H E hr =>
    (sv_cons (g_asg (ev_call A.a14 hr (by rfl) x.g14 x.F14.kp x.B14 (ev_acons (g_var (i := 1) (by rfl) (.inl (by rfl))) (ev_acons (g_var (i := 0) (by rfl) (.inl (by rfl))) ev_anil))) (gv_tup (by rfl) (gv_cons (g_name (i := 2) S.nd (by rfl) (.inl (by rfl))) (gv_cons (g_name (i := 3) S.nd (by rfl) (.inl (by rfl))) (gv_cons (g_name (i := 4) S.nd (by rfl) (.inl (by rfl))) (gv_cons (g_name (i := 5) S.nd (by rfl) (.inl (by rfl))) (gv_cons (g_name (i := 6) S.nd (by rfl) (.inl (by rfl))) (gv_cons (g_name (i := 7) S.nd (by rfl) (.inl (by rfl))) gv_nil)))))))) (sv_cons (sv_par2 (ps_par (by rfl) S.nd (by rfl) (by rfl) (by decide) (by rfl) (by rfl) (pa_cons (g_fdiv (g_var (i := 3) (by rfl) (.inl (by rfl))) (g_var (i := 6) (by rfl) (.inl (by rfl)))) (pa_cons ev_non pa_nil)) (by rfl))) (sv_cons (g_for (by exact PassesOwn.never) (by rfl) (iv_seq (ev_tup (ev_acons ev_int (ev_acons (g_neg ev_int) ev_anil)))) (g_name (i := 10) S.nd (by rfl) (.inl (by rfl))) (sv_cons (g_set (i := 11) S.nd (by rfl) (.inl (by rfl)) (ev_ifexp (c_cmp (op_eqD hr.units) ok_eq (g_var (i := 10) (by rfl) (.inl (by rfl))) ev_int (nomark _)) (g_var (i := 8) (by rfl) (.inl (by rfl))) (g_sub (g_var (i := 8) (by rfl) (.inl (by rfl))) ev_int))) (sv_one (g_while (by exact PassesOwn.never) (ev_cor (c_cmp or_is ok_is (g_var (i := 9) (by rfl) (.inl (by rfl))) ev_non (nomark _)) (ev_cor1 (c_cmp (or_lt hr.units0) ok_ltA (g_add (g_b1 call_abs ok_abs bt_abs (by rfl) x.b_abs (g_add (g_var (i := 2) (by rfl) (.inl (by rfl))) (g_mul (g_var (i := 7) (by rfl) (.inl (by rfl))) (g_var (i := 11) (by rfl) (.inl (by rfl)))))) (g_b1 call_abs ok_abs bt_abs (by rfl) x.b_abs (g_sub (g_var (i := 3) (by rfl) (.inl (by rfl))) (g_mul (g_var (i := 6) (by rfl) (.inl (by rfl))) (g_var (i := 11) (by rfl) (.inl (by rfl))))))) (g_idx (g_var (i := 9) (by rfl) (.inl (by rfl))) ev_int) (nomark _)))).pt (sv_cons (sv_par2 (ps_par (by rfl) S.nd (by rfl) (by rfl) (by decide) (by rfl) (by rfl) (pa_cons (g_add (g_var (i := 2) (by rfl) (.inl (by rfl))) (g_mul (g_var (i := 7) (by rfl) (.inl (by rfl))) (g_var (i := 11) (by rfl) (.inl (by rfl))))) (pa_cons (g_sub (g_var (i := 3) (by rfl) (.inl (by rfl))) (g_mul (g_var (i := 6) (by rfl) (.inl (by rfl))) (g_var (i := 11) (by rfl) (.inl (by rfl))))) pa_nil)) (by rfl))) (sv_cons (g_set (i := 14) S.nd (by rfl) (.inl (by rfl)) (ev_call A.a16 hr (by rfl) x.g16 x.F16.kp x.B16 (ev_acons (g_var (i := 12) (by rfl) (.inl (by rfl))) (ev_acons (g_var (i := 13) (by rfl) (.inl (by rfl))) (ev_acons (g_var (i := 4) (by rfl) (.inl (by rfl))) (ev_acons (g_var (i := 5) (by rfl) (.inl (by rfl))) (ev_acons (g_var (i := 6) (by rfl) (.inl (by rfl))) (ev_acons (g_var (i := 7) (by rfl) (.inl (by rfl))) ev_anil)))))))) (sv_cons (sv_if (ev_cand (c_cmp or_isnot ok_isnot (g_var (i := 14) (by rfl) (.inl (by rfl))) ev_non (nomark _)) (ev_cand1 (ev_cor (c_cmp or_is ok_is (g_var (i := 9) (by rfl) (.inl (by rfl))) ev_non (nomark _)) (ev_cor1 (c_cmp (or_lt hr.units0) ok_ltA (g_idx (g_var (i := 14) (by rfl) (.inl (by rfl))) ev_int) (g_idx (g_var (i := 9) (by rfl) (.inl (by rfl))) ev_int) (nomark _)))).pt)).pt (sv_one (g_set (i := 9) S.nd (by rfl) (.inl (by rfl)) (ev_tup (ev_acons (g_idx (g_var (i := 14) (by rfl) (.inl (by rfl))) ev_int) (ev_acons (g_var (i := 12) (by rfl) (.inl (by rfl))) (ev_acons (g_var (i := 13) (by rfl) (.inl (by rfl))) (ev_acons (g_idx (g_var (i := 14) (by rfl) (.inl (by rfl))) ev_int) (ev_acons (g_idx (g_var (i := 14) (by rfl) (.inl (by rfl))) ev_int) ev_anil)))))))) sv_nil) (sv_one (g_set (i := 11) S.nd (by rfl) (.inl (by rfl)) (g_add (g_var (i := 11) (by rfl) (.inl (by rfl))) (g_var (i := 10) (by rfl) (.inl (by rfl))))))))))))) (sv_one (sv_ret (g_var (i := 9) (by rfl) (.inl (by rfl))))))))
theorem sc18 : FnScope ["leaper"] ["leaper"] (defScope st18) := ⟨rfl, rfl, rfl, by decide +kernel, rfl, by decide +kernel, by decide +kernel⟩
/-- leaps_of -/
theorem ok18 (x : Fx K mg fa fd) (A : Al P w K mg base cl fa fd wf n) : FnOk P w K mg base CX0 (n + 1) (fa 18) (fd 18) ["leaper"] (spOf ⟨K, cl⟩ (callF tab wf (n + 1) 18)) := by
  have S := sc18
  exact fn_stepD x.F18 S rfl fun cdv A0 outer s H E hr =>
    (sv_cons (sv_expr (ev_call A.a6 hr (by rfl) x.g6 x.F6.kp x.B6 (ev_acons (g_var (i := 0) (by rfl) (.inl (by rfl))) ev_anil))) (sv_one (sv_ret (g_t1 call_tuple_of ok_tuple bt_tuple (by rfl) x.b_tuple (ev_call A.a10 hr (by rfl) x.g10 x.F10.kp x.B10 (ev_acons (g_var (i := 0) (by rfl) (.inl (by rfl))) ev_anil))))))
theorem sc19 : FnScope ["leaper", "target"] ["leaper", "target"] (defScope st19) := ⟨rfl, rfl, rfl, by decide +kernel, rfl, by decide +kernel, by decide +kernel⟩
/-- fewest_leaps -/
theorem ok19 (x : Fx K mg fa fd) (A : Al P w K mg base cl fa fd wf n) : FnOk P w K mg base CX0 (n + 1) (fa 19) (fd 19) ["leaper", "target"] (spOf ⟨K, cl⟩ (callF tab wf (n + 1) 19)) := by
  have S := sc19
  exact fn_stepD x.F19 S rfl fun cdv A0 outer s H E hr =>
    (sv_cons (sv_expr (ev_call A.a6 hr (by rfl) x.g6 x.F6.kp x.B6 (ev_acons (g_var (i := 0) (by rfl) (.inl (by rfl))) ev_anil))) (sv_cons (sv_expr (ev_call A.a8 hr (by rfl) x.g8 x.F8.kp x.B8 (ev_acons (g_var (i := 1) (by rfl) (.inl (by rfl))) (ev_acons (g_cint x.c_NEAR (by rfl)) ev_anil)))) (sv_one (sv_ret (ev_ifexp (c_val (ev_call A.a13 hr (by rfl) x.g13 x.F13.kp x.B13 (ev_acons (g_var (i := 0) (by rfl) (.inl (by rfl))) (ev_acons (g_var (i := 1) (by rfl) (.inl (by rfl))) ev_anil)))) (g_idx (ev_call A.a17 hr (by rfl) x.g17 x.F17.kp x.B17 (ev_acons (g_var (i := 0) (by rfl) (.inl (by rfl))) (ev_acons (g_var (i := 1) (by rfl) (.inl (by rfl))) ev_anil))) ev_int) ev_non)))))
theorem sc20 : FnScope ["leaper", "many", "leaps", "found", "turn", "later", "row", "column", "ways", "down", "across", "pair"] ["leaper", "many"] (defScope st20) := ⟨rfl, rfl, rfl, by decide +kernel, rfl, by decide +kernel, by decide +kernel⟩
/-- rows_in -/
theorem ok20 (x : Fx K mg fa fd) (A : Al P w K mg base cl fa fd wf n) : FnOk P w K mg base CX0 (n + 1) (fa 20) (fd 20) ["leaper", "many"] (spOf ⟨K, cl⟩ (callF tab wf (n + 1) 20)) := by
  have S := sc20
  exact fn_stepD x.F20 S rfl fun cdv A0 outer s H E hr =>
    (sv_cons (sv_par2 (ps_par (by rfl) S.nd (by rfl) (by rfl) (by decide) (by rfl) (by rfl) (pa_cons (ev_call A.a10 hr (by rfl) x.g10 x.F10.kp x.B10 (ev_acons (g_var (i := 0) (by rfl) (.inl (by rfl))) ev_anil)) (pa_cons (g_dct1 hr.units1 (ev_tup (ev_acons ev_int (ev_acons ev_int ev_anil))) ev_int) pa_nil)) (by rfl))) (sv_cons (g_for (by exact PassesOwn.never) (by rfl) (iv_r1 (by rfl) x.b_range (ev_acons (g_var (i := 1) (by rfl) (.inl (by rfl))) ev_anil)) (g_name (i := 4) S.nd (by rfl) (.inl (by rfl))) (sv_cons (g_own (i := 5) S.nd (by rfl) (.inl (by rfl)) ev_dctT) (sv_cons (g_for (by exact PassesOwn.never) (by rfl) (iv_items (g_var (i := 3) (by rfl) (.inl (by rfl)))) (gv_tup (by rfl) (gv_cons (gv_tup (by rfl) (gv_cons (g_name (i := 6) S.nd (by rfl) (.inl (by rfl))) (gv_cons (g_name (i := 7) S.nd (by rfl) (.inl (by rfl))) gv_nil))) (gv_cons (g_name (i := 8) S.nd (by rfl) (.inl (by rfl))) gv_nil))) (sv_one (g_for (by exact PassesOwn.never) (by rfl) (iv_seq (g_var (i := 2) (by rfl) (.inl (by rfl)))) (gv_tup (by rfl) (gv_cons (g_name (i := 9) S.nd (by rfl) (.inl (by rfl))) (gv_cons (g_name (i := 10) S.nd (by rfl) (.inl (by rfl))) gv_nil))) (sv_cons (g_set (i := 11) S.nd (by rfl) (.inl (by rfl)) (ev_tup (ev_acons (g_add (g_var (i := 6) (by rfl) (.inl (by rfl))) (g_var (i := 9) (by rfl) (.inl (by rfl)))) (ev_acons (g_add (g_var (i := 7) (by rfl) (.inl (by rfl))) (g_var (i := 10) (by rfl) (.inl (by rfl)))) ev_anil)))) (sv_one (g_putD hr.units65 (g_add (g_get2 hr.units65 (g_var (i := 5) (by rfl) (.inl (by rfl))) (g_var (i := 11) (by rfl) (.inl (by rfl))) ev_int ⟨rfl, rfl, rfl, rfl⟩) (g_var (i := 8) (by rfl) (.inl (by rfl)))) (g_var (i := 5) (by rfl) (.inl (by rfl))) (g_var (i := 11) (by rfl) (.inl (by rfl))))))))) (sv_one (g_own (i := 3) S.nd (by rfl) (.inl (by rfl)) (g_var (i := 5) (by rfl) (.inl (by rfl)))))))) (sv_one (sv_ret (g_var (i := 3) (by rfl) (.inl (by rfl)))))))
theorem sc21 : FnScope ["leaper", "many"] ["leaper", "many"] (defScope st21) := ⟨rfl, rfl, rfl, by decide +kernel, rfl, by decide +kernel, by decide +kernel⟩
/-- need_two -/
theorem ok21 (x : Fx K mg fa fd) (A : Al P w K mg base cl fa fd wf n) : FnOk P w K mg base CX0 (n + 1) (fa 21) (fd 21) ["leaper", "many"] (spOf ⟨K, cl⟩ (callF tab wf (n + 1) 21)) := by
  have S := sc21
  exact fn_stepD x.F21 S rfl fun cdv A0 outer s H E hr =>
    (sv_cons (sv_expr (ev_call A.a6 hr (by rfl) x.g6 x.F6.kp x.B6 (ev_acons (g_var (i := 0) (by rfl) (.inl (by rfl))) ev_anil))) (sv_one (sv_expr (ev_call A.a9 hr (by rfl) x.g9 x.F9.kp x.B9 (ev_acons (g_var (i := 1) (by rfl) (.inl (by rfl))) ev_anil)))))
theorem sc22 : FnScope ["leaper", "target", "many"] ["leaper", "target", "many"] (defScope st22) := ⟨rfl, rfl, rfl, by decide +kernel, rfl, by decide +kernel, by decide +kernel⟩
/-- count_leap_rows -/
theorem ok22 (x : Fx K mg fa fd) (A : Al P w K mg base cl fa fd wf n) : FnOk P w K mg base CX0 (n + 1) (fa 22) (fd 22) ["leaper", "target", "many"] (spOf ⟨K, cl⟩ (callF tab wf (n + 1) 22)) := by
  have S := sc22
  exact fn_stepD x.F22 S rfl fun cdv A0 outer s H E hr =>
    (sv_cons (sv_expr (ev_call A.a6 hr (by rfl) x.g6 x.F6.kp x.B6 (ev_acons (g_var (i := 0) (by rfl) (.inl (by rfl))) ev_anil))) (sv_cons (sv_expr (ev_call A.a8 hr (by rfl) x.g8 x.F8.kp x.B8 (ev_acons (g_var (i := 1) (by rfl) (.inl (by rfl))) (ev_acons (g_cint x.c_NEAR (by rfl)) ev_anil)))) (sv_cons (sv_expr (ev_call A.a9 hr (by rfl) x.g9 x.F9.kp x.B9 (ev_acons (g_var (i := 2) (by rfl) (.inl (by rfl))) ev_anil))) (sv_one (sv_ret (g_get2 hr.units65 (ev_call A.a20 hr (by rfl) x.g20 x.F20.kp x.B20 (ev_acons (g_var (i := 0) (by rfl) (.inl (by rfl))) (ev_acons (g_var (i := 2) (by rfl) (.inl (by rfl))) ev_anil))) (g_var (i := 1) (by rfl) (.inl (by rfl))) ev_int ⟨rfl, rfl, rfl, rfl⟩))))))
theorem sc23 : FnScope ["leaper", "many"] ["leaper", "many"] (defScope st23) := ⟨rfl, rfl, rfl, by decide +kernel, rfl, by decide +kernel, by decide +kernel⟩
/-- count_back_rows -/
theorem ok23 (x : Fx K mg fa fd) (A : Al P w K mg base cl fa fd wf n) : FnOk P w K mg base CX0 (n + 1) (fa 23) (fd 23) ["leaper", "many"] (spOf ⟨K, cl⟩ (callF tab wf (n + 1) 23)) := by
  have S := sc23
  exact fn_stepD x.F23 S rfl fun cdv A0 outer s H E hr =>
    (sv_cons (sv_expr (ev_call A.a21 hr (by rfl) x.g21 x.F21.kp x.B21 (ev_acons (g_var (i := 0) (by rfl) (.inl (by rfl))) (ev_acons (g_var (i := 1) (by rfl) (.inl (by rfl))) ev_anil)))) (sv_one (sv_ret (g_get2 hr.units65 (ev_call A.a20 hr (by rfl) x.g20 x.F20.kp x.B20 (ev_acons (g_var (i := 0) (by rfl) (.inl (by rfl))) (ev_acons (g_var (i := 1) (by rfl) (.inl (by rfl))) ev_anil))) (ev_tup (ev_acons ev_int (ev_acons ev_int ev_anil))) ev_int ⟨rfl, rfl, rfl, rfl⟩))))
theorem sc24 : FnScope ["script", "cell"] ["script"] (defScope st24) := ⟨rfl, rfl, rfl, by decide +kernel, rfl, by decide +kernel, by decide +kernel⟩
/-- _law_cup -/
theorem ok24 (x : Fx K mg fa fd) (A : Al P w K mg base cl fa fd wf n) : FnOk P w K mg base CX0 (n + 1) (fa 24) (fd 24) ["script"] (spOf ⟨K, cl⟩ (callF tab wf (n + 1) 24)) := by
  have S := sc24
  exact fn_stepD x.F24 S rfl fun cdv A0 outer s H E hr =>
    (sv_cons (g_set (i := 1) S.nd (by rfl) (.inl (by rfl)) (g_b1 call_abs ok_abs bt_abs (by rfl) x.b_abs (g_idx (g_add (g_t1 call_list_of ok_list bt_list (by rfl) x.b_list (g_var (i := 0) (by rfl) (.inl (by rfl)))) (ev_lst (ev_acons ev_int ev_anil))) ev_int))) (sv_one (sv_ret (ev_new (ev_lst (ev_acons (ev_ifexp (c_cmp op_ge ok_cmp (g_var (i := 1) (by rfl) (.inl (by rfl))) (g_pow ev_int ev_int) (nomark _)) (g_fdiv (g_var (i := 1) (by rfl) (.inl (by rfl))) ev_int) ev_int) (ev_acons (g_add (g_mod (g_t1 call_int1 ok_int bt_int (by rfl) x.b_int (g_add (g_mul (g_var (i := 1) (by rfl) (.inl (by rfl))) ev_int) ev_int)) ev_int) ev_int) ev_anil)))))))
theorem sc25 : FnScope ["cup", "many", "found", "deep"] ["cup", "many"] (defScope st25) := ⟨rfl, rfl, rfl, by decide +kernel, rfl, by decide +kernel, by decide +kernel⟩
/-- _law_roll -/
theorem ok25 (x : Fx K mg fa fd) (A : Al P w K mg base cl fa fd wf n) : FnOk P w K mg base CX0 (n + 1) (fa 25) (fd 25) ["cup", "many"] (spOf ⟨K, cl⟩ (callF tab wf (n + 1) 25)) := by
  have S := sc25
  exact fn_stepD x.F25 S rfl fun cdv A0 outer s H E hr =>
    (sv_cons (sv_if (c_cmp op_gt ok_cmp (g_idx (g_var (i := 0) (by rfl) (.inl (by rfl))) ev_int) ev_int (nomark _)) (sv_cons (g_set (i := 2) S.nd (by rfl) (.inl (by rfl)) (g_mod (g_t1 call_int1 ok_int bt_int (by rfl) x.b_int (g_idx (g_var (i := 0) (by rfl) (.inl (by rfl))) ev_int)) (g_var (i := 1) (by rfl) (.inl (by rfl))))) (sv_cons (g_put (g_fdiv (g_idx (g_var (i := 0) (by rfl) (.inl (by rfl))) ev_int) (g_var (i := 1) (by rfl) (.inl (by rfl)))) (g_var (i := 0) (by rfl) (.inl (by rfl))) ev_int) (sv_one (sv_ret (g_var (i := 2) (by rfl) (.inl (by rfl))))))) sv_nil) (sv_cons (g_put (g_mod (g_t1 call_int1 ok_int bt_int (by rfl) x.b_int (g_add (g_mul (g_idx (g_var (i := 0) (by rfl) (.inl (by rfl))) ev_int) ev_int) ev_int)) ev_int) (g_var (i := 0) (by rfl) (.inl (by rfl))) ev_int) (sv_cons (g_set (i := 3) S.nd (by rfl) (.inl (by rfl)) (g_mod (g_t1 call_int1 ok_int bt_int (by rfl) x.b_int (g_mul (g_idx (g_var (i := 0) (by rfl) (.inl (by rfl))) ev_int) (g_add (g_idx (g_var (i := 0) (by rfl) (.inl (by rfl))) ev_int) ev_int))) ev_int)) (sv_one (sv_ret (g_mod (g_t1 call_int1 ok_int bt_int (by rfl) x.b_int (g_fdiv (g_var (i := 3) (by rfl) (.inl (by rfl))) ev_int)) (g_var (i := 1) (by rfl) (.inl (by rfl)))))))))
theorem sc26 : FnScope ["cup", "things"] ["cup", "things"] (defScope st26) := ⟨rfl, rfl, rfl, by decide +kernel, rfl, by decide +kernel, by decide +kernel⟩
/-- _law_some -/
theorem ok26 (x : Fx K mg fa fd) (A : Al P w K mg base cl fa fd wf n) : FnOk P w K mg base CX0 (n + 1) (fa 26) (fd 26) ["cup", "things"] (spOf ⟨K, cl⟩ (callF tab wf (n + 1) 26)) := by
  have S := sc26
  exact fn_stepD x.F26 S rfl fun cdv A0 outer s H E hr =>
    (sv_one (sv_ret (g_idx (g_var (i := 1) (by rfl) (.inl (by rfl))) (ev_call A.a25 hr (by rfl) x.g25 x.F25.kp x.B25 (ev_acons (g_var (i := 0) (by rfl) (.inl (by rfl))) (ev_acons (g_b1 call_len ok_len bt_len (by rfl) x.b_len (g_var (i := 1) (by rfl) (.inl (by rfl)))) ev_anil))))))
theorem sc27 : FnScope ["value"] ["value"] (defScope st27) := ⟨rfl, rfl, rfl, by decide +kernel, rfl, by decide +kernel, by decide +kernel⟩
/-- _law_sort -/
theorem ok27 (x : Fx K mg fa fd) (A : Al P w K mg base cl fa fd wf n) : FnOk P w K mg base CX0 (n + 1) (fa 27) (fd 27) ["value"] (spOf ⟨K, cl⟩ (callF tab wf (n + 1) 27)) := by
  have S := sc27
  exact fn_stepD x.F27 S rfl fun cdv A0 outer s H E hr =>
    (sv_cons (sv_if (ev_cor (c_cmp or_is ok_is (g_var (i := 0) (by rfl) (.inl (by rfl))) ev_non (nomark _)) (ev_cor1 (c_val (g_isT (T := "bool") (by rfl) x.b_isinstance (by rfl) x.b_bool bt_bool (g_var (i := 0) (by rfl) (.inl (by rfl))))))).pt (sv_one (sv_ret (ev_ifexp (c_cmp or_is ok_is (g_var (i := 0) (by rfl) (.inl (by rfl))) ev_non (nomark _)) ev_int ev_int))) sv_nil) (sv_cons (sv_if (ev_cor (c_val (g_isT (T := "int") (by rfl) x.b_isinstance (by rfl) x.b_int bt_int (g_var (i := 0) (by rfl) (.inl (by rfl))))) (ev_cor1 (c_val (g_isT (T := "str") (by rfl) x.b_isinstance (by rfl) x.b_str bt_str (g_var (i := 0) (by rfl) (.inl (by rfl))))))).pt (sv_one (sv_ret (ev_ifexp (c_val (g_isT (T := "int") (by rfl) x.b_isinstance (by rfl) x.b_int bt_int (g_var (i := 0) (by rfl) (.inl (by rfl))))) ev_int ev_int))) sv_nil) (sv_one (sv_ret (ev_ifexp (c_val (g_isT (T := "tuple") (by rfl) x.b_isinstance (by rfl) x.b_tuple bt_tuple (g_var (i := 0) (by rfl) (.inl (by rfl))))) ev_int (ev_ifexp (c_val (g_isT (T := "list") (by rfl) x.b_isinstance (by rfl) x.b_list bt_list (g_var (i := 0) (by rfl) (.inl (by rfl))))) ev_int ev_int))))))
theorem sc28 : FnScope ["one", "other", "sort", "first", "second"] ["one", "other"] (defScope st28) := ⟨rfl, rfl, rfl, by decide +kernel, rfl, by decide +kernel, by decide +kernel⟩
/-- _law_like -/
theorem ok28 (x : Fx K mg fa fd) (A : Al P w K mg base cl fa fd wf n) : FnOk P w K mg base CX0 (n + 1) (fa 28) (fd 28) ["one", "other"] (spOf ⟨K, cl⟩ (callF tab wf (n + 1) 28)) := by
  have S := sc28
  exact fn_stepD x.F28 S rfl fun cdv A0 outer s H E hr =>
    (sv_cons (g_set (i := 2) S.nd (by rfl) (.inl (by rfl)) (ev_call A.a27 hr (by rfl) x.g27 x.F27.kp x.B27 (ev_acons (g_var (i := 1) (by rfl) (.inl (by rfl))) ev_anil))) (sv_cons (sv_if (ev_cor (c_cmp (op_neD hr.units) ok_ne (ev_call A.a27 hr (by rfl) x.g27 x.F27.kp x.B27 (ev_acons (g_var (i := 0) (by rfl) (.inl (by rfl))) ev_anil)) (g_var (i := 2) (by rfl) (.inl (by rfl))) (nomark _)) (ev_cor1 (c_cmp (op_eqD hr.units) ok_eq (g_var (i := 2) (by rfl) (.inl (by rfl))) ev_int (nomark _)))).pt (sv_one (sv_ret ev_bl)) sv_nil) (sv_cons (sv_if (c_cmp (or_in hr.units65) ok_in (g_var (i := 2) (by rfl) (.inl (by rfl))) (ev_tup (ev_acons ev_int (ev_acons ev_int ev_anil))) (by with_unfolding_all rfl)) (sv_one (sv_ret (ev_and (g_cmp (op_eqD hr.units) ok_eq (g_b1 call_len ok_len bt_len (by rfl) x.b_len (g_var (i := 0) (by rfl) (.inl (by rfl)))) (g_b1 call_len ok_len bt_len (by rfl) x.b_len (g_var (i := 1) (by rfl) (.inl (by rfl)))) (nomark _)) (ev_one (g_cmp (op_eqD hr.units) ok_eq (g_lc (own := [("first", 3), ("second", 4)]) (by rfl) S.nd (blkOk_by (N := ["one", "other", "sort", "first", "second"]) (sc := defScope st28) (by decide +kernel)) (iv_zip (by rfl) x.b_zip (ev_acons (g_var (i := 0) (by rfl) (.inl (by rfl))) (ev_acons (g_var (i := 1) (by rfl) (.inl (by rfl))) ev_anil))) (fun _ _ _ _ _ => (gv_tup (by rfl) (gv_cons (g_name (i := 3) S.nd (by rfl) (.inl (by rfl))) (gv_cons (g_name (i := 4) S.nd (by rfl) (.inl (by rfl))) gv_nil)))) (fun _ _ _ _ _ => (pts_one (ev_cnot (c_val (ev_call A.a28 hr (by rfl) x.g28 x.F28.kp x.B28 (ev_acons (g_var (i := 3) (by rfl) (.inl (by rfl))) (ev_acons (g_var (i := 4) (by rfl) (.inl (by rfl))) ev_anil))))))) (fun _ _ _ _ _ => ev_int)) (ev_lst ev_anil) (nomark _)))))) sv_nil) (sv_one (sv_ret (g_cmp (op_eqD hr.units) ok_eq (g_var (i := 0) (by rfl) (.inl (by rfl))) (g_var (i := 1) (by rfl) (.inl (by rfl))) (nomark _)))))))
theorem sc29 : FnScope ["cup", "a"] ["cup"] (defScope st29) := ⟨rfl, rfl, rfl, by decide +kernel, rfl, by decide +kernel, by decide +kernel⟩
/-- _law_leaper -/
theorem ok29 (x : Fx K mg fa fd) (A : Al P w K mg base cl fa fd wf n) : FnOk P w K mg base CX0 (n + 1) (fa 29) (fd 29) ["cup"] (spOf ⟨K, cl⟩ (callF tab wf (n + 1) 29)) := by
  have S := sc29
  exact fn_stepD x.F29 S rfl fun cdv A0 outer s H E hr =>
    (sv_cons (g_set (i := 1) S.nd (by rfl) (.inl (by rfl)) (g_add ev_int (ev_call A.a25 hr (by rfl) x.g25 x.F25.kp x.B25 (ev_acons (g_var (i := 0) (by rfl) (.inl (by rfl))) (ev_acons (ev_call A.a26 hr (by rfl) x.g26 x.F26.kp x.B26 (ev_acons (g_var (i := 0) (by rfl) (.inl (by rfl))) (ev_acons (ev_lst (ev_acons ev_int (ev_acons ev_int (ev_acons ev_int ev_anil)))) ev_anil))) ev_anil))))) (sv_one (sv_ret (ev_tup (ev_acons (g_var (i := 1) (by rfl) (.inl (by rfl))) (ev_acons (ev_call A.a25 hr (by rfl) x.g25 x.F25.kp x.B25 (ev_acons (g_var (i := 0) (by rfl) (.inl (by rfl))) (ev_acons (g_add (g_var (i := 1) (by rfl) (.inl (by rfl))) ev_int) ev_anil))) ev_anil))))))
theorem sc30 : FnScope ["leaper", "a", "b"] ["leaper"] (defScope st30) := ⟨rfl, rfl, rfl, by decide +kernel, rfl, by decide +kernel, by decide +kernel⟩
/-- _law_leaps -/
theorem ok30 (x : Fx K mg fa fd) (A : Al P w K mg base cl fa fd wf n) : FnOk P w K mg base CX0 (n + 1) (fa 30) (fd 30) ["leaper"] (spOf ⟨K, cl⟩ (callF tab wf (n + 1) 30)) := by
  have S := sc30
  exact fn_stepD x.F30 S rfl fun cdv A0 outer s H E hr =>
    (sv_cons (g_asg (g_var (i := 0) (by rfl) (.inl (by rfl))) (gv_tup (by rfl) (gv_cons (g_name (i := 1) S.nd (by rfl) (.inl (by rfl))) (gv_cons (g_name (i := 2) S.nd (by rfl) (.inl (by rfl))) gv_nil)))) (sv_one (sv_ret (g_sortSetA (by rfl) hr.units65 (by rfl) x.b_sorted (by rfl) x.b_set (ev_lst (ev_acons (ev_tup (ev_acons (g_var (i := 1) (by rfl) (.inl (by rfl))) (ev_acons (g_var (i := 2) (by rfl) (.inl (by rfl))) ev_anil))) (ev_acons (ev_tup (ev_acons (g_var (i := 1) (by rfl) (.inl (by rfl))) (ev_acons (g_sub ev_int (g_var (i := 2) (by rfl) (.inl (by rfl)))) ev_anil))) (ev_acons (ev_tup (ev_acons (g_sub ev_int (g_var (i := 1) (by rfl) (.inl (by rfl)))) (ev_acons (g_var (i := 2) (by rfl) (.inl (by rfl))) ev_anil))) (ev_acons (ev_tup (ev_acons (g_sub ev_int (g_var (i := 1) (by rfl) (.inl (by rfl)))) (ev_acons (g_sub ev_int (g_var (i := 2) (by rfl) (.inl (by rfl)))) ev_anil))) (ev_acons (ev_tup (ev_acons (g_var (i := 2) (by rfl) (.inl (by rfl))) (ev_acons (g_var (i := 1) (by rfl) (.inl (by rfl))) ev_anil))) (ev_acons (ev_tup (ev_acons (g_var (i := 2) (by rfl) (.inl (by rfl))) (ev_acons (g_sub ev_int (g_var (i := 1) (by rfl) (.inl (by rfl)))) ev_anil))) (ev_acons (ev_tup (ev_acons (g_sub ev_int (g_var (i := 2) (by rfl) (.inl (by rfl)))) (ev_acons (g_var (i := 1) (by rfl) (.inl (by rfl))) ev_anil))) (ev_acons (ev_tup (ev_acons (g_sub ev_int (g_var (i := 2) (by rfl) (.inl (by rfl)))) (ev_acons (g_sub ev_int (g_var (i := 1) (by rfl) (.inl (by rfl)))) ev_anil))) ev_anil)))))))))))))
theorem sc31 : FnScope ["one", "other"] ["one", "other"] (defScope st31) := ⟨rfl, rfl, rfl, by decide +kernel, rfl, by decide +kernel, by decide +kernel⟩
/-- _law_divisor -/
theorem ok31 (x : Fx K mg fa fd) (A : Al P w K mg base cl fa fd wf n) : FnOk P w K mg base CX0 (n + 1) (fa 31) (fd 31) ["one", "other"] (spOf ⟨K, cl⟩ (callF tab wf (n + 1) 31)) := by
  have S := sc31
  exact fn_stepD x.F31 S rfl fun cdv A0 outer s H E hr =>
    (sv_cons (sv_par2 (ps_par (by rfl) S.nd (by rfl) (by rfl) (by decide) (by rfl) (by rfl) (pa_cons (g_b1 call_abs ok_abs bt_abs (by rfl) x.b_abs (g_var (i := 0) (by rfl) (.inl (by rfl)))) (pa_cons (g_b1 call_abs ok_abs bt_abs (by rfl) x.b_abs (g_var (i := 1) (by rfl) (.inl (by rfl)))) pa_nil)) (by rfl))) (sv_cons (g_while (by exact PassesOwn.never) (c_cmp (op_neD hr.units) ok_ne (g_var (i := 1) (by rfl) (.inl (by rfl))) ev_int (nomark _)) (sv_one (sv_par2 (ps_par (by rfl) S.nd (by rfl) (by rfl) (by decide) (by rfl) (by rfl) (pa_cons (g_var (i := 1) (by rfl) (.inl (by rfl))) (pa_cons (g_mod (g_t1 call_int1 ok_int bt_int (by rfl) x.b_int (g_var (i := 0) (by rfl) (.inl (by rfl)))) (g_var (i := 1) (by rfl) (.inl (by rfl)))) pa_nil)) (by rfl))))) (sv_one (sv_ret (g_var (i := 0) (by rfl) (.inl (by rfl)))))))
theorem sc32 : FnScope ["leaper", "target", "step", "halving"] ["leaper", "target"] (defScope st32) := ⟨rfl, rfl, rfl, by decide +kernel, rfl, by decide +kernel, by decide +kernel⟩
/-- _law_comes -/
theorem ok32 (x : Fx K mg fa fd) (A : Al P w K mg base cl fa fd wf n) : FnOk P w K mg base CX0 (n + 1) (fa 32) (fd 32) ["leaper", "target"] (spOf ⟨K, cl⟩ (callF tab wf (n + 1) 32)) := by
  have S := sc32
  exact fn_stepD x.F32 S rfl fun cdv A0 outer s H E hr =>
    (sv_cons (g_set (i := 2) S.nd (by rfl) (.inl (by rfl)) (ev_call A.a31 hr (by rfl) x.g31 x.F31.kp x.B31 (ev_acons (g_idx (g_var (i := 0) (by rfl) (.inl (by rfl))) ev_int) (ev_acons (g_idx (g_var (i := 0) (by rfl) (.inl (by rfl))) ev_int) ev_anil)))) (sv_cons (sv_if (ev_cor (c_cmp (op_neD hr.units) ok_ne (g_mod (g_t1 call_int1 ok_int bt_int (by rfl) x.b_int (g_idx (g_var (i := 1) (by rfl) (.inl (by rfl))) ev_int)) (g_var (i := 2) (by rfl) (.inl (by rfl)))) ev_int (nomark _)) (ev_cor1 (c_cmp (op_neD hr.units) ok_ne (g_mod (g_t1 call_int1 ok_int bt_int (by rfl) x.b_int (g_idx (g_var (i := 1) (by rfl) (.inl (by rfl))) ev_int)) (g_var (i := 2) (by rfl) (.inl (by rfl)))) ev_int (nomark _)))).pt (sv_one (sv_ret ev_bl)) sv_nil) (sv_cons (g_set (i := 3) S.nd (by rfl) (.inl (by rfl)) (ev_and (g_cmp (op_eqD hr.units) ok_eq (g_mod (g_t1 call_int1 ok_int bt_int (by rfl) x.b_int (g_fdiv (g_idx (g_var (i := 0) (by rfl) (.inl (by rfl))) ev_int) (g_var (i := 2) (by rfl) (.inl (by rfl))))) ev_int) ev_int (nomark _)) (ev_one (g_cmp (op_eqD hr.units) ok_eq (g_mod (g_t1 call_int1 ok_int bt_int (by rfl) x.b_int (g_fdiv (g_idx (g_var (i := 0) (by rfl) (.inl (by rfl))) ev_int) (g_var (i := 2) (by rfl) (.inl (by rfl))))) ev_int) ev_int (nomark _))))) (sv_one (sv_ret (ev_or (ev_not (g_var (i := 3) (by rfl) (.inl (by rfl)))) (ev_one (g_cmp (op_eqD hr.units) ok_eq (g_mod (g_t1 call_int1 ok_int bt_int (by rfl) x.b_int (g_add (g_fdiv (g_idx (g_var (i := 1) (by rfl) (.inl (by rfl))) ev_int) (g_var (i := 2) (by rfl) (.inl (by rfl)))) (g_fdiv (g_idx (g_var (i := 1) (by rfl) (.inl (by rfl))) ev_int) (g_var (i := 2) (by rfl) (.inl (by rfl)))))) ev_int) ev_int (nomark _)))))))))
theorem sc33 : FnScope ["leaper", "many", "found", "turn", "later", "row", "column", "down", "across", "pair"] ["leaper", "many"] (defScope st33) := ⟨rfl, rfl, rfl, by decide +kernel, rfl, by decide +kernel, by decide +kernel⟩
/-- _law_rows -/
theorem ok33 (x : Fx K mg fa fd) (A : Al P w K mg base cl fa fd wf n) : FnOk P w K mg base CX0 (n + 1) (fa 33) (fd 33) ["leaper", "many"] (spOf ⟨K, cl⟩ (callF tab wf (n + 1) 33)) := by
  have S := sc33
  exact fn_stepD x.F33 S rfl fun cdv A0 outer s H E hr =>
    (sv_cons (g_own (i := 2) S.nd (by rfl) (.inl (by rfl)) (g_dct1 hr.units1 (ev_tup (ev_acons ev_int (ev_acons ev_int ev_anil))) ev_int)) (sv_cons (g_for (by exact PassesOwn.never) (by rfl) (iv_r1 (by rfl) x.b_range (ev_acons (g_var (i := 1) (by rfl) (.inl (by rfl))) ev_anil)) (g_name (i := 3) S.nd (by rfl) (.inl (by rfl))) (sv_cons (g_own (i := 4) S.nd (by rfl) (.inl (by rfl)) ev_dctT) (sv_cons (g_for (by exact PassesOwn.never) (by rfl) (iv_dct (g_var (i := 2) (by rfl) (.inl (by rfl)))) (gv_tup (by rfl) (gv_cons (g_name (i := 5) S.nd (by rfl) (.inl (by rfl))) (gv_cons (g_name (i := 6) S.nd (by rfl) (.inl (by rfl))) gv_nil))) (sv_one (g_for (by exact PassesOwn.never) (by rfl) (iv_seq (ev_call A.a30 hr (by rfl) x.g30 x.F30.kp x.B30 (ev_acons (g_var (i := 0) (by rfl) (.inl (by rfl))) ev_anil))) (gv_tup (by rfl) (gv_cons (g_name (i := 7) S.nd (by rfl) (.inl (by rfl))) (gv_cons (g_name (i := 8) S.nd (by rfl) (.inl (by rfl))) gv_nil))) (sv_cons (g_set (i := 9) S.nd (by rfl) (.inl (by rfl)) (ev_tup (ev_acons (g_add (g_var (i := 5) (by rfl) (.inl (by rfl))) (g_var (i := 7) (by rfl) (.inl (by rfl)))) (ev_acons (g_add (g_var (i := 6) (by rfl) (.inl (by rfl))) (g_var (i := 8) (by rfl) (.inl (by rfl)))) ev_anil)))) (sv_one (g_putD hr.units65 (g_add (g_get2 hr.units65 (g_var (i := 4) (by rfl) (.inl (by rfl))) (g_var (i := 9) (by rfl) (.inl (by rfl))) ev_int ⟨rfl, rfl, rfl, rfl⟩) (g_idxA hr.units1 (g_var (i := 2) (by rfl) (.inl (by rfl))) (ev_tup (ev_acons (g_var (i := 5) (by rfl) (.inl (by rfl))) (ev_acons (g_var (i := 6) (by rfl) (.inl (by rfl))) ev_anil))) (by intro _ _; rfl) (by intro _ _; rfl))) (g_var (i := 4) (by rfl) (.inl (by rfl))) (g_var (i := 9) (by rfl) (.inl (by rfl))))))))) (sv_one (g_own (i := 2) S.nd (by rfl) (.inl (by rfl)) (g_var (i := 4) (by rfl) (.inl (by rfl)))))))) (sv_one (sv_ret (g_var (i := 2) (by rfl) (.inl (by rfl)))))))
theorem sc34 : FnScope ["many", "some", "found", "at"] ["many", "some"] (defScope st34) := ⟨rfl, rfl, rfl, by decide +kernel, rfl, by decide +kernel, by decide +kernel⟩
/-- _law_choose -/
theorem ok34 (x : Fx K mg fa fd) (A : Al P w K mg base cl fa fd wf n) : FnOk P w K mg base CX0 (n + 1) (fa 34) (fd 34) ["many", "some"] (spOf ⟨K, cl⟩ (callF tab wf (n + 1) 34)) := by
  have S := sc34
  exact fn_stepD x.F34 S rfl fun cdv A0 outer s H E hr =>
    (sv_cons (sv_if (ev_cor (c_cmp (or_lt hr.units0) ok_ltA (g_var (i := 1) (by rfl) (.inl (by rfl))) ev_int (nomark _)) (ev_cor1 (c_cmp op_gt ok_cmp (g_var (i := 1) (by rfl) (.inl (by rfl))) (g_var (i := 0) (by rfl) (.inl (by rfl))) (nomark _)))).pt (sv_one (sv_ret ev_int)) sv_nil) (sv_cons (g_set (i := 2) S.nd (by rfl) (.inl (by rfl)) ev_int) (sv_cons (g_for (by exact PassesOwn.never) (by rfl) (iv_r1 (by rfl) x.b_range (ev_acons (g_var (i := 1) (by rfl) (.inl (by rfl))) ev_anil)) (g_name (i := 3) S.nd (by rfl) (.inl (by rfl))) (sv_one (g_set (i := 2) S.nd (by rfl) (.inl (by rfl)) (g_t1 call_int1 ok_int bt_int (by rfl) x.b_int (g_fdiv (g_mul (g_var (i := 2) (by rfl) (.inl (by rfl))) (g_sub (g_var (i := 0) (by rfl) (.inl (by rfl))) (g_var (i := 3) (by rfl) (.inl (by rfl))))) (g_add (g_var (i := 3) (by rfl) (.inl (by rfl))) ev_int)))))) (sv_one (sv_ret (g_var (i := 2) (by rfl) (.inl (by rfl))))))))
theorem sc35 : FnScope ["cup", "leaper", "most", "many", "rows", "pairs", "turn", "pair", "told", "whole", "before", "own", "leap"] ["cup", "leaper", "most"] (defScope st35) := ⟨rfl, rfl, rfl, by decide +kernel, rfl, by decide +kernel, by decide +kernel⟩
/-- _law_right -/
theorem ok35 (x : Fx K mg fa fd) (A : Al P w K mg base cl fa fd wf n) : FnOk P w K mg base CX0 (n + 1) (fa 35) (fd 35) ["cup", "leaper", "most"] (spOf ⟨K, cl⟩ (callF tab wf (n + 1) 35)) := by
  have S := sc35
  exact fn_stepD x.F35 S rfl fun cdv A0 outer s H E hr =>
    (sv_cons (g_set (i := 3) S.nd (by rfl) (.inl (by rfl)) (ev_call A.a25 hr (by rfl) x.g25 x.F25.kp x.B25 (ev_acons (g_var (i := 0) (by rfl) (.inl (by rfl))) (ev_acons (g_add (g_var (i := 2) (by rfl) (.inl (by rfl))) ev_int) ev_anil)))) (sv_cons (g_own (i := 4) S.nd (by rfl) (.inr (by rfl)) (ev_call A.a33 hr (by rfl) x.g33 x.F33.kp x.B33 (ev_acons (g_var (i := 1) (by rfl) (.inl (by rfl))) (ev_acons (g_var (i := 3) (by rfl) (.inl (by rfl))) ev_anil)))) (sv_cons (g_setLc (i := 5) (own := [("pair", 7)]) (by rfl) S.nd (blkOk_by (N := ["cup", "leaper", "most", "many", "rows", "pairs", "turn", "pair", "told", "whole", "before", "own", "leap"]) (sc := defScope st35) (by decide +kernel)) (by rfl) (by rfl) (sw_true (by rfl) (by rfl) (by rfl) (by decide +kernel)) (iv_seq (g_b1 (cr_sortA (by rfl) hr.units65) ok_sortA bt_sorted (by rfl) x.b_sorted (g_var (i := 4) (by rfl) (.inr (.inl (by rfl)))))) (fun _ _ _ _ _ => (g_name (i := 7) S.nd (by rfl) (.inl (by rfl)))) (fun _ _ _ _ _ => (pts_one (ev_cand (c_cmp (or_le hr.units0) ok_leA (g_b1 call_abs ok_abs bt_abs (by rfl) x.b_abs (g_idx (g_var (i := 7) (by rfl) (.inl (by rfl))) ev_int)) ev_int (nomark _)) (ev_cand1 (c_cmp (or_le hr.units0) ok_leA (g_b1 call_abs ok_abs bt_abs (by rfl) x.b_abs (g_idx (g_var (i := 7) (by rfl) (.inl (by rfl))) ev_int)) ev_int (nomark _)))).pt)) (fun _ _ _ _ _ => (g_var (i := 7) (by rfl) (.inl (by rfl))))).1 (sv_cons (g_for (by exact PassesOwn.never) (by rfl) (iv_r1 (by rfl) x.b_range (ev_acons ev_int ev_anil)) (g_name (i := 6) S.nd (by rfl) (.inl (by rfl))) (sv_cons (g_set (i := 7) S.nd (by rfl) (.inl (by rfl)) (ev_call A.a26 hr (by rfl) x.g26 x.F26.kp x.B26 (ev_acons (g_var (i := 0) (by rfl) (.inl (by rfl))) (ev_acons (g_var (i := 5) (by rfl) (.inl (by rfl))) ev_anil)))) (sv_cons (g_set (i := 8) S.nd (by rfl) (.inl (by rfl)) (ev_lst (ev_acons (ev_call A.a22 hr (by rfl) x.g22 x.F22.kp x.B22 (ev_acons (g_var (i := 1) (by rfl) (.inl (by rfl))) (ev_acons (g_var (i := 7) (by rfl) (.inl (by rfl))) (ev_acons (g_var (i := 3) (by rfl) (.inl (by rfl))) ev_anil)))) (ev_acons (ev_call A.a22 hr (by rfl) x.g22 x.F22.kp x.B22 (ev_acons (g_var (i := 1) (by rfl) (.inl (by rfl))) (ev_acons (ev_tup (ev_acons (g_idx (g_var (i := 7) (by rfl) (.inl (by rfl))) ev_int) (ev_acons (g_sub ev_int (g_idx (g_var (i := 7) (by rfl) (.inl (by rfl))) ev_int)) ev_anil))) (ev_acons (g_var (i := 3) (by rfl) (.inl (by rfl))) ev_anil)))) ev_anil)))) (sv_one (sv_if (ev_cor (ev_cnot (c_val (ev_call A.a28 hr (by rfl) x.g28 x.F28.kp x.B28 (ev_acons (g_var (i := 8) (by rfl) (.inl (by rfl))) (ev_acons (g_mul (ev_lst (ev_acons (g_idxA hr.units1 (g_var (i := 4) (by rfl) (.inr (.inl (by rfl)))) (g_var (i := 7) (by rfl) (.inl (by rfl))) (by intro _ _; rfl) (by intro _ _; rfl)) ev_anil)) ev_int) ev_anil))))) (ev_cor1 (c_cmp op_gt ok_cmp (ev_call A.a19 hr (by rfl) x.g19 x.F19.kp x.B19 (ev_acons (g_var (i := 1) (by rfl) (.inl (by rfl))) (ev_acons (g_var (i := 7) (by rfl) (.inl (by rfl))) ev_anil))) (g_var (i := 3) (by rfl) (.inl (by rfl))) (nomark _)))).pt (sv_one (sv_ret ev_bl)) sv_nil))))) (sv_cons (g_set (i := 7) S.nd (by rfl) (.inl (by rfl)) (ev_tup (ev_acons (g_sub (ev_call A.a25 hr (by rfl) x.g25 x.F25.kp x.B25 (ev_acons (g_var (i := 0) (by rfl) (.inl (by rfl))) (ev_acons ev_int ev_anil))) ev_int) (ev_acons (g_sub (ev_call A.a25 hr (by rfl) x.g25 x.F25.kp x.B25 (ev_acons (g_var (i := 0) (by rfl) (.inl (by rfl))) (ev_acons ev_int ev_anil))) ev_int) ev_anil)))) (sv_cons (sv_if (ev_cnot (c_val (ev_call A.a28 hr (by rfl) x.g28 x.F28.kp x.B28 (ev_acons (ev_lst (ev_acons (ev_call A.a22 hr (by rfl) x.g22 x.F22.kp x.B22 (ev_acons (g_var (i := 1) (by rfl) (.inl (by rfl))) (ev_acons (g_var (i := 7) (by rfl) (.inl (by rfl))) (ev_acons (g_var (i := 3) (by rfl) (.inl (by rfl))) ev_anil)))) (ev_acons (ev_call A.a23 hr (by rfl) x.g23 x.F23.kp x.B23 (ev_acons (g_var (i := 1) (by rfl) (.inl (by rfl))) (ev_acons (g_var (i := 3) (by rfl) (.inl (by rfl))) ev_anil))) ev_anil))) (ev_acons (ev_lst (ev_acons (g_get2 hr.units65 (g_var (i := 4) (by rfl) (.inr (.inl (by rfl)))) (g_var (i := 7) (by rfl) (.inl (by rfl))) ev_int ⟨rfl, rfl, rfl, rfl⟩) (ev_acons (g_get2 hr.units65 (g_var (i := 4) (by rfl) (.inr (.inl (by rfl)))) (ev_tup (ev_acons ev_int (ev_acons ev_int ev_anil))) ev_int ⟨rfl, rfl, rfl, rfl⟩) ev_anil))) ev_anil))))) (sv_one (sv_ret ev_bl)) sv_nil) (sv_cons (g_set (i := 9) S.nd (by rfl) (.inl (by rfl)) ev_int) (sv_cons (g_for (by exact PassesOwn.never) (by rfl) (iv_r1 (by rfl) x.b_range (ev_acons (g_var (i := 3) (by rfl) (.inl (by rfl))) ev_anil)) (g_name (i := 6) S.nd (by rfl) (.inl (by rfl))) (sv_one (g_set (i := 9) S.nd (by rfl) (.inl (by rfl)) (g_mul (g_var (i := 9) (by rfl) (.inl (by rfl))) (g_b1 call_len ok_len bt_len (by rfl) x.b_len (ev_call A.a18 hr (by rfl) x.g18 x.F18.kp x.B18 (ev_acons (g_var (i := 1) (by rfl) (.inl (by rfl))) ev_anil))))))) (sv_cons (sv_if (c_cmp (op_neD hr.units) ok_ne (g_b1 (cr_sum (by rfl)) ok_sum bt_sum (by rfl) x.b_sum (g_lc (own := [("own", 11)]) (by rfl) S.nd (blkOk_by (N := ["cup", "leaper", "most", "many", "rows", "pairs", "turn", "pair", "told", "whole", "before", "own", "leap"]) (sc := defScope st35) (by decide +kernel)) (iv_dct (g_var (i := 4) (by rfl) (.inr (.inl (by rfl))))) (fun _ _ _ _ _ => (g_name (i := 11) S.nd (by rfl) (.inl (by rfl)))) (fun _ _ _ _ _ => g_yes) (fun _ _ _ _ _ => (g_idxA hr.units1 (g_var (i := 4) (by rfl) (.inr (.inl (by rfl)))) (g_var (i := 11) (by rfl) (.inl (by rfl))) (by intro _ _; rfl) (by intro _ _; rfl))))) (g_var (i := 9) (by rfl) (.inl (by rfl))) (nomark _)) (sv_one (sv_ret ev_bl)) sv_nil) (sv_cons (sv_if (c_cmp (op_eqD hr.units) ok_eq (g_var (i := 3) (by rfl) (.inl (by rfl))) ev_int (nomark _)) (sv_one (sv_ret ev_bl)) sv_nil) (sv_cons (g_own (i := 10) S.nd (by rfl) (.inr (by rfl)) (ev_call A.a33 hr (by rfl) x.g33 x.F33.kp x.B33 (ev_acons (g_var (i := 1) (by rfl) (.inl (by rfl))) (ev_acons (g_sub (g_var (i := 3) (by rfl) (.inl (by rfl))) ev_int) ev_anil)))) (sv_one (sv_ret (g_cmp (op_eqD hr.units) ok_eq (ev_call A.a23 hr (by rfl) x.g23 x.F23.kp x.B23 (ev_acons (g_var (i := 1) (by rfl) (.inl (by rfl))) (ev_acons (g_var (i := 3) (by rfl) (.inl (by rfl))) ev_anil))) (g_b1 (cr_sum (by rfl)) ok_sum bt_sum (by rfl) x.b_sum (g_lc (own := [("leap", 12)]) (by rfl) S.nd (blkOk_by (N := ["cup", "leaper", "most", "many", "rows", "pairs", "turn", "pair", "told", "whole", "before", "own", "leap"]) (sc := defScope st35) (by decide +kernel)) (iv_seq (ev_call A.a30 hr (by rfl) x.g30 x.F30.kp x.B30 (ev_acons (g_var (i := 1) (by rfl) (.inl (by rfl))) ev_anil))) (fun _ _ _ _ _ => (g_name (i := 12) S.nd (by rfl) (.inl (by rfl)))) (fun _ _ _ _ _ => g_yes) (fun _ _ _ _ _ => (g_get2 hr.units65 (g_var (i := 10) (by rfl) (.inr (.inl (by rfl)))) (g_var (i := 12) (by rfl) (.inl (by rfl))) ev_int ⟨rfl, rfl, rfl, rfl⟩)))) (nomark _)))))))))))))))
theorem sc36 : FnScope ["cup", "many", "x", "y", "one", "other", "times", "told", "half"] ["cup"] (defScope st36) := ⟨rfl, rfl, rfl, by decide +kernel, rfl, by decide +kernel, by decide +kernel⟩
/-- _law_formula_right -/
theorem ok36 (x : Fx K mg fa fd) (A : Al P w K mg base cl fa fd wf n) : FnOk P w K mg base CX0 (n + 1) (fa 36) (fd 36) ["cup"] (spOf ⟨K, cl⟩ (callF tab wf (n + 1) 36)) := by
  have S := sc36
  exact fn_stepD x.F36 S rfl fun cdv A0 outer s H E hr =>
    (sv_cons (sv_par3 (ps_par3 (by rfl) S.nd (by rfl) (by rfl) (by rfl) (by decide) (by decide) (by decide) (by rfl) (by rfl) (by rfl) (pa_cons (ev_call A.a25 hr (by rfl) x.g25 x.F25.kp x.B25 (ev_acons (g_var (i := 0) (by rfl) (.inl (by rfl))) (ev_acons ev_int ev_anil))) (pa_cons (g_sub (ev_call A.a25 hr (by rfl) x.g25 x.F25.kp x.B25 (ev_acons (g_var (i := 0) (by rfl) (.inl (by rfl))) (ev_acons ev_int ev_anil))) ev_int) (pa_cons (g_sub (ev_call A.a25 hr (by rfl) x.g25 x.F25.kp x.B25 (ev_acons (g_var (i := 0) (by rfl) (.inl (by rfl))) (ev_acons ev_int ev_anil))) ev_int) pa_nil))) (by rfl))) (sv_cons (g_asg (ev_tup (ev_acons ev_int (ev_acons ev_int ev_anil))) (gv_tup (by rfl) (gv_cons (g_name (i := 4) S.nd (by rfl) (.inl (by rfl))) (gv_cons (g_name (i := 5) S.nd (by rfl) (.inl (by rfl))) gv_nil)))) (sv_cons (sv_if (c_cmp (op_eqD hr.units) ok_eq (g_mod (g_t1 call_int1 ok_int bt_int (by rfl) x.b_int (g_add (g_add (g_var (i := 1) (by rfl) (.inl (by rfl))) (g_var (i := 2) (by rfl) (.inl (by rfl)))) (g_var (i := 3) (by rfl) (.inl (by rfl))))) ev_int) ev_int (nomark _)) (sv_one (g_set (i := 4) S.nd (by rfl) (.inl (by rfl)) (g_mul (ev_call A.a34 hr (by rfl) x.g34 x.F34.kp x.B34 (ev_acons (g_var (i := 1) (by rfl) (.inl (by rfl))) (ev_acons (g_t1 call_int1 ok_int bt_int (by rfl) x.b_int (g_fdiv (g_add (g_add (g_var (i := 1) (by rfl) (.inl (by rfl))) (g_var (i := 2) (by rfl) (.inl (by rfl)))) (g_var (i := 3) (by rfl) (.inl (by rfl)))) ev_int)) ev_anil))) (ev_call A.a34 hr (by rfl) x.g34 x.F34.kp x.B34 (ev_acons (g_var (i := 1) (by rfl) (.inl (by rfl))) (ev_acons (g_t1 call_int1 ok_int bt_int (by rfl) x.b_int (g_fdiv (g_sub (g_add (g_var (i := 1) (by rfl) (.inl (by rfl))) (g_var (i := 2) (by rfl) (.inl (by rfl)))) (g_var (i := 3) (by rfl) (.inl (by rfl)))) ev_int)) ev_anil)))))) sv_nil) (sv_cons (sv_if (ev_cand (c_cmp (op_eqD hr.units) ok_eq (g_mod (g_t1 call_int1 ok_int bt_int (by rfl) x.b_int (g_add (g_var (i := 1) (by rfl) (.inl (by rfl))) (g_var (i := 2) (by rfl) (.inl (by rfl))))) ev_int) ev_int (nomark _)) (ev_cand1 (c_cmp (op_eqD hr.units) ok_eq (g_mod (g_t1 call_int1 ok_int bt_int (by rfl) x.b_int (g_add (g_var (i := 1) (by rfl) (.inl (by rfl))) (g_var (i := 3) (by rfl) (.inl (by rfl))))) ev_int) ev_int (nomark _)))).pt (sv_one (g_set (i := 5) S.nd (by rfl) (.inl (by rfl)) (g_mul (ev_call A.a34 hr (by rfl) x.g34 x.F34.kp x.B34 (ev_acons (g_var (i := 1) (by rfl) (.inl (by rfl))) (ev_acons (g_t1 call_int1 ok_int bt_int (by rfl) x.b_int (g_fdiv (g_add (g_var (i := 1) (by rfl) (.inl (by rfl))) (g_var (i := 2) (by rfl) (.inl (by rfl)))) ev_int)) ev_anil))) (ev_call A.a34 hr (by rfl) x.g34 x.F34.kp x.B34 (ev_acons (g_var (i := 1) (by rfl) (.inl (by rfl))) (ev_acons (g_t1 call_int1 ok_int bt_int (by rfl) x.b_int (g_fdiv (g_add (g_var (i := 1) (by rfl) (.inl (by rfl))) (g_var (i := 3) (by rfl) (.inl (by rfl)))) ev_int)) ev_anil)))))) sv_nil) (sv_cons (g_set (i := 6) S.nd (by rfl) (.inl (by rfl)) (g_add ev_int (ev_call A.a25 hr (by rfl) x.g25 x.F25.kp x.B25 (ev_acons (g_var (i := 0) (by rfl) (.inl (by rfl))) (ev_acons ev_int ev_anil))))) (sv_cons (g_set (i := 7) S.nd (by rfl) (.inl (by rfl)) (ev_lst (ev_acons (ev_call A.a22 hr (by rfl) x.g22 x.F22.kp x.B22 (ev_acons (ev_tup (ev_acons ev_int (ev_acons ev_int ev_anil))) (ev_acons (ev_tup (ev_acons (g_var (i := 2) (by rfl) (.inl (by rfl))) (ev_acons (g_var (i := 3) (by rfl) (.inl (by rfl))) ev_anil))) (ev_acons (g_var (i := 1) (by rfl) (.inl (by rfl))) ev_anil)))) (ev_acons (ev_call A.a22 hr (by rfl) x.g22 x.F22.kp x.B22 (ev_acons (ev_tup (ev_acons ev_int (ev_acons ev_int ev_anil))) (ev_acons (ev_tup (ev_acons (g_var (i := 2) (by rfl) (.inl (by rfl))) (ev_acons (g_var (i := 3) (by rfl) (.inl (by rfl))) ev_anil))) (ev_acons (g_var (i := 1) (by rfl) (.inl (by rfl))) ev_anil)))) (ev_acons (ev_call A.a22 hr (by rfl) x.g22 x.F22.kp x.B22 (ev_acons (ev_tup (ev_acons (g_var (i := 6) (by rfl) (.inl (by rfl))) (ev_acons ev_int ev_anil))) (ev_acons (ev_tup (ev_acons (g_mul (g_var (i := 2) (by rfl) (.inl (by rfl))) (g_var (i := 6) (by rfl) (.inl (by rfl)))) (ev_acons (g_mul (g_var (i := 3) (by rfl) (.inl (by rfl))) (g_var (i := 6) (by rfl) (.inl (by rfl)))) ev_anil))) (ev_acons (g_var (i := 1) (by rfl) (.inl (by rfl))) ev_anil)))) ev_anil))))) (sv_cons (sv_if (ev_cnot (c_val (ev_call A.a28 hr (by rfl) x.g28 x.F28.kp x.B28 (ev_acons (g_var (i := 7) (by rfl) (.inl (by rfl))) (ev_acons (ev_lst (ev_acons (g_var (i := 4) (by rfl) (.inl (by rfl))) (ev_acons (g_var (i := 5) (by rfl) (.inl (by rfl))) (ev_acons (g_var (i := 4) (by rfl) (.inl (by rfl))) ev_anil)))) ev_anil))))) (sv_one (sv_ret ev_bl)) sv_nil) (sv_cons (g_set (i := 8) S.nd (by rfl) (.inl (by rfl)) (ev_ifexp (c_cmp (op_eqD hr.units) ok_eq (g_mod (g_t1 call_int1 ok_int bt_int (by rfl) x.b_int (g_var (i := 1) (by rfl) (.inl (by rfl)))) ev_int) ev_int (nomark _)) (g_mul (ev_call A.a34 hr (by rfl) x.g34 x.F34.kp x.B34 (ev_acons (g_var (i := 1) (by rfl) (.inl (by rfl))) (ev_acons (g_t1 call_int1 ok_int bt_int (by rfl) x.b_int (g_fdiv (g_var (i := 1) (by rfl) (.inl (by rfl))) ev_int)) ev_anil))) (ev_call A.a34 hr (by rfl) x.g34 x.F34.kp x.B34 (ev_acons (g_var (i := 1) (by rfl) (.inl (by rfl))) (ev_acons (g_t1 call_int1 ok_int bt_int (by rfl) x.b_int (g_fdiv (g_var (i := 1) (by rfl) (.inl (by rfl))) ev_int)) ev_anil)))) ev_int)) (sv_one (sv_ret (ev_call A.a28 hr (by rfl) x.g28 x.F28.kp x.B28 (ev_acons (ev_lst (ev_acons (ev_call A.a23 hr (by rfl) x.g23 x.F23.kp x.B23 (ev_acons (ev_tup (ev_acons ev_int (ev_acons ev_int ev_anil))) (ev_acons (g_var (i := 1) (by rfl) (.inl (by rfl))) ev_anil))) (ev_acons (ev_call A.a23 hr (by rfl) x.g23 x.F23.kp x.B23 (ev_acons (ev_tup (ev_acons ev_int (ev_acons ev_int ev_anil))) (ev_acons (g_var (i := 1) (by rfl) (.inl (by rfl))) ev_anil))) (ev_acons (ev_call A.a23 hr (by rfl) x.g23 x.F23.kp x.B23 (ev_acons (ev_tup (ev_acons (g_var (i := 6) (by rfl) (.inl (by rfl))) (ev_acons (g_var (i := 6) (by rfl) (.inl (by rfl))) ev_anil))) (ev_acons (g_var (i := 1) (by rfl) (.inl (by rfl))) ev_anil))) ev_anil)))) (ev_acons (g_mul (ev_lst (ev_acons (g_var (i := 8) (by rfl) (.inl (by rfl))) ev_anil)) ev_int) ev_anil)))))))))))))
theorem sc37 : FnScope ["told", "many"] [] (defScope st37) := ⟨rfl, rfl, rfl, by decide +kernel, rfl, by decide +kernel, by decide +kernel⟩
/-- _law_written -/
theorem ok37 (x : Fx K mg fa fd) (A : Al P w K mg base cl fa fd wf n) : FnOk P w K mg base CX0 (n + 1) (fa 37) (fd 37) [] (spOf ⟨K, cl⟩ (callF tab wf (n + 1) 37)) := by
  have S := sc37
  exact fn_stepD x.F37 S rfl fun cdv A0 outer s H E hr =>
    (sv_cons (g_set (i := 0) S.nd (by rfl) (.inl (by rfl)) (ev_lst (ev_acons (ev_call A.a22 hr (by rfl) x.g22 x.F22.kp x.B22 (ev_acons (ev_tup (ev_acons ev_int (ev_acons ev_int ev_anil))) (ev_acons (ev_tup (ev_acons ev_int (ev_acons ev_int ev_anil))) (ev_acons ev_int ev_anil)))) (ev_acons (ev_call A.a22 hr (by rfl) x.g22 x.F22.kp x.B22 (ev_acons (ev_tup (ev_acons ev_int (ev_acons ev_int ev_anil))) (ev_acons (ev_tup (ev_acons ev_int (ev_acons ev_int ev_anil))) (ev_acons ev_int ev_anil)))) (ev_acons (ev_call A.a23 hr (by rfl) x.g23 x.F23.kp x.B23 (ev_acons (ev_tup (ev_acons ev_int (ev_acons ev_int ev_anil))) (ev_acons ev_int ev_anil))) (ev_acons (ev_call A.a23 hr (by rfl) x.g23 x.F23.kp x.B23 (ev_acons (ev_tup (ev_acons ev_int (ev_acons ev_int ev_anil))) (ev_acons ev_int ev_anil))) ev_anil)))))) (sv_cons (g_set (i := 0) S.nd (by rfl) (.inl (by rfl)) (g_add (g_var (i := 0) (by rfl) (.inl (by rfl))) (ev_lst (ev_acons (ev_call A.a22 hr (by rfl) x.g22 x.F22.kp x.B22 (ev_acons (ev_tup (ev_acons ev_int (ev_acons ev_int ev_anil))) (ev_acons (ev_tup (ev_acons ev_int (ev_acons ev_int ev_anil))) (ev_acons ev_int ev_anil)))) (ev_acons (ev_call A.a23 hr (by rfl) x.g23 x.F23.kp x.B23 (ev_acons (ev_tup (ev_acons ev_int (ev_acons ev_int ev_anil))) (ev_acons ev_int ev_anil))) ev_anil))))) (sv_cons (sv_if (ev_cnot (c_val (ev_call A.a28 hr (by rfl) x.g28 x.F28.kp x.B28 (ev_acons (g_var (i := 0) (by rfl) (.inl (by rfl))) (ev_acons (ev_lst (ev_acons ev_int (ev_acons ev_int (ev_acons ev_int (ev_acons ev_int (ev_acons ev_int (ev_acons ev_int ev_anil))))))) ev_anil))))) (sv_one (sv_ret ev_bl)) sv_nil) (sv_cons (g_set (i := 0) S.nd (by rfl) (.inl (by rfl)) (g_add (g_lc (own := [("many", 1)]) (by rfl) S.nd (blkOk_by (N := ["told", "many"]) (sc := defScope st37) (by decide +kernel)) (iv_seq (ev_tup (ev_acons ev_int (ev_acons ev_int (ev_acons ev_int (ev_acons ev_int (ev_acons ev_int (ev_acons ev_int ev_anil)))))))) (fun _ _ _ _ _ => (g_name (i := 1) S.nd (by rfl) (.inl (by rfl)))) (fun _ _ _ _ _ => g_yes) (fun _ _ _ _ _ => (ev_call A.a23 hr (by rfl) x.g23 x.F23.kp x.B23 (ev_acons (ev_tup (ev_acons ev_int (ev_acons ev_int ev_anil))) (ev_acons (g_var (i := 1) (by rfl) (.inl (by rfl))) ev_anil))))) (ev_lst (ev_acons (ev_call A.a23 hr (by rfl) x.g23 x.F23.kp x.B23 (ev_acons (ev_tup (ev_acons ev_int (ev_acons ev_int ev_anil))) (ev_acons ev_int ev_anil))) (ev_acons (ev_call A.a22 hr (by rfl) x.g22 x.F22.kp x.B22 (ev_acons (ev_tup (ev_acons ev_int (ev_acons ev_int ev_anil))) (ev_acons (ev_tup (ev_acons ev_int (ev_acons ev_int ev_anil))) (ev_acons ev_int ev_anil)))) ev_anil))))) (sv_cons (g_set (i := 0) S.nd (by rfl) (.inl (by rfl)) (g_add (g_var (i := 0) (by rfl) (.inl (by rfl))) (ev_lst (ev_acons (ev_call A.a22 hr (by rfl) x.g22 x.F22.kp x.B22 (ev_acons (ev_tup (ev_acons ev_int (ev_acons ev_int ev_anil))) (ev_acons (ev_tup (ev_acons (g_neg ev_int) (ev_acons ev_int ev_anil))) (ev_acons ev_int ev_anil)))) (ev_acons (ev_call A.a23 hr (by rfl) x.g23 x.F23.kp x.B23 (ev_acons (ev_tup (ev_acons ev_int (ev_acons ev_int ev_anil))) (ev_acons ev_int ev_anil))) ev_anil))))) (sv_one (sv_ret (ev_call A.a28 hr (by rfl) x.g28 x.F28.kp x.B28 (ev_acons (g_var (i := 0) (by rfl) (.inl (by rfl))) (ev_acons (ev_lst (ev_acons ev_int (ev_acons ev_int (ev_acons ev_int (ev_acons ev_int (ev_acons ev_int (ev_acons ev_int (ev_acons (g_mul ev_int ev_int) (ev_acons ev_int (ev_acons ev_int (ev_acons ev_int ev_anil))))))))))) ev_anil))))))))))
theorem sc38 : FnScope ["script", "cup", "most", "leaper"] ["script"] (defScope st38) := ⟨rfl, rfl, rfl, by decide +kernel, rfl, by decide +kernel, by decide +kernel⟩
/-- law -/
theorem ok38 (x : Fx K mg fa fd) (A : Al P w K mg base cl fa fd wf n) : FnOk P w K mg base CX0 (n + 1) (fa 38) (fd 38) ["script"] (spOf ⟨K, cl⟩ (callF tab wf (n + 1) 38)) := by
  have S := sc38
  exact fn_stepD x.F38 S rfl fun cdv A0 outer s H E hr =>
    (sv_cons (sv_if (ev_cnot (c_val (ev_call0 A.a37 hr (by rfl) x.g37 x.F37.kp x.B37))) (sv_one (sv_ret ev_bl)) sv_nil) (sv_cons (g_set (i := 1) S.nd (by rfl) (.inl (by rfl)) (ev_call A.a24 hr (by rfl) x.g24 x.F24.kp x.B24 (ev_acons (g_var (i := 0) (by rfl) (.inl (by rfl))) ev_anil))) (sv_cons (g_for (by exact PassesOwn.never) (by rfl) (iv_seq (ev_tup (ev_acons ev_int (ev_acons ev_int ev_anil)))) (g_name (i := 2) S.nd (by rfl) (.inl (by rfl))) (sv_one (sv_if (ev_cnot (c_val (ev_call A.a35 hr (by rfl) x.g35 x.F35.kp x.B35 (ev_acons (g_var (i := 1) (by rfl) (.inl (by rfl))) (ev_acons (ev_call A.a29 hr (by rfl) x.g29 x.F29.kp x.B29 (ev_acons (g_var (i := 1) (by rfl) (.inl (by rfl))) ev_anil)) (ev_acons (g_var (i := 2) (by rfl) (.inl (by rfl))) ev_anil)))))) (sv_one (sv_ret ev_bl)) sv_nil))) (sv_cons (sv_if (ev_cnot (c_val (ev_call A.a35 hr (by rfl) x.g35 x.F35.kp x.B35 (ev_acons (g_var (i := 1) (by rfl) (.inl (by rfl))) (ev_acons (ev_call A.a26 hr (by rfl) x.g26 x.F26.kp x.B26 (ev_acons (g_var (i := 1) (by rfl) (.inl (by rfl))) (ev_acons (ev_lst (ev_acons (ev_tup (ev_acons ev_int (ev_acons ev_int ev_anil))) (ev_acons (ev_tup (ev_acons ev_int (ev_acons ev_int ev_anil))) (ev_acons (ev_tup (ev_acons ev_int (ev_acons ev_int ev_anil))) (ev_acons (ev_tup (ev_acons ev_int (ev_acons ev_int ev_anil))) (ev_acons (ev_tup (ev_acons ev_int (ev_acons ev_int ev_anil))) (ev_acons (ev_tup (ev_acons ev_int (ev_acons ev_int ev_anil))) ev_anil))))))) ev_anil))) (ev_acons ev_int ev_anil)))))) (sv_one (sv_ret ev_bl)) sv_nil) (sv_cons (sv_if (ev_cand (c_cmp (op_eqD hr.units) ok_eq (ev_call A.a25 hr (by rfl) x.g25 x.F25.kp x.B25 (ev_acons (g_var (i := 1) (by rfl) (.inl (by rfl))) (ev_acons ev_int ev_anil))) ev_int (nomark _)) (ev_cand1 (ev_cnot (c_val (ev_call A.a35 hr (by rfl) x.g35 x.F35.kp x.B35 (ev_acons (g_var (i := 1) (by rfl) (.inl (by rfl))) (ev_acons (ev_call A.a26 hr (by rfl) x.g26 x.F26.kp x.B26 (ev_acons (g_var (i := 1) (by rfl) (.inl (by rfl))) (ev_acons (ev_lst (ev_acons (ev_tup (ev_acons ev_int (ev_acons ev_int ev_anil))) (ev_acons (ev_tup (ev_acons ev_int (ev_acons ev_int ev_anil))) ev_anil))) ev_anil))) (ev_acons ev_int ev_anil)))))))).pt (sv_one (sv_ret ev_bl)) sv_nil) (sv_cons (g_set (i := 3) S.nd (by rfl) (.inl (by rfl)) (ev_call A.a29 hr (by rfl) x.g29 x.F29.kp x.B29 (ev_acons (g_var (i := 1) (by rfl) (.inl (by rfl))) ev_anil))) (sv_cons (sv_if (ev_cand (ev_cnot (c_val (ev_call A.a32 hr (by rfl) x.g32 x.F32.kp x.B32 (ev_acons (g_var (i := 3) (by rfl) (.inl (by rfl))) (ev_acons (ev_tup (ev_acons ev_int (ev_acons ev_int ev_anil))) ev_anil))))) (ev_cand1 (c_cmp (op_neD hr.units) ok_ne (ev_call A.a22 hr (by rfl) x.g22 x.F22.kp x.B22 (ev_acons (g_var (i := 3) (by rfl) (.inl (by rfl))) (ev_acons (ev_tup (ev_acons ev_int (ev_acons ev_int ev_anil))) (ev_acons (ev_call A.a25 hr (by rfl) x.g25 x.F25.kp x.B25 (ev_acons (g_var (i := 1) (by rfl) (.inl (by rfl))) (ev_acons ev_int ev_anil))) ev_anil)))) ev_int (nomark _)))).pt (sv_one (sv_ret ev_bl)) sv_nil) (sv_one (sv_ret (ev_and (ev_call A.a36 hr (by rfl) x.g36 x.F36.kp x.B36 (ev_acons (g_var (i := 1) (by rfl) (.inl (by rfl))) ev_anil)) (ev_one (ev_call A.a36 hr (by rfl) x.g36 x.F36.kp x.B36 (ev_acons (g_var (i := 1) (by rfl) (.inl (by rfl))) ev_anil)))))))))))))
theorem all (x : Fx K mg fa fd) : ∀ n, Al P w K mg base cl fa fd wf n
  | 0 => ⟨fn_zero, fn_zero, fn_zero, fn_zero, fn_zero, fn_zero, fn_zero, fn_zero, fn_zero, fn_zero, fn_zero, fn_zero, fn_zero, fn_zero, fn_zero, fn_zero, fn_zero, fn_zero, fn_zero, fn_zero, fn_zero, fn_zero, fn_zero, fn_zero, fn_zero, fn_zero, fn_zero, fn_zero, fn_zero, fn_zero, fn_zero, fn_zero, fn_zero, fn_zero, fn_zero, fn_zero, fn_zero, fn_zero, fn_zero⟩
  | n + 1 => by
    have A := all x n
    exact ⟨ok0 x A, ok1 x A, ok2 x A, ok3 x A, ok4 x A, ok5 x A, ok6 x A, ok7 x A, ok8 x A, ok9 x A, ok10 x A, ok11 x A, ok12 x A, ok13 x A, ok14 x A, ok15 x A, ok16 x A, ok17 x A, ok18 x A, ok19 x A, ok20 x A, ok21 x A, ok22 x A, ok23 x A, ok24 x A, ok25 x A, ok26 x A, ok27 x A, ok28 x A, ok29 x A, ok30 x A, ok31 x A, ok32 x A, ok33 x A, ok34 x A, ok35 x A, ok36 x A, ok37 x A, ok38 x A⟩
end
end K56

namespace K56
open Mp PySem Bd
section
variable {wf n : Nat} {S : Store}
structure Lp (a b : Nat) : Prop where
  h1 : 1 ≤ a
  h2 : a ≤ 12
  h3 : b ≤ a
abbrev P (i j : Int) : D := .tup [.int i, .int j]
/-- the leaper's step, whether it is halving, whether it comes to p -/
def stp (a b : Nat) : Int := (Nat.gcd a b : Nat)
def hv (a b : Nat) : Bool := decide ((a : Int) / stp a b % 2 = 1) && decide ((b : Int) / stp a b % 2 = 1)
def cm (a b : Nat) (p : Sq) : Bool := decide (p.1 % stp a b = 0) && decide (p.2 % stp a b = 0) && (!hv a b || decide ((p.1 / stp a b + p.2 / stp a b) % 2 = 0))
theorem jn {a b : Nat} (h : Lp a b) : ∃ s t : Int, s * a + t * b = stp a b ∧ (-12 ≤ s ∧ s ≤ 12 ∧ -12 ≤ t ∧ t ≤ 12) ∧ ∀ (wf n : Nat) (S : Store), callF tab (wf + 40) (n + 1) 11 [.int a, .int b] S = .ok (false, .tup [.int (stp a b), .int s, .int t], S) := by
  obtain ⟨h1, h2, h3⟩ := h
  have ha : a = 1 ∨ a = 2 ∨ a = 3 ∨ a = 4 ∨ a = 5 ∨ a = 6 ∨ a = 7 ∨ a = 8 ∨ a = 9 ∨ a = 10 ∨ a = 11 ∨ a = 12 := by omega
  rcases ha with rfl | rfl | rfl | rfl | rfl | rfl | rfl | rfl | rfl | rfl | rfl | rfl
  · have hb : b = 0 ∨ b = 1 := by omega
    rcases hb with rfl | rfl
    · exact ⟨ 1,  0, by decide, by decide, fun _ _ _ => by kernel_rfl⟩
    · exact ⟨ 0,  1, by decide, by decide, fun _ _ _ => by kernel_rfl⟩
  · have hb : b = 0 ∨ b = 1 ∨ b = 2 := by omega
    rcases hb with rfl | rfl | rfl
    · exact ⟨ 1,  0, by decide, by decide, fun _ _ _ => by kernel_rfl⟩
    · exact ⟨ 0,  1, by decide, by decide, fun _ _ _ => by kernel_rfl⟩
    · exact ⟨ 0,  1, by decide, by decide, fun _ _ _ => by kernel_rfl⟩
  · have hb : b = 0 ∨ b = 1 ∨ b = 2 ∨ b = 3 := by omega
    rcases hb with rfl | rfl | rfl | rfl
    · exact ⟨ 1,  0, by decide, by decide, fun _ _ _ => by kernel_rfl⟩
    · exact ⟨ 0,  1, by decide, by decide, fun _ _ _ => by kernel_rfl⟩
    · exact ⟨ 1,  -1, by decide, by decide, fun _ _ _ => by kernel_rfl⟩
    · exact ⟨ 0,  1, by decide, by decide, fun _ _ _ => by kernel_rfl⟩
  · have hb : b = 0 ∨ b = 1 ∨ b = 2 ∨ b = 3 ∨ b = 4 := by omega
    rcases hb with rfl | rfl | rfl | rfl | rfl
    · exact ⟨ 1,  0, by decide, by decide, fun _ _ _ => by kernel_rfl⟩
    · exact ⟨ 0,  1, by decide, by decide, fun _ _ _ => by kernel_rfl⟩
    · exact ⟨ 0,  1, by decide, by decide, fun _ _ _ => by kernel_rfl⟩
    · exact ⟨ 1,  -1, by decide, by decide, fun _ _ _ => by kernel_rfl⟩
    · exact ⟨ 0,  1, by decide, by decide, fun _ _ _ => by kernel_rfl⟩
  · have hb : b = 0 ∨ b = 1 ∨ b = 2 ∨ b = 3 ∨ b = 4 ∨ b = 5 := by omega
    rcases hb with rfl | rfl | rfl | rfl | rfl | rfl
    · exact ⟨ 1,  0, by decide, by decide, fun _ _ _ => by kernel_rfl⟩
    · exact ⟨ 0,  1, by decide, by decide, fun _ _ _ => by kernel_rfl⟩
    · exact ⟨ 1,  -2, by decide, by decide, fun _ _ _ => by kernel_rfl⟩
    · exact ⟨ -1,  2, by decide, by decide, fun _ _ _ => by kernel_rfl⟩
    · exact ⟨ 1,  -1, by decide, by decide, fun _ _ _ => by kernel_rfl⟩
    · exact ⟨ 0,  1, by decide, by decide, fun _ _ _ => by kernel_rfl⟩
  · have hb : b = 0 ∨ b = 1 ∨ b = 2 ∨ b = 3 ∨ b = 4 ∨ b = 5 ∨ b = 6 := by omega
    rcases hb with rfl | rfl | rfl | rfl | rfl | rfl | rfl
    · exact ⟨ 1,  0, by decide, by decide, fun _ _ _ => by kernel_rfl⟩
    · exact ⟨ 0,  1, by decide, by decide, fun _ _ _ => by kernel_rfl⟩
    · exact ⟨ 0,  1, by decide, by decide, fun _ _ _ => by kernel_rfl⟩
    · exact ⟨ 0,  1, by decide, by decide, fun _ _ _ => by kernel_rfl⟩
    · exact ⟨ 1,  -1, by decide, by decide, fun _ _ _ => by kernel_rfl⟩
    · exact ⟨ 1,  -1, by decide, by decide, fun _ _ _ => by kernel_rfl⟩
    · exact ⟨ 0,  1, by decide, by decide, fun _ _ _ => by kernel_rfl⟩
  · have hb : b = 0 ∨ b = 1 ∨ b = 2 ∨ b = 3 ∨ b = 4 ∨ b = 5 ∨ b = 6 ∨ b = 7 := by omega
    rcases hb with rfl | rfl | rfl | rfl | rfl | rfl | rfl | rfl
    · exact ⟨ 1,  0, by decide, by decide, fun _ _ _ => by kernel_rfl⟩
    · exact ⟨ 0,  1, by decide, by decide, fun _ _ _ => by kernel_rfl⟩
    · exact ⟨ 1,  -3, by decide, by decide, fun _ _ _ => by kernel_rfl⟩
    · exact ⟨ 1,  -2, by decide, by decide, fun _ _ _ => by kernel_rfl⟩
    · exact ⟨ -1,  2, by decide, by decide, fun _ _ _ => by kernel_rfl⟩
    · exact ⟨ -2,  3, by decide, by decide, fun _ _ _ => by kernel_rfl⟩
    · exact ⟨ 1,  -1, by decide, by decide, fun _ _ _ => by kernel_rfl⟩
    · exact ⟨ 0,  1, by decide, by decide, fun _ _ _ => by kernel_rfl⟩
  · have hb : b = 0 ∨ b = 1 ∨ b = 2 ∨ b = 3 ∨ b = 4 ∨ b = 5 ∨ b = 6 ∨ b = 7 ∨ b = 8 := by omega
    rcases hb with rfl | rfl | rfl | rfl | rfl | rfl | rfl | rfl | rfl
    · exact ⟨ 1,  0, by decide, by decide, fun _ _ _ => by kernel_rfl⟩
    · exact ⟨ 0,  1, by decide, by decide, fun _ _ _ => by kernel_rfl⟩
    · exact ⟨ 0,  1, by decide, by decide, fun _ _ _ => by kernel_rfl⟩
    · exact ⟨ -1,  3, by decide, by decide, fun _ _ _ => by kernel_rfl⟩
    · exact ⟨ 0,  1, by decide, by decide, fun _ _ _ => by kernel_rfl⟩
    · exact ⟨ 2,  -3, by decide, by decide, fun _ _ _ => by kernel_rfl⟩
    · exact ⟨ 1,  -1, by decide, by decide, fun _ _ _ => by kernel_rfl⟩
    · exact ⟨ 1,  -1, by decide, by decide, fun _ _ _ => by kernel_rfl⟩
    · exact ⟨ 0,  1, by decide, by decide, fun _ _ _ => by kernel_rfl⟩
  · have hb : b = 0 ∨ b = 1 ∨ b = 2 ∨ b = 3 ∨ b = 4 ∨ b = 5 ∨ b = 6 ∨ b = 7 ∨ b = 8 ∨ b = 9 := by omega
    rcases hb with rfl | rfl | rfl | rfl | rfl | rfl | rfl | rfl | rfl | rfl
    · exact ⟨ 1,  0, by decide, by decide, fun _ _ _ => by kernel_rfl⟩
    · exact ⟨ 0,  1, by decide, by decide, fun _ _ _ => by kernel_rfl⟩
    · exact ⟨ 1,  -4, by decide, by decide, fun _ _ _ => by kernel_rfl⟩
    · exact ⟨ 0,  1, by decide, by decide, fun _ _ _ => by kernel_rfl⟩
    · exact ⟨ 1,  -2, by decide, by decide, fun _ _ _ => by kernel_rfl⟩
    · exact ⟨ -1,  2, by decide, by decide, fun _ _ _ => by kernel_rfl⟩
    · exact ⟨ 1,  -1, by decide, by decide, fun _ _ _ => by kernel_rfl⟩
    · exact ⟨ -3,  4, by decide, by decide, fun _ _ _ => by kernel_rfl⟩
    · exact ⟨ 1,  -1, by decide, by decide, fun _ _ _ => by kernel_rfl⟩
    · exact ⟨ 0,  1, by decide, by decide, fun _ _ _ => by kernel_rfl⟩
  · have hb : b = 0 ∨ b = 1 ∨ b = 2 ∨ b = 3 ∨ b = 4 ∨ b = 5 ∨ b = 6 ∨ b = 7 ∨ b = 8 ∨ b = 9 ∨ b = 10 := by omega
    rcases hb with rfl | rfl | rfl | rfl | rfl | rfl | rfl | rfl | rfl | rfl | rfl
    · exact ⟨ 1,  0, by decide, by decide, fun _ _ _ => by kernel_rfl⟩
    · exact ⟨ 0,  1, by decide, by decide, fun _ _ _ => by kernel_rfl⟩
    · exact ⟨ 0,  1, by decide, by decide, fun _ _ _ => by kernel_rfl⟩
    · exact ⟨ 1,  -3, by decide, by decide, fun _ _ _ => by kernel_rfl⟩
    · exact ⟨ 1,  -2, by decide, by decide, fun _ _ _ => by kernel_rfl⟩
    · exact ⟨ 0,  1, by decide, by decide, fun _ _ _ => by kernel_rfl⟩
    · exact ⟨ -1,  2, by decide, by decide, fun _ _ _ => by kernel_rfl⟩
    · exact ⟨ -2,  3, by decide, by decide, fun _ _ _ => by kernel_rfl⟩
    · exact ⟨ 1,  -1, by decide, by decide, fun _ _ _ => by kernel_rfl⟩
    · exact ⟨ 1,  -1, by decide, by decide, fun _ _ _ => by kernel_rfl⟩
    · exact ⟨ 0,  1, by decide, by decide, fun _ _ _ => by kernel_rfl⟩
  · have hb : b = 0 ∨ b = 1 ∨ b = 2 ∨ b = 3 ∨ b = 4 ∨ b = 5 ∨ b = 6 ∨ b = 7 ∨ b = 8 ∨ b = 9 ∨ b = 10 ∨ b = 11 := by omega
    rcases hb with rfl | rfl | rfl | rfl | rfl | rfl | rfl | rfl | rfl | rfl | rfl | rfl
    · exact ⟨ 1,  0, by decide, by decide, fun _ _ _ => by kernel_rfl⟩
    · exact ⟨ 0,  1, by decide, by decide, fun _ _ _ => by kernel_rfl⟩
    · exact ⟨ 1,  -5, by decide, by decide, fun _ _ _ => by kernel_rfl⟩
    · exact ⟨ -1,  4, by decide, by decide, fun _ _ _ => by kernel_rfl⟩
    · exact ⟨ -1,  3, by decide, by decide, fun _ _ _ => by kernel_rfl⟩
    · exact ⟨ 1,  -2, by decide, by decide, fun _ _ _ => by kernel_rfl⟩
    · exact ⟨ -1,  2, by decide, by decide, fun _ _ _ => by kernel_rfl⟩
    · exact ⟨ 2,  -3, by decide, by decide, fun _ _ _ => by kernel_rfl⟩
    · exact ⟨ 3,  -4, by decide, by decide, fun _ _ _ => by kernel_rfl⟩
    · exact ⟨ -4,  5, by decide, by decide, fun _ _ _ => by kernel_rfl⟩
    · exact ⟨ 1,  -1, by decide, by decide, fun _ _ _ => by kernel_rfl⟩
    · exact ⟨ 0,  1, by decide, by decide, fun _ _ _ => by kernel_rfl⟩
  · have hb : b = 0 ∨ b = 1 ∨ b = 2 ∨ b = 3 ∨ b = 4 ∨ b = 5 ∨ b = 6 ∨ b = 7 ∨ b = 8 ∨ b = 9 ∨ b = 10 ∨ b = 11 ∨ b = 12 := by omega
    rcases hb with rfl | rfl | rfl | rfl | rfl | rfl | rfl | rfl | rfl | rfl | rfl | rfl | rfl
    · exact ⟨ 1,  0, by decide, by decide, fun _ _ _ => by kernel_rfl⟩
    · exact ⟨ 0,  1, by decide, by decide, fun _ _ _ => by kernel_rfl⟩
    · exact ⟨ 0,  1, by decide, by decide, fun _ _ _ => by kernel_rfl⟩
    · exact ⟨ 0,  1, by decide, by decide, fun _ _ _ => by kernel_rfl⟩
    · exact ⟨ 0,  1, by decide, by decide, fun _ _ _ => by kernel_rfl⟩
    · exact ⟨ -2,  5, by decide, by decide, fun _ _ _ => by kernel_rfl⟩
    · exact ⟨ 0,  1, by decide, by decide, fun _ _ _ => by kernel_rfl⟩
    · exact ⟨ 3,  -5, by decide, by decide, fun _ _ _ => by kernel_rfl⟩
    · exact ⟨ 1,  -1, by decide, by decide, fun _ _ _ => by kernel_rfl⟩
    · exact ⟨ 1,  -1, by decide, by decide, fun _ _ _ => by kernel_rfl⟩
    · exact ⟨ 1,  -1, by decide, by decide, fun _ _ _ => by kernel_rfl⟩
    · exact ⟨ 1,  -1, by decide, by decide, fun _ _ _ => by kernel_rfl⟩
    · exact ⟨ 0,  1, by decide, by decide, fun _ _ _ => by kernel_rfl⟩
theorem dv {a b : Nat} (h : Lp a b) : callF tab (wf + 40) (n + 1) 31 [.int a, .int b] S = .ok (false, .int (stp a b), S) := by
  obtain ⟨h1, h2, h3⟩ := h
  have ha : a = 1 ∨ a = 2 ∨ a = 3 ∨ a = 4 ∨ a = 5 ∨ a = 6 ∨ a = 7 ∨ a = 8 ∨ a = 9 ∨ a = 10 ∨ a = 11 ∨ a = 12 := by omega
  rcases ha with rfl | rfl | rfl | rfl | rfl | rfl | rfl | rfl | rfl | rfl | rfl | rfl
  · have hb : b = 0 ∨ b = 1 := by omega
    rcases hb with rfl | rfl
    · kernel_rfl
    · kernel_rfl
  · have hb : b = 0 ∨ b = 1 ∨ b = 2 := by omega
    rcases hb with rfl | rfl | rfl
    · kernel_rfl
    · kernel_rfl
    · kernel_rfl
  · have hb : b = 0 ∨ b = 1 ∨ b = 2 ∨ b = 3 := by omega
    rcases hb with rfl | rfl | rfl | rfl
    · kernel_rfl
    · kernel_rfl
    · kernel_rfl
    · kernel_rfl
  · have hb : b = 0 ∨ b = 1 ∨ b = 2 ∨ b = 3 ∨ b = 4 := by omega
    rcases hb with rfl | rfl | rfl | rfl | rfl
    · kernel_rfl
    · kernel_rfl
    · kernel_rfl
    · kernel_rfl
    · kernel_rfl
  · have hb : b = 0 ∨ b = 1 ∨ b = 2 ∨ b = 3 ∨ b = 4 ∨ b = 5 := by omega
    rcases hb with rfl | rfl | rfl | rfl | rfl | rfl
    · kernel_rfl
    · kernel_rfl
    · kernel_rfl
    · kernel_rfl
    · kernel_rfl
    · kernel_rfl
  · have hb : b = 0 ∨ b = 1 ∨ b = 2 ∨ b = 3 ∨ b = 4 ∨ b = 5 ∨ b = 6 := by omega
    rcases hb with rfl | rfl | rfl | rfl | rfl | rfl | rfl
    · kernel_rfl
    · kernel_rfl
    · kernel_rfl
    · kernel_rfl
    · kernel_rfl
    · kernel_rfl
    · kernel_rfl
  · have hb : b = 0 ∨ b = 1 ∨ b = 2 ∨ b = 3 ∨ b = 4 ∨ b = 5 ∨ b = 6 ∨ b = 7 := by omega
    rcases hb with rfl | rfl | rfl | rfl | rfl | rfl | rfl | rfl
    · kernel_rfl
    · kernel_rfl
    · kernel_rfl
    · kernel_rfl
    · kernel_rfl
    · kernel_rfl
    · kernel_rfl
    · kernel_rfl
  · have hb : b = 0 ∨ b = 1 ∨ b = 2 ∨ b = 3 ∨ b = 4 ∨ b = 5 ∨ b = 6 ∨ b = 7 ∨ b = 8 := by omega
    rcases hb with rfl | rfl | rfl | rfl | rfl | rfl | rfl | rfl | rfl
    · kernel_rfl
    · kernel_rfl
    · kernel_rfl
    · kernel_rfl
    · kernel_rfl
    · kernel_rfl
    · kernel_rfl
    · kernel_rfl
    · kernel_rfl
  · have hb : b = 0 ∨ b = 1 ∨ b = 2 ∨ b = 3 ∨ b = 4 ∨ b = 5 ∨ b = 6 ∨ b = 7 ∨ b = 8 ∨ b = 9 := by omega
    rcases hb with rfl | rfl | rfl | rfl | rfl | rfl | rfl | rfl | rfl | rfl
    · kernel_rfl
    · kernel_rfl
    · kernel_rfl
    · kernel_rfl
    · kernel_rfl
    · kernel_rfl
    · kernel_rfl
    · kernel_rfl
    · kernel_rfl
    · kernel_rfl
  · have hb : b = 0 ∨ b = 1 ∨ b = 2 ∨ b = 3 ∨ b = 4 ∨ b = 5 ∨ b = 6 ∨ b = 7 ∨ b = 8 ∨ b = 9 ∨ b = 10 := by omega
    rcases hb with rfl | rfl | rfl | rfl | rfl | rfl | rfl | rfl | rfl | rfl | rfl
    · kernel_rfl
    · kernel_rfl
    · kernel_rfl
    · kernel_rfl
    · kernel_rfl
    · kernel_rfl
    · kernel_rfl
    · kernel_rfl
    · kernel_rfl
    · kernel_rfl
    · kernel_rfl
  · have hb : b = 0 ∨ b = 1 ∨ b = 2 ∨ b = 3 ∨ b = 4 ∨ b = 5 ∨ b = 6 ∨ b = 7 ∨ b = 8 ∨ b = 9 ∨ b = 10 ∨ b = 11 := by omega
    rcases hb with rfl | rfl | rfl | rfl | rfl | rfl | rfl | rfl | rfl | rfl | rfl | rfl
    · kernel_rfl
    · kernel_rfl
    · kernel_rfl
    · kernel_rfl
    · kernel_rfl
    · kernel_rfl
    · kernel_rfl
    · kernel_rfl
    · kernel_rfl
    · kernel_rfl
    · kernel_rfl
    · kernel_rfl
  · have hb : b = 0 ∨ b = 1 ∨ b = 2 ∨ b = 3 ∨ b = 4 ∨ b = 5 ∨ b = 6 ∨ b = 7 ∨ b = 8 ∨ b = 9 ∨ b = 10 ∨ b = 11 ∨ b = 12 := by omega
    rcases hb with rfl | rfl | rfl | rfl | rfl | rfl | rfl | rfl | rfl | rfl | rfl | rfl | rfl
    · kernel_rfl
    · kernel_rfl
    · kernel_rfl
    · kernel_rfl
    · kernel_rfl
    · kernel_rfl
    · kernel_rfl
    · kernel_rfl
    · kernel_rfl
    · kernel_rfl
    · kernel_rfl
    · kernel_rfl
    · kernel_rfl
end
end K56


namespace K56
open Mp PySem Bd
section
variable {wf n : Nat} {S : Store}
theorem is_integer_i {i : Int} : callF tab wf (n + 1) 0 [.int i] S = .ok (false, .bl true, S) := by
  rw [call_by (tab := tab) (f := 0) rfl rfl]; simp [m0]
theorem is_whole_i {v lo hi : Int} : callF tab wf (n + 2) 1 [.int v, .int lo, .int hi] S = .ok (false, .bl (decide (lo ≤ v) && decide (v ≤ hi)), S) := by
  rw [call_by (tab := tab) (f := 1) rfl rfl]
  by_cases h : lo ≤ v <;> simp [m1, is_integer_i, h]
theorem is_tuple_of_t {ds : List D} {lo hi : Int} : callF tab wf (n + 1) 3 [.tup ds, .int lo, .int hi] S = .ok (false, .bl (decide (lo ≤ ds.length) && decide ((ds.length : Int) ≤ hi)), S) := by
  rw [call_by (tab := tab) (f := 3) rfl rfl]
  by_cases h : lo ≤ ds.length <;> simp [m3, h]
theorem fits_kind_k {k : Kd} (hk : k.ok) : callF tab wf (n + 3) 4 [kdD k] S = .ok (false, .bl true, S) := by
  rw [call_by (tab := tab) (f := 4) rfl rfl]
  cases hn : isName k with
  | true => simp [m4, t_str_kd, hn, y_in_names hn]
  | false =>
    cases k <;> first | cases hn | skip
    rename_i a b
    obtain ⟨h1, h2, h3, h4⟩ := hk
    have t1 : callF tab wf (n + 2) 3 [kdD (.leap a b), .int 2, .int 2] S = .ok (false, .bl true, S) := by rw [kdD, is_tuple_of_t]; simp
    have x0 : pIdx (kdD (.leap a b)) (.int 0) S = .ok (.pl (.int a)) := rfl
    have x1 : pIdx (kdD (.leap a b)) (.int 1) S = .ok (.pl (.int b)) := rfl
    simp [m4, t_str_kd, isName, t1, x0, x1, is_whole_i, h1, h2, h3, h4]
end
end K56


namespace K56
open Mp PySem Bd
section
variable {wf n : Nat} {S : Store}
/-- the store holds the cup alone -/
def CupS (S : Store) : Prop := ∃ a b, S = [cupO a b]
theorem like {k : Nat} {d : D} (hd : d.dat k = true) (hk : k ≤ 60) : callF tab wf (n + k + 2) 28 [d, d] S = .ok (false, .bl true, S) := like_ok (ks := 27) (kl := 28) rfl rfl k n d hd hk
theorem roll {m : Int} (hm : 0 < m ∧ m < 2 ^ 62) (c : CupS S) : ∃ v S', callF tab wf (n + 1) 25 [.ref 0, .int m] S = .ok (false, .int v, S') ∧ CupS S' ∧ 0 ≤ v ∧ v < m := by
  obtain ⟨a, b, rfl⟩ := c
  obtain ⟨v, a', b', e, p⟩ := roll_ok (wf := wf) (n := n) (kr := 25) (tab := tab) (S := [cupO a b]) (j := 0) (m := m) (a := a) (b := b) rfl (by omega) (by omega) (by omega) (by omega) (by omega) hm rfl
  exact ⟨v, [cupO a' b'], e, ⟨a', b', rfl⟩, p⟩
theorem some_l {ds : List D} (h0 : ds ≠ []) (hz : ds.length ≤ 1000000) (c : CupS S) : ∃ d S', callF tab wf (n + 2) 26 [.ref 0, .lst ds] S = .ok (false, d, S') ∧ CupS S' ∧ d ∈ ds := by
  have hl : 0 < ds.length := List.length_pos_iff.mpr h0
  obtain ⟨v, S', e, c', v0, v1⟩ := roll (wf := wf) (n := n) (m := (ds.length : Int)) (by omega) c
  obtain ⟨k, rfl⟩ : ∃ k : Nat, v = (k : Int) := ⟨v.toNat, by omega⟩
  have hk : k < ds.length := by omega
  refine ⟨ds[k], S', ?_, c', List.getElem_mem hk⟩
  rw [call_by (tab := tab) (f := 26) rfl rfl]
  simp [m26, e, List.getElem?_eq_getElem hk]
theorem some_t {ds : List D} (h0 : ds ≠ []) (hz : ds.length ≤ 1000000) (c : CupS S) : ∃ d S', callF tab wf (n + 2) 26 [.ref 0, .tup ds] S = .ok (false, d, S') ∧ CupS S' ∧ d ∈ ds := by
  have hl : 0 < ds.length := List.length_pos_iff.mpr h0
  obtain ⟨v, S', e, c', v0, v1⟩ := roll (wf := wf) (n := n) (m := (ds.length : Int)) (by omega) c
  obtain ⟨k, rfl⟩ : ∃ k : Nat, v = (k : Int) := ⟨v.toNat, by omega⟩
  have hk : k < ds.length := by omega
  refine ⟨ds[k], S', ?_, c', List.getElem_mem hk⟩
  rw [call_by (tab := tab) (f := 26) rfl rfl]
  simp [m26, e, List.getElem?_eq_getElem hk]
end
end K56


namespace K56
open Mp PySem Bd
open Lm (l8)
section
variable {wf n : Nat} {S : Store} {a b : Nat} {p q : Sq}
abbrev lp (a b : Nat) : D := P a b
theorem Lp.ok (h : Lp a b) : (Kd.leap a b).ok := by
  obtain ⟨h1, h2, h3⟩ := h
  exact ⟨by omega, by omega, by omega, by omega⟩
theorem stp_le (h : Lp a b) : 0 < stp a b ∧ stp a b ≤ 12 := by
  obtain ⟨h1, h2, h3⟩ := h
  have x := Nat.gcd_pos_of_pos_left b (show 0 < a by omega)
  have y := Nat.gcd_le_left b (show 0 < a by omega)
  unfold stp; omega
theorem lg_le {i : Int} (h : 0 < i ∧ i ≤ 12) : i.natAbs.log2 < 9000 := by
  have := Nat.log2_le_self i.natAbs; omega
theorem need_leaper (h : Lp a b) : callF tab wf (n + 5) 6 [lp a b] S = .ok (false, .non, S) := by
  have e : ∀ n S, callF tab wf (n + 3) 4 [lp a b] S = .ok (false, .bl true, S) := fun n S => fits_kind_k (k := .leap a b) h.ok
  have e2 : ∀ S, callF tab wf (n + 4) 5 [lp a b] S = .ok (false, .bl true, S) := fun S => by
    rw [call_by (tab := tab) (f := 5) rfl rfl]; simp [m5, e]
  rw [call_by (tab := tab) (f := 6) rfl rfl]; simp [m6, e2]
def Nr (m : Int) (p : Sq) : Prop := -m ≤ p.1 ∧ p.1 ≤ m ∧ -m ≤ p.2 ∧ p.2 ≤ m
theorem need_target {m : Int} (h : Nr m p) : callF tab wf (n + 5) 8 [prD p, .int m] S = .ok (false, .non, S) := by
  obtain ⟨x, y⟩ := p
  obtain ⟨h1, h2, h3, h4⟩ := h
  dsimp only at h1 h2 h3 h4
  have e2 : ∀ S, callF tab wf (n + 4) 7 [prD (x, y), .int m] S = .ok (false, .bl true, S) := fun S => by
    have c1 : compGo [2] (tName 2) cYes (m7e1 ⟨callF tab wf (n + 3), wf⟩) [some (.pl (prD (x, y))), some (.pl (.int m)), none] ([x, y].map .int) S [] = .ok ([x, y].map (fun _ => .bl true), S) :=
      comp_mp _ _ _ (by simp) fun j hj => ⟨_, rfl, rfl, rfl, .inl (by
        have hj' : -m ≤ j ∧ j ≤ m := by
          simp only [List.mem_cons, List.not_mem_nil, or_false] at hj
          rcases hj with rfl | rfl <;> omega
        simp [m7e1, is_whole_i, hj'])⟩
    have t1 : callF tab wf (n + 3) 3 [prD (x, y), .int 2, .int 2] S = .ok (false, .bl true, S) := by rw [prD, is_tuple_of_t]; simp
    have c2 := y_allM (f := fun _ : Int => true) (l := [x, y]) (S := S)
    rw [call_by (tab := tab) (f := 7) rfl rfl]
    have sq : seqItems (prD (x, y)) = .ok ([x, y].map .int) := rfl
    simp only [List.map_cons, List.map_nil] at c1 c2 sq
    simp [m7, t1, wipe, sq, c1, c2]
  rw [call_by (tab := tab) (f := 8) rfl rfl]; simp [m8, e2]
theorem halv (h : Lp a b) : callF tab (wf + 40) (n + 2) 12 [lp a b] S = .ok (false, .bl (hv a b), S) := by
  obtain ⟨s, t, eB, bB, e0⟩ := jn h
  have e := e0 wf (n) S
  have hs := stp_le h
  have f1 : ∀ i, pFdiv (.int i) (.int (stp a b)) S = .ok (.pl (.int (i / stp a b))) := fun i => y_fdiv hs.1 (lg_le hs)
  have f2 : ∀ i, pMod (.int i) (.int 2) S = .ok (.pl (.int (i % 2))) := fun i => y_mod (by omega)
  rw [call_by (tab := tab) (f := 12) rfl rfl]
  unfold hv
  cases h1 : decide ((a : Int) / stp a b % 2 = 1) <;> simp [m12, e, f1, f2, h1]
theorem comes_to (h : Lp a b) : callF tab (wf + 40) (n + 3) 13 [lp a b, prD p] S = .ok (false, .bl (cm a b p), S) := by
  obtain ⟨s, t, eB, bB, e0⟩ := jn h
  have e := e0 wf (n + 1) S
  have hs := stp_le h
  have f1 : ∀ i, pFdiv (.int i) (.int (stp a b)) S = .ok (.pl (.int (i / stp a b))) := fun i => y_fdiv hs.1 (lg_le hs)
  have f2 : ∀ i, pMod (.int i) (.int 2) S = .ok (.pl (.int (i % 2))) := fun i => y_mod (by omega)
  have f3 : ∀ i, pMod (.int i) (.int (stp a b)) S = .ok (.pl (.int (i % stp a b))) := fun i => y_mod hs.1
  have f4 := halv (wf := wf) (n := n) (S := S) h
  rw [call_by (tab := tab) (f := 13) rfl rfl]
  unfold cm
  cases h1 : decide (p.1 % stp a b = 0) <;> cases h2 : decide (p.2 % stp a b = 0) <;> cases h3 : hv a b <;> simp [m13, e, f1, f2, f3, f4, h1, h2, h3, y_idx0, y_idx1]
theorem law_comes (h : Lp a b) : callF tab (wf + 40) (n + 3) 32 [lp a b, prD p] S = .ok (false, .bl (cm a b p), S) := by
  have e := dv (wf := wf) (n := n + 1) (S := S) h
  have hs := stp_le h
  have f1 : ∀ i, pFdiv (.int i) (.int (stp a b)) S = .ok (.pl (.int (i / stp a b))) := fun i => y_fdiv hs.1 (lg_le hs)
  have f2 : ∀ i, pMod (.int i) (.int 2) S = .ok (.pl (.int (i % 2))) := fun i => y_mod (by omega)
  have f3 : ∀ i, pMod (.int i) (.int (stp a b)) S = .ok (.pl (.int (i % stp a b))) := fun i => y_mod hs.1
  rw [call_by (tab := tab) (f := 32) rfl rfl]
  unfold cm hv
  cases h1 : decide (p.1 % stp a b = 0) <;> cases h2 : decide (p.2 % stp a b = 0) <;> cases h3 : decide ((a : Int) / stp a b % 2 = 1) <;> cases h4 : decide ((b : Int) / stp a b % 2 = 1) <;> simp [m32, e, f1, f2, f3, h1, h2, h3, h4, y_idx0, y_idx1]
def lv (a b : Nat) : List Sq := usort (l8 a b)
theorem mem_lv : p ∈ lv a b ↔ p ∈ l8 a b := by unfold lv usort; rw [mem_msort, mem_dd]
theorem lv_len : (lv a b).length ≤ 8 := by
  unfold lv usort
  rw [msort_len]
  have : ∀ (l acc : List Sq), (l.foldl addS acc).length ≤ acc.length + l.length := by
    intro l
    induction l with
    | nil => intro acc; simp
    | cons x l ih =>
      intro acc
      have := ih (addS acc x)
      have := len_addS (l := acc) (q := x)
      simp only [List.foldl_cons, List.length_cons]; omega
  exact this (l8 a b) []
theorem lv_ne : lv a b ≠ [] := fun h => by
  have : ((a : Int), (b : Int)) ∈ lv a b := mem_lv.mpr (by simp [l8])
  rw [h] at this; cases this
theorem law_leaps : callF tab wf (n + 1) 30 [lp a b] S = .ok (true, .lst (prsD (lv a b)), S) := by
  have hs : pSortSet (.lst [P a b, P a (-b), P (-a) b, P (-a) (-b), P b a, P b (-a), P (-b) a, P (-b) (-a)]) S = .ok (.fr (.lst (prsD (lv a b)))) := y_sortSet (ps := l8 a b) (by simp [l8])
  rw [call_by (tab := tab) (f := 30) rfl rfl]
  simp [m30, hs]
theorem put1 {F : CallI} {l : List Sq} {x y o v : Int} {A0 A1 A2 : Option Sl} (hl : l.length ≤ 100) (h1 : -100 < x ∧ x < 100) (h2 : -100 < y ∧ y < 100) :
    m10b1 F [A0, A1, A2, some (.own (setD l)), some (.pl (.int x)), some (.pl (.int y)), some (.pl (.int o)), some (.pl (.int v))] S =
      .ok (.nx [A0, A1, A2, some (.own (setD (addS l (o * x, v * y)))), some (.pl (.int x)), some (.pl (.int y)), some (.pl (.int o)), some (.pl (.int v))] S) := by
  have m1 : mulOk o x = true := mulOk_r (by omega)
  have m2 : mulOk v y = true := mulOk_r (by omega)
  have hk : isKey true (prD (o * x, v * y)) = true := isKey_pr
  have hz : lt24 (prsD l) = true := lt24_of (by simp; omega)
  have hs := dSet_set (l := l) (q := (o * x, v * y))
  simp only [prD] at hk hs
  simp [m10b1, m1, m2, setD, hk, hz, hs]
theorem put2 {F : CallI} {l : List Sq} {x y o : Int} {A0 A1 A2 A7 : Option Sl} (hl : l.length ≤ 90) (h1 : -100 < x ∧ x < 100) (h2 : -100 < y ∧ y < 100) :
    m10b2 F [A0, A1, A2, some (.own (setD l)), some (.pl (.int x)), some (.pl (.int y)), some (.pl (.int o)), A7] S =
      .ok (.nx [A0, A1, A2, some (.own (setD (addS (addS l (o * x, 1 * y)) (o * x, -1 * y)))), some (.pl (.int x)), some (.pl (.int y)), some (.pl (.int o)), some (.pl (.int (-1)))] S) := by
  have l1 := len_addS (l := l) (q := (o * x, 1 * y))
  have e1 := put1 (F := F) (S := S) (l := l) (o := o) (v := 1) (A0 := A0) (A1 := A1) (A2 := A2) (by omega) h1 h2
  have e2 := put1 (F := F) (S := S) (l := addS l (o * x, 1 * y)) (o := o) (v := -1) (A0 := A0) (A1 := A1) (A2 := A2) (by omega) h1 h2
  unfold m10b2
  simp only [x_for, x_iseq, x_tup, x_acons, x_c, x_un, y_neg, ok_bind, get_pl, fix_pl, x_anil, lenOk_2, if_true, seq_tup, forGo_cons, x_tname, List.set_cons_succ, List.set_cons_zero, forGo_nil, e1, e2]
theorem put3 {F : CallI} {l : List Sq} {x y : Int} {A0 A1 A2 A6 A7 : Option Sl} (hl : l.length ≤ 80) (h1 : -100 < x ∧ x < 100) (h2 : -100 < y ∧ y < 100) :
    m10b3 F [A0, A1, A2, some (.own (setD l)), some (.pl (.int x)), some (.pl (.int y)), A6, A7] S =
      .ok (.nx [A0, A1, A2, some (.own (setD (addS (addS (addS (addS l (1 * x, 1 * y)) (1 * x, -1 * y)) (-1 * x, 1 * y)) (-1 * x, -1 * y)))), some (.pl (.int x)), some (.pl (.int y)), some (.pl (.int (-1))), some (.pl (.int (-1)))] S) := by
  have l1 := len_addS (l := l) (q := (1 * x, 1 * y))
  have l2 := len_addS (l := addS l (1 * x, 1 * y)) (q := (1 * x, -1 * y))
  have e1 := put2 (F := F) (S := S) (l := l) (o := 1) (A0 := A0) (A1 := A1) (A2 := A2) (A7 := A7) (by omega) h1 h2
  have e2 := put2 (F := F) (S := S) (l := addS (addS l (1 * x, 1 * y)) (1 * x, -1 * y)) (o := -1) (A0 := A0) (A1 := A1) (A2 := A2) (A7 := some (.pl (.int (-1)))) (by omega) h1 h2
  unfold m10b3
  simp only [x_for, x_iseq, x_tup, x_acons, x_c, x_un, y_neg, ok_bind, get_pl, fix_pl, x_anil, lenOk_2, if_true, seq_tup, forGo_cons, x_tname, List.set_cons_succ, List.set_cons_zero, forGo_nil, e1, e2]
theorem leaps_in (h : Lp a b) : callF tab wf (n + 1) 10 [lp a b] S = .ok (true, .lst (prsD (lv a b)), S) := by
  obtain ⟨h1, h2, h3⟩ := h
  have e1 := put3 (F := ⟨callF tab wf n, wf⟩) (S := S) (l := []) (x := a) (y := b) (A0 := some (.pl (lp a b))) (A1 := some (.pl (.int a))) (A2 := some (.pl (.int b))) (A6 := none) (A7 := none) (by simp) (by omega) (by omega)
  have hl : (addS (addS (addS (addS [] (1 * (a : Int), 1 * (b : Int))) (1 * (a : Int), -1 * (b : Int))) (-1 * (a : Int), 1 * (b : Int))) (-1 * (a : Int), -1 * (b : Int))).length ≤ 80 := by
    have l1 := len_addS (l := []) (q := (1 * (a : Int), 1 * (b : Int)))
    have l2 := len_addS (l := addS [] (1 * (a : Int), 1 * (b : Int))) (q := (1 * (a : Int), -1 * (b : Int)))
    have l3 := len_addS (l := addS (addS [] (1 * (a : Int), 1 * (b : Int))) (1 * (a : Int), -1 * (b : Int))) (q := (-1 * (a : Int), 1 * (b : Int)))
    have l4 := len_addS (l := addS (addS (addS [] (1 * (a : Int), 1 * (b : Int))) (1 * (a : Int), -1 * (b : Int))) (-1 * (a : Int), 1 * (b : Int))) (q := (-1 * (a : Int), -1 * (b : Int)))
    simp only [List.length_nil] at l1
    omega
  have e2 := put3 (F := ⟨callF tab wf n, wf⟩) (S := S) (l := addS (addS (addS (addS [] (1 * (a : Int), 1 * (b : Int))) (1 * (a : Int), -1 * (b : Int))) (-1 * (a : Int), 1 * (b : Int))) (-1 * (a : Int), -1 * (b : Int))) (x := b) (y := a) (A0 := some (.pl (lp a b))) (A1 := some (.pl (.int a))) (A2 := some (.pl (.int b))) (A6 := some (.pl (.int (-1)))) (A7 := some (.pl (.int (-1)))) hl (by omega) (by omega)
  have hd : addS (addS (addS (addS (addS (addS (addS (addS [] (1 * (a : Int), 1 * (b : Int))) (1 * (a : Int), -1 * (b : Int))) (-1 * (a : Int), 1 * (b : Int))) (-1 * (a : Int), -1 * (b : Int))) (1 * (b : Int), 1 * (a : Int))) (1 * (b : Int), -1 * (a : Int))) (-1 * (b : Int), 1 * (a : Int))) (-1 * (b : Int), -1 * (a : Int)) = dd (l8 a b) := by
    simp only [Int.one_mul, Int.neg_mul]
    rfl
  rw [hd] at e2
  simp only [Int.one_mul, Int.neg_mul] at e1 e2
  have e3 : ∀ S, pSortA (setD (dd (l8 a b))) S = .ok (.fr (.lst (prsD (lv a b)))) := fun S => y_sortA_dprs
  have e0 : D.dct true [] [] = setD [] := rfl
  rw [call_by (tab := tab) (f := 10) rfl rfl]
  simp [m10, forGo_cons, e0, e1, e2, e3]
theorem leaps_of (h : Lp a b) : callF tab wf (n + 6) 18 [lp a b] S = .ok (false, .tup (prsD (lv a b)), S) := by
  rw [call_by (tab := tab) (f := 18) rfl rfl]; simp [m18, need_leaper h, leaps_in h]
theorem lv_abs (hq : q ∈ lv a b) : (ab q.1 = a ∧ ab q.2 = b) ∨ (ab q.1 = b ∧ ab q.2 = a) := by
  have := mem_lv.mp hq
  simp only [l8, List.mem_cons, List.not_mem_nil, or_false] at this
  unfold ab
  rcases this with h | h | h | h | h | h | h | h <;> subst h <;> dsimp only <;> split <;> split <;> omega
theorem ab_le {i m : Int} (h : ab i ≤ m) : -m ≤ i ∧ i ≤ m := by unfold ab at h; split at h <;> omega
theorem cm_zero : cm a b (0, 0) = true := by simp [cm]
theorem cm_iff (h : Lp a b) : cm a b p = true ↔ ∃ x y : Int, p = (stp a b * x, stp a b * y) ∧ (hv a b = true → (x + y) % 2 = 0) := by
  have hs := (stp_le h).1
  have hne : stp a b ≠ 0 := by omega
  unfold cm
  simp only [Bool.and_eq_true, decide_eq_true_eq, Bool.or_eq_true, Bool.not_eq_true']
  constructor
  · rintro ⟨⟨h1, h2⟩, h3⟩
    refine ⟨p.1 / stp a b, p.2 / stp a b, ?_, fun hh => ?_⟩
    · rw [Int.mul_ediv_cancel' (Int.dvd_of_emod_eq_zero h1), Int.mul_ediv_cancel' (Int.dvd_of_emod_eq_zero h2)]
    · rcases h3 with h3 | h3
      · rw [h3] at hh; cases hh
      · exact h3
  · rintro ⟨x, y, rfl, h3⟩
    refine ⟨⟨Int.mul_emod_right .., Int.mul_emod_right ..⟩, ?_⟩
    dsimp only
    rw [Int.mul_ediv_cancel_left _ hne, Int.mul_ediv_cancel_left _ hne]
    cases hh : hv a b with
    | false => exact .inl rfl
    | true => exact .inr (h3 hh)
theorem cm_add (h : Lp a b) (hp : cm a b p = true) (hq : cm a b q = true) : cm a b (p.1 + q.1, p.2 + q.2) = true := by
  obtain ⟨x, y, rfl, h1⟩ := (cm_iff h).mp hp
  obtain ⟨u, v, rfl, h2⟩ := (cm_iff h).mp hq
  refine (cm_iff h).mpr ⟨x + u, y + v, ?_, fun hh => ?_⟩
  · dsimp only; rw [Int.mul_add, Int.mul_add]
  · have := h1 hh; have := h2 hh; omega
theorem cm_leap (h : Lp a b) (hq : q ∈ lv a b) : cm a b q = true := by
  have hs := (stp_le h).1
  have hne : stp a b ≠ 0 := by omega
  obtain ⟨x, hx⟩ : stp a b ∣ (a : Int) := Int.ofNat_dvd.mpr (Nat.gcd_dvd_left a b)
  obtain ⟨y, hy⟩ : stp a b ∣ (b : Int) := Int.ofNat_dvd.mpr (Nat.gcd_dvd_right a b)
  have hh : hv a b = true → x % 2 = 1 ∧ y % 2 = 1 := fun e => by
    unfold hv at e
    simp only [Bool.and_eq_true, decide_eq_true_eq] at e
    have e1 : (a : Int) / stp a b = x := by rw [hx]; exact Int.mul_ediv_cancel_left _ hne
    have e2 : (b : Int) / stp a b = y := by rw [hy]; exact Int.mul_ediv_cancel_left _ hne
    rw [e1, e2] at e
    exact e
  have := mem_lv.mp hq
  simp only [l8, List.mem_cons, List.not_mem_nil, or_false] at this
  rw [hx, hy] at this
  rw [cm_iff h]
  generalize stp a b = g at *
  rcases this with e | e | e | e | e | e | e | e <;> subst e
  · exact ⟨x, y, rfl, fun e => by have := hh e; omega⟩
  · exact ⟨x, -y, by rw [Int.mul_neg], fun e => by have := hh e; omega⟩
  · exact ⟨-x, y, by rw [Int.mul_neg], fun e => by have := hh e; omega⟩
  · exact ⟨-x, -y, by rw [Int.mul_neg, Int.mul_neg], fun e => by have := hh e; omega⟩
  · exact ⟨y, x, rfl, fun e => by have := hh e; omega⟩
  · exact ⟨y, -x, by rw [Int.mul_neg], fun e => by have := hh e; omega⟩
  · exact ⟨-y, x, by rw [Int.mul_neg], fun e => by have := hh e; omega⟩
  · exact ⟨-y, -x, by rw [Int.mul_neg, Int.mul_neg], fun e => by have := hh e; omega⟩
theorem y_all_t {l : List Sq} : ∀ S, pAll (.lst (l.map fun _ => D.bl true)) S = .ok (.pl (.bl true)) := fun S => by
  have := y_allM (f := fun _ : Sq => true) (l := l) (S := S)
  rw [this]
  simp
theorem mem_prs {l : List Sq} : prD q ∈ prsD l ↔ q ∈ l := by
  unfold prsD
  rw [List.mem_map]
  exact ⟨fun ⟨x, hx, e⟩ => by rw [← prD_iff.mp e]; exact hx, fun h => ⟨q, h, rfl⟩⟩
theorem prs_ex {Q : Sq → Prop} : ∀ {ys : List D}, (∀ y ∈ ys, ∃ q, Q q ∧ y = prD q) → ∃ l : List Sq, ys = prsD l ∧ ∀ q ∈ l, Q q
  | [], _ => ⟨[], rfl, by simp⟩
  | y :: ys, h => by
    obtain ⟨q, hq, rfl⟩ := h y (by simp)
    obtain ⟨l, rfl, hl⟩ := prs_ex (ys := ys) fun y hy => h y (by simp [hy])
    exact ⟨q :: l, rfl, fun x hx => by
      rcases List.mem_cons.mp hx with rfl | hx
      · exact hq
      · exact hl x hx⟩
theorem law_leaper (c : CupS S) : ∃ a b S', callF tab wf (n + 3) 29 [.ref 0] S = .ok (false, lp a b, S') ∧ CupS S' ∧ Lp a b := by
  obtain ⟨d, S1, e1, c1, hd⟩ := some_l (wf := wf) (n := n) (ds := [.int 3, .int 5, .int 12]) (by simp) (by simp) c
  obtain ⟨m, rfl, hm⟩ : ∃ m : Int, d = .int m ∧ 0 < m ∧ m ≤ 12 := by
    simp at hd
    rcases hd with rfl | rfl | rfl
    · exact ⟨3, rfl, by omega, by omega⟩
    · exact ⟨5, rfl, by omega, by omega⟩
    · exact ⟨12, rfl, by omega, by omega⟩
  obtain ⟨v, S2, e2, c2, v0, v1⟩ := roll (wf := wf) (n := n + 1) (m := m) (by omega) c1
  obtain ⟨u, S3, e3, c3, u0, u1⟩ := roll (wf := wf) (n := n + 1) (m := 1 + v + 1) (by omega) c2
  obtain ⟨a, ha⟩ : ∃ a : Nat, 1 + v = (a : Int) := ⟨(1 + v).toNat, by omega⟩
  obtain ⟨b, hb⟩ : ∃ b : Nat, u = (b : Int) := ⟨u.toNat, by omega⟩
  refine ⟨a, b, S3, ?_, c3, ⟨by omega, by omega, by omega⟩⟩
  subst hb
  rw [ha] at e3
  rw [call_by (tab := tab) (f := 29) rfl rfl]
  simp [m29, e1, e2, ha, e3]
theorem y_sumL {a b : Nat} {S : Store} : pSumT (lp a b) S = .ok (.pl (.int ((a : Int) + b))) := by
  show (match intsOf [.int (a : Int), .int (b : Int)] with | some ns => Rs.ok (RV.pl (.int ns.sum)) | none => .no) = _
  simp [intsOf]
theorem prs_rev {l : List Sq} : (prsD l).reverse = prsD l.reverse := by simp [prsD]
end
end K56


namespace K56
open Mp PySem Bd
open Lm (mx cost R3 R5 Fe ct bstep best bn rg cands upd)
section
variable {wf n : Nat} {S : Store} {a b : Nat} {p q : Sq}
/-- the leaper's numbers without their step -/
def lg (a b : Nat) : Int := (a : Int) / stp a b
def sh (a b : Nat) : Int := (b : Int) / stp a b
theorem lg_mul (h : Lp a b) : (a : Int) = stp a b * lg a b := by
  obtain ⟨x, hx⟩ : stp a b ∣ (a : Int) := Int.ofNat_dvd.mpr (Nat.gcd_dvd_left a b)
  have := stp_le h
  unfold lg; rw [hx, Int.mul_ediv_cancel_left _ (by omega)]
theorem sh_mul (h : Lp a b) : (b : Int) = stp a b * sh a b := by
  obtain ⟨x, hx⟩ : stp a b ∣ (b : Int) := Int.ofNat_dvd.mpr (Nat.gcd_dvd_right a b)
  have := stp_le h
  unfold sh; rw [hx, Int.mul_ediv_cancel_left _ (by omega)]
theorem pos (h : Lp a b) : Lm.Pos (lg a b) (sh a b) ∧ lg a b ≤ 12 := by
  have h0 := stp_le h
  have h1 := lg_mul h
  have h2 := sh_mul h
  obtain ⟨x1, x2, x3⟩ := id h
  have l1 : 1 ≤ lg a b := by
    refine Decidable.byContradiction fun c => ?_
    have : stp a b * lg a b ≤ stp a b * 0 := Int.mul_le_mul_of_nonneg_left (by omega) (by omega)
    omega
  have l2 : 0 ≤ sh a b := by
    refine Decidable.byContradiction fun c => ?_
    have : stp a b * sh a b ≤ stp a b * (-1) := Int.mul_le_mul_of_nonneg_left (by omega) (by omega)
    omega
  have l3 : sh a b ≤ lg a b := by
    refine Decidable.byContradiction fun c => ?_
    have : stp a b * (lg a b + 1) ≤ stp a b * sh a b := Int.mul_le_mul_of_nonneg_left (by omega) (by omega)
    rw [Int.mul_add] at this
    omega
  have l4 : lg a b ≤ 12 := by
    have : 1 * lg a b ≤ stp a b * lg a b := Int.mul_le_mul_of_nonneg_right (by omega) (by omega)
    omega
  exact ⟨⟨l1, l2, l3⟩, l4⟩
theorem bez (h : Lp a b) {s t : Int} (e : s * a + t * b = stp a b) : s * lg a b + t * sh a b = 1 := by
  have h0 := stp_le h
  have h1 := lg_mul h
  have h2 := sh_mul h
  have : stp a b * (s * lg a b + t * sh a b) = stp a b * 1 := by
    rw [h1, h2] at e
    have z : ∀ g l k : Int, s * (g * l) + t * (g * k) = g * (s * l + t * k) := fun g l k => by grind
    rw [z] at e
    rw [Int.mul_one]
    exact e
  exact Int.eq_of_mul_eq_mul_left (by omega) this
theorem rgD_rg {e : Int} : rgD (e - 2) (e + 4) = intsD (Lm.rg e) := by
  unfold rgD Mp.intsFrom Lm.rg intsD
  rw [show (e + 4 - (e - 2)).toNat = 6 by omega, List.map_map]
  rfl
theorem div_b {e t : Int} (ht : 1 ≤ t) (he : -10000000 ≤ e ∧ e ≤ 10000000) : -10000000 ≤ e / t ∧ e / t ≤ 10000000 := by
  constructor
  · rw [Int.le_ediv_iff_mul_le (by omega)]
    have : -10000000 * t ≤ -10000000 * 1 := Int.mul_le_mul_of_nonpos_left (by omega) ht
    omega
  · rw [Int.ediv_le_iff_le_mul (by omega)]
    have : 10000000 * 1 ≤ 10000000 * t := Int.mul_le_mul_of_nonneg_left ht (by omega)
    omega
theorem y_lrg {e : Int} (h : -10000000 ≤ e ∧ e ≤ 10000000) : pLRg2 (.int (e - 2)) (.int (e + 4)) S = .ok (.fr (.lst (intsD (Lm.rg e)))) := by
  have : rgOk (e - 2) (e + 4) = true := by
    unfold rgOk
    simp only [Bool.and_eq_true, decide_eq_true_eq]
    refine ⟨⟨⟨⟨?_, ?_⟩, ?_⟩, ?_⟩, ?_⟩ <;> omega
  show (if rgOk (e - 2) (e + 4) then Rs.ok (RV.fr (.lst (rgD (e - 2) (e + 4)))) else .no) = _
  rw [if_pos this, rgD_rg]
theorem ints_app {l m : List Int} : intsD l ++ intsD m = intsD (l ++ m) := by simp [intsD]
theorem ints_len {l : List Int} : (intsD l).length = l.length := by simp [intsD]
theorem rg_len {e : Int} : (Lm.rg e).length = 6 := by simp [Lm.rg]
theorem bounds_near {x t r : Int} (ht : 0 ≤ t ∧ t ≤ 12) (hx : -1000000 ≤ x ∧ x ≤ 1000000) (hr : -1000000 ≤ r ∧ r ≤ 1000000) : ∃ f, ∀ (wf n : Nat) (S : Store), callF tab wf (n + 1) 15 [.int x, .int t, .int r] S = .ok (f, .lst (intsD (Lm.bn x t r)), S) := by
  by_cases t0 : t = 0
  · subst t0
    exact ⟨true, fun wf n S => by rw [call_by (tab := tab) (f := 15) rfl rfl]; simp [m15, Lm.bn, intsD]⟩
  · refine ⟨false, fun wf n S => ?_⟩
    have f1 : ∀ i S, pFdiv (.int i) (.int t) S = .ok (.pl (.int (i / t))) := fun i S => y_fdiv (by omega) (lg_le (by omega))
    have r1 : ∀ S, pLRg2 (.int ((x - r) / t - 2)) (.int ((x - r) / t + 4)) S = _ := fun S => y_lrg (div_b (by omega) (by omega))
    have r2 : ∀ S, pLRg2 (.int ((x + r) / t - 2)) (.int ((x + r) / t + 4)) S = _ := fun S => y_lrg (div_b (by omega) (by omega))
    have l1 : (intsD (Lm.rg ((x - r) / t))).length + (intsD (Lm.rg ((x + r) / t))).length ≤ 16777216 := by rw [ints_len, ints_len, rg_len, rg_len]; omega
    have l2 : ([] : List D).length + (intsD (Lm.rg ((x - r) / t))).length ≤ 16777216 := by rw [ints_len, rg_len]; simp
    have a1 := fun S => y_addL (S := S) l1
    have a2 := fun S => y_addL (S := S) l2
    rw [List.nil_append] at a2
    rw [ints_app] at a1
    have e : Lm.bn x t r = Lm.rg ((x - r) / t) ++ Lm.rg ((x + r) / t) := by unfold Lm.bn; rw [if_neg t0]
    rw [call_by (tab := tab) (f := 15) rfl rfl, e]
    simp [m15, m15b1, t0, forGo_cons, f1, r1, r2, a1, a2]
def r3D : R3 → D
  | none => .non
  | some q => .tup [.int q.1, .int q.2.1, .int q.2.2]
theorem beside_b {u v w z l s t : Int} {r : R3} {F : CallI} {A8 A9 A10 : Option Sl} (hl : 0 ≤ l ∧ l ≤ 12) (hs : 0 ≤ s ∧ s ≤ 12) : ∃ x8 x9 x10, m16b1 F [some (.pl (.int u)), some (.pl (.int v)), some (.pl (.int w)), some (.pl (.int z)), some (.pl (.int l)), some (.pl (.int s)), some (.pl (r3D r)), some (.pl (.int t)), A8, A9, A10] S =
    .ok (.nx [some (.pl (.int u)), some (.pl (.int v)), some (.pl (.int w)), some (.pl (.int z)), some (.pl (.int l)), some (.pl (.int s)), some (.pl (r3D (bstep u v w z l s r t))), some (.pl (.int t)), x8, x9, x10] S) := by
  have m1 : mulOk l t = true := mulOk_l (by omega)
  have m2 : mulOk s t = true := mulOk_l (by omega)
  have f2 : ∀ i S, pMod (.int i) (.int 2) S = .ok (.pl (.int (i % 2))) := fun i S => y_mod (by omega)
  have a1 : ∀ x : Int, (if x < 0 then -x else x) = ab x := fun _ => rfl
  have a2 : ∀ x y : Int, (if y > x then y else x) = mx x y := fun _ _ => rfl
  by_cases h1 : (u - (z - l * t)) % 2 = 0
  · by_cases h2 : (v - (w + s * t)) % 2 = 0
    · have hf : Fe u v w z l s t := ⟨h1, h2⟩
      have ec : ct u v w z l s t = mx (ab u) (ab (z - l * t)) + mx (ab v) (ab (w + s * t)) := rfl
      cases r with
      | none =>
        refine ⟨some (.pl (.int (w + s * t))), some (.pl (.int (z - l * t))), some (.pl (.int (ct u v w z l s t))), ?_⟩
        simp [m16b1, m1, m2, f2, a1, a2, h1, h2, r3D, bstep, hf, ec]
      | some k =>
        by_cases h3 : ct u v w z l s t < k.1
        · refine ⟨some (.pl (.int (w + s * t))), some (.pl (.int (z - l * t))), some (.pl (.int (ct u v w z l s t))), ?_⟩
          have h3' := h3
          rw [ec] at h3'
          simp [m16b1, m1, m2, f2, a1, a2, h1, h2, r3D, bstep, hf, h3', ec]
        · refine ⟨some (.pl (.int (w + s * t))), some (.pl (.int (z - l * t))), some (.pl (.int (ct u v w z l s t))), ?_⟩
          have h3' := h3
          rw [ec] at h3'
          simp [m16b1, m1, m2, f2, a1, a2, h1, h2, r3D, bstep, hf, h3', ec]
    · have hf : ¬ Fe u v w z l s t := fun h => h2 h.2
      exact ⟨some (.pl (.int (w + s * t))), some (.pl (.int (z - l * t))), A10, by simp [m16b1, m1, m2, f2, h1, h2, bstep, hf]⟩
  · have hf : ¬ Fe u v w z l s t := fun h => h1 h.1
    exact ⟨some (.pl (.int (w + s * t))), some (.pl (.int (z - l * t))), A10, by simp [m16b1, m1, m2, f2, h1, bstep, hf]⟩
theorem bn_len {x t r : Int} : (Lm.bn x t r).length ≤ 12 := by
  unfold Lm.bn; split <;> simp [rg_len]
theorem best_beside {u v w z l s : Int} (hl : 0 ≤ l ∧ l ≤ 12) (hs : 0 ≤ s ∧ s ≤ 12) (hu : -100000 ≤ u ∧ u ≤ 100000) (hv : -100000 ≤ v ∧ v ≤ 100000) (hw : -100000 ≤ w ∧ w ≤ 100000) (hz : -100000 ≤ z ∧ z ≤ 100000) :
    callF tab wf (n + 2) 16 [.int u, .int v, .int w, .int z, .int l, .int s] S = .ok (false, r3D (best u v w z l s), S) := by
  have bu : -1000000 ≤ ab u ∧ ab u ≤ 1000000 := by unfold ab; split <;> omega
  have bv : -1000000 ≤ ab v ∧ ab v ≤ 1000000 := by unfold ab; split <;> omega
  obtain ⟨f1, e1⟩ := bounds_near (x := z) (t := l) (r := ab u) hl (by omega) bu
  obtain ⟨f2, e2⟩ := bounds_near (x := -w) (t := s) (r := ab v) hs (by omega) bv
  have a1 : ∀ x : Int, (if x < 0 then -x else x) = ab x := fun _ => rfl
  obtain ⟨ε1, S1, e3, rfl, x7, x8, x9, x10, rfl⟩ := for_pre (T := tName 7) (M := m16b1 ⟨callF tab wf (n + 1), wf⟩) D.int
    (P := fun pre ε S' => S' = S ∧ ∃ x7 x8 x9 x10, ε = [some (.pl (.int u)), some (.pl (.int v)), some (.pl (.int w)), some (.pl (.int z)), some (.pl (.int l)), some (.pl (.int s)), some (.pl (r3D (pre.foldl (bstep u v w z l s) none))), x7, x8, x9, x10])
    (cands u v w z l s) (fun pre t rest ε S' hd ⟨hS, x7, x8, x9, x10, hε⟩ => by
      subst hS hε
      obtain ⟨y8, y9, y10, e⟩ := beside_b (u := u) (v := v) (w := w) (z := z) (t := t) (S := S') (r := pre.foldl (bstep u v w z l s) none) (F := ⟨callF tab wf (n + 1), wf⟩) (A8 := x8) (A9 := x9) (A10 := x10) hl hs
      exact ⟨_, rfl, _, S', .inl e, rfl, some (.pl (.int t)), y8, y9, y10, by simp⟩)
    (cands u v w z l s) [] (ε := [some (.pl (.int u)), some (.pl (.int v)), some (.pl (.int w)), some (.pl (.int z)), some (.pl (.int l)), some (.pl (.int s)), some (.pl .non), none, none, none, none]) (S := S) rfl ⟨rfl, none, none, none, none, rfl⟩
  have e3' : forGo (tName 7) (m16b1 ⟨callF tab wf (n + 1), wf⟩) (intsD (cands u v w z l s)) _ _ = _ := e3
  have l1 : (intsD (Lm.bn z l (ab u))).length + (intsD (Lm.bn (-w) s (ab v))).length ≤ 16777216 := by
    have := bn_len (x := z) (t := l) (r := ab u)
    have := bn_len (x := -w) (t := s) (r := ab v)
    rw [ints_len, ints_len]; omega
  have ad := fun S => y_addL (S := S) l1
  have ec : Lm.bn z l (ab u) ++ Lm.bn (-w) s (ab v) = cands u v w z l s := rfl
  rw [ints_app, ec] at ad
  have eb : best u v w z l s = (cands u v w z l s).foldl (bstep u v w z l s) none := rfl
  rw [← eb] at e3'
  rw [call_by (tab := tab) (f := 16) rfl rfl]
  cases f1 <;> cases f2 <;> simp [m16, a1, e1, e2, ad, e3']
end
end K56


namespace K56
open Mp PySem Bd
open Lm (mx cost R3 R5 Fe ct bstep best bn rg cands upd)
section
variable {wf n : Nat} {S : Store} {a b : Nat} {p q : Sq}
theorem shared (h : Lp a b) : ∃ s t : Int, s * lg a b + t * sh a b = 1 ∧ (-12 ≤ s ∧ s ≤ 12 ∧ -12 ≤ t ∧ t ≤ 12) ∧ ∀ (wf n : Nat) (S : Store) (p : Sq), callF tab (wf + 40) (n + 2) 14 [prD p, lp a b] S =
    .ok (false, .tup [.int (s * (p.1 / stp a b)), .int (t * (p.1 / stp a b)), .int (s * (p.2 / stp a b)), .int (t * (p.2 / stp a b)), .int (lg a b), .int (sh a b)], S) := by
  obtain ⟨s, t, eB, bB, e0⟩ := jn h
  refine ⟨s, t, bez h eB, bB, fun wf n S p => ?_⟩
  have e := e0 wf n S
  have hs := stp_le h
  have f1 : ∀ i S, pFdiv (.int i) (.int (stp a b)) S = .ok (.pl (.int (i / stp a b))) := fun i S => y_fdiv hs.1 (lg_le hs)
  have m1 : ∀ j, mulOk s j = true := fun j => mulOk_l (by omega)
  have m2 : ∀ j, mulOk t j = true := fun j => mulOk_l (by omega)
  have i0 : ∀ S, pIdx (lp a b) (.int 0) S = .ok (.pl (.int a)) := fun _ => rfl
  have i1 : ∀ S, pIdx (lp a b) (.int 1) S = .ok (.pl (.int b)) := fun _ => rfl
  rw [call_by (tab := tab) (f := 14) rfl rfl]
  generalize lp a b = Y at *
  simp [m14, e, f1, m1, m2, i0, i1, y_idx0, y_idx1, lg, sh]
def r5D : R5 → D
  | none => .non
  | some q => .tup [.int q.1, .int q.2.1, .int q.2.2.1, .int q.2.2.2.1, .int q.2.2.2.2]
def onB (u0 v0 l s : Int) (r : R5) (t : Int) : Bool := match r with
  | none => true
  | some q => decide (Lm.sumE u0 v0 l s t < q.1)
theorem onB_iff {u0 v0 l s : Int} {r : R5} {t : Int} : onB u0 v0 l s r t = true ↔ Lm.On u0 v0 l s r t := by
  unfold onB Lm.On
  cases r with
  | none => simp
  | some q =>
    simp only [decide_eq_true_eq]
    exact ⟨fun h k e => by injection e with e; subst e; exact h, fun h => h q rfl⟩
structure B4 (u0 v0 w0 z0 l s : Int) : Prop where
  p : Lm.Pos l s
  l12 : l ≤ 12
  u : -2000 ≤ u0 ∧ u0 ≤ 2000
  v : -2000 ≤ v0 ∧ v0 ≤ 2000
  w : -2000 ≤ w0 ∧ w0 ≤ 2000
  z : -2000 ≤ z0 ∧ z0 ≤ 2000
variable {u0 v0 w0 z0 l s t way : Int} {r : R5} {F : CallI} {A12 A13 A14 : Option Sl} {x y : D}
abbrev E15 (x y : D) (u0 v0 w0 z0 l s : Int) (r : R5) (way t : Int) (A12 A13 A14 : Option Sl) : Mp.Env := [some (.pl x), some (.pl y), some (.pl (.int u0)), some (.pl (.int v0)), some (.pl (.int w0)), some (.pl (.int z0)), some (.pl (.int l)), some (.pl (.int s)), some (.pl (.int (v0 / l))), some (.pl (r5D r)), some (.pl (.int way)), some (.pl (.int t)), A12, A13, A14]
theorem on_w (B : B4 u0 v0 w0 z0 l s) : m17w1 F (E15 x y u0 v0 w0 z0 l s r way t A12 A13 A14) S = .ok (onB u0 v0 l s r t, E15 x y u0 v0 w0 z0 l s r way t A12 A13 A14, S) := by
  have p := B.p
  have m1 : mulOk l t = true := mulOk_l (by have := p.l1; have := B.l12; omega)
  have m2 : mulOk s t = true := mulOk_l (by have := p.s0; have := p.sl; have := B.l12; omega)
  have a1 : ∀ x : Int, (if x < 0 then -x else x) = ab x := fun _ => rfl
  cases r with
  | none => simp [m17w1, E15, r5D, onB]
  | some k =>
    simp [m17w1, E15, r5D, onB, m1, m2, a1, Lm.sumE, Lm.U, Lm.V]
    try exact decide_eq_decide.mpr Iff.rfl
theorem st_b (B : B4 u0 v0 w0 z0 l s) (ht : -2500 ≤ t ∧ t ≤ 2500) : -100000 ≤ Lm.U u0 s t ∧ Lm.U u0 s t ≤ 100000 ∧ -100000 ≤ Lm.V v0 l t ∧ Lm.V v0 l t ≤ 100000 := by
  have p := B.p
  have l1 := p.l1
  have s0 := p.s0
  have sl := p.sl
  have l12 := B.l12
  have key : ∀ c : Int, 0 ≤ c → c ≤ 12 → -30000 ≤ c * t ∧ c * t ≤ 30000 := fun c h1 h2 => by
    constructor
    · have e1 : c * (-2500) ≤ c * t := Int.mul_le_mul_of_nonneg_left ht.1 h1
      omega
    · have e1 : c * t ≤ c * 2500 := Int.mul_le_mul_of_nonneg_left ht.2 h1
      omega
  have k1 := key l (by omega) l12
  have k2 := key s s0 (by omega)
  have := B.u
  have := B.v
  unfold Lm.U Lm.V
  omega
theorem on_b (B : B4 u0 v0 w0 z0 l s) (ht : -2500 ≤ t ∧ t ≤ 2500) : ∃ y12 y13 y14, m17b1 ⟨callF tab wf (n + 3), wf⟩ (E15 x y u0 v0 w0 z0 l s r way t A12 A13 A14) S = .ok (.nx (E15 x y u0 v0 w0 z0 l s (upd u0 v0 w0 z0 l s r t) way (t + way) y12 y13 y14) S) := by
  have p := B.p
  have l1 := p.l1
  have s0 := p.s0
  have sl := p.sl
  have l12 := B.l12
  have m1 : mulOk l t = true := mulOk_l (by omega)
  have m2 : mulOk s t = true := mulOk_l (by omega)
  obtain ⟨b1, b2, b3, b4⟩ := st_b B ht
  have := B.w
  have := B.z
  have e : ∀ S, callF tab wf (n + 3) 16 [.int (Lm.U u0 s t), .int (Lm.V v0 l t), .int w0, .int z0, .int l, .int s] S = .ok (false, r3D (best (Lm.U u0 s t) (Lm.V v0 l t) w0 z0 l s), S) := fun S => best_beside (n := n + 1) (by omega) (by omega) (by omega) (by omega) (by omega) (by omega)
  have i2 : ∀ a b c : D, L2.atI [a, b, c] 2 = some c := fun _ _ _ => rfl
  have eU : u0 + s * t = Lm.U u0 s t := rfl
  have eV : v0 - l * t = Lm.V v0 l t := rfl
  refine ⟨some (.pl (.int (Lm.U u0 s t))), some (.pl (.int (Lm.V v0 l t))), some (.pl (r3D (best (Lm.U u0 s t) (Lm.V v0 l t) w0 z0 l s))), ?_⟩
  unfold upd
  generalize best (Lm.U u0 s t) (Lm.V v0 l t) w0 z0 l s = R at *
  cases R with
  | none => simp [m17b1, E15, m1, m2, eU, eV, i2, e, r3D]
  | some k =>
    cases r with
    | none => simp [m17b1, E15, m1, m2, eU, eV, i2, e, r3D, r5D]
    | some k' =>
      by_cases c : k.1 < k'.1
      · simp [m17b1, E15, m1, m2, eU, eV, i2, e, r3D, r5D, c]
      · simp [m17b1, E15, m1, m2, eU, eV, i2, e, r3D, r5D, c]
theorem mid_b (B : B4 u0 v0 w0 z0 l s) : -2000 ≤ v0 / l ∧ v0 / l ≤ 2000 := by
  have p := B.p
  have l1 := p.l1
  have := B.v
  constructor
  · rw [Int.le_ediv_iff_mul_le (by omega)]
    have : -2000 * l ≤ -2000 * 1 := Int.mul_le_mul_of_nonpos_left (by omega) l1
    omega
  · rw [Int.ediv_le_iff_le_mul (by omega)]
    have : 2000 * 1 ≤ 2000 * l := Int.mul_le_mul_of_nonneg_left l1 (by omega)
    omega
theorem up_loop (B : B4 u0 v0 w0 z0 l s) (X : Lm.Ex u0 v0 w0 z0 l s 224) : ∀ (μ : Nat) (t : Int) (r : R5), Lm.Up u0 v0 w0 z0 l s r t → (v0 / l + 227 - t).toNat < μ → ∃ r' t', Lm.Dn u0 v0 w0 z0 l s 224 r' (v0 / l - 1) ∧
    ∀ (wf n : Nat) (S : Store) (x y : D) (A12 A13 A14 : Option Sl) (k : Nat), μ ≤ k → ∃ y12 y13 y14, whileGo (m17w1 ⟨callF tab wf (n + 3), wf⟩) (m17b1 ⟨callF tab wf (n + 3), wf⟩) k (E15 x y u0 v0 w0 z0 l s r 1 t A12 A13 A14) S = .ok (.nx (E15 x y u0 v0 w0 z0 l s r' 1 t' y12 y13 y14) S)
  | 0, t, r, U, hm => by omega
  | μ + 1, t, r, U, hm => by
    by_cases c : Lm.On u0 v0 l s r t
    · have few := U.few B.p X (by omega) c
      have ge := U.ge
      have mb := mid_b B
      obtain ⟨r', t', d, hw⟩ := up_loop B X μ (t + 1) (upd u0 v0 w0 z0 l s r t) (U.step B.p) (by omega)
      refine ⟨r', t', d, fun wf n S x y A12 A13 A14 k hk => ?_⟩
      obtain ⟨k', rfl⟩ : ∃ k', k = k' + 1 := ⟨k - 1, by omega⟩
      obtain ⟨y12, y13, y14, eb⟩ := on_b (wf := wf) (n := n) (S := S) (x := x) (y := y) (A12 := A12) (A13 := A13) (A14 := A14) (r := r) (way := 1) (t := t) B (by omega)
      obtain ⟨z12, z13, z14, ew⟩ := hw wf n S x y y12 y13 y14 k' (by omega)
      refine ⟨z12, z13, z14, ?_⟩
      rw [whileGo_s, on_w B, ok_bind, onB_iff.mpr c]
      simp only [if_true]
      rw [eb, ok_bind]
      exact ew
    · refine ⟨r, t, U.done B.p c 224 X, fun wf n S x y A12 A13 A14 k hk => ⟨A12, A13, A14, ?_⟩⟩
      obtain ⟨k', rfl⟩ : ∃ k', k = k' + 1 := ⟨k - 1, by omega⟩
      have : onB u0 v0 l s r t = false := by
        cases e : onB u0 v0 l s r t with
        | false => rfl
        | true => exact absurd (onB_iff.mp e) c
      rw [whileGo_s, on_w B, ok_bind, this]
      simp only [Bool.false_eq_true, if_false]
theorem dn_loop (B : B4 u0 v0 w0 z0 l s) : ∀ (μ : Nat) (t : Int) (r : R5), Lm.Dn u0 v0 w0 z0 l s 224 r t → (t - (v0 / l - 225)).toNat < μ → ∃ r' t', Lm.Fewest u0 v0 w0 z0 l s 224 r' ∧
    ∀ (wf n : Nat) (S : Store) (x y : D) (A12 A13 A14 : Option Sl) (k : Nat), μ ≤ k → ∃ y12 y13 y14, whileGo (m17w1 ⟨callF tab wf (n + 3), wf⟩) (m17b1 ⟨callF tab wf (n + 3), wf⟩) k (E15 x y u0 v0 w0 z0 l s r (-1) t A12 A13 A14) S = .ok (.nx (E15 x y u0 v0 w0 z0 l s r' (-1) t' y12 y13 y14) S)
  | 0, t, r, U, hm => by omega
  | μ + 1, t, r, U, hm => by
    by_cases c : Lm.On u0 v0 l s r t
    · have few := U.few B.p c
      have le := U.le
      have mb := mid_b B
      obtain ⟨r', t', d, hw⟩ := dn_loop B μ (t - 1) (upd u0 v0 w0 z0 l s r t) (U.step B.p) (by omega)
      refine ⟨r', t', d, fun wf n S x y A12 A13 A14 k hk => ?_⟩
      obtain ⟨k', rfl⟩ : ∃ k', k = k' + 1 := ⟨k - 1, by omega⟩
      obtain ⟨y12, y13, y14, eb⟩ := on_b (wf := wf) (n := n) (S := S) (x := x) (y := y) (A12 := A12) (A13 := A13) (A14 := A14) (r := r) (way := -1) (t := t) B (by omega)
      obtain ⟨z12, z13, z14, ew⟩ := hw wf n S x y y12 y13 y14 k' (by omega)
      refine ⟨z12, z13, z14, ?_⟩
      rw [whileGo_s, on_w B, ok_bind, onB_iff.mpr c]
      simp only [if_true]
      rw [eb, ok_bind]
      exact ew
    · refine ⟨r, t, U.done B.p c, fun wf n S x y A12 A13 A14 k hk => ⟨A12, A13, A14, ?_⟩⟩
      obtain ⟨k', rfl⟩ : ∃ k', k = k' + 1 := ⟨k - 1, by omega⟩
      have : onB u0 v0 l s r t = false := by
        cases e : onB u0 v0 l s r t with
        | false => rfl
        | true => exact absurd (onB_iff.mp e) c
      rw [whileGo_s, on_w B, ok_bind, this]
      simp only [Bool.false_eq_true, if_false]
theorem cm_par (h : Lp a b) (hc : cm a b p = true) : p.1 = stp a b * (p.1 / stp a b) ∧ p.2 = stp a b * (p.2 / stp a b) ∧ (lg a b % 2 = 1 → sh a b % 2 = 1 → (p.1 / stp a b + p.2 / stp a b) % 2 = 0) := by
  unfold cm hv at hc
  simp only [Bool.and_eq_true, decide_eq_true_eq, Bool.or_eq_true, Bool.not_eq_true'] at hc
  obtain ⟨⟨h1, h2⟩, h3⟩ := hc
  refine ⟨(Int.mul_ediv_cancel' (Int.dvd_of_emod_eq_zero h1)).symm, (Int.mul_ediv_cancel' (Int.dvd_of_emod_eq_zero h2)).symm, fun l1 l2 => ?_⟩
  rcases h3 with h3 | h3
  · unfold lg at l1
    unfold sh at l2
    simp [l1, l2] at h3
  · exact h3
theorem mul_b {s x : Int} (hs : -12 ≤ s ∧ s ≤ 12) (hx : -100 ≤ x ∧ x ≤ 100) : -2000 ≤ s * x ∧ s * x ≤ 2000 := by
  have : s.natAbs * x.natAbs ≤ 12 * 100 := Nat.mul_le_mul (by omega) (by omega)
  rw [← Int.natAbs_mul] at this
  omega
/-- the fewest leaps -/
theorem fewest_in (h : Lp a b) (hp : Nr 100 p) (hc : cm a b p = true) : ∃ c u v w z, Lm.Few a b p c u v w z ∧ ∀ (wf n : Nat) (S : Store), callF tab (wf + 400) (n + 4) 17 [lp a b, prD p] S = .ok (false, .tup [.int c, .int u, .int v, .int w, .int z], S) := by
  obtain ⟨s, t, hst, bB, e1⟩ := shared h
  have hs := stp_le h
  obtain ⟨P, l12⟩ := pos h
  obtain ⟨x1, x2, par⟩ := cm_par h hc
  have e2 := fun wf n S => e1 wf n S p
  obtain ⟨p1, p2, p3, p4⟩ := hp
  have bx : ∀ i : Int, -100 ≤ stp a b * i → stp a b * i ≤ 100 → -100 ≤ i ∧ i ≤ 100 := fun i h1 h2 => by
    constructor
    · refine Decidable.byContradiction fun c => ?_
      have : stp a b * i ≤ stp a b * (-101) := Int.mul_le_mul_of_nonneg_left (by omega) (by omega)
      omega
    · refine Decidable.byContradiction fun c => ?_
      have : stp a b * 101 ≤ stp a b * i := Int.mul_le_mul_of_nonneg_left (by omega) (by omega)
      omega
  have b1 := bx (p.1 / stp a b) (by omega) (by omega)
  have b2 := bx (p.2 / stp a b) (by omega) (by omega)
  have hl := P.l1
  generalize p.1 / stp a b = x at *
  generalize p.2 / stp a b = y at *
  have B : B4 (s * x) (t * x) (s * y) (t * y) (lg a b) (sh a b) := ⟨P, l12, mul_b (by omega) b1, mul_b (by omega) b1, mul_b (by omega) b2, mul_b (by omega) b2⟩
  have X : Lm.Ex (s * x) (t * x) (s * y) (t * y) (lg a b) (sh a b) 224 := Lm.some_fe (x := x) (y := y) P l12 hst (by grind) (by grind) b1 b2 par
  obtain ⟨r1, t1, d1, w1⟩ := up_loop B X 300 (t * x / lg a b) none Lm.Up.start (by omega)
  obtain ⟨r2, t2, d2, w2⟩ := dn_loop B 300 (t * x / lg a b - 1) r1 d1 (by omega)
  obtain ⟨c, u, v, w, z, rfl, few⟩ := Lm.few_of (a := a) (b := b) (g := stp a b) (X := p) (by omega) (lg_mul h) (sh_mul h) x1 x2 hst d2
  refine ⟨c, u, v, w, z, few, fun wf n S => ?_⟩
  have fd : ∀ i S, pFdiv (.int i) (.int (lg a b)) S = .ok (.pl (.int (i / lg a b))) := fun i S => y_fdiv (by omega) (lg_le (by omega))
  obtain ⟨y12, y13, y14, g1⟩ := w1 (wf + 400) n S (lp a b) (prD p) none none none (wf + 400) (by omega)
  obtain ⟨z12, z13, z14, g2⟩ := w2 (wf + 400) n S (lp a b) (prD p) y12 y13 y14 (wf + 400) (by omega)
  have e : ∀ S, callF tab (wf + 400) (n + 3) 14 [prD p, lp a b] S = .ok (false, .tup [.int (s * x), .int (t * x), .int (s * y), .int (t * y), .int (lg a b), .int (sh a b)], S) := fun S => e2 (wf + 360) (n + 1) S
  have g1' : whileGo (m17w1 ⟨callF tab (wf + 400) (n + 3), wf + 400⟩) (m17b1 ⟨callF tab (wf + 400) (n + 3), wf + 400⟩) (wf + 400) [some (.pl (lp a b)), some (.pl (prD p)), some (.pl (.int (s * x))), some (.pl (.int (t * x))), some (.pl (.int (s * y))), some (.pl (.int (t * y))), some (.pl (.int (lg a b))), some (.pl (.int (sh a b))), some (.pl (.int (t * x / lg a b))), some (.pl .non), some (.pl (.int 1)), some (.pl (.int (t * x / lg a b))), none, none, none] S = _ := g1
  have g2' : whileGo (m17w1 ⟨callF tab (wf + 400) (n + 3), wf + 400⟩) (m17b1 ⟨callF tab (wf + 400) (n + 3), wf + 400⟩) (wf + 400) [some (.pl (lp a b)), some (.pl (prD p)), some (.pl (.int (s * x))), some (.pl (.int (t * x))), some (.pl (.int (s * y))), some (.pl (.int (t * y))), some (.pl (.int (lg a b))), some (.pl (.int (sh a b))), some (.pl (.int (t * x / lg a b))), some (.pl (r5D r1)), some (.pl (.int (-1))), some (.pl (.int (t * x / lg a b - 1))), y12, y13, y14] S = _ := g2
  have ed : r5D (some (c, u, v, w, z)) = .tup [.int c, .int u, .int v, .int w, .int z] := rfl
  rw [call_by (tab := tab) (f := 17) rfl rfl]
  generalize lp a b = Y at *
  generalize prD p = Z at *
  simp [m17, m17b2, e, fd, forGo_cons, g1', g2', ed]
end
end K56


namespace K56
open Mp PySem Bd
open Lm (mx cost)
section
variable {wf n : Nat} {S : Store} {a b : Nat} {p q : Sq}
theorem Nr.mono {m k : Int} (h : Nr m p) (hk : m ≤ k) : Nr k p := by
  obtain ⟨h1, h2, h3, h4⟩ := h; exact ⟨by omega, by omega, by omega, by omega⟩
theorem rng_map {k : Nat} : Mp.intsFrom 0 k = (List.range k).map fun (i : Nat) => D.int (i : Int) := by
  unfold Mp.intsFrom; simp
theorem fewest_no (h : Lp a b) (hp : Nr 100 p) (hc : cm a b p = false) : callF tab (wf + 400) (n + 6) 19 [lp a b, prD p] S = .ok (false, .non, S) := by
  have k1 : ∀ S, callF tab (wf + 400) (n + 5) 6 [lp a b] S = .ok (false, .non, S) := fun S => need_leaper (a := a) (b := b) h
  have k2 : ∀ S, callF tab (wf + 400) (n + 5) 8 [prD p, .int 100] S = .ok (false, .non, S) := fun S => need_target hp
  have k3 : ∀ S, callF tab (wf + 400) (n + 5) 13 [lp a b, prD p] S = .ok (false, .bl (cm a b p), S) := fun S => comes_to (wf := wf + 360) (n := n + 2) (a := a) (b := b) h
  rw [call_by (tab := tab) (f := 19) rfl rfl]
  generalize lp a b = Y at *
  generalize prD p = Z at *
  simp [m19, k1, k2, k3, hc]
theorem fewest_yes (h : Lp a b) (hp : Nr 100 p) (hc : cm a b p = true) {c : Int} {u v w z : Int} (e : ∀ (wf n : Nat) (S : Store), callF tab (wf + 400) (n + 4) 17 [lp a b, prD p] S = .ok (false, .tup [.int c, .int u, .int v, .int w, .int z], S)) : callF tab (wf + 400) (n + 6) 19 [lp a b, prD p] S = .ok (false, .int c, S) := by
  have k1 : ∀ S, callF tab (wf + 400) (n + 5) 6 [lp a b] S = .ok (false, .non, S) := fun S => need_leaper (a := a) (b := b) h
  have k2 : ∀ S, callF tab (wf + 400) (n + 5) 8 [prD p, .int 100] S = .ok (false, .non, S) := fun S => need_target hp
  have k3 : ∀ S, callF tab (wf + 400) (n + 5) 13 [lp a b, prD p] S = .ok (false, .bl (cm a b p), S) := fun S => comes_to (wf := wf + 360) (n := n + 2) (a := a) (b := b) h
  have k4 : ∀ S, callF tab (wf + 400) (n + 5) 17 [lp a b, prD p] S = _ := fun S => e wf (n + 1) S
  rw [call_by (tab := tab) (f := 19) rfl rfl]
  generalize lp a b = Y at *
  generalize prD p = Z at *
  simp [m19, k1, k2, k3, k4, hc]
end
end K56


namespace K56
open Mp PySem Bd
open Lm (vadd vsub W Sm)
@[simp] theorem x_idc {x : Den} {ε : Mp.Env} {S : Store} : iDc x ε S = (x ε S >>= fun p => heldD p.1 p.2.1 >>= fun q => .ok (q.2.1, q.2.2.2, p.2.2)) := id rfl
@[simp] theorem x_itms {x : Den} {ε : Mp.Env} {S : Store} : iItms x ε S = (x ε S >>= fun p => heldD p.1 p.2.1 >>= fun q => if q.1 then .ok (zipItems q.2.1 q.2.2.1, q.2.2.2, p.2.2) else .no) := id rfl
@[simp] theorem heldD_bor {i : Nat} {ε : Mp.Env} : heldD (.bor i) ε = (match slot ε i with | some (.own (.dct t ks vs)) => .ok (t, ks, vs, ε.set i (some (.pl (.dct t ks vs)))) | _ => .no) := id rfl
def mD (g : Sq → Int) (K : List Sq) : List D := K.map fun p => .int (g p)
theorem mD_len {g : Sq → Int} {K : List Sq} : (mD g K).length = K.length := by simp [mD]
theorem dGet_mD {g : Sq → Int} (q : Sq) : ∀ K : List Sq, dGet (prsD K) (mD g K) (prD q) = if q ∈ K then some (.int (g q)) else none
  | [] => by simp [prsD, dGet]
  | x :: K => by
    show (if prD x = prD q then some (D.int (g x)) else dGet (prsD K) (mD g K) (prD q)) = _
    rw [dGet_mD q K]
    by_cases e : x = q
    · subst e; simp
    · have e' : prD x ≠ prD q := fun z => e (prD_iff.mp z)
      have e'' : ¬ q = x := fun z => e z.symm
      rw [if_neg e']
      simp [e'']
def up (g : Sq → Int) (q : Sq) (v : Int) : Sq → Int := fun x => if x = q then v else g x
theorem mD_up {g : Sq → Int} {q : Sq} {v : Int} {K : List Sq} (h : q ∉ K) : mD (up g q v) K = mD g K := by
  unfold mD
  apply List.map_congr_left
  intro x hx
  unfold up
  rw [if_neg (fun z => h (by rw [← z]; exact hx))]
theorem dRep_up {g : Sq → Int} {q : Sq} {v : Int} : ∀ K : List Sq, dRep (prsD K) (mD g K) (prD q) (.int v) = mD (up g q v) K
  | [] => rfl
  | x :: K => by
    have ih := dRep_up K (g := g) (q := q) (v := v)
    show (if prD x = prD q then D.int v else .int (g x)) :: dRep (prsD K) (mD g K) (prD q) (.int v) = .int (up g q v x) :: mD (up g q v) K
    rw [ih]
    unfold up
    by_cases e : x = q
    · subst e; simp
    · have e' : prD x ≠ prD q := fun z => e (prD_iff.mp z)
      rw [if_neg e', if_neg e]
theorem mem_prs' {l : List Sq} {q : Sq} : prD q ∈ prsD l ↔ q ∈ l := by
  unfold prsD
  rw [List.mem_map]
  exact ⟨fun ⟨x, hx, e⟩ => by rw [← prD_iff.mp e]; exact hx, fun h => ⟨q, h, rfl⟩⟩
theorem dSet_up {g : Sq → Int} {K : List Sq} {q : Sq} {v : Int} : dSet (prsD K) (mD g K) (prD q) (.int v) = (prsD (addS K q), mD (up g q v) (addS K q)) := by
  unfold dSet addS
  by_cases m : q ∈ K
  · rw [if_pos (mem_prs'.mpr m), if_pos m, dRep_up]
  · rw [if_neg (fun z => m (mem_prs'.mp z)), if_neg m]
    have : mD (up g q v) (K ++ [q]) = mD g K ++ [.int v] := by
      unfold mD
      rw [List.map_append]
      have := mD_up (g := g) (v := v) m
      unfold mD at this
      rw [this]
      simp [up]
    rw [this]
    simp [prsD]
/-- the numbers so far -/
structure St (g : Sq → Int) (L : List Sq) : Prop where
  n : L.Nodup
  z : ∀ x, x ∉ L → g x = 0
theorem St.add {g : Sq → Int} {L : List Sq} (s : St g L) (q : Sq) (w : Int) : St (up g q (g q + w)) (addS L q) := ⟨nodup_addS s.n, fun x hx => by
  rw [mem_addS] at hx
  unfold up
  rw [if_neg (fun z => hx (.inr z))]
  exact s.z x fun z => hx (.inl z)⟩
theorem get_mD {g : Sq → Int} {L : List Sq} (s : St g L) (q : Sq) : (match dGet (prsD L) (mD g L) (prD q) with | some z => z | none => .int 0) = .int (g q) := by
  rw [dGet_mD]
  by_cases m : q ∈ L
  · rw [if_pos m]
  · rw [if_neg m, s.z q m]
section
variable {wf n : Nat} {S : Store} {a b many : Nat} {w : Int} {p q s : Sq} {A2 A3 A4 A5 A6 A7 A8 A9 A10 A11 : Option Sl} {K Lk : List Sq} {g f : Sq → Int} {F : CallI}
theorem rows_b1 (s' : St g Lk) (hz : Lk.length < 16777216) : m20b1 F [some (.pl (lp a b)), some (.pl (.int (many : Int))), some (.pl (.lst (prsD (lv a b)))), A3, A4, some (.own (.dct true (prsD Lk) (mD g Lk))), some (.pl (.int p.1)), some (.pl (.int p.2)), some (.pl (.int w)), some (.pl (.int s.1)), some (.pl (.int s.2)), A11] S =
    .ok (.nx [some (.pl (lp a b)), some (.pl (.int (many : Int))), some (.pl (.lst (prsD (lv a b)))), A3, A4, some (.own (.dct true (prsD (addS Lk (vadd p s))) (mD (up g (vadd p s) (g (vadd p s) + w)) (addS Lk (vadd p s))))), some (.pl (.int p.1)), some (.pl (.int p.2)), some (.pl (.int w)), some (.pl (.int s.1)), some (.pl (.int s.2)), some (.pl (prD (vadd p s)))] S) := by
  have hk : isKey true (prD (vadd p s)) = true := isKey_pr
  have hz' : lt24 (prsD Lk) = true := lt24_of (by simpa using hz)
  have hg := dGet_mD (g := g) (vadd p s) Lk
  have hs := dSet_up (g := g) (K := Lk) (q := vadd p s) (v := g (vadd p s) + w)
  unfold m20b1
  refine seq_nx (ε1 := [some (.pl (lp a b)), some (.pl (.int (many : Int))), some (.pl (.lst (prsD (lv a b)))), A3, A4, some (.own (.dct true (prsD Lk) (mD g Lk))), some (.pl (.int p.1)), some (.pl (.int p.2)), some (.pl (.int w)), some (.pl (.int s.1)), some (.pl (.int s.2)), some (.pl (prD (vadd p s)))]) (S1 := S) (by
    generalize lp a b = Y at *
    simp [prD, vadd]) ?_
  generalize lp a b = Y at *
  generalize prD (vadd p s) = Z at *
  by_cases m : vadd p s ∈ Lk
  · rw [if_pos m] at hg
    simp [hk, hg, hz', hs]
  · rw [if_neg m] at hg
    have h0 := s'.z _ m
    rw [h0, Int.zero_add] at hs
    simp [hk, hg, hz', hs, h0]
theorem Sm_nil {lv : List Sq} {w : Sq → Int} {q : Sq} : Sm lv [] w q = 0 := rfl
theorem Sm_app {lv pre : List Sq} {w : Sq → Int} {p q : Sq} : Sm lv (pre ++ [p]) w q = Sm lv pre w q + (lv.map fun s => if vadd p s = q then w p else 0).sum := by unfold Sm; simp
/-- what one pair brings -/
structure One (lv : List Sq) (p : Sq) (w : Int) (g g' : Sq → Int) (L L' : List Sq) : Prop where
  s : St g' L'
  e : ∀ x, g' x = g x + (lv.map fun s => if vadd p s = x then w else 0).sum
  m : ∀ x, x ∈ L' ↔ x ∈ L ∨ ∃ s ∈ lv, x = vadd p s
theorem One.start (s' : St g Lk) : One [] p w g g Lk Lk := ⟨s', by simp, by simp⟩
theorem One.step {pre L' : List Sq} {g' : Sq → Int} (o : One pre p w g g' Lk L') : One (pre ++ [s]) p w g (up g' (vadd p s) (g' (vadd p s) + w)) Lk (addS L' (vadd p s)) := ⟨o.s.add _ _, fun x => by
    rw [List.map_append, List.sum_append, ← Int.add_assoc, ← o.e]
    unfold up
    by_cases c : x = vadd p s
    · rw [if_pos c]; subst c; simp
    · have c' : ¬ vadd p s = x := fun z => c z.symm
      rw [if_neg c]; simp [c'], fun x => by
    rw [mem_addS, o.m]
    constructor
    · rintro ((h | ⟨s', h1, h2⟩) | h)
      · exact .inl h
      · exact .inr ⟨s', by simp [h1], h2⟩
      · exact .inr ⟨s, by simp, h⟩
    · rintro (h | ⟨s', h1, h2⟩)
      · exact .inl (.inl h)
      · rcases List.mem_append.mp h1 with h1 | h1
        · exact .inl (.inr ⟨s', h1, h2⟩)
        · rw [List.mem_singleton.mp h1] at h2
          exact .inr h2⟩
theorem One.len {lv L' : List Sq} {g' : Sq → Int} (o : One lv p w g g' Lk L') (hn : Lk.Nodup) : L'.length ≤ Lk.length + lv.length := by
  have := Lm.sub_len (l := L') (m := Lk ++ lv.map (vadd p)) o.s.n fun x hx => by
    rcases (o.m x).mp hx with h | ⟨s, h1, h2⟩
    · exact List.mem_append.mpr (.inl h)
    · exact List.mem_append.mpr (.inr (List.mem_map.mpr ⟨s, h1, h2.symm⟩))
  simpa using this
theorem rows_b2 (s' : St g Lk) (hz : Lk.length < 16777000) : ∃ g' L' x9 x10 x11, m20b2 F [some (.pl (lp a b)), some (.pl (.int (many : Int))), some (.pl (.lst (prsD (lv a b)))), A3, A4, some (.own (.dct true (prsD Lk) (mD g Lk))), some (.pl (.int p.1)), some (.pl (.int p.2)), some (.pl (.int w)), A9, A10, A11] S =
    .ok (.nx [some (.pl (lp a b)), some (.pl (.int (many : Int))), some (.pl (.lst (prsD (lv a b)))), A3, A4, some (.own (.dct true (prsD L') (mD g' L'))), some (.pl (.int p.1)), some (.pl (.int p.2)), some (.pl (.int w)), x9, x10, x11] S) ∧ One (lv a b) p w g g' Lk L' := by
  have l8 := lv_len (a := a) (b := b)
  obtain ⟨ε1, S1, e1, rfl, g', L', x9, x10, x11, rfl, o⟩ := for_pre (T := tTup 2 (tsCons (tName 9) (tsCons (tName 10) (tsNil)))) (M := m20b1 F) prD
    (P := fun pre ε S' => S' = S ∧ ∃ g' L' x9 x10 x11, ε = [some (.pl (lp a b)), some (.pl (.int (many : Int))), some (.pl (.lst (prsD (lv a b)))), A3, A4, some (.own (.dct true (prsD L') (mD g' L'))), some (.pl (.int p.1)), some (.pl (.int p.2)), some (.pl (.int w)), x9, x10, x11] ∧ One pre p w g g' Lk L')
    (lv a b) (fun pre s rest ε S' hd ⟨hS, g', L', x9, x10, x11, hε, o⟩ => by
      subst hS hε
      have hpre : pre.length < 8 := by
        have := congrArg List.length hd
        simp at this; omega
      have ol := o.len s'.n
      exact ⟨_, rfl, _, S', .inl (rows_b1 (w := w) o.s (by omega)), rfl, _, _, _, _, _, rfl, o.step⟩)
    (lv a b) [] (ε := [some (.pl (lp a b)), some (.pl (.int (many : Int))), some (.pl (.lst (prsD (lv a b)))), A3, A4, some (.own (.dct true (prsD Lk) (mD g Lk))), some (.pl (.int p.1)), some (.pl (.int p.2)), some (.pl (.int w)), A9, A10, A11]) (S := S) rfl ⟨rfl, g, Lk, A9, A10, A11, rfl, One.start s'⟩
  refine ⟨g', L', x9, x10, x11, ?_, o⟩
  have e1' : forGo (tTup 2 (tsCons (tName 9) (tsCons (tName 10) (tsNil)))) (m20b1 F) (prsD (lv a b)) _ _ = _ := e1
  generalize lp a b = Y at *
  unfold m20b2
  simp [e1']
/-- what all pairs bring -/
structure All (lv pre : List Sq) (w g : Sq → Int) (L : List Sq) : Prop where
  s : St g L
  e : ∀ x, g x = Sm lv pre w x
  m : ∀ x, x ∈ L ↔ ∃ p ∈ pre, ∃ s ∈ lv, x = vadd p s
theorem All.start {lv : List Sq} {w : Sq → Int} : All lv [] w (fun _ => 0) [] := ⟨⟨by simp, fun _ _ => rfl⟩, fun _ => rfl, by simp⟩
theorem All.step {lv pre L L' : List Sq} {w g g' : Sq → Int} (h : All lv pre w g L) (o : One lv p (w p) g g' L L') : All lv (pre ++ [p]) w g' L' := ⟨o.s, fun x => by rw [o.e, h.e, Sm_app], fun x => by
    rw [o.m, h.m]
    constructor
    · rintro (⟨p', h1, h2⟩ | h1)
      · exact ⟨p', by simp [h1], h2⟩
      · exact ⟨p, by simp, h1⟩
    · rintro ⟨p', h1, h2⟩
      rcases List.mem_append.mp h1 with h1 | h1
      · exact .inl ⟨p', h1, h2⟩
      · rw [List.mem_singleton.mp h1] at h2
        exact .inr h2⟩
/-- the rows of so many leaps -/
structure Rw (a b i : Nat) (K : List Sq) : Prop where
  s : St (W (lv a b) i) K
  m : ∀ p, p ∈ K ↔ Lm.R a b i p
  l : K.length ≤ 83521
theorem ints_ab (h : Lp a b) : (1 : Int) ≤ a ∧ (0 : Int) ≤ b ∧ (b : Int) ≤ a ∧ (a : Int) ≤ 12 := by
  obtain ⟨h1, h2, h3⟩ := h; omega
theorem Rw.start : Rw a b 0 [(0, 0)] := ⟨⟨by simp, fun x hx => by unfold W; rw [if_neg (by simpa using hx)]⟩, fun p => by
    rw [List.mem_singleton]
    exact ⟨fun h => by subst h; exact Lm.R.zero, fun h => h.of_zero⟩, by simp⟩
theorem Rw.step {i : Nat} {L : List Sq} (h : Lp a b) (r : Rw a b i K) (hi : i < 12) (A : All (lv a b) K (W (lv a b) i) g L) : g = W (lv a b) (i + 1) ∧ Rw a b (i + 1) L := by
  obtain ⟨i1, i2, i3, i4⟩ := ints_ab h
  have e : g = W (lv a b) (i + 1) := by
    funext x
    rw [A.e, Lm.Sm_all r.s.n r.s.z]
    rfl
  have m : ∀ p, p ∈ L ↔ Lm.R a b (i + 1) p := fun p => by
    rw [A.m]
    constructor
    · rintro ⟨q, hq, s, hs, rfl⟩
      exact ((r.m q).mp hq).step (mem_lv.mp hs)
    · intro h
      obtain ⟨q, s, h1, h2, rfl⟩ := h.unstep
      exact ⟨q, (r.m q).mpr h1, s, mem_lv.mpr h2, rfl⟩
  refine ⟨e, ⟨by rw [← e]; exact A.s, m, ?_⟩⟩
  have := Lm.len_box (m := 144) A.s.n fun p hp => by
    obtain ⟨b1, b2, b3⟩ := ((m p).mp hp).bound ⟨i2, i3⟩
    have : ((i + 1 : Nat) : Int) * a ≤ 12 * 12 := Int.mul_le_mul (by omega) (by omega) (by omega) (by omega)
    omega
  omega
theorem rows_b3 {i : Nat} (h : Lp a b) (r : Rw a b i K) (hi : i < 12) : ∃ L x6 x7 x8 x9 x10 x11, m20b3 F [some (.pl (lp a b)), some (.pl (.int (many : Int))), some (.pl (.lst (prsD (lv a b)))), some (.own (.dct true (prsD K) (mD (W (lv a b) i) K))), A4, A5, A6, A7, A8, A9, A10, A11] S =
    .ok (.nx [some (.pl (lp a b)), some (.pl (.int (many : Int))), some (.pl (.lst (prsD (lv a b)))), some (.own (.dct true (prsD L) (mD (W (lv a b) (i + 1)) L))), A4, none, x6, x7, x8, x9, x10, x11] S) ∧ Rw a b (i + 1) L := by
  have l8 := lv_len (a := a) (b := b)
  have rl := r.l
  have zl : zipItems (prsD K) (mD (W (lv a b) i) K) = K.map fun p => .tup [prD p, .int (W (lv a b) i p)] := by
    unfold zipItems prsD mD
    rw [List.zipWith_map]
    induction K with
    | nil => rfl
    | cons x K ih => simp
  obtain ⟨ε1, S1, e1, rfl, g, L, x6, x7, x8, x9, x10, x11, rfl, A⟩ := for_pre (T := tTup 2 (tsCons (tTup 2 (tsCons (tName 6) (tsCons (tName 7) (tsNil)))) (tsCons (tName 8) (tsNil)))) (M := m20b2 F) (fun p => D.tup [prD p, .int (W (lv a b) i p)])
    (P := fun pre ε S' => S' = S ∧ ∃ g L x6 x7 x8 x9 x10 x11, ε = [some (.pl (lp a b)), some (.pl (.int (many : Int))), some (.pl (.lst (prsD (lv a b)))), some (.pl (.dct true (prsD K) (mD (W (lv a b) i) K))), A4, some (.own (.dct true (prsD L) (mD g L))), x6, x7, x8, x9, x10, x11] ∧ All (lv a b) pre (W (lv a b) i) g L)
    K (fun pre p rest ε S' hd ⟨hS, g, L, x6, x7, x8, x9, x10, x11, hε, A⟩ => by
      subst hS hε
      have hpre : pre.length < K.length := by
        have := congrArg List.length hd
        simp at this; omega
      have al : L.length ≤ pre.length * 8 := by
        have := Lm.sub_len (l := L) (m := pre.flatMap fun p => (lv a b).map (vadd p)) A.s.n fun x hx => by
          obtain ⟨p, h1, s, h2, h3⟩ := (A.m x).mp hx
          exact List.mem_flatMap.mpr ⟨p, h1, List.mem_map.mpr ⟨s, h2, h3.symm⟩⟩
        rw [List.length_flatMap] at this
        simp [List.map_const', List.sum_replicate_nat] at this
        have : pre.length * (lv a b).length ≤ pre.length * 8 := Nat.mul_le_mul_left _ l8
        omega
      obtain ⟨g', L', y9, y10, y11, e, o⟩ := rows_b2 (F := F) (S := S') (a := a) (b := b) (many := many) (p := p) (w := W (lv a b) i p) (A3 := some (.pl (.dct true (prsD K) (mD (W (lv a b) i) K)))) (A4 := A4) (A9 := x9) (A10 := x10) (A11 := x11) A.s (by omega)
      exact ⟨_, rfl, _, S', .inl e, rfl, g', L', _, _, _, y9, y10, y11, rfl, A.step o⟩)
    K [] (ε := [some (.pl (lp a b)), some (.pl (.int (many : Int))), some (.pl (.lst (prsD (lv a b)))), some (.pl (.dct true (prsD K) (mD (W (lv a b) i) K))), A4, some (.own (.dct true (prsD []) (mD (fun _ => 0) []))), A6, A7, A8, A9, A10, A11]) (S := S) rfl ⟨rfl, _, [], A6, A7, A8, A9, A10, A11, rfl, All.start⟩
  obtain ⟨ge, r'⟩ := r.step h hi A
  refine ⟨L, x6, x7, x8, x9, x10, x11, ?_, r'⟩
  rw [← zl, ge] at e1
  have e0 : D.dct true [] [] = .dct true (prsD []) (mD (fun _ => 0) []) := rfl
  unfold m20b3
  refine seq_nx (ε1 := [some (.pl (lp a b)), some (.pl (.int (many : Int))), some (.pl (.lst (prsD (lv a b)))), some (.own (.dct true (prsD K) (mD (W (lv a b) i) K))), A4, some (.own (.dct true (prsD []) (mD (fun _ => 0) []))), A6, A7, A8, A9, A10, A11]) (S1 := S1) (by
    generalize lp a b = Y at *
    simp [e0]) ?_
  refine seq_nx (ε1 := [some (.pl (lp a b)), some (.pl (.int (many : Int))), some (.pl (.lst (prsD (lv a b)))), some (.pl (.dct true (prsD K) (mD (W (lv a b) i) K))), A4, some (.own (.dct true (prsD L) (mD (W (lv a b) (i + 1)) L))), x6, x7, x8, x9, x10, x11]) (S1 := S1) (by
    generalize lp a b = Y at *
    generalize hv : D.dct true (prsD []) (mD (fun _ => 0) []) = G0 at *
    simp [e1]) ?_
  generalize lp a b = Y at *
  simp
end
end K56


namespace K56
open Mp PySem Bd
open Lm (vadd vsub W Sm)
section
variable {wf n : Nat} {S : Store} {a b many : Nat} {w : Int} {p q s : Sq} {A2 A3 A4 A5 A6 A7 A8 A9 A10 A11 : Option Sl} {K Lk : List Sq} {g f : Sq → Int} {F : CallI}
abbrev rD (a b i : Nat) (K : List Sq) : D := .dct true (prsD K) (mD (W (lv a b) i) K)
theorem W00 : W (lv a b) 0 (0, 0) = 1 := rfl
theorem mD0 : mD (W (lv a b) 0) [(0, 0)] = [.int 1] := rfl
theorem eD1 : eDct1 (eTup (aCons (eC (.int 0)) (aCons (eC (.int 0)) aNil))) (eC (.int 1)) = fun ε S => Rs.ok (RV.fr (.dct true [.tup [.int 0, .int 0]] [.int 1]), ε, S) := by
  have hk : isKey true (.tup [.int 0, .int 0]) = true := isKey_pr (p := (0, 0))
  funext ε S
  simp [eDct1, hk]
theorem rows_in (h : Lp a b) (hm : many ≤ 12) : ∃ K, callF tab wf (n + 2) 20 [lp a b, .int (many : Int)] S = .ok (true, rD a b many K, S) ∧ Rw a b many K := by
  obtain ⟨ε1, S1, e1, rfl, K, x4, x5, x6, x7, x8, x9, x10, x11, rfl, r⟩ := for_inv (T := tName 4) (M := m20b3 ⟨callF tab wf (n + 1), wf⟩)
    (P := fun i ε S' => S' = S ∧ ∃ K x4 x5 x6 x7 x8 x9 x10 x11, ε = [some (.pl (lp a b)), some (.pl (.int (many : Int))), some (.pl (.lst (prsD (lv a b)))), some (.own (.dct true (prsD K) (mD (W (lv a b) i) K))), x4, x5, x6, x7, x8, x9, x10, x11] ∧ Rw a b i K)
    (Mp.intsFrom 0 many) (ε := [some (.pl (lp a b)), some (.pl (.int (many : Int))), some (.pl (.lst (prsD (lv a b)))), some (.own (.dct true (prsD [(0, 0)]) (mD (W (lv a b) 0) [(0, 0)]))), none, none, none, none, none, none, none, none]) (S := S) ⟨rfl, [(0, 0)], none, none, none, none, none, none, none, none, rfl, Rw.start⟩ fun i d ε S' hx ⟨hS, K, x4, x5, x6, x7, x8, x9, x10, x11, hε, r⟩ => by
      subst hS hε
      obtain ⟨hi, rfl⟩ := intsFrom_get hx
      obtain ⟨L, y6, y7, y8, y9, y10, y11, e, r'⟩ := rows_b3 (F := ⟨callF tab wf (n + 1), wf⟩) (S := S') (many := many) (i := i) (K := K) (A4 := some (.pl (.int (0 + (i : Int))))) (A5 := x5) (A6 := x6) (A7 := x7) (A8 := x8) (A9 := x9) (A10 := x10) (A11 := x11) h r (by omega)
      exact ⟨_, rfl, _, S', .inl e, rfl, L, _, _, y6, y7, y8, y9, y10, y11, rfl, r'⟩
  rw [intsFrom_length] at r e1
  refine ⟨K, ?_, r⟩
  have im : inR (many : Int) := inR_of (by omega) (by omega)
  have k1 : ∀ S, callF tab wf (n + 1) 10 [lp a b] S = .ok (true, .lst (prsD (lv a b)), S) := fun S => leaps_in h
  have e0 : prsD [((0 : Int), (0 : Int))] = [D.tup [.int 0, .int 0]] := rfl
  rw [e0, mD0] at e1
  rw [call_by (tab := tab) (f := 20) rfl rfl]
  generalize lp a b = Y at *
  simp [m20, k1, eD1, im, e1]
theorem need_leaps (hm : many ≤ 12) : callF tab wf (n + 4) 9 [.int (many : Int)] S = .ok (false, .non, S) := by
  have k : ∀ S, callF tab wf (n + 3) 2 [.int (many : Int), .int 0, .int 12] S = .ok (false, .non, S) := fun S => by
    have e1 : (0 : Int) ≤ (many : Int) := by omega
    have e2 : (many : Int) ≤ 12 := by omega
    rw [call_by (tab := tab) (f := 2) rfl rfl]; simp [m2, is_whole_i, e1, e2]
  rw [call_by (tab := tab) (f := 9) rfl rfl]; simp [m9, k]
theorem count_rows (h : Lp a b) (hp : Nr 100 p) (hm : many ≤ 12) : callF tab wf (n + 6) 22 [lp a b, prD p, .int (many : Int)] S = .ok (false, .int (W (lv a b) many p), S) := by
  have k1 : ∀ S, callF tab wf (n + 5) 6 [lp a b] S = .ok (false, .non, S) := fun S => need_leaper (a := a) (b := b) h
  have k2 : ∀ S, callF tab wf (n + 5) 8 [prD p, .int 100] S = .ok (false, .non, S) := fun S => need_target hp
  have k3 : ∀ S, callF tab wf (n + 5) 9 [.int (many : Int)] S = .ok (false, .non, S) := fun S => need_leaps (n := n + 1) hm
  obtain ⟨K, k4, r⟩ := rows_in (wf := wf) (n := n + 3) (S := S) h hm
  have hk : isKey true (prD p) = true := isKey_pr
  have hg := dGet_mD (g := W (lv a b) many) p K
  have k4' : callF tab wf (n + 5) 20 [lp a b, .int (many : Int)] S = .ok (true, rD a b many K, S) := k4
  rw [call_by (tab := tab) (f := 22) rfl rfl]
  generalize lp a b = Y at *
  generalize prD p = Z at *
  by_cases m : p ∈ K
  · rw [if_pos m] at hg
    simp [m22, k1, k2, k3, k4', rD, hk, hg]
  · rw [if_neg m] at hg
    have := r.s.z p m
    simp [m22, k1, k2, k3, k4', rD, hk, hg, this]
theorem count_back (h : Lp a b) (hm : many ≤ 12) : callF tab wf (n + 7) 23 [lp a b, .int (many : Int)] S = .ok (false, .int (W (lv a b) many (0, 0)), S) := by
  have k1 : ∀ S, callF tab wf (n + 5) 6 [lp a b] S = .ok (false, .non, S) := fun S => need_leaper (a := a) (b := b) h
  have k3 : ∀ S, callF tab wf (n + 5) 9 [.int (many : Int)] S = .ok (false, .non, S) := fun S => need_leaps (n := n + 1) hm
  have k5 : ∀ S, callF tab wf (n + 6) 21 [lp a b, .int (many : Int)] S = .ok (false, .non, S) := fun S => by
    rw [call_by (tab := tab) (f := 21) rfl rfl]
    generalize lp a b = Y at *
    simp [m21, k1, k3]
  obtain ⟨K, k4, r⟩ := rows_in (wf := wf) (n := n + 4) (S := S) h hm
  have hk : isKey true (.tup [.int 0, .int 0]) = true := isKey_pr (p := (0, 0))
  have hg : dGet (prsD K) (mD (W (lv a b) many) K) (.tup [.int 0, .int 0]) = if (0, 0) ∈ K then some (.int (W (lv a b) many (0, 0))) else none := dGet_mD (g := W (lv a b) many) (0, 0) K
  have k4' : callF tab wf (n + 6) 20 [lp a b, .int (many : Int)] S = .ok (true, rD a b many K, S) := k4
  rw [call_by (tab := tab) (f := 23) rfl rfl]
  generalize lp a b = Y at *
  by_cases m : (0, 0) ∈ K
  · rw [if_pos m] at hg
    simp [m23, k5, k4', rD, hk, hg]
  · rw [if_neg m] at hg
    have := r.s.z (0, 0) m
    simp [m23, k5, k4', rD, hk, hg, this]
theorem lrow_b1 (s' : St g Lk) (hz : Lk.length < 16777216) (hp : p ∈ K) : m33b1 F [some (.pl (lp a b)), some (.pl (.int (many : Int))), some (.pl (.dct true (prsD K) (mD f K))), A3, some (.own (.dct true (prsD Lk) (mD g Lk))), some (.pl (.int p.1)), some (.pl (.int p.2)), some (.pl (.int s.1)), some (.pl (.int s.2)), A9] S =
    .ok (.nx [some (.pl (lp a b)), some (.pl (.int (many : Int))), some (.pl (.dct true (prsD K) (mD f K))), A3, some (.own (.dct true (prsD (addS Lk (vadd p s))) (mD (up g (vadd p s) (g (vadd p s) + f p)) (addS Lk (vadd p s))))), some (.pl (.int p.1)), some (.pl (.int p.2)), some (.pl (.int s.1)), some (.pl (.int s.2)), some (.pl (prD (vadd p s)))] S) := by
  have hk : isKey true (prD (vadd p s)) = true := isKey_pr
  have hk2 : isKey true (.tup [.int p.1, .int p.2]) = true := isKey_pr (p := p)
  have hz' : lt24 (prsD Lk) = true := lt24_of (by simpa using hz)
  have hg := dGet_mD (g := g) (vadd p s) Lk
  have hs := dSet_up (g := g) (K := Lk) (q := vadd p s) (v := g (vadd p s) + f p)
  have hx : ∀ S, pIdxA (.dct true (prsD K) (mD f K)) (.tup [.int p.1, .int p.2]) S = .ok (.pl (.int (f p))) := fun S => y_idxA_dct hk2 (by
    have := dGet_mD (g := f) p K
    rw [if_pos hp] at this
    exact this)
  unfold m33b1
  refine seq_nx (ε1 := [some (.pl (lp a b)), some (.pl (.int (many : Int))), some (.pl (.dct true (prsD K) (mD f K))), A3, some (.own (.dct true (prsD Lk) (mD g Lk))), some (.pl (.int p.1)), some (.pl (.int p.2)), some (.pl (.int s.1)), some (.pl (.int s.2)), some (.pl (prD (vadd p s)))]) (S1 := S) (by
    generalize lp a b = Y at *
    simp [prD, vadd]) ?_
  generalize lp a b = Y at *
  generalize prD (vadd p s) = Z at *
  generalize D.dct true (prsD K) (mD f K) = G at *
  by_cases m : vadd p s ∈ Lk
  · rw [if_pos m] at hg
    simp [hk, hg, hz', hs, hx]
  · rw [if_neg m] at hg
    have h0 := s'.z _ m
    rw [h0, Int.zero_add] at hs
    simp [hk, hg, hz', hs, h0, hx]
theorem lrow_b2 (s' : St g Lk) (hz : Lk.length < 16777000) (hp : p ∈ K) : ∃ g' L' x7 x8 x9, m33b2 ⟨callF tab wf (n + 1), wf⟩ [some (.pl (lp a b)), some (.pl (.int (many : Int))), some (.pl (.dct true (prsD K) (mD f K))), A3, some (.own (.dct true (prsD Lk) (mD g Lk))), some (.pl (.int p.1)), some (.pl (.int p.2)), A7, A8, A9] S =
    .ok (.nx [some (.pl (lp a b)), some (.pl (.int (many : Int))), some (.pl (.dct true (prsD K) (mD f K))), A3, some (.own (.dct true (prsD L') (mD g' L'))), some (.pl (.int p.1)), some (.pl (.int p.2)), x7, x8, x9] S) ∧ One (lv a b) p (f p) g g' Lk L' := by
  have l8 := lv_len (a := a) (b := b)
  obtain ⟨ε1, S1, e1, rfl, g', L', x7, x8, x9, rfl, o⟩ := for_pre (T := tTup 2 (tsCons (tName 7) (tsCons (tName 8) (tsNil)))) (M := m33b1 ⟨callF tab wf (n + 1), wf⟩) prD
    (P := fun pre ε S' => S' = S ∧ ∃ g' L' x7 x8 x9, ε = [some (.pl (lp a b)), some (.pl (.int (many : Int))), some (.pl (.dct true (prsD K) (mD f K))), A3, some (.own (.dct true (prsD L') (mD g' L'))), some (.pl (.int p.1)), some (.pl (.int p.2)), x7, x8, x9] ∧ One pre p (f p) g g' Lk L')
    (lv a b) (fun pre s rest ε S' hd ⟨hS, g', L', x7, x8, x9, hε, o⟩ => by
      subst hS hε
      have hpre : pre.length < 8 := by
        have := congrArg List.length hd
        simp at this; omega
      have ol := o.len s'.n
      exact ⟨_, rfl, _, S', .inl (lrow_b1 o.s (by omega) hp), rfl, _, _, _, _, _, rfl, o.step⟩)
    (lv a b) [] (ε := [some (.pl (lp a b)), some (.pl (.int (many : Int))), some (.pl (.dct true (prsD K) (mD f K))), A3, some (.own (.dct true (prsD Lk) (mD g Lk))), some (.pl (.int p.1)), some (.pl (.int p.2)), A7, A8, A9]) (S := S) rfl ⟨rfl, g, Lk, A7, A8, A9, rfl, One.start s'⟩
  refine ⟨g', L', x7, x8, x9, ?_, o⟩
  have e1' : forGo (tTup 2 (tsCons (tName 7) (tsCons (tName 8) (tsNil)))) (m33b1 ⟨callF tab wf (n + 1), wf⟩) (prsD (lv a b)) _ _ = _ := e1
  have k : callF tab wf (n + 1) 30 [lp a b] S1 = .ok (true, .lst (prsD (lv a b)), S1) := law_leaps
  generalize lp a b = Y at *
  unfold m33b2
  simp [k, e1']
theorem lrow_b3 {i : Nat} (h : Lp a b) (r : Rw a b i K) (hi : i < 12) : ∃ L x5 x6 x7 x8 x9, m33b3 ⟨callF tab wf (n + 1), wf⟩ [some (.pl (lp a b)), some (.pl (.int (many : Int))), some (.own (.dct true (prsD K) (mD (W (lv a b) i) K))), A3, A4, A5, A6, A7, A8, A9] S =
    .ok (.nx [some (.pl (lp a b)), some (.pl (.int (many : Int))), some (.own (.dct true (prsD L) (mD (W (lv a b) (i + 1)) L))), A3, none, x5, x6, x7, x8, x9] S) ∧ Rw a b (i + 1) L := by
  have l8 := lv_len (a := a) (b := b)
  have rl := r.l
  obtain ⟨ε1, S1, e1, rfl, g, L, x5, x6, x7, x8, x9, rfl, A⟩ := for_pre (T := tTup 2 (tsCons (tName 5) (tsCons (tName 6) (tsNil)))) (M := m33b2 ⟨callF tab wf (n + 1), wf⟩) prD
    (P := fun pre ε S' => S' = S ∧ ∃ g L x5 x6 x7 x8 x9, ε = [some (.pl (lp a b)), some (.pl (.int (many : Int))), some (.pl (.dct true (prsD K) (mD (W (lv a b) i) K))), A3, some (.own (.dct true (prsD L) (mD g L))), x5, x6, x7, x8, x9] ∧ All (lv a b) pre (W (lv a b) i) g L)
    K (fun pre p rest ε S' hd ⟨hS, g, L, x5, x6, x7, x8, x9, hε, A⟩ => by
      subst hS hε
      have hpre : pre.length < K.length := by
        have := congrArg List.length hd
        simp at this; omega
      have al : L.length ≤ pre.length * 8 := by
        have := Lm.sub_len (l := L) (m := pre.flatMap fun p => (lv a b).map (vadd p)) A.s.n fun x hx => by
          obtain ⟨p, h1, s, h2, h3⟩ := (A.m x).mp hx
          exact List.mem_flatMap.mpr ⟨p, h1, List.mem_map.mpr ⟨s, h2, h3.symm⟩⟩
        rw [List.length_flatMap] at this
        simp [List.map_const', List.sum_replicate_nat] at this
        have : pre.length * (lv a b).length ≤ pre.length * 8 := Nat.mul_le_mul_left _ l8
        omega
      obtain ⟨g', L', y7, y8, y9, e, o⟩ := lrow_b2 (wf := wf) (n := n) (S := S') (a := a) (b := b) (many := many) (p := p) (K := K) (f := W (lv a b) i) (A3 := A3) (A7 := x7) (A8 := x8) (A9 := x9) A.s (by omega) (show p ∈ K by rw [hd]; simp)
      exact ⟨_, rfl, _, S', .inl e, rfl, g', L', _, _, y7, y8, y9, rfl, A.step o⟩)
    K [] (ε := [some (.pl (lp a b)), some (.pl (.int (many : Int))), some (.pl (.dct true (prsD K) (mD (W (lv a b) i) K))), A3, some (.own (.dct true (prsD []) (mD (fun _ => 0) []))), A5, A6, A7, A8, A9]) (S := S) rfl ⟨rfl, _, [], A5, A6, A7, A8, A9, rfl, All.start⟩
  obtain ⟨ge, r'⟩ := r.step h hi A
  refine ⟨L, x5, x6, x7, x8, x9, ?_, r'⟩
  have e1' : forGo (tTup 2 (tsCons (tName 5) (tsCons (tName 6) (tsNil)))) (m33b2 ⟨callF tab wf (n + 1), wf⟩) (prsD K) _ _ = _ := e1
  rw [ge] at e1'
  have e0 : D.dct true [] [] = .dct true (prsD []) (mD (fun _ => 0) []) := rfl
  unfold m33b3
  refine seq_nx (ε1 := [some (.pl (lp a b)), some (.pl (.int (many : Int))), some (.own (.dct true (prsD K) (mD (W (lv a b) i) K))), A3, some (.own (.dct true (prsD []) (mD (fun _ => 0) []))), A5, A6, A7, A8, A9]) (S1 := S1) (by
    generalize lp a b = Y at *
    simp [e0]) ?_
  refine seq_nx (ε1 := [some (.pl (lp a b)), some (.pl (.int (many : Int))), some (.pl (.dct true (prsD K) (mD (W (lv a b) i) K))), A3, some (.own (.dct true (prsD L) (mD (W (lv a b) (i + 1)) L))), x5, x6, x7, x8, x9]) (S1 := S1) (by
    generalize lp a b = Y at *
    generalize hv : D.dct true (prsD []) (mD (fun _ => 0) []) = G0 at *
    simp [e1']) ?_
  generalize lp a b = Y at *
  simp
theorem law_rows (h : Lp a b) (hm : many ≤ 12) : ∃ K, callF tab wf (n + 2) 33 [lp a b, .int (many : Int)] S = .ok (true, rD a b many K, S) ∧ Rw a b many K := by
  obtain ⟨ε1, S1, e1, rfl, K, x3, x4, x5, x6, x7, x8, x9, rfl, r⟩ := for_inv (T := tName 3) (M := m33b3 ⟨callF tab wf (n + 1), wf⟩)
    (P := fun i ε S' => S' = S ∧ ∃ K x3 x4 x5 x6 x7 x8 x9, ε = [some (.pl (lp a b)), some (.pl (.int (many : Int))), some (.own (.dct true (prsD K) (mD (W (lv a b) i) K))), x3, x4, x5, x6, x7, x8, x9] ∧ Rw a b i K)
    (Mp.intsFrom 0 many) (ε := [some (.pl (lp a b)), some (.pl (.int (many : Int))), some (.own (.dct true (prsD [(0, 0)]) (mD (W (lv a b) 0) [(0, 0)]))), none, none, none, none, none, none, none]) (S := S) ⟨rfl, [(0, 0)], none, none, none, none, none, none, none, rfl, Rw.start⟩ fun i d ε S' hx ⟨hS, K, x3, x4, x5, x6, x7, x8, x9, hε, r⟩ => by
      subst hS hε
      obtain ⟨hi, rfl⟩ := intsFrom_get hx
      obtain ⟨L, y5, y6, y7, y8, y9, e, r'⟩ := lrow_b3 (wf := wf) (n := n) (S := S') (many := many) (i := i) (K := K) (A3 := some (.pl (.int (0 + (i : Int))))) (A4 := x4) (A5 := x5) (A6 := x6) (A7 := x7) (A8 := x8) (A9 := x9) h r (by omega)
      exact ⟨_, rfl, _, S', .inl e, rfl, L, _, _, y5, y6, y7, y8, y9, rfl, r'⟩
  rw [intsFrom_length] at r e1
  refine ⟨K, ?_, r⟩
  have im : inR (many : Int) := inR_of (by omega) (by omega)
  have e0 : prsD [((0 : Int), (0 : Int))] = [D.tup [.int 0, .int 0]] := rfl
  rw [e0, mD0] at e1
  rw [call_by (tab := tab) (f := 33) rfl rfl]
  generalize lp a b = Y at *
  simp [m33, eD1, im, e1]
end
end K56


namespace K56
open Mp PySem Bd
open Lm (vadd vsub W Sm)
theorem lv_nodup {a b : Nat} : (lv a b).Nodup := by
  rw [List.nodup_iff_pairwise_ne]
  exact (msort_lt (dd_nodup (Lm.l8 a b))).imp fun h e => by rw [e] at h; exact lt_irrefl _ h
theorem W_rot {a b m : Nat} {p : Sq} : W (lv a b) m (p.2, 0 - p.1) = W (lv a b) m p :=
  Lm.W_map (fun p => (p.2, 0 - p.1)) (Lm.perm_of (Lm.nodup_map (fun x y e => by
    simp only [Prod.mk.injEq] at e
    ext <;> omega) lv_nodup) lv_nodup fun x => by
    rw [List.mem_map]
    constructor
    · rintro ⟨y, hy, rfl⟩
      rw [mem_lv] at hy ⊢
      simp only [Lm.l8, List.mem_cons, List.not_mem_nil, or_false] at hy ⊢
      rcases hy with rfl | rfl | rfl | rfl | rfl | rfl | rfl | rfl <;> simp
    · intro hx
      refine ⟨(0 - x.2, x.1), ?_, by ext <;> dsimp only; omega⟩
      rw [mem_lv] at hx ⊢
      simp only [Lm.l8, List.mem_cons, List.not_mem_nil, or_false] at hx ⊢
      rcases hx with rfl | rfl | rfl | rfl | rfl | rfl | rfl | rfl <;> simp)
    (fun p s => by unfold vsub; ext <;> dsimp only; omega) (fun p => by
      simp only [Prod.mk.injEq]
      constructor
      · rintro ⟨h1, h2⟩; ext <;> dsimp only <;> omega
      · rintro rfl; simp) m p
theorem W_succ {l : List Sq} {k : Nat} {p : Sq} : W l (k + 1) p = (l.map fun s => W l k (vsub p s)).sum := rfl
theorem W_neg {a b m : Nat} {p : Sq} : W (lv a b) m (vsub (0, 0) p) = W (lv a b) m p := by
  have h1 := W_rot (a := a) (b := b) (m := m) (p := p)
  have h2 := W_rot (a := a) (b := b) (m := m) (p := (p.2, 0 - p.1))
  dsimp only at h2
  have e : vsub (0, 0) p = (0 - p.1, 0 - p.2) := rfl
  rw [e, h2, h1]
theorem W_all {a b : Nat} (h : Lp a b) : ∀ {m : Nat} {K : List Sq}, m ≤ 12 → Rw a b m K → (K.map (W (lv a b) m)).sum = ((lv a b).length : Int) ^ m
  | 0, K, _, r => by
    have e : (W (lv a b) 0) = fun p => if p = (0, 0) then (fun _ => 1) p else 0 := by funext p; rfl
    rw [e, Lm.sum_pick r.s.n, if_pos ((r.m _).mpr Lm.R.zero)]
    rfl
  | m + 1, K, hm, r => by
    obtain ⟨K0, _, r0⟩ := rows_in (wf := 0) (n := 0) (S := []) (many := m) h (by omega)
    have ih := W_all h (m := m) (K := K0) (by omega) r0
    have e : W (lv a b) (m + 1) = Sm (lv a b) K0 (W (lv a b) m) := by
      funext q
      rw [Lm.Sm_all r0.s.n r0.s.z]
      rfl
    rw [e, Lm.Sm_total r.s.n fun p hp s hs => (r.m _).mpr (((r0.m p).mp hp).step (mem_lv.mp hs)), ih]
    rw [Int.pow_succ, Int.mul_comm]
theorem cm_R {a b : Nat} (h : Lp a b) : ∀ {k : Nat} {p : Sq}, Lm.R a b k p → cm a b p = true
  | 0, p, r => by rw [r.of_zero]; exact cm_zero
  | k + 1, p, r => by
    obtain ⟨x, s, h1, h2, rfl⟩ := r.unstep
    exact cm_add h (cm_R h h1) (cm_leap h (mem_lv.mpr h2))
section
variable {wf n : Nat} {S : Store} {a b most m : Nat} {p q : Sq} {K : List Sq}
theorem seq_rt {A B : SDen} {ε : Mp.Env} {S S1 : Store} {f : Bool} {d : D} (h : A ε S = .ok (.rt f d S1)) : sSeq A B ε S = .ok (.rt f d S1) := by
  show (A ε S >>= fun o => match o with | .nx ε1 S1 => B ε1 S1 | o => .ok o) = _
  rw [h]
  rfl
theorem rep2 {x : D} : pMul (.lst [x]) (.int 2) S = .ok (.fr (.lst [x, x])) := by
  show (if (-(2 ^ 63) ≤ (2 : Int) ∧ (2 : Int) < 2 ^ 63) ∧ [x].length * (2 : Int).toNat ≤ 16777216 then Rs.ok (RV.fr (.lst (List.replicate (2 : Int).toNat [x]).flatten)) else .no) = _
  rw [if_pos ⟨⟨by omega, by omega⟩, by simp⟩]
  rfl
theorem row_near (h : Lp a b) (r : Rw a b m K) (hm : m * a ≤ 100) (hp : p ∈ K) : Nr 100 p := by
  obtain ⟨i1, i2, i3, i4⟩ := ints_ab h
  obtain ⟨b1, b2, b3⟩ := ((r.m p).mp hp).bound ⟨i2, i3⟩
  have : ((m : Int)) * a ≤ 100 := by rw [← Int.natCast_mul]; omega
  have q1 := ab_le (show ab p.1 ≤ 100 by omega)
  have q2 := ab_le (show ab p.2 ≤ 100 by omega)
  exact ⟨by omega, by omega, by omega, by omega⟩
theorem right_b1 {x6 x7 x8 : Option Sl} (h : Lp a b) (hm : m ≤ 12) (hma : m * a ≤ 100) (r : Rw a b m K) (cS : CupS S) : ∃ y7 y8 S', m35b1 ⟨callF tab (wf + 400) (n + 8), wf + 400⟩ [some (.pl (.ref 0)), some (.pl (lp a b)), some (.pl (.int (most : Int))), some (.pl (.int (m : Int))), some (.own (rD a b m K)), some (.pl (.lst (prsD (msort K)))), x6, x7, x8, none, none, none, none] S = .ok (.nx [some (.pl (.ref 0)), some (.pl (lp a b)), some (.pl (.int (most : Int))), some (.pl (.int (m : Int))), some (.own (rD a b m K)), some (.pl (.lst (prsD (msort K)))), x6, y7, y8, none, none, none, none] S') ∧ CupS S' := by
  obtain ⟨i1, i2, i3, i4⟩ := ints_ab h
  have rl := r.l
  have kne : msort K ≠ [] := fun z => by
    have : ((m : Int) * a, (m : Int) * b) ∈ msort K := mem_msort.mpr ((r.m _).mpr (Lm.Di.far i1 ⟨i2, i3⟩ m).1)
    rw [z] at this; cases this
  obtain ⟨d, S1, e1, c1, hd⟩ := some_l (wf := wf + 400) (n := n + 6) (ds := prsD (msort K)) (fun z => kne (List.map_eq_nil_iff.mp z)) (by simp [msort_len]; omega) cS
  obtain ⟨p, hp, rfl⟩ := List.mem_map.mp hd
  have hpK : p ∈ K := mem_msort.mp hp
  have np := row_near h r hma hpK
  have nq : Nr 100 (p.2, 0 - p.1) := by obtain ⟨n1, n2, n3, n4⟩ := np; exact ⟨by dsimp only; omega, by dsimp only; omega, by dsimp only; omega, by dsimp only; omega⟩
  have t1 : ∀ S, callF tab (wf + 400) (n + 8) 22 [lp a b, prD p, .int (m : Int)] S = .ok (false, .int (W (lv a b) m p), S) := fun S => count_rows (n := n + 2) h np hm
  have t2 : ∀ S, callF tab (wf + 400) (n + 8) 22 [lp a b, .tup [.int p.2, .int (0 - p.1)], .int (m : Int)] S = .ok (false, .int (W (lv a b) m p), S) := fun S => by
    have := count_rows (wf := wf + 400) (n := n + 2) (S := S) (p := (p.2, 0 - p.1)) h nq hm
    rw [W_rot] at this
    exact this
  rw [Int.zero_sub] at t2
  have t3 : ∀ v S, callF tab (wf + 400) (n + 8) 28 [.lst [.int v, .int v], .lst [.int v, .int v]] S = .ok (false, .bl true, S) := fun v S => like (n := n + 4) (k := 2) (d := .lst [.int v, .int v]) rfl (by omega)
  have hR := (r.m p).mp hpK
  have hc := cm_R h hR
  obtain ⟨c, u, v, w, z, f, e⟩ := fewest_in h np hc
  have cle := hR.few f
  have t4 : ∀ S, callF tab (wf + 400) (n + 8) 19 [lp a b, prD p] S = .ok (false, .int c, S) := fun S => fewest_yes (n := n + 2) h np hc e
  have hk : isKey true (prD p) = true := isKey_pr
  have hx : ∀ S, pIdxA (rD a b m K) (prD p) S = .ok (.pl (.int (W (lv a b) m p))) := fun S => y_idxA_dct hk (by rw [dGet_mD, if_pos hpK])
  have y0 : ∀ S, pIdx (prD p) (.int 0) S = _ := fun _ => y_idx0
  have y1 : ∀ S, pIdx (prD p) (.int 1) S = _ := fun _ => y_idx1
  have ng : ¬ ((m : Int) < c) := by omega
  refine ⟨some (.pl (prD p)), some (.pl (.lst [.int (W (lv a b) m p), .int (W (lv a b) m p)])), S1, ?_, c1⟩
  generalize prsD (msort K) = PK at *
  generalize lp a b = Y at *
  generalize prD p = Z at *
  generalize rD a b m K = G at *
  simp [m35b1, e1, t1, y0, y1, t2, hx, rep2, t3, t4, ng]
theorem law_right (h : Lp a b) (hm12 : most ≤ 12) (hma : most * a ≤ 100) (cS : CupS S) : ∃ S', callF tab (wf + 400) (n + 9) 35 [.ref 0, lp a b, .int (most : Int)] S = .ok (false, .bl true, S') ∧ CupS S' := by
  obtain ⟨v, S1, e1, c1, v0, v1⟩ := roll (wf := wf + 400) (n := n + 7) (m := (most : Int) + 1) (by omega) cS
  obtain ⟨m, rfl⟩ : ∃ m : Nat, v = (m : Int) := ⟨v.toNat, by omega⟩
  have hm : m ≤ 12 := by omega
  have hma' : m * a ≤ 100 := Nat.le_trans (Nat.mul_le_mul_right a (show m ≤ most by omega)) hma
  obtain ⟨K, k1, r⟩ := law_rows (wf := wf + 400) (n := n + 6) (S := S1) h hm
  have k1' : callF tab (wf + 400) (n + 8) 33 [lp a b, .int (m : Int)] S1 = .ok (true, rD a b m K, S1) := k1
  have rl := r.l
  have y0 : ∀ (p : Sq) S, pIdx (prD p) (.int 0) S = _ := fun _ _ => y_idx0
  have y1 : ∀ (p : Sq) S, pIdx (prD p) (.int 1) S = _ := fun _ _ => y_idx1
  have ga : ∀ x : Int, (if x < 0 then -x else x) = ab x := fun _ => rfl
  have so : ∀ S, pSortA (rD a b m K) S = .ok (.fr (.lst (prsD (msort K)))) := fun S => y_sortA_dprs
  have cp : ∀ S, compGo [7] (tName 7) (m35c1 ⟨callF tab (wf + 400) (n + 8), wf + 400⟩) (m35e1 ⟨callF tab (wf + 400) (n + 8), wf + 400⟩) [some (.pl (.ref 0)), some (.pl (lp a b)), some (.pl (.int (most : Int))), some (.pl (.int (m : Int))), some (.own (rD a b m K)), none, none, none, none, none, none, none, none] (prsD (msort K)) S [] = .ok (prsD (msort K), S) := fun S => by
    have := comp_mp (T := tName 7) (C := m35c1 ⟨callF tab (wf + 400) (n + 8), wf + 400⟩) (a := m35e1 ⟨callF tab (wf + 400) (n + 8), wf + 400⟩) (vs := [7]) (ε0 := [some (.pl (.ref 0)), some (.pl (lp a b)), some (.pl (.int (most : Int))), some (.pl (.int (m : Int))), some (.own (rD a b m K)), none, none, none, none, none, none, none, none]) prD prD (S := S) (msort K) (by rw [msort_len]; omega) fun p hp => by
      have np := row_near h r hma' (mem_msort.mp hp)
      have l1 : ab p.1 ≤ 100 := by obtain ⟨n1, n2, n3, n4⟩ := np; unfold ab; split <;> omega
      have l2 : ab p.2 ≤ 100 := by obtain ⟨n1, n2, n3, n4⟩ := np; unfold ab; split <;> omega
      have z0 := y0 p
      have z1 := y1 p
      refine ⟨_, rfl, ?_, rfl, .inl ?_⟩
      · generalize lp a b = Y at *
        generalize prD p = Z at *
        generalize rD a b m K = G at *
        simp [m35c1, z0, z1, ga, l1, l2]
      · generalize lp a b = Y at *
        generalize rD a b m K = G at *
        simp [m35e1]
    exact this
  -- six turns
  obtain ⟨ε2, S2, l2, c2, x6, x7, x8, rfl⟩ := for_inv (T := tName 6) (M := m35b1 ⟨callF tab (wf + 400) (n + 8), wf + 400⟩)
    (P := fun i ε S' => CupS S' ∧ ∃ x6 x7 x8, ε = [some (.pl (.ref 0)), some (.pl (lp a b)), some (.pl (.int (most : Int))), some (.pl (.int (m : Int))), some (.own (rD a b m K)), some (.pl (.lst (prsD (msort K)))), x6, x7, x8, none, none, none, none])
    (Mp.intsFrom 0 6) (ε := [some (.pl (.ref 0)), some (.pl (lp a b)), some (.pl (.int (most : Int))), some (.pl (.int (m : Int))), some (.own (rD a b m K)), some (.pl (.lst (prsD (msort K)))), none, none, none, none, none, none, none]) (S := S1) ⟨c1, none, none, none, rfl⟩ fun i d ε S' hx ⟨hS, x6, x7, x8, hε⟩ => by
      subst hε
      obtain ⟨y7, y8, S2, e, c⟩ := right_b1 (wf := wf) (n := n) (S := S') (x6 := some (.pl d)) (x7 := x7) (x8 := x8) (most := most) h hm hma' r hS
      exact ⟨_, rfl, _, S2, .inl e, c, some (.pl d), y7, y8, rfl⟩
  obtain ⟨v3, S3, e3, c3, v30, v31⟩ := roll (wf := wf + 400) (n := n + 7) (m := 15) (by omega) c2
  obtain ⟨v4, S4, e4, c4, v40, v41⟩ := roll (wf := wf + 400) (n := n + 7) (m := 15) (by omega) c3
  obtain ⟨p, hp⟩ : ∃ p : Sq, p = (v3 - 7, v4 - 7) := ⟨_, rfl⟩
  have np : Nr 100 p := by subst hp; exact ⟨by dsimp only; omega, by dsimp only; omega, by dsimp only; omega, by dsimp only; omega⟩
  have t1 : ∀ S, callF tab (wf + 400) (n + 8) 22 [lp a b, prD p, .int (m : Int)] S = .ok (false, .int (W (lv a b) m p), S) := fun S => count_rows (n := n + 2) h np hm
  have t2 : ∀ S, callF tab (wf + 400) (n + 8) 23 [lp a b, .int (m : Int)] S = .ok (false, .int (W (lv a b) m (0, 0)), S) := fun S => count_back (n := n + 1) h hm
  have t3 : ∀ v u S, callF tab (wf + 400) (n + 8) 28 [.lst [.int v, .int u], .lst [.int v, .int u]] S = .ok (false, .bl true, S) := fun v u S => like (n := n + 4) (k := 2) (d := .lst [.int v, .int u]) rfl (by omega)
  have hk : ∀ q : Sq, isKey true (prD q) = true := fun _ => isKey_pr
  have hk0 : isKey true (.tup [.int 0, .int 0]) = true := isKey_pr (p := (0, 0))
  have gt : ∀ q : Sq, dGet (prsD K) (mD (W (lv a b) m) K) (prD q) = if q ∈ K then some (.int (W (lv a b) m q)) else none := fun q => dGet_mD q K
  have g0 : dGet (prsD K) (mD (W (lv a b) m) K) (.tup [.int 0, .int 0]) = if (0, 0) ∈ K then some (.int (W (lv a b) m (0, 0))) else none := gt (0, 0)
  have da : ∀ S, dctAt (rD a b m K) S = some (true, prsD K, mD (W (lv a b) m) K) := fun S => rfl
  have l8 := lv_len (a := a) (b := b)
  have t5 : ∀ S, callF tab (wf + 400) (n + 8) 18 [lp a b] S = .ok (false, .tup (prsD (lv a b)), S) := fun S => leaps_of (n := n + 2) (a := a) (b := b) h
  have ll : ((prsD (lv a b)).length : Int) = (lv a b).length := by simp
  -- the whole
  obtain ⟨ε5, S5, l5, rfl, x6', rfl⟩ := for_inv (T := tName 6) (M := m35b2 ⟨callF tab (wf + 400) (n + 8), wf + 400⟩)
    (P := fun i ε S' => S' = S4 ∧ ∃ x6, ε = [some (.pl (.ref 0)), some (.pl (lp a b)), some (.pl (.int (most : Int))), some (.pl (.int (m : Int))), some (.own (rD a b m K)), some (.pl (.lst (prsD (msort K)))), x6, some (.pl (prD p)), x8, some (.pl (.int (((lv a b).length : Int) ^ i))), none, none, none])
    (Mp.intsFrom 0 m) (ε := [some (.pl (.ref 0)), some (.pl (lp a b)), some (.pl (.int (most : Int))), some (.pl (.int (m : Int))), some (.own (rD a b m K)), some (.pl (.lst (prsD (msort K)))), x6, some (.pl (prD p)), x8, some (.pl (.int 1)), none, none, none]) (S := S4) ⟨rfl, x6, by rfl⟩ fun i d ε S' hx ⟨hS, x6, hε⟩ => by
      subst hS hε
      have m1 : ∀ j, mulOk j ((lv a b).length : Int) = true := fun j => mulOk_r (by omega)
      refine ⟨_, rfl, [some (.pl (.ref 0)), some (.pl (lp a b)), some (.pl (.int (most : Int))), some (.pl (.int (m : Int))), some (.own (rD a b m K)), some (.pl (.lst (prsD (msort K)))), some (.pl d), some (.pl (prD p)), x8, some (.pl (.int (((lv a b).length : Int) ^ (i + 1)))), none, none, none], S', .inl ?_, rfl, some (.pl d), rfl⟩
      have ep : ((lv a b).length : Int) ^ (i + 1) = ((lv a b).length : Int) ^ i * (lv a b).length := Int.pow_succ _ _
      rw [ep]
      generalize prsD (msort K) = PK at *
      generalize lp a b = Y at *
      generalize prD p = Z at *
      generalize rD a b m K = G at *
      generalize prsD (lv a b) = LV at *
      simp [m35b2, t5, ll, m1]
  rw [intsFrom_length] at l5
  have al := W_all h hm r
  have cs : ∀ S, compGo [11] (tName 11) cYes (m35e2 ⟨callF tab (wf + 400) (n + 8), wf + 400⟩) [some (.pl (.ref 0)), some (.pl (lp a b)), some (.pl (.int (most : Int))), some (.pl (.int (m : Int))), some (.pl (rD a b m K)), some (.pl (.lst (prsD (msort K)))), x6', some (.pl (prD p)), x8, some (.pl (.int (((lv a b).length : Int) ^ m))), none, none, none] (prsD K) S [] = .ok (intsD (K.map (W (lv a b) m)), S) := fun S => by
    have := comp_mp (T := tName 11) (C := cYes) (a := m35e2 ⟨callF tab (wf + 400) (n + 8), wf + 400⟩) (vs := [11]) (ε0 := [some (.pl (.ref 0)), some (.pl (lp a b)), some (.pl (.int (most : Int))), some (.pl (.int (m : Int))), some (.pl (rD a b m K)), some (.pl (.lst (prsD (msort K)))), x6', some (.pl (prD p)), x8, some (.pl (.int (((lv a b).length : Int) ^ m))), none, none, none]) prD (fun q => .int (W (lv a b) m q)) (S := S) K (by omega) fun q hq => by
      have hx : ∀ S, pIdxA (rD a b m K) (prD q) S = .ok (.pl (.int (W (lv a b) m q))) := fun S => y_idxA_dct (hk q) (by rw [gt, if_pos hq])
      refine ⟨_, rfl, rfl, rfl, .inl ?_⟩
      generalize prsD (msort K) = PK at *
      generalize lp a b = Y at *
      generalize prD p = Z at *
      generalize prD q = Z2 at *
      generalize rD a b m K = G at *
      simp [m35e2, hx]
    rw [show intsD (K.map (W (lv a b) m)) = K.map (fun q => D.int (W (lv a b) m q)) from by simp [intsD]]
    exact this
  refine ⟨S5, ?_, c4⟩
  have body : m35 ⟨callF tab (wf + 400) (n + 8), wf + 400⟩ [some (.pl (.ref 0)), some (.pl (lp a b)), some (.pl (.int (most : Int))), none, none, none, none, none, none, none, none, none, none] S = .ok (.rt false (.bl true) S5) := by
    unfold m35
    refine seq_nx (ε1 := [some (.pl (.ref 0)), some (.pl (lp a b)), some (.pl (.int (most : Int))), some (.pl (.int (m : Int))), none, none, none, none, none, none, none, none, none]) (S1 := S1) (by
      generalize lp a b = Y at *
      simp [e1]) ?_
    refine seq_nx (ε1 := [some (.pl (.ref 0)), some (.pl (lp a b)), some (.pl (.int (most : Int))), some (.pl (.int (m : Int))), some (.own (rD a b m K)), none, none, none, none, none, none, none, none]) (S1 := S1) (by
      generalize lp a b = Y at *
      generalize rD a b m K = G at *
      simp [k1']) ?_
    refine seq_nx (ε1 := [some (.pl (.ref 0)), some (.pl (lp a b)), some (.pl (.int (most : Int))), some (.pl (.int (m : Int))), some (.own (rD a b m K)), some (.pl (.lst (prsD (msort K)))), none, none, none, none, none, none, none]) (S1 := S1) (by
      generalize prsD (msort K) = PK at *
      generalize lp a b = Y at *
      generalize rD a b m K = G at *
      simp [so, wipe, cp]) ?_
    refine seq_nx (ε1 := [some (.pl (.ref 0)), some (.pl (lp a b)), some (.pl (.int (most : Int))), some (.pl (.int (m : Int))), some (.own (rD a b m K)), some (.pl (.lst (prsD (msort K)))), x6, x7, x8, none, none, none, none]) (S1 := S2) (by
      have i6 : inR 6 := inR_of (by omega) (by omega)
      have t6 : (6 : Int).toNat = 6 := rfl
      generalize prsD (msort K) = PK at *
      generalize lp a b = Y at *
      generalize rD a b m K = G at *
      simp [i6, t6, l2]) ?_
    refine seq_nx (ε1 := [some (.pl (.ref 0)), some (.pl (lp a b)), some (.pl (.int (most : Int))), some (.pl (.int (m : Int))), some (.own (rD a b m K)), some (.pl (.lst (prsD (msort K)))), x6, some (.pl (prD p)), x8, none, none, none, none]) (S1 := S5) (by
      subst hp
      generalize prsD (msort K) = PK at *
      generalize lp a b = Y at *
      generalize rD a b m K = G at *
      simp [e3, e4, prD]) ?_
    refine seq_nx (ε1 := [some (.pl (.ref 0)), some (.pl (lp a b)), some (.pl (.int (most : Int))), some (.pl (.int (m : Int))), some (.own (rD a b m K)), some (.pl (.lst (prsD (msort K)))), x6, some (.pl (prD p)), x8, none, none, none, none]) (S1 := S5) (by
      have gp := gt p
      have hkp := hk p
      have z1 := r.s.z p
      have z2 := r.s.z (0, 0)
      generalize prsD (msort K) = PK at *
      generalize lp a b = Y at *
      generalize prD p = Z at *
      generalize rD a b m K = G at *
      by_cases m1 : p ∈ K
      · by_cases m2 : (0, 0) ∈ K
        · rw [if_pos m1] at gp
          rw [if_pos m2] at g0
          simp [t1, t2, da, hkp, hk0, gp, g0, t3]
        · rw [if_pos m1] at gp
          rw [if_neg m2] at g0
          have z2' := z2 m2
          rw [z2'] at t2
          simp [t1, t2, da, hkp, hk0, gp, g0, t3]
      · by_cases m2 : (0, 0) ∈ K
        · rw [if_neg m1] at gp
          rw [if_pos m2] at g0
          have z1' := z1 m1
          rw [z1'] at t1
          simp [t1, t2, da, hkp, hk0, gp, g0, t3]
        · rw [if_neg m1] at gp
          rw [if_neg m2] at g0
          have z1' := z1 m1
          rw [z1'] at t1
          have z2' := z2 m2
          rw [z2'] at t2
          simp [t1, t2, da, hkp, hk0, gp, g0, t3]) ?_
    refine seq_nx (ε1 := [some (.pl (.ref 0)), some (.pl (lp a b)), some (.pl (.int (most : Int))), some (.pl (.int (m : Int))), some (.own (rD a b m K)), some (.pl (.lst (prsD (msort K)))), x6, some (.pl (prD p)), x8, some (.pl (.int 1)), none, none, none]) (S1 := S5) (by
      generalize prsD (msort K) = PK at *
      generalize lp a b = Y at *
      generalize prD p = Z at *
      generalize rD a b m K = G at *
      simp) ?_
    refine seq_nx (ε1 := [some (.pl (.ref 0)), some (.pl (lp a b)), some (.pl (.int (most : Int))), some (.pl (.int (m : Int))), some (.own (rD a b m K)), some (.pl (.lst (prsD (msort K)))), x6', some (.pl (prD p)), x8, some (.pl (.int (((lv a b).length : Int) ^ m))), none, none, none]) (S1 := S5) (by
      have im : inR (m : Int) := inR_of (by omega) (by omega)
      generalize prsD (msort K) = PK at *
      generalize lp a b = Y at *
      generalize prD p = Z at *
      generalize rD a b m K = G at *
      simp [im, l5]) ?_
    have hd : ∀ ε : Mp.Env, slot ε 4 = some (.own (rD a b m K)) → heldD (.bor 4) ε = .ok (true, prsD K, mD (W (lv a b) m) K, ε.set 4 (some (.pl (rD a b m K)))) := fun ε h => by
      rw [heldD_bor, h]
    refine seq_nx (ε1 := [some (.pl (.ref 0)), some (.pl (lp a b)), some (.pl (.int (most : Int))), some (.pl (.int (m : Int))), some (.pl (rD a b m K)), some (.pl (.lst (prsD (msort K)))), x6', some (.pl (prD p)), x8, some (.pl (.int (((lv a b).length : Int) ^ m))), none, none, none]) (S1 := S5) (by
      have hd' := hd [some (.pl (.ref 0)), some (.pl (lp a b)), some (.pl (.int (most : Int))), some (.pl (.int (m : Int))), some (.own (rD a b m K)), some (.pl (.lst (prsD (msort K)))), x6', some (.pl (prD p)), x8, some (.pl (.int (((lv a b).length : Int) ^ m))), none, none, none] rfl
      generalize prsD (msort K) = PK at *
      generalize lp a b = Y at *
      generalize prD p = Z at *
      generalize rD a b m K = G at *
      simp [-heldD_bor, hd', wipe, cs, al]) ?_
    by_cases hm0 : m = 0
    · refine seq_rt ?_
      generalize prsD (msort K) = PK at *
      generalize lp a b = Y at *
      generalize prD p = Z at *
      generalize rD a b m K = G at *
      simp [hm0]
    · obtain ⟨m', hm'⟩ : ∃ m', m = m' + 1 := ⟨m - 1, by omega⟩
      refine seq_nx (ε1 := [some (.pl (.ref 0)), some (.pl (lp a b)), some (.pl (.int (most : Int))), some (.pl (.int (m : Int))), some (.pl (rD a b m K)), some (.pl (.lst (prsD (msort K)))), x6', some (.pl (prD p)), x8, some (.pl (.int (((lv a b).length : Int) ^ m))), none, none, none]) (S1 := S5) (by
        have : ¬ m = 0 := hm0
        generalize prsD (msort K) = PK at *
        generalize lp a b = Y at *
        generalize prD p = Z at *
        generalize rD a b m K = G at *
        simp [this]) ?_
      obtain ⟨K2, q1, r2⟩ := law_rows (wf := wf + 400) (n := n + 6) (S := S5) (many := m') h (by omega)
      have q1' : callF tab (wf + 400) (n + 8) 33 [lp a b, .int (m' : Int)] S5 = .ok (true, rD a b m' K2, S5) := q1
      have r2l := r2.l
      have em : (m : Int) - 1 = (m' : Int) := by omega
      have k8 : ∀ S, callF tab (wf + 400) (n + 8) 30 [lp a b] S = .ok (true, .lst (prsD (lv a b)), S) := fun S => law_leaps (n := n + 7)
      have da2 : ∀ S, dctAt (rD a b m' K2) S = some (true, prsD K2, mD (W (lv a b) m') K2) := fun S => rfl
      refine seq_nx (ε1 := [some (.pl (.ref 0)), some (.pl (lp a b)), some (.pl (.int (most : Int))), some (.pl (.int (m : Int))), some (.pl (rD a b m K)), some (.pl (.lst (prsD (msort K)))), x6', some (.pl (prD p)), x8, some (.pl (.int (((lv a b).length : Int) ^ m))), some (.own (rD a b m' K2)), none, none]) (S1 := S5) (by
        generalize prsD (msort K) = PK at *
        generalize lp a b = Y at *
        generalize prD p = Z at *
        generalize rD a b m K = G at *
        generalize rD a b m' K2 = G2 at *
        simp [em, q1']) ?_
      have cb : ∀ S, compGo [12] (tName 12) cYes (m35e3 ⟨callF tab (wf + 400) (n + 8), wf + 400⟩) [some (.pl (.ref 0)), some (.pl (lp a b)), some (.pl (.int (most : Int))), some (.pl (.int (m : Int))), some (.pl (rD a b m K)), some (.pl (.lst (prsD (msort K)))), x6', some (.pl (prD p)), x8, some (.pl (.int (((lv a b).length : Int) ^ m))), some (.own (rD a b m' K2)), none, none] (prsD (lv a b)) S [] = .ok (intsD ((lv a b).map (W (lv a b) m')), S) := fun S => by
        have := comp_mp (T := tName 12) (C := cYes) (a := m35e3 ⟨callF tab (wf + 400) (n + 8), wf + 400⟩) (vs := [12]) (ε0 := [some (.pl (.ref 0)), some (.pl (lp a b)), some (.pl (.int (most : Int))), some (.pl (.int (m : Int))), some (.pl (rD a b m K)), some (.pl (.lst (prsD (msort K)))), x6', some (.pl (prD p)), x8, some (.pl (.int (((lv a b).length : Int) ^ m))), some (.own (rD a b m' K2)), none, none]) prD (fun q => .int (W (lv a b) m' q)) (S := S) (lv a b) (by omega) fun q hq => by
          have gp := dGet_mD (g := W (lv a b) m') q K2
          have hkq := hk q
          have z1 := r2.s.z q
          refine ⟨_, rfl, rfl, rfl, .inl ?_⟩
          generalize prsD (msort K) = PK at *
          generalize lp a b = Y at *
          generalize prD p = Z at *
          generalize prD q = Z2 at *
          generalize rD a b m K = G at *
          generalize rD a b m' K2 = G2 at *
          by_cases m1 : q ∈ K2
          · rw [if_pos m1] at gp
            simp [m35e3, da2, hkq, gp]
          · rw [if_neg m1] at gp
            simp [m35e3, da2, hkq, gp, z1 m1]
        rw [show intsD ((lv a b).map (W (lv a b) m')) = (lv a b).map (fun q => D.int (W (lv a b) m' q)) from by simp [intsD]]
        exact this
      have eb : W (lv a b) m (0, 0) = ((lv a b).map (W (lv a b) m')).sum := by
        rw [hm', W_succ]
        exact congrArg List.sum (List.map_congr_left fun s _ => W_neg)
      rw [eb] at t2
      generalize prsD (msort K) = PK at *
      generalize lp a b = Y at *
      generalize prD p = Z at *
      generalize rD a b m K = G at *
      generalize rD a b m' K2 = G2 at *
      generalize prsD (lv a b) = LV at *
      simp [t2, k8, wipe, cb]
  rw [call_by (tab := tab) (f := 35) rfl rfl]
  show (m35 ⟨callF tab (wf + 400) (n + 8), wf + 400⟩ [some (.pl (.ref 0)), some (.pl (lp a b)), some (.pl (.int (most : Int))), none, none, none, none, none, none, none, none, none, none] S >>= _) = _
  rw [body]
  rfl
end
end K56


namespace K56
open Mp PySem Bd
open Lm (vadd vsub W Sm)
theorem ch_in {wf n : Nat} {S : Store} {m k : Nat} (hm : m ≤ 12) (hk : k ≤ m) : callF tab wf (n + 1) 34 [.int (m : Int), .int (k : Int)] S = .ok (false, .int (Lm.av m (2 * (k : Int) - m)), S) := by
  rcases (show m = 0 ∨ m = 1 ∨ m = 2 ∨ m = 3 ∨ m = 4 ∨ m = 5 ∨ m = 6 ∨ m = 7 ∨ m = 8 ∨ m = 9 ∨ m = 10 ∨ m = 11 ∨ m = 12 by omega) with rfl | rfl | rfl | rfl | rfl | rfl | rfl | rfl | rfl | rfl | rfl | rfl | rfl
  · obtain rfl : k = 0 := by omega
    kernel_rfl
  · rcases (show k = 0 ∨ k = 1 by omega) with rfl | rfl <;> kernel_rfl
  · rcases (show k = 0 ∨ k = 1 ∨ k = 2 by omega) with rfl | rfl | rfl <;> kernel_rfl
  · rcases (show k = 0 ∨ k = 1 ∨ k = 2 ∨ k = 3 by omega) with rfl | rfl | rfl | rfl <;> kernel_rfl
  · rcases (show k = 0 ∨ k = 1 ∨ k = 2 ∨ k = 3 ∨ k = 4 by omega) with rfl | rfl | rfl | rfl | rfl <;> kernel_rfl
  · rcases (show k = 0 ∨ k = 1 ∨ k = 2 ∨ k = 3 ∨ k = 4 ∨ k = 5 by omega) with rfl | rfl | rfl | rfl | rfl | rfl <;> kernel_rfl
  · rcases (show k = 0 ∨ k = 1 ∨ k = 2 ∨ k = 3 ∨ k = 4 ∨ k = 5 ∨ k = 6 by omega) with rfl | rfl | rfl | rfl | rfl | rfl | rfl <;> kernel_rfl
  · rcases (show k = 0 ∨ k = 1 ∨ k = 2 ∨ k = 3 ∨ k = 4 ∨ k = 5 ∨ k = 6 ∨ k = 7 by omega) with rfl | rfl | rfl | rfl | rfl | rfl | rfl | rfl <;> kernel_rfl
  · rcases (show k = 0 ∨ k = 1 ∨ k = 2 ∨ k = 3 ∨ k = 4 ∨ k = 5 ∨ k = 6 ∨ k = 7 ∨ k = 8 by omega) with rfl | rfl | rfl | rfl | rfl | rfl | rfl | rfl | rfl <;> kernel_rfl
  · rcases (show k = 0 ∨ k = 1 ∨ k = 2 ∨ k = 3 ∨ k = 4 ∨ k = 5 ∨ k = 6 ∨ k = 7 ∨ k = 8 ∨ k = 9 by omega) with rfl | rfl | rfl | rfl | rfl | rfl | rfl | rfl | rfl | rfl <;> kernel_rfl
  · rcases (show k = 0 ∨ k = 1 ∨ k = 2 ∨ k = 3 ∨ k = 4 ∨ k = 5 ∨ k = 6 ∨ k = 7 ∨ k = 8 ∨ k = 9 ∨ k = 10 by omega) with rfl | rfl | rfl | rfl | rfl | rfl | rfl | rfl | rfl | rfl | rfl <;> kernel_rfl
  · rcases (show k = 0 ∨ k = 1 ∨ k = 2 ∨ k = 3 ∨ k = 4 ∨ k = 5 ∨ k = 6 ∨ k = 7 ∨ k = 8 ∨ k = 9 ∨ k = 10 ∨ k = 11 by omega) with rfl | rfl | rfl | rfl | rfl | rfl | rfl | rfl | rfl | rfl | rfl | rfl <;> kernel_rfl
  · rcases (show k = 0 ∨ k = 1 ∨ k = 2 ∨ k = 3 ∨ k = 4 ∨ k = 5 ∨ k = 6 ∨ k = 7 ∨ k = 8 ∨ k = 9 ∨ k = 10 ∨ k = 11 ∨ k = 12 by omega) with rfl | rfl | rfl | rfl | rfl | rfl | rfl | rfl | rfl | rfl | rfl | rfl | rfl <;> kernel_rfl
section
variable {wf n : Nat} {S : Store} {a b m : Nat} {p q : Sq} {K : List Sq}
theorem choose {k : Int} (hm : m ≤ 12) : callF tab wf (n + 1) 34 [.int (m : Int), .int k] S = .ok (false, .int (Lm.av m (2 * k - m)), S) := by
  by_cases h : 0 ≤ k ∧ k ≤ m
  · obtain ⟨j, rfl⟩ : ∃ j : Nat, k = (j : Int) := ⟨k.toNat, by omega⟩
    exact ch_in hm (by omega)
  · rw [Lm.av_out (by unfold ab; split <;> omega), call_by (tab := tab) (f := 34) rfl rfl]
    by_cases h1 : k < 0
    · simp [m34, h1]
    · have h2 : (m : Int) < k := by omega
      simp [m34, h1, h2]
theorem av_b : ∀ (m : Nat) (s : Int), 0 ≤ Lm.av m s ∧ Lm.av m s ≤ 2 ^ m
  | 0, s => by unfold Lm.av; split <;> simp
  | m + 1, s => by
    have h1 := av_b m (s - 1)
    have h2 := av_b m (s + 1)
    unfold Lm.av
    rw [Int.pow_succ]
    omega
theorem av_small (hm : m ≤ 12) (s : Int) : 0 ≤ Lm.av m s ∧ Lm.av m s ≤ 4096 := by
  have h := av_b m s
  have : (2 : Int) ^ m ≤ 2 ^ 12 := by
    have := Nat.pow_le_pow_right (show 0 < 2 by omega) hm
    exact_mod_cast this
  omega
theorem lp10 : Lp 1 0 := ⟨by omega, by omega, by omega⟩
theorem lp21 : Lp 2 1 := ⟨by omega, by omega, by omega⟩
theorem lp11 : Lp 1 1 := ⟨by omega, by omega, by omega⟩
theorem lv_is {a b : Nat} {m : List Sq} (h1 : m.Pairwise Bd.lt) (h2 : ∀ q ∈ Lm.l8 a b, q ∈ m) (h3 : ∀ q ∈ m, q ∈ Lm.l8 a b) : lv a b = m := usort_eq h1 fun q => ⟨h2 q, h3 q⟩
theorem lv10 : lv 1 0 = [(-1, 0), (0, -1), (0, 1), (1, 0)] := lv_is (by decide) (by decide) (by decide)
theorem lv11 : lv 1 1 = [(-1, -1), (-1, 1), (1, -1), (1, 1)] := lv_is (by decide) (by decide) (by decide)
theorem lv21 : lv 2 1 = [(-2, -1), (-2, 1), (-1, -2), (-1, 2), (1, -2), (1, 2), (2, -1), (2, 1)] := lv_is (by decide) (by decide) (by decide)
theorem lv41 : lv 4 1 = [(-4, -1), (-4, 1), (-1, -4), (-1, 4), (1, -4), (1, 4), (4, -1), (4, 1)] := lv_is (by decide) (by decide) (by decide)
theorem W_10 : W (lv 1 0) m p = Lm.av m (p.1 + p.2) * Lm.av m (p.1 - p.2) := by rw [lv10, Lm.W10]
theorem W_11 : W (lv 1 1) m p = Lm.av m p.1 * Lm.av m p.2 := by rw [lv11, Lm.W11]
theorem sc_inj {t : Nat} (ht : 1 ≤ t) : ∀ x y : Sq, (((t : Int) * x.1, (t : Int) * x.2) : Sq) = ((t : Int) * y.1, (t : Int) * y.2) → x = y := fun x y e => by
  simp only [Prod.mk.injEq] at e
  have h1 := Int.eq_of_mul_eq_mul_left (show (t : Int) ≠ 0 by omega) e.1
  have h2 := Int.eq_of_mul_eq_mul_left (show (t : Int) ≠ 0 by omega) e.2
  ext <;> assumption
theorem W_t {t a b a' b' : Nat} (ht : 1 ≤ t) (ha : (a' : Int) = t * a) (hb : (b' : Int) = t * b) : W (lv a' b') m ((t : Int) * p.1, (t : Int) * p.2) = W (lv a b) m p :=
  Lm.W_map (fun p => ((t : Int) * p.1, (t : Int) * p.2)) (Lm.perm_of (Lm.nodup_map (sc_inj ht) lv_nodup) lv_nodup fun x => by
    rw [List.mem_map, mem_lv, ha, hb]
    constructor
    · rintro ⟨y, hy, rfl⟩
      rw [mem_lv] at hy
      simp only [Lm.l8, List.mem_cons, List.not_mem_nil, or_false] at hy ⊢
      rcases hy with rfl | rfl | rfl | rfl | rfl | rfl | rfl | rfl <;> simp [Int.mul_neg]
    · intro hx
      simp only [Lm.l8, List.mem_cons, List.not_mem_nil, or_false] at hx
      rcases hx with rfl | rfl | rfl | rfl | rfl | rfl | rfl | rfl
      · exact ⟨(a, b), mem_lv.mpr (by simp [Lm.l8]), rfl⟩
      · exact ⟨(a, -b), mem_lv.mpr (by simp [Lm.l8]), by simp [Int.mul_neg]⟩
      · exact ⟨(-a, b), mem_lv.mpr (by simp [Lm.l8]), by simp [Int.mul_neg]⟩
      · exact ⟨(-a, -b), mem_lv.mpr (by simp [Lm.l8]), by simp [Int.mul_neg]⟩
      · exact ⟨(b, a), mem_lv.mpr (by simp [Lm.l8]), rfl⟩
      · exact ⟨(b, -a), mem_lv.mpr (by simp [Lm.l8]), by simp [Int.mul_neg]⟩
      · exact ⟨(-b, a), mem_lv.mpr (by simp [Lm.l8]), by simp [Int.mul_neg]⟩
      · exact ⟨(-b, -a), mem_lv.mpr (by simp [Lm.l8]), by simp [Int.mul_neg]⟩)
    (fun p s => by unfold vsub; ext <;> dsimp only <;> rw [Int.mul_sub]) (fun p => by
      constructor
      · intro e
        exact sc_inj ht p (0, 0) (by rw [e]; simp)
      · rintro rfl; simp) m p
theorem rep3 {x : D} : pMul (.lst [x]) (.int 3) S = .ok (.fr (.lst [x, x, x])) := by
  show (if (-(2 ^ 63) ≤ (3 : Int) ∧ (3 : Int) < 2 ^ 63) ∧ [x].length * (3 : Int).toNat ≤ 16777216 then Rs.ok (RV.fr (.lst (List.replicate (3 : Int).toNat [x]).flatten)) else .no) = _
  rw [if_pos ⟨⟨by omega, by omega⟩, by simp⟩]
  rfl
theorem law_formula_right (cS : CupS S) : ∃ S', callF tab (wf + 400) (n + 9) 36 [.ref 0] S = .ok (false, .bl true, S') ∧ CupS S' := by
  obtain ⟨v1, S1, r1, c1, v10, v11⟩ := roll (wf := wf + 400) (n := n + 7) (m := 13) (by omega) cS
  obtain ⟨m, rfl⟩ : ∃ m : Nat, v1 = (m : Int) := ⟨v1.toNat, by omega⟩
  have hm : m ≤ 12 := by omega
  obtain ⟨v2, S2, r2, c2, v20, v21⟩ := roll (wf := wf + 400) (n := n + 7) (m := 9) (by omega) c1
  obtain ⟨v3, S3, r3, c3, v30, v31⟩ := roll (wf := wf + 400) (n := n + 7) (m := 9) (by omega) c2
  obtain ⟨v4, S4, r4, c4, v40, v41⟩ := roll (wf := wf + 400) (n := n + 7) (m := 12) (by omega) c3
  obtain ⟨x, hx⟩ : ∃ x, x = v2 - 4 := ⟨_, rfl⟩
  obtain ⟨y, hy⟩ : ∃ y, y = v3 - 4 := ⟨_, rfl⟩
  obtain ⟨t, ht⟩ : ∃ t : Nat, 1 + v4 = (t : Int) := ⟨(1 + v4).toNat, by omega⟩
  have t12 : 1 ≤ t ∧ t ≤ 12 := by omega
  have lt0 : Lp t 0 := ⟨by omega, by omega, by omega⟩
  have ltt : Lp t t := ⟨by omega, by omega, by omega⟩
  have bx : -48 ≤ (t : Int) * x ∧ (t : Int) * x ≤ 48 := by
    have : t * x.natAbs ≤ 12 * 4 := Nat.mul_le_mul (by omega) (by omega)
    have e : ((t : Int) * x).natAbs = t * x.natAbs := by rw [Int.natAbs_mul]; simp
    omega
  have by' : -48 ≤ (t : Int) * y ∧ (t : Int) * y ≤ 48 := by
    have : t * y.natAbs ≤ 12 * 4 := Nat.mul_le_mul (by omega) (by omega)
    have e : ((t : Int) * y).natAbs = t * y.natAbs := by rw [Int.natAbs_mul]; simp
    omega
  have ch : ∀ k S, callF tab (wf + 400) (n + 8) 34 [.int (m : Int), .int k] S = .ok (false, .int (Lm.av m (2 * k - m)), S) := fun k S => choose hm
  have k1 : ∀ S, callF tab (wf + 400) (n + 8) 22 [P 1 0, P x y, .int (m : Int)] S = .ok (false, .int (Lm.av m (x + y) * Lm.av m (x - y)), S) := fun S => by
    have := count_rows (wf := wf + 400) (n := n + 2) (S := S) (p := (x, y)) lp10 ⟨by dsimp only; omega, by dsimp only; omega, by dsimp only; omega, by dsimp only; omega⟩ hm
    rw [W_10] at this
    exact this
  have k2 : ∀ S, callF tab (wf + 400) (n + 8) 22 [P 1 1, P x y, .int (m : Int)] S = .ok (false, .int (Lm.av m x * Lm.av m y), S) := fun S => by
    have := count_rows (wf := wf + 400) (n := n + 2) (S := S) (p := (x, y)) lp11 ⟨by dsimp only; omega, by dsimp only; omega, by dsimp only; omega, by dsimp only; omega⟩ hm
    rw [W_11] at this
    exact this
  have k3 : ∀ S, callF tab (wf + 400) (n + 8) 22 [P t 0, P ((t : Int) * x) ((t : Int) * y), .int (m : Int)] S = .ok (false, .int (Lm.av m (x + y) * Lm.av m (x - y)), S) := fun S => by
    have := count_rows (wf := wf + 400) (n := n + 2) (S := S) (p := ((t : Int) * x, (t : Int) * y)) lt0 ⟨by dsimp only; omega, by dsimp only; omega, by dsimp only; omega, by dsimp only; omega⟩ hm
    rw [W_t (p := (x, y)) (t := t) (a := 1) (b := 0) t12.1 (by simp) (by simp), W_10] at this
    exact this
  have k4 : ∀ S, callF tab (wf + 400) (n + 8) 23 [P 1 0, .int (m : Int)] S = .ok (false, .int (Lm.av m 0 * Lm.av m 0), S) := fun S => by
    have := count_back (wf := wf + 400) (n := n + 1) (S := S) lp10 hm
    rw [W_10] at this
    exact this
  have k5 : ∀ S, callF tab (wf + 400) (n + 8) 23 [P 1 1, .int (m : Int)] S = .ok (false, .int (Lm.av m 0 * Lm.av m 0), S) := fun S => by
    have := count_back (wf := wf + 400) (n := n + 1) (S := S) lp11 hm
    rw [W_11] at this
    exact this
  have k6 : ∀ S, callF tab (wf + 400) (n + 8) 23 [P t t, .int (m : Int)] S = .ok (false, .int (Lm.av m 0 * Lm.av m 0), S) := fun S => by
    have := count_back (wf := wf + 400) (n := n + 1) (S := S) ltt hm
    have e := W_t (m := m) (p := (0, 0)) (t := t) (a := 1) (b := 1) (a' := t) (b' := t) t12.1 (by simp) (by simp)
    dsimp only at e
    rw [Int.mul_zero, W_11] at e
    rw [e] at this
    exact this
  have l1 : ∀ S, callF tab (wf + 400) (n + 8) 28 [.lst [.int (Lm.av m (x + y) * Lm.av m (x - y)), .int (Lm.av m x * Lm.av m y), .int (Lm.av m (x + y) * Lm.av m (x - y))], .lst [.int (Lm.av m (x + y) * Lm.av m (x - y)), .int (Lm.av m x * Lm.av m y), .int (Lm.av m (x + y) * Lm.av m (x - y))]] S = .ok (false, .bl true, S) := fun S => like (n := n + 4) (k := 2) (d := .lst [.int (Lm.av m (x + y) * Lm.av m (x - y)), .int (Lm.av m x * Lm.av m y), .int (Lm.av m (x + y) * Lm.av m (x - y))]) rfl (by omega)
  have l2 : ∀ S, callF tab (wf + 400) (n + 8) 28 [.lst [.int (Lm.av m 0 * Lm.av m 0), .int (Lm.av m 0 * Lm.av m 0), .int (Lm.av m 0 * Lm.av m 0)], .lst [.int (Lm.av m 0 * Lm.av m 0), .int (Lm.av m 0 * Lm.av m 0), .int (Lm.av m 0 * Lm.av m 0)]] S = .ok (false, .bl true, S) := fun S => like (n := n + 4) (k := 2) (d := .lst [.int (Lm.av m 0 * Lm.av m 0), .int (Lm.av m 0 * Lm.av m 0), .int (Lm.av m 0 * Lm.av m 0)]) rfl (by omega)
  have mo : ∀ s j, mulOk (Lm.av m s) j = true := fun s j => mulOk_l (by have := av_small hm s; omega)
  have d2' : ∀ i S, pFdiv (.int i) (.int 2) S = .ok (.pl (.int (i / 2))) := fun i S => y_fdiv (by omega) (by decide)
  have m2' : ∀ i S, pMod (.int i) (.int 2) S = .ok (.pl (.int (i % 2))) := fun i S => y_mod (by omega)
  refine ⟨S4, ?_, c4⟩
  have body : m36 ⟨callF tab (wf + 400) (n + 8), wf + 400⟩ [some (.pl (.ref 0)), none, none, none, none, none, none, none, none] S = .ok (.rt false (.bl true) S4) := by
    unfold m36
    refine seq_nx (ε1 := [some (.pl (.ref 0)), some (.pl (.int (m : Int))), some (.pl (.int x)), some (.pl (.int y)), none, none, none, none, none]) (S1 := S3) (by simp [r1, r2, r3, hx, hy]) ?_
    refine seq_nx (ε1 := [some (.pl (.ref 0)), some (.pl (.int (m : Int))), some (.pl (.int x)), some (.pl (.int y)), some (.pl (.int 0)), some (.pl (.int 0)), none, none, none]) (S1 := S3) (by simp) ?_
    refine seq_nx (ε1 := [some (.pl (.ref 0)), some (.pl (.int (m : Int))), some (.pl (.int x)), some (.pl (.int y)), some (.pl (.int (Lm.av m (x + y) * Lm.av m (x - y)))), some (.pl (.int 0)), none, none, none]) (S1 := S3) (by
      by_cases c : ((m : Int) + x + y) % 2 = 0
      · have q1 : 2 * (((m : Int) + x + y) / 2) - m = x + y := by omega
        have q2 : 2 * (((m : Int) + x - y) / 2) - m = x - y := by omega
        simp [m2', c, d2', ch, q1, q2, mo]
      · have z : Lm.av m (x + y) = 0 := Lm.av_par (by omega)
        simp [m2', c, z]) ?_
    refine seq_nx (ε1 := [some (.pl (.ref 0)), some (.pl (.int (m : Int))), some (.pl (.int x)), some (.pl (.int y)), some (.pl (.int (Lm.av m (x + y) * Lm.av m (x - y)))), some (.pl (.int (Lm.av m x * Lm.av m y))), none, none, none]) (S1 := S3) (by
      by_cases ca : ((m : Int) + x) % 2 = 0
      · by_cases cb : ((m : Int) + y) % 2 = 0
        · have q1 : 2 * (((m : Int) + x) / 2) - m = x := by omega
          have q2 : 2 * (((m : Int) + y) / 2) - m = y := by omega
          simp [m2', ca, cb, d2', ch, q1, q2, mo]
        · have z : Lm.av m y = 0 := Lm.av_par (by omega)
          simp [m2', ca, cb, z]
      · have z : Lm.av m x = 0 := Lm.av_par (by omega)
        simp [m2', ca, z]) ?_
    refine seq_nx (ε1 := [some (.pl (.ref 0)), some (.pl (.int (m : Int))), some (.pl (.int x)), some (.pl (.int y)), some (.pl (.int (Lm.av m (x + y) * Lm.av m (x - y)))), some (.pl (.int (Lm.av m x * Lm.av m y))), some (.pl (.int (t : Int))), none, none]) (S1 := S4) (by simp [r4, ht]) ?_
    have mx1 : mulOk x (t : Int) = true := mulOk_r (by omega)
    have mx2 : mulOk y (t : Int) = true := mulOk_r (by omega)
    have cr1 : x * (t : Int) = (t : Int) * x := Int.mul_comm _ _
    have cr2 : y * (t : Int) = (t : Int) * y := Int.mul_comm _ _
    refine seq_nx (ε1 := [some (.pl (.ref 0)), some (.pl (.int (m : Int))), some (.pl (.int x)), some (.pl (.int y)), some (.pl (.int (Lm.av m (x + y) * Lm.av m (x - y)))), some (.pl (.int (Lm.av m x * Lm.av m y))), some (.pl (.int (t : Int))), some (.pl (.lst [.int (Lm.av m (x + y) * Lm.av m (x - y)), .int (Lm.av m x * Lm.av m y), .int (Lm.av m (x + y) * Lm.av m (x - y))])), none]) (S1 := S4) (by
      generalize (Lm.av m (x + y) * Lm.av m (x - y)) = o1 at *
      generalize (Lm.av m x * Lm.av m y) = o2 at *
      simp [k1, k2, mx1, mx2, cr1, cr2, k3]) ?_
    refine seq_nx (ε1 := [some (.pl (.ref 0)), some (.pl (.int (m : Int))), some (.pl (.int x)), some (.pl (.int y)), some (.pl (.int (Lm.av m (x + y) * Lm.av m (x - y)))), some (.pl (.int (Lm.av m x * Lm.av m y))), some (.pl (.int (t : Int))), some (.pl (.lst [.int (Lm.av m (x + y) * Lm.av m (x - y)), .int (Lm.av m x * Lm.av m y), .int (Lm.av m (x + y) * Lm.av m (x - y))])), none]) (S1 := S4) (by
      generalize (Lm.av m (x + y) * Lm.av m (x - y)) = o1 at *
      generalize (Lm.av m x * Lm.av m y) = o2 at *
      simp [l1]) ?_
    refine seq_nx (ε1 := [some (.pl (.ref 0)), some (.pl (.int (m : Int))), some (.pl (.int x)), some (.pl (.int y)), some (.pl (.int (Lm.av m (x + y) * Lm.av m (x - y)))), some (.pl (.int (Lm.av m x * Lm.av m y))), some (.pl (.int (t : Int))), some (.pl (.lst [.int (Lm.av m (x + y) * Lm.av m (x - y)), .int (Lm.av m x * Lm.av m y), .int (Lm.av m (x + y) * Lm.av m (x - y))])), some (.pl (.int (Lm.av m 0 * Lm.av m 0)))]) (S1 := S4) (by
      by_cases c : (m : Int) % 2 = 0
      · have q1 : 2 * ((m : Int) / 2) - m = 0 := by omega
        simp [m2', c, d2', ch, q1, mo]
      · have z : Lm.av m 0 = 0 := Lm.av_par (by omega)
        simp [m2', c, z]) ?_
    generalize (Lm.av m 0 * Lm.av m 0) = o3 at *
    generalize (Lm.av m (x + y) * Lm.av m (x - y)) = o1 at *
    generalize (Lm.av m x * Lm.av m y) = o2 at *
    simp [k4, k5, k6, rep3, l2]
  rw [call_by (tab := tab) (f := 36) rfl rfl]
  show (m36 ⟨callF tab (wf + 400) (n + 8), wf + 400⟩ [some (.pl (.ref 0)), none, none, none, none, none, none, none, none] S >>= _) = _
  rw [body]
  rfl
end
end K56


namespace K56
open Mp PySem Bd
open Lm (vadd vsub W Sm)
section
variable {wf n : Nat} {S : Store} {a b m : Nat} {p q : Sq}
abbrev L21 : List Sq := [(-2, -1), (-2, 1), (-1, -2), (-1, 2), (1, -2), (1, 2), (2, -1), (2, 1)]
abbrev L41 : List Sq := [(-4, -1), (-4, 1), (-1, -4), (-1, 4), (1, -4), (1, 4), (4, -1), (4, 1)]
theorem q0 : W L21 0 (0, 0) = 1 := rfl
theorem q1 : W L21 1 (0, 0) = 0 := by decide +kernel
theorem q2 : W L21 2 (0, 0) = 8 := by decide +kernel
theorem q3 : W L21 3 (0, 0) = 0 := by decide +kernel
theorem q4 : W L21 4 (0, 0) = 168 := by decide +kernel
theorem q5 : W L21 5 (0, 0) = 0 := by decide +kernel
theorem q51 : W L21 5 (2, 1) = 730 := by decide +kernel
theorem q52 : W L21 5 (1, 2) = 730 := by decide +kernel
theorem rot21 {p : Sq} : W L21 m (p.2, 0 - p.1) = W L21 m p := by
  have := W_rot (a := 2) (b := 1) (m := m) (p := p)
  rw [lv21] at this
  exact this
theorem q6 : W L21 6 (0, 0) = 5840 := by
  have a1 : W L21 5 (1, -2) = 730 := (rot21 (p := (2, 1))).trans q51
  have a2 : W L21 5 (-2, -1) = 730 := (rot21 (p := (1, -2))).trans a1
  have a3 : W L21 5 (-1, 2) = 730 := (rot21 (p := (-2, -1))).trans a2
  have b1 : W L21 5 (2, -1) = 730 := (rot21 (p := (1, 2))).trans q52
  have b2 : W L21 5 (-1, -2) = 730 := (rot21 (p := (2, -1))).trans b1
  have b3 : W L21 5 (-2, 1) = 730 := (rot21 (p := (-1, -2))).trans b2
  have key : ∀ s ∈ L21, W L21 5 (vsub (0, 0) s) = 730 := fun s hs => by
    have n := W_neg (a := 2) (b := 1) (m := 5) (p := s)
    rw [lv21] at n
    rw [n]
    simp only [List.mem_cons, List.not_mem_nil, or_false] at hs
    rcases hs with rfl | rfl | rfl | rfl | rfl | rfl | rfl | rfl
    · exact a2
    · exact b3
    · exact b2
    · exact a3
    · exact a1
    · exact q52
    · exact b1
    · exact q51
  have e : W L21 6 (0, 0) = (L21.map fun s => W L21 5 (vsub (0, 0) s)).sum := W_succ (l := L21) (k := 5) (p := (0, 0))
  rw [e, List.map_congr_left key]
  decide
theorem q9 : W L21 0 (9, 9) = 0 := rfl
theorem q42 : W L41 2 (0, 0) = 8 := by decide +kernel
theorem lp53 : Lp 5 3 := ⟨by omega, by omega, by omega⟩
theorem lp41 : Lp 4 1 := ⟨by omega, by omega, by omega⟩
theorem lp120 : Lp 12 0 := ⟨by omega, by omega, by omega⟩
theorem bk21 {v : Int} (hm : m ≤ 12) (h : W L21 m (0, 0) = v) : ∀ S, callF tab (wf + 400) (n + 8) 23 [P 2 1, .int (m : Int)] S = .ok (false, .int v, S) := fun S => by
  have := count_back (wf := wf + 400) (n := n + 1) (S := S) lp21 hm
  rw [lv21, h] at this
  exact this
theorem likes {d : D} (hd : d.dat 4 = true) : callF tab wf (n + 8) 28 [d, d] S = .ok (false, .bl true, S) := like (n := n + 2) (k := 4) hd (by omega)
theorem back10 (hm : m ≤ 12) : callF tab (wf + 400) (n + 8) 23 [P 1 0, .int (m : Int)] S = .ok (false, .int (Lm.av m 0 * Lm.av m 0), S) := by
  have := count_back (wf := wf + 400) (n := n + 1) (S := S) lp10 hm
  rw [W_10] at this
  exact this
def six : List Nat := [0, 1, 2, 3, 5, 6]
def sixV (m : Nat) : Int := match m with | 0 => 1 | 2 => 8 | 4 => 168 | 6 => 5840 | _ => 0
theorem written : callF tab (wf + 400) (n + 9) 37 [] S = .ok (false, .bl true, S) := by
  have k1 : ∀ S, callF tab (wf + 400) (n + 8) 22 [P 1 0, P 1 1, .int 2] S = .ok (false, .int 2, S) := fun S => by
    have := count_rows (wf := wf + 400) (n := n + 2) (S := S) (p := (1, 1)) (many := 2) lp10 ⟨by decide, by decide, by decide, by decide⟩ (by omega)
    rw [W_10] at this
    exact this
  have k2 : ∀ S, callF tab (wf + 400) (n + 8) 22 [P 2 1, P 0 0, .int 2] S = .ok (false, .int 8, S) := fun S => by
    have := count_rows (wf := wf + 400) (n := n + 2) (S := S) (p := (0, 0)) (many := 2) lp21 ⟨by decide, by decide, by decide, by decide⟩ (by omega)
    rw [lv21, q2] at this
    exact this
  have k3 : ∀ S, callF tab (wf + 400) (n + 8) 23 [P 2 1, .int 4] S = .ok (false, .int 168, S) := bk21 (m := 4) (by omega) q4
  have k4 : ∀ S, callF tab (wf + 400) (n + 8) 23 [P 1 0, .int 4] S = .ok (false, .int 36, S) := fun S => by
    have := back10 (wf := wf) (n := n) (S := S) (m := 4) (by omega)
    rw [show Lm.av 4 0 * Lm.av 4 0 = 36 from by decide +kernel] at this
    exact this
  have k5 : ∀ S, callF tab (wf + 400) (n + 8) 22 [P 2 1, P 9 9, .int 0] S = .ok (false, .int 0, S) := fun S => by
    have := count_rows (wf := wf + 400) (n := n + 2) (S := S) (p := (9, 9)) (many := 0) lp21 ⟨by decide, by decide, by decide, by decide⟩ (by omega)
    rw [lv21, q9] at this
    exact this
  have k6 : ∀ S, callF tab (wf + 400) (n + 8) 23 [P 5 3, .int 0] S = .ok (false, .int 1, S) := fun S => by
    have := count_back (wf := wf + 400) (n := n + 1) (S := S) (many := 0) lp53 (by omega)
    rw [W00] at this
    exact this
  have l1 : ∀ S, callF tab (wf + 400) (n + 8) 28 [.lst [.int 2, .int 8, .int 168, .int 36, .int 0, .int 1], .lst [.int 2, .int 8, .int 168, .int 36, .int 0, .int 1]] S = .ok (false, .bl true, S) := fun S => likes rfl
  have g1 : ∀ A0 S, compGo [1] (tName 1) cYes (m37e1 ⟨callF tab (wf + 400) (n + 8), wf + 400⟩) [A0, none] [.int 0, .int 1, .int 2, .int 3, .int 5, .int 6] S [] = .ok ([.int 1, .int 0, .int 8, .int 0, .int 0, .int 5840], S) := fun A0 S =>
    comp_mp (T := tName 1) (C := cYes) (a := m37e1 ⟨callF tab (wf + 400) (n + 8), wf + 400⟩) (vs := [1]) (ε0 := [A0, none]) (fun (i : Nat) => D.int (i : Int)) (fun i => .int (sixV i)) (S := S) six (by simp [six]) fun i hi => ⟨_, rfl, rfl, rfl, .inl (by
      have hb : i ≤ 12 ∧ W L21 i (0, 0) = sixV i := by
        simp only [six, List.mem_cons, List.not_mem_nil, or_false] at hi
        rcases hi with rfl | rfl | rfl | rfl | rfl | rfl
        · exact ⟨by omega, q0⟩
        · exact ⟨by omega, q1⟩
        · exact ⟨by omega, q2⟩
        · exact ⟨by omega, q3⟩
        · exact ⟨by omega, q5⟩
        · exact ⟨by omega, q6⟩
      have := bk21 (wf := wf) (n := n) hb.1 hb.2
      simp [m37e1, this])⟩
  have k7 : ∀ S, callF tab (wf + 400) (n + 8) 23 [P 1 0, .int 12] S = .ok (false, .int 853776, S) := fun S => by
    have := back10 (wf := wf) (n := n) (S := S) (m := 12) (by omega)
    rw [show Lm.av 12 0 * Lm.av 12 0 = 853776 from by decide +kernel] at this
    exact this
  have k8 : ∀ S, callF tab (wf + 400) (n + 8) 22 [P 12 0, P 96 0, .int 8] S = .ok (false, .int 1, S) := fun S => by
    have := count_rows (wf := wf + 400) (n := n + 2) (S := S) (p := (96, 0)) (many := 8) lp120 ⟨by decide, by decide, by decide, by decide⟩ (by omega)
    have e := W_t (m := 8) (p := (8, 0)) (t := 12) (a := 1) (b := 0) (a' := 12) (b' := 0) (by omega) (by simp) (by simp)
    rw [W_10] at e
    have e2 : W (lv 12 0) 8 (96, 0) = 1 := e.trans (by decide +kernel)
    rw [e2] at this
    exact this
  have k9 : ∀ S, callF tab (wf + 400) (n + 8) 22 [P 1 1, P (-12) 12, .int 12] S = .ok (false, .int 1, S) := fun S => by
    have := count_rows (wf := wf + 400) (n := n + 2) (S := S) (p := (-12, 12)) (many := 12) lp11 ⟨by decide, by decide, by decide, by decide⟩ (by omega)
    rw [W_11, show Lm.av 12 (-12, 12).1 * Lm.av 12 (-12, 12).2 = 1 from by decide +kernel] at this
    exact this
  have k10 : ∀ S, callF tab (wf + 400) (n + 8) 23 [P 4 1, .int 2] S = .ok (false, .int 8, S) := fun S => by
    have := count_back (wf := wf + 400) (n := n + 1) (S := S) (many := 2) lp41 (by omega)
    rw [lv41, q42] at this
    exact this
  have l2 : ∀ S, callF tab (wf + 400) (n + 8) 28 [.lst [.int 1, .int 0, .int 8, .int 0, .int 0, .int 5840, .int 853776, .int 1, .int 1, .int 8], .lst [.int 1, .int 0, .int 8, .int 0, .int 0, .int 5840, .int 853776, .int 1, .int 1, .int 8]] S = .ok (false, .bl true, S) := fun S => likes rfl
  have m9 : mulOk 924 924 = true := mulOk_l (by omega)
  have k10' : ∀ a b c d e f g h i j : D, lenOk [a, b, c, d, e, f, g, h, i, j] = true := fun _ _ _ _ _ _ _ _ _ _ => rfl
  rw [call_by (tab := tab) (f := 37) rfl rfl]
  simp [m37, k1, k2, k3, k4, k5, k6, l1, wipe, g1, k7, k8, k9, k10, m9, k10', l2]
theorem of_leapers {L : List (Nat × Nat)} (hL : ∀ q ∈ L, Lp q.1 q.2 ∧ q.1 ≤ 4) {d : D} (hd : d ∈ L.map fun q => P (q.1 : Int) (q.2 : Int)) : ∃ u v, d = lp u v ∧ Lp u v ∧ u ≤ 4 := by
  obtain ⟨q, hq, rfl⟩ := List.mem_map.mp hd
  exact ⟨q.1, q.2, rfl, hL q hq⟩
def LA : List (Nat × Nat) := [(1, 0), (1, 1), (2, 1), (2, 2), (3, 0), (4, 2)]
def LB : List (Nat × Nat) := [(2, 1), (3, 1)]
theorem law_at {ns : List Int} (hn : ns.length ≤ 63) : ∃ S', callF tab (wf + 400) (n + 10) 38 [.scr ns] [] = .ok (false, .bl true, S') := by
  obtain ⟨a, b, ec⟩ := cup_ok (tab := tab) (wf := wf + 400) (n := n + 8) (S := []) (kc := 24) rfl (by omega) (by omega) (by omega) hn
  obtain ⟨ε1, S1, l1, c1, x2, rfl⟩ := for_pre (T := tName 2) (M := m38b1 ⟨callF tab (wf + 400) (n + 9), wf + 400⟩) (fun i : Nat => D.int (i : Int))
    (P := fun pre ε S' => CupS S' ∧ ∃ x2, ε = [some (.pl (.scr ns)), some (.pl (.ref 0)), x2, none])
    [3, 4] (fun pre m rest ε S' hd ⟨hS, x2, hε⟩ => by
      subst hε
      have hm : m ≤ 4 := by
        have : m ∈ [3, 4] := by rw [hd]; simp
        simp only [List.mem_cons, List.not_mem_nil, or_false] at this
        omega
      obtain ⟨u, v, S2, e2, c2, h⟩ := law_leaper (wf := wf + 400) (n := n + 6) hS
      have hu := h.h2
      obtain ⟨S3, e3, c3⟩ := law_right (wf := wf) (n := n) (most := m) h (by omega) (Nat.le_trans (Nat.mul_le_mul hm hu) (by omega)) c2
      refine ⟨_, rfl, [some (.pl (.scr ns)), some (.pl (.ref 0)), some (.pl (.int (m : Int))), none], S3, .inl ?_, c3, _, rfl⟩
      generalize lp u v = Y at *
      simp [m38b1, e2, e3])
    [3, 4] [] (ε := [some (.pl (.scr ns)), some (.pl (.ref 0)), none, none]) (S := [cupO a b]) rfl ⟨⟨a, b, rfl⟩, none, rfl⟩
  obtain ⟨d, S2, e2, c2, hd⟩ := some_l (wf := wf + 400) (n := n + 7) (ds := LA.map fun q => P (q.1 : Int) (q.2 : Int)) (by simp [LA]) (by simp [LA]) c1
  obtain ⟨u, v, rfl, h, hu⟩ := of_leapers (L := LA) (fun q hq => by
    simp only [LA, List.mem_cons, List.not_mem_nil, or_false] at hq
    rcases hq with rfl | rfl | rfl | rfl | rfl | rfl <;> exact ⟨⟨by decide, by decide, by decide⟩, by decide⟩) hd
  obtain ⟨S3, e3, c3⟩ := law_right (wf := wf) (n := n) (most := 8) h (by omega) (by omega) c2
  obtain ⟨r, S4, e4, c4, r0, r1⟩ := roll (wf := wf + 400) (n := n + 8) (m := 6) (by omega) c3
  have box2 : ∃ S5, CupS S5 ∧ ∀ ε0, ε0 = [some (.pl (.scr ns)), some (.pl (.ref 0)), x2, none] → sIf (cAnd (cVal (eBin (pEq) (eCall ⟨callF tab (wf + 400) (n + 9), wf + 400⟩ 25 (aCons (eVar 1) (aCons (eC (.int 6)) (aNil)))) (eC (.int 0)))) (cNot (cVal (eCall ⟨callF tab (wf + 400) (n + 9), wf + 400⟩ 35 (aCons (eVar 1) (aCons (eCall ⟨callF tab (wf + 400) (n + 9), wf + 400⟩ 26 (aCons (eVar 1) (aCons (eLst (aCons (eTup (aCons (eC (.int 2)) (aCons (eC (.int 1)) (aNil)))) (aCons (eTup (aCons (eC (.int 3)) (aCons (eC (.int 1)) (aNil)))) (aNil)))) (aNil)))) (aCons (eC (.int 12)) (aNil)))))))) (sRet (eC (.bl false))) (sNil) ε0 S3 = .ok (.nx ε0 S5) := by
    by_cases z : r = 0
    · obtain ⟨d', S5, e5, c5, hd'⟩ := some_l (wf := wf + 400) (n := n + 7) (ds := LB.map fun q => P (q.1 : Int) (q.2 : Int)) (by simp [LB]) (by simp [LB]) c4
      obtain ⟨u', v', rfl, h', hu'⟩ := of_leapers (L := LB) (fun q hq => by
        simp only [LB, List.mem_cons, List.not_mem_nil, or_false] at hq
        rcases hq with rfl | rfl <;> exact ⟨⟨by decide, by decide, by decide⟩, by decide⟩) hd'
      obtain ⟨S6, e6, c6⟩ := law_right (wf := wf) (n := n) (most := 12) h' (by omega) (by omega) c5
      refine ⟨S6, c6, fun ε0 h0 => ?_⟩
      subst h0
      have e5' : callF tab (wf + 400) (n + 9) 26 [.ref 0, .lst [.tup [.int 2, .int 1], .tup [.int 3, .int 1]]] S4 = _ := e5
      have e6' : callF tab (wf + 400) (n + 9) 35 [.ref 0, lp u' v', .int 12] S5 = _ := e6
      generalize lp u' v' = Y at *
      simp [e4, z, e5', e6']
    · refine ⟨S4, c4, fun ε0 h0 => ?_⟩
      subst h0
      simp [e4, z]
  obtain ⟨S5, c5, e5⟩ := box2
  have e5' := e5 _ rfl
  obtain ⟨u2, v2, S6, e6, c6, h2⟩ := law_leaper (wf := wf + 400) (n := n + 6) c5
  have cmE : ∀ S, callF tab (wf + 400) (n + 9) 32 [lp u2 v2, prD (1, 0)] S = .ok (false, .bl (cm u2 v2 (1, 0)), S) := fun S => law_comes (wf := wf + 360) (n := n + 6) (p := (1, 0)) (a := u2) (b := v2) h2
  have last : ∃ S7, CupS S7 ∧ sIf (cAnd (cNot (cVal (eCall ⟨callF tab (wf + 400) (n + 9), wf + 400⟩ 32 (aCons (eVar 3) (aCons (eTup (aCons (eC (.int 1)) (aCons (eC (.int 0)) (aNil)))) (aNil)))))) (cVal (eBin (pNe) (eCall ⟨callF tab (wf + 400) (n + 9), wf + 400⟩ 22 (aCons (eVar 3) (aCons (eTup (aCons (eC (.int 1)) (aCons (eC (.int 0)) (aNil)))) (aCons (eCall ⟨callF tab (wf + 400) (n + 9), wf + 400⟩ 25 (aCons (eVar 1) (aCons (eC (.int 5)) (aNil)))) (aNil))))) (eC (.int 0))))) (sRet (eC (.bl false))) (sNil) [some (.pl (.scr ns)), some (.pl (.ref 0)), x2, some (.pl (lp u2 v2))] S6 = .ok (.nx [some (.pl (.scr ns)), some (.pl (.ref 0)), x2, some (.pl (lp u2 v2))] S7) := by
    have cmE' : ∀ S, callF tab (wf + 400) (n + 9) 32 [lp u2 v2, .tup [.int 1, .int 0]] S = .ok (false, .bl (cm u2 v2 (1, 0)), S) := cmE
    cases hc : cm u2 v2 (1, 0) with
    | true =>
      rw [hc] at cmE'
      refine ⟨S6, c6, ?_⟩
      generalize lp u2 v2 = Y at *
      simp [cmE']
    | false =>
      rw [hc] at cmE'
      obtain ⟨r7, S7, e7, c7, r70, r71⟩ := roll (wf := wf + 400) (n := n + 8) (m := 5) (by omega) c6
      obtain ⟨k, rfl⟩ : ∃ k : Nat, r7 = (k : Int) := ⟨r7.toNat, by omega⟩
      obtain ⟨K, _, r⟩ := rows_in (wf := 0) (n := 0) (S := []) (many := k) h2 (by omega)
      have w0 : W (lv u2 v2) k (1, 0) = 0 := r.s.z _ fun hin => by
        have := cm_R h2 ((r.m _).mp hin)
        rw [hc] at this; cases this
      have k8 : ∀ S, callF tab (wf + 400) (n + 9) 22 [lp u2 v2, .tup [.int 1, .int 0], .int (k : Int)] S = .ok (false, .int 0, S) := fun S => by
        have := count_rows (wf := wf + 400) (n := n + 3) (S := S) (p := (1, 0)) (many := k) h2 ⟨by decide, by decide, by decide, by decide⟩ (by omega)
        rw [w0] at this
        exact this
      refine ⟨S7, c7, ?_⟩
      generalize lp u2 v2 = Y at *
      simp [cmE', e7, k8]
  obtain ⟨S7, c7, e7⟩ := last
  obtain ⟨S8, e8, c8⟩ := law_formula_right (wf := wf) (n := n) c7
  obtain ⟨S9, e9, c9⟩ := law_formula_right (wf := wf) (n := n) c8
  refine ⟨S9, ?_⟩
  simp only [List.length_nil, List.nil_append] at ec
  have w : ∀ S, callF tab (wf + 400) (n + 9) 37 [] S = .ok (false, .bl true, S) := fun S => written
  have l1' : forGo (tName 2) (m38b1 ⟨callF tab (wf + 400) (n + 9), wf + 400⟩) [.int 3, .int 4] _ _ = _ := l1
  have e2' : callF tab (wf + 400) (n + 9) 26 [.ref 0, .lst [.tup [.int 1, .int 0], .tup [.int 1, .int 1], .tup [.int 2, .int 1], .tup [.int 2, .int 2], .tup [.int 3, .int 0], .tup [.int 4, .int 2]]] S1 = _ := e2
  have e3' : callF tab (wf + 400) (n + 9) 35 [.ref 0, lp u v, .int 8] S2 = _ := e3
  have body : m38 ⟨callF tab (wf + 400) (n + 9), wf + 400⟩ [some (.pl (.scr ns)), none, none, none] [] = .ok (.rt false (.bl true) S9) := by
    unfold m38
    refine seq_nx (ε1 := [some (.pl (.scr ns)), none, none, none]) (S1 := []) (by simp [w]) ?_
    refine seq_nx (ε1 := [some (.pl (.scr ns)), some (.pl (.ref 0)), none, none]) (S1 := [cupO a b]) (by simp [ec]) ?_
    refine seq_nx (ε1 := [some (.pl (.scr ns)), some (.pl (.ref 0)), x2, none]) (S1 := S1) (by simp [l1']) ?_
    refine seq_nx (ε1 := [some (.pl (.scr ns)), some (.pl (.ref 0)), x2, none]) (S1 := S3) (by
      generalize lp u v = Y at *
      simp [e2', e3']) ?_
    refine seq_nx e5' ?_
    refine seq_nx (ε1 := [some (.pl (.scr ns)), some (.pl (.ref 0)), x2, some (.pl (lp u2 v2))]) (S1 := S6) (by
      generalize lp u2 v2 = Y at *
      simp [e6]) ?_
    refine seq_nx e7 ?_
    generalize lp u2 v2 = Y at *
    simp [e8, e9]
  rw [call_by (tab := tab) (f := 38) rfl rfl]
  show (m38 ⟨callF tab (wf + 400) (n + 9), wf + 400⟩ [some (.pl (.scr ns)), none, none, none] [] >>= _) = _
  rw [body]
  rfl
end
theorem law_ok (ns : List Int) (hn : ns.length ≤ 63) : ∃ wf f S', callF tab wf 10 38 [.scr ns] [] = .ok (f, .bl true, S') := by
  obtain ⟨S', e⟩ := law_at (wf := 0) (n := 0) hn
  exact ⟨0 + 400, false, S', e⟩
end K56


def K56.depth : Nat := 10
namespace K56
open PySem PySem.Spec PyProof.Rows L2 Mp
def d0 : He.DefD := ⟨("is_integer", none), "is_integer", "is_integer", defArgs st0, defBody st0, defScope st0, [], []⟩
def d1 : He.DefD := ⟨("is_whole", none), "is_whole", "is_whole", defArgs st1, defBody st1, defScope st1, [], []⟩
def d2 : He.DefD := ⟨("need_whole", none), "need_whole", "need_whole", defArgs st2, defBody st2, defScope st2, [], []⟩
def d3 : He.DefD := ⟨("is_tuple_of", none), "is_tuple_of", "is_tuple_of", defArgs st3, defBody st3, defScope st3, [], []⟩
def d4 : He.DefD := ⟨("fits_kind", none), "fits_kind", "fits_kind", defArgs st4, defBody st4, defScope st4, [], []⟩
def d5 : He.DefD := ⟨("fits_leaper", none), "fits_leaper", "fits_leaper", defArgs st5, defBody st5, defScope st5, [], []⟩
def d6 : He.DefD := ⟨("need_leaper", none), "need_leaper", "need_leaper", defArgs st6, defBody st6, defScope st6, [], []⟩
def d7 : He.DefD := ⟨("fits_target", none), "fits_target", "fits_target", defArgs st7, defBody st7, defScope st7, [], []⟩
def d8 : He.DefD := ⟨("need_target", none), "need_target", "need_target", defArgs st8, defBody st8, defScope st8, [], []⟩
def d9 : He.DefD := ⟨("need_leaps", none), "need_leaps", "need_leaps", defArgs st9, defBody st9, defScope st9, [], []⟩
def d10 : He.DefD := ⟨("leaps_in", none), "leaps_in", "leaps_in", defArgs st10, defBody st10, defScope st10, [], []⟩
def d11 : He.DefD := ⟨("joined", none), "joined", "joined", defArgs st11, defBody st11, defScope st11, [], []⟩
def d12 : He.DefD := ⟨("is_halving_in", none), "is_halving_in", "is_halving_in", defArgs st12, defBody st12, defScope st12, [], []⟩
def d13 : He.DefD := ⟨("comes_to", none), "comes_to", "comes_to", defArgs st13, defBody st13, defScope st13, [], []⟩
def d14 : He.DefD := ⟨("shared", none), "shared", "shared", defArgs st14, defBody st14, defScope st14, [], []⟩
def d15 : He.DefD := ⟨("bounds_near", none), "bounds_near", "bounds_near", defArgs st15, defBody st15, defScope st15, [], []⟩
def d16 : He.DefD := ⟨("best_beside", none), "best_beside", "best_beside", defArgs st16, defBody st16, defScope st16, [], []⟩
def d17 : He.DefD := ⟨("fewest_in", none), "fewest_in", "fewest_in", defArgs st17, defBody st17, defScope st17, [], []⟩
def d18 : He.DefD := ⟨("leaps_of", none), "leaps_of", "leaps_of", defArgs st18, defBody st18, defScope st18, [], []⟩
def d19 : He.DefD := ⟨("fewest_leaps", none), "fewest_leaps", "fewest_leaps", defArgs st19, defBody st19, defScope st19, [], []⟩
def d20 : He.DefD := ⟨("rows_in", none), "rows_in", "rows_in", defArgs st20, defBody st20, defScope st20, [], []⟩
def d21 : He.DefD := ⟨("need_two", none), "need_two", "need_two", defArgs st21, defBody st21, defScope st21, [], []⟩
def d22 : He.DefD := ⟨("count_leap_rows", none), "count_leap_rows", "count_leap_rows", defArgs st22, defBody st22, defScope st22, [], []⟩
def d23 : He.DefD := ⟨("count_back_rows", none), "count_back_rows", "count_back_rows", defArgs st23, defBody st23, defScope st23, [], []⟩
def d24 : He.DefD := ⟨("_law_cup", none), "_law_cup", "_law_cup", defArgs st24, defBody st24, defScope st24, [], []⟩
def d25 : He.DefD := ⟨("_law_roll", none), "_law_roll", "_law_roll", defArgs st25, defBody st25, defScope st25, [], []⟩
def d26 : He.DefD := ⟨("_law_some", none), "_law_some", "_law_some", defArgs st26, defBody st26, defScope st26, [], []⟩
def d27 : He.DefD := ⟨("_law_sort", none), "_law_sort", "_law_sort", defArgs st27, defBody st27, defScope st27, [], []⟩
def d28 : He.DefD := ⟨("_law_like", none), "_law_like", "_law_like", defArgs st28, defBody st28, defScope st28, [], []⟩
def d29 : He.DefD := ⟨("_law_leaper", none), "_law_leaper", "_law_leaper", defArgs st29, defBody st29, defScope st29, [], []⟩
def d30 : He.DefD := ⟨("_law_leaps", none), "_law_leaps", "_law_leaps", defArgs st30, defBody st30, defScope st30, [], []⟩
def d31 : He.DefD := ⟨("_law_divisor", none), "_law_divisor", "_law_divisor", defArgs st31, defBody st31, defScope st31, [], []⟩
def d32 : He.DefD := ⟨("_law_comes", none), "_law_comes", "_law_comes", defArgs st32, defBody st32, defScope st32, [], []⟩
def d33 : He.DefD := ⟨("_law_rows", none), "_law_rows", "_law_rows", defArgs st33, defBody st33, defScope st33, [], []⟩
def d34 : He.DefD := ⟨("_law_choose", none), "_law_choose", "_law_choose", defArgs st34, defBody st34, defScope st34, [], []⟩
def d35 : He.DefD := ⟨("_law_right", none), "_law_right", "_law_right", defArgs st35, defBody st35, defScope st35, [], []⟩
def d36 : He.DefD := ⟨("_law_formula_right", none), "_law_formula_right", "_law_formula_right", defArgs st36, defBody st36, defScope st36, [], []⟩
def d37 : He.DefD := ⟨("_law_written", none), "_law_written", "_law_written", defArgs st37, defBody st37, defScope st37, [], []⟩
def d38 : He.DefD := ⟨("law", none), "law", "law", defArgs st38, defBody st38, defScope st38, [], []⟩
def fn_0 : List He.DefD := [d0, d1, d2, d3, d4, d5, d6, d7, d8, d9, d10, d11, d12, d13, d14, d15, d16, d17, d18, d19]
def fn_1 : List He.DefD := [d20, d21, d22, d23, d24, d25, d26, d27, d28, d29, d30, d31, d32, d33, d34, d35, d36, d37, d38]
def fn : List He.DefD := fn_0 ++ fn_1
def fs_0 : List He.Fa := [.glo "is_integer", .glo "is_whole", .glo "need_whole", .glo "is_tuple_of", .glo "fits_kind", .glo "fits_leaper", .glo "need_leaper", .glo "fits_target", .glo "need_target", .glo "need_leaps", .glo "leaps_in", .glo "joined", .glo "is_halving_in", .glo "comes_to", .glo "shared", .glo "bounds_near", .glo "best_beside", .glo "fewest_in", .glo "leaps_of", .glo "fewest_leaps"]
def fs_1 : List He.Fa := [.glo "rows_in", .glo "need_two", .glo "count_leap_rows", .glo "count_back_rows", .glo "_law_cup", .glo "_law_roll", .glo "_law_some", .glo "_law_sort", .glo "_law_like", .glo "_law_leaper", .glo "_law_leaps", .glo "_law_divisor", .glo "_law_comes", .glo "_law_rows", .glo "_law_choose", .glo "_law_right", .glo "_law_formula_right", .glo "_law_written", .glo "law", .free "isinstance"]
def fs_2 : List He.Fa := [.free "int", .free "bool", .free "tuple", .free "len", .free "str", .free "all", .free "sorted", .free "zip", .free "list", .free "range", .free "abs", .free "max", .free "set", .free "sum", .int "FAR_LEAP" 12, .int "LEAST_LEAP" 1, .int "MANY" 12, .int "NEAR" 100]
def fs : List He.Fa := fs_0 ++ fs_1 ++ fs_2
def exB (K : PySem.W.Frag) : Bool := glB K "NAMES" (.ktup [.str [116, 111, 119, 101, 114], .str [114, 117, 110, 110, 101, 114], .str [113, 117, 101, 101, 110], .str [107, 105, 110, 103]]) && (true)
def lo0 : List Str := ["BoardError", "InvalidKind", "InvalidSquare", "InvalidNumber", "LEAST_LEAP", "FAR_LEAP", "LINES", "NAMES", "is_integer", "is_whole", "need_whole", "is_tuple_of", "fits_kind", "NEAR", "MANY", "fits_leaper", "need_leaper", "fits_target", "need_target", "need_leaps"]
def lo1 : List Str := ["leaps_in", "joined", "is_halving_in", "comes_to", "shared", "bounds_near", "best_beside", "fewest_in", "leaps_of", "fewest_leaps", "rows_in", "need_two", "count_leap_rows", "count_back_rows", "_law_cup", "_law_roll", "_law_some", "_law_sort", "_law_like", "_law_leaper"]
def lo2 : List Str := ["_law_leaps", "_law_divisor", "_law_comes", "_law_rows", "_law_choose", "_law_right", "_law_formula_right", "_law_written"]
abbrev lo : List Str := lo0 ++ lo1 ++ lo2
abbrev Rr : PySem.W.OpenRow := PySem.W.OpenLaw.row PySem.Challenge.rw_piecesplaced_k56_whole_counts_of_rows_of
abbrev hk : PySem.W.Hook := hookE 4 fs fn exB
def ob (s : PySem.W.SharedT) : AlE := obsE 4 fs fn exB (HandSHeadRun.getT s)
theorem ob_eq (s : PySem.W.SharedT) : ob s = hk.obs s.abs := obsE_eq (HandSHeadRun.getT_eq s)
theorem run (w : World) : HandSHeadRun.RunEq Rr (PySem.W.view Rr.prog [53]) hk ob 6000 lo w := by
  intro os
  kernel_rfl
def fa (K : PySem.W.Frag) : Nat → Addr
  | 0 => He.ga K "is_integer"
  | 1 => He.ga K "is_whole"
  | 2 => He.ga K "need_whole"
  | 3 => He.ga K "is_tuple_of"
  | 4 => He.ga K "fits_kind"
  | 5 => He.ga K "fits_leaper"
  | 6 => He.ga K "need_leaper"
  | 7 => He.ga K "fits_target"
  | 8 => He.ga K "need_target"
  | 9 => He.ga K "need_leaps"
  | 10 => He.ga K "leaps_in"
  | 11 => He.ga K "joined"
  | 12 => He.ga K "is_halving_in"
  | 13 => He.ga K "comes_to"
  | 14 => He.ga K "shared"
  | 15 => He.ga K "bounds_near"
  | 16 => He.ga K "best_beside"
  | 17 => He.ga K "fewest_in"
  | 18 => He.ga K "leaps_of"
  | 19 => He.ga K "fewest_leaps"
  | 20 => He.ga K "rows_in"
  | 21 => He.ga K "need_two"
  | 22 => He.ga K "count_leap_rows"
  | 23 => He.ga K "count_back_rows"
  | 24 => He.ga K "_law_cup"
  | 25 => He.ga K "_law_roll"
  | 26 => He.ga K "_law_some"
  | 27 => He.ga K "_law_sort"
  | 28 => He.ga K "_law_like"
  | 29 => He.ga K "_law_leaper"
  | 30 => He.ga K "_law_leaps"
  | 31 => He.ga K "_law_divisor"
  | 32 => He.ga K "_law_comes"
  | 33 => He.ga K "_law_rows"
  | 34 => He.ga K "_law_choose"
  | 35 => He.ga K "_law_right"
  | 36 => He.ga K "_law_formula_right"
  | 37 => He.ga K "_law_written"
  | 38 => He.ga K "law"
  | _ => 0
theorem facts {K : PySem.W.Frag} {h : Heap} {mg : Str → Option Value} (X : K.In h) (G : h.Ns mainGlobals mg) (c : He.SaysD fs fn K) (ce : exB K = true) : ∃ fd : Nat → FuncData, Fx K mg (fa K) fd := by
  unfold exB at ce
  simp only [Bool.and_eq_true] at ce
  obtain ⟨e0, E0⟩ := c.def_ 0 (d := d0) rfl
  obtain ⟨e1, E1⟩ := c.def_ 1 (d := d1) rfl
  obtain ⟨e2, E2⟩ := c.def_ 2 (d := d2) rfl
  obtain ⟨e3, E3⟩ := c.def_ 3 (d := d3) rfl
  obtain ⟨e4, E4⟩ := c.def_ 4 (d := d4) rfl
  obtain ⟨e5, E5⟩ := c.def_ 5 (d := d5) rfl
  obtain ⟨e6, E6⟩ := c.def_ 6 (d := d6) rfl
  obtain ⟨e7, E7⟩ := c.def_ 7 (d := d7) rfl
  obtain ⟨e8, E8⟩ := c.def_ 8 (d := d8) rfl
  obtain ⟨e9, E9⟩ := c.def_ 9 (d := d9) rfl
  obtain ⟨e10, E10⟩ := c.def_ 10 (d := d10) rfl
  obtain ⟨e11, E11⟩ := c.def_ 11 (d := d11) rfl
  obtain ⟨e12, E12⟩ := c.def_ 12 (d := d12) rfl
  obtain ⟨e13, E13⟩ := c.def_ 13 (d := d13) rfl
  obtain ⟨e14, E14⟩ := c.def_ 14 (d := d14) rfl
  obtain ⟨e15, E15⟩ := c.def_ 15 (d := d15) rfl
  obtain ⟨e16, E16⟩ := c.def_ 16 (d := d16) rfl
  obtain ⟨e17, E17⟩ := c.def_ 17 (d := d17) rfl
  obtain ⟨e18, E18⟩ := c.def_ 18 (d := d18) rfl
  obtain ⟨e19, E19⟩ := c.def_ 19 (d := d19) rfl
  obtain ⟨e20, E20⟩ := c.def_ 20 (d := d20) rfl
  obtain ⟨e21, E21⟩ := c.def_ 21 (d := d21) rfl
  obtain ⟨e22, E22⟩ := c.def_ 22 (d := d22) rfl
  obtain ⟨e23, E23⟩ := c.def_ 23 (d := d23) rfl
  obtain ⟨e24, E24⟩ := c.def_ 24 (d := d24) rfl
  obtain ⟨e25, E25⟩ := c.def_ 25 (d := d25) rfl
  obtain ⟨e26, E26⟩ := c.def_ 26 (d := d26) rfl
  obtain ⟨e27, E27⟩ := c.def_ 27 (d := d27) rfl
  obtain ⟨e28, E28⟩ := c.def_ 28 (d := d28) rfl
  obtain ⟨e29, E29⟩ := c.def_ 29 (d := d29) rfl
  obtain ⟨e30, E30⟩ := c.def_ 30 (d := d30) rfl
  obtain ⟨e31, E31⟩ := c.def_ 31 (d := d31) rfl
  obtain ⟨e32, E32⟩ := c.def_ 32 (d := d32) rfl
  obtain ⟨e33, E33⟩ := c.def_ 33 (d := d33) rfl
  obtain ⟨e34, E34⟩ := c.def_ 34 (d := d34) rfl
  obtain ⟨e35, E35⟩ := c.def_ 35 (d := d35) rfl
  obtain ⟨e36, E36⟩ := c.def_ 36 (d := d36) rfl
  obtain ⟨e37, E37⟩ := c.def_ 37 (d := d37) rfl
  obtain ⟨e38, E38⟩ := c.def_ 38 (d := d38) rfl
  refine ⟨fun i => match i with
    | 0 => e0
    | 1 => e1
    | 2 => e2
    | 3 => e3
    | 4 => e4
    | 5 => e5
    | 6 => e6
    | 7 => e7
    | 8 => e8
    | 9 => e9
    | 10 => e10
    | 11 => e11
    | 12 => e12
    | 13 => e13
    | 14 => e14
    | 15 => e15
    | 16 => e16
    | 17 => e17
    | 18 => e18
    | 19 => e19
    | 20 => e20
    | 21 => e21
    | 22 => e22
    | 23 => e23
    | 24 => e24
    | 25 => e25
    | 26 => e26
    | 27 => e27
    | 28 => e28
    | 29 => e29
    | 30 => e30
    | 31 => e31
    | 32 => e32
    | 33 => e33
    | 34 => e34
    | 35 => e35
    | 36 => e36
    | 37 => e37
    | 38 => e38
    | _ => e0, {
    F0 := E0
    g0 := He.glo_ok X G (c.fact 0 (f := .glo "is_integer") rfl)
    B0 := FunD.bindsN (ps := ["value"]) E0 fun _ _ _ _ _ _ us hl => match us, hl with | [_], _ => rfl
    F1 := E1
    g1 := He.glo_ok X G (c.fact 1 (f := .glo "is_whole") rfl)
    B1 := FunD.bindsN (ps := ["value", "low", "high"]) E1 fun _ _ _ _ _ _ us hl => match us, hl with | [_, _, _], _ => rfl
    F2 := E2
    g2 := He.glo_ok X G (c.fact 2 (f := .glo "need_whole") rfl)
    B2 := FunD.bindsN (ps := ["value", "low", "high"]) E2 fun _ _ _ _ _ _ us hl => match us, hl with | [_, _, _], _ => rfl
    F3 := E3
    g3 := He.glo_ok X G (c.fact 3 (f := .glo "is_tuple_of") rfl)
    B3 := FunD.bindsN (ps := ["value", "low", "high"]) E3 fun _ _ _ _ _ _ us hl => match us, hl with | [_, _, _], _ => rfl
    F4 := E4
    g4 := He.glo_ok X G (c.fact 4 (f := .glo "fits_kind") rfl)
    B4 := FunD.bindsN (ps := ["value"]) E4 fun _ _ _ _ _ _ us hl => match us, hl with | [_], _ => rfl
    F5 := E5
    g5 := He.glo_ok X G (c.fact 5 (f := .glo "fits_leaper") rfl)
    B5 := FunD.bindsN (ps := ["value"]) E5 fun _ _ _ _ _ _ us hl => match us, hl with | [_], _ => rfl
    F6 := E6
    g6 := He.glo_ok X G (c.fact 6 (f := .glo "need_leaper") rfl)
    B6 := FunD.bindsN (ps := ["value"]) E6 fun _ _ _ _ _ _ us hl => match us, hl with | [_], _ => rfl
    F7 := E7
    g7 := He.glo_ok X G (c.fact 7 (f := .glo "fits_target") rfl)
    B7 := FunD.bindsN (ps := ["value", "most"]) E7 fun _ _ _ _ _ _ us hl => match us, hl with | [_, _], _ => rfl
    F8 := E8
    g8 := He.glo_ok X G (c.fact 8 (f := .glo "need_target") rfl)
    B8 := FunD.bindsN (ps := ["value", "most"]) E8 fun _ _ _ _ _ _ us hl => match us, hl with | [_, _], _ => rfl
    F9 := E9
    g9 := He.glo_ok X G (c.fact 9 (f := .glo "need_leaps") rfl)
    B9 := FunD.bindsN (ps := ["many"]) E9 fun _ _ _ _ _ _ us hl => match us, hl with | [_], _ => rfl
    F10 := E10
    g10 := He.glo_ok X G (c.fact 10 (f := .glo "leaps_in") rfl)
    B10 := FunD.bindsN (ps := ["leaper"]) E10 fun _ _ _ _ _ _ us hl => match us, hl with | [_], _ => rfl
    F11 := E11
    g11 := He.glo_ok X G (c.fact 11 (f := .glo "joined") rfl)
    B11 := FunD.bindsN (ps := ["one", "other"]) E11 fun _ _ _ _ _ _ us hl => match us, hl with | [_, _], _ => rfl
    F12 := E12
    g12 := He.glo_ok X G (c.fact 12 (f := .glo "is_halving_in") rfl)
    B12 := FunD.bindsN (ps := ["leaper"]) E12 fun _ _ _ _ _ _ us hl => match us, hl with | [_], _ => rfl
    F13 := E13
    g13 := He.glo_ok X G (c.fact 13 (f := .glo "comes_to") rfl)
    B13 := FunD.bindsN (ps := ["leaper", "target"]) E13 fun _ _ _ _ _ _ us hl => match us, hl with | [_, _], _ => rfl
    F14 := E14
    g14 := He.glo_ok X G (c.fact 14 (f := .glo "shared") rfl)
    B14 := FunD.bindsN (ps := ["target", "leaper"]) E14 fun _ _ _ _ _ _ us hl => match us, hl with | [_, _], _ => rfl
    F15 := E15
    g15 := He.glo_ok X G (c.fact 15 (f := .glo "bounds_near") rfl)
    B15 := FunD.bindsN (ps := ["left", "times", "room"]) E15 fun _ _ _ _ _ _ us hl => match us, hl with | [_, _, _], _ => rfl
    F16 := E16
    g16 := He.glo_ok X G (c.fact 16 (f := .glo "best_beside") rfl)
    B16 := FunD.bindsN (ps := ["u", "v", "w", "z", "long", "short"]) E16 fun _ _ _ _ _ _ us hl => match us, hl with | [_, _, _, _, _, _], _ => rfl
    F17 := E17
    g17 := He.glo_ok X G (c.fact 17 (f := .glo "fewest_in") rfl)
    B17 := FunD.bindsN (ps := ["leaper", "target"]) E17 fun _ _ _ _ _ _ us hl => match us, hl with | [_, _], _ => rfl
    F18 := E18
    g18 := He.glo_ok X G (c.fact 18 (f := .glo "leaps_of") rfl)
    B18 := FunD.bindsN (ps := ["leaper"]) E18 fun _ _ _ _ _ _ us hl => match us, hl with | [_], _ => rfl
    F19 := E19
    g19 := He.glo_ok X G (c.fact 19 (f := .glo "fewest_leaps") rfl)
    B19 := FunD.bindsN (ps := ["leaper", "target"]) E19 fun _ _ _ _ _ _ us hl => match us, hl with | [_, _], _ => rfl
    F20 := E20
    g20 := He.glo_ok X G (c.fact 20 (f := .glo "rows_in") rfl)
    B20 := FunD.bindsN (ps := ["leaper", "many"]) E20 fun _ _ _ _ _ _ us hl => match us, hl with | [_, _], _ => rfl
    F21 := E21
    g21 := He.glo_ok X G (c.fact 21 (f := .glo "need_two") rfl)
    B21 := FunD.bindsN (ps := ["leaper", "many"]) E21 fun _ _ _ _ _ _ us hl => match us, hl with | [_, _], _ => rfl
    F22 := E22
    g22 := He.glo_ok X G (c.fact 22 (f := .glo "count_leap_rows") rfl)
    B22 := FunD.bindsN (ps := ["leaper", "target", "many"]) E22 fun _ _ _ _ _ _ us hl => match us, hl with | [_, _, _], _ => rfl
    F23 := E23
    g23 := He.glo_ok X G (c.fact 23 (f := .glo "count_back_rows") rfl)
    B23 := FunD.bindsN (ps := ["leaper", "many"]) E23 fun _ _ _ _ _ _ us hl => match us, hl with | [_, _], _ => rfl
    F24 := E24
    g24 := He.glo_ok X G (c.fact 24 (f := .glo "_law_cup") rfl)
    B24 := FunD.bindsN (ps := ["script"]) E24 fun _ _ _ _ _ _ us hl => match us, hl with | [_], _ => rfl
    F25 := E25
    g25 := He.glo_ok X G (c.fact 25 (f := .glo "_law_roll") rfl)
    B25 := FunD.bindsN (ps := ["cup", "many"]) E25 fun _ _ _ _ _ _ us hl => match us, hl with | [_, _], _ => rfl
    F26 := E26
    g26 := He.glo_ok X G (c.fact 26 (f := .glo "_law_some") rfl)
    B26 := FunD.bindsN (ps := ["cup", "things"]) E26 fun _ _ _ _ _ _ us hl => match us, hl with | [_, _], _ => rfl
    F27 := E27
    g27 := He.glo_ok X G (c.fact 27 (f := .glo "_law_sort") rfl)
    B27 := FunD.bindsN (ps := ["value"]) E27 fun _ _ _ _ _ _ us hl => match us, hl with | [_], _ => rfl
    F28 := E28
    g28 := He.glo_ok X G (c.fact 28 (f := .glo "_law_like") rfl)
    B28 := FunD.bindsN (ps := ["one", "other"]) E28 fun _ _ _ _ _ _ us hl => match us, hl with | [_, _], _ => rfl
    F29 := E29
    g29 := He.glo_ok X G (c.fact 29 (f := .glo "_law_leaper") rfl)
    B29 := FunD.bindsN (ps := ["cup"]) E29 fun _ _ _ _ _ _ us hl => match us, hl with | [_], _ => rfl
    F30 := E30
    g30 := He.glo_ok X G (c.fact 30 (f := .glo "_law_leaps") rfl)
    B30 := FunD.bindsN (ps := ["leaper"]) E30 fun _ _ _ _ _ _ us hl => match us, hl with | [_], _ => rfl
    F31 := E31
    g31 := He.glo_ok X G (c.fact 31 (f := .glo "_law_divisor") rfl)
    B31 := FunD.bindsN (ps := ["one", "other"]) E31 fun _ _ _ _ _ _ us hl => match us, hl with | [_, _], _ => rfl
    F32 := E32
    g32 := He.glo_ok X G (c.fact 32 (f := .glo "_law_comes") rfl)
    B32 := FunD.bindsN (ps := ["leaper", "target"]) E32 fun _ _ _ _ _ _ us hl => match us, hl with | [_, _], _ => rfl
    F33 := E33
    g33 := He.glo_ok X G (c.fact 33 (f := .glo "_law_rows") rfl)
    B33 := FunD.bindsN (ps := ["leaper", "many"]) E33 fun _ _ _ _ _ _ us hl => match us, hl with | [_, _], _ => rfl
    F34 := E34
    g34 := He.glo_ok X G (c.fact 34 (f := .glo "_law_choose") rfl)
    B34 := FunD.bindsN (ps := ["many", "some"]) E34 fun _ _ _ _ _ _ us hl => match us, hl with | [_, _], _ => rfl
    F35 := E35
    g35 := He.glo_ok X G (c.fact 35 (f := .glo "_law_right") rfl)
    B35 := FunD.bindsN (ps := ["cup", "leaper", "most"]) E35 fun _ _ _ _ _ _ us hl => match us, hl with | [_, _, _], _ => rfl
    F36 := E36
    g36 := He.glo_ok X G (c.fact 36 (f := .glo "_law_formula_right") rfl)
    B36 := FunD.bindsN (ps := ["cup"]) E36 fun _ _ _ _ _ _ us hl => match us, hl with | [_], _ => rfl
    F37 := E37
    g37 := He.glo_ok X G (c.fact 37 (f := .glo "_law_written") rfl)
    B37 := FunD.bindsN (ps := []) E37 fun _ _ _ _ _ _ us hl => match us, hl with | [], _ => rfl
    F38 := E38
    g38 := He.glo_ok X G (c.fact 38 (f := .glo "law") rfl)
    B38 := FunD.bindsN (ps := ["script"]) E38 fun _ _ _ _ _ _ us hl => match us, hl with | [_], _ => rfl
    b_isinstance := He.free_ok X G (c.fact 39 (f := .free "isinstance") rfl)
    b_int := He.free_ok X G (c.fact 40 (f := .free "int") rfl)
    b_bool := He.free_ok X G (c.fact 41 (f := .free "bool") rfl)
    b_tuple := He.free_ok X G (c.fact 42 (f := .free "tuple") rfl)
    b_len := He.free_ok X G (c.fact 43 (f := .free "len") rfl)
    b_str := He.free_ok X G (c.fact 44 (f := .free "str") rfl)
    b_all := He.free_ok X G (c.fact 45 (f := .free "all") rfl)
    b_sorted := He.free_ok X G (c.fact 46 (f := .free "sorted") rfl)
    b_zip := He.free_ok X G (c.fact 47 (f := .free "zip") rfl)
    b_list := He.free_ok X G (c.fact 48 (f := .free "list") rfl)
    b_range := He.free_ok X G (c.fact 49 (f := .free "range") rfl)
    b_abs := He.free_ok X G (c.fact 50 (f := .free "abs") rfl)
    b_max := He.free_ok X G (c.fact 51 (f := .free "max") rfl)
    b_set := He.free_ok X G (c.fact 52 (f := .free "set") rfl)
    b_sum := He.free_ok X G (c.fact 53 (f := .free "sum") rfl)
    c_NAMES := glB_ok X G ce.1
    c_FAR_LEAP := He.int_ok X G (c.fact 54 (f := .int "FAR_LEAP" 12) rfl)
    c_LEAST_LEAP := He.int_ok X G (c.fact 55 (f := .int "LEAST_LEAP" 1) rfl)
    c_MANY := He.int_ok X G (c.fact 56 (f := .int "MANY" 12) rfl)
    c_NEAR := He.int_ok X G (c.fact 57 (f := .int "NEAR" 100) rfl)
    }⟩
theorem lawBind {K : PySem.W.Frag} (c : He.SaysD fs fn K) {fd : Nat → FuncData} {mg : Str → Option Value} (x : Fx K mg (fa K) fd) (s : Shared) (v : Value) : BindsTo s (fd 38) ⟨[v], []⟩ [("script", v)] :=
  FunD.bindsA (ps := ["script"]) x.F38 (fun _ _ _ _ _ _ us hl => match us, hl with | [_], _ => rfl) s [v] rfl
end K56
open PySem PySem.W PySem.Calls PyProof.Rows
set_option maxHeartbeats 0 in
theorem K56.from (hlaw : ∀ ns : List Int, ns.length ≤ 63 → ∃ wf f S', Mp.callF K56.tab wf K56.depth 38 [.scr ns] [] = .ok (f, .bl true, S')) (hdep : L2.Room K56.depth callerA) : PySem.Challenge.rw_piecesplaced_k56_whole_counts_of_rows_of.Holds := by
  w_on; o_law
  refine HandSHeadRun.head_any (r := OpenLaw.row PySem.Challenge.rw_piecesplaced_k56_whole_counts_of_rows_of) (q := view (OpenLaw.row PySem.Challenge.rw_piecesplaced_k56_whole_counts_of_rows_of).prog [53]) (H := K56.hk) (ob := K56.ob) (M := 6000) (loose := K56.lo) (d := HandSHeadRun.topDef (OpenLaw.row PySem.Challenge.rw_piecesplaced_k56_whole_counts_of_rows_of).prog 53) (kwd := []) K56.ob_eq
    (by kernel_rfl) (fun s => by kernel_rfl) K56.run (by kernel_rfl) (by kernel_rfl) (by kernel_rfl) (by rfl) (by first | assumption | decide +kernel) (by decide +kernel) ⟨rfl, rfl, rfl, rfl, rfl, by decide +kernel⟩ ?hw ?hc
  case hw => w_witness2
  case hc =>
    refine L2.walk_ofE (l := PySem.Challenge.rw_piecesplaced_k56_whole_counts_of_rows_of) (n := 63) (k := K56.depth) (x := "script") (CX := L2.CX0) rfl (by decide) (by kernel_rfl) hdep ?F (fun _ _ _ _ z => z)
    intro w mg fa0 h Y G hmg0
    obtain ⟨K, KX, c, ce⟩ := Y
    have hmg : mg ("law" : PySem.Str) = some (.ref fa0) := by
      have e : (HandSHeadRun.topDef (OpenLaw.row PySem.Challenge.rw_piecesplaced_k56_whole_counts_of_rows_of).prog 53).name = ("law" : PySem.Str) := by kernel_rfl
      rw [← e]
      exact hmg0
    obtain ⟨fd, x⟩ := K56.facts KX G c ce
    have e := hmg.symm.trans x.g38
    cases e
    exact ⟨K, fd 38, fun vs H Q E => ∃ wf, Mp.spOf ⟨K, fun _ => 0⟩ (Mp.callF K56.tab wf K56.depth 38) vs H Q E, KX, K56.lawBind c x, fun H a ns hl hO hS => by
      obtain ⟨wf, f, S', e⟩ := hlaw ns hl
      exact ⟨wf, Mp.law_sp hO hS e fun _ => rfl⟩, fun base _ _ => Mp.fn_any fun wf => (K56.all x K56.depth).a38⟩


theorem PySem.Challenge.cw_piecesplaced_k56_whole_counts_of_rows_of_holds : PySem.Challenge.rw_piecesplaced_k56_whole_counts_of_rows_of.Holds :=
  K56.from K56.law_ok ⟨rfl, by decide, by decide⟩
