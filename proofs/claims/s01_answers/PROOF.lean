import PyProof.Rows.All
import Wide.All
import OpenK.AllK
import Wide.FinOn
import Open.SpecLaws
import KE.OsGo
import KE.OsRun
import HandS.ForSpec
import HandS.Comp
import HandS.Dict
import HandS.Iter
import HandS.Walk
import HandS.Evl
import HandS.Deep
import HandS.Conv
import HandS.RevRange
import HandS.WordsDict
import HandS.Style
import HandS.SortRule
import PySem.Challenge.RW_processfronts_s01_answers
set_option Elab.async false
set_option linter.all false
set_option maxRecDepth 100000
set_option maxHeartbeats 4000000
/-! Trees by their nodes in preorder. -/
namespace Fr
open Wf (P)

def kind : P → Nat
  | .act _ => 0
  | .skip => 1
  | .seq _ _ => 2
  | .alt _ _ => 3
  | .both _ _ => 4
  | .loop _ _ => 5
def stp : P → Nat
  | .act a => a
  | _ => 0
def kids : P → Option (P × P)
  | .seq p q => some (p, q)
  | .alt p q => some (p, q)
  | .both p q => some (p, q)
  | .loop p q => some (p, q)
  | _ => none
def nodes : P → List P
  | .act a => [.act a]
  | .skip => [.skip]
  | .seq p q => .seq p q :: (nodes p ++ nodes q)
  | .alt p q => .alt p q :: (nodes p ++ nodes q)
  | .both p q => .both p q :: (nodes p ++ nodes q)
  | .loop p q => .loop p q :: (nodes p ++ nodes q)
def secs : Nat → P → List Nat
  | _, .act _ => [0]
  | _, .skip => [0]
  | o, .seq p q => (o + 1 + p.size) :: (secs (o + 1) p ++ secs (o + 1 + p.size) q)
  | o, .alt p q => (o + 1 + p.size) :: (secs (o + 1) p ++ secs (o + 1 + p.size) q)
  | o, .both p q => (o + 1 + p.size) :: (secs (o + 1) p ++ secs (o + 1 + p.size) q)
  | o, .loop p q => (o + 1 + p.size) :: (secs (o + 1) p ++ secs (o + 1 + p.size) q)
def kinds (p : P) : List Nat := (nodes p).map kind
def steps (p : P) : List Nat := (nodes p).map stp

theorem nodes_of {x l r : P} (h : kids x = some (l, r)) : nodes x = x :: (nodes l ++ nodes r) := by
  cases x <;> simp [kids] at h <;> obtain ⟨rfl, rfl⟩ := h <;> rfl
theorem nodes_leaf {x : P} (h : kids x = none) : nodes x = [x] := by
  cases x <;> simp [kids] at h <;> rfl
theorem secs_of {x l r : P} (o : Nat) (h : kids x = some (l, r)) : secs o x = (o + 1 + l.size) :: (secs (o + 1) l ++ secs (o + 1 + l.size) r) := by
  cases x <;> simp [kids] at h <;> obtain ⟨rfl, rfl⟩ := h <;> rfl
theorem secs_leaf {x : P} (o : Nat) (h : kids x = none) : secs o x = [0] := by
  cases x <;> simp [kids] at h <;> rfl
theorem size_of {x l r : P} (h : kids x = some (l, r)) : x.size = l.size + r.size + 1 := by
  cases x <;> simp [kids] at h <;> obtain ⟨rfl, rfl⟩ := h <;> rfl
theorem size_leaf {x : P} (h : kids x = none) : x.size = 1 := by
  cases x <;> simp [kids] at h <;> rfl
theorem kids_kind {x : P} : kids x = none ↔ kind x ≤ 1 := by
  cases x <;> simp [kids, kind]
theorem kind_le (x : P) : kind x ≤ 5 := by
  cases x <;> simp [kind]
/-- by the kids -/
theorem kids_rec {M : P → Prop} (leaf : ∀ x, kids x = none → M x) (node : ∀ x l r, kids x = some (l, r) → M l → M r → M x) : ∀ x, M x := by
  intro x
  induction x with
  | act a => exact leaf _ rfl
  | skip => exact leaf _ rfl
  | seq p q ih1 ih2 => exact node _ _ _ rfl ih1 ih2
  | alt p q ih1 ih2 => exact node _ _ _ rfl ih1 ih2
  | both p q ih1 ih2 => exact node _ _ _ rfl ih1 ih2
  | loop p q ih1 ih2 => exact node _ _ _ rfl ih1 ih2
theorem nodes_len : ∀ x : P, (nodes x).length = x.size := by
  refine kids_rec (fun x h => ?_) (fun x l r h ih1 ih2 => ?_)
  · rw [nodes_leaf h, size_leaf h]; rfl
  · rw [nodes_of h, size_of h, List.length_cons, List.length_append, ih1, ih2]
theorem size_pos (x : P) : 1 ≤ x.size := by
  cases h : kids x with
  | none => rw [size_leaf h]; exact Nat.le_refl _
  | some q => rw [size_of (l := q.1) (r := q.2) h]; omega
theorem secs_len : ∀ (x : P) (o : Nat), (secs o x).length = x.size := by
  refine kids_rec (fun x h o => ?_) (fun x l r h ih1 ih2 o => ?_)
  · rw [secs_leaf o h, size_leaf h]; rfl
  · rw [secs_of o h, size_of h, List.length_cons, List.length_append, ih1, ih2]
theorem nodes_zero (x : P) : (nodes x)[0]? = some x := by
  cases h : kids x with
  | none => rw [nodes_leaf h]; rfl
  | some q => rw [nodes_of (l := q.1) (r := q.2) h]; rfl
/-- the kids' places -/
theorem nodes_kids : ∀ (x : P) {i : Nat} {q l r : P}, (nodes x)[i]? = some q → kids q = some (l, r) → (nodes x)[i + 1]? = some l ∧ (nodes x)[i + 1 + l.size]? = some r := by
  refine kids_rec (fun x h i q l r hi hq => ?_) (fun x l' r' h ih1 ih2 i q l r hi hq => ?_)
  · rw [nodes_leaf h] at hi
    have : i = 0 ∧ q = x := by
      cases i with
      | zero => simp at hi; exact ⟨rfl, hi.symm⟩
      | succ i => simp at hi
    rw [this.2, h] at hq
    cases hq
  · rw [nodes_of h] at hi ⊢
    cases i with
    | zero =>
      have e : x = q := by simpa using hi
      subst e
      rw [h] at hq
      obtain ⟨rfl, rfl⟩ := Prod.mk.inj (Option.some.inj hq)
      have n1 := nodes_len l'
      have p1 := size_pos l'
      have p2 := size_pos r'
      have n2 := nodes_len r'
      refine ⟨?_, ?_⟩
      · rw [List.getElem?_cons_succ, List.getElem?_append_left (by omega)]
        exact nodes_zero l'
      · rw [show 0 + 1 + l'.size = l'.size + 1 by omega, List.getElem?_cons_succ, List.getElem?_append_right (by omega), n1, Nat.sub_self]
        exact nodes_zero r'
    | succ i =>
      rw [List.getElem?_cons_succ] at hi
      have n1 := nodes_len l'
      have n2 := nodes_len r'
      by_cases hl : i < l'.size
      · rw [List.getElem?_append_left (by omega)] at hi
        obtain ⟨a, b⟩ := ih1 hi hq
        have b1 := (List.getElem?_eq_some_iff.mp b).1
        have a1 := (List.getElem?_eq_some_iff.mp a).1
        refine ⟨?_, ?_⟩
        · rw [List.getElem?_cons_succ, List.getElem?_append_left a1]
          exact a
        · rw [show i + 1 + 1 + l.size = (i + 1 + l.size) + 1 by omega, List.getElem?_cons_succ, List.getElem?_append_left b1]
          exact b
      · rw [List.getElem?_append_right (by omega), n1] at hi
        obtain ⟨a, b⟩ := ih2 hi hq
        refine ⟨?_, ?_⟩
        · rw [List.getElem?_cons_succ, List.getElem?_append_right (by omega), n1, ← a]
          congr 1
          omega
        · rw [show i + 1 + 1 + l.size = (i + 1 + l.size) + 1 by omega, List.getElem?_cons_succ, List.getElem?_append_right (by omega), n1, ← b]
          congr 1
          omega
/-- the second's number, as it is told -/
def secAt (i : Nat) (q : P) : Nat := match kids q with
  | some (l, _) => i + 1 + l.size
  | none => 0
theorem secAt_of {i : Nat} {q l r : P} (h : kids q = some (l, r)) : secAt i q = i + 1 + l.size := by
  unfold secAt; rw [h]
theorem secAt_leaf {i : Nat} {q : P} (h : kids q = none) : secAt i q = 0 := by
  unfold secAt; rw [h]
theorem secs_get : ∀ (x : P) (o : Nat) {i : Nat} {q : P}, (nodes x)[i]? = some q → (secs o x)[i]? = some (secAt (o + i) q) := by
  refine kids_rec (fun x h o i q hi => ?_) (fun x l r h ih1 ih2 o i q hi => ?_)
  · rw [nodes_leaf h] at hi
    cases i with
    | zero =>
      have e : x = q := by simpa using hi
      subst e
      rw [secs_leaf o h, secAt_leaf h]; rfl
    | succ i => simp at hi
  · rw [nodes_of h] at hi
    rw [secs_of o h]
    cases i with
    | zero =>
      have e : x = q := by simpa using hi
      subst e
      rw [secAt_of h]; simp
    | succ i =>
      rw [List.getElem?_cons_succ] at hi ⊢
      have n1 := nodes_len l
      have s1 := secs_len l (o + 1)
      by_cases hl : i < l.size
      · rw [List.getElem?_append_left (by omega)] at hi ⊢
        rw [ih1 (o + 1) hi]
        congr 2; omega
      · rw [List.getElem?_append_right (by omega), n1] at hi
        rw [List.getElem?_append_right (by omega), s1, ih2 (o + 1 + l.size) hi]
        congr 2; omega
/-- a node's end: the place behind it and all within -/
theorem node_end (x : P) {i : Nat} {q : P} (h : (nodes x)[i]? = some q) : i + q.size ≤ x.size := by
  revert i q
  refine kids_rec (M := fun x => ∀ {i : Nat} {q : P}, (nodes x)[i]? = some q → i + q.size ≤ x.size) (fun x h i q hi => ?_) (fun x l r h ih1 ih2 i q hi => ?_) x
  · rw [nodes_leaf h] at hi
    cases i with
    | zero =>
      have e : x = q := by simpa using hi
      subst e
      omega
    | succ i => simp at hi
  · have e := size_of h
    rw [nodes_of h] at hi
    cases i with
    | zero =>
      have e : x = q := by simpa using hi
      subst e
      omega
    | succ i =>
      rw [List.getElem?_cons_succ] at hi
      have n1 := nodes_len l
      by_cases hl : i < l.size
      · rw [List.getElem?_append_left (by omega)] at hi
        have := ih1 hi
        omega
      · rw [List.getElem?_append_right (by omega), n1] at hi
        have := ih2 hi
        omega
theorem kinds_get {x : P} {i : Nat} {q : P} (h : (nodes x)[i]? = some q) : (kinds x)[i]? = some (kind q) := by
  unfold kinds; rw [List.getElem?_map, h]; rfl
theorem steps_get {x : P} {i : Nat} {q : P} (h : (nodes x)[i]? = some q) : (steps x)[i]? = some (stp q) := by
  unfold steps; rw [List.getElem?_map, h]; rfl
theorem kinds_len (x : P) : (kinds x).length = x.size := by
  unfold kinds; rw [List.length_map, nodes_len]
theorem steps_len (x : P) : (steps x).length = x.size := by
  unfold steps; rw [List.length_map, nodes_len]
theorem node_at (x : P) {i : Nat} (h : i < x.size) : ∃ q, (nodes x)[i]? = some q := by
  rw [← nodes_len] at h
  exact ⟨_, List.getElem?_eq_getElem h⟩
/-- a table filled from the last place on -/
def Filled {α : Type} (f : Nat → α) (n at' : Nat) (xs : List α) : Prop := xs.length = n ∧ ∀ i, at' ≤ i → i < n → xs[i]? = some (f i)
theorem Filled.start {α : Type} {f : Nat → α} {n : Nat} {xs : List α} (h : xs.length = n) : Filled f n n xs := ⟨h, fun i h1 h2 => by omega⟩
theorem Filled.put {α : Type} {f : Nat → α} {n k : Nat} {xs : List α} (h : Filled f n (k + 1) xs) (hk : k < n) : Filled f n k (xs.set k (f k)) := by
  refine ⟨by rw [List.length_set]; exact h.1, fun i h1 h2 => ?_⟩
  by_cases e : k = i
  · subst e
    rw [List.getElem?_set_self (by rw [h.1]; exact hk)]
  · rw [List.getElem?_set_ne e]
    exact h.2 i (by omega) h2
theorem Filled.skip {α : Type} {f : Nat → α} {n k : Nat} {xs : List α} (h : Filled f n (k + 1) xs) (hk : xs[k]? = some (f k)) : Filled f n k xs := by
  refine ⟨h.1, fun i h1 h2 => ?_⟩
  by_cases e : k = i
  · subst e; exact hk
  · exact h.2 i (by omega) h2
theorem Filled.set {α : Type} {f : Nat → α} {n k : Nat} {xs : List α} {v : α} (h : Filled f n (k + 1) xs) (hk : k < n) (e : v = f k) : Filled f n k (xs.set k v) := e ▸ h.put hk
theorem Filled.at {α : Type} {f : Nat → α} {n k i : Nat} {xs : List α} (h : Filled f n k xs) (h1 : k ≤ i) (h2 : i < n) : xs[i]? = some (f i) := h.2 i h1 h2
theorem Filled.ext {α : Type} {f : Nat → α} {n : Nat} {xs ys : List α} (h : Filled f n 0 xs) (h' : Filled f n 0 ys) : xs = ys := by
  refine List.ext_getElem? fun i => ?_
  by_cases hi : i < n
  · rw [h.2 i (Nat.zero_le _) hi, h'.2 i (Nat.zero_le _) hi]
  · rw [List.getElem?_eq_none (by rw [h.1]; omega), List.getElem?_eq_none (by rw [h'.1]; omega)]
end Fr
/-! Reading a process from numbers: the loop's way (scan) and the specification's (Wf.read). -/
namespace Fr
open Wf (P)

def scan : List Nat → Nat → Option (List (Nat × Nat))
  | [], 0 => some []
  | _ :: _, 0 => none
  | [], _ + 1 => none
  | [k], w + 1 => if k = 0 ∨ 5 < k then none else (scan [] (if k = 1 then w else w + 2)).map fun t => (k, 0) :: t
  | k :: s :: r, w + 1 => if 5 < k then none else if k = 0 then (scan r w).map fun t => (0, s) :: t else (scan (s :: r) (if k = 1 then w else w + 2)).map fun t => (k, 0) :: t
def flat (p : P) : List (Nat × Nat) := (nodes p).map fun q => (kind q, stp q)

theorem scan_big {k w : Nat} {r : List Nat} (h : 5 < k) : scan (k :: r) (w + 1) = none := by
  cases r with
  | nil => unfold scan; rw [if_pos (.inr h)]
  | cons s r => unfold scan; rw [if_pos h]
theorem scan_step0 {w : Nat} : scan [0] (w + 1) = none := by
  unfold scan; rw [if_pos (.inl rfl)]
theorem scan_step {s w : Nat} {r : List Nat} : scan (0 :: s :: r) (w + 1) = (scan r w).map fun t => (0, s) :: t := by
  rw [scan.eq_5, if_neg (by decide), if_pos rfl]
theorem scan_skip {w : Nat} {r : List Nat} : scan (1 :: r) (w + 1) = (scan r w).map fun t => (1, 0) :: t := by
  cases r with
  | nil => rw [scan.eq_4, if_neg (by decide), if_pos rfl]
  | cons s r => rw [scan.eq_5, if_neg (by decide), if_neg (by decide), if_pos rfl]
theorem scan_two {k w : Nat} {r : List Nat} (h1 : 2 ≤ k) (h2 : k ≤ 5) : scan (k :: r) (w + 1) = (scan r (w + 2)).map fun t => (k, 0) :: t := by
  cases r with
  | nil => rw [scan.eq_4, if_neg (by omega), if_neg (by omega)]
  | cons s r => rw [scan.eq_5, if_neg (by omega), if_neg (by omega), if_neg (by omega)]
theorem scan_none {w : Nat} : scan [] (w + 1) = none := rfl
theorem scan_rest {k : Nat} {r : List Nat} : scan (k :: r) 0 = none := rfl
theorem scan_nil : scan [] 0 = some [] := rfl

theorem row_of {x l r : P} (h : kids x = some (l, r)) : x.row = kind x :: (l.row ++ r.row) ∧ 2 ≤ kind x ∧ kind x ≤ 5 ∧ stp x = 0 := by
  cases x <;> simp [kids] at h <;> obtain ⟨rfl, rfl⟩ := h <;> exact ⟨rfl, by simp [kind], by simp [kind], rfl⟩
theorem flat_of {x l r : P} (h : kids x = some (l, r)) : flat x = (kind x, stp x) :: (flat l ++ flat r) := by
  unfold flat
  rw [nodes_of h, List.map_cons, List.map_append]
theorem scan_row : ∀ (p : P) (r : List Nat) (w : Nat), scan (p.row ++ r) (w + 1) = (scan r w).map fun t => flat p ++ t := by
  refine kids_rec (fun x h r w => ?_) (fun x l q h ih1 ih2 r w => ?_)
  · cases x with
    | act a => exact scan_step
    | skip => exact scan_skip
    | _ => simp [kids] at h
  · obtain ⟨e, h1, h2, h3⟩ := row_of h
    rw [e, List.cons_append, scan_two h1 h2, List.append_assoc, ih1, ih2, flat_of h, h3]
    cases scan r w with
    | none => rfl
    | some t => simp
theorem mk_of (k : Nat) (h1 : 2 ≤ k) (h2 : k ≤ 5) (l r : P) : ∃ x, kids x = some (l, r) ∧ kind x = k := by
  have : k = 2 ∨ k = 3 ∨ k = 4 ∨ k = 5 := by omega
  rcases this with rfl | rfl | rfl | rfl
  · exact ⟨.seq l r, rfl, rfl⟩
  · exact ⟨.alt l r, rfl, rfl⟩
  · exact ⟨.both l r, rfl, rfl⟩
  · exact ⟨.loop l r, rfl, rfl⟩
theorem scan_trees : ∀ (n : Nat) (l : List Nat) (w : Nat) (toks : List (Nat × Nat)), l.length ≤ n → scan l w = some toks → ∃ ts : List P, ts.length = w ∧ l = ts.flatMap P.row ∧ toks = ts.flatMap flat := by
  intro n
  induction n with
  | zero =>
    intro l w toks hl h
    obtain rfl : l = [] := List.length_eq_zero_iff.mp (by omega)
    cases w with
    | zero => rw [scan_nil] at h; cases h; exact ⟨[], rfl, rfl, rfl⟩
    | succ w => rw [scan_none] at h; cases h
  | succ n ih =>
    intro l w toks hl h
    cases l with
    | nil =>
      cases w with
      | zero => rw [scan_nil] at h; cases h; exact ⟨[], rfl, rfl, rfl⟩
      | succ w => rw [scan_none] at h; cases h
    | cons k r =>
      cases w with
      | zero => rw [scan_rest] at h; cases h
      | succ w =>
        have hr : r.length ≤ n := by simp at hl; omega
        by_cases hk : 5 < k
        · rw [scan_big hk] at h; cases h
        · by_cases h0 : k = 0
          · subst h0
            cases r with
            | nil => rw [scan_step0] at h; cases h
            | cons s r =>
              rw [scan_step] at h
              obtain ⟨t, ht, e⟩ := Option.map_eq_some_iff.mp h
              obtain ⟨ts, e1, e2, e3⟩ := ih r w t (by simp at hr; omega) ht
              exact ⟨.act s :: ts, by rw [List.length_cons, e1], by rw [List.flatMap_cons, ← e2]; rfl, by rw [List.flatMap_cons, ← e3, ← e]; rfl⟩
          · by_cases h1 : k = 1
            · subst h1
              rw [scan_skip] at h
              obtain ⟨t, ht, e⟩ := Option.map_eq_some_iff.mp h
              obtain ⟨ts, e1, e2, e3⟩ := ih r w t hr ht
              exact ⟨.skip :: ts, by rw [List.length_cons, e1], by rw [List.flatMap_cons, ← e2]; rfl, by rw [List.flatMap_cons, ← e3, ← e]; rfl⟩
            · rw [scan_two (by omega) (by omega)] at h
              obtain ⟨t, ht, e⟩ := Option.map_eq_some_iff.mp h
              obtain ⟨ts, e1, e2, e3⟩ := ih r (w + 2) t hr ht
              obtain ⟨t1, t2, ts', rfl⟩ : ∃ t1 t2 ts', ts = t1 :: t2 :: ts' := by
                cases ts with
                | nil => simp at e1
                | cons t1 ts =>
                  cases ts with
                  | nil => simp at e1
                  | cons t2 ts' => exact ⟨t1, t2, ts', rfl⟩
              obtain ⟨x, hx, hkx⟩ := mk_of k (by omega) (by omega) t1 t2
              obtain ⟨q1, _, _, q4⟩ := row_of hx
              refine ⟨x :: ts', by simp at e1 ⊢; omega, ?_, ?_⟩
              · rw [List.flatMap_cons, q1, hkx, e2, List.flatMap_cons, List.flatMap_cons]; simp
              · rw [List.flatMap_cons, flat_of hx, hkx, q4, ← e, e3, List.flatMap_cons, List.flatMap_cons]; simp
/-- the loop reads just the trees' rows -/
theorem scan_one {l : List Nat} {toks : List (Nat × Nat)} (h : scan l 1 = some toks) : ∃ p : P, l = p.row ∧ toks = flat p := by
  obtain ⟨ts, e1, e2, e3⟩ := scan_trees l.length l 1 toks (Nat.le_refl _) h
  cases ts with
  | nil => simp at e1
  | cons p ts =>
    obtain rfl : ts = [] := List.length_eq_zero_iff.mp (by simp at e1; exact List.length_eq_zero_iff.mpr e1)
    exact ⟨p, by simpa using e2, by simpa using e3⟩
theorem scan_of_row (p : P) : scan p.row 1 = some (flat p) := by
  have h := scan_row p [] 0
  rw [List.append_nil, scan_nil] at h
  rw [h]; simp

/-! the specification's reading -/
theorem read_row : ∀ (p : P) (n : Nat) (r : List Nat), p.row.length ≤ n → Wf.read n (p.row ++ r) = some (p, r) := by
  intro p
  induction p with
  | act a =>
    intro n r h
    cases n with
    | zero => simp [Wf.P.row] at h
    | succ n => rfl
  | skip =>
    intro n r h
    cases n with
    | zero => simp [Wf.P.row] at h
    | succ n => rfl
  | seq p q ih1 ih2 =>
    intro n r h
    cases n with
    | zero => simp [Wf.P.row] at h
    | succ n =>
      simp only [Wf.P.row, List.length_cons, List.length_append] at h
      show Wf.read (n + 1) (2 :: ((p.row ++ q.row) ++ r)) = _
      rw [List.append_assoc]
      simp only [Wf.read, ih1 n (q.row ++ r) (by omega), ih2 n r (by omega)]
      rfl
  | alt p q ih1 ih2 =>
    intro n r h
    cases n with
    | zero => simp [Wf.P.row] at h
    | succ n =>
      simp only [Wf.P.row, List.length_cons, List.length_append] at h
      show Wf.read (n + 1) (3 :: ((p.row ++ q.row) ++ r)) = _
      rw [List.append_assoc]
      simp only [Wf.read, ih1 n (q.row ++ r) (by omega), ih2 n r (by omega)]
      rfl
  | both p q ih1 ih2 =>
    intro n r h
    cases n with
    | zero => simp [Wf.P.row] at h
    | succ n =>
      simp only [Wf.P.row, List.length_cons, List.length_append] at h
      show Wf.read (n + 1) (4 :: ((p.row ++ q.row) ++ r)) = _
      rw [List.append_assoc]
      simp only [Wf.read, ih1 n (q.row ++ r) (by omega), ih2 n r (by omega)]
      rfl
  | loop p q ih1 ih2 =>
    intro n r h
    cases n with
    | zero => simp [Wf.P.row] at h
    | succ n =>
      simp only [Wf.P.row, List.length_cons, List.length_append] at h
      show Wf.read (n + 1) (5 :: ((p.row ++ q.row) ++ r)) = _
      rw [List.append_assoc]
      simp only [Wf.read, ih1 n (q.row ++ r) (by omega), ih2 n r (by omega)]
      rfl
theorem row_read : ∀ (n : Nat) (l : List Nat) (p : P) (r : List Nat), Wf.read n l = some (p, r) → l = p.row ++ r := by
  intro n
  induction n with
  | zero => intro l p r h; simp [Wf.read] at h
  | succ n ih =>
    intro l p r h
    unfold Wf.read at h
    split at h
    · rename_i a r'
      cases h; rfl
    · cases h; rfl
    · rename_i k r' _ _
      by_cases hk : k < 2 ∨ 5 < k
      · rw [if_pos hk] at h; cases h
      · rw [if_neg hk] at h
        cases hx : Wf.read n r' with
        | none => rw [hx] at h; cases h
        | some x =>
          rw [hx] at h
          obtain ⟨y, hy, e⟩ := Option.map_eq_some_iff.mp h
          have e1 := ih r' x.1 x.2 hx
          have e2 := ih x.2 y.1 y.2 hy
          obtain ⟨rfl, rfl⟩ := Prod.mk.inj e
          have : k = 2 ∨ k = 3 ∨ k = 4 ∨ k = 5 := by omega
          rcases this with rfl | rfl | rfl | rfl
          · simp only [if_pos, Wf.P.row, e1, e2, List.cons_append, List.append_assoc]
          · simp only [show (3 : Nat) ≠ 2 by decide, if_false, if_pos, Wf.P.row, e1, e2, List.cons_append, List.append_assoc]
          · simp only [show (4 : Nat) ≠ 2 by decide, show (4 : Nat) ≠ 3 by decide, if_false, if_pos, Wf.P.row, e1, e2, List.cons_append, List.append_assoc]
          · simp only [show (5 : Nat) ≠ 2 by decide, show (5 : Nat) ≠ 3 by decide, show (5 : Nat) ≠ 4 by decide, if_false, Wf.P.row, e1, e2, List.cons_append, List.append_assoc]
    · cases h
theorem run_row {l : List Nat} {p : P} : Wf06.run? l = some p ↔ l = p.row := by
  unfold Wf06.run?
  constructor
  · intro h
    split at h
    · rename_i q e
      cases h
      have := row_read _ _ _ _ e
      rw [List.append_nil] at this
      exact this
    · cases h
  · intro h
    have e := read_row p (l.length + 1) [] (by rw [h]; omega)
    rw [List.append_nil, ← h] at e
    rw [e]
theorem scan_run (l : List Nat) : scan l 1 = (Wf06.run? l).map flat := by
  cases h : Wf06.run? l with
  | some p => rw [run_row.mp h, scan_of_row]; rfl
  | none =>
    cases h2 : scan l 1 with
    | none => rfl
    | some toks =>
      obtain ⟨p, e, _⟩ := scan_one h2
      rw [run_row.mpr e] at h
      cases h
theorem flat_kinds (p : P) : (flat p).map (·.1) = kinds p := by
  unfold flat kinds; rw [List.map_map]; rfl
theorem flat_steps (p : P) : (flat p).map (·.2) = steps p := by
  unfold flat steps; rw [List.map_map]; rfl
theorem row_len (p : P) : p.size ≤ p.row.length := by
  induction p with
  | act a => simp [Wf.P.row, Wf.P.size]
  | skip => simp [Wf.P.row, Wf.P.size]
  | _ p q ih1 ih2 => simp [Wf.P.row, Wf.P.size]; omega
/-- what is set as the service's process -/
theorem process_of (l : List Nat) : Wf.process l = match Wf06.run? l with
    | some p => if p.right = true ∧ p.size ≤ Wf.SIZE then some p else none
    | none => none := by
  unfold Wf.process Wf06.run?
  cases Wf.read (l.length + 1) l with
  | none => rfl
  | some x =>
    obtain ⟨p, r⟩ := x
    cases r <;> rfl
end Fr
/-! Fronts: lists of pairs by rising times and falling costs; the one front of some pairs. -/
namespace Fr
open Wf (P)
open Wf06 (Point Book best seqs sides loops)

abbrev Pr := Nat × Nat
def Dom (a b : Pr) : Prop := a.1 ≤ b.1 ∧ a.2 ≤ b.2
theorem Dom.refl (a : Pr) : Dom a a := ⟨Nat.le_refl _, Nat.le_refl _⟩
theorem Dom.trans {a b c : Pr} (h : Dom a b) (k : Dom b c) : Dom a c := ⟨Nat.le_trans h.1 k.1, Nat.le_trans h.2 k.2⟩
theorem Dom.anti {a b : Pr} (h : Dom a b) (k : Dom b a) : a = b := Prod.ext (Nat.le_antisymm h.1 k.1) (Nat.le_antisymm h.2 k.2)
def Inc (qs : List Pr) : Prop := qs.Pairwise fun a b => a.1 < b.1 ∧ b.2 < a.2
structure IsFront (ps qs : List Pr) : Prop where
  inc : Inc qs
  sub : ∀ q ∈ qs, q ∈ ps
  cov : ∀ x ∈ ps, ∃ q ∈ qs, Dom q x
theorem inc_anti : ∀ {qs : List Pr}, Inc qs → ∀ {a b : Pr}, a ∈ qs → b ∈ qs → Dom a b → a = b
  | [], _, _, _, h, _, _ => by cases h
  | x :: r, hi, a, b, ha, hb, d => by
    obtain ⟨h1, h2⟩ := List.pairwise_cons.mp hi
    rcases List.mem_cons.mp ha with e1 | ha'
    · rcases List.mem_cons.mp hb with e2 | hb'
      · rw [e1, e2]
      · have := h1 b hb'
        have := d.2
        rw [e1] at this
        omega
    · rcases List.mem_cons.mp hb with e2 | hb'
      · have := h1 a ha'
        have := d.1
        rw [e2] at this
        omega
      · exact inc_anti h2 ha' hb' d
theorem inc_head {x : Pr} {r : List Pr} (h : Inc (x :: r)) : ∀ y ∈ r, x.1 < y.1 := fun y hy => ((List.pairwise_cons.mp h).1 y hy).1
theorem inc_ext : ∀ {l m : List Pr}, Inc l → Inc m → (∀ x, x ∈ l ↔ x ∈ m) → l = m
  | [], m, _, _, h => by
    cases m with
    | nil => rfl
    | cons y m => exact absurd ((h y).mpr (List.mem_cons_self ..)) (by simp)
  | x :: l, [], _, _, h => absurd ((h x).mp (List.mem_cons_self ..)) (by simp)
  | x :: l, y :: m, hl, hm, h => by
    have e : x = y := by
      rcases List.mem_cons.mp ((h x).mp (List.mem_cons_self ..)) with e | hx
      · exact e
      · rcases List.mem_cons.mp ((h y).mpr (List.mem_cons_self ..)) with e | hy
        · exact e.symm
        · have := inc_head hm x hx
          have := inc_head hl y hy
          omega
    subst e
    congr 1
    refine inc_ext (List.pairwise_cons.mp hl).2 (List.pairwise_cons.mp hm).2 fun z => ⟨fun hz => ?_, fun hz => ?_⟩
    · rcases List.mem_cons.mp ((h z).mp (List.mem_cons_of_mem _ hz)) with e | hz'
      · have := inc_head hl z hz
        rw [e] at this
        omega
      · exact hz'
    · rcases List.mem_cons.mp ((h z).mpr (List.mem_cons_of_mem _ hz)) with e | hz'
      · have := inc_head hm z hz
        rw [e] at this
        omega
      · exact hz'
/-- pairs that cover each other have one front -/
theorem IsFront.uniq {ps ps' qs qs' : List Pr} (h : IsFront ps qs) (h' : IsFront ps' qs') (c : ∀ x ∈ ps, ∃ y ∈ ps', Dom y x) (c' : ∀ x ∈ ps', ∃ y ∈ ps, Dom y x) : qs = qs' := by
  have one : ∀ {ps ps' qs qs' : List Pr}, IsFront ps qs → IsFront ps' qs' → (∀ x ∈ ps, ∃ y ∈ ps', Dom y x) → (∀ x ∈ ps', ∃ y ∈ ps, Dom y x) → ∀ q ∈ qs, q ∈ qs' := by
    intro ps ps' qs qs' h h' c c' q hq
    obtain ⟨y, hy, d1⟩ := c q (h.sub q hq)
    obtain ⟨q', hq', d2⟩ := h'.cov y hy
    obtain ⟨z, hz, d3⟩ := c' q' (h'.sub q' hq')
    obtain ⟨q'', hq'', d4⟩ := h.cov z hz
    have dq : Dom q' q := d2.trans d1
    have e := inc_anti h.inc hq'' hq ((d4.trans d3).trans dq)
    rw [e] at d4
    have : q = q' := (d4.trans d3).anti dq
    rw [this]; exact hq'
  exact inc_ext h.inc h'.inc fun x => ⟨one h h' c c' x, one h' h c' c x⟩
theorem IsFront.uniq1 {ps qs qs' : List Pr} (h : IsFront ps qs) (h' : IsFront ps qs') : qs = qs' :=
  h.uniq h' (fun x hx => ⟨x, hx, .refl x⟩) fun x hx => ⟨x, hx, .refl x⟩
/-- of fewer pairs that cover the rest -/
theorem IsFront.of {ps ps' qs : List Pr} (h : IsFront ps' qs) (s : ∀ x ∈ ps', x ∈ ps) (c : ∀ x ∈ ps, ∃ y ∈ ps', Dom y x) : IsFront ps qs :=
  ⟨h.inc, fun q hq => s q (h.sub q hq), fun x hx => by
    obtain ⟨y, hy, d⟩ := c x hx
    obtain ⟨q, hq, d'⟩ := h.cov y hy
    exact ⟨q, hq, d'.trans d⟩⟩
theorem IsFront.one (x : Pr) : IsFront [x] [x] := ⟨List.pairwise_singleton _ _, fun _ h => h, fun y h => ⟨y, h, .refl y⟩⟩
theorem IsFront.ne {ps qs : List Pr} (h : IsFront ps qs) (n : ps ≠ []) : qs ≠ [] := by
  intro e
  subst e
  cases ps with
  | nil => exact n rfl
  | cons x r =>
    obtain ⟨q, hq, _⟩ := h.cov x (List.mem_cons_self ..)
    cases hq

/-! ### the program's way: sorted, then kept if cheaper -/
def lexLe (a b : Pr) : Prop := a.1 < b.1 ∨ (a.1 = b.1 ∧ a.2 ≤ b.2)
def keep (acc : List Pr) (x : Pr) : List Pr := match acc.getLast? with
  | none => acc ++ [x]
  | some y => if x.2 < y.2 then acc ++ [x] else acc
structure Kept (l acc : List Pr) : Prop where
  inc : Inc acc
  sub : ∀ q ∈ acc, q ∈ l
  cov : ∀ x ∈ l, ∃ q ∈ acc, Dom q x
theorem inc_snoc {acc : List Pr} {x : Pr} (h : Inc acc) (k : ∀ y, acc.getLast? = some y → y.1 < x.1 ∧ x.2 < y.2) : Inc (acc ++ [x]) := by
  refine List.pairwise_append.mpr ⟨h, List.pairwise_singleton _ _, fun a ha b hb => ?_⟩
  obtain rfl : b = x := by simpa using hb
  cases e : acc.getLast? with
  | none =>
    rw [List.getLast?_eq_none_iff] at e
    subst e
    cases ha
  | some y =>
    obtain ⟨k1, k2⟩ := k y e
    obtain ⟨r, rfl⟩ := List.getLast?_eq_some_iff.mp e
    rcases List.mem_append.mp ha with ha | ha
    · have := (List.pairwise_append.mp h).2.2 a ha y (by simp)
      omega
    · obtain rfl : a = y := by simpa using ha
      exact ⟨k1, k2⟩
theorem Kept.step {l acc : List Pr} {x : Pr} (h : Kept l acc) (s : ∀ y ∈ l, lexLe y x) : Kept (l ++ [x]) (keep acc x) := by
  unfold keep
  cases e : acc.getLast? with
  | none =>
    rw [List.getLast?_eq_none_iff] at e
    subst e
    refine ⟨List.pairwise_singleton _ _, fun q hq => ?_, fun y hy => ?_⟩
    · exact List.mem_append_right _ hq
    · rcases List.mem_append.mp hy with hy | hy
      · obtain ⟨q, hq, _⟩ := h.cov y hy
        cases hq
      · obtain rfl : y = x := by simpa using hy
        exact ⟨y, by simp, .refl y⟩
  | some z =>
    have hz : z ∈ acc := List.mem_of_getLast? e
    have lz := s z (h.sub z hz)
    show Kept (l ++ [x]) (if x.2 < z.2 then acc ++ [x] else acc)
    by_cases c : x.2 < z.2
    · rw [if_pos c]
      refine ⟨inc_snoc h.inc fun y hy => ?_, fun q hq => ?_, fun y hy => ?_⟩
      · rw [e] at hy
        cases hy
        refine ⟨?_, c⟩
        rcases lz with q | ⟨_, q⟩ <;> omega
      · rcases List.mem_append.mp hq with hq | hq
        · exact List.mem_append_left _ (h.sub q hq)
        · exact List.mem_append_right _ hq
      · rcases List.mem_append.mp hy with hy | hy
        · obtain ⟨q, hq, d⟩ := h.cov y hy
          exact ⟨q, List.mem_append_left _ hq, d⟩
        · obtain rfl : y = x := by simpa using hy
          exact ⟨y, by simp, .refl y⟩
    · rw [if_neg c]
      refine ⟨h.inc, fun q hq => List.mem_append_left _ (h.sub q hq), fun y hy => ?_⟩
      rcases List.mem_append.mp hy with hy | hy
      · exact h.cov y hy
      · obtain rfl : y = x := by simpa using hy
        refine ⟨z, hz, ?_, by omega⟩
        rcases lz with q | ⟨q, _⟩ <;> omega
theorem Kept.nil : Kept [] [] := ⟨List.Pairwise.nil, fun _ h => h, fun _ h => nomatch h⟩
theorem Kept.front {l acc : List Pr} (h : Kept l acc) {ps : List Pr} (m : ∀ x, x ∈ l ↔ x ∈ ps) : IsFront ps acc :=
  ⟨h.inc, fun q hq => (m q).mp (h.sub q hq), fun x hx => h.cov x ((m x).mpr hx)⟩
theorem keep_len (acc : List Pr) (x : Pr) : (keep acc x).length ≤ acc.length + 1 := by
  unfold keep
  cases acc.getLast? with
  | none => simp
  | some y =>
    show (if x.2 < y.2 then acc ++ [x] else acc).length ≤ _
    split <;> simp

/-! ### two pairs joined -/
def jn (k : Nat) (a b : Pr) : Pr := (if k = 4 then max a.1 b.1 else a.1 + b.1, a.2 + b.2)
theorem jn_mono {k : Nat} {a a' b b' : Pr} (h1 : Dom a a') (h2 : Dom b b') : Dom (jn k a b) (jn k a' b') := by
  obtain ⟨p1, p2⟩ := h1
  obtain ⟨q1, q2⟩ := h2
  refine ⟨?_, Nat.add_le_add p2 q2⟩
  unfold jn
  by_cases c : k = 4
  · rw [if_pos c, if_pos c]
    show max a.1 b.1 ≤ max a'.1 b'.1
    omega
  · rw [if_neg c, if_neg c]
    exact Nat.add_le_add p1 q1
def prods (k : Nat) (ps qs : List Pr) : List Pr := ps.flatMap fun a => qs.map fun b => jn k a b
theorem mem_prods {k : Nat} {ps qs : List Pr} {x : Pr} : x ∈ prods k ps qs ↔ ∃ a ∈ ps, ∃ b ∈ qs, jn k a b = x := by
  unfold prods
  rw [List.mem_flatMap]
  constructor
  · rintro ⟨a, ha, h⟩
    obtain ⟨b, hb, e⟩ := List.mem_map.mp h
    exact ⟨a, ha, b, hb, e⟩
  · rintro ⟨a, ha, b, hb, e⟩
    exact ⟨a, ha, List.mem_map.mpr ⟨b, hb, e⟩⟩
theorem prods_ne {k : Nat} {ps qs : List Pr} (h1 : ps ≠ []) (h2 : qs ≠ []) : prods k ps qs ≠ [] := by
  obtain ⟨a, ha⟩ := List.exists_mem_of_ne_nil ps h1
  obtain ⟨b, hb⟩ := List.exists_mem_of_ne_nil qs h2
  exact List.ne_nil_of_mem (mem_prods.mpr ⟨a, ha, b, hb, rfl⟩)
/-- a table that has for each time the least cost of what has come -/
structure LeastOf (prs d : List Pr) : Prop where
  nd : (d.map (·.1)).Nodup
  sub : ∀ e ∈ d, e ∈ prs
  cov : ∀ x ∈ prs, ∃ e ∈ d, e.1 = x.1 ∧ e.2 ≤ x.2
theorem LeastOf.front {prs d qs : List Pr} (h : LeastOf prs d) (f : IsFront d qs) : IsFront prs qs :=
  f.of h.sub fun x hx => by
    obtain ⟨e, he, e1, e2⟩ := h.cov x hx
    exact ⟨e, he, Nat.le_of_eq e1, e2⟩
def look (d : List Pr) (t : Nat) : Option Nat := (d.find? fun y => decide (y.1 = t)).map (·.2)
def ins (d : List Pr) (x : Pr) : List Pr := match look d x.1 with
  | none => d ++ [x]
  | some c => d.map fun y => if y.1 = x.1 then (x.1, min x.2 c) else y
theorem look_none {d : List Pr} {t : Nat} (h : look d t = none) : ∀ y ∈ d, y.1 ≠ t := fun y hy e => by
  unfold look at h
  rw [Option.map_eq_none_iff] at h
  exact List.find?_eq_none.mp h y hy (decide_eq_true e)
theorem look_some {d : List Pr} {t c : Nat} (h : look d t = some c) : (t, c) ∈ d := by
  unfold look at h
  obtain ⟨y, hy, e⟩ := Option.map_eq_some_iff.mp h
  have h1 := List.mem_of_find?_eq_some hy
  have h3 := List.find?_some hy
  have h2 : y.1 = t := of_decide_eq_true h3
  rw [← h2, ← e]
  exact h1
theorem key_one : ∀ {d : List Pr}, (d.map (·.1)).Nodup → ∀ {x y : Pr}, x ∈ d → y ∈ d → x.1 = y.1 → x = y
  | [], _, _, _, h, _, _ => nomatch h
  | z :: r, n, x, y, hx, hy, e => by
    obtain ⟨n1, n2⟩ := List.nodup_cons.mp (show (z.1 :: r.map (·.1)).Nodup from n)
    rcases List.mem_cons.mp hx with e1 | hx'
    · rcases List.mem_cons.mp hy with e2 | hy'
      · rw [e1, e2]
      · rw [e1] at e
        exact absurd (List.mem_map.mpr ⟨y, hy', e.symm⟩) n1
    · rcases List.mem_cons.mp hy with e2 | hy'
      · rw [e2] at e
        exact absurd (List.mem_map.mpr ⟨x, hx', e⟩) n1
      · exact key_one n2 hx' hy' e
theorem ins_keys {d : List Pr} {x : Pr} {c : Nat} : (d.map fun y => if y.1 = x.1 then (x.1, min x.2 c) else y).map (·.1) = d.map (·.1) := by
  rw [List.map_map]
  refine List.map_congr_left fun y _ => ?_
  show (if y.1 = x.1 then (x.1, min x.2 c) else y).1 = y.1
  by_cases h : y.1 = x.1
  · rw [if_pos h, h]
  · rw [if_neg h]
theorem LeastOf.nil : LeastOf [] [] := ⟨List.nodup_nil, fun _ h => h, fun _ h => nomatch h⟩
theorem LeastOf.step {prs d : List Pr} {x : Pr} (h : LeastOf prs d) : LeastOf (prs ++ [x]) (ins d x) := by
  unfold ins
  cases e : look d x.1 with
  | none =>
    have no := look_none e
    refine ⟨?_, fun y hy => ?_, fun y hy => ?_⟩
    · show ((d ++ [x]).map (·.1)).Nodup
      rw [List.map_append]
      refine List.nodup_append.mpr ⟨h.nd, by simp, fun a ha b hb eq => ?_⟩
      obtain ⟨y, hy, e1⟩ := List.mem_map.mp ha
      obtain rfl : b = x.1 := by simpa using hb
      exact no y hy (e1.trans eq)
    · rcases List.mem_append.mp hy with hy | hy
      · exact List.mem_append_left _ (h.sub y hy)
      · exact List.mem_append_right _ hy
    · rcases List.mem_append.mp hy with hy | hy
      · obtain ⟨e, he, e1, e2⟩ := h.cov y hy
        exact ⟨e, List.mem_append_left _ he, e1, e2⟩
      · obtain rfl : y = x := by simpa using hy
        exact ⟨y, by simp, rfl, Nat.le_refl _⟩
  | some c =>
    have hc := look_some e
    have hin : (x.1, min x.2 c) ∈ d.map fun y => if y.1 = x.1 then (x.1, min x.2 c) else y := List.mem_map.mpr ⟨_, hc, if_pos rfl⟩
    refine ⟨?_, fun y hy => ?_, fun y hy => ?_⟩
    · show ((d.map fun y => if y.1 = x.1 then (x.1, min x.2 c) else y).map (·.1)).Nodup
      rw [ins_keys]
      exact h.nd
    · obtain ⟨z, hz, ez⟩ := List.mem_map.mp hy
      by_cases k : z.1 = x.1
      · rw [if_pos k] at ez
        rcases Nat.le_total x.2 c with q | q
        · rw [Nat.min_eq_left q] at ez
          exact List.mem_append_right _ (by rw [← ez]; exact List.mem_singleton.mpr rfl)
        · rw [Nat.min_eq_right q] at ez
          exact List.mem_append_left _ (by rw [← ez]; exact h.sub _ hc)
      · rw [if_neg k] at ez
        exact List.mem_append_left _ (by rw [← ez]; exact h.sub z hz)
    · rcases List.mem_append.mp hy with hy | hy
      · obtain ⟨e, he, e1, e2⟩ := h.cov y hy
        by_cases k : e.1 = x.1
        · refine ⟨_, hin, (k.symm.trans e1), ?_⟩
          have := key_one h.nd he hc k
          rw [this] at e2
          show min x.2 c ≤ y.2
          have : c ≤ y.2 := e2
          omega
        · exact ⟨e, List.mem_map.mpr ⟨e, he, if_neg k⟩, e1, e2⟩
      · obtain rfl : y = x := by simpa using hy
        exact ⟨_, hin, rfl, Nat.min_le_left _ _⟩
theorem nodup_few : ∀ (n : Nat) (l : List Nat), l.Nodup → (∀ x ∈ l, x < n) → l.length ≤ n
  | 0, l, _, h => by
    cases l with
    | nil => exact Nat.le_refl _
    | cons x r => exact absurd (h x (List.mem_cons_self ..)) (Nat.not_lt_zero _)
  | n + 1, l, hn, h => by
    have := nodup_few n (l.erase n) (hn.erase n) fun x hx => by
      have h1 := h x (List.mem_of_mem_erase hx)
      have h2 : x ≠ n := fun e => by
        rw [e] at hx
        exact (List.Nodup.not_mem_erase hn) hx
      omega
    rw [List.length_erase] at this
    split at this <;> omega
theorem LeastOf.few {prs d : List Pr} {m : Nat} (h : LeastOf prs d) (hm : ∀ x ∈ prs, x.1 ≤ m) : d.length ≤ m + 1 := by
  have := nodup_few (m + 1) (d.map (·.1)) h.nd fun x hx => by
    obtain ⟨y, hy, e⟩ := List.mem_map.mp hx
    have := hm y (h.sub y hy)
    omega
  rw [List.length_map] at this
  exact this
/-- the pairs of pairs that give a pair together, in their order -/
def fits (k : Nat) (ps qs : List Pr) (x : Pr) : List (Pr × Pr) := ps.flatMap fun a => (qs.filter fun b => decide (jn k a b = x)).map fun b => (a, b)
theorem fits_one {k : Nat} {qs : List Pr} (h : Inc qs) (a x : Pr) : (qs.filter fun b => decide (jn k a b = x)).length ≤ 1 := by
  have hp : (qs.filter fun b => decide (jn k a b = x)).Pairwise fun a b => a.1 < b.1 ∧ b.2 < a.2 := h.sublist List.filter_sublist
  have hm : ∀ b ∈ (qs.filter fun b => decide (jn k a b = x)), a.2 + b.2 = x.2 := fun b hb => by
    have e := of_decide_eq_true (List.mem_filter.mp hb).2
    rw [← e]
    rfl
  cases e : (qs.filter fun b => decide (jn k a b = x)) with
  | nil => simp
  | cons y r =>
    cases r with
    | nil => simp
    | cons z r =>
      rw [e] at hp hm
      have h1 := ((List.pairwise_cons.mp hp).1 z (by simp)).2
      have h2 := hm y (by simp)
      have h3 := hm z (by simp)
      omega
theorem fits_len {k : Nat} {qs : List Pr} (h : Inc qs) (x : Pr) : ∀ ps : List Pr, (fits k ps qs x).length ≤ ps.length
  | [] => Nat.le_refl _
  | a :: r => by
    have h1 := fits_one (k := k) h a x
    have h2 := fits_len (k := k) h x r
    unfold fits at h2 ⊢
    rw [List.flatMap_cons, List.length_append, List.length_map, List.length_cons]
    omega

/-! ### points -/
def proj (x : Point) : Pr := (x.t, x.c)
def same (x : Pr) : Point → Bool := fun y => decide (proj y = x)
structure Hold (l m : List Point) : Prop where
  sub : ∀ y ∈ m, y ∈ l
  anti : ∀ y ∈ m, ∀ z ∈ m, Dom (proj y) (proj z) → y = z
  cov : ∀ x ∈ l, ∃ y ∈ m, Dom (proj y) (proj x)
  fst : ∀ y ∈ m, l.find? (same (proj y)) = some y
def bstep (m : List Point) (x : Point) : List Point := if (m.any fun y => decide (y.t ≤ x.t) && decide (y.c ≤ x.c)) = true then m else (m.filter fun y => !(decide (x.t ≤ y.t) && decide (x.c ≤ y.c))) ++ [x]
def sstep (m : List Point) (x : Point) : List Point := (m.filter fun y => decide (y.t < x.t)) ++ (x :: m.filter fun y => decide (x.t < y.t))
theorem best_eq (l : List Point) : best l = (l.foldl bstep []).foldl sstep [] := rfl
theorem find_same {l : List Point} {x y : Point} (h : l.find? (same (proj y)) = some x) : proj x = proj y := of_decide_eq_true (show same (proj y) x = true from List.find?_some h)
theorem Hold.step {l m : List Point} {x : Point} (h : Hold l m) : Hold (l ++ [x]) (bstep m x) := by
  unfold bstep
  by_cases c : (m.any fun y => decide (y.t ≤ x.t) && decide (y.c ≤ x.c)) = true
  · rw [if_pos c]
    obtain ⟨y, hy, d⟩ := List.any_eq_true.mp c
    have d' : Dom (proj y) (proj x) := by
      rw [Bool.and_eq_true, decide_eq_true_iff, decide_eq_true_iff] at d
      exact d
    refine ⟨fun z hz => List.mem_append_left _ (h.sub z hz), h.anti, fun z hz => ?_, fun z hz => ?_⟩
    · rcases List.mem_append.mp hz with hz | hz
      · exact h.cov z hz
      · obtain rfl : z = x := by simpa using hz
        exact ⟨y, hy, d'⟩
    · rw [List.find?_append, h.fst z hz]; rfl
  · rw [if_neg c]
    have no : ∀ y ∈ m, ¬ Dom (proj y) (proj x) := fun y hy d => c (List.any_eq_true.mpr ⟨y, hy, by rw [Bool.and_eq_true, decide_eq_true_iff, decide_eq_true_iff]; exact d⟩)
    have mf : ∀ {y}, y ∈ (m.filter fun y => !(decide (x.t ≤ y.t) && decide (x.c ≤ y.c))) ↔ y ∈ m ∧ ¬ Dom (proj x) (proj y) := fun {y} => by
      rw [List.mem_filter]
      refine and_congr_right fun _ => ?_
      rw [Bool.not_eq_true', ← Bool.not_eq_true, Bool.and_eq_true, decide_eq_true_iff, decide_eq_true_iff]
      rfl
    refine ⟨fun z hz => ?_, fun y hy z hz d => ?_, fun z hz => ?_, fun z hz => ?_⟩
    · rcases List.mem_append.mp hz with hz | hz
      · exact List.mem_append_left _ (h.sub z (mf.mp hz).1)
      · exact List.mem_append_right _ hz
    · rcases List.mem_append.mp hy with hy | hy
      · rcases List.mem_append.mp hz with hz | hz
        · exact h.anti y (mf.mp hy).1 z (mf.mp hz).1 d
        · obtain rfl : z = x := by simpa using hz
          exact absurd d (no y (mf.mp hy).1)
      · obtain rfl : y = x := by simpa using hy
        rcases List.mem_append.mp hz with hz | hz
        · exact absurd d (mf.mp hz).2
        · exact (by simpa using hz : z = y).symm
    · rcases List.mem_append.mp hz with hz | hz
      · obtain ⟨y, hy, d⟩ := h.cov z hz
        by_cases k : Dom (proj x) (proj y)
        · exact ⟨x, by simp, k.trans d⟩
        · exact ⟨y, List.mem_append_left _ (mf.mpr ⟨hy, k⟩), d⟩
      · obtain rfl : z = x := by simpa using hz
        exact ⟨z, by simp, .refl _⟩
    · rcases List.mem_append.mp hz with hz | hz
      · rw [List.find?_append, h.fst z (mf.mp hz).1]; rfl
      · obtain rfl : z = x := by simpa using hz
        have e : l.find? (same (proj z)) = none := by
          cases e : l.find? (same (proj z)) with
          | none => rfl
          | some u =>
            obtain ⟨y, hy, d⟩ := h.cov u (List.mem_of_find?_eq_some e)
            rw [find_same e] at d
            exact absurd d (no y hy)
        rw [List.find?_append, e]
        have e2 : same (proj z) z = true := decide_eq_true rfl
        show [z].find? (same (proj z)) = some z
        rw [List.find?_cons, e2]
theorem hold_fold : ∀ (r l m : List Point), Hold l m → Hold (l ++ r) (r.foldl bstep m)
  | [], l, m, h => by rw [List.append_nil]; exact h
  | x :: r, l, m, h => by
    have := hold_fold r (l ++ [x]) (bstep m x) h.step
    rw [List.append_assoc] at this
    exact this
theorem hold_best (l : List Point) : Hold l (l.foldl bstep []) := by
  have := hold_fold l [] [] ⟨fun _ h => h, (fun _ h => nomatch h), (fun _ h => nomatch h), (fun _ h => nomatch h)⟩
  exact this
/-- sorting points whose times differ -/
theorem sort_fold : ∀ (r m : List Point), m.Pairwise (fun a b => a.t < b.t) → (∀ y ∈ r, ∀ z ∈ m, y.t ≠ z.t) → r.Pairwise (fun a b => a.t ≠ b.t) →
    (r.foldl sstep m).Pairwise (fun a b => a.t < b.t) ∧ ∀ x, x ∈ r.foldl sstep m ↔ x ∈ m ∨ x ∈ r
  | [], m, h, _, _ => ⟨h, fun x => by simp⟩
  | x :: r, m, h, d, p => by
    obtain ⟨p1, p2⟩ := List.pairwise_cons.mp p
    have memS : ∀ z, z ∈ sstep m x ↔ z = x ∨ z ∈ m := fun z => by
      unfold sstep
      rw [List.mem_append, List.mem_cons, List.mem_filter, List.mem_filter, decide_eq_true_iff, decide_eq_true_iff]
      constructor
      · rintro (⟨q, _⟩ | rfl | ⟨q, _⟩)
        · exact .inr q
        · exact .inl rfl
        · exact .inr q
      · rintro (rfl | q)
        · exact .inr (.inl rfl)
        · have := d x (List.mem_cons_self ..) z q
          rcases Nat.lt_or_gt_of_ne this with k | k
          · exact .inr (.inr ⟨q, k⟩)
          · exact .inl ⟨q, k⟩
    have srt : (sstep m x).Pairwise (fun a b => a.t < b.t) := by
      unfold sstep
      refine List.pairwise_append.mpr ⟨h.sublist List.filter_sublist, List.pairwise_cons.mpr ⟨fun b hb => of_decide_eq_true (List.mem_filter.mp hb).2, h.sublist List.filter_sublist⟩, fun a ha b hb => ?_⟩
      have ha' := of_decide_eq_true (List.mem_filter.mp ha).2
      rcases List.mem_cons.mp hb with rfl | hb
      · exact ha'
      · have hb' := of_decide_eq_true (List.mem_filter.mp hb).2
        omega
    obtain ⟨g1, g2⟩ := sort_fold r (sstep m x) srt (fun y hy z hz => by
      rcases (memS z).mp hz with rfl | hz
      · exact fun e => p1 y hy e.symm
      · exact d y (List.mem_cons_of_mem _ hy) z hz) p2
    refine ⟨g1, fun z => ?_⟩
    rw [List.foldl_cons, g2, memS, List.mem_cons]
    constructor
    · rintro ((q | q) | q)
      · exact .inr (.inl q)
      · exact .inl q
      · exact .inr (.inr q)
    · rintro (q | q | q)
      · exact .inl (.inr q)
      · exact .inl (.inl q)
      · exact .inr q
theorem pair_anti : ∀ (m : List Point), (∀ y ∈ m, ∀ z ∈ m, Dom (proj y) (proj z) → y = z) → m.Nodup → m.Pairwise (fun a b => a.t ≠ b.t)
  | [], _, _ => .nil
  | x :: r, h, n => by
    obtain ⟨n1, n2⟩ := List.nodup_cons.mp n
    refine List.pairwise_cons.mpr ⟨fun y hy e => ?_, pair_anti r (fun y hy z hz => h y (List.mem_cons_of_mem _ hy) z (List.mem_cons_of_mem _ hz)) n2⟩
    rcases Nat.le_total x.c y.c with c | c
    · have := h x (List.mem_cons_self ..) y (List.mem_cons_of_mem _ hy) ⟨Nat.le_of_eq e, c⟩
      rw [this] at n1
      exact n1 hy
    · have := h y (List.mem_cons_of_mem _ hy) x (List.mem_cons_self ..) ⟨Nat.le_of_eq e.symm, c⟩
      rw [← this] at n1
      exact n1 hy
theorem bstep_nodup {m : List Point} {x : Point} (h : m.Nodup) : (bstep m x).Nodup := by
  unfold bstep
  by_cases c : (m.any fun y => decide (y.t ≤ x.t) && decide (y.c ≤ x.c)) = true
  · rw [if_pos c]; exact h
  · rw [if_neg c]
    refine List.nodup_append.mpr ⟨h.sublist List.filter_sublist, by simp, fun a ha b hb e => ?_⟩
    obtain rfl : b = x := by simpa using hb
    subst e
    exact c (List.any_eq_true.mpr ⟨a, (List.mem_filter.mp ha).1, by simp⟩)
theorem bfold_nodup : ∀ (l m : List Point), m.Nodup → (l.foldl bstep m).Nodup
  | [], _, h => h
  | _ :: r, _, h => bfold_nodup r _ (bstep_nodup h)
theorem best_mem (l : List Point) (x : Point) : x ∈ best l ↔ x ∈ l.foldl bstep [] := by
  have hb := hold_best l
  have := (sort_fold (l.foldl bstep []) [] List.Pairwise.nil (fun _ _ _ h => nomatch h) (pair_anti _ hb.anti (bfold_nodup l [] List.nodup_nil))).2 x
  rw [best_eq, this]
  simp
theorem best_sorted (l : List Point) : (best l).Pairwise (fun a b => a.t < b.t) := by
  have hb := hold_best l
  exact (sort_fold (l.foldl bstep []) [] List.Pairwise.nil (fun _ _ _ h => nomatch h) (pair_anti _ hb.anti (bfold_nodup l [] List.nodup_nil))).1
theorem best_sub {l : List Point} {x : Point} (h : x ∈ best l) : x ∈ l := (hold_best l).sub x ((best_mem l x).mp h)
/-- a point of the best is the first of its pair -/
theorem best_first {l : List Point} {x : Point} (h : x ∈ best l) : l.find? (same (proj x)) = some x := (hold_best l).fst x ((best_mem l x).mp h)
theorem best_front (l : List Point) : IsFront (l.map proj) ((best l).map proj) := by
  have hb := hold_best l
  refine ⟨List.pairwise_map.mpr ((best_sorted l).imp_of_mem fun {a b} ha hb' hab => ⟨hab, ?_⟩), fun q hq => ?_, fun x hx => ?_⟩
  · rcases Nat.lt_or_ge b.c a.c with c | c
    · exact c
    · have e := hb.anti a ((best_mem l a).mp ha) b ((best_mem l b).mp hb') ⟨Nat.le_of_lt hab, c⟩
      rw [e] at hab
      omega
  · obtain ⟨y, hy, e⟩ := List.mem_map.mp hq
    exact List.mem_map.mpr ⟨y, best_sub hy, e⟩
  · obtain ⟨y, hy, e⟩ := List.mem_map.mp hx
    obtain ⟨z, hz, d⟩ := hb.cov y hy
    exact ⟨proj z, List.mem_map.mpr ⟨z, (best_mem l z).mpr hz, rfl⟩, e ▸ d⟩
/-- two points of a front with one pair are one -/
theorem inc_inj : ∀ {f : List Point}, Inc (f.map proj) → ∀ {x y : Point}, x ∈ f → y ∈ f → proj x = proj y → x = y
  | [], _, _, _, h, _, _ => nomatch h
  | z :: r, hi, x, y, hx, hy, e => by
    have h1 := inc_head (x := proj z) (r := r.map proj) hi
    rcases List.mem_cons.mp hx with e1 | hx'
    · rcases List.mem_cons.mp hy with e2 | hy'
      · rw [e1, e2]
      · have := h1 (proj y) (List.mem_map.mpr ⟨y, hy', rfl⟩)
        rw [← e1, e] at this
        omega
    · rcases List.mem_cons.mp hy with e2 | hy'
      · have := h1 (proj x) (List.mem_map.mpr ⟨x, hx', rfl⟩)
        rw [← e2, e] at this
        omega
      · exact inc_inj (List.pairwise_cons.mp hi).2 hx' hy' e

/-! ### sequences and sides -/
def mkS (x y : Point) : Point := ⟨x.t + y.t, x.c + y.c, .seq x.r y.r⟩
def mkB (x y : Point) : Point := ⟨max x.t y.t, x.c + y.c, .both x.r y.r⟩
def prodP (mk : Point → Point → Point) (f g : List Point) : List Point := f.flatMap fun x => g.map fun y => mk x y
theorem seqs_eq (f g : List Point) : seqs f g = best (prodP mkS f g) := rfl
theorem sides_eq (f g : List Point) : sides f g = best (prodP mkB f g) := rfl
theorem proj_prod {k : Nat} {mk : Point → Point → Point} (h : ∀ x y, proj (mk x y) = jn k (proj x) (proj y)) (g : List Point) : ∀ f : List Point, (prodP mk f g).map proj = prods k (f.map proj) (g.map proj)
  | [] => rfl
  | x :: r => by
    have ih := proj_prod h g r
    unfold prodP prods at ih ⊢
    rw [List.flatMap_cons, List.map_append, ih, List.map_cons, List.flatMap_cons, List.map_map, List.map_map]
    congr 1
    exact List.map_congr_left fun y _ => h x y
theorem proj_mkS (x y : Point) : proj (mkS x y) = jn 2 (proj x) (proj y) := rfl
theorem proj_mkB (x y : Point) : proj (mkB x y) = jn 4 (proj x) (proj y) := rfl
theorem seqs_front (f g : List Point) : IsFront (prods 2 (f.map proj) (g.map proj)) ((seqs f g).map proj) := by
  rw [seqs_eq, ← proj_prod proj_mkS]
  exact best_front _
theorem sides_front (f g : List Point) : IsFront (prods 4 (f.map proj) (g.map proj)) ((sides f g).map proj) := by
  rw [sides_eq, ← proj_prod proj_mkB]
  exact best_front _
theorem find_prod {k : Nat} {mk : Point → Point → Point} (h : ∀ x y, proj (mk x y) = jn k (proj x) (proj y)) (pr : Pr) (g : List Point) : ∀ (f : List Point) (x : Point), (prodP mk f g).find? (same pr) = some x →
    ∃ a ∈ f, ∃ b ∈ g, x = mk a b ∧ (fits k (f.map proj) (g.map proj) pr).head? = some (proj a, proj b)
  | [], x, e => by simp [prodP] at e
  | a :: r, x, e => by
    unfold prodP at e
    rw [List.flatMap_cons, List.find?_append, List.find?_map] at e
    have ef : fits k ((a :: r).map proj) (g.map proj) pr = ((g.map proj).filter fun b => decide (jn k (proj a) b = pr)).map (fun b => (proj a, b)) ++ fits k (r.map proj) (g.map proj) pr := rfl
    have eh : (((g.map proj).filter fun b => decide (jn k (proj a) b = pr)).map (fun b => (proj a, b))).head? = (g.find? (same pr ∘ mk a)).map fun b => (proj a, proj b) := by
      rw [List.head?_map, List.head?_filter, List.find?_map, Option.map_map]
      have : (fun b => decide (jn k (proj a) b = pr)) ∘ proj = same pr ∘ mk a := by
        funext y
        show decide (jn k (proj a) (proj y) = pr) = decide (proj (mk a y) = pr)
        rw [h]
      rw [this]
      rfl
    rw [ef, List.head?_append, eh]
    cases q : g.find? (same pr ∘ mk a) with
    | some b =>
      rw [q] at e
      simp only [Option.map_some, Option.some_or, Option.some.injEq] at e
      exact ⟨a, List.mem_cons_self .., b, List.mem_of_find?_eq_some q, e.symm, rfl⟩
    | none =>
      rw [q] at e
      simp only [Option.map_none, Option.none_or] at e
      obtain ⟨a', ha, b, hb, e1, e2⟩ := find_prod h pr g r x e
      exact ⟨a', List.mem_cons_of_mem _ ha, b, hb, e1, by rw [e2]; rfl⟩
theorem sel_seq {f g : List Point} {x : Point} (h : x ∈ seqs f g) : ∃ a ∈ f, ∃ b ∈ g, x = mkS a b ∧ (fits 2 (f.map proj) (g.map proj) (proj x)).head? = some (proj a, proj b) :=
  find_prod proj_mkS (proj x) g f x (best_first h)
theorem sel_both {f g : List Point} {x : Point} (h : x ∈ sides f g) : ∃ a ∈ f, ∃ b ∈ g, x = mkB a b ∧ (fits 4 (f.map proj) (g.map proj) (proj x)).head? = some (proj a, proj b) :=
  find_prod proj_mkB (proj x) g f x (best_first h)
/-- of two lists in a row: from the first one if its pair is there, else from the second one -/
theorem sel_app {f g : List Point} {x : Point} (h : x ∈ best (f ++ g)) : (proj x ∈ f.map proj → x ∈ f) ∧ (proj x ∉ f.map proj → x ∈ g) := by
  have e := best_first h
  rw [List.find?_append] at e
  refine ⟨fun m => ?_, fun m => ?_⟩
  · obtain ⟨y, hy, ey⟩ := List.mem_map.mp m
    cases q : f.find? (same (proj x)) with
    | some z =>
      rw [q] at e
      simp only [Option.some_or, Option.some.injEq] at e
      rw [← e]
      exact List.mem_of_find?_eq_some q
    | none =>
      have := List.find?_eq_none.mp q y hy
      exact absurd (decide_eq_true ey) this
  · rcases List.mem_append.mp (best_sub h) with q | q
    · exact absurd (List.mem_map.mpr ⟨x, q, rfl⟩) m
    · exact q
end Fr
/-! The book's fronts, bounds, runs, the worst case, the judge. -/
namespace Fr
open Wf (P)
open Wf06 (Point Book best seqs sides loops)

/-- times and costs of six steps, at most 100; one to three rounds -/
structure BookOk (b : Book) : Prop where
  lt : b.times.length = 6
  lc : b.costs.length = 6
  mt : ∀ x ∈ b.times, x ≤ 100
  mc : ∀ x ∈ b.costs, x ≤ 100
  r1 : 1 ≤ b.rounds
  r3 : b.rounds ≤ 3
def pairsOf (b : Book) : List Pr := b.times.zip b.costs
def fr (b : Book) (p : P) : List Pr := (b.front p).map proj
theorem pairs_get {b : Book} (ok : BookOk b) {a : Nat} (h : a < 6) : (pairsOf b)[a]? = some (b.time (.act a), b.cost (.act a)) := by
  unfold pairsOf
  have h1 : a < b.times.length := by rw [ok.lt]; exact h
  have h2 : a < b.costs.length := by rw [ok.lc]; exact h
  rw [List.getElem?_zip_eq_some (z := (b.times[a], b.costs[a])) |>.mpr ⟨List.getElem?_eq_getElem h1, List.getElem?_eq_getElem h2⟩]
  show _ = some (b.times.getD a 0, b.costs.getD a 0)
  rw [List.getD_eq_getElem?_getD, List.getD_eq_getElem?_getD, List.getElem?_eq_getElem h1, List.getElem?_eq_getElem h2]
  rfl
theorem pairs_len {b : Book} (ok : BookOk b) : (pairsOf b).length = 6 := by
  unfold pairsOf
  rw [List.length_zip, ok.lt, ok.lc]; rfl
theorem pairs_set {b : Book} {a t c : Nat} : pairsOf { b with times := b.times.set a t, costs := b.costs.set a c } = (pairsOf b).set a (t, c) := by
  unfold pairsOf
  show (b.times.set a t).zip (b.costs.set a c) = _
  refine List.ext_getElem? fun i => ?_
  have hz : ∀ (l m : List Nat) (i : Nat), (l.zip m)[i]? = match l[i]?, m[i]? with
    | some x, some y => some (x, y)
    | _, _ => none := by
    intro l m i
    cases h1 : l[i]? with
    | none =>
      rw [List.getElem?_eq_none]
      rw [List.length_zip]
      have := List.getElem?_eq_none_iff.mp h1
      omega
    | some x =>
      cases h2 : m[i]? with
      | none =>
        rw [List.getElem?_eq_none]
        rw [List.length_zip]
        have := List.getElem?_eq_none_iff.mp h2
        omega
      | some y => rw [List.getElem?_zip_eq_some (z := (x, y)) |>.mpr ⟨h1, h2⟩]
  rw [hz]
  by_cases e : a = i
  · subst e
    rw [List.getElem?_set, List.getElem?_set, List.getElem?_set, if_pos rfl, if_pos rfl, if_pos rfl, List.length_zip]
    by_cases k1 : a < b.times.length
    · by_cases k2 : a < b.costs.length
      · rw [if_pos k1, if_pos k2, if_pos (by omega)]
      · rw [if_pos k1, if_neg k2, if_neg (by omega)]
    · by_cases k2 : a < b.costs.length
      · rw [if_neg k1, if_pos k2, if_neg (by omega)]
      · rw [if_neg k1, if_neg k2, if_neg (by omega)]
  · rw [List.getElem?_set_ne e, List.getElem?_set_ne e, List.getElem?_set_ne e, hz]
theorem mem_set {l : List Nat} {i v x : Nat} (h : x ∈ l.set i v) : x ∈ l ∨ x = v := List.mem_or_eq_of_mem_set h
theorem BookOk.put {b : Book} (ok : BookOk b) {a t c : Nat} (ht : t ≤ 100) (hc : c ≤ 100) : BookOk { b with times := b.times.set a t, costs := b.costs.set a c } := by
  refine ⟨?_, ?_, fun x hx => ?_, fun x hx => ?_, ok.r1, ok.r3⟩
  · show (b.times.set a t).length = 6; rw [List.length_set]; exact ok.lt
  · show (b.costs.set a c).length = 6; rw [List.length_set]; exact ok.lc
  · rcases mem_set hx with h | h
    · exact ok.mt x h
    · rw [h]; exact ht
  · rcases mem_set hx with h | h
    · exact ok.mc x h
    · rw [h]; exact hc
theorem BookOk.rounds {b : Book} (ok : BookOk b) {n : Nat} (h1 : 1 ≤ n) (h3 : n ≤ 3) : BookOk { b with rounds := n } := ⟨ok.lt, ok.lc, ok.mt, ok.mc, h1, h3⟩
theorem getD_le {l : List Nat} {m : Nat} (h : ∀ x ∈ l, x ≤ m) (i : Nat) : l.getD i 0 ≤ m := by
  rw [List.getD_eq_getElem?_getD]
  cases e : l[i]? with
  | none => exact Nat.zero_le _
  | some x => exact h x (List.mem_of_getElem? e)

/-! ### each front is one -/
theorem loops_zero (f g : List Point) : loops f g 0 = f := rfl
theorem loops_succ (f g : List Point) (n : Nat) : loops f g (n + 1) = best (f ++ seqs f (seqs g (loops f g n))) := rfl
theorem best_inc (l : List Point) : Inc ((best l).map proj) := (best_front l).inc
theorem loops_inc {f g : List Point} (h : Inc (f.map proj)) : ∀ n, Inc ((loops f g n).map proj)
  | 0 => h
  | n + 1 => by rw [loops_succ]; exact best_inc _
theorem front_inc (b : Book) : ∀ p, Inc (fr b p)
  | .act a => List.pairwise_singleton _ _
  | .skip => List.pairwise_singleton _ _
  | .seq p q => best_inc _
  | .alt p q => best_inc _
  | .both p q => best_inc _
  | .loop p q => loops_inc (front_inc b p) _
theorem best_ne {l : List Point} (h : l ≠ []) : best l ≠ [] := by
  have := (best_front l).ne (by intro e; exact h (List.map_eq_nil_iff.mp e))
  intro e
  rw [e] at this
  exact this rfl
theorem prodP_ne {mk : Point → Point → Point} {f g : List Point} (h1 : f ≠ []) (h2 : g ≠ []) : prodP mk f g ≠ [] := by
  obtain ⟨a, ha⟩ := List.exists_mem_of_ne_nil f h1
  obtain ⟨b, hb⟩ := List.exists_mem_of_ne_nil g h2
  exact List.ne_nil_of_mem (List.mem_flatMap.mpr ⟨a, ha, List.mem_map.mpr ⟨b, hb, rfl⟩⟩)
theorem app_ne {f g : List Point} (h : f ≠ []) : f ++ g ≠ [] := by
  intro e
  exact h (List.append_eq_nil_iff.mp e).1
theorem loops_ne {f g : List Point} (h : f ≠ []) : ∀ n, loops f g n ≠ []
  | 0 => h
  | n + 1 => by rw [loops_succ]; exact best_ne (app_ne h)
theorem front_ne (b : Book) : ∀ p, b.front p ≠ []
  | .act a => List.cons_ne_nil _ _
  | .skip => List.cons_ne_nil _ _
  | .seq p q => best_ne (prodP_ne (front_ne b p) (front_ne b q))
  | .alt p q => best_ne (app_ne (front_ne b p))
  | .both p q => best_ne (prodP_ne (front_ne b p) (front_ne b q))
  | .loop p q => loops_ne (front_ne b p) _

/-! ### no time is later than the latest -/
def Tb (f : List Point) (m : Nat) : Prop := ∀ x ∈ f, x.t ≤ m
theorem seqs_tb {f g : List Point} {m n : Nat} (h1 : Tb f m) (h2 : Tb g n) : Tb (seqs f g) (m + n) := fun x hx => by
  obtain ⟨a, ha, q⟩ := List.mem_flatMap.mp (best_sub hx)
  obtain ⟨b, hb, e⟩ := List.mem_map.mp q
  have := h1 a ha
  have := h2 b hb
  rw [← e]
  show a.t + b.t ≤ _
  omega
theorem loops_tb {f g : List Point} {m n : Nat} (h1 : Tb f m) (h2 : Tb g n) : ∀ k, Tb (loops f g k) (m + k * (n + m))
  | 0 => fun x hx => Nat.le_trans (h1 x hx) (Nat.le_add_right _ _)
  | k + 1 => fun x hx => by
    rw [loops_succ] at hx
    have e : m + (k + 1) * (n + m) = m + (n + (m + k * (n + m))) := by rw [Nat.succ_mul]; omega
    rcases List.mem_append.mp (best_sub hx) with q | q
    · exact Nat.le_trans (h1 x q) (Nat.le_add_right _ _)
    · rw [e]
      exact seqs_tb h1 (seqs_tb h2 (loops_tb h1 h2 k)) x q
theorem front_tb (b : Book) : ∀ p, Tb (b.front p) (b.latest p)
  | .act a => fun x hx => by
    obtain rfl := List.mem_singleton.mp hx
    exact Nat.le_refl _
  | .skip => fun x hx => by
    obtain rfl := List.mem_singleton.mp hx
    exact Nat.le_refl _
  | .seq p q => seqs_tb (front_tb b p) (front_tb b q)
  | .alt p q => fun x hx => by
    show _ ≤ max (b.latest p) (b.latest q)
    rcases List.mem_append.mp (best_sub hx) with h | h
    · exact Nat.le_trans (front_tb b p x h) (Nat.le_max_left _ _)
    · exact Nat.le_trans (front_tb b q x h) (Nat.le_max_right _ _)
  | .both p q => fun x hx => by
    obtain ⟨u, hu, k⟩ := List.mem_flatMap.mp (best_sub hx)
    obtain ⟨v, hv, e⟩ := List.mem_map.mp k
    have := front_tb b p u hu
    have := front_tb b q v hv
    rw [← e]
    show max u.t v.t ≤ max (b.latest p) (b.latest q)
    omega
  | .loop p q => loops_tb (front_tb b p) (front_tb b q) _
/-- by the size -/
def big (n : Nat) : Nat := 3 ^ (n - 1)
theorem big_two {a b : Nat} (ha : 1 ≤ a) (hb : 1 ≤ b) : 3 * big a + 2 * big b ≤ big (a + b + 1) := by
  unfold big
  obtain ⟨a, rfl⟩ : ∃ k, a = k + 1 := ⟨a - 1, by omega⟩
  obtain ⟨b, rfl⟩ : ∃ k, b = k + 1 := ⟨b - 1, by omega⟩
  rw [show a + 1 + (b + 1) + 1 - 1 = (a + b + 1) + 1 by omega, Nat.add_sub_cancel, Nat.add_sub_cancel, Nat.pow_succ, show a + b + 1 = (a + 1) + b by omega, Nat.pow_add, Nat.pow_succ]
  have h1 : 1 ≤ 3 ^ a := Nat.one_le_pow _ _ (by decide)
  have h2 : 1 ≤ 3 ^ b := Nat.one_le_pow _ _ (by decide)
  generalize 3 ^ a = x at h1
  generalize 3 ^ b = y at h2
  obtain ⟨x, rfl⟩ : ∃ k, x = k + 1 := ⟨x - 1, by omega⟩
  obtain ⟨y, rfl⟩ : ∃ k, y = k + 1 := ⟨y - 1, by omega⟩
  have : (x + 1) * 3 * (y + 1) * 3 = 9 * (x * y) + 9 * x + 9 * y + 9 := by
    rw [Nat.mul_assoc (x + 1) 3, Nat.mul_comm 3 (y + 1), ← Nat.mul_assoc, Nat.mul_assoc]
    rw [Nat.add_mul, Nat.mul_add]
    omega
  omega
theorem latest_le {b : Book} (ok : BookOk b) : ∀ p, b.latest p ≤ 100 * big p.size
  | .act a => by
    show b.times.getD a 0 ≤ _
    have := getD_le ok.mt a
    exact this
  | .skip => Nat.zero_le _
  | .seq p q => by
    have h1 := latest_le ok p
    have h2 := latest_le ok q
    have h3 := big_two (size_pos p) (size_pos q)
    show b.latest p + b.latest q ≤ 100 * big (p.size + q.size + 1)
    omega
  | .alt p q => by
    have h1 := latest_le ok p
    have h2 := latest_le ok q
    have h3 := big_two (size_pos p) (size_pos q)
    show max (b.latest p) (b.latest q) ≤ 100 * big (p.size + q.size + 1)
    omega
  | .both p q => by
    have h1 := latest_le ok p
    have h2 := latest_le ok q
    have h3 := big_two (size_pos p) (size_pos q)
    show max (b.latest p) (b.latest q) ≤ 100 * big (p.size + q.size + 1)
    omega
  | .loop p q => by
    have h1 := latest_le ok p
    have h2 := latest_le ok q
    have h3 := big_two (size_pos p) (size_pos q)
    show b.latest p + (b.rounds - 1) * (b.latest q + b.latest p) ≤ 100 * big (p.size + q.size + 1)
    have h4 : (b.rounds - 1) * (b.latest q + b.latest p) ≤ 2 * (b.latest q + b.latest p) := Nat.mul_le_mul_right _ (by have := ok.r3; omega)
    omega
theorem big_mono {m n : Nat} (h : m ≤ n) : big m ≤ big n := Nat.pow_le_pow_right (by decide) (by omega)
theorem big_11 : 100 * big 11 = 5904900 := by decide
theorem latest_11 {b : Book} (ok : BookOk b) {p : P} (h : p.size ≤ 11) : b.latest p ≤ 5904900 := by
  rw [← big_11]
  exact Nat.le_trans (latest_le ok p) (Nat.mul_le_mul_left _ (big_mono h))
/-- rising times below a bound are few -/
theorem inc_len : ∀ {qs : List Pr} {m : Nat}, Inc qs → (∀ x ∈ qs, x.1 ≤ m) → ∀ k, (∀ x ∈ qs, k ≤ x.1) → qs.length + k ≤ m + 1 ∨ qs = []
  | [], _, _, _, _, _ => .inr rfl
  | x :: r, m, hi, hb, k, hk => by
    have h1 := hb x (List.mem_cons_self ..)
    have h2 := hk x (List.mem_cons_self ..)
    rcases inc_len (List.pairwise_cons.mp hi).2 (fun y hy => hb y (List.mem_cons_of_mem _ hy)) (x.1 + 1) (fun y hy => inc_head hi y hy) with h | h
    · left
      rw [List.length_cons]
      omega
    · subst h
      left
      show 1 + k ≤ m + 1
      omega
theorem inc_short {qs : List Pr} {m : Nat} (hi : Inc qs) (hb : ∀ x ∈ qs, x.1 ≤ m) : qs.length ≤ m + 1 := by
  rcases inc_len hi hb 0 (fun _ _ => Nat.zero_le _) with h | h
  · omega
  · rw [h]; exact Nat.zero_le _
theorem fr_tb (b : Book) (p : P) : ∀ x ∈ fr b p, x.1 ≤ b.latest p := fun x hx => by
  obtain ⟨y, hy, e⟩ := List.mem_map.mp hx
  rw [← e]
  exact front_tb b p y hy
theorem proj_tb {f : List Point} {m : Nat} (h : Tb f m) : ∀ x ∈ f.map proj, x.1 ≤ m := fun x hx => by
  obtain ⟨y, hy, e⟩ := List.mem_map.mp hx
  rw [← e]
  exact h y hy

/-! ### a loop's fronts, one for each number of rounds -/
def lv (b : Book) (q : P) : List (List Point) := match q with
  | .loop f g => (List.range b.rounds).map fun k => loops (b.front f) (b.front g) k
  | q => [b.front q]
theorem lv_last {b : Book} (ok : BookOk b) (q : P) : (lv b q).getLast? = some (b.front q) := by
  cases q with
  | loop f g =>
    show ((List.range b.rounds).map fun k => loops (b.front f) (b.front g) k).getLast? = some (loops (b.front f) (b.front g) (b.rounds - 1))
    have h := ok.r1
    obtain ⟨n, hn⟩ : ∃ n, b.rounds = n + 1 := ⟨b.rounds - 1, by omega⟩
    rw [hn, List.range_succ, List.map_append, List.getLast?_append]
    rfl
  | _ => rfl
theorem lv_ne {b : Book} (ok : BookOk b) (q : P) : lv b q ≠ [] := by
  intro e
  have := lv_last ok q
  rw [e] at this
  cases this

/-! ### the worst case -/
theorem wc_loop (b : Book) (p q : P) (k : Nat) : b.latest p + (k + 1) * (b.latest q + b.latest p) = b.latest p + (b.latest q + (b.latest p + k * (b.latest q + b.latest p))) := by
  rw [Nat.succ_mul]; omega

/-! ### the judge -/
def fitsL (n : Nat) (q s : P) : List Bool := match q with
  | .loop f g => (List.range n).map fun k => Wf06.roundsOf (Wf06.isRun n f) (Wf06.isRun n g) k s
  | q => [Wf06.isRun n q s]
theorem fitsL_last {n : Nat} (h : 1 ≤ n) (q s : P) : (fitsL n q s).getLast? = some (Wf06.isRun n q s) := by
  cases q with
  | loop f g =>
    show ((List.range n).map fun k => Wf06.roundsOf (Wf06.isRun n f) (Wf06.isRun n g) k s).getLast? = some (Wf06.roundsOf (Wf06.isRun n f) (Wf06.isRun n g) (n - 1) s)
    obtain ⟨m, rfl⟩ : ∃ m, n = m + 1 := ⟨n - 1, by omega⟩
    rw [List.range_succ, List.map_append, List.getLast?_append]
    rfl
  | _ => rfl
/-- a run: no choice, no loop, steps that are -/
def plain : P → Bool
  | .act a => decide (a < 6)
  | .skip => true
  | .seq p q => plain p && plain q
  | .both p q => plain p && plain q
  | _ => false
theorem plain_rounds {f g : P → Bool} (hf : ∀ r, f r = true → plain r = true) (hg : ∀ r, g r = true → plain r = true) : ∀ (k : Nat) (r : P), Wf06.roundsOf f g k r = true → plain r = true
  | 0, r, h => hf r h
  | k + 1, r, h => by
    unfold Wf06.roundsOf at h
    rcases Bool.or_eq_true_iff.mp h with h | h
    · exact hf r h
    · cases r with
      | seq x r =>
        cases r with
        | seq y z =>
          have h' : (f x && (g y && Wf06.roundsOf f g k z)) = true := h
          rw [Bool.and_eq_true, Bool.and_eq_true] at h'
          show (plain x && (plain y && plain z)) = true
          rw [hf x h'.1, hg y h'.2.1, plain_rounds hf hg k z h'.2.2]; rfl
        | _ => cases h
      | _ => cases h
theorem plain_run {n : Nat} : ∀ (p : P), p.right = true → ∀ r, Wf06.isRun n p r = true → plain r = true
  | .act a, hp, r, h => by
    have e : r = .act a := eq_of_beq h
    rw [e]
    exact hp
  | .skip, _, r, h => by
    have e : r = .skip := eq_of_beq h
    rw [e]; rfl
  | .seq p q, hp, r, h => by
    obtain ⟨h1, h2⟩ := Bool.and_eq_true_iff.mp (show (p.right && q.right) = true from hp)
    cases r with
    | seq x y =>
      obtain ⟨k1, k2⟩ := Bool.and_eq_true_iff.mp (show (Wf06.isRun n p x && Wf06.isRun n q y) = true from h)
      show (plain x && plain y) = true
      rw [plain_run p h1 x k1, plain_run q h2 y k2]; rfl
    | _ => cases h
  | .alt p q, hp, r, h => by
    obtain ⟨h1, h2⟩ := Bool.and_eq_true_iff.mp (show (p.right && q.right) = true from hp)
    rcases Bool.or_eq_true_iff.mp (show (Wf06.isRun n p r || Wf06.isRun n q r) = true from h) with k | k
    · exact plain_run p h1 r k
    · exact plain_run q h2 r k
  | .both p q, hp, r, h => by
    obtain ⟨h1, h2⟩ := Bool.and_eq_true_iff.mp (show (p.right && q.right) = true from hp)
    cases r with
    | both x y =>
      obtain ⟨k1, k2⟩ := Bool.and_eq_true_iff.mp (show (Wf06.isRun n p x && Wf06.isRun n q y) = true from h)
      show (plain x && plain y) = true
      rw [plain_run p h1 x k1, plain_run q h2 y k2]; rfl
    | _ => cases h
  | .loop p q, hp, r, h => by
    obtain ⟨_, h2⟩ := Bool.and_eq_true_iff.mp (show (!p.void && (p.right && q.right)) = true from hp)
    obtain ⟨h1, h2⟩ := Bool.and_eq_true_iff.mp h2
    exact plain_rounds (fun r k => plain_run p h1 r k) (fun r k => plain_run q h2 r k) _ r h
theorem plain_node : ∀ (r : P), plain r = true → ∀ {i : Nat} {q : P}, (nodes r)[i]? = some q → plain q = true := by
  refine kids_rec (fun x h hp i q hi => ?_) (fun x l r h ih1 ih2 hp i q hi => ?_)
  · rw [nodes_leaf h] at hi
    cases i with
    | zero =>
      have e : x = q := by simpa using hi
      rw [← e]; exact hp
    | succ i => simp at hi
  · rw [nodes_of h] at hi
    cases i with
    | zero =>
      have e : x = q := by simpa using hi
      rw [← e]; exact hp
    | succ i =>
      have hh : plain l = true ∧ plain r = true := by
        cases x <;> simp [kids] at h <;> obtain ⟨rfl, rfl⟩ := h
        · exact Bool.and_eq_true_iff.mp hp
        · cases hp
        · exact Bool.and_eq_true_iff.mp hp
        · cases hp
      rw [List.getElem?_cons_succ] at hi
      have n1 := nodes_len l
      by_cases hl : i < l.size
      · rw [List.getElem?_append_left (by omega)] at hi
        exact ih1 hh.1 hi
      · rw [List.getElem?_append_right (by omega)] at hi
        exact ih2 hh.2 hi

/-! ### right -/
def okStep (q : P) : Bool := decide (stp q ≤ 5)
def okLoop (q : P) : Bool := match q with
  | .loop f _ => !f.void
  | _ => true
theorem right_two {a b c d e : Bool} : (e && ((a && b) && (c && d))) = ((a && c) && (e && (b && d))) := by
  cases a <;> cases b <;> cases c <;> cases d <;> cases e <;> rfl
theorem right_all : ∀ p : P, p.right = ((nodes p).all okStep && (nodes p).all okLoop)
  | .act a => by
    show decide (a < 6) = ((decide (a ≤ 5) && true) && (true && true))
    by_cases h : a < 6
    · rw [decide_eq_true h, decide_eq_true (show a ≤ 5 by omega)]; rfl
    · rw [decide_eq_false h, decide_eq_false (show ¬ a ≤ 5 by omega)]; rfl
  | .skip => rfl
  | .seq p q => by
    show (true && (p.right && q.right)) = ((true && (nodes p ++ nodes q).all okStep) && (true && (nodes p ++ nodes q).all okLoop))
    rw [right_all p, right_all q, List.all_append, List.all_append, Bool.true_and ((nodes p).all okStep && _)]
    exact right_two
  | .alt p q => by
    show (true && (p.right && q.right)) = ((true && (nodes p ++ nodes q).all okStep) && (true && (nodes p ++ nodes q).all okLoop))
    rw [right_all p, right_all q, List.all_append, List.all_append, Bool.true_and ((nodes p).all okStep && _)]
    exact right_two
  | .both p q => by
    show (true && (p.right && q.right)) = ((true && (nodes p ++ nodes q).all okStep) && (true && (nodes p ++ nodes q).all okLoop))
    rw [right_all p, right_all q, List.all_append, List.all_append, Bool.true_and ((nodes p).all okStep && _)]
    exact right_two
  | .loop p q => by
    show (!p.void && (p.right && q.right)) = ((true && (nodes p ++ nodes q).all okStep) && (!p.void && (nodes p ++ nodes q).all okLoop))
    rw [right_all p, right_all q, List.all_append, List.all_append, Bool.true_and ((nodes p).all okStep && _)]
    exact right_two
theorem right_node : ∀ (p : P), p.right = true → ∀ {i : Nat} {a : Nat}, (nodes p)[i]? = some (.act a) → a < 6 := fun p h i a hi => by
  rw [right_all] at h
  have := List.all_eq_true.mp (Bool.and_eq_true_iff.mp h).1 _ (List.mem_of_getElem? hi)
  have := of_decide_eq_true this
  show a < 6
  exact Nat.lt_succ_of_le this

def loopVoid (q : P) : Option Bool := match q with
  | .loop f _ => some f.void
  | _ => none
theorem loopVoids_any : ∀ l : List P, (l.filterMap loopVoid).any id = !(l.all okLoop)
  | [] => rfl
  | q :: r => by
    rw [List.all_cons, Bool.not_and, ← loopVoids_any r]
    cases q with
    | loop f g =>
      show (id f.void || (r.filterMap loopVoid).any id) = (!(!f.void) || (r.filterMap loopVoid).any id)
      rw [Bool.not_not]; rfl
    | _ => show _ = (!true || _); rw [Bool.not_true, Bool.false_or]; rfl
theorem take_next {α : Type} : ∀ {l : List α} {i : Nat} {x : α}, l[i]? = some x → l.take (i + 1) = l.take i ++ [x]
  | [], i, x, h => by simp at h
  | a :: l, 0, x, h => by
    have e : a = x := Option.some.inj h
    subst e
    rfl
  | a :: l, i + 1, x, h => by
    have ih := take_next (l := l) (i := i) (x := x) h
    show a :: l.take (i + 1) = a :: l.take i ++ [x]
    rw [ih]
    rfl

/-! ### how long a run is -/
theorem row_pt_loops {f g : List Point} {m n : Nat} (h1 : ∀ x ∈ f, x.r.row.length + 2 ≤ m) (h2 : ∀ x ∈ g, x.r.row.length + 2 ≤ n) : ∀ k, ∀ x ∈ loops f g k, x.r.row.length + 2 ≤ m + k * (n + m)
  | 0 => fun x hx => by have := h1 x hx; omega
  | k + 1 => fun x hx => by
    rw [loops_succ] at hx
    have e : m + (k + 1) * (n + m) = m + (n + (m + k * (n + m))) := by rw [Nat.succ_mul]; omega
    rcases List.mem_append.mp (best_sub hx) with q | q
    · have := h1 x q
      omega
    · obtain ⟨a, ha, b, hb, ex, _⟩ := sel_seq q
      obtain ⟨c, hc, d, hd, ey, _⟩ := sel_seq hb
      have q1 := h1 a ha
      have q2 := h2 c hc
      have q3 := row_pt_loops h1 h2 k d hd
      rw [ex, e]
      show (2 :: (a.r.row ++ b.r.row)).length + 2 ≤ _
      rw [ey]
      show (2 :: (a.r.row ++ (2 :: (c.r.row ++ d.r.row)))).length + 2 ≤ _
      simp only [List.length_cons, List.length_append]
      omega
theorem row_pt {b : Book} (ok : BookOk b) : ∀ (p : P), ∀ x ∈ b.front p, x.r.row.length + 2 ≤ 4 * big p.size
  | .act a => fun x hx => by
    obtain rfl := List.mem_singleton.mp hx
    exact Nat.le_refl _
  | .skip => fun x hx => by
    obtain rfl := List.mem_singleton.mp hx
    decide
  | .seq p q => fun x hx => by
    obtain ⟨u, hu, v, hv, e, _⟩ := sel_seq hx
    have h1 := row_pt ok p u hu
    have h2 := row_pt ok q v hv
    have h3 := big_two (size_pos p) (size_pos q)
    rw [e]
    show (2 :: (u.r.row ++ v.r.row)).length + 2 ≤ 4 * big (p.size + q.size + 1)
    simp only [List.length_cons, List.length_append]
    omega
  | .alt p q => fun x hx => by
    have h3 := big_two (size_pos p) (size_pos q)
    show _ ≤ 4 * big (p.size + q.size + 1)
    rcases List.mem_append.mp (best_sub hx) with h | h
    · have := row_pt ok p x h
      omega
    · have := row_pt ok q x h
      omega
  | .both p q => fun x hx => by
    obtain ⟨u, hu, v, hv, e, _⟩ := sel_both hx
    have h1 := row_pt ok p u hu
    have h2 := row_pt ok q v hv
    have h3 := big_two (size_pos p) (size_pos q)
    rw [e]
    show (4 :: (u.r.row ++ v.r.row)).length + 2 ≤ 4 * big (p.size + q.size + 1)
    simp only [List.length_cons, List.length_append]
    omega
  | .loop p q => fun x hx => by
    have h1 := row_pt_loops (row_pt ok p) (row_pt ok q) (b.rounds - 1) x hx
    have h3 := big_two (size_pos p) (size_pos q)
    show _ ≤ 4 * big (p.size + q.size + 1)
    have h4 : (b.rounds - 1) * (4 * big q.size + 4 * big p.size) ≤ 2 * (4 * big q.size + 4 * big p.size) := Nat.mul_le_mul_right _ (by have := ok.r3; omega)
    omega
theorem row_11 {b : Book} (ok : BookOk b) {p : P} (h : p.size ≤ 11) {x : Point} (hx : x ∈ b.front p) : x.r.row.length ≤ 236196 := by
  have h1 := row_pt ok p x hx
  have h2 := big_mono h
  have h3 : 4 * big 11 = 236196 := by decide
  omega
end Fr
/-! The text by places, what the top has written, what stands in the heap. -/
namespace Fr
open PySem PySem.Spec PyProof.Rows L2 Evl

/-! ### the text -/
def top (i : Nat) : Stmt := PySem.Challenge.pw_processfronts_s01_answers.main.body.getD i (.Pass ⟨0, 0, 0, 0⟩)
abbrev sPInit : Stmt := inClass (top 7) 0
abbrev sSize : Stmt := inClass (top 7) 1
abbrev sLeaf : Stmt := top 8
abbrev sSeconds : Stmt := top 9
abbrev sRead : Stmt := top 10
abbrev sCapable : Stmt := top 11
abbrev sCapables : Stmt := top 12
abbrev sHasEmpty : Stmt := top 13
abbrev sFrontOf : Stmt := top 15
abbrev sJoined : Stmt := top 16
abbrev sCombined : Stmt := top 17
abbrev sParted : Stmt := top 18
abbrev sJInit : Stmt := inClass (top 20) 0
abbrev sFits : Stmt := inClass (top 20) 1
abbrev sFitsOf : Stmt := inClass (top 20) 2
abbrev sLoopFits : Stmt := inClass (top 20) 3
abbrev sGoesOn : Stmt := inClass (top 20) 4
abbrev sIsRun : Stmt := top 21
abbrev sPairOfRun : Stmt := top 22
abbrev sSInit : Stmt := inClass (top 25) 0
abbrev sWhole : Stmt := inClass (top 25) 1
abbrev sFirst : Stmt := inClass (top 25) 2
abbrev sSecond : Stmt := inClass (top 25) 3
abbrev sFrontsOf : Stmt := inClass (top 25) 4
abbrev sLoopFronts : Stmt := inClass (top 25) 5
abbrev sRunOf : Stmt := inClass (top 25) 6
abbrev sLoopRun : Stmt := inClass (top 25) 7
abbrev sTInit : Stmt := inClass (top 30) 0
abbrev sPairOf : Stmt := inClass (top 30) 1
abbrev sTStep : Stmt := inClass (top 30) 2
abbrev sTRounds : Stmt := inClass (top 30) 3
abbrev sGreater : Stmt := top 32
abbrev sLoopWorst : Stmt := top 33
abbrev sConWorst : Stmt := top 34
abbrev sWorstOf : Stmt := top 35
abbrev sIsRight : Stmt := top 41
abbrev sVInit : Stmt := inClass (top 42) 0
abbrev sVProcess : Stmt := inClass (top 42) 1
abbrev sVStep : Stmt := inClass (top 42) 2
abbrev sVRounds : Stmt := inClass (top 42) 3
abbrev sVSelection : Stmt := inClass (top 42) 4
abbrev sVFront : Stmt := inClass (top 42) 5
abbrev sVBy : Stmt := inClass (top 42) 6
abbrev sVSoonest : Stmt := inClass (top 42) 7
abbrev sVWorst : Stmt := inClass (top 42) 8
abbrev sVJudge : Stmt := inClass (top 42) 9
abbrev sVAsked : Stmt := inClass (top 42) 10
abbrev sVAnswer : Stmt := inClass (top 42) 11
abbrev sAnswers : Stmt := top 43

/-! ### what the top has written -/
structure Ad where
  P : Addr
  J : Addr
  S : Addr
  T : Addr
  V : Addr
  nothing : Addr
  shapes : Addr
abbrev CI (mg : Str → Option Value) (x : Str) (i : Int) : Prop := ∃ t, mg x = some (.int i t)
structure Txt (K : PySem.W.Frag) (mg : Str → Option Value) (D : Ad) : Prop where
  STEP : CI mg "STEP" 0
  EMPTY : CI mg "EMPTY" 1
  SEQUENCE : CI mg "SEQUENCE" 2
  CHOICE : CI mg "CHOICE" 3
  PARALLEL : CI mg "PARALLEL" 4
  LOOP : CI mg "LOOP" 5
  MOST_STEP : CI mg "MOST_STEP" 5
  MOST_OF_STEP : CI mg "MOST_OF_STEP" 100
  MOST_ROUNDS : CI mg "MOST_ROUNDS" 3
  MOST_SIZE : CI mg "MOST_SIZE" 11
  WRONG : CI mg "WRONG" (-1)
  NO_PAIR : CI mg "NO_PAIR" (-6)
  len : mg "len" = none
  range : mg "range" = none
  reversed : mg "reversed" = none
  sorted : mg "sorted" = none
  max : mg "max" = none
  min : mg "min" = none
  any : mg "any" = none
  all : mg "all" = none
  enumerate : mg "enumerate" = none
  list : mg "list" = none
  cP : Cls K D.P
  cJ : Cls K D.J
  cS : Cls K D.S
  cT : Cls K D.T
  cV : Cls K D.V
  pKinds : NoAttr K D.P "kinds"
  pSteps : NoAttr K D.P "steps"
  pSeconds : NoAttr K D.P "seconds"
  jProcess : NoAttr K D.J "process"
  jRun : NoAttr K D.J "run"
  jRounds : NoAttr K D.J "rounds"
  jKnown : NoAttr K D.J "known"
  sProcess : NoAttr K D.S "process"
  sFronts : NoAttr K D.S "fronts"
  tPairs : NoAttr K D.T "pairs"
  tRounds : NoAttr K D.T "rounds"
  vProcess : NoAttr K D.V "process"
  vTimes : NoAttr K D.V "times"
  gNothing : mg "NOTHING" = some (.ref D.nothing)
  nothing : ∀ H, SqT K H D.nothing [.int 0, .int 0]
  gShapes : mg "SHAPES" = some (.ref D.shapes)
  shapes : ∃ ss : List Addr, (∀ H, SqT K H D.shapes (ss.map V.ref)) ∧ Paired (fun s (p : Int × Bool) => ∀ H, SqT K H s [.int p.1, .bl p.2]) ss [(0, true), (3, false), (1, false), (0, false), (1, false), (0, false), (0, false), (0, true)]

/-! ### defs by name -/
section
variable (P : Program) (w : World) (K : PySem.W.Frag) (mg : Str → Option Value) (base : Heap)
def HasF (x : Str) (k : Nat) (ps : List Str) (sp : Sp) : Prop := ∃ (f : Addr) (fd : FuncData), FnOk P w K mg base CX0 k f fd ps sp ∧ mg x = some (.ref f) ∧ PySem.W.keepIn K (.ref f) = true ∧ Binds K fd ps []
def HasM (C : Addr) (m : Str) (k : Nat) (ps : List Str) (sp : Sp) : Prop := ∃ (f : Addr) (fd : FuncData), FnOk P w K mg base CX0 k f fd ps sp ∧ Meth K C m f ∧ Binds K fd ps []
def HasC (x : Str) (C : Addr) (k : Nat) (ps : List Str) (sp : Sp) : Prop := ∃ (f : Addr) (fd : FuncData), FnOk P w K mg base CX0 k f fd ps sp ∧ Mk K C f ∧ mg x = some (.ref C) ∧ Binds K fd ps []
end
section
variable {X : Cx} {k : Nat} {ps : List Str} {sp : Sp} {x m : Str} {C : Addr} {p pos apos : Pos} {e o : Expr} {es : List Expr} {ta te : TE} {t : TA}
theorem pe_f (h : HasF X.prog X.w X.K X.mg X.base x k ps sp) (hr : Room k X.A) (hg : Gl X x) (ha : PA X (e :: es) t) (hdb : (x == ("__debug__" : Str)) = false := by decide)
    (he : starEach (e :: es) X.env = (false, eval e X.env) :: starEach es X.env := by rfl) (hpl : (backTo pos (starEach es X.env)).any (·.1) = false := by rfl) :
    PE X (.Call (.Name x p) (e :: es) [] pos) (tCall sp [] E0 t) := by
  obtain ⟨f, fd, F, hm, hk, hb⟩ := h
  exact pe_call F hr hg hm hk hb .nil pass0 ha hdb he hpl
theorem pe_m {pl : Sem Bool} (he : PE X o ta) (c : Cls X.K C) (h : HasM X.prog X.w X.K X.mg X.base C m k ps sp) (hr : Room k X.A) (ha : PA X (e :: es) t)
    (hst : starEach (e :: es) X.env = (false, eval e X.env) :: starEach es X.env := by rfl) (hpl : (backTo pos (starEach es X.env)).any (·.1) = false := by rfl)
    (ht : eval (.Call (.Attribute o m apos) (e :: es) [] pos) X.env = (do
      let ov ← eval o X.env
      standAt apos.atName
      let (f, first) ← holding [ov] (getMethod ov m pl)
      callWith pos f first (backTo pos (starEach (e :: es) X.env)) (backToKw pos (keywordEach [] X.env))) := by rfl) :
    PE X (.Call (.Attribute o m apos) (e :: es) [] pos) (tMeth C m sp [] E0 ta t) := by
  obtain ⟨f, fd, F, hm, hb⟩ := h
  exact pe_meth he c hm F hr hb .nil pass0 ha hst hpl ht
theorem pe_m0 {pl : Sem Bool} (he : PE X o ta) (c : Cls X.K C) (h : HasM X.prog X.w X.K X.mg X.base C m k ps sp) (hr : Room k X.A)
    (ht : eval (.Call (.Attribute o m apos) [] [] pos) X.env = (do
      let ov ← eval o X.env
      standAt apos.atName
      let (f, first) ← holding [ov] (getMethod ov m pl)
      callWith pos f first (backTo pos (starEach [] X.env)) (backToKw pos (keywordEach [] X.env))) := by rfl) :
    PE X (.Call (.Attribute o m apos) [] [] pos) (tMeth C m sp [] E0 ta tNil) := by
  obtain ⟨f, fd, F, hm, hb⟩ := h
  exact pe_meth0 he c hm F hr hb .nil pass0 ht
theorem pe_c (h : HasC X.prog X.w X.K X.mg X.base x C k ps sp) (hr : Room (k + 1) X.A) (hg : Gl X x) (ha : PA X (e :: es) t) (hdb : (x == ("__debug__" : Str)) = false := by decide)
    (he : starEach (e :: es) X.env = (false, eval e X.env) :: starEach es X.env := by rfl) (hpl : (backTo pos (starEach es X.env)).any (·.1) = false := by rfl) :
    PE X (.Call (.Name x p) (e :: es) [] pos) (tMake C sp [] E0 t) := by
  obtain ⟨f, fd, F, M, hm, hb⟩ := h
  exact pe_make M F hr hg hm hb .nil pass0 ha hdb he hpl
theorem pe_c0 (h : HasC X.prog X.w X.K X.mg X.base x C k ps sp) (hr : Room (k + 1) X.A) (hg : Gl X x) (hdb : (x == ("__debug__" : Str)) = false := by decide) :
    PE X (.Call (.Name x p) [] [] pos) (tMake C sp [] E0 tNil) := by
  obtain ⟨f, fd, F, M, hm, hb⟩ := h
  exact pe_make0 M F hr hg hm hb .nil pass0 hdb
theorem pe_ci {i : Int} (h : CI X.mg x i) (hg : Gl X x) (hd : (x == ("__debug__" : Str)) = false := by decide) : PE X (.Name x pos) (tC (.int i)) := by
  obtain ⟨t, ht⟩ := h
  exact pe_glob hg ht ⟨t, rfl⟩ hd
/-- xs.append(e), xs.extend(e) -/
theorem ps_app {po : Pos} (ho : PE X o te) (he : PE X e ta) (hbase : attributeBase o "append" X.env (eval o X.env) = eval o X.env := by rfl)
    (hfew : ((backTo pos (starEach [e] X.env)).all (fun x => !x.1) && (backToKw pos (keywordEach [] X.env)).all (fun x => x.1.isSome)
      && decide ([e].length + ([] : List Keyword).length + (if ([] : List Keyword).isEmpty then 0 else 1) < 30)) = true := by rfl)
    (hline : (apos.endLine == pos.line) = true := by rfl) (hst : starEach [e] X.env = (false, eval e X.env) :: starEach [] X.env := by rfl)
    (hs : swapsWith (.Call (.Attribute o "append" apos) [e] [] pos) none po.line X.env = pure false := by rfl) :
    PS X (.Expr (.Call (.Attribute o "append" apos) [e] [] pos) po) (tDrop (tBM X.K "list" rAppend te (tCons ta tNil))) :=
  ps_expr (pe_bm PySem.F.plainAttrs_list PySem.F.slot_list_append PySem.F.type_list_append mt_append ho (pa_cons he pa_nil hst) hbase hfew hline hst rfl) hs
theorem ps_ext {po : Pos} (ho : PE X o te) (he : PE X e ta) (hbase : attributeBase o "extend" X.env (eval o X.env) = eval o X.env := by rfl)
    (hfew : ((backTo pos (starEach [e] X.env)).all (fun x => !x.1) && (backToKw pos (keywordEach [] X.env)).all (fun x => x.1.isSome)
      && decide ([e].length + ([] : List Keyword).length + (if ([] : List Keyword).isEmpty then 0 else 1) < 30)) = true := by rfl)
    (hline : (apos.endLine == pos.line) = true := by rfl) (hst : starEach [e] X.env = (false, eval e X.env) :: starEach [] X.env := by rfl)
    (hs : swapsWith (.Call (.Attribute o "extend" apos) [e] [] pos) none po.line X.env = pure false := by rfl) :
    PS X (.Expr (.Call (.Attribute o "extend" apos) [e] [] pos) po) (tDrop (tBM X.K "list" rExtend te (tCons ta tNil))) :=
  ps_expr (pe_bm PySem.F.plainAttrs_list PySem.F.slot_list_extend PySem.F.type_list_extend mt_extend ho (pa_cons he pa_nil hst) hbase hfew hline hst rfl) hs
end
end Fr
/-! What stands in the heap: lists of numbers, pairs, lists of pairs, processes, times. -/
namespace Fr
open PySem PySem.Spec PyProof.Rows L2 Evl

abbrev nV (n : Nat) : V := .int (n : Int)
section
variable {K : PySem.W.Frag} {H H' : Hp} {a l : Addr} {o : HO}
/-- a list, a tuple are still read when a list elsewhere changes, when an instance changes -/
def Wr : HO → Prop
  | .lst _ => True
  | .ins _ _ _ => True
  | .dK _ => True
  | .frz _ (.dK _) => True
  | _ => False
theorem t_upd {xs : List V} {u o : HO} (h : SqT K H a xs) (hl : H l = some u) (hu : Wr u) : SqT K (upd H l o) a xs := by
  rcases h with (h | ⟨ob, h⟩) | h
  · exact .inl (.inl (by rw [upd_ne (ne_of h hl (by rintro rfl; exact hu))]; exact h))
  · exact .inl (.inr ⟨ob, by rw [upd_ne (ne_of h hl (by rintro rfl; exact hu))]; exact h⟩)
  · exact .inr h
theorem l_upd {xs : List V} {o : HO} (h : SqL K H a xs) (n : a ≠ l) : SqL K (upd H l o) a xs := by
  rcases h with (h | ⟨ob, h⟩) | h
  · exact .inl (.inl (by rw [upd_ne n]; exact h))
  · exact .inl (.inr ⟨ob, by rw [upd_ne n]; exact h⟩)
  · exact .inr h

theorem l_updI {xs : List V} {o : HO} {C dx : Addr} {fs : List (Str × V)} (h : SqL K H a xs) (hl : H l = some (.ins C dx fs)) : SqL K (upd H l o) a xs := by
  rcases h with (h | ⟨ob, h⟩) | h
  · exact .inl (.inl (by rw [upd_ne (ne_of h hl (by intro z; cases z))]; exact h))
  · exact .inl (.inr ⟨ob, by rw [upd_ne (ne_of h hl (by intro z; cases z))]; exact h⟩)
  · exact .inr h
/-- a list of numbers -/
def NL (K : PySem.W.Frag) (H : Hp) (a : Addr) (ns : List Nat) : Prop := SqL K H a (ns.map nV)
theorem NL.ex {ns : List Nat} (e : Ex H H') (h : NL K H a ns) : NL K H' a ns := ex_l e h
theorem NL.upd {ns : List Nat} (h : NL K H a ns) (n : a ≠ l) : NL K (upd H l o) a ns := l_upd h n
theorem nl_get {ns : List Nat} {i n : Nat} (h : ns[i]? = some n) : (ns.map nV)[i]? = some (nV n) := by
  rw [List.getElem?_map, h]; rfl
theorem nl_at {ns : List Nat} {i n : Nat} (h : ns[i]? = some n) : atI (ns.map nV) (i : Int) = some (nV n) := atI_nat (nl_get h)
/-- a pair -/
def Prt (K : PySem.W.Frag) (H : Hp) (v : V) (x : Pr) : Prop := ∃ a, v = .ref a ∧ SqT K H a [nV x.1, nV x.2]
theorem Prt.ex {v : V} {x : Pr} (e : Ex H H') (h : Prt K H v x) : Prt K H' v x := by
  obtain ⟨a, rfl, h⟩ := h
  exact ⟨a, rfl, ex_t e h⟩
theorem Prt.upd {v : V} {x : Pr} {u o : HO} (h : Prt K H v x) (hl : H l = some u) (hu : Wr u) : Prt K (upd H l o) v x := by
  obtain ⟨a, rfl, h⟩ := h
  exact ⟨a, rfl, t_upd h hl hu⟩
abbrev Prs (K : PySem.W.Frag) (H : Hp) : List V → List Pr → Prop := Paired (Prt K H)
theorem Prs.ex {vs : List V} {ps : List Pr} (e : Ex H H') (h : Prs K H vs ps) : Prs K H' vs ps := Paired.mono (fun _ _ q => q.ex e) h
theorem Prs.upd {vs : List V} {ps : List Pr} {u o : HO} (h : Prs K H vs ps) (hl : H l = some u) (hu : Wr u) : Prs K (upd H l o) vs ps := Paired.mono (fun _ _ q => q.upd hl hu) h
theorem paired_get {α β : Type} {F : α → β → Prop} : ∀ {l : List α} {m : List β} {i : Nat} {y : β}, Paired F l m → m[i]? = some y → ∃ x, l[i]? = some x ∧ F x y
  | _, _, i, y, .nil, e => by simp at e
  | _, _, 0, y, .cons h _, e => by
    simp at e
    subst e
    exact ⟨_, rfl, h⟩
  | _, _, i + 1, y, .cons _ t, e => by
    obtain ⟨x, h1, h2⟩ := paired_get (i := i) (y := y) t (by simpa using e)
    exact ⟨x, by simpa using h1, h2⟩
theorem paired_getL {α β : Type} {F : α → β → Prop} : ∀ {l : List α} {m : List β} {i : Nat} {x : α}, Paired F l m → l[i]? = some x → ∃ y, m[i]? = some y ∧ F x y
  | _, _, i, y, .nil, e => by simp at e
  | _, _, 0, y, .cons h _, e => by
    simp at e
    subst e
    exact ⟨_, rfl, h⟩
  | _, _, i + 1, x, .cons _ t, e => by
    obtain ⟨y, h1, h2⟩ := paired_getL (i := i) (x := x) t (by simpa using e)
    exact ⟨y, by simpa using h1, h2⟩
theorem paired_app {α β : Type} {F : α → β → Prop} : ∀ {l l' : List α} {m m' : List β}, Paired F l m → Paired F l' m' → Paired F (l ++ l') (m ++ m')
  | _, _, _, _, .nil, h => h
  | _, _, _, _, .cons h t, k => .cons h (paired_app t k)
theorem paired_set {α β : Type} {F : α → β → Prop} {x : α} {y : β} (h : F x y) : ∀ {l : List α} {m : List β} (i : Nat), Paired F l m → Paired F (l.set i x) (m.set i y)
  | _, _, _, .nil => .nil
  | _, _, 0, .cons _ t => .cons h t
  | _, _, i + 1, .cons q t => .cons q (paired_set h i t)
theorem paired_last {α β : Type} {F : α → β → Prop} {l : List α} {m : List β} {y : β} (h : Paired F l m) (e : m.getLast? = some y) : ∃ x, l.getLast? = some x ∧ F x y := by
  rw [List.getLast?_eq_getElem?] at e ⊢
  rw [Paired.length h]
  exact paired_get h e
theorem at_last {xs : List V} {v : V} (h : xs.getLast? = some v) : atI xs (-1) = some v := by
  obtain ⟨r, rfl⟩ := List.getLast?_eq_some_iff.mp h
  exact atI_last r v
/-- a list of pairs -/
def PrL (K : PySem.W.Frag) (H : Hp) (a : Addr) (ps : List Pr) : Prop := ∃ vs, SqL K H a vs ∧ Prs K H vs ps
theorem PrL.ex {ps : List Pr} (e : Ex H H') (h : PrL K H a ps) : PrL K H' a ps := by
  obtain ⟨vs, h1, h2⟩ := h
  exact ⟨vs, ex_l e h1, Prs.ex e h2⟩
theorem PrL.upd {ps : List Pr} {u o : HO} (h : PrL K H a ps) (hl : H l = some u) (hu : Wr u) (n : a ≠ l) : PrL K (upd H l o) a ps := by
  obtain ⟨vs, h1, h2⟩ := h
  exact ⟨vs, l_upd h1 n, Prs.upd h2 hl hu⟩
/-- .. made anew, tracked -/
def PrN (K : PySem.W.Frag) (H : Hp) (a : Addr) (ps : List Pr) : Prop := ∃ vs, H a = some (.lst vs) ∧ Prs K H vs ps
theorem PrN.toL {ps : List Pr} (h : PrN K H a ps) : PrL K H a ps := by
  obtain ⟨vs, h1, h2⟩ := h
  exact ⟨vs, sq_of h1, h2⟩
theorem PrN.ex {ps : List Pr} (e : Ex H H') (h : PrN K H a ps) : PrN K H' a ps := by
  obtain ⟨vs, h1, h2⟩ := h
  exact ⟨vs, e _ _ h1, Prs.ex e h2⟩

/-! ### as data -/
def prd (x : Pr) : PyData := .tuple [.int x.1, .int x.2]
theorem Prt.dp {v : V} {x : Pr} (h : Prt K H v x) : Dp K H v (prd x) := by
  obtain ⟨a, rfl, h⟩ := h
  exact .tup h (.cons (.int _) (.cons (.int _) .nil))
theorem Prs.dp : ∀ {vs : List V} {ps : List Pr}, Prs K H vs ps → DpAll K H vs (ps.map prd)
  | _, _, .nil => .nil
  | _, _, .cons h t => .cons h.dp (Prs.dp t)
theorem PrL.dp {ps : List Pr} (h : PrL K H a ps) : Dp K H (.ref a) (.list (ps.map prd)) := by
  obtain ⟨vs, h1, h2⟩ := h
  exact .lst h1 (Prs.dp h2)
theorem prd_lay (z : Pr) : (prd z).canLay0 = true := by simp [prd, PyData.canLay0, PyData.canLayAll0]
theorem prd_depth (z : Pr) : (prd z).depth = 1 := by simp [prd, PyData.depth, PyData.depthAll]
theorem prds_lay : ∀ zs : List Pr, PyData.canLayAll0 (zs.map prd) = true
  | [] => by simp [PyData.canLayAll0]
  | z :: r => by
    rw [List.map_cons]
    simp only [PyData.canLayAll0, prd_lay, prds_lay r, Bool.and_self]
theorem prds_depth : ∀ zs : List Pr, PyData.depthAll (zs.map prd) ≤ 1
  | [] => by simp [PyData.depthAll]
  | z :: r => by
    rw [List.map_cons]
    have := prds_depth r
    simp only [PyData.depthAll, prd_depth]
    omega
theorem prd_shaped (z : Pr) : SeqAt.shaped (prd z) = true := by
  unfold SeqAt.shaped
  rw [prd_lay, prd_depth]
  rfl
theorem prds_shaped (zs : List Pr) : SeqAt.shaped (.list (zs.map prd)) = true := by
  unfold SeqAt.shaped
  have h1 : (PyData.list (zs.map prd)).canLay0 = true := by simp [PyData.canLay0, prds_lay]
  have h2 : (PyData.list (zs.map prd)).depth ≤ 64 := by
    have := prds_depth zs
    simp only [PyData.depth]
    omega
  rw [h1, decide_eq_true h2]
  rfl
theorem prd_eqv (z w : Pr) : PyData.eqv (prd z) (prd w) = decide (z = w) := by
  obtain ⟨a, b⟩ := z
  obtain ⟨c, d⟩ := w
  simp only [prd, PyData.eqv, PyData.eqvAll, Bool.and_true]
  rw [Bool.eq_iff_iff, decide_eq_true_iff, Prod.mk.injEq]
  simp
  omega
theorem prds_nil (ps : List Pr) : PyData.eqv (.list (ps.map prd)) (.list []) = ps.isEmpty := by
  cases ps with
  | nil => simp [PyData.eqv, PyData.eqvAll]
  | cons x r => simp [PyData.eqv, PyData.eqvAll]
theorem prds_mem (ps : List Pr) (x : Pr) : ((ps.map prd).any fun z => PyData.eqv z (prd x)) = decide (x ∈ ps) := by
  rw [Bool.eq_iff_iff, List.any_eq_true, decide_eq_true_iff]
  constructor
  · rintro ⟨z, hz, h⟩
    obtain ⟨y, hy, rfl⟩ := List.mem_map.mp hz
    rw [prd_eqv, decide_eq_true_iff] at h
    rw [← h]; exact hy
  · intro h
    exact ⟨prd x, List.mem_map.mpr ⟨x, h, rfl⟩, by rw [prd_eqv, decide_eq_true rfl]⟩

/-! ### processes, times -/
abbrev pF (k s c : Addr) : List (Str × V) := [("kinds", .ref k), ("steps", .ref s), ("seconds", .ref c)]
/-- a process at a, its lists not in G -/
def ProcAt (K : PySem.W.Frag) (C : Addr) (G H : Hp) (a : Addr) (p : Wf.P) : Prop := G a = none ∧ ∃ dx k s c, H a = some (.ins C dx (pF k s c)) ∧ G k = none ∧ G s = none ∧ G c = none ∧
  NL K H k (kinds p) ∧ NL K H s (steps p) ∧ NL K H c (secs 0 p)
def G0 : Hp := fun _ => none
theorem ProcAt.ex {C : Addr} {G : Hp} {p : Wf.P} (e : Ex H H') (h : ProcAt K C G H a p) : ProcAt K C G H' a p := by
  obtain ⟨g, dx, k, s, c, h0, g1, g2, g3, h1, h2, h3⟩ := h
  exact ⟨g, dx, k, s, c, e _ _ h0, g1, g2, g3, h1.ex e, h2.ex e, h3.ex e⟩
theorem ProcAt.any {C : Addr} {G : Hp} {p : Wf.P} (h : ProcAt K C G H a p) : ProcAt K C G0 H a p := by
  obtain ⟨g, dx, k, s, c, h0, g1, g2, g3, h1, h2, h3⟩ := h
  exact ⟨rfl, dx, k, s, c, h0, rfl, rfl, rfl, h1, h2, h3⟩
theorem ProcAt.back {C : Addr} {G G' : Hp} {p : Wf.P} (e : ∀ b, G b = none → G' b = none) (h : ProcAt K C G H a p) : ProcAt K C G' H a p := by
  obtain ⟨g, dx, k, s, c, h0, g1, g2, g3, h1, h2, h3⟩ := h
  exact ⟨e _ g, dx, k, s, c, h0, e _ g1, e _ g2, e _ g3, h1, h2, h3⟩
theorem ProcAt.updI {C : Addr} {G : Hp} {p : Wf.P} {o : HO} {C' dx' : Addr} {fs' : List (Str × V)} (h : ProcAt K C G H a p) (hl : H l = some (.ins C' dx' fs')) (n : a ≠ l) : ProcAt K C G (upd H l o) a p := by
  obtain ⟨g, dx, k, s, c, h0, g1, g2, g3, h1, h2, h3⟩ := h
  exact ⟨g, dx, k, s, c, by rw [upd_ne n]; exact h0, g1, g2, g3, l_updI h1 hl, l_updI h2 hl, l_updI h3 hl⟩
/-- all but an instance stands -/
theorem ProcAt.fr {C : Addr} {G : Hp} {p : Wf.P} {C' dx' : Addr} {fs' : List (Str × V)} (h : ProcAt K C G H a p) (hl : H l = some (.ins C' dx' fs')) (n : a ≠ l) (e : ∀ b o, H b = some o → b ≠ l → H' b = some o) : ProcAt K C G H' a p := by
  obtain ⟨g, dx, k, s, c, h0, g1, g2, g3, h1, h2, h3⟩ := h
  have sq : ∀ {b xs}, SqL K H b xs → SqL K H' b xs := fun {b xs} q => by
    rcases q with (q | ⟨ob, q⟩) | q
    · exact .inl (.inl (e _ _ q (ne_of q hl (by intro z; cases z))))
    · exact .inl (.inr ⟨ob, e _ _ q (ne_of q hl (by intro z; cases z))⟩)
    · exact .inr q
  exact ⟨g, dx, k, s, c, e _ _ h0 n, g1, g2, g3, sq h1, sq h2, sq h3⟩
/-- what is in G may change -/
theorem ProcAt.upd {C : Addr} {G : Hp} {p : Wf.P} {u o : HO} (h : ProcAt K C G H a p) (hl : G l = some u) : ProcAt K C G (upd H l o) a p := by
  obtain ⟨g, dx, k, s, c, h0, g1, g2, g3, h1, h2, h3⟩ := h
  have n : ∀ {b}, G b = none → b ≠ l := fun {b} q e => by rw [e, hl] at q; cases q
  exact ⟨g, dx, k, s, c, by rw [upd_ne (n g)]; exact h0, g1, g2, g3, h1.upd (n g1), h2.upd (n g2), h3.upd (n g3)⟩
abbrev tF (l : Addr) (n : Nat) : List (Str × V) := [("pairs", .ref l), ("rounds", nV n)]
def TimesAt (K : PySem.W.Frag) (C : Addr) (G H : Hp) (a : Addr) (b : Wf06.Book) : Prop := G a = none ∧ ∃ dx l vs, H a = some (.ins C dx (tF l b.rounds)) ∧ G l = none ∧ H l = some (.lst vs) ∧ Prs K H vs (pairsOf b)
theorem TimesAt.ex {C : Addr} {G : Hp} {b : Wf06.Book} (e : Ex H H') (h : TimesAt K C G H a b) : TimesAt K C G H' a b := by
  obtain ⟨g, dx, l, vs, h0, g1, h1, h2⟩ := h
  exact ⟨g, dx, l, vs, e _ _ h0, g1, e _ _ h1, Prs.ex e h2⟩
theorem TimesAt.any {C : Addr} {G : Hp} {b : Wf06.Book} (h : TimesAt K C G H a b) : TimesAt K C G0 H a b := by
  obtain ⟨g, dx, l, vs, h0, g1, h1, h2⟩ := h
  exact ⟨rfl, dx, l, vs, h0, rfl, h1, h2⟩
theorem TimesAt.back {C : Addr} {G G' : Hp} {b : Wf06.Book} (e : ∀ b, G b = none → G' b = none) (h : TimesAt K C G H a b) : TimesAt K C G' H a b := by
  obtain ⟨g, dx, l, vs, h0, g1, h1, h2⟩ := h
  exact ⟨e _ g, dx, l, vs, h0, e _ g1, h1, h2⟩
theorem TimesAt.upd {C : Addr} {G : Hp} {b : Wf06.Book} {u u' o : HO} (h : TimesAt K C G H a b) (hl : G l = some u) (hh : H l = some u') (hw : Wr u') : TimesAt K C G (upd H l o) a b := by
  obtain ⟨g, dx, x, vs, h0, g1, h1, h2⟩ := h
  have n : ∀ {b}, G b = none → b ≠ l := fun {b} q e => by rw [e, hl] at q; cases q
  exact ⟨g, dx, x, vs, by rw [upd_ne (n g)]; exact h0, g1, by rw [upd_ne (n g1)]; exact h1, Prs.upd h2 hh hw⟩

theorem TimesAt.fr {C : Addr} {G : Hp} {b : Wf06.Book} {C' dx' : Addr} {fs' : List (Str × V)} (h : TimesAt K C G H a b) (hl : H l = some (.ins C' dx' fs')) (n : a ≠ l) (e : ∀ b o, H b = some o → b ≠ l → H' b = some o) : TimesAt K C G H' a b := by
  obtain ⟨g, dx, x, vs, h0, g1, h1, h2⟩ := h
  have st : ∀ {b xs}, SqT K H b xs → SqT K H' b xs := fun {b xs} q => by
    rcases q with (q | ⟨ob, q⟩) | q
    · exact .inl (.inl (e _ _ q (ne_of q hl (by intro z; cases z))))
    · exact .inl (.inr ⟨ob, e _ _ q (ne_of q hl (by intro z; cases z))⟩)
    · exact .inr q
  exact ⟨g, dx, x, vs, e _ _ h0 n, g1, e _ _ h1 (ne_of h1 hl (by intro z; cases z)), Paired.mono (fun _ _ ⟨t, ev, q⟩ => ⟨t, ev, st q⟩) h2⟩

/-! ### the attributes -/
theorem lk0 {k : Str} {v : V} {r : List (Str × V)} : List.lookup k ((k, v) :: r) = some v := by
  have e : (k == k) = true := beq_self_eq_true k
  simp only [List.lookup, e]
theorem lkN {k g : Str} {v : V} {r : List (Str × V)} (h : (k == g) = false) : List.lookup k ((g, v) :: r) = List.lookup k r := by
  simp only [List.lookup, h]
theorem pt0 {f : Str} {v x : V} {r : List (Str × V)} : putF f v ((f, x) :: r) = (f, v) :: r := if_pos rfl
theorem ptN {f g : Str} {v x : V} {r : List (Str × V)} (h : ¬ g = f) : putF f v ((g, x) :: r) = (g, x) :: putF f v r := if_neg h
variable {k s c : Addr}
theorem pF_kinds : (pF k s c).lookup ("kinds" : Str) = some (.ref k) := lk0
theorem pF_steps : (pF k s c).lookup ("steps" : Str) = some (.ref s) := (lkN (by decide +kernel)).trans lk0
theorem pF_seconds : (pF k s c).lookup ("seconds" : Str) = some (.ref c) := (lkN (by decide +kernel)).trans ((lkN (by decide +kernel)).trans lk0)
theorem pF_no {m : Str} (h1 : (m == "kinds") = false) (h2 : (m == "steps") = false) (h3 : (m == "seconds") = false) : (pF k s c).lookup m = none := (lkN h1).trans ((lkN h2).trans ((lkN h3).trans rfl))
theorem pF_size : (pF k s c).lookup ("size" : Str) = none := pF_no (by decide +kernel) (by decide +kernel) (by decide +kernel)
theorem pF_put : putF "seconds" (.ref c) (putF "steps" (.ref s) (putF "kinds" (.ref k) [])) = pF k s c := by
  show putF "seconds" (.ref c) (putF "steps" (.ref s) [("kinds", V.ref k)]) = _
  rw [ptN (by decide +kernel)]
  show putF "seconds" (.ref c) [("kinds", V.ref k), ("steps", V.ref s)] = _
  rw [ptN (by decide +kernel), ptN (by decide +kernel)]
  rfl
theorem tF_pairs {n : Nat} : (tF k n).lookup ("pairs" : Str) = some (.ref k) := lk0
theorem tF_rounds {n : Nat} : (tF k n).lookup ("rounds" : Str) = some (nV n) := (lkN (by decide +kernel)).trans lk0
theorem tF_no {n : Nat} {m : Str} (h1 : (m == "pairs") = false) (h2 : (m == "rounds") = false) : (tF k n).lookup m = none := (lkN h1).trans ((lkN h2).trans rfl)
theorem tF_put {n : Nat} : putF "rounds" (nV n) (putF "pairs" (.ref k) []) = tF k n := by
  show putF "rounds" (nV n) [("pairs", V.ref k)] = _
  rw [ptN (by decide +kernel)]
  rfl
theorem tF_rput {n m : Nat} : putF "rounds" (nV m) (tF k n) = tF k m := by
  rw [ptN (by decide +kernel), pt0]
end
end Fr
/-! Loops and rules that the layer lacks. -/
namespace Fr
open PySem PySem.Spec PyProof.Rows L2 Evl
/-- for j in reversed(range(n)): Pv k: the places from k on are done -/
theorem rev_loop {n j : Nat} {tb : TS} {D : Ends} {σ : L2.St} {H : Hp} (Pv : Nat → L2.St → Hp → Prop) (h0 : Pv n σ H)
    (hs : ∀ k σ H, k < n → Pv (k + 1) σ H → tb { D with nx := Pv k, ct := Pv k, bk := D.nx } (σ.set j (some (nV k))) H) (hd : ∀ σ H, Pv 0 σ H → D.nx σ H) :
    ∃ W : Nat → Nat → L2.St → Hp → Prop, (∃ m, W 0 m σ H) ∧ ∀ i m σ H, W i m σ H →
      ((Itc (0 + ((((n : Int) - 0).toNat : Nat) : Int) - 1) (-1) ((n : Int) - 0).toNat).stop i H ∧ D.nx σ H) ∨ ((Itc (0 + ((((n : Int) - 0).toNat : Nat) : Int) - 1) (-1) ((n : Int) - 0).toNat).go i H ∧
        ∃ N : L2.St → Hp → Prop, (∀ σ' H', N σ' H' → ∃ m', m' < m ∧ W (i + 1) m' σ' H') ∧ ∀ x H', (Itc (0 + ((((n : Int) - 0).toNat : Nat) : Int) - 1) (-1) ((n : Int) - 0).toNat).yld i H x H' → gName j x σ H' fun σ2 H2 => tb { D with nx := N, ct := N, bk := D.nx } σ2 H2) := by
  have e : ((n : Int) - 0).toNat = n := by omega
  rw [e]
  refine for_rangeC (lo := 0 + (n : Int) - 1) (c := -1) (n := n) (fun i σ H => Pv (n - i) σ H) h0 (fun i σ H hi p => ?_) (fun σ H p => ?_)
  · have ek : n - i = (n - (i + 1)) + 1 := by omega
    have p' : Pv (n - (i + 1) + 1) σ H := by rw [← ek]; exact p
    have q := hs (n - (i + 1)) σ H (by omega) p'
    have ev : V.int (0 + (n : Int) - 1 + (i : Nat) * (-1)) = nV (n - (i + 1)) := by
      show V.int _ = V.int _
      congr 1
      omega
    show tb _ (σ.set j (some (V.int (0 + (n : Int) - 1 + (i : Nat) * (-1))))) H
    rw [ev]
    exact q
  · rw [Nat.sub_self] at p
    exact hd σ H p
section
variable {K : PySem.W.Frag} {σ : L2.St} {H H' : Hp} {ta tb te : TE} {v : V} {D : Ends} {tu tz : TS}
theorem s_rev {n j : Nat} (h : Ev te σ H (nV n)) (hn : n ≤ 1000000) (Pv : Nat → L2.St → Hp → Prop) (h0 : ∀ H1, Ex H H1 → Pv n σ H1)
    (hs : ∀ k σ H, k < n → Pv (k + 1) σ H → tu { D with nx := Pv k, ct := Pv k, bk := D.nx } (σ.set j (some (nV k))) H) (hd : ∀ σ H, Pv 0 σ H → D.nx σ H) : tFor (iRevR (tRg1 te)) (gName j) tu D σ H :=
  h H (Ex.refl H) _ fun H1 e => ⟨_, rfl, by omega, by omega, by omega, by omega, rev_loop Pv (h0 H1 e) hs hd⟩
theorem q_rev {n j : Nat} (h : Ev te σ H (nV n)) (hn : n ≤ 1000000) (Pv : Nat → L2.St → Hp → Prop) (h0 : ∀ H1, Ex H H1 → Pv n σ H1)
    (hs : ∀ k σ H, k < n → Pv (k + 1) σ H → tu { D with nx := Pv k, ct := Pv k, bk := tz D } (σ.set j (some (nV k))) H) (hd : ∀ σ H, Pv 0 σ H → tz D σ H) : tSeq (tFor (iRevR (tRg1 te)) (gName j) tu) tz D σ H :=
  s_rev (D := { D with nx := tz D }) h hn Pv h0 hs hd
end
theorem flat_rep {α : Type} (x : α) : ∀ n : Nat, (List.replicate n [x]).flatten = List.replicate n x
  | 0 => rfl
  | n + 1 => by rw [List.replicate_succ, List.flatten_cons, flat_rep x n, List.replicate_succ]; rfl
theorem nat_at {xs : List V} {i : Nat} {v : V} (h : xs[i]? = some v) : atI xs (i : Int) = some v := atI_nat h
theorem ixN_of {n j : Nat} (hj : j < n) : ixN n (j : Int) = some j := Evl.ixN_nat hj
theorem inV_two (n i j : Int) : inV (.int n) [.int i, .int j] = (decide (i = n) || decide (j = n)) := by
  rw [Bool.eq_iff_iff]
  simp [inV, eqV]
theorem ifT {c : Bool} {A B : Prop} (hc : c = true) (h : A) : if c = true then A else B := by
  rw [if_pos hc]; exact h
theorem ifF {c : Bool} {A B : Prop} (hc : c = false) (h : B) : if c = true then A else B := by
  rw [hc, if_neg Bool.false_ne_true]; exact h
section
variable {K : PySem.W.Frag} {σ : L2.St} {H H' : Hp} {ta tb te : TE} {v : V} {D : Ends} {tu tz : TS}
/-- [x] * n -/
theorem el_rep {n : Nat} (ha : Ev ta σ H v) (hb : Ev tb σ H (nV n)) (hn : n ≤ sizeLine) : EvL (tOp rRep (tLst (tCons ta tNil)) tb) σ H (List.replicate n v) := fun H1 e Q q =>
  ha H1 e _ fun H2 e2 => ⟨(by show 1 ≤ sizeLine; decide), fun t ht => hb _ ((e.trans e2).trans (Ex.new ht)) _ fun H3 e3 =>
    ⟨t, _, _, rfl, rfl, e3 _ _ upd_same, by omega, (by have : sizeLine = 16777216 := sizeLine_eq; omega), (by show 1 * (n : Int).toNat ≤ sizeLine; omega), fun p hp => by
      have hf : (List.replicate (n : Int).toNat [v]).flatten = List.replicate n v := by rw [flat_rep]; simp
      rw [hf]
      exact q p _ (fresh_back ((e2.trans (Ex.new ht)).trans e3) hp) (((e2.trans (Ex.new ht)).trans e3).trans (Ex.new hp)) upd_same⟩⟩
/-- len(xs) as the rule gives it -/
theorem ev_lenL {a : Addr} {xs : List V} {n : Nat} (ha : Ev ta σ H (.ref a)) (h : SqL K H a xs) (hn : xs.length = n) : Ev (tCB (fun xs H Q => ∃ p ys, xs = [.ref p] ∧ (SqL K H p ys ∨ SqT K H p ys) ∧ Q (.int ys.length) H) (tCons ta tNil)) σ H (nV n) := by
  subst hn
  exact ev_len ha h
theorem ev_add {i j : Nat} (ha : Ev ta σ H (nV i)) (hb : Ev tb σ H (nV j)) : Ev (tOp (rI0 fun i j => .int (i + j)) ta tb) σ H (nV (i + j)) := by
  have e : nV (i + j) = V.int ((i : Int) + (j : Int)) := by show V.int _ = V.int _; congr 1
  rw [e]
  exact ev_op ha hb rv_I0
theorem ev_ixL {a : Addr} {xs : List V} {i : Nat} (ha : Ev ta σ H (.ref a)) (hb : Ev tb σ H (nV i)) (h : SqL K H a xs) (hi : xs[i]? = some v) : Ev (tOp (rIxL K) ta tb) σ H v := ev_op ha hb (rv_ixL h (atI_nat hi))
theorem ev_ixLast {a : Addr} {xs : List V} (ha : Ev ta σ H (.ref a)) (hb : Ev tb σ H (.int (-1))) (h : SqL K H a xs) (hi : xs.getLast? = some v) : Ev (tOp (rIxL K) ta tb) σ H v := ev_op ha hb (rv_ixL h (by
    obtain ⟨r, rfl⟩ := List.getLast?_eq_some_iff.mp hi
    exact atI_last r v))
theorem ev_ixT {a : Addr} {xs : List V} {i : Nat} (ha : Ev ta σ H (.ref a)) (hb : Ev tb σ H (nV i)) (h : SqT K H a xs) (hi : xs[i]? = some v) : Ev (tOp (rIxT K) ta tb) σ H v := ev_op ha hb (rv_ixT h (atI_nat hi))
theorem ev_one : Ev (tC (.int 1)) σ H (nV 1) := ev_c
theorem ev_zero : Ev (tC (.int 0)) σ H (nV 0) := ev_c
theorem ev_m1 : Ev (tUn (rU fun i => .int (-i)) (tC (.int 1))) σ H (.int (-1)) := ev_un ev_c ru_neg
/-- an attribute -/
theorem ev_fld {a C dx : Addr} {fs : List (Str × V)} {f : Str} (ha : Ev ta σ H (.ref a)) (h : H a = some (.ins C dx fs)) (c : Cls K C) (n : NoAttr K C f) (l : fs.lookup f = some v) : Ev (tFld K ta f) σ H v := fun H1 e Q q =>
  ha H1 e _ fun H2 e2 => ⟨a, C, dx, fs, v, rfl, e2 _ _ (e _ _ h), c, n, l, q H2 e2⟩
/-- what a def gives, the heap growing: P of the value, the heap ahead and behind -/
def EvP (te : TE) (σ : L2.St) (H : Hp) (P : V → Hp → Hp → Prop) : Prop := ∀ H1, Ex H H1 → ∀ Q : VK, (∀ v H2, Ex H1 H2 → P v H1 H2 → Q v H2) → te σ H1 Q
theorem Ev.p {P : V → Hp → Hp → Prop} (h : Ev te σ H v) (hp : ∀ H1 H2, Ex H H1 → Ex H1 H2 → P v H1 H2) : EvP te σ H P := fun H1 e Q q => h H1 e Q fun H2 e2 => q v H2 e2 (hp H1 H2 e e2)
theorem s_asgP {i : Nat} {P : V → Hp → Hp → Prop} (h : EvP te σ H P) (k : ∀ v H1, Ex H H1 → P v H H1 → D.nx (σ.set i (some v)) H1) : tAsg te (gName i) D σ H := h H (Ex.refl H) _ fun v H1 e p => k v H1 e p
theorem q_asgP {i : Nat} {P : V → Hp → Hp → Prop} (h : EvP te σ H P) (k : ∀ v H1, Ex H H1 → P v H H1 → tz D (σ.set i (some v)) H1) : tSeq (tAsg te (gName i)) tz D σ H := h H (Ex.refl H) _ fun v H1 e p => k v H1 e p
theorem s_retP {P : V → Hp → Hp → Prop} (h : EvP te σ H P) (k : ∀ v H1, Ex H H1 → P v H H1 → D.rt v H1) : tRet te D σ H := h H (Ex.refl H) _ fun v H1 e p => k v H1 e p
theorem et_cmp {r : R2} {x y : V} {b : Bool} (ha : Ev ta σ H x) (hb : Ev tb σ H y) (hr : RV r x y H (.bl b)) : EvT (tTest (tOp r ta tb)) σ H b := et_test (ev_op ha hb hr)
theorem rv_eqN {i j : Nat} : RV rEq (nV i) (nV j) H (.bl (decide (i = j))) := by
  have e : decide (i = j) = decide (nV i = nV j) := by
    rw [Bool.eq_iff_iff, decide_eq_true_iff, decide_eq_true_iff]
    constructor
    · intro h; rw [h]
    · intro h
      have := V.int.inj h
      omega
  rw [e]
  exact rv_eq rfl
theorem rv_neN {i j : Nat} : RV rNe (nV i) (nV j) H (.bl (!decide (i = j))) := by
  have e : decide (i = j) = decide (nV i = nV j) := by
    rw [Bool.eq_iff_iff, decide_eq_true_iff, decide_eq_true_iff]
    constructor
    · intro h; rw [h]
    · intro h
      have := V.int.inj h
      omega
  rw [e]
  exact rv_ne rfl
theorem rv_ltN {i j : Nat} : RV (rI0 fun i j => .bl (decide (i < j))) (nV i) (nV j) H (.bl (decide (i < j))) := by
  have e : decide (i < j) = decide ((i : Int) < (j : Int)) := by
    rw [Bool.eq_iff_iff, decide_eq_true_iff, decide_eq_true_iff]; omega
  rw [e]
  exact rv_I0
theorem rv_leN {i j : Nat} : RV (rI0 fun i j => .bl (decide (i ≤ j))) (nV i) (nV j) H (.bl (decide (i ≤ j))) := by
  have e : decide (i ≤ j) = decide ((i : Int) ≤ (j : Int)) := by
    rw [Bool.eq_iff_iff, decide_eq_true_iff, decide_eq_true_iff]; omega
  rw [e]
  exact rv_I0
theorem rv_gtN {i j : Nat} : RV (rI0 fun i j => .bl (decide (j < i))) (nV i) (nV j) H (.bl (decide (j < i))) := by
  have e : decide (j < i) = decide ((j : Int) < (i : Int)) := by
    rw [Bool.eq_iff_iff, decide_eq_true_iff, decide_eq_true_iff]; omega
  rw [e]
  exact rv_I0
/-- a call of a def that gives a value, the heap growing -/
theorem ev_callV {sp : Sp} {E : XK} {ta : TA} {vs : List V} (h : EvA ta σ H vs) (hs : ∀ H1, Ex H H1 → ∀ Q : VK, (∀ H2, Ex H1 H2 → Q v H2) → sp vs H1 Q E) : Ev (tCall sp [] E ta) σ H v := fun H1 e Q q =>
  h H1 e _ fun H2 e2 => by
    show sp (vs ++ []) H2 Q E
    rw [List.append_nil]
    exact hs H2 (e.trans e2) Q fun H3 e3 => q H3 (e2.trans e3)
theorem ev_callP {sp : Sp} {E : XK} {ta : TA} {vs : List V} {P : V → Hp → Hp → Prop} (h : EvA ta σ H vs) (hm : ∀ v H1 H2 H3, Ex H1 H2 → P v H2 H3 → P v H1 H3) (hs : ∀ H1, Ex H H1 → ∀ Q : VK, (∀ v H2, Ex H1 H2 → P v H1 H2 → Q v H2) → sp vs H1 Q E) : EvP (tCall sp [] E ta) σ H P := fun H1 e Q q =>
  h H1 e _ fun H2 e2 => by
    show sp (vs ++ []) H2 Q E
    rw [List.append_nil]
    exact hs H2 (e.trans e2) Q fun v H3 e3 p => q v H3 (e2.trans e3) (hm v H1 H2 H3 e2 p)
/-- a method's call -/
theorem ev_methV {a C dx : Addr} {fs : List (Str × V)} {m : Str} {sp : Sp} {E : XK} {to : TE} {ta : TA} {vs : List V} (ho : Ev to σ H (.ref a)) (hi : H a = some (.ins C dx fs)) (hm : fs.lookup m = none) (h : EvA ta σ H vs)
    (hs : ∀ H1, Ex H H1 → ∀ Q : VK, (∀ H2, Ex H1 H2 → Q v H2) → sp (.ref a :: vs) H1 Q E) : Ev (tMeth C m sp [] E to ta) σ H v := fun H1 e Q q =>
  ho H1 e _ fun H2 e2 => ⟨a, dx, fs, rfl, e2 _ _ (e _ _ hi), hm, h H2 (e.trans e2) _ fun H3 e3 => by
    show sp (.ref a :: (vs ++ [])) H3 Q E
    rw [List.append_nil]
    exact hs H3 ((e.trans e2).trans e3) Q fun H4 e4 => q H4 ((e2.trans e3).trans e4)⟩
theorem ev_methP {a C dx : Addr} {fs : List (Str × V)} {m : Str} {sp : Sp} {E : XK} {to : TE} {ta : TA} {vs : List V} {P : V → Hp → Hp → Prop} (ho : Ev to σ H (.ref a)) (hi : H a = some (.ins C dx fs)) (hm : fs.lookup m = none) (h : EvA ta σ H vs)
    (hmm : ∀ v H1 H2 H3, Ex H1 H2 → P v H2 H3 → P v H1 H3) (hs : ∀ H1, Ex H H1 → ∀ Q : VK, (∀ v H2, Ex H1 H2 → P v H1 H2 → Q v H2) → sp (.ref a :: vs) H1 Q E) : EvP (tMeth C m sp [] E to ta) σ H P := fun H1 e Q q =>
  ho H1 e _ fun H2 e2 => ⟨a, dx, fs, rfl, e2 _ _ (e _ _ hi), hm, h H2 (e.trans e2) _ fun H3 e3 => by
    show sp (.ref a :: (vs ++ [])) H3 Q E
    rw [List.append_nil]
    exact hs H3 ((e.trans e2).trans e3) Q fun v H4 e4 p => q v H4 ((e2.trans e3).trans e4) (hmm v H1 H3 H4 (e2.trans e3) p)⟩
theorem q_par {i j : Nat} {ta : TA} {x y : V} (h : EvA ta σ H [x, y]) (k : ∀ H1, Ex H H1 → tz D ((σ.set i (some x)).set j (some y)) H1) : tSeq (tPar i j ta) tz D σ H := h H (Ex.refl H) _ fun H1 e => ⟨x, y, rfl, k H1 e⟩
theorem gcall {sp : Sp} {E : XK} {ta : TA} {vs : List V} {Q : VK} (h : EvA ta σ H vs) (k : ∀ H1, Ex H H1 → sp vs H1 Q E) : tCall sp [] E ta σ H Q := h H (Ex.refl H) _ fun H1 e => by
  show sp (vs ++ []) H1 Q E
  rw [List.append_nil]
  exact k H1 e
theorem gmeth {a C dx : Addr} {fs : List (Str × V)} {m : Str} {sp : Sp} {E : XK} {to : TE} {ta : TA} {vs : List V} {Q : VK} (ho : Ev to σ H (.ref a)) (hi : H a = some (.ins C dx fs)) (hm : fs.lookup m = none) (h : EvA ta σ H vs)
    (k : ∀ H1, Ex H H1 → sp (.ref a :: vs) H1 Q E) : tMeth C m sp [] E to ta σ H Q := ho H (Ex.refl H) _ fun H1 e1 => ⟨a, dx, fs, rfl, e1 _ _ hi, hm, h H1 e1 _ fun H2 e2 => by
  show sp (.ref a :: (vs ++ [])) H2 Q E
  rw [List.append_nil]
  exact k H2 (e1.trans e2)⟩
theorem ea_1 {x : V} (h : Ev ta σ H x) : EvA (tCons ta tNil) σ H [x] := ea_cons h ea_nil
theorem ea_2 {tb : TE} {x y : V} (h : Ev ta σ H x) (h2 : Ev tb σ H y) : EvA (tCons ta (tCons tb tNil)) σ H [x, y] := ea_cons h (ea_1 h2)
theorem ea_3 {tb tc : TE} {x y z : V} (h : Ev ta σ H x) (h2 : Ev tb σ H y) (h3 : Ev tc σ H z) : EvA (tCons ta (tCons tb (tCons tc tNil))) σ H [x, y, z] := ea_cons h (ea_2 h2 h3)
theorem ea_4 {tb tc td : TE} {x y z u : V} (h : Ev ta σ H x) (h2 : Ev tb σ H y) (h3 : Ev tc σ H z) (h4 : Ev td σ H u) : EvA (tCons ta (tCons tb (tCons tc (tCons td tNil)))) σ H [x, y, z, u] := ea_cons h (ea_3 h2 h3 h4)
/-- x in (a, b) of numbers -/
theorem ev_in2 {n i j : Nat} {tc : TE} (h : Ev tc σ H (nV n)) (ha : Ev ta σ H (nV i)) (hb : Ev tb σ H (nV j)) : Ev (tOp (rIn K false) tc (tTup (tCons ta (tCons tb tNil)))) σ H (.bl (decide (n = i ∨ n = j))) := by
  have e : decide (n = i ∨ n = j) = inV (nV n) [nV i, nV j] := by
    rw [inV_two, Bool.eq_iff_iff, Bool.or_eq_true, decide_eq_true_iff, decide_eq_true_iff, decide_eq_true_iff]
    omega
  rw [e]
  exact ev_inU h (eu_tup (ea_2 ha hb) (by decide : 2 ≤ 100000)) rfl rfl
/-- xs.append(e), a list of any length -/
theorem z_appP {l : Addr} {xs : List V} {P : V → Hp → Hp → Prop} (hl : H l = some (.lst xs)) (ha : Ev ta σ H (.ref l)) (h : EvP te σ H P) (hz : xs.length < sizeLine) (hm : ∀ v H1 H2 H3, Ex H1 H2 → P v H2 H3 → P v H1 H3) (k : ∀ v H1, Ex H H1 → P v H H1 → D.nx σ (upd H1 l (.lst (xs ++ [v])))) :
    tDrop (tBM K "list" rAppend ta (tCons te tNil)) D σ H := ha H (Ex.refl H) _ fun H1 e1 =>
  ⟨.inl ⟨rfl, xs, sq_of (e1 l _ hl)⟩, h H1 e1 _ fun v H2 e2 p => ⟨l, xs, v, rfl, rfl, e2 l _ (e1 l _ hl), hz, k v H2 (e1.trans e2) (hm v H H1 H2 e1 p)⟩⟩
theorem z_app {l : Addr} {xs : List V} (hl : H l = some (.lst xs)) (ha : Ev ta σ H (.ref l)) (h : Ev te σ H v) (hz : xs.length < sizeLine) (k : ∀ H1, Ex H H1 → D.nx σ (upd H1 l (.lst (xs ++ [v])))) :
    tDrop (tBM K "list" rAppend ta (tCons te tNil)) D σ H := ha H (Ex.refl H) _ fun H1 e1 =>
  ⟨.inl ⟨rfl, xs, sq_of (e1 l _ hl)⟩, h H1 e1 _ fun H2 e2 => ⟨l, xs, v, rfl, rfl, e2 l _ (e1 l _ hl), hz, k H2 (e1.trans e2)⟩⟩
/-- xs.extend(ys), ys a new list -/
theorem z_extP {l : Addr} {xs : List V} {P : List V → Hp → Prop} (hl : H l = some (.lst xs)) (ha : Ev ta σ H (.ref l)) (h : EvP te σ H fun v H1 H2 => ∃ b zs, v = .ref b ∧ H1 b = none ∧ H2 b = some (.lst zs) ∧ xs.length + zs.length ≤ sizeLine ∧ P zs H2)
    (k : ∀ zs H1, Ex H H1 → P zs H1 → D.nx σ (upd H1 l (.lst (xs ++ zs)))) :
    tDrop (tBM K "list" rExtend ta (tCons te tNil)) D σ H := ha H (Ex.refl H) _ fun H1 e1 =>
  ⟨.inl ⟨rfl, xs, sq_of (e1 l _ hl)⟩, h H1 e1 _ fun v H2 e2 ⟨b, zs, ev, n, hb, hz, p⟩ => ⟨l, b, xs, zs, rfl, by rw [ev], e2 l _ (e1 l _ hl), hb, hz, k zs H2 (e1.trans e2) p⟩⟩
theorem q_extP {l : Addr} {xs : List V} {P : List V → Hp → Prop} (hl : H l = some (.lst xs)) (ha : Ev ta σ H (.ref l)) (h : EvP te σ H fun v H1 H2 => ∃ b zs, v = .ref b ∧ H1 b = none ∧ H2 b = some (.lst zs) ∧ xs.length + zs.length ≤ sizeLine ∧ P zs H2)
    (k : ∀ zs H1, Ex H H1 → P zs H1 → tz D σ (upd H1 l (.lst (xs ++ zs)))) : tSeq (tDrop (tBM K "list" rExtend ta (tCons te tNil))) tz D σ H := z_extP (D := { D with nx := tz D }) hl ha h k
theorem EvU.p {xs : List V} (h : EvU te σ H xs) : EvP te σ H fun v H1 H2 => ∃ p, v = .ref p ∧ H1 p = none ∧ H2 p = some (.tup xs) := fun H1 e Q q => h H1 e Q fun p H2 n e2 hp => q _ H2 e2 ⟨p, rfl, n, hp⟩
theorem EvL.p {xs : List V} (h : EvL te σ H xs) : EvP te σ H fun v H1 H2 => ∃ p, v = .ref p ∧ H1 p = none ∧ H2 p = some (.lst xs) := fun H1 e Q q => h H1 e Q fun p H2 n e2 hp => q _ H2 e2 ⟨p, rfl, n, hp⟩
theorem EvP.imp {P P' : V → Hp → Hp → Prop} (h : EvP te σ H P) (i : ∀ v H1 H2, Ex H H1 → Ex H1 H2 → P v H1 H2 → P' v H1 H2) : EvP te σ H P' := fun H1 e Q q => h H1 e Q fun v H2 e2 p => q v H2 e2 (i v H1 H2 e e2 p)
theorem EvP.mono {P : V → Hp → Hp → Prop} (e : Ex H H') (h : EvP te σ H P) : EvP te σ H' P := fun H1 a Q q => h H1 (e.trans a) Q q
end
section
variable {K : PySem.W.Frag} {σ : L2.St} {H H' : Hp} {ta tb te t1 t2 t3 t4 : TE} {v : V} {D : Ends} {tu tz : TS}
/-- what an expression gives, by what holds of it and goes on holding -/
def Mono (P : V → Hp → Prop) : Prop := ∀ v H H', Ex H H' → P v H → P v H'
def EvQ (te : TE) (σ : L2.St) (H : Hp) (P : V → Hp → Prop) : Prop := ∀ H1, Ex H H1 → ∀ Q : VK, (∀ v H2, Ex H1 H2 → P v H2 → Q v H2) → te σ H1 Q
theorem Ev.q (h : Ev te σ H v) : EvQ te σ H fun u _ => u = v := fun H1 e Q q => h H1 e Q fun H2 e2 => q v H2 e2 rfl
theorem mono_eq {v : V} : Mono fun u _ => u = v := fun _ _ _ _ h => h
theorem EvP.q {P : V → Hp → Hp → Prop} {P' : V → Hp → Prop} (h : EvP te σ H P) (i : ∀ v H1 H2, P v H1 H2 → P' v H2) : EvQ te σ H P' := fun H1 e Q q => h H1 e Q fun v H2 e2 p => q v H2 e2 (i v H1 H2 p)
theorem EvQ.mono {P : V → Hp → Prop} (e : Ex H H') (h : EvQ te σ H P) : EvQ te σ H' P := fun H1 a Q q => h H1 (e.trans a) Q q
theorem gcall1 {sp : Sp} {E : XK} {Q : VK} {P1 : V → Hp → Prop} (h1 : EvQ t1 σ H P1) (k : ∀ x H1, Ex H H1 → P1 x H1 → sp [x] H1 Q E) : tCall sp [] E (tCons t1 tNil) σ H Q :=
  h1 H (Ex.refl H) _ fun x H1 e1 p1 => k x H1 e1 p1
theorem gcall3 {sp : Sp} {E : XK} {Q : VK} {P1 P2 P3 : V → Hp → Prop} (h1 : EvQ t1 σ H P1) (m1 : Mono P1) (h2 : EvQ t2 σ H P2) (m2 : Mono P2) (h3 : EvQ t3 σ H P3) (k : ∀ x y z H1, Ex H H1 → P1 x H1 → P2 y H1 → P3 z H1 → sp [x, y, z] H1 Q E) :
    tCall sp [] E (tCons t1 (tCons t2 (tCons t3 tNil))) σ H Q :=
  h1 H (Ex.refl H) _ fun x H1 e1 p1 => h2 H1 e1 _ fun y H2 e2 p2 => h3 H2 (e1.trans e2) _ fun z H3 e3 p3 => k x y z H3 ((e1.trans e2).trans e3) (m1 _ _ _ (e2.trans e3) p1) (m2 _ _ _ e3 p2) p3
theorem gcall4 {sp : Sp} {E : XK} {Q : VK} {P1 P2 P3 P4 : V → Hp → Prop} (h1 : EvQ t1 σ H P1) (m1 : Mono P1) (h2 : EvQ t2 σ H P2) (m2 : Mono P2) (h3 : EvQ t3 σ H P3) (m3 : Mono P3) (h4 : EvQ t4 σ H P4)
    (k : ∀ x y z u H1, Ex H H1 → P1 x H1 → P2 y H1 → P3 z H1 → P4 u H1 → sp [x, y, z, u] H1 Q E) : tCall sp [] E (tCons t1 (tCons t2 (tCons t3 (tCons t4 tNil)))) σ H Q :=
  h1 H (Ex.refl H) _ fun x H1 e1 p1 => h2 H1 e1 _ fun y H2 e2 p2 => h3 H2 (e1.trans e2) _ fun z H3 e3 p3 => h4 H3 ((e1.trans e2).trans e3) _ fun u H4 e4 p4 =>
    k x y z u H4 (((e1.trans e2).trans e3).trans e4) (m1 _ _ _ ((e2.trans e3).trans e4) p1) (m2 _ _ _ (e3.trans e4) p2) (m3 _ _ _ e4 p3) p4
/-- [e] -/
theorem ep_lst1 {P : V → Hp → Prop} (h : EvQ te σ H P) : EvP (tLst (tCons te tNil)) σ H fun u H1 H2 => ∃ v l H0, u = .ref l ∧ H1 l = none ∧ H0 l = none ∧ Ex H1 H0 ∧ Ex H0 H2 ∧ P v H0 ∧ H2 l = some (.lst [v]) := fun H1 e Q q =>
  h H1 e _ fun v H2 e2 p => ⟨(by show 1 ≤ sizeLine; decide), fun l nl => q _ _ (e2.trans (Ex.new nl)) ⟨v, l, H2, rfl, fresh_back e2 nl, nl, e2, Ex.new nl, p, upd_same⟩⟩
/-- xs + ys -/
theorem ep_cat {P R : List V → Hp → Prop} (h1 : EvQ ta σ H fun v H1 => ∃ a xs, v = .ref a ∧ H1 a = some (.lst xs) ∧ P xs H1) (h2 : EvQ tb σ H fun v H1 => ∃ a xs, v = .ref a ∧ H1 a = some (.lst xs) ∧ R xs H1) (hz : ∀ xs ys H1 H2, P xs H1 → R ys H2 → xs.length + ys.length ≤ sizeLine)
    (mp : ∀ xs H1 H2, Ex H1 H2 → P xs H1 → P xs H2) (mr : ∀ xs H1 H2, Ex H1 H2 → R xs H1 → R xs H2) : EvP (tOp rCat ta tb) σ H fun v H1 H2 => ∃ l xs ys, v = .ref l ∧ H1 l = none ∧ H2 l = some (.lst (xs ++ ys)) ∧ P xs H2 ∧ R ys H2 := fun H1 e Q q =>
  h1 H1 e _ fun v H2 e2 ⟨a, xs, ev, ha, p⟩ => h2 H2 (e.trans e2) _ fun u H3 e3 ⟨b, ys, eu, hb, r⟩ => ⟨a, b, xs, ys, ev, eu, e3 _ _ ha, hb, hz xs ys _ _ p r, fun l nl =>
    q _ _ ((e2.trans e3).trans (Ex.new nl)) ⟨l, xs, ys, rfl, fresh_back (e2.trans e3) nl, upd_same, mp _ _ _ (e3.trans (Ex.new nl)) p, mr _ _ _ (Ex.new nl) r⟩⟩
end
/-- a table filled from the last place on, each place as R says -/
def FilledR (R : Nat → V → Prop) (n k : Nat) (xs : List V) : Prop := xs.length = n ∧ ∀ i, k ≤ i → i < n → ∃ v, xs[i]? = some v ∧ R i v
theorem FilledR.start {R : Nat → V → Prop} {n : Nat} {xs : List V} (h : xs.length = n) : FilledR R n n xs := ⟨h, fun i h1 h2 => by omega⟩
theorem FilledR.set {R : Nat → V → Prop} {n k : Nat} {xs : List V} {v : V} (h : FilledR R n (k + 1) xs) (hk : k < n) (e : R k v) : FilledR R n k (xs.set k v) := by
  refine ⟨by rw [List.length_set]; exact h.1, fun i h1 h2 => ?_⟩
  by_cases c : k = i
  · subst c
    exact ⟨v, List.getElem?_set_self (by rw [h.1]; exact hk), e⟩
  · rw [List.getElem?_set_ne c]
    exact h.2 i (by omega) h2
theorem FilledR.skip {R : Nat → V → Prop} {n k : Nat} {xs : List V} (h : FilledR R n (k + 1) xs) (e : ∃ v, xs[k]? = some v ∧ R k v) : FilledR R n k xs := by
  refine ⟨h.1, fun i h1 h2 => ?_⟩
  by_cases c : k = i
  · subst c; exact e
  · exact h.2 i (by omega) h2
theorem FilledR.imp {R R' : Nat → V → Prop} {n k : Nat} {xs : List V} (h : FilledR R n k xs) (i : ∀ i v, R i v → R' i v) : FilledR R' n k xs :=
  ⟨h.1, fun j h1 h2 => let ⟨v, e, r⟩ := h.2 j h1 h2; ⟨v, e, i j v r⟩⟩
end Fr
/-! processes: size, is_leaf, seconds_of, __init__. -/
namespace Fr
open PySem PySem.Spec PyProof.Rows L2 Evl
def spSize (K : PySem.W.Frag) (D : Ad) : Sp := fun vs H Q _ => ∃ (a : Addr) (p : Wf.P), vs = [.ref a] ∧ ProcAt K D.P G0 H a p ∧ Q (nV p.size) H
def spLeaf : Sp := fun vs H Q _ => ∃ n : Nat, vs = [nV n] ∧ ∀ H', Ex H H' → Q (.bl (decide (n ≤ 1))) H'
def spSeconds (K : PySem.W.Frag) : Sp := fun vs H Q _ => ∃ (a : Addr) (p : Wf.P), vs = [.ref a] ∧ NL K H a (kinds p) ∧ p.size ≤ 1000 ∧
  ∀ H' r, H r = none → Ex H H' → H' r = some (.lst ((secs 0 p).map nV)) → Q (.ref r) H'
def spPInit (K : PySem.W.Frag) (D : Ad) : Sp := fun vs H Q _ => ∃ (a dx k s : Addr) (p : Wf.P), vs = [.ref a, .ref k, .ref s] ∧ H a = some (.ins D.P dx []) ∧ H k = some (.lst ((kinds p).map nV)) ∧ p.size ≤ 1000 ∧
  ∀ H' c, H c = none → H' a = some (.ins D.P dx (pF k s c)) → H' c = some (.lst ((secs 0 p).map nV)) → (∀ b o, H b = some o → b ≠ a → H' b = some o) → Q .non H'
section
variable {P : Program} {w : World} {K : PySem.W.Frag} {mg : Str → Option Value} {base : Heap} {D : Ad} {f : Addr} {fd : FuncData}
theorem scSize : FnScope ["self"] ["self"] (defScope sSize) := ⟨rfl, rfl, rfl, by decide +kernel, rfl, by decide +kernel, by decide +kernel⟩
theorem ok_size (F : Fun K "size" "Process.size" sSize f fd) (T : Txt K mg D) : FnOk P w K mg base CX0 1 f fd ["self"] (spSize K D) := by
  refine F.ok scSize (fun vs H Q E h => ?_) (fun cdv A outer s H vs Q E hr h => ?_)
  · obtain ⟨a, p, rfl, _⟩ := h
    rfl
  · obtain ⟨a, p, rfl, ⟨_, dx, k, st, c, h0, _, _, _, h1, _, _⟩, q⟩ := h
    refine ⟨_, pss_one (ps_ret (pe_callB call_len_seq (by rfl) T.len PySem.boot_len (pa_cons (pe_fld (pv 0) rfl) pa_nil))), ?_⟩
    refine ⟨_, rfl, a, _, dx, _, _, rfl, h0, T.cP, T.pKinds, pF_kinds, k, _, rfl, .inl h1, ?_⟩
    rw [List.length_map, kinds_len]
    exact q
theorem scLeaf : FnScope ["kind"] ["kind"] (defScope sLeaf) := ⟨rfl, rfl, rfl, by decide +kernel, rfl, by decide +kernel, by decide +kernel⟩
theorem ok_leaf (F : Fun K "is_leaf" "is_leaf" sLeaf f fd) (T : Txt K mg D) : FnOk P w K mg base CX0 1 f fd ["kind"] spLeaf := by
  refine F.ok scLeaf (fun vs H Q E h => ?_) (fun cdv A outer s H vs Q E hr h => ?_)
  · obtain ⟨n, rfl, _⟩ := h
    rfl
  · obtain ⟨n, rfl, q⟩ := h
    refine ⟨_, pss_one (ps_ret (pe_cmpR op_in_seq (pv 0) (pe_tup (pa_cons (pe_ci T.STEP rfl) (pa_cons (pe_ci T.EMPTY rfl) pa_nil))) (by rfl))), ?_⟩
    refine s_ret (ev_in2 (ev_var rfl) ev_zero ev_one) fun H1 e1 => ?_
    have e : decide (n = 0 ∨ n = 1) = decide (n ≤ 1) := by
      rw [Bool.eq_iff_iff, decide_eq_true_iff, decide_eq_true_iff]; omega
    rw [e]
    exact q _ e1
/-- the place behind a node -/
def endAt (p : Wf.P) (i : Nat) : Nat := match (nodes p)[i]? with
  | some q => i + q.size
  | none => 0
def secF (p : Wf.P) (i : Nat) : Nat := match (nodes p)[i]? with
  | some q => secAt i q
  | none => 0
theorem secF_of {p q : Wf.P} {i : Nat} (h : (nodes p)[i]? = some q) : secF p i = secAt i q := by unfold secF; rw [h]
theorem endAt_of {p q : Wf.P} {i : Nat} (h : (nodes p)[i]? = some q) : endAt p i = i + q.size := by unfold endAt; rw [h]
theorem secs_filled (p : Wf.P) : Filled (fun i => nV (secF p i)) p.size 0 ((secs 0 p).map nV) := by
  refine ⟨by rw [List.length_map, secs_len], fun i _ hi => ?_⟩
  obtain ⟨q, hq⟩ := node_at p hi
  show _ = some (nV (secF p i))
  rw [List.getElem?_map, secs_get p 0 hq, secF_of hq, Nat.zero_add]
  rfl
theorem scSeconds : FnScope ["kinds", "found", "behind", "at"] ["kinds"] (defScope sSeconds) := ⟨rfl, rfl, rfl, by decide +kernel, rfl, by decide +kernel, by decide +kernel⟩
theorem ok_seconds (F : Fun K "seconds_of" "seconds_of" sSeconds f fd) (T : Txt K mg D) (hl : HasF P w K mg base "is_leaf" 1 ["kind"] spLeaf) : FnOk P w K mg base CX0 2 f fd ["kinds"] (spSeconds K) := by
  refine F.ok scSeconds (fun vs H Q E h => ?_) (fun cdv A outer s H vs Q E hr h => ?_)
  · obtain ⟨a, p, rfl, _⟩ := h
    rfl
  · obtain ⟨a, p, rfl, hk, hz, q⟩ := h
    have nd := scSeconds.nd
    refine ⟨_, pss_cons (ps_set (i := 1) nd rfl (.inl rfl) (pe_op op_rep (pe_lst (pa_cons pe_int pa_nil)) (pe_callB call_len_seq (by rfl) T.len PySem.boot_len (pa_cons (pv 0) pa_nil))))
      (pss_cons (ps_set (i := 2) nd rfl (.inl rfl) (pe_op op_rep (pe_lst (pa_cons pe_int pa_nil)) (pe_callB call_len_seq (by rfl) T.len PySem.boot_len (pa_cons (pv 0) pa_nil))))
      (pss_cons (ps_for PassesOwn.never rfl (pi_revR rfl T.reversed (prg_1 rfl T.range (pe_callB call_len_seq (by rfl) T.len PySem.boot_len (pa_cons (pv 0) pa_nil)))) (pg_name (i := 3) nd rfl (.inl rfl))
        (pss_one (ps_if (pt_val (pe_f hl hr rfl (pa_cons (pe_ix ix_list (pv 0) (pv 3) (fun _ _ => rfl)) pa_nil)))
          (pss_one (ps_asg (pe_op op_add (pv 3) pe_int) (pg_sub (pv 2) (pv 3) set_list)))
          (pss_cons (ps_asg (pe_ix ix_list (pv 2) (pe_op op_add (pv 3) pe_int) (fun _ _ => rfl)) (pg_sub (pv 1) (pv 3) set_list))
          (pss_one (ps_asg (pe_ix ix_list (pv 2) (pe_ix ix_list (pv 2) (pe_op op_add (pv 3) pe_int) (fun _ _ => rfl)) (fun _ _ => rfl)) (pg_sub (pv 2) (pv 3) set_list)))))))
      (pss_one (ps_ret (pv 1))))), ?_⟩
    have hkl : (List.map nV (kinds p)).length = p.size := by rw [List.length_map, kinds_len]
    have big : p.size ≤ sizeLine := Nat.le_trans hz (by decide)
    refine q_asgL (el_rep ev_zero (ev_lenL (ev_var rfl) hk hkl) big) fun l1 H1 n1 e1 h1 => ?_
    refine q_asgL (el_rep ev_zero (ev_lenL (ev_var rfl) (hk.ex e1) hkl) big) fun l2 H2 n2 e2 h2 => ?_
    have ne : l1 ≠ l2 := ne_of_none h1 n2
    have n2' := fresh_back e1 n2
    refine q_rev (ev_lenL (ev_var rfl) (hk.ex (e1.trans e2)) hkl) (by omega) (fun k σ H' => ∃ v xs ys, σ = [some (.ref a), some (.ref l1), some (.ref l2), v] ∧ Ex H H' ∧ H' l1 = some (.lst xs) ∧ H' l2 = some (.lst ys) ∧
      Filled (fun i => nV (secF p i)) p.size k xs ∧ (∀ i, i < k → xs[i]? = some (nV 0)) ∧ Filled (fun i => nV (endAt p i)) p.size k ys) (fun H3 e3 => ?_) (fun k σ H' hk' h => ?_) (fun σ H' h => ?_)
    · exact ⟨none, _, _, rfl, (e1.trans e2).trans e3, e3 _ _ (e2 _ _ h1), e3 _ _ h2, .start (by simp), fun i hi => by simp [hi], .start (by simp)⟩
    · obtain ⟨v, xs, ys, rfl, e, g1, g2, f1, fz, f2⟩ := h
      obtain ⟨x, hx⟩ := node_at p hk'
      have sx := secF_of hx
      have ex := endAt_of hx
      refine s_if (et_B (ev_callV (ea_1 (ev_ixL (ev_var rfl) (ev_var rfl) (hk.ex e) (nl_get (kinds_get hx)))) fun H4 _ Q q => ⟨_, rfl, q⟩)) (fun hb H4 e4 => ?_) (fun hb H4 e4 => ?_)
      · have hb' := kids_kind.mpr (of_decide_eq_true hb)
        refine s_setL (e4 _ _ g2) (ev_add (ev_var rfl) ev_one) (ev_var rfl) (ev_var rfl) (by rw [f2.1]; exact hk') fun H5 e5 => ?_
        refine ⟨_, xs, _, rfl, ((e.trans e4).trans e5).mut n2', by rw [upd_ne ne]; exact e5 _ _ (e4 _ _ g1), upd_same, f1.skip ?_, fun i hi => fz i (by omega), f2.set hk' ?_⟩
        · rw [sx, secAt_leaf hb']; exact fz k (by omega)
        · rw [ex, size_leaf hb']
      · have hb' : ∃ l r, kids x = some (l, r) := by
          cases q : kids x with
          | none => exact absurd (kids_kind.mp q) (of_decide_eq_false hb)
          | some y => exact ⟨y.1, y.2, rfl⟩
        obtain ⟨l, r, hx'⟩ := hb'
        obtain ⟨c1, c2⟩ := nodes_kids p hx hx'
        have zl := node_end p c1
        have zr := node_end p c2
        have pl := size_pos l
        have pr := size_pos r
        have y1 : ys[k + 1]? = some (nV (k + 1 + l.size)) := by rw [f2.at (by omega) (by omega), endAt_of c1]
        have y2 : ys[k + 1 + l.size]? = some (nV (k + 1 + l.size + r.size)) := by rw [f2.at (by omega) (by omega), endAt_of c2]
        refine q_setL (e4 _ _ g1) (ev_ixL (ev_var rfl) (ev_add (ev_var rfl) ev_one) (sq_of (e4 _ _ g2)) y1) (ev_var rfl) (ev_var rfl) (by rw [f1.1]; exact hk') fun H5 e5 => ?_
        have g2' : upd H5 l1 (.lst (xs.set k (nV (k + 1 + l.size)))) l2 = some (.lst ys) := by rw [upd_ne ne.symm]; exact e5 _ _ (e4 _ _ g2)
        refine s_setL g2' (ev_ixL (ev_var rfl) (ev_ixL (ev_var rfl) (ev_add (ev_var rfl) ev_one) (sq_of g2') y1) (sq_of g2') y2) (ev_var rfl) (ev_var rfl) (by rw [f2.1]; exact hk') fun H6 e6 => ?_
        refine ⟨_, _, _, rfl, ((((e.trans e4).trans e5).mut n1).trans e6).mut n2', by rw [upd_ne ne]; exact e6 _ _ upd_same, upd_same, f1.set hk' ?_, fun i hi => ?_, f2.set hk' ?_⟩
        · rw [sx, secAt_of hx']
        · rw [List.getElem?_set_ne (by omega)]; exact fz i (by omega)
        · rw [ex, size_of hx']; congr 1; omega
    · obtain ⟨v, xs, ys, rfl, e, g1, g2, f1, fz, f2⟩ := h
      have ex := f1.ext (secs_filled p)
      subst ex
      exact s_ret (ev_var rfl) fun H3 e3 => q H3 l1 n1 (e.trans e3) (e3 _ _ g1)
theorem scPInit : FnScope ["self", "kinds", "steps"] ["self", "kinds", "steps"] (defScope sPInit) := ⟨rfl, rfl, rfl, by decide +kernel, rfl, by decide +kernel, by decide +kernel⟩
theorem ok_pinit (F : Fun K "__init__" "Process.__init__" sPInit f fd) (T : Txt K mg D) (hs : HasF P w K mg base "seconds_of" 2 ["kinds"] (spSeconds K)) : FnOk P w K mg base CX0 3 f fd ["self", "kinds", "steps"] (spPInit K D) := by
  refine F.ok scPInit (fun vs H Q E h => ?_) (fun cdv A outer s H vs Q E hr h => ?_)
  · obtain ⟨a, dx, k, st, p, rfl, _⟩ := h
    rfl
  · obtain ⟨a, dx, k, st, p, rfl, ha, hk, hz, q⟩ := h
    refine ⟨_, pss_cons (ps_fld (pv 0) (pv 1) rfl) (pss_cons (ps_fld (pv 0) (pv 2) rfl) (pss_one (ps_fld (pv 0) (pe_f hs hr rfl (pa_cons (pv 1) pa_nil)) rfl))), ?_⟩
    have nk : k ≠ a := ne_of hk ha (by intro z; cases z)
    refine ⟨_, rfl, _, rfl, a, _, dx, _, rfl, ha, T.cP, T.pKinds, (by show 0 < 1000; decide), _, rfl, _, rfl, a, _, dx, _, rfl, upd_same, T.cP, T.pSteps, (by show 1 < 1000; decide), ?_⟩
    refine ⟨_, rfl, k, p, rfl, sq_of (by rw [upd_upd, upd_ne nk]; exact hk), hz, fun H1 c hc e hc1 => ?_⟩
    refine ⟨_, rfl, a, _, dx, _, rfl, e _ _ upd_same, T.cP, T.pSeconds, (by show 2 < 1000; decide), ?_⟩
    have nc : c ≠ a := by
      rintro rfl
      rw [upd_same] at hc
      cases hc
    rw [upd_upd, upd_ne nc] at hc
    refine q _ c hc ?_ (by rw [upd_ne nc]; exact hc1) fun b o hb ne => ?_
    · rw [upd_same, pF_put]
    · rw [upd_ne ne]
      exact e _ _ (by rw [upd_upd, upd_ne ne]; exact hb)
end
end Fr
/-! processes: read. -/
namespace Fr
open PySem PySem.Spec PyProof.Rows L2 Evl
def spRead (K : PySem.W.Frag) (D : Ad) : Sp := fun vs H Q _ => ∃ (a : Addr) (ns : List Nat), vs = [.ref a] ∧ NL K H a ns ∧ ns.length ≤ 100 ∧
  (Wf06.run? ns = none → ∀ H', Ex H H' → Q .non H') ∧ (∀ p, Wf06.run? ns = some p → ∀ H' r, Ex H H' → ProcAt K D.P H H' r p → Q (.ref r) H')
section
variable {P : Program} {w : World} {K : PySem.W.Frag} {mg : Str → Option Value} {base : Heap} {D : Ad} {f : Addr} {fd : FuncData}
theorem nl_snoc {xs : List Nat} {n : Nat} : xs.map nV ++ [nV n] = (xs ++ [n]).map nV := by rw [List.map_append]; rfl
theorem scRead : FnScope ["numbers", "kinds", "steps", "at", "wanted", "kind"] ["numbers"] (defScope sRead) := ⟨rfl, rfl, rfl, by decide +kernel, rfl, by decide +kernel, by decide +kernel⟩
theorem ok_read (F : Fun K "read" "read" sRead f fd) (T : Txt K mg D) (hl : HasF P w K mg base "is_leaf" 1 ["kind"] spLeaf) (hc : HasC P w K mg base "Process" D.P 3 ["self", "kinds", "steps"] (spPInit K D)) :
    FnOk P w K mg base CX0 5 f fd ["numbers"] (spRead K D) := by
  refine F.ok scRead (fun vs H Q E h => ?_) (fun cdv A outer s H vs Q E hr h => ?_)
  · obtain ⟨a, ns, rfl, _⟩ := h
    rfl
  · obtain ⟨a, ns, rfl, hk, hz, qn, qs⟩ := h
    have nd := scRead.nd
    have hr1 : Room 1 _ := hr.mono (by decide)
    refine ⟨_, pss_cons (ps_asg (pe_tup (pa_cons (pe_lst pa_nil) (pa_cons (pe_lst pa_nil) (pa_cons pe_int (pa_cons pe_int pa_nil))))) (pg_tup rfl (pgs_cons (pg_name (i := 1) nd rfl (.inl rfl)) (pgs_cons (pg_name (i := 2) nd rfl (.inl rfl)) (pgs_cons (pg_name (i := 3) nd rfl (.inl rfl)) (pgs_cons (pg_name (i := 4) nd rfl (.inl rfl)) pgs_nil))))))
      (pss_cons (ps_while PassesOwn.never (PW.pt (pw_and (pt_cmpR op_gt (pv 4) pe_int (nomark _)) (pw_and1 (pt_cmpR op_lt (pv 3) (pe_callB call_len_seq (by rfl) T.len PySem.boot_len (pa_cons (pv 0) pa_nil)) (nomark _)))))
        (pss_cons (ps_set (i := 5) nd rfl (.inl rfl) (pe_ix ix_list (pv 0) (pv 3) (fun _ _ => rfl)))
        (pss_cons (ps_if (PW.pt (pw_or (pt_cmpR op_gt (pv 5) (pe_ci T.LOOP rfl) (nomark _)) (pw_or1 (PW.pt (pw_and (pt_cmpR op_eq (pv 5) (pe_ci T.STEP rfl) (nomark _)) (pw_and1 (pt_cmpR op_eq (pe_op op_add (pv 3) pe_int) (pe_callB call_len_seq (by rfl) T.len PySem.boot_len (pa_cons (pv 0) pa_nil)) (nomark _))))))))
          (pss_one (ps_ret pe_non)) pss_nil)
        (pss_cons (ps_app (pv 1) (pv 5))
        (pss_cons (ps_app (pv 2) (pe_ifExp (pt_cmpR op_eq (pv 5) (pe_ci T.STEP rfl) (nomark _)) (pe_ix ix_list (pv 0) (pe_op op_add (pv 3) pe_int) (fun _ _ => rfl)) pe_int))
        (pss_cons (ps_set (i := 3) nd rfl (.inl rfl) (pe_op op_add (pv 3) (pe_ifExp (pt_cmpR op_eq (pv 5) (pe_ci T.STEP rfl) (nomark _)) pe_int pe_int)))
        (pss_one (ps_set (i := 4) nd rfl (.inl rfl) (pe_op op_add (pv 4) (pe_ifExp (pt_val (pe_f hl hr1 rfl (pa_cons (pv 5) pa_nil))) (pe_un un_neg pe_int) pe_int))))))))))
      (pss_one (ps_ret (pe_ifExp (PW.pt (pw_and (pt_cmpR op_eq (pv 4) pe_int (nomark _)) (pw_and1 (pt_cmpR op_eq (pv 3) (pe_callB call_len_seq (by rfl) T.len PySem.boot_len (pa_cons (pv 0) pa_nil)) (nomark _)))))
        (pe_c hc hr rfl (pa_cons (pv 1) (pa_cons (pv 2) pa_nil))) pe_non)))), ?_⟩
    refine ⟨(by show 0 ≤ sizeLine; decide), fun l1 n1 => ⟨(by show 0 ≤ sizeLine; decide), fun l2 n2 => ⟨(by show 4 ≤ sizeLine; decide), fun t0 n0 => ?_⟩⟩⟩
    refine ⟨t0, _, rfl, SqT.of upd_same, rfl, _, _, rfl, _, _, rfl, _, _, rfl, _, _, rfl, rfl, ?_⟩
    have ne : l1 ≠ l2 := ne_of_none upd_same n2
    have m2 : H l2 = none := fresh_back (Ex.new n1) n2
    have e0 : Ex H (upd (upd (upd H l1 (.lst [])) l2 (.lst [])) t0 (.tup [.ref l1, .ref l2, .int 0, .int 1])) := ((Ex.new n1).trans (Ex.new n2)).trans (Ex.new n0)
    have g1 : upd (upd (upd H l1 (.lst [])) l2 (.lst [])) t0 (.tup [.ref l1, .ref l2, .int 0, .int 1]) l1 = some (.lst []) := Ex.new n0 _ _ (Ex.new n2 _ _ upd_same)
    have g2 : upd (upd (upd H l1 (.lst [])) l2 (.lst [])) t0 (.tup [.ref l1, .ref l2, .int 0, .int 1]) l2 = some (.lst []) := Ex.new n0 _ _ upd_same
    generalize upd (upd (upd H l1 (.lst [])) l2 (.lst [])) t0 (.tup [.ref l1, .ref l2, .int 0, .int 1]) = H0 at e0 g1 g2 ⊢
    have hlen : (ns.map nV).length = ns.length := List.length_map ..
    refine q_while (fun m σ H' => ∃ (at' wa : Nat) (pre : List (Nat × Nat)) (v : Option V), σ = [some (.ref a), some (.ref l1), some (.ref l2), some (nV at'), some (nV wa), v] ∧ Ex H H' ∧ H' l1 = some (.lst ((pre.map (·.1)).map nV)) ∧ H' l2 = some (.lst ((pre.map (·.2)).map nV)) ∧
      at' ≤ ns.length ∧ pre.length ≤ at' ∧ m = ns.length - at' ∧ scan ns 1 = (scan (ns.drop at') wa).map (fun t => pre ++ t)) (ns.length - 0) ?_ (fun m σ H' h => ?_)
    · refine ⟨0, 1, [], none, rfl, e0, g1, g2, Nat.zero_le _, Nat.le_refl _, rfl, ?_⟩
      rw [List.drop_zero]
      cases scan ns 1 <;> rfl
    · obtain ⟨at', wa, pre, v, rfl, e, h1, h2, ha, hp, rfl, hs⟩ := h
      have evLen : ∀ {σ : L2.St} {H1 : Hp}, σ[0]? = some (some (.ref a)) → Ex H H1 → Ev (tCB (fun xs H Q => ∃ p ys, xs = [.ref p] ∧ (SqL K H p ys ∨ SqT K H p ys) ∧ Q (.int ys.length) H) (tCons (tVar 0) tNil)) σ H1 (nV ns.length) := fun h0 e1 => ev_lenL (ev_var h0) (hk.ex e1) hlen
      refine ⟨_, et_and (et_cmp (ev_var rfl) ev_zero rv_gtN) (fun _ => et_cmp (ev_var rfl) (evLen rfl e) rv_ltN), fun hb H1 e1 => ?_, fun hb H1 e1 => ?_⟩
      · rw [Bool.and_eq_true, decide_eq_true_iff, decide_eq_true_iff] at hb
        obtain ⟨hw, hat⟩ := hb
        obtain ⟨wa, rfl⟩ : ∃ k, wa = k + 1 := ⟨wa - 1, by omega⟩
        have hd : ns.drop at' = ns[at'] :: ns.drop (at' + 1) := List.drop_eq_getElem_cons hat
        have hg : ns[at']? = some ns[at'] := List.getElem?_eq_getElem hat
        rw [hd] at hs
        generalize ns[at'] = kd at hs hg hd
        refine ⟨fun σ2 H2 => ∃ m', m' < ns.length - at' ∧ ∃ (at' wa : Nat) (pre : List (Nat × Nat)) (v : Option V), σ2 = [some (.ref a), some (.ref l1), some (.ref l2), some (nV at'), some (nV wa), v] ∧ Ex H H2 ∧ H2 l1 = some (.lst ((pre.map (·.1)).map nV)) ∧ H2 l2 = some (.lst ((pre.map (·.2)).map nV)) ∧
          at' ≤ ns.length ∧ pre.length ≤ at' ∧ m' = ns.length - at' ∧ scan ns 1 = (scan (ns.drop at') wa).map (fun t => pre ++ t), fun _ _ h => h, ?_⟩
        have eA := e.trans e1
        refine q_asg (ev_ixL (ev_var rfl) (ev_var rfl) (hk.ex eA) (nl_get hg)) fun H2 e2 => ?_
        have eB := eA.trans e2
        refine q_when (et_or (et_cmp (ev_var rfl) (ev_c (v := nV 5)) rv_gtN) (fun _ => et_and (et_cmp (ev_var rfl) ev_zero rv_eqN) (fun _ => et_cmp (ev_add (ev_var rfl) ev_one) (evLen rfl eB) rv_eqN))) (fun hb H3 e3 => ?_) (fun hb H3 e3 => ?_)
        · refine s_ret ev_c fun H4 e4 => qn ?_ _ ((eB.trans e3).trans e4)
          have hn : scan ns 1 = none := by
            rw [hs]
            rw [Bool.or_eq_true, Bool.and_eq_true, decide_eq_true_iff, decide_eq_true_iff, decide_eq_true_iff] at hb
            rcases hb with hb | ⟨hb, hb'⟩
            · rw [scan_big hb]; rfl
            · rw [hb, List.drop_eq_nil_of_le (by omega), scan_step0]; rfl
          rw [scan_run, Option.map_eq_none_iff] at hn
          exact hn
        · rw [Bool.or_eq_false_iff, decide_eq_false_iff_not] at hb
          obtain ⟨hb5, hb0⟩ := hb
          have hpl : pre.length < 100000 := by omega
          have hl1 : ((pre.map (·.1)).map nV).length < 100000 := by simpa using hpl
          have hl2 : ((pre.map (·.2)).map nV).length < 100000 := by simpa using hpl
          refine q_app (e3 _ _ (e2 _ _ (e1 _ _ h1))) (ev_var rfl) (ev_var rfl) hl1 fun H4 e4 => ?_
          have eC : Ex H (upd H4 l1 (.lst ((pre.map (·.1)).map nV ++ [nV kd]))) := ((eB.trans e3).trans e4).mut n1
          have h24 : upd H4 l1 (.lst ((pre.map (·.1)).map nV ++ [nV kd])) l2 = some (.lst ((pre.map (·.2)).map nV)) := by
            rw [upd_ne ne.symm]; exact e4 _ _ (e3 _ _ (e2 _ _ (e1 _ _ h2)))
          -- the step's number
          have hst : kd = 0 → at' + 1 < ns.length := fun e => by
            rcases Nat.lt_or_ge (at' + 1) ns.length with h | h
            · exact h
            · rw [decide_eq_true e, Bool.true_and, decide_eq_false_iff_not] at hb0
              omega
          obtain ⟨s', hs'⟩ : ∃ s' : Nat, (kd = 0 → ns[at' + 1]? = some s') ∧ (kd ≠ 0 → s' = 0) := by
            by_cases e : kd = 0
            · exact ⟨ns[at' + 1]'(hst e), fun _ => List.getElem?_eq_getElem (hst e), fun h => absurd e h⟩
            · exact ⟨0, fun h => absurd h e, fun _ => rfl⟩
          refine q_app h24 (ev_var rfl) (ev_if (v := nV s') (et_cmp (ev_var rfl) ev_zero rv_eqN) (fun hk0 => ev_ixL (ev_var rfl) (ev_add (ev_var rfl) ev_one) (hk.ex eC) (nl_get (hs'.1 (of_decide_eq_true hk0)))) (fun hk0 => by
            rw [hs'.2 (of_decide_eq_false hk0)]; exact ev_zero)) hl2 fun H5 e5 => ?_
          refine q_asg (ev_add (ev_var rfl) (ev_if (v := nV (if kd = 0 then 2 else 1)) (et_cmp (ev_var rfl) ev_zero rv_eqN) (fun h => by rw [if_pos (of_decide_eq_true h)]; exact ev_c) (fun h => by rw [if_neg (of_decide_eq_false h)]; exact ev_c))) fun H6 e6 => ?_
          have evW : ∀ {H7 : Hp}, Ev (tOp (rI0 fun i j => .int (i + j)) (tVar 4) (tIf (tB (tCall spLeaf [] E0 (tCons (tVar 5) tNil))) (tUn (rU fun i => .int (-i)) (tC (.int 1))) (tC (.int 1))))
              [some (.ref a), some (.ref l1), some (.ref l2), some (nV (at' + (if kd = 0 then 2 else 1))), some (nV (wa + 1)), some (nV kd)] H7 (nV (if kd ≤ 1 then wa else wa + 2)) := fun {H7} => by
            refine ev_is (ev_op (ev_var rfl) (ev_if (v := .int (if kd ≤ 1 then -1 else 1)) (et_B (ev_callV (ea_1 (ev_var rfl)) fun H1 _ Q q => ⟨_, rfl, q⟩)) (fun h => by rw [if_pos (of_decide_eq_true h)]; exact ev_m1) (fun h => by rw [if_neg (of_decide_eq_false h)]; exact ev_c)) rv_I0) ?_
            show V.int _ = V.int _
            congr 1
            by_cases c : kd ≤ 1
            · rw [if_pos c, if_pos c]; omega
            · rw [if_neg c, if_neg c]; omega
          refine s_asg evW fun H7 e7 => ?_
          have h17 : H7 l1 = some (.lst ((((pre ++ [(kd, s')]).map (·.1))).map nV)) := by
            rw [List.map_append, List.map_append]
            exact e7 _ _ (e6 _ _ (by rw [upd_ne ne]; exact e5 _ _ upd_same))
          have h27 : H7 l2 = some (.lst ((((pre ++ [(kd, s')]).map (·.2))).map nV)) := by
            rw [List.map_append, List.map_append]
            exact e7 _ _ (e6 _ _ upd_same)
          have eD : Ex H H7 := (((eC.trans e5).mut m2).trans e6).trans e7
          have at1 : at' + (if kd = 0 then 2 else 1) ≤ ns.length := by
            by_cases c : kd = 0
            · rw [if_pos c]; have := hst c; omega
            · rw [if_neg c]; omega
          refine ⟨_, ?_, at' + (if kd = 0 then 2 else 1), if kd ≤ 1 then wa else wa + 2, pre ++ [(kd, s')], _, rfl, eD, h17, h27, at1, ?_, rfl, ?_⟩
          · split <;> omega
          · rw [List.length_append]
            show pre.length + 1 ≤ _
            split <;> omega
          · rw [hs]
            by_cases c : kd = 0
            · have hg' := hs'.1 c
              have hd' : ns.drop (at' + 1) = s' :: ns.drop (at' + 2) := by
                rw [List.drop_eq_getElem_cons (hst c)]
                rw [List.getElem?_eq_getElem (hst c)] at hg'
                rw [Option.some.inj hg']
              rw [if_pos c, if_pos (by omega), c, hd', scan_step]
              cases scan (ns.drop (at' + 2)) wa <;> simp
            · have hs0 := hs'.2 c
              rw [if_neg c, hs0]
              by_cases c1 : kd ≤ 1
              · have : kd = 1 := by omega
                rw [if_pos c1, this, scan_skip]
                cases scan (ns.drop (at' + 1)) wa <;> simp
              · rw [if_neg c1, scan_two (by omega) (by omega)]
                cases scan (ns.drop (at' + 1)) (wa + 2) <;> simp
      · have eA := e.trans e1
        refine et_and (et_cmp (ev_var rfl) ev_zero rv_eqN) (fun _ => et_cmp (ev_var rfl) (evLen rfl eA) rv_eqN) H1 (Ex.refl _) _ fun H2 e2 => ?_
        by_cases c : wa = 0 ∧ at' = ns.length
        · obtain ⟨rfl, rfl⟩ := c
          refine ifT (by simp) ?_
          rw [List.drop_length, scan_nil] at hs
          have hs2 : scan ns 1 = some pre := by rw [hs]; simp
          rw [scan_run] at hs2
          obtain ⟨p, hp1, rfl⟩ := Option.map_eq_some_iff.mp hs2
          rw [flat_kinds] at h1
          rw [flat_steps] at h2
          have zp : p.size ≤ ns.length := by rw [run_row.mp hp1]; exact row_len p
          refine ⟨_, rfl, _, rfl, fun x dx nx ndx ndd => ?_⟩
          have eN : Ex H2 (upd (upd H2 dx (.own x)) x (.ins D.P dx [])) := (Ex.new ndx).trans (Ex.new (by rw [upd_ne (Ne.symm ndd)]; exact nx))
          refine ⟨x, dx, l1, l2, p, rfl, upd_same, eN _ _ (e2 _ _ (e1 _ _ h1)), by omega, fun H3 c hc hx hc3 keep => ⟨rfl, ?_⟩⟩
          have e3 : Ex H2 H3 := fun b o hb => keep b o (eN _ _ hb) (ne_of_none hb nx)
          have nH : ∀ {b}, H2 b = none → H b = none := fun {b} h => fresh_back (eA.trans e2) h
          refine qs p hp1 H3 x ((eA.trans e2).trans e3) ⟨nH nx, dx, l1, l2, c, hx, n1, m2, nH (fresh_back eN hc), sq_of (e3 _ _ (e2 _ _ (e1 _ _ h1))), sq_of (e3 _ _ (e2 _ _ (e1 _ _ h2))), sq_of hc3⟩
        · have cf : (decide (wa = 0) && decide (at' = ns.length)) = false := by
            rw [Bool.eq_false_iff]
            intro z
            rw [Bool.and_eq_true, decide_eq_true_iff, decide_eq_true_iff] at z
            exact c z
          refine ifF cf ?_
          refine qn ?_ _ (eA.trans e2)
          have hn : scan ns 1 = none := by
            rw [Bool.and_eq_false_iff, decide_eq_false_iff_not, decide_eq_false_iff_not] at hb
            rw [hs]
            cases wa with
            | zero =>
              have hlt : at' < ns.length := by omega
              rw [List.drop_eq_getElem_cons hlt, scan_rest]; rfl
            | succ k =>
              rcases hb with hb | hb
              · omega
              · rw [List.drop_eq_nil_of_le (by omega), scan_none]; rfl
          rw [scan_run, Option.map_eq_none_iff] at hn
          exact hn
end
end Fr
/-! processes: is_capable, capables, has_empty_loop. -/
namespace Fr
open PySem PySem.Spec PyProof.Rows L2 Evl
def capV (n : Nat) (a b : Bool) : Bool := if n = 2 ∨ n = 4 then a && b else if n = 3 then a || b else a
theorem void_of {x l r : Wf.P} (h : kids x = some (l, r)) : x.void = capV (kind x) l.void r.void := by
  cases x <;> simp [kids] at h <;> obtain ⟨rfl, rfl⟩ := h <;> rfl
theorem void_leaf {x : Wf.P} (h : kids x = none) : x.void = decide (kind x = 1) := by
  cases x <;> simp [kids] at h <;> rfl
/-- a value for each node -/
def nf (p : Wf.P) (g : Wf.P → V) (i : Nat) : V := match (nodes p)[i]? with
  | some q => g q
  | none => .non
theorem nf_of {p q : Wf.P} {g : Wf.P → V} {i : Nat} (h : (nodes p)[i]? = some q) : nf p g i = g q := by unfold nf; rw [h]
theorem nf_filled (p : Wf.P) (g : Wf.P → V) : Filled (nf p g) p.size 0 ((nodes p).map g) := by
  refine ⟨by rw [List.length_map, nodes_len], fun i _ hi => ?_⟩
  obtain ⟨q, hq⟩ := node_at p hi
  rw [List.getElem?_map, hq, nf_of hq]
  rfl
def spCapable : Sp := fun vs H Q _ => ∃ (n : Nat) (a b : Bool), vs = [nV n, .bl a, .bl b] ∧ ∀ H', Ex H H' → Q (.bl (capV n a b)) H'
def spCapables (K : PySem.W.Frag) (D : Ad) : Sp := fun vs H Q _ => ∃ (a : Addr) (p : Wf.P), vs = [.ref a] ∧ ProcAt K D.P G0 H a p ∧ p.size ≤ 1000 ∧
  ∀ H' r, H r = none → Ex H H' → H' r = some (.lst ((nodes p).map fun q => .bl q.void)) → Q (.ref r) H'
def spHasEmpty (K : PySem.W.Frag) (D : Ad) : Sp := fun vs H Q _ => ∃ (a : Addr) (p : Wf.P), vs = [.ref a] ∧ ProcAt K D.P G0 H a p ∧ p.size ≤ 1000 ∧ ∀ H', Ex H H' → Q (.bl (!(nodes p).all okLoop)) H'
section
variable {P : Program} {w : World} {K : PySem.W.Frag} {mg : Str → Option Value} {base : Heap} {D : Ad} {f : Addr} {fd : FuncData}
theorem scCapable : FnScope ["kind", "first", "second"] ["kind", "first", "second"] (defScope sCapable) := ⟨rfl, rfl, rfl, by decide +kernel, rfl, by decide +kernel, by decide +kernel⟩
theorem ok_capable (F : Fun K "is_capable" "is_capable" sCapable f fd) (T : Txt K mg D) : FnOk P w K mg base CX0 1 f fd ["kind", "first", "second"] spCapable := by
  refine F.ok scCapable (fun vs H Q E h => ?_) (fun cdv A outer s H vs Q E hr h => ?_)
  · obtain ⟨n, a, b, rfl, _⟩ := h
    rfl
  · obtain ⟨n, a, b, rfl, q⟩ := h
    refine ⟨_, pss_cons (ps_if (pt_cmpR op_in_seq (pv 0) (pe_tup (pa_cons (pe_ci T.SEQUENCE rfl) (pa_cons (pe_ci T.PARALLEL rfl) pa_nil))) (by rfl)) (pss_one (ps_ret (pe_and (pv 1) (pe_one (pv 2))))) pss_nil)
      (pss_one (ps_ret (pe_ifExp (pt_cmpR op_eq (pv 0) (pe_ci T.CHOICE rfl) (nomark _)) (pe_or (pv 1) (pe_one (pv 2))) (pv 1)))), ?_⟩
    refine q_when (et_test (ev_in2 (ev_var rfl) (ev_c (v := nV 2)) (ev_c (v := nV 4)))) (fun hb H1 e1 => ?_) (fun hb H1 e1 => ?_)
    · refine s_ret (ev_andV (ev_var rfl) fun _ => ev_var rfl) fun H2 e2 => ?_
      have := q _ (e1.trans e2)
      unfold capV at this
      rw [if_pos (of_decide_eq_true hb)] at this
      exact this
    · refine s_ret (ev_if (v := .bl (if n = 3 then a || b else a)) (et_cmp (ev_var rfl) (ev_c (v := nV 3)) rv_eqN) (fun h => ?_) (fun h => ?_)) fun H2 e2 => ?_
      · rw [if_pos (of_decide_eq_true h)]
        exact ev_orV (ev_var rfl) fun _ => ev_var rfl
      · rw [if_neg (of_decide_eq_false h)]
        exact ev_var rfl
      · have := q _ (e1.trans e2)
        unfold capV at this
        rw [if_neg (of_decide_eq_false hb)] at this
        exact this
theorem scCapables : FnScope ["process", "found", "at", "kind"] ["process"] (defScope sCapables) := ⟨rfl, rfl, rfl, by decide +kernel, rfl, by decide +kernel, by decide +kernel⟩
theorem ok_capables (F : Fun K "capables" "capables" sCapables f fd) (T : Txt K mg D) (hl : HasF P w K mg base "is_leaf" 1 ["kind"] spLeaf) (hc : HasF P w K mg base "is_capable" 1 ["kind", "first", "second"] spCapable)
    (hz : HasM P w K mg base D.P "size" 1 ["self"] (spSize K D)) : FnOk P w K mg base CX0 2 f fd ["process"] (spCapables K D) := by
  refine F.ok scCapables (fun vs H Q E h => ?_) (fun cdv A outer s H vs Q E hr h => ?_)
  · obtain ⟨a, p, rfl, _⟩ := h
    rfl
  · obtain ⟨a, p, rfl, hp, hb, q⟩ := h
    have nd := scCapables.nd
    refine ⟨_, pss_cons (ps_set (i := 1) nd rfl (.inl rfl) (pe_op op_rep (pe_lst (pa_cons pe_bl pa_nil)) (pe_m0 (pv 0) T.cP hz hr)))
      (pss_cons (ps_for PassesOwn.never rfl (pi_revR rfl T.reversed (prg_1 rfl T.range (pe_m0 (pv 0) T.cP hz hr))) (pg_name (i := 2) nd rfl (.inl rfl))
        (pss_cons (ps_set (i := 3) nd rfl (.inl rfl) (pe_ix ix_list (pe_fld (pv 0) rfl) (pv 2) (fun _ _ => rfl)))
        (pss_one (ps_if (pt_val (pe_f hl hr rfl (pa_cons (pv 3) pa_nil)))
          (pss_one (ps_asg (pe_cmpR op_eq (pv 3) (pe_ci T.EMPTY rfl) (nomark _)) (pg_sub (pv 1) (pv 2) set_list)))
          (pss_one (ps_asg (pe_f hc hr rfl (pa_cons (pv 3) (pa_cons (pe_ix ix_list (pv 1) (pe_op op_add (pv 2) pe_int) (fun _ _ => rfl)) (pa_cons (pe_ix ix_list (pv 1) (pe_ix ix_list (pe_fld (pv 0) rfl) (pv 2) (fun _ _ => rfl)) (fun _ _ => rfl)) pa_nil)))) (pg_sub (pv 1) (pv 2) set_list)))))))
      (pss_one (ps_ret (pv 1)))), ?_⟩
    obtain ⟨_, dx, k, st, c, hi, _, _, _, hk, _, hs⟩ := id hp
    have evZ : ∀ {σ : L2.St} {H1 : Hp}, σ[0]? = some (some (.ref a)) → Ex H H1 → Ev (tMeth D.P "size" (spSize K D) [] E0 (tVar 0) tNil) σ H1 (nV p.size) := fun h0 e1 =>
      ev_methV (ev_var h0) (e1 _ _ hi) pF_size ea_nil fun H2 e2 Q q => ⟨a, p, rfl, hp.ex (e1.trans e2), q H2 (Ex.refl _)⟩
    refine q_asgL (el_rep ev_c (evZ rfl (Ex.refl _)) (Nat.le_trans hb (by decide))) fun l H1 n1 e1 h1 => ?_
    refine q_rev (evZ rfl e1) (by omega) (fun k' σ H' => ∃ u v xs, σ = [some (.ref a), some (.ref l), u, v] ∧ Ex H H' ∧ H' l = some (.lst xs) ∧ Filled (nf p fun q => .bl q.void) p.size k' xs) (fun H2 e2 => ?_) (fun k' σ H' hk' h => ?_) (fun σ H' h => ?_)
    · exact ⟨none, none, _, rfl, e1.trans e2, e2 _ _ h1, .start (by simp)⟩
    · obtain ⟨u, v, xs, rfl, e, g, fl⟩ := h
      obtain ⟨x, hx⟩ := node_at p hk'
      refine q_asg (ev_ixL (ev_fld (ev_var rfl) (e _ _ hi) T.cP T.pKinds pF_kinds) (ev_var rfl) (hk.ex e) (nl_get (kinds_get hx))) fun H2 e2 => ?_
      refine s_if (et_B (ev_callV (ea_1 (ev_var rfl)) fun H4 _ Q q => ⟨_, rfl, q⟩)) (fun hb' H3 e3 => ?_) (fun hb' H3 e3 => ?_)
      · have hleaf := kids_kind.mpr (of_decide_eq_true hb')
        refine s_setL (e3 _ _ (e2 _ _ g)) (ev_op (ev_var rfl) ev_one rv_eqN) (ev_var rfl) (ev_var rfl) (by rw [fl.1]; exact hk') fun H4 e4 => ?_
        refine ⟨_, _, _, rfl, (((e.trans e2).trans e3).trans e4).mut n1, upd_same, fl.set hk' ?_⟩
        rw [nf_of hx, void_leaf hleaf]
      · obtain ⟨l', r, hx'⟩ : ∃ l r, kids x = some (l, r) := by
          cases q : kids x with
          | none => exact absurd (kids_kind.mp q) (of_decide_eq_false hb')
          | some y => exact ⟨y.1, y.2, rfl⟩
        obtain ⟨c1, c2⟩ := nodes_kids p hx hx'
        have zl := node_end p c1
        have zr := node_end p c2
        have pl := size_pos l'
        have pr := size_pos r
        have e' := (e.trans e2).trans e3
        have g' := e3 _ _ (e2 _ _ g)
        have sx : (secs 0 p)[k']? = some (k' + 1 + l'.size) := by rw [secs_get p 0 hx, secAt_of hx', Nat.zero_add]
        have y1 : xs[k' + 1]? = some (.bl l'.void) := by rw [fl.at (by omega) (by omega), nf_of c1]
        have y2 : xs[k' + 1 + l'.size]? = some (.bl r.void) := by rw [fl.at (by omega) (by omega), nf_of c2]
        refine s_setL g' (ev_callV (ea_3 (ev_var rfl) (ev_ixL (ev_var rfl) (ev_add (ev_var rfl) ev_one) (sq_of g') y1) (ev_ixL (ev_var rfl) (ev_ixL (ev_fld (ev_var rfl) (e' _ _ hi) T.cP T.pSeconds pF_seconds) (ev_var rfl) (hs.ex e') (nl_get sx)) (sq_of g') y2)) fun H4 _ Q q => ⟨_, _, _, rfl, q⟩)
          (ev_var rfl) (ev_var rfl) (by rw [fl.1]; exact hk') fun H4 e4 => ?_
        refine ⟨_, _, _, rfl, (e'.trans e4).mut n1, upd_same, fl.set hk' ?_⟩
        rw [nf_of hx, void_of hx']
    · obtain ⟨u, v, xs, rfl, e, g, fl⟩ := h
      have ex := fl.ext (nf_filled p _)
      subst ex
      exact s_ret (ev_var rfl) fun H3 e3 => q H3 l n1 (e.trans e3) (e3 _ _ g)
theorem scHasEmpty : FnScope ["process", "found", "at", "kind"] ["process"] (defScope sHasEmpty) := ⟨rfl, rfl, rfl, by decide +kernel, rfl, by decide +kernel, by decide +kernel⟩
theorem ok_hasEmpty (F : Fun K "has_empty_loop" "has_empty_loop" sHasEmpty f fd) (T : Txt K mg D) (hc : HasF P w K mg base "capables" 2 ["process"] (spCapables K D)) : FnOk P w K mg base CX0 3 f fd ["process"] (spHasEmpty K D) := by
  refine F.ok scHasEmpty (fun vs H Q E h => ?_) (fun cdv A outer s H vs Q E hr h => ?_)
  · obtain ⟨a, p, rfl, _⟩ := h
    rfl
  · obtain ⟨a, p, rfl, hp, hb, q⟩ := h
    have nd := scHasEmpty.nd
    refine ⟨_, pss_cons (ps_set (i := 1) nd rfl (.inr rfl) (pe_f hc hr rfl (pa_cons (pv 0) pa_nil)))
      (pss_one (ps_ret (pe_callB (cr_any rfl) (by rfl) T.any (by decide +kernel) (pa_cons
        (pe_lc (own := [("at", 2), ("kind", 3)]) (g := gTup K 2 (gCons (gName 2) (gCons (gName 3) gNil))) (by rfl) nd (pi_enum (by rfl) T.enumerate (pa_cons (pe_fld (pv 0) rfl) pa_nil)) (blkOk_by (own := [("at", 2), ("kind", 3)]) (N := ["process", "found", "at", "kind"]) (sc := defScope sHasEmpty) (by decide +kernel))
          (fun _ _ _ _ _ => pg_tup rfl (pgs_cons (pg_name (i := 2) nd rfl (.inl rfl)) (pgs_cons (pg_name (i := 3) nd rfl (.inl rfl)) pgs_nil)))
          (fun _ _ _ _ _ => pts_one (pt_cmpR op_eq (pv 3) (pe_ci T.LOOP rfl) (nomark _)))
          (fun _ _ _ _ _ => pe_ix (r := rIxL K) ix_list (pv 1) (pe_op op_add (pv 2) pe_int) (fun _ _ => rfl))) pa_nil)))), ?_⟩
    obtain ⟨_, dx, k, st, c, hi, _, _, _, hk, _, hs⟩ := id hp
    refine q_asgP (P := fun v _ H2 => ∃ l, v = .ref l ∧ H2 l = some (.lst ((nodes p).map fun q => .bl q.void))) (ev_callP (ea_1 (ev_var rfl)) (fun _ _ _ _ _ h => h) fun H1 e1 Q q => ⟨a, p, rfl, hp.ex e1, hb, fun H2 r _ e2 h2 => q _ H2 e2 ⟨r, rfl, h2⟩⟩) fun v H1 e1 h => ?_
    obtain ⟨l, rfl, hl⟩ := h
    refine ⟨_, rfl, a, _, dx, _, _, rfl, e1 _ _ hi, T.cP, T.pKinds, pF_kinds, k, _, rfl, hk.ex e1, fun Dl nD => ?_⟩
    refine lc_it walk_enum (fun i H' => Ex H1 H' ∧ H' Dl = some (.lst ((((nodes p).take i).filterMap loopVoid).map V.bl))) ⟨Ex.new nD, by rw [List.take_zero]; exact upd_same⟩ (fun i H' _ h => (hk.ex e1).ex h.1) (fun i x H2 H3 hi' h y => ?_) (fun H2 h => ?_)
    · obtain ⟨e2, h2⟩ := h
      obtain ⟨t, x1, x2, rfl, ht, rfl, ex1, ex2⟩ := y
      have hi2 : i < p.size := by rw [List.length_map, kinds_len] at hi'; exact hi'
      obtain ⟨z, hz⟩ := node_at p hi2
      obtain rfl : V.int (i : Nat) = x1 := Option.some.inj ex1
      obtain rfl : nV (kind z) = x2 := Option.some.inj ((nl_get (kinds_get hz)).symm.trans ex2)
      refine ⟨t, _, rfl, SqT.of upd_same, rfl, _, _, rfl, _, _, rfl, rfl, rfl, ?_⟩
      have e3 : Ex H2 (upd H2 t (.tup [.int (i : Nat), nV (kind z)])) := Ex.new ht
      refine et_cmp (ev_var rfl) (ev_c (v := nV 5)) rv_eqN _ e3 _ fun H4 e4 => ?_
      have tk := take_next hz
      by_cases c5 : kind z = 5
      · refine ifT (decide_eq_true c5) ?_
        obtain ⟨l', r, rfl⟩ : ∃ l r, z = .loop l r := by cases z <;> simp [kind] at c5 <;> exact ⟨_, _, rfl⟩
        obtain ⟨c1, _⟩ := nodes_kids p hz rfl
        have y1 : ((nodes p).map fun q => V.bl q.void)[i + 1]? = some (.bl l'.void) := by rw [List.getElem?_map, c1]; rfl
        refine ev_ixL (ev_var rfl) (ev_add (ev_var rfl) ev_one) (sq_of (e4 _ _ (e3 _ _ (e2 _ _ hl)))) y1 H4 (Ex.refl _) _ fun H5 e5 => ?_
        have e6 := (e2.trans e3).trans (e4.trans e5)
        refine ⟨_, e5 _ _ (e4 _ _ (e3 _ _ h2)), ?_, e6.mut nD, ?_⟩
        · rw [List.length_map]
          refine Nat.lt_of_le_of_lt (List.length_filterMap_le _ _) ?_
          rw [List.length_take]
          have : sizeLine = 16777216 := sizeLine_eq
          omega
        · rw [tk, List.filterMap_append, List.map_append]
          exact upd_same
      · refine ifF (decide_eq_false c5) ?_
        refine ⟨(e2.trans e3).trans e4, ?_⟩
        rw [tk, List.filterMap_append]
        have : [z].filterMap loopVoid = [] := by cases z <;> first | rfl | exact absurd rfl c5
        rw [this, List.append_nil]
        exact e4 _ _ (e3 _ _ h2)
    · obtain ⟨e2, h2⟩ := h
      rw [List.length_map, kinds_len, ← nodes_len, List.take_length] at h2
      refine ⟨Dl, _, rfl, sq_of h2, ?_⟩
      rw [loopVoids_any]
      exact q _ (e1.trans e2)
end
end Fr
/-! pairs: sorted pairs as a rule; joined, front_of. -/
namespace Fr
open PySem PySem.Spec PyProof.Rows L2 Evl
def rSortedPT (K : PySem.W.Frag) : List V → Hp → VK → Prop := fun vs H Q => ∃ (a : Addr) (ps : List Pr), vs = [V.ref a] ∧ PrL K H a ps ∧
  ∀ ys qs p, Prs K H ys qs → qs.Pairwise lexLe → qs.Perm ps → H p = none → Q (.ref p) (upd H p (.lst ys))
section
variable {X : Cx}
theorem prt_uniq {pins : List (Addr × Obj)} {σ : L2.St} {H : Hp} {s : Shared} (I : Inv X pins σ H s) {v : V} {a b : Pr} (h : Prt X.K H v a) (h' : Prt X.K H v b) : a = b := by
  obtain ⟨t, rfl, h⟩ := h
  obtain ⟨t', e, h'⟩ := h'
  cases e
  have e := I.tuple_inj h h'
  have e1 := V.int.inj (List.cons.inj e).1
  have e2 := V.int.inj (List.cons.inj (List.cons.inj e).2).1
  exact Prod.ext (by omega) (by omega)
open Classical in
/-- which pair a value is -/
noncomputable def prOf (K : PySem.W.Frag) (H : Hp) (v : V) : Pr := if h : ∃ a, Prt K H v a then Classical.choose h else (0, 0)
theorem prOf_is {K : PySem.W.Frag} {H : Hp} {v : V} {a : Pr} (h : Prt K H v a) : Prt K H v (prOf K H v) := by
  unfold prOf
  rw [dif_pos ⟨a, h⟩]
  exact Classical.choose_spec (⟨a, h⟩ : ∃ a, Prt K H v a)
theorem prs_of {pins : List (Addr × Obj)} {σ : L2.St} {H : Hp} {s : Shared} (I : Inv X pins σ H s) : ∀ {vs : List V} {ps : List Pr}, Prs X.K H vs ps → ps = vs.map (prOf X.K H)
  | _, _, .nil => rfl
  | _, _, .cons h t => by rw [List.map_cons, ← prs_of I t, ← prt_uniq I h (prOf_is h)]
theorem cr_sortedPT : CallR X (.builtin "sorted") (rSortedPT X.K) := by
  intro pins s σ H vs us Q I r h
  obtain ⟨a, ps, rfl, ⟨xs, hs, hx⟩, q⟩ := h
  obtain ⟨its, rv, hl, hz⟩ := I.list hs
  obtain ⟨u, rfl, ru⟩ := vals1 r
  obtain rfl : u = Value.ref a := ru
  have all : ∀ x ∈ xs, ∃ b, Prt X.K H x b := fun x m => by
    obtain ⟨i, hi⟩ := List.getElem?_of_mem m
    obtain ⟨y, _, h⟩ := paired_getL hx hi
    exact ⟨y, h⟩
  obtain ⟨e1, e2⟩ := refs_back rv fun x m => by
    obtain ⟨b, t, e, _⟩ := all x m
    exact ⟨t, e⟩
  let k : V → Int × Int := fun v => (((prOf X.K H v).1 : Int), ((prOf X.K H v).2 : Int))
  refine SrtO.sorted_pairsO (k := fun u => k (backV u)) hl.isList (by rw [← rv.length]; exact hz) (fun v hv => ?_) fun h' d out h1 h2 kp hd hn => ?_
  · obtain ⟨t, rfl⟩ := e2 v hv
    have hm : V.ref t ∈ xs := by rw [e1]; exact List.mem_map.mpr ⟨_, hv, rfl⟩
    obtain ⟨b, hb⟩ := all _ hm
    obtain ⟨t', e, ht⟩ := prOf_is hb
    cases e
    obtain ⟨its2, r2, ⟨o, ho, hc, n, hd⟩, _⟩ := I.tuple ht
    obtain ⟨u1, u2, rfl, ri, rj⟩ := vals2 r2
    obtain ⟨t1, rfl⟩ := ri
    obtain ⟨t2, rfl⟩ := rj
    exact ⟨t, o, t1, t2, n, rfl, ho, hc, hd⟩
  · have h3 : ∀ u ∈ out, ∃ a, u = Value.ref a := fun u hu => e2 u (h2.perm.mem_iff.mp hu)
    obtain ⟨n, hn⟩ := hn
    have hb : SrtO.Stb (ltP k) (out.map backV) xs := by
      rw [e1]
      exact SrtO.Stb.map (ltP_swo k) backV h2
    refine ⟨.ref d, upd H d (.lst (out.map backV)), I.laid (t' := s.toks) kp hd ⟨?_, out, n, vals_back h3, hn⟩, rfl, q _ ((out.map backV).map (prOf X.K H)) d ?_ ?_ ?_ (I.hok.fresh hd)⟩
    · rw [hb.len]
      exact hz
    · have : ∀ l : List V, (∀ x ∈ l, x ∈ xs) → Prs X.K H l (l.map (prOf X.K H)) := by
        intro l
        induction l with
        | nil => intro _; exact .nil
        | cons x r ih =>
          intro h
          obtain ⟨b, hb⟩ := all x (h x (List.mem_cons_self ..))
          exact .cons (prOf_is hb) (ih fun y hy => h y (List.mem_cons_of_mem _ hy))
      exact this _ fun x hx => hb.perm.mem_iff.mp hx
    · have hs2 : SrtO.Srtd (ltP k) (out.map backV) := SrtO.srtd_map h1
      refine List.pairwise_map.mpr (List.Pairwise.imp ?_ hs2)
      intro x y hxy
      have z := SrtO.lexB_no.mp hxy
      show (prOf X.K H x).1 < (prOf X.K H y).1 ∨ ((prOf X.K H x).1 = (prOf X.K H y).1 ∧ (prOf X.K H x).2 ≤ (prOf X.K H y).2)
      have z' : ¬ (((prOf X.K H y).1 : Int) < ((prOf X.K H x).1 : Int) ∨ (((prOf X.K H y).1 : Int) = ((prOf X.K H x).1 : Int) ∧ ((prOf X.K H y).2 : Int) < ((prOf X.K H x).2 : Int))) := z
      omega
    · rw [prs_of I hx]
      exact hb.perm.map _
end
def spJoined (K : PySem.W.Frag) : Sp := fun vs H Q _ => ∃ (n : Nat) (v u : V) (a b : Pr), vs = [nV n, v, u] ∧ Prt K H v a ∧ Prt K H u b ∧
  ∀ H' t, H t = none → Ex H H' → H' t = some (.tup [nV (jn n a b).1, nV (jn n a b).2]) → Q (.ref t) H'
def spFrontOf (K : PySem.W.Frag) : Sp := fun vs H Q _ => ∃ (a : Addr) (ps : List Pr), vs = [.ref a] ∧ PrL K H a ps ∧ ps.length ≤ sizeLine ∧
  ∀ H' r qs, H r = none → Ex H H' → PrN K H' r qs → IsFront ps qs → Q (.ref r) H'
section
variable {P : Program} {w : World} {K : PySem.W.Frag} {mg : Str → Option Value} {base : Heap} {D : Ad} {f : Addr} {fd : FuncData}
section
variable {σ : L2.St} {H : Hp} {ta tb : TE}
theorem ev_max {i j : Nat} (ha : Ev ta σ H (nV i)) (hb : Ev tb σ H (nV j)) : Ev (tCB (fun xs H Q => ∃ i j, xs = [V.int i, V.int j] ∧ Q (V.int (if j > i then j else i)) H) (tCons ta (tCons tb tNil))) σ H (nV (max i j)) := by
  have e : nV (max i j) = V.int (if (j : Int) > (i : Int) then (j : Int) else (i : Int)) := by
    show V.int _ = V.int _
    congr 1
    by_cases c : (j : Int) > i
    · rw [if_pos c]; omega
    · rw [if_neg c]; omega
  rw [e]
  exact ev_max2 ha hb
theorem ev_min {i j : Nat} (ha : Ev ta σ H (nV i)) (hb : Ev tb σ H (nV j)) : Ev (tCB (fun xs H Q => ∃ i j, xs = [V.int i, V.int j] ∧ Q (V.int (if j < i then j else i)) H) (tCons ta (tCons tb tNil))) σ H (nV (min i j)) := by
  have e : nV (min i j) = V.int (if (j : Int) < (i : Int) then (j : Int) else (i : Int)) := by
    show V.int _ = V.int _
    congr 1
    by_cases c : (j : Int) < i
    · rw [if_pos c]; omega
    · rw [if_neg c]; omega
  rw [e]
  exact fun H1 e Q q => ha H1 e _ fun H2 e2 => hb H2 (e.trans e2) _ fun H3 e3 => ⟨_, _, rfl, q H3 (e2.trans e3)⟩
theorem ev_fst {v : V} {a : Pr} (ha : Ev ta σ H v) (h : Prt K H v a) : Ev (tOp (rIxT K) ta (tC (.int 0))) σ H (nV a.1) := by
  obtain ⟨t, rfl, h⟩ := h
  exact ev_ixT (i := 0) ha ev_c h rfl
theorem ev_snd {v : V} {a : Pr} (ha : Ev ta σ H v) (h : Prt K H v a) : Ev (tOp (rIxT K) ta (tC (.int 1))) σ H (nV a.2) := by
  obtain ⟨t, rfl, h⟩ := h
  exact ev_ixT (i := 1) ha ev_c h rfl
theorem et_isNil {a : Addr} {ps : List Pr} (ha : Ev ta σ H (.ref a)) (h : PrL K H a ps) : EvT (tTest (tOp (rEqD K) ta (tLst tNil))) σ H ps.isEmpty := fun H1 e Q q =>
  ha H1 e _ fun H2 e2 => ⟨(by show 0 ≤ sizeLine; decide), fun t ht => ⟨_, _, PrL.dp (h.ex ((e.trans e2).trans (Ex.new ht))), .lst (sq_of upd_same) .nil, prds_shaped _, rfl, _, by rw [prds_nil], q _ (e2.trans (Ex.new ht))⟩⟩
end
theorem scJoined : FnScope ["kind", "one", "other", "time"] ["kind", "one", "other"] (defScope sJoined) := ⟨rfl, rfl, rfl, by decide +kernel, rfl, by decide +kernel, by decide +kernel⟩
theorem ok_joined (F : Fun K "joined" "joined" sJoined f fd) (T : Txt K mg D) : FnOk P w K mg base CX0 1 f fd ["kind", "one", "other"] (spJoined K) := by
  refine F.ok scJoined (fun vs H Q E h => ?_) (fun cdv A outer s H vs Q E hr h => ?_)
  · obtain ⟨n, v, u, a, b, rfl, _⟩ := h
    rfl
  · obtain ⟨n, v, u, a, b, rfl, h1, h2, q⟩ := h
    have nd := scJoined.nd
    refine ⟨_, pss_cons (ps_set (i := 3) nd rfl (.inl rfl) (pe_ifExp (pt_cmpR op_eq (pv 0) (pe_ci T.PARALLEL rfl) (nomark _))
        (pe_callB (call_max2 rfl) (by rfl) T.max (by decide +kernel) (pa_cons (pe_ix ix_tup (pv 1) pe_int (fun _ _ => rfl)) (pa_cons (pe_ix ix_tup (pv 2) pe_int (fun _ _ => rfl)) pa_nil)))
        (pe_op op_add (pe_ix ix_tup (pv 1) pe_int (fun _ _ => rfl)) (pe_ix ix_tup (pv 2) pe_int (fun _ _ => rfl)))))
      (pss_one (ps_ret (pe_tup (pa_cons (pv 3) (pa_cons (pe_op op_add (pe_ix ix_tup (pv 1) pe_int (fun _ _ => rfl)) (pe_ix ix_tup (pv 2) pe_int (fun _ _ => rfl))) pa_nil))))), ?_⟩
    refine q_asg (v := nV (jn n a b).1) (ev_if (et_cmp (ev_var rfl) (ev_c (v := nV 4)) rv_eqN) (fun h => ?_) (fun h => ?_)) fun H1 e1 => ?_
    · have e : (jn n a b).1 = max a.1 b.1 := if_pos (of_decide_eq_true h)
      rw [e]
      exact ev_max (ev_fst (ev_var rfl) h1) (ev_fst (ev_var rfl) h2)
    · have e : (jn n a b).1 = a.1 + b.1 := if_neg (of_decide_eq_false h)
      rw [e]
      exact ev_add (ev_fst (ev_var rfl) h1) (ev_fst (ev_var rfl) h2)
    · refine s_retU (eu_tup (ea_2 (ev_var rfl) (ev_add (ev_snd (ev_var rfl) (h1.ex e1)) (ev_snd (ev_var rfl) (h2.ex e1)))) (by decide : 2 ≤ 100000)) fun t H2 nt e2 ht => ?_
      exact q H2 t (fresh_back e1 nt) (e1.trans e2) ht
theorem scFrontOf : FnScope ["pairs", "found", "time", "cost"] ["pairs"] (defScope sFrontOf) := ⟨rfl, rfl, rfl, by decide +kernel, rfl, by decide +kernel, by decide +kernel⟩
theorem ok_frontOf (F : Fun K "front_of" "front_of" sFrontOf f fd) (T : Txt K mg D) : FnOk P w K mg base CX0 1 f fd ["pairs"] (spFrontOf K) := by
  refine F.ok scFrontOf (fun vs H Q E h => ?_) (fun cdv A outer s H vs Q E hr h => ?_)
  · obtain ⟨a, ps, rfl, _⟩ := h
    rfl
  · obtain ⟨a, ps, rfl, hp, hz, q⟩ := h
    have nd := scFrontOf.nd
    refine ⟨_, pss_cons (ps_set (i := 1) nd rfl (.inl rfl) (pe_lst pa_nil))
      (pss_cons (ps_for PassesOwn.never rfl (pi_list (pe_callB cr_sortedPT (by rfl) T.sorted (by decide +kernel) (pa_cons (pv 0) pa_nil))) (pg_tup rfl (pgs_cons (pg_name (i := 2) nd rfl (.inl rfl)) (pgs_cons (pg_name (i := 3) nd rfl (.inl rfl)) pgs_nil)))
        (pss_one (ps_if (PW.pt (pw_or (pt_cmpR (op_eqD hr.units) (pv 1) (pe_lst pa_nil) (nomark _)) (pw_or1 (pt_cmpR op_lt (pv 3) (pe_ix ix_tup (pe_ix ix_list (pv 1) (pe_un un_neg pe_int) (fun _ _ => rfl)) pe_int (fun _ _ => rfl)) (nomark _)))))
          (pss_one (ps_app (pv 1) (pe_tup (pa_cons (pv 2) (pa_cons (pv 3) pa_nil))))) pss_nil)))
      (pss_one (ps_ret (pv 1)))), ?_⟩
    refine q_asgL (el_lst ea_nil (by decide : 0 ≤ 100000)) fun l H1 n1 e1 h1 => ?_
    refine ⟨_, rfl, a, ps, rfl, hp.ex e1, fun ys qs p hy srt perm np => ?_⟩
    have nlp : l ≠ p := ne_of_none h1 np
    have e2 := Ex.new np (o := .lst ys)
    have hlen : ys.length = ps.length := (Paired.length hy).trans perm.length_eq
    refine ⟨p, rfl, ⟨ys, sq_of upd_same⟩, for_list (K := K) (a := p) (xs := ys) (fun i σ H' => ∃ u v vs acc, σ = [some (.ref a), some (.ref l), u, v] ∧ Ex H H' ∧ H' p = some (.lst ys) ∧ Prs K H' ys qs ∧ H' l = some (.lst vs) ∧ Prs K H' vs acc ∧ Kept (qs.take i) acc ∧ acc.length ≤ i) ?_ ?_ ?_ ?_⟩
    · exact ⟨none, none, [], [], rfl, e1.trans e2, upd_same, Prs.ex e2 hy, e2 _ _ h1, .nil, by rw [List.take_zero]; exact Kept.nil, Nat.zero_le _⟩
    · rintro i σ H' _ ⟨u, v, vs, acc, _, _, h, _⟩
      exact sq_of h
    · rintro i y σ H' hi ⟨u, v, vs, acc, rfl, e, hpp, hys, hl, hvs, kept, hal⟩
      obtain ⟨x, hx, ⟨t, rfl, ht⟩⟩ := paired_getL hys hi
      refine ⟨t, _, rfl, ht, rfl, _, _, rfl, _, _, rfl, rfl, ?_⟩
      have tk := take_next hx
      have hil : i < ys.length := (List.getElem?_eq_some_iff.mp hi).1
      have sx : ∀ z ∈ qs.take i, lexLe z x := fun z hz => by
        have hx2 := (List.getElem?_eq_some_iff.mp hx)
        obtain ⟨hlt, ex⟩ := hx2
        obtain ⟨j, hj⟩ := List.getElem?_of_mem hz
        have hj2 : j < i := by
          have := (List.getElem?_eq_some_iff.mp hj).1
          rw [List.length_take] at this
          omega
        rw [List.getElem?_take_of_lt hj2] at hj
        obtain ⟨hjl, ej⟩ := List.getElem?_eq_some_iff.mp hj
        have := List.pairwise_iff_getElem.mp srt j i hjl hlt hj2
        rw [ej, ex] at this
        exact this
      have hstep := kept.step sx
      refine s_when (b := acc.isEmpty || (match acc.getLast? with | some y => decide (x.2 < y.2) | none => false)) ?_ (fun hb H2 e3 => ?_) (fun hb H2 e3 => ?_)
      · have h9 : PrL K H' l acc := ⟨vs, sq_of hl, hvs⟩
        refine et_or ?_ (fun hne => ?_)
        · exact et_isNil (ev_var rfl) h9
        cases eg : acc.getLast? with
        | none =>
          rw [List.getLast?_eq_none_iff] at eg
          rw [eg] at hne
          cases hne
        | some y =>
          obtain ⟨yv, hyv, hyp⟩ := paired_last hvs eg
          exact et_cmp (ev_var rfl) (ev_snd (ev_ixLast (ev_var rfl) ev_m1 (sq_of hl) hyv) hyp) rv_ltN
      · have hk : keep acc x = acc ++ [x] := by
          unfold keep
          cases eg : acc.getLast? with
          | none => rfl
          | some y =>
            rw [eg, Bool.or_eq_true, decide_eq_true_iff] at hb
            rcases hb with hb | hb
            · rw [List.isEmpty_iff] at hb
              rw [hb] at eg
              cases eg
            · exact if_pos hb
        rw [← tk, hk] at hstep
        have hvl := Paired.length hvs
        have lt : vs.length < sizeLine := by omega
        refine z_appP (e3 _ _ hl) (ev_var rfl) (EvU.p (eu_tup (ea_2 (ev_var rfl) (ev_var rfl)) (by decide : 2 ≤ 100000))) lt (fun v H1 H2 H3 a ⟨p, e, n, h⟩ => ⟨p, e, fresh_back a n, h⟩) fun v H4 e5 h5 => ?_
        obtain ⟨t2, rfl, nt2, ht2⟩ := h5
        have e6 := e3.trans e5
        refine ⟨_, _, _, _, rfl, (e.trans e6).mut n1, by rw [upd_ne nlp.symm]; exact e6 _ _ hpp, Prs.upd (Prs.ex e6 hys) (e6 _ _ hl) trivial, upd_same, ?_, hstep, by rw [List.length_append]; show acc.length + 1 ≤ _; omega⟩
        exact Prs.upd (Paired.snoc (Prs.ex e6 hvs) ⟨t2, rfl, st_of ht2⟩) (e6 _ _ hl) trivial
      · have hk : keep acc x = acc := by
          unfold keep
          rw [Bool.or_eq_false_iff] at hb
          cases eg : acc.getLast? with
          | none =>
            rw [List.getLast?_eq_none_iff] at eg
            rw [eg] at hb
            cases hb.1
          | some y =>
            rw [eg] at hb
            exact if_neg (of_decide_eq_false hb.2)
        rw [← tk, hk] at hstep
        exact ⟨_, _, vs, acc, rfl, e.trans e3, e3 _ _ hpp, Prs.ex e3 hys, e3 _ _ hl, Prs.ex e3 hvs, hstep, by omega⟩
    · rintro σ H' ⟨u, v, vs, acc, rfl, e, hpp, hys, hl, hvs, kept, hal⟩
      rw [Paired.length hys, List.take_length] at kept
      refine s_ret (ev_var rfl) fun H2 e3 => ?_
      exact q H2 l acc n1 (e.trans e3) ⟨vs, e3 _ _ hl, Prs.ex e3 hvs⟩ (kept.front fun x => perm.mem_iff)
end
end Fr
/-! pairs: combined. -/
namespace Fr
open PySem PySem.Spec PyProof.Rows L2 Evl
def kv (d : List Pr) : List (Key × V) := d.map fun x => ((Sum.inl (x.1 : Int) : Key), nV x.2)
theorem key_nat (a b : Nat) : ((Sum.inl (a : Int) : Key) = Sum.inl (b : Int)) ↔ a = b := by
  constructor
  · intro h
    have := Sum.inl.inj h
    omega
  · intro h; rw [h]
theorem kv_look (t : Nat) : ∀ d : List Pr, valV (kv d) (Sum.inl (t : Int)) = (look d t).map nV
  | [] => rfl
  | x :: r => by
    have ih := kv_look t r
    unfold look at ih ⊢
    by_cases h : x.1 = t
    · rw [show kv (x :: r) = ((Sum.inl (x.1 : Int) : Key), nV x.2) :: kv r from rfl, valV_pos (by rw [h]), List.find?_cons, decide_eq_true h]
      rfl
    · rw [show kv (x :: r) = ((Sum.inl (x.1 : Int) : Key), nV x.2) :: kv r from rfl, valV_neg (fun e => h ((key_nat _ _).mp e)), List.find?_cons, decide_eq_false h]
      exact ih
theorem kv_put (d : List Pr) (t c : Nat) : putK (kv d) (Sum.inl (t : Int)) (nV (min c ((look d t).getD c))) = kv (ins d (t, c)) := by
  unfold ins
  cases e : look d t with
  | none =>
    rw [putK_new _ (by rw [kv_look, e]; rfl)]
    show kv d ++ [(Sum.inl (t : Int), nV (min c c))] = kv (d ++ [(t, c)])
    rw [Nat.min_self]
    unfold kv
    rw [List.map_append]
    rfl
  | some c' =>
    unfold putK
    have h : ((kv d).any fun kv => decide (kv.1 = (Sum.inl (t : Int) : Key))) = true := by rw [valV_any, kv_look, e]; rfl
    rw [if_pos h]
    unfold kv
    rw [List.map_map, List.map_map]
    refine List.map_congr_left fun y _ => ?_
    show (if (Sum.inl (y.1 : Int) : Key) = Sum.inl (t : Int) then ((Sum.inl (y.1 : Int) : Key), nV (min c c')) else (Sum.inl (y.1 : Int), nV y.2)) = (fun x : Pr => ((Sum.inl (x.1 : Int) : Key), nV x.2)) (if y.1 = t then (t, min c c') else y)
    by_cases k : y.1 = t
    · rw [if_pos ((key_nat _ _).mpr k), if_pos k, k]
    · rw [if_neg (fun z => k ((key_nat _ _).mp z)), if_neg k]
theorem kv_len (d : List Pr) : (kv d).length = d.length := List.length_map ..
theorem kv_getD (d : List Pr) (t c : Nat) : (valV (kv d) (Sum.inl (t : Int))).getD (nV c) = nV ((look d t).getD c) := by
  rw [kv_look]
  cases look d t <;> rfl
theorem look_of {d : List Pr} (n : (d.map (·.1)).Nodup) {x : Pr} (h : x ∈ d) : look d x.1 = some x.2 := by
  cases e : look d x.1 with
  | none => exact absurd rfl (look_none e x h)
  | some c =>
    have := key_one n (look_some e) h rfl
    rw [← this]
def spCombined (K : PySem.W.Frag) : Sp := fun vs H Q _ => ∃ (n : Nat) (s o : Addr) (ps qs : List Pr) (m : Nat), vs = [nV n, .ref s, .ref o] ∧ PrL K H s ps ∧ PrL K H o qs ∧ (∀ x ∈ prods n ps qs, x.1 ≤ m) ∧ m ≤ 16000000 ∧
  ∀ H' r ys, H r = none → Ex H H' → PrN K H' r ys → IsFront (prods n ps qs) ys → Q (.ref r) H'
section
variable {P : Program} {w : World} {K : PySem.W.Frag} {mg : Str → Option Value} {base : Heap} {D : Ad} {f : Addr} {fd : FuncData}
theorem scCombined : FnScope ["kind", "some", "others", "least", "one", "other", "time", "cost"] ["kind", "some", "others"] (defScope sCombined) := ⟨rfl, rfl, rfl, by decide +kernel, rfl, by decide +kernel, by decide +kernel⟩
theorem prods_take {n i : Nat} {ps qs : List Pr} {a : Pr} (h : ps[i]? = some a) : prods n (ps.take (i + 1)) qs = prods n (ps.take i) qs ++ qs.map (jn n a) := by
  rw [take_next h]
  unfold prods
  rw [List.flatMap_append]
  simp
theorem mem_take {α : Type} {l : List α} {i : Nat} {x : α} (h : x ∈ l.take i) : x ∈ l := List.mem_of_mem_take h
theorem ok_combined (F : Fun K "combined" "combined" sCombined f fd) (T : Txt K mg D) (hj : HasF P w K mg base "joined" 1 ["kind", "one", "other"] (spJoined K)) (hf : HasF P w K mg base "front_of" 1 ["pairs"] (spFrontOf K)) :
    FnOk P w K mg base CX0 2 f fd ["kind", "some", "others"] (spCombined K) := by
  refine F.ok scCombined (fun vs H Q E h => ?_) (fun cdv A outer s H vs Q E hr h => ?_)
  · obtain ⟨n, s, o, ps, qs, m, rfl, _⟩ := h
    rfl
  · obtain ⟨n, s0, o, ps, qs, m, rfl, hs, ho, hm, hm2, q⟩ := h
    have nd := scCombined.nd
    have hu := hu_of hr
    refine ⟨_, pss_cons (ps_set (i := 3) nd rfl (.inr rfl) pe_dnewK)
      (pss_cons (ps_for PassesOwn.never rfl (pi_list (pv 1)) (pg_name (i := 4) nd rfl (.inl rfl))
        (pss_one (ps_for PassesOwn.never rfl (pi_list (pv 2)) (pg_name (i := 5) nd rfl (.inl rfl))
          (pss_cons (ps_asg (pe_f hj hr rfl (pa_cons (pv 0) (pa_cons (pv 4) (pa_cons (pv 5) pa_nil)))) (pg_tup rfl (pgs_cons (pg_name (i := 6) nd rfl (.inl rfl)) (pgs_cons (pg_name (i := 7) nd rfl (.inl rfl)) pgs_nil))))
          (pss_one (ps_dput hu (pv 3) (pv 6) (pe_callB (call_min2 rfl) (by rfl) T.min (by decide +kernel) (pa_cons (pv 7) (pa_cons (pe_dget2 hu (pv 3) (pv 6) (pv 7) ⟨rfl, rfl, rfl, rfl⟩) pa_nil))) rfl))))))
      (pss_one (ps_ret (pe_f hf hr rfl (pa_cons (pe_lock (pe_lc (own := [("time", 6)]) (g := gName 6) (tt := tYes) rfl nd (pi_keys (pv 3)) (blkOk_by (own := [("time", 6)]) (N := ["kind", "some", "others", "least", "one", "other", "time", "cost"]) (sc := defScope sCombined) (by decide +kernel))
        (fun _ _ _ _ _ => pg_name (i := 6) nd rfl (Or.inl rfl)) (fun _ _ _ _ _ => pts_nil) (fun _ _ _ _ _ => pe_tup (pa_cons (pv 6) (pa_cons (pe_dget hu (pv 3) (pv 6) (fun _ _ => rfl)) pa_nil))))) pa_nil))))), ?_⟩
    obtain ⟨vs1, hs1, hs2⟩ := id hs
    obtain ⟨vs2, ho1, ho2⟩ := id ho
    intro l nl
    refine ⟨_, rfl, s0, rfl, ⟨_, ex_l (Ex.new nl) hs1⟩, for_list (K := K) (a := s0) (xs := vs1) (fun i σ H' => ∃ x y z u d, σ = [some (nV n), some (.ref s0), some (.ref o), some (.ref l), x, y, z, u] ∧ Ex H H' ∧ H' l = some (.dK (kv d)) ∧ LeastOf (prods n (ps.take i) qs) d) ?_ ?_ ?_ ?_⟩
    · exact ⟨none, none, none, none, [], rfl, Ex.new nl, upd_same, by rw [List.take_zero]; exact LeastOf.nil⟩
    · rintro i σ H' _ ⟨x, y, z, u, d, rfl, e, _, _⟩
      exact ex_l e hs1
    · rintro i v1 σ H' hi ⟨x, y, z, u, d, rfl, e, hl, hL⟩
      obtain ⟨a, ha, hav⟩ := paired_getL hs2 hi
      refine ⟨_, rfl, o, rfl, ⟨_, ex_l e ho1⟩, for_list (K := K) (a := o) (xs := vs2) (fun j σ H' => ∃ y z u d, σ = [some (nV n), some (.ref s0), some (.ref o), some (.ref l), some v1, y, z, u] ∧ Ex H H' ∧ H' l = some (.dK (kv d)) ∧ LeastOf (prods n (ps.take i) qs ++ (qs.take j).map (jn n a)) d) ?_ ?_ ?_ ?_⟩
      · exact ⟨y, z, u, d, rfl, e, hl, by rw [List.take_zero, List.map_nil, List.append_nil]; exact hL⟩
      · rintro j σ H2 _ ⟨y, z, u, d, rfl, e2, _, _⟩
        exact ex_l e2 ho1
      · rintro j v2 σ H2 hj2 ⟨y, z, u, d, rfl, e2, hl2, hL2⟩
        obtain ⟨b, hb, hbv⟩ := paired_getL ho2 hj2
        refine ⟨_, rfl, _, rfl, _, rfl, n, v1, v2, a, b, rfl, hav.ex e2, hbv.ex e2, fun H3 t nt e3 ht => ?_⟩
        refine ⟨t, _, rfl, SqT.of ht, rfl, _, _, rfl, _, _, rfl, rfl, ?_⟩
        have hl3 := e3 _ _ hl2
        have hst := hL2.step (x := jn n a b)
        have hx : jn n a b ∈ prods n ps qs := mem_prods.mpr ⟨a, List.mem_of_getElem? ha, b, List.mem_of_getElem? hb, rfl⟩
        have few : d.length ≤ m + 1 := hL2.few fun x hx => hm x (by
          rcases List.mem_append.mp hx with h | h
          · obtain ⟨a', ha', b', hb', ee⟩ := mem_prods.mp h
            exact mem_prods.mpr ⟨a', mem_take ha', b', hb', ee⟩
          · obtain ⟨b', hb', ee⟩ := List.mem_map.mp h
            exact mem_prods.mpr ⟨a, List.mem_of_getElem? ha, b', mem_take hb', ee⟩)
        refine ⟨_, rfl, _, rfl, l, rfl, .inl ⟨_, .inl hl3⟩, _, rfl, _, rfl, _, DGet.k (k := Sum.inl ((jn n a b).1 : Int)) hl3, ((jn n a b).2 : Int), (((look d (jn n a b).1).getD (jn n a b).2 : Nat) : Int), ?_, ?_⟩
        · rw [kv_getD]
        · refine ⟨_, rfl, _, rfl, l, _, rfl, DPut.k (k := Sum.inl ((jn n a b).1 : Int)) hl3 (by rw [kv_len]; have : sizeLine = 16777216 := sizeLine_eq; omega), ?_⟩
          have ev : V.int (if (((look d (jn n a b).1).getD (jn n a b).2 : Nat) : Int) < ((jn n a b).2 : Int) then (((look d (jn n a b).1).getD (jn n a b).2 : Nat) : Int) else ((jn n a b).2 : Int)) = nV (min (jn n a b).2 ((look d (jn n a b).1).getD (jn n a b).2)) := by
            show V.int _ = V.int _
            congr 1
            split <;> omega
          rw [ev, kv_put]
          refine ⟨_, _, _, ins d (jn n a b), rfl, (e2.trans e3).mut nl, upd_same, ?_⟩
          rw [take_next hb, List.map_append, ← List.append_assoc]
          exact hst
      · rintro σ H2 ⟨y, z, u, d, rfl, e2, hl2, hL2⟩
        rw [Paired.length ho2, List.take_length] at hL2
        exact ⟨_, _, _, _, d, rfl, e2, hl2, by rw [prods_take ha]; exact hL2⟩
    · rintro σ H2 ⟨x, y, z, u, d, rfl, e2, hl2, hL2⟩
      rw [Paired.length hs2, List.take_length] at hL2
      have few : d.length ≤ m + 1 := hL2.few hm
      refine ⟨l, _, hl2, trivial, fun od => ?_⟩
      have eL : Ex H (upd H2 l (.frz od (.dK (kv d)))) := e2.mut nl
      refine ⟨_, rfl, l, od, rfl, .inl ⟨kv d, upd_same, fun Dl nD => ?_⟩⟩
      have nlD : l ≠ Dl := ne_of_none upd_same nD
      refine lc_it walk_keys (fun i H' => Ex H H' ∧ H' l = some (.frz od (.dK (kv d))) ∧ ∃ vs, H' Dl = some (.lst vs) ∧ Prs K H' vs (d.take i)) ?_ (fun i H' _ h => h.2.1) (fun i x H3 H4 hi h y => ?_) (fun H3 h => ?_)
      · exact ⟨eL.trans (Ex.new nD), by rw [upd_ne nlD]; exact upd_same, [], upd_same, by rw [List.take_zero]; exact .nil⟩
      · obtain ⟨e3, hl3, vs, hD, hvs⟩ := h
        obtain ⟨rfl, kk, vv, hkv, rfl⟩ := y
        have hi' : i < d.length := by rw [kv_len] at hi; exact hi
        have hdi : d[i]? = some d[i] := List.getElem?_eq_getElem hi'
        have hkv2 : (kv d)[i]? = some (Sum.inl (d[i].1 : Int), nV d[i].2) := by unfold kv; rw [List.getElem?_map, hdi]; rfl
        obtain ⟨e5, e6⟩ := Prod.mk.inj (Option.some.inj (hkv.symm.trans hkv2))
        rw [e5]
        generalize hdx : d[i] = xx at hdi hkv2
        refine ⟨rfl, ?_⟩
        have hlook := look_of hL2.nd (List.mem_of_getElem? hdi)
        refine ⟨_, rfl, _, rfl, _, rfl, l, nV xx.2, rfl, .inl ⟨kv d, Sum.inl (xx.1 : Int), .inr ⟨od, hl3⟩, rfl, by rw [kv_look, hlook]; rfl⟩, (by show 2 ≤ sizeLine; decide), fun t nt => ?_⟩
        have e7 := Ex.new nt (o := .tup [kV (Sum.inl (xx.1 : Int)), nV xx.2])
        have hvl := Paired.length hvs
        rw [List.length_take] at hvl
        refine ⟨vs, e7 _ _ hD, by have : sizeLine = 16777216 := sizeLine_eq; omega, ?_, ?_, vs ++ [.ref t], upd_same, ?_⟩
        · exact (e3.trans e7).mut (fresh_back eL nD)
        · rw [upd_ne nlD]; exact e7 _ _ hl3
        · rw [take_next hdi]
          exact Prs.upd (Paired.snoc (Prs.ex e7 hvs) ⟨t, rfl, st_of upd_same⟩) (e7 _ _ hD) trivial
      · obtain ⟨e3, hl3, vs, hD, hvs⟩ := h
        rw [kv_len, List.take_length] at hvs
        refine ⟨hl3, ?_⟩
        have eU : Ex H (upd H3 l (.dK (kv d))) := e3.mut nl
        refine ⟨Dl, d, rfl, ⟨vs, sq_of (by rw [upd_ne nlD.symm]; exact hD), Prs.upd hvs hl3 trivial⟩, by have : sizeLine = 16777216 := sizeLine_eq; omega, fun H4 r ys nr e4 hN hF => ?_⟩
        exact q H4 r ys (fresh_back eU nr) (eU.trans e4) hN (hL2.front hF)
end
end Fr
/-! pairs: parted. -/
namespace Fr
open PySem PySem.Spec PyProof.Rows L2 Evl
def FitT (K : PySem.W.Frag) (H : Hp) (v : V) (z : Pr × Pr) : Prop := ∃ t x y, v = .ref t ∧ SqT K H t [x, y] ∧ Prt K H x z.1 ∧ Prt K H y z.2
theorem FitT.ex {K : PySem.W.Frag} {H H' : Hp} {v : V} {z : Pr × Pr} (e : Ex H H') (h : FitT K H v z) : FitT K H' v z := by
  obtain ⟨t, x, y, rfl, h1, h2, h3⟩ := h
  exact ⟨t, x, y, rfl, ex_t e h1, h2.ex e, h3.ex e⟩
theorem FitT.upd {K : PySem.W.Frag} {H : Hp} {v : V} {z : Pr × Pr} {l : Addr} {u o : HO} (h : FitT K H v z) (hl : H l = some u) (hu : Wr u) : FitT K (upd H l o) v z := by
  obtain ⟨t, x, y, rfl, h1, h2, h3⟩ := h
  exact ⟨t, x, y, rfl, t_upd h1 hl hu, h2.upd hl hu, h3.upd hl hu⟩
abbrev Fits (K : PySem.W.Frag) (H : Hp) : List V → List (Pr × Pr) → Prop := Paired (FitT K H)
theorem Fits.ex {K : PySem.W.Frag} {H H' : Hp} {vs : List V} {zs : List (Pr × Pr)} (e : Ex H H') (h : Fits K H vs zs) : Fits K H' vs zs := Paired.mono (fun _ _ q => q.ex e) h
theorem Fits.upd {K : PySem.W.Frag} {H : Hp} {vs : List V} {zs : List (Pr × Pr)} {l : Addr} {u o : HO} (h : Fits K H vs zs) (hl : H l = some u) (hu : Wr u) : Fits K (upd H l o) vs zs := Paired.mono (fun _ _ q => q.upd hl hu) h
def spParted (K : PySem.W.Frag) : Sp := fun vs H Q _ => ∃ (n : Nat) (s o : Addr) (v : V) (ps qs : List Pr) (x : Pr) (z : Pr × Pr), vs = [nV n, .ref s, .ref o, v] ∧ PrL K H s ps ∧ PrL K H o qs ∧ Prt K H v x ∧ Inc qs ∧ ps.length ≤ sizeLine ∧
  (fits n ps qs x).head? = some z ∧ ∀ H' u, Ex H H' → FitT K H' u z → Q u H'
section
variable {P : Program} {w : World} {K : PySem.W.Frag} {mg : Str → Option Value} {base : Heap} {D : Ad} {f : Addr} {fd : FuncData}
theorem fits_take {n i : Nat} {ps qs : List Pr} {a x : Pr} (h : ps[i]? = some a) : fits n (ps.take (i + 1)) qs x = fits n (ps.take i) qs x ++ (qs.filter fun b => decide (jn n a b = x)).map fun b => (a, b) := by
  rw [take_next h]
  unfold fits
  rw [List.flatMap_append]
  simp
theorem scParted : FnScope ["kind", "some", "others", "pair", "fits", "one", "other"] ["kind", "some", "others", "pair"] (defScope sParted) := ⟨rfl, rfl, rfl, by decide +kernel, rfl, by decide +kernel, by decide +kernel⟩
theorem ok_parted (F : Fun K "parted" "parted" sParted f fd) (T : Txt K mg D) (hj : HasF P w K mg base "joined" 1 ["kind", "one", "other"] (spJoined K)) :
    FnOk P w K mg base CX0 2 f fd ["kind", "some", "others", "pair"] (spParted K) := by
  refine F.ok scParted (fun vs H Q E h => ?_) (fun cdv A outer s H vs Q E hr h => ?_)
  · obtain ⟨n, s, o, v, ps, qs, x, z, rfl, _⟩ := h
    rfl
  · obtain ⟨n, s0, o, v, ps, qs, x, z, rfl, hs, ho, hx, inc, hz, hd, q⟩ := h
    have nd := scParted.nd
    refine ⟨_, pss_cons (ps_set (i := 4) nd rfl (.inl rfl) (pe_lst pa_nil))
      (pss_cons (ps_for PassesOwn.never rfl (pi_list (pv 1)) (pg_name (i := 5) nd rfl (.inr rfl))
        (pss_one (ps_ext (pv 4) (pe_lc (own := [("other", 6)]) (g := gName 6) (tt := tTest (tOp (rEqD K) (tCall (spJoined K) [] E0 (tCons (tVar 0) (tCons (tVar 5) (tCons (tVar 6) tNil)))) (tVar 3))) (te := tTup (tCons (tVar 5) (tCons (tVar 6) tNil)))
          rfl nd (pi_list (pv 2)) (blkOk_by (own := [("other", 6)]) (N := ["kind", "some", "others", "pair", "fits", "one", "other"]) (sc := defScope sParted) (by decide +kernel))
          (fun _ _ _ _ _ => pg_name (i := 6) nd rfl (Or.inl rfl)) (fun _ _ _ _ _ => pts_one (pt_cmpR (op_eqD hr.units) (pe_f hj hr rfl (pa_cons (pv 0) (pa_cons (pv 5) (pa_cons (pv 6) pa_nil)))) (pv 3) (nomark _)))
          (fun _ _ _ _ _ => pe_tup (pa_cons (pv 5) (pa_cons (pv 6) pa_nil)))))))
      (pss_one (ps_ret (pe_ix ix_list (pv 4) pe_int (fun _ _ => rfl))))), ?_⟩
    obtain ⟨vs1, hs1, hs2⟩ := id hs
    obtain ⟨vs2, ho1, ho2⟩ := id ho
    refine q_asgL (el_lst ea_nil (by decide : 0 ≤ 100000)) fun l H1 nl e1 h1 => ?_
    refine ⟨_, rfl, s0, rfl, ⟨_, ex_l e1 hs1⟩, for_list (K := K) (a := s0) (xs := vs1) (fun i σ H' => ∃ u u' fs, σ = [some (nV n), some (.ref s0), some (.ref o), some v, some (.ref l), u, u'] ∧ Ex H H' ∧ H' l = some (.lst fs) ∧ Fits K H' fs (fits n (ps.take i) qs x)) ?_ ?_ ?_ ?_⟩
    · exact ⟨none, none, [], rfl, e1, h1, by rw [List.take_zero]; exact .nil⟩
    · rintro i σ H' _ ⟨u, u', fs, rfl, e, _, _⟩
      exact ex_l e hs1
    · rintro i v1 σ H' hi ⟨u, u', fs, rfl, e, hl, hfs⟩
      obtain ⟨a, ha, hav⟩ := paired_getL hs2 hi
      have hi2 := (List.getElem?_eq_some_iff.mp ha).1
      refine z_extP (P := fun zs H2 => Fits K H2 zs ((qs.filter fun b => decide (jn n a b = x)).map fun b => (a, b))) hl (ev_var rfl) (fun H2 e2 Q' q' => ?_) fun zs H2 e2 hzs => ?_
      · have e3 := e.trans e2
        refine ⟨_, rfl, o, rfl, ⟨_, ex_l e3 ho1⟩, fun Dl nD => ?_⟩
        refine lc_list (K := K) (a := o) (xs := vs2) (fun j H3 => Ex H2 H3 ∧ ∃ zs, H3 Dl = some (.lst zs) ∧ Fits K H3 zs (((qs.take j).filter fun b => decide (jn n a b = x)).map fun b => (a, b))) ?_ (fun j H3 _ h => ex_l (e3.trans h.1) ho1) (fun j v2 H3 hj2 h => ?_) (fun H3 h => ?_)
        · exact ⟨Ex.new nD, [], upd_same, by rw [List.take_zero]; exact .nil⟩
        · obtain ⟨e4, zs, hD, hzs⟩ := h
          obtain ⟨b, hb, hbv⟩ := paired_getL ho2 hj2
          have hj3 := (List.getElem?_eq_some_iff.mp hb).1
          refine ⟨rfl, ?_⟩
          have e5 := e3.trans e4
          refine ⟨_, rfl, _, rfl, _, rfl, n, v1, v2, a, b, rfl, hav.ex e5, hbv.ex e5, fun H4 t nt e6 ht => ?_⟩
          refine ⟨_, rfl, prd (jn n a b), prd x, Prt.dp ⟨t, rfl, SqT.of ht⟩, Prt.dp (hx.ex (e5.trans e6)), prd_shaped _, prd_shaped _, _, by rw [prd_eqv], ?_⟩
          have tk : (qs.take (j + 1)).filter (fun b => decide (jn n a b = x)) = (qs.take j).filter (fun b => decide (jn n a b = x)) ++ [b].filter (fun b => decide (jn n a b = x)) := by rw [take_next hb, List.filter_append]
          by_cases c : jn n a b = x
          · refine ifT (decide_eq_true c) ?_
            refine ⟨_, rfl, _, rfl, (by show 2 ≤ sizeLine; decide), fun t2 nt2 => ?_⟩
            have e7 := e6.trans (Ex.new nt2 (o := .tup [v1, v2]))
            have hlz : zs.length ≤ 1 := by
              rw [Paired.length hzs, List.length_map]
              exact Nat.le_trans (List.Sublist.length_le (List.Sublist.filter _ (List.take_sublist j qs))) (fits_one inc a x)
            refine ⟨zs, e7 _ _ hD, Nat.lt_of_le_of_lt hlz (by decide), (e4.trans e7).mut nD, zs ++ [.ref t2], upd_same, ?_⟩
            rw [tk, List.map_append]
            have h1b : [b].filter (fun b => decide (jn n a b = x)) = [b] := by simp [c]
            rw [h1b]
            exact Fits.upd (Paired.snoc (Fits.ex e7 hzs) ⟨t2, v1, v2, rfl, st_of upd_same, hav.ex (e5.trans e7), hbv.ex (e5.trans e7)⟩) (e7 _ _ hD) trivial
          · refine ifF (decide_eq_false c) ?_
            refine ⟨e4.trans e6, zs, e6 _ _ hD, ?_⟩
            have h1b : [b].filter (fun b => decide (jn n a b = x)) = [] := by simp [c]
            rw [tk, h1b, List.append_nil]
            exact Fits.ex e6 hzs
        · obtain ⟨e4, zs, hD, hzs⟩ := h
          rw [Paired.length ho2, List.take_length] at hzs
          refine q' _ _ e4 ⟨Dl, zs, rfl, nD, hD, ?_, hzs⟩
          have l1 := Paired.length hzs
          rw [List.length_map] at l1
          have l2 := fits_one (k := n) inc a x
          have l3 := Paired.length hfs
          have l4 := fits_len (k := n) inc x (ps.take i)
          rw [List.length_take] at l4
          omega
      · exact ⟨_, u', _, rfl, (e.trans e2).mut nl, upd_same, by rw [fits_take ha]; exact paired_app (Fits.upd (Fits.ex e2 hfs) (e2 _ _ hl) trivial) (Fits.upd hzs (e2 _ _ hl) trivial)⟩
    · rintro σ H' ⟨u, u', fs, rfl, e, hl, hfs⟩
      rw [Paired.length hs2, List.take_length] at hfs
      have h0 : (fits n ps qs x)[0]? = some z := by rw [← List.head?_eq_getElem?]; exact hd
      obtain ⟨y, hy, hyz⟩ := paired_get hfs h0
      exact s_ret (ev_ixL (i := 0) (ev_var rfl) ev_c (sq_of hl) hy) fun H2 e2 => q H2 y (e.trans e2) (hyz.ex e2)
end
end Fr
/-! times. -/
namespace Fr
open PySem PySem.Spec PyProof.Rows L2 Evl
open Wf06 (Book)
def spTInit (K : PySem.W.Frag) (D : Ad) : Sp := fun vs H Q _ => ∃ (a dx : Addr), vs = [.ref a] ∧ H a = some (.ins D.T dx []) ∧
  ∀ H' l us, H' a = some (.ins D.T dx (tF l 2)) → H l = none → H' l = some (.lst us) → Prs K H' us (List.replicate 6 (1, 1)) → (∀ b o, H b = some o → b ≠ a → H' b = some o) → Q .non H'
def spPairOf (K : PySem.W.Frag) (D : Ad) : Sp := fun vs H Q _ => ∃ (a : Addr) (b : Book) (s : Nat), vs = [.ref a, nV s] ∧ TimesAt K D.T G0 H a b ∧ BookOk b ∧ s < 6 ∧ ∀ v, Prt K H v (b.time (.act s), b.cost (.act s)) → Q v H
def spTStep (D : Ad) : Sp := fun vs H Q _ => ∃ (a dx l : Addr) (us : List V) (n s t c : Nat), vs = [.ref a, nV s, nV t, nV c] ∧ H a = some (.ins D.T dx (tF l n)) ∧ H l = some (.lst us) ∧ us.length = 6 ∧
  ((6 ≤ s ∨ 100 < t ∨ 100 < c) → Q (.bl false) H) ∧ (s < 6 → t ≤ 100 → c ≤ 100 → ∀ p, H p = none → Q (.bl true) (upd (upd H p (.tup [nV t, nV c])) l (.lst (us.set s (.ref p)))))
def spTRounds (D : Ad) : Sp := fun vs H Q _ => ∃ (a dx l : Addr) (n m : Nat), vs = [.ref a, nV m] ∧ H a = some (.ins D.T dx (tF l n)) ∧ ((m = 0 ∨ 3 < m) → Q (.bl false) H) ∧ (1 ≤ m → m ≤ 3 → Q (.bl true) (upd H a (.ins D.T dx (tF l m))))
section
variable {P : Program} {w : World} {K : PySem.W.Frag} {mg : Str → Option Value} {base : Heap} {D : Ad} {f : Addr} {fd : FuncData}
theorem scTInit : FnScope ["self", "step"] ["self"] (defScope sTInit) := ⟨rfl, rfl, rfl, by decide +kernel, rfl, by decide +kernel, by decide +kernel⟩
theorem ok_tinit (F : Fun K "__init__" "Times.__init__" sTInit f fd) (T : Txt K mg D) : FnOk P w K mg base CX0 1 f fd ["self"] (spTInit K D) := by
  refine F.ok scTInit (fun vs H Q E h => ?_) (fun cdv A outer s H vs Q E hr h => ?_)
  · obtain ⟨a, dx, rfl, _⟩ := h
    rfl
  · obtain ⟨a, dx, rfl, ha, q⟩ := h
    have nd := scTInit.nd
    refine ⟨_, pss_cons (ps_fld (pv 0) (pe_lc (own := [("step", 1)]) (g := gName 1) (tt := tYes) rfl nd (pi_range1 rfl T.range (pa_cons (pe_op op_add (pe_ci T.MOST_STEP rfl) pe_int) pa_nil)) (blkOk_by (own := [("step", 1)]) (N := ["self", "step"]) (sc := defScope sTInit) (by decide +kernel))
        (fun _ _ _ _ _ => pg_name (i := 1) nd rfl (Or.inl rfl)) (fun _ _ _ _ _ => pts_nil) (fun _ _ _ _ _ => pe_tup (pa_cons pe_int (pa_cons pe_int pa_nil)))) rfl)
      (pss_one (ps_fld (pv 0) pe_int rfl)), ?_⟩
    refine ⟨_, _, rfl, rfl, 6, rfl, by omega, by omega, fun Dl nD => ?_⟩
    refine lc_range (lo := 0) (n := 6) (fun i H' => Ex H H' ∧ ∃ us, H' Dl = some (.lst us) ∧ Prs K H' us (List.replicate i (1, 1))) ⟨Ex.new nD, [], upd_same, .nil⟩ (fun i H1 hi h => ?_) (fun H1 h => ?_)
    · obtain ⟨e, us, hD, hus⟩ := h
      refine ⟨rfl, ?_⟩
      refine ⟨(by show 2 ≤ sizeLine; decide), fun t nt => ?_⟩
      have e2 := Ex.new nt (o := .tup [.int 1, .int 1])
      have hl := Paired.length hus
      rw [List.length_replicate] at hl
      refine ⟨us, e2 _ _ hD, by have : sizeLine = 16777216 := sizeLine_eq; omega, (e.trans e2).mut nD, us ++ [.ref t], upd_same, ?_⟩
      rw [List.replicate_succ']
      exact Prs.upd (Paired.snoc (Prs.ex e2 hus) ⟨t, rfl, st_of upd_same⟩) (e2 _ _ hD) trivial
    · obtain ⟨e, us, hD, hus⟩ := h
      have nDa : Dl ≠ a := (ne_of_none ha nD).symm
      refine ⟨_, rfl, a, _, dx, _, rfl, e _ _ ha, T.cT, T.tPairs, (by show 0 < 1000; decide), _, rfl, a, _, dx, _, rfl, upd_same, T.cT, T.tRounds, (by show 1 < 1000; decide), ?_⟩
      rw [upd_upd]
      refine q _ Dl us (by rw [upd_same]; exact congrArg (fun z => some (HO.ins D.T dx z)) (tF_put (n := 2))) nD (by rw [upd_ne nDa]; exact hD) (Prs.upd hus (e _ _ ha) trivial) fun b o hb ne => by
        rw [upd_ne ne]
        exact e _ _ hb
theorem scPairOf : FnScope ["self", "step"] ["self", "step"] (defScope sPairOf) := ⟨rfl, rfl, rfl, by decide +kernel, rfl, by decide +kernel, by decide +kernel⟩
theorem ok_pairOf (F : Fun K "pair_of" "Times.pair_of" sPairOf f fd) (T : Txt K mg D) : FnOk P w K mg base CX0 1 f fd ["self", "step"] (spPairOf K D) := by
  refine F.ok scPairOf (fun vs H Q E h => ?_) (fun cdv A outer s H vs Q E hr h => ?_)
  · obtain ⟨a, b, s, rfl, _⟩ := h
    rfl
  · obtain ⟨a, b, st, rfl, ⟨_, dx, l, us, h0, _, h1, h2⟩, ok, hs, q⟩ := h
    refine ⟨_, pss_one (ps_ret (pe_ix ix_list (pe_fld (pv 0) rfl) (pv 1) (fun _ _ => rfl))), ?_⟩
    obtain ⟨v, hv, hp⟩ := paired_get h2 (pairs_get ok hs)
    exact ⟨_, rfl, a, _, dx, _, _, rfl, h0, T.cT, T.tPairs, tF_pairs, _, rfl, l, _, _, v, rfl, rfl, sq_of h1, nat_at hv, q v hp⟩
theorem scTStep : FnScope ["self", "step", "time", "cost"] ["self", "step", "time", "cost"] (defScope sTStep) := ⟨rfl, rfl, rfl, by decide +kernel, rfl, by decide +kernel, by decide +kernel⟩
theorem ok_tstep (F : Fun K "put_step" "Times.put_step" sTStep f fd) (T : Txt K mg D) : FnOk P w K mg base CX0 1 f fd ["self", "step", "time", "cost"] (spTStep D) := by
  refine F.ok scTStep (fun vs H Q E h => ?_) (fun cdv A outer s H vs Q E hr h => ?_)
  · obtain ⟨a, dx, l, us, n, s, t, c, rfl, _⟩ := h
    rfl
  · obtain ⟨a, dx, l, us, n, st, t, c, rfl, ha, hl, hu, q1, q2⟩ := h
    refine ⟨_, pss_cons (ps_if (PW.pt (pw_or (pt_cmpR op_gt (pv 1) (pe_ci T.MOST_STEP rfl) (nomark _)) (pw_or (pt_cmpR op_gt (pv 2) (pe_ci T.MOST_OF_STEP rfl) (nomark _)) (pw_or1 (pt_cmpR op_gt (pv 3) (pe_ci T.MOST_OF_STEP rfl) (nomark _))))))
        (pss_one (ps_ret pe_bl)) pss_nil)
      (pss_cons (ps_asg (pe_tup (pa_cons (pv 2) (pa_cons (pv 3) pa_nil))) (pg_sub (pe_fld (pv 0) rfl) (pv 1) set_list)) (pss_one (ps_ret pe_bl))), ?_⟩
    refine ⟨_, rfl, _, _, rfl, rfl, _, rfl, ?_⟩
    refine ite2 (fun h => ?_) (fun h1 => ?_)
    · exact q1 (.inl (by have := of_decide_eq_true h; omega))
    refine ⟨_, rfl, _, _, rfl, rfl, _, rfl, ?_⟩
    refine ite2 (fun h => ?_) (fun h2 => ?_)
    · exact q1 (.inr (.inl (by have := of_decide_eq_true h; omega)))
    refine ⟨_, rfl, _, _, rfl, rfl, _, rfl, ?_⟩
    by_cases h3 : (100 : Int) < (c : Int)
    · refine ifT (decide_eq_true h3) ?_
      exact q1 (.inr (.inr (by omega)))
    · refine ifF (decide_eq_false h3) ?_
      rw [decide_eq_true_iff] at h1 h2
      refine ⟨_, rfl, _, rfl, (by show 2 ≤ sizeLine; decide), fun p np => ?_⟩
      have e := Ex.new np (o := .tup [nV t, nV c])
      refine ⟨_, rfl, a, _, dx, _, _, rfl, e _ _ ha, T.cT, T.tPairs, tF_pairs, _, rfl, l, _, _, st, rfl, rfl, e _ _ hl, ixN_of (by omega), ?_⟩
      exact q2 (by omega) (by omega) (by omega) p np
theorem scTRounds : FnScope ["self", "number"] ["self", "number"] (defScope sTRounds) := ⟨rfl, rfl, rfl, by decide +kernel, rfl, by decide +kernel, by decide +kernel⟩
theorem ok_trounds (F : Fun K "put_rounds" "Times.put_rounds" sTRounds f fd) (T : Txt K mg D) : FnOk P w K mg base CX0 1 f fd ["self", "number"] (spTRounds D) := by
  refine F.ok scTRounds (fun vs H Q E h => ?_) (fun cdv A outer s H vs Q E hr h => ?_)
  · obtain ⟨a, dx, l, n, m, rfl, _⟩ := h
    rfl
  · obtain ⟨a, dx, l, n, m, rfl, ha, q1, q2⟩ := h
    refine ⟨_, pss_cons (ps_if (pt_not (pt_chain op_le op_le pe_int (pv 1) (pe_ci T.MOST_ROUNDS rfl))) (pss_one (ps_ret pe_bl)) pss_nil)
      (pss_cons (ps_fld (pv 0) (pv 1) rfl) (pss_one (ps_ret pe_bl))), ?_⟩
    refine ⟨_, rfl, 1, _, rfl, rfl, _, rfl, ?_⟩
    by_cases h1 : (1 : Int) ≤ (m : Int)
    · refine ifT (decide_eq_true h1) ?_
      refine ⟨_, _, rfl, rfl, _, rfl, ?_⟩
      by_cases h2 : (m : Int) ≤ 3
      · rw [decide_eq_true h2]
        refine ⟨_, rfl, _, rfl, a, _, dx, _, rfl, ha, T.cT, T.tRounds, (by show 2 < 1000; decide), ?_⟩
        have := q2 (by omega) (by omega)
        rw [← tF_rput (n := n)] at this
        exact this
      · rw [decide_eq_false h2]
        exact q1 (.inr (by omega))
    · refine ifF (decide_eq_false h1) ?_
      exact ⟨_, rfl, q1 (.inl (by omega))⟩
end
end Fr
/-! worst. -/
namespace Fr
open PySem PySem.Spec PyProof.Rows L2 Evl
open Wf06 (Book)
def grV (a b : Pr) : Pr := (max a.1 b.1, max a.2 b.2)
def lwV (k : Nat) (a b : Pr) : Pr := (a.1 + k * (b.1 + a.1), a.2 + k * (b.2 + a.2))
theorem lwV_succ (k : Nat) (a b : Pr) : lwV (k + 1) a b = grV a (jn 2 a (jn 2 b (lwV k a b))) := by
  have h1 : (k + 1) * (b.1 + a.1) = k * (b.1 + a.1) + (b.1 + a.1) := Nat.succ_mul _ _
  have h2 : (k + 1) * (b.2 + a.2) = k * (b.2 + a.2) + (b.2 + a.2) := Nat.succ_mul _ _
  refine Prod.ext ?_ ?_
  · show a.1 + (k + 1) * (b.1 + a.1) = max a.1 (a.1 + (b.1 + (a.1 + k * (b.1 + a.1))))
    omega
  · show a.2 + (k + 1) * (b.2 + a.2) = max a.2 (a.2 + (b.2 + (a.2 + k * (b.2 + a.2))))
    omega
def cwV (k n : Nat) (a b : Pr) : Pr := if k = 3 then grV a b else if k = 5 then lwV (n - 1) a b else jn k a b
def wc (b : Book) (p : Wf.P) : Pr := (b.latest p, b.dearest p)
theorem wc_of {b : Book} {x l r : Wf.P} (h : kids x = some (l, r)) : wc b x = cwV (kind x) b.rounds (wc b l) (wc b r) := by
  cases x <;> simp [kids] at h <;> obtain ⟨rfl, rfl⟩ := h <;> rfl
def spGreater (K : PySem.W.Frag) : Sp := fun vs H Q _ => ∃ (v u : V) (a b : Pr), vs = [v, u] ∧ Prt K H v a ∧ Prt K H u b ∧ ∀ H' x, Ex H H' → Prt K H' x (grV a b) → Q x H'
def spLoopWorst (K : PySem.W.Frag) : Sp := fun vs H Q _ => ∃ (n : Nat) (v u : V) (a b : Pr), vs = [nV n, v, u] ∧ 1 ≤ n ∧ n ≤ 3 ∧ Prt K H v a ∧ Prt K H u b ∧ ∀ H' x, Ex H H' → Prt K H' x (lwV (n - 1) a b) → Q x H'
def spConWorst (K : PySem.W.Frag) : Sp := fun vs H Q _ => ∃ (k n : Nat) (v u : V) (a b : Pr), vs = [nV k, nV n, v, u] ∧ 1 ≤ n ∧ n ≤ 3 ∧ Prt K H v a ∧ Prt K H u b ∧ ∀ H' x, Ex H H' → Prt K H' x (cwV k n a b) → Q x H'
def spWorstOf (K : PySem.W.Frag) (D : Ad) : Sp := fun vs H Q _ => ∃ (a t : Addr) (p : Wf.P) (b : Book), vs = [.ref a, .ref t] ∧ ProcAt K D.P G0 H a p ∧ TimesAt K D.T G0 H t b ∧ BookOk b ∧ p.right = true ∧ p.size ≤ 1000 ∧
  ∀ H' x, Ex H H' → Prt K H' x (wc b p) → Q x H'
section
variable {P : Program} {w : World} {K : PySem.W.Frag} {mg : Str → Option Value} {base : Heap} {D : Ad} {f : Addr} {fd : FuncData}
theorem scGreater : FnScope ["one", "other"] ["one", "other"] (defScope sGreater) := ⟨rfl, rfl, rfl, by decide +kernel, rfl, by decide +kernel, by decide +kernel⟩
theorem ok_greater (F : Fun K "greater" "greater" sGreater f fd) (T : Txt K mg D) : FnOk P w K mg base CX0 1 f fd ["one", "other"] (spGreater K) := by
  refine F.ok scGreater (fun vs H Q E h => ?_) (fun cdv A outer s H vs Q E hr h => ?_)
  · obtain ⟨v, u, a, b, rfl, _⟩ := h
    rfl
  · obtain ⟨v, u, a, b, rfl, h1, h2, q⟩ := h
    refine ⟨_, pss_one (ps_ret (pe_tup (pa_cons (pe_callB (call_max2 rfl) (by rfl) T.max (by decide +kernel) (pa_cons (pe_ix ix_tup (pv 0) pe_int (fun _ _ => rfl)) (pa_cons (pe_ix ix_tup (pv 1) pe_int (fun _ _ => rfl)) pa_nil)))
      (pa_cons (pe_callB (call_max2 rfl) (by rfl) T.max (by decide +kernel) (pa_cons (pe_ix ix_tup (pv 0) pe_int (fun _ _ => rfl)) (pa_cons (pe_ix ix_tup (pv 1) pe_int (fun _ _ => rfl)) pa_nil))) pa_nil)))), ?_⟩
    refine s_retU (eu_tup (ea_2 (ev_max (ev_fst (ev_var rfl) h1) (ev_fst (ev_var rfl) h2)) (ev_max (ev_snd (ev_var rfl) h1) (ev_snd (ev_var rfl) h2))) (by decide : 2 ≤ 100000)) fun t H2 nt e2 ht => ?_
    exact q H2 _ e2 ⟨t, rfl, st_of ht⟩
theorem scLoopWorst : FnScope ["rounds", "first", "second", "found", "turn"] ["rounds", "first", "second"] (defScope sLoopWorst) := ⟨rfl, rfl, rfl, by decide +kernel, rfl, by decide +kernel, by decide +kernel⟩
theorem ok_loopWorst (F : Fun K "loop_worst" "loop_worst" sLoopWorst f fd) (T : Txt K mg D) (hg : HasF P w K mg base "greater" 1 ["one", "other"] (spGreater K)) (hj : HasF P w K mg base "joined" 1 ["kind", "one", "other"] (spJoined K)) :
    FnOk P w K mg base CX0 2 f fd ["rounds", "first", "second"] (spLoopWorst K) := by
  refine F.ok scLoopWorst (fun vs H Q E h => ?_) (fun cdv A outer s H vs Q E hr h => ?_)
  · obtain ⟨n, v, u, a, b, rfl, _⟩ := h
    rfl
  · obtain ⟨n, v, u, a, b, rfl, n1, n3, h1, h2, q⟩ := h
    have nd := scLoopWorst.nd
    refine ⟨_, pss_cons (ps_set (i := 3) nd rfl (.inl rfl) (pv 1))
      (pss_cons (ps_for PassesOwn.never rfl (pi_range1 rfl T.range (pa_cons (pe_op op_sub (pv 0) pe_int) pa_nil)) (pg_name (i := 4) nd rfl (.inl rfl))
        (pss_one (ps_set (i := 3) nd rfl (.inl rfl) (pe_f hg hr rfl (pa_cons (pv 1) (pa_cons (pe_f hj hr rfl (pa_cons (pe_ci T.SEQUENCE rfl) (pa_cons (pv 1) (pa_cons (pe_f hj hr rfl (pa_cons (pe_ci T.SEQUENCE rfl) (pa_cons (pv 2) (pa_cons (pv 3) pa_nil)))) pa_nil)))) pa_nil))))))
      (pss_one (ps_ret (pv 3)))), ?_⟩
    refine ⟨_, rfl, ?_⟩
    refine ⟨_, rfl, _, _, rfl, rfl, _, rfl, by omega, by omega, ?_⟩
    have en : ((n : Int) - 1).toNat = n - 1 := by omega
    rw [en]
    refine for_range (lo := 0) (n := n - 1) (fun i σ H' => ∃ x y, σ = [some (nV n), some v, some u, some x, y] ∧ Ex H H' ∧ Prt K H' x (lwV i a b)) ⟨v, none, rfl, Ex.refl _, ?_⟩ (fun i σ H' hi h => ?_) (fun σ H' h => ?_)
    · have : lwV 0 a b = a := by
        refine Prod.ext ?_ ?_
        · show a.1 + 0 * _ = a.1; rw [Nat.zero_mul]; rfl
        · show a.2 + 0 * _ = a.2; rw [Nat.zero_mul]; rfl
      rw [this]
      exact h1
    · obtain ⟨x, y, rfl, e, hx⟩ := h
      refine ⟨_, rfl, _, rfl, _, rfl, _, rfl, 2, u, x, b, lwV i a b, rfl, h2.ex e, hx, fun H1 t1 nt1 e1 ht1 => ?_⟩
      refine ⟨2, v, .ref t1, a, _, rfl, h1.ex (e.trans e1), ⟨t1, rfl, st_of ht1⟩, fun H2 t2 nt2 e2 ht2 => ?_⟩
      refine ⟨v, .ref t2, a, _, rfl, h1.ex ((e.trans e1).trans e2), ⟨t2, rfl, st_of ht2⟩, fun H3 z e3 hz => ?_⟩
      exact ⟨z, _, rfl, ((e.trans e1).trans e2).trans e3, by rw [lwV_succ]; exact hz⟩
    · obtain ⟨x, y, rfl, e, hx⟩ := h
      exact ⟨_, rfl, q H' x e hx⟩
theorem scConWorst : FnScope ["kind", "rounds", "first", "second"] ["kind", "rounds", "first", "second"] (defScope sConWorst) := ⟨rfl, rfl, rfl, by decide +kernel, rfl, by decide +kernel, by decide +kernel⟩
theorem ok_conWorst (F : Fun K "construct_worst" "construct_worst" sConWorst f fd) (T : Txt K mg D) (hg : HasF P w K mg base "greater" 1 ["one", "other"] (spGreater K)) (hj : HasF P w K mg base "joined" 1 ["kind", "one", "other"] (spJoined K))
    (hl : HasF P w K mg base "loop_worst" 2 ["rounds", "first", "second"] (spLoopWorst K)) : FnOk P w K mg base CX0 3 f fd ["kind", "rounds", "first", "second"] (spConWorst K) := by
  refine F.ok scConWorst (fun vs H Q E h => ?_) (fun cdv A outer s H vs Q E hr h => ?_)
  · obtain ⟨k, n, v, u, a, b, rfl, _⟩ := h
    rfl
  · obtain ⟨k, n, v, u, a, b, rfl, n1, n3, h1, h2, q⟩ := h
    have hr1 : Room 1 _ := hr.mono (by decide)
    refine ⟨_, pss_cons (ps_if (pt_cmpR op_eq (pv 0) (pe_ci T.CHOICE rfl) (nomark _)) (pss_one (ps_ret (pe_f hg hr1 rfl (pa_cons (pv 2) (pa_cons (pv 3) pa_nil))))) pss_nil)
      (pss_one (ps_ret (pe_ifExp (pt_cmpR op_eq (pv 0) (pe_ci T.LOOP rfl) (nomark _)) (pe_f hl hr rfl (pa_cons (pv 1) (pa_cons (pv 2) (pa_cons (pv 3) pa_nil)))) (pe_f hj hr1 rfl (pa_cons (pv 0) (pa_cons (pv 2) (pa_cons (pv 3) pa_nil))))))), ?_⟩
    refine q_when (et_cmp (ev_var rfl) (ev_c (v := nV 3)) rv_eqN) (fun hb H1 e1 => ?_) (fun hb H1 e1 => ?_)
    · have c := of_decide_eq_true hb
      unfold cwV at q
      rw [if_pos c] at q
      exact ⟨_, rfl, _, rfl, v, u, a, b, rfl, h1.ex e1, h2.ex e1, fun H2 x e2 hx => q H2 x (e1.trans e2) hx⟩
    · have c := of_decide_eq_false hb
      unfold cwV at q
      rw [if_neg c] at q
      refine et_cmp (ev_var rfl) (ev_c (v := nV 5)) rv_eqN H1 (Ex.refl _) _ fun H2 e2 => ?_
      by_cases c5 : k = 5
      · refine ifT (decide_eq_true c5) ?_
        rw [if_pos c5] at q
        exact ⟨_, rfl, _, rfl, _, rfl, n, v, u, a, b, rfl, n1, n3, h1.ex (e1.trans e2), h2.ex (e1.trans e2), fun H3 x e3 hx => q H3 x ((e1.trans e2).trans e3) hx⟩
      · refine ifF (decide_eq_false c5) ?_
        rw [if_neg c5] at q
        exact ⟨_, rfl, _, rfl, _, rfl, k, v, u, a, b, rfl, h1.ex (e1.trans e2), h2.ex (e1.trans e2), fun H3 t nt e3 ht => q H3 _ ((e1.trans e2).trans e3) ⟨t, rfl, st_of ht⟩⟩
theorem act_of {p : Wf.P} (h : kind p = 0) : ∃ a, p = .act a := by
  cases p <;> simp [kind] at h <;> exact ⟨_, rfl⟩
theorem skip_of {p : Wf.P} (h : kind p = 1) : p = .skip := by
  cases p <;> simp [kind] at h <;> rfl
/-- the node's pair stands at i -/
def WcR (K : PySem.W.Frag) (H : Hp) (p : Wf.P) (g : Wf.P → Pr) (i : Nat) (v : V) : Prop := ∀ q, (nodes p)[i]? = some q → Prt K H v (g q)
theorem scWorstOf : FnScope ["process", "times", "found", "at", "kind"] ["process", "times"] (defScope sWorstOf) := ⟨rfl, rfl, rfl, by decide +kernel, rfl, by decide +kernel, by decide +kernel⟩
theorem ok_worstOf (F : Fun K "worst_of" "worst_of" sWorstOf f fd) (T : Txt K mg D) (hz : HasM P w K mg base D.P "size" 1 ["self"] (spSize K D)) (hp : HasM P w K mg base D.T "pair_of" 1 ["self", "step"] (spPairOf K D))
    (hc : HasF P w K mg base "construct_worst" 3 ["kind", "rounds", "first", "second"] (spConWorst K)) : FnOk P w K mg base CX0 4 f fd ["process", "times"] (spWorstOf K D) := by
  refine F.ok scWorstOf (fun vs H Q E h => ?_) (fun cdv A outer s H vs Q E hr h => ?_)
  · obtain ⟨a, t, p, b, rfl, _⟩ := h
    rfl
  · obtain ⟨a, t, p, b, rfl, hpr, ht, ok, rt, hb, q⟩ := h
    have nd := scWorstOf.nd
    have hr1 : Room 1 _ := hr.mono (by decide)
    refine ⟨_, pss_cons (ps_set (i := 2) nd rfl (.inl rfl) (pe_op op_rep (pe_lst (pa_cons (pe_tup (pa_cons pe_int (pa_cons pe_int pa_nil))) pa_nil)) (pe_m0 (pv 0) T.cP hz hr1)))
      (pss_cons (ps_for PassesOwn.never rfl (pi_revR rfl T.reversed (prg_1 rfl T.range (pe_m0 (pv 0) T.cP hz hr1))) (pg_name (i := 3) nd rfl (.inl rfl))
        (pss_cons (ps_set (i := 4) nd rfl (.inl rfl) (pe_ix ix_list (pe_fld (pv 0) rfl) (pv 3) (fun _ _ => rfl)))
        (pss_one (ps_if (pt_cmpR op_eq (pv 4) (pe_ci T.STEP rfl) (nomark _))
          (pss_one (ps_asg (pe_m (pv 1) T.cT hp hr1 (pa_cons (pe_ix ix_list (pe_fld (pv 0) rfl) (pv 3) (fun _ _ => rfl)) pa_nil)) (pg_sub (pv 2) (pv 3) set_list)))
          (pss_one (ps_if (pt_cmpR op_ne (pv 4) (pe_ci T.EMPTY rfl) (nomark _))
            (pss_one (ps_asg (pe_f hc hr rfl (pa_cons (pv 4) (pa_cons (pe_fld (pv 1) rfl) (pa_cons (pe_ix ix_list (pv 2) (pe_op op_add (pv 3) pe_int) (fun _ _ => rfl)) (pa_cons (pe_ix ix_list (pv 2) (pe_ix ix_list (pe_fld (pv 0) rfl) (pv 3) (fun _ _ => rfl)) (fun _ _ => rfl)) pa_nil))))) (pg_sub (pv 2) (pv 3) set_list)))
            pss_nil))))))
      (pss_one (ps_ret (pe_ix ix_list (pv 2) pe_int (fun _ _ => rfl))))), ?_⟩
    obtain ⟨_, dx, k, st, c, hi, _, _, _, hk, hst, hs⟩ := id hpr
    obtain ⟨_, dt, lt, ut, hti, _, htl, htu⟩ := id ht
    have evZ : ∀ {σ : L2.St} {H1 : Hp}, σ[0]? = some (some (.ref a)) → Ex H H1 → Ev (tMeth D.P "size" (spSize K D) [] E0 (tVar 0) tNil) σ H1 (nV p.size) := fun h0 e1 =>
      ev_methV (ev_var h0) (e1 _ _ hi) pF_size ea_nil fun H2 e2 Q q => ⟨a, p, rfl, hpr.ex (e1.trans e2), q H2 (Ex.refl _)⟩
    have big : p.size ≤ sizeLine := Nat.le_trans hb (by decide)
    -- [(0, 0)] * size
    refine ⟨(by show 2 ≤ sizeLine; decide), fun t0 nt0 => ⟨(by show 1 ≤ sizeLine; decide), fun l0 nl0 => ?_⟩⟩
    have e0 : Ex H (upd (upd H t0 (.tup [.int 0, .int 0])) l0 (.lst [.ref t0])) := (Ex.new nt0).trans (Ex.new nl0)
    refine evZ rfl e0 _ (Ex.refl _) _ fun H1 e1 => ?_
    refine ⟨l0, _, _, rfl, rfl, e1 _ _ upd_same, by omega, (by have : sizeLine = 16777216 := sizeLine_eq; omega), (by show 1 * (p.size : Int).toNat ≤ sizeLine; omega), fun l nl => ?_⟩
    have hf : (List.replicate (p.size : Int).toNat [V.ref t0]).flatten = List.replicate p.size (V.ref t0) := by rw [flat_rep]; simp
    rw [hf]
    have e01 : Ex H H1 := e0.trans e1
    have nlH : H l = none := fresh_back e01 nl
    have h00 : Prt K H1 (.ref t0) (0, 0) := ⟨t0, rfl, st_of (e1 _ _ (Ex.new nl0 _ _ upd_same))⟩
    have e2 := Ex.new nl (o := .lst (List.replicate p.size (.ref t0)))
    refine q_rev (evZ rfl (e01.trans e2)) (by omega) (fun k' σ H' => ∃ u v xs, σ = [some (.ref a), some (.ref t), some (.ref l), u, v] ∧ Ex H H' ∧ H' l = some (.lst xs) ∧ FilledR (WcR K H' p (wc b)) p.size k' xs ∧ (∀ i, i < k' → ∃ v, xs[i]? = some v ∧ Prt K H' v (0, 0))) (fun H2 e3 => ?_) (fun k' σ H' hk' h => ?_) (fun σ H' h => ?_)
    · exact ⟨none, none, _, rfl, (e01.trans e2).trans e3, e3 _ _ upd_same, .start (by simp), fun i hi => ⟨.ref t0, by simp [hi], h00.ex (e2.trans e3)⟩⟩
    · obtain ⟨u, v, xs, rfl, e, g, fl, fz⟩ := h
      obtain ⟨x, hx⟩ := node_at p hk'
      have upL : ∀ {H4 : Hp} {ys : List V}, Ex H' H4 → FilledR (WcR K (upd H4 l (.lst ys)) p (wc b)) p.size (k' + 1) xs ∧ (∀ i, i < k' → ∃ v, xs[i]? = some v ∧ Prt K (upd H4 l (.lst ys)) v (0, 0)) := fun {H4 ys} e4 =>
        ⟨fl.imp fun i v h q hq => ((h q hq).ex e4).upd (e4 _ _ g) trivial, fun i hi => let ⟨v, h1, h2⟩ := fz i (by omega); ⟨v, h1, (h2.ex e4).upd (e4 _ _ g) trivial⟩⟩
      have setZ : ∀ {xs : List V} {z : V} {H4 : Hp}, (∀ i, i < k' → ∃ v, xs[i]? = some v ∧ Prt K H4 v (0, 0)) → (∀ i, i < k' → ∃ v, (xs.set k' z)[i]? = some v ∧ Prt K H4 v (0, 0)) := fun h i hi => by
        obtain ⟨v, h1, h2⟩ := h i hi
        exact ⟨v, by rw [List.getElem?_set_ne (by omega)]; exact h1, h2⟩
      refine q_asg (ev_ixL (ev_fld (ev_var rfl) (e _ _ hi) T.cP T.pKinds pF_kinds) (ev_var rfl) (hk.ex e) (nl_get (kinds_get hx))) fun H2 e3 => ?_
      refine s_if (et_cmp (ev_var rfl) ev_zero rv_eqN) (fun hb' H3 e4 => ?_) (fun hb' H3 e4 => ?_)
      · obtain ⟨ac, rfl⟩ := act_of (of_decide_eq_true hb')
        have e34 := e3.trans e4
        have eH := e.trans e34
        refine ⟨_, rfl, t, dt, _, rfl, eH _ _ hti, tF_no (by decide +kernel) (by decide +kernel), _, rfl, a, _, dx, _, _, rfl, eH _ _ hi, T.cP, T.pSteps, pF_steps, _, rfl, st, _, _, _, rfl, rfl, hst.ex eH, nat_at (nl_get (steps_get hx)), ?_⟩
        refine ⟨t, b, ac, rfl, ht.ex eH, ok, right_node p rt hx, fun z hz => ?_⟩
        refine ⟨_, rfl, _, rfl, l, _, _, k', rfl, rfl, e34 _ _ g, ixN_of (by rw [fl.1]; exact hk'), ?_⟩
        obtain ⟨u1, u2⟩ := upL (ys := xs.set k' z) e34
        refine ⟨_, _, _, rfl, eH.mut nlH, upd_same, u1.set hk' fun q' hq' => ?_, setZ u2⟩
        rw [hx] at hq'
        cases hq'
        exact hz.upd (e34 _ _ g) trivial
      · refine s_when (et_cmp (ev_var rfl) ev_one rv_neN) (fun hb2 H4 e5 => ?_) (fun hb2 H4 e5 => ?_)
        · obtain ⟨l', r, hx'⟩ : ∃ l r, kids x = some (l, r) := by
            have h0 := of_decide_eq_false hb'
            rw [Bool.not_eq_true', decide_eq_false_iff_not] at hb2
            cases q : kids x with
            | none => have := kids_kind.mp q; omega
            | some y => exact ⟨y.1, y.2, rfl⟩
          obtain ⟨c1, c2⟩ := nodes_kids p hx hx'
          have zl := node_end p c1
          have zr := node_end p c2
          have pl := size_pos l'
          have pr := size_pos r
          have e35 := (e3.trans e4).trans e5
          have eH := e.trans e35
          obtain ⟨y1, hy1, hq1⟩ := fl.2 (k' + 1) (by omega) (by omega)
          obtain ⟨y2, hy2, hq2⟩ := fl.2 (k' + 1 + l'.size) (by omega) (by omega)
          have sx : (secs 0 p)[k']? = some (k' + 1 + l'.size) := by rw [secs_get p 0 hx, secAt_of hx', Nat.zero_add]
          refine gcall (ea_4 (ev_var rfl) (ev_fld (ev_var rfl) (eH _ _ hti) T.cT T.tRounds tF_rounds) (ev_ixL (ev_var rfl) (ev_add (ev_var rfl) ev_one) (sq_of (e35 _ _ g)) hy1)
            (ev_ixL (ev_var rfl) (ev_ixL (ev_fld (ev_var rfl) (eH _ _ hi) T.cP T.pSeconds pF_seconds) (ev_var rfl) (hs.ex eH) (nl_get sx)) (sq_of (e35 _ _ g)) hy2)) fun H5 e6 => ?_
          have e36 := e35.trans e6
          refine ⟨kind x, b.rounds, y1, y2, _, _, rfl, ok.r1, ok.r3, (hq1 _ c1).ex e36, (hq2 _ c2).ex e36, fun H6 z e7 hz => ?_⟩
          have e37 := e36.trans e7
          refine ⟨_, rfl, _, rfl, l, _, _, k', rfl, rfl, e37 _ _ g, ixN_of (by rw [fl.1]; exact hk'), ?_⟩
          obtain ⟨u1, u2⟩ := upL (ys := xs.set k' z) e37
          refine ⟨_, _, _, rfl, (e.trans e37).mut nlH, upd_same, u1.set hk' fun q' hq' => ?_, setZ u2⟩
          rw [hx] at hq'
          cases hq'
          rw [wc_of hx']
          exact hz.upd (e37 _ _ g) trivial
        · have hx1 : x = .skip := skip_of (by
            rw [Bool.not_eq_false', decide_eq_true_iff] at hb2
            exact hb2)
          subst hx1
          have e35 := (e3.trans e4).trans e5
          refine ⟨_, _, xs, rfl, e.trans e35, e35 _ _ g, (fl.imp fun i v h q hq => (h q hq).ex e35).skip ?_, fun i hi => let ⟨v, h1, h2⟩ := fz i (by omega); ⟨v, h1, h2.ex e35⟩⟩
          obtain ⟨z, hz, hz2⟩ := fz k' (by omega)
          refine ⟨z, hz, fun q' hq' => ?_⟩
          rw [hx] at hq'
          cases hq'
          exact hz2.ex e35
    · obtain ⟨u, v, xs, rfl, e, g, fl, _⟩ := h
      obtain ⟨z, hz, hz2⟩ := fl.2 0 (Nat.zero_le _) (size_pos p)
      exact s_ret (ev_ixL (i := 0) (ev_var rfl) ev_c (sq_of g) hz) fun H3 e3 => q H3 z (e.trans e3) ((hz2 p (nodes_zero p)).ex e3)
end
end Fr
/-! judging: the table; fits, goes_on, loop_fits, fits_of. -/
namespace Fr
open PySem PySem.Spec PyProof.Rows L2 Evl
open Wf06 (isRun roundsOf)
abbrev jF (a r : Addr) (n : Nat) (k : Addr) : List (Str × V) := [("process", .ref a), ("run", .ref r), ("rounds", nV n), ("known", .ref k)]
section
variable {a r k : Addr} {n : Nat}
theorem jF_process : (jF a r n k).lookup ("process" : Str) = some (.ref a) := lk0
theorem jF_run : (jF a r n k).lookup ("run" : Str) = some (.ref r) := (lkN (by decide +kernel)).trans lk0
theorem jF_rounds : (jF a r n k).lookup ("rounds" : Str) = some (nV n) := (lkN (by decide +kernel)).trans ((lkN (by decide +kernel)).trans lk0)
theorem jF_known : (jF a r n k).lookup ("known" : Str) = some (.ref k) := (lkN (by decide +kernel)).trans ((lkN (by decide +kernel)).trans ((lkN (by decide +kernel)).trans lk0))
theorem jF_no {m : Str} (h1 : (m == "process") = false) (h2 : (m == "run") = false) (h3 : (m == "rounds") = false) (h4 : (m == "known") = false) : (jF a r n k).lookup m = none :=
  (lkN h1).trans ((lkN h2).trans ((lkN h3).trans ((lkN h4).trans rfl)))
theorem jF_fits : (jF a r n k).lookup ("fits" : Str) = none := jF_no (by decide +kernel) (by decide +kernel) (by decide +kernel) (by decide +kernel)
theorem jF_fits_of : (jF a r n k).lookup ("fits_of" : Str) = none := jF_no (by decide +kernel) (by decide +kernel) (by decide +kernel) (by decide +kernel)
theorem jF_loop_fits : (jF a r n k).lookup ("loop_fits" : Str) = none := jF_no (by decide +kernel) (by decide +kernel) (by decide +kernel) (by decide +kernel)
theorem jF_goes_on : (jF a r n k).lookup ("goes_on" : Str) = none := jF_no (by decide +kernel) (by decide +kernel) (by decide +kernel) (by decide +kernel)
end
def CellOk (H : Hp) (rows : List Addr) (n : Nat) (q s : Wf.P) (v : V) : Prop := ∃ c, v = .ref c ∧ c ∉ rows ∧ H c = some (.lst ((fitsL n q s).map V.bl))
def RowOk (H : Hp) (rows : List Addr) (n : Nat) (p s : Wf.P) (m : Nat) (R : Addr) : Prop := ∃ cs, H R = some (.lst cs) ∧ FilledR (fun i v => ∀ q, (nodes p)[i]? = some q → CellOk H rows n q s v) p.size m cs
structure KTab (H : Hp) (ak : Addr) (rows : List Addr) (n : Nat) (p r : Wf.P) (lev : Nat → Nat) : Prop where
  l : H ak = some (.lst (rows.map V.ref))
  len : rows.length = r.size
  nd : rows.Nodup
  na : ak ∉ rows
  row : ∀ i R s, rows[i]? = some R → (nodes r)[i]? = some s → RowOk H rows n p s (lev i) R
theorem CellOk.ex {H H' : Hp} {rows : List Addr} {n : Nat} {q s : Wf.P} {v : V} (e : Ex H H') (h : CellOk H rows n q s v) : CellOk H' rows n q s v := by
  obtain ⟨c, rfl, h1, h2⟩ := h
  exact ⟨c, rfl, h1, e _ _ h2⟩
theorem RowOk.ex {H H' : Hp} {rows : List Addr} {n : Nat} {p s : Wf.P} {m : Nat} {R : Addr} (e : Ex H H') (h : RowOk H rows n p s m R) : RowOk H' rows n p s m R := by
  obtain ⟨cs, h1, h2⟩ := h
  exact ⟨cs, e _ _ h1, h2.imp fun i v h q hq => (h q hq).ex e⟩
theorem KTab.ex {H H' : Hp} {ak : Addr} {rows : List Addr} {n : Nat} {p r : Wf.P} {lev : Nat → Nat} (e : Ex H H') (h : KTab H ak rows n p r lev) : KTab H' ak rows n p r lev :=
  ⟨e _ _ h.l, h.len, h.nd, h.na, fun i R s h1 h2 => (h.row i R s h1 h2).ex e⟩
theorem FilledR.weak {R : Nat → V → Prop} {n k k' : Nat} {xs : List V} (h : FilledR R n k xs) (le : k ≤ k') : FilledR R n k' xs := ⟨h.1, fun i h1 h2 => h.2 i (by omega) h2⟩
theorem KTab.weak {H : Hp} {ak : Addr} {rows : List Addr} {n : Nat} {p r : Wf.P} {lev lev' : Nat → Nat} (h : KTab H ak rows n p r lev) (le : ∀ i, i < r.size → lev i ≤ lev' i) : KTab H ak rows n p r lev' :=
  ⟨h.l, h.len, h.nd, h.na, fun i R s h1 h2 => by
    obtain ⟨cs, g1, g2⟩ := h.row i R s h1 h2
    exact ⟨cs, g1, g2.weak (le i (by rw [← nodes_len]; exact (List.getElem?_eq_some_iff.mp h2).1))⟩⟩
/-- a cell that is known -/
theorem KTab.cell {H : Hp} {ak : Addr} {rows : List Addr} {n : Nat} {p r : Wf.P} {lev : Nat → Nat} (h : KTab H ak rows n p r lev) {i k : Nat} {s q : Wf.P} (hs : (nodes r)[i]? = some s) (hq : (nodes p)[k]? = some q) (hl : lev i ≤ k) :
    ∃ R cs c, (rows.map V.ref)[i]? = some (.ref R) ∧ H R = some (.lst cs) ∧ cs[k]? = some (.ref c) ∧ H c = some (.lst ((fitsL n q s).map V.bl)) := by
  have hi : i < rows.length := by rw [h.len, ← nodes_len]; exact (List.getElem?_eq_some_iff.mp hs).1
  have hk : k < p.size := by rw [← nodes_len]; exact (List.getElem?_eq_some_iff.mp hq).1
  have hR : rows[i]? = some rows[i] := List.getElem?_eq_getElem hi
  obtain ⟨cs, g1, g2⟩ := h.row i _ s hR hs
  obtain ⟨v, hv, hc⟩ := g2.2 k hl hk
  obtain ⟨c, rfl, _, h2⟩ := hc q hq
  exact ⟨rows[i], cs, c, by rw [List.getElem?_map, hR]; rfl, g1, hv, h2⟩
/-- a cell is put -/
theorem KTab.put {H : Hp} {ak : Addr} {rows : List Addr} {n : Nat} {p r : Wf.P} {lev lev' : Nat → Nat} (h : KTab H ak rows n p r lev) {i k : Nat} {s q : Wf.P} {R c : Addr} {cs : List V} (hs : (nodes r)[i]? = some s) (hq : (nodes p)[k]? = some q)
    (hl : lev i ≤ k + 1) (hR : rows[i]? = some R) (hcs : H R = some (.lst cs)) (hn : c ∉ rows) (hc : H c = some (.lst ((fitsL n q s).map V.bl))) (l1 : k ≤ lev' i) (l2 : ∀ j, j ≠ i → lev j ≤ lev' j) :
    KTab (upd H R (.lst (cs.set k (.ref c)))) ak rows n p r lev' := by
  have hm : R ∈ rows := List.mem_of_getElem? hR
  have nRa : ak ≠ R := fun e => h.na (e ▸ hm)
  have hk : k < p.size := by rw [← nodes_len]; exact (List.getElem?_eq_some_iff.mp hq).1
  have cell : ∀ {q s v}, CellOk H rows n q s v → CellOk (upd H R (.lst (cs.set k (.ref c)))) rows n q s v := fun {q s v} ⟨c', e, g1, g2⟩ => ⟨c', e, g1, by rw [upd_ne (fun z : c' = R => g1 (by rw [z]; exact hm))]; exact g2⟩
  refine ⟨by rw [upd_ne nRa]; exact h.l, h.len, h.nd, h.na, fun j R' s' h1 h2 => ?_⟩
  obtain ⟨cs', g1, g2⟩ := h.row j R' s' h1 h2
  by_cases e : j = i
  · subst e
    rw [hR] at h1
    cases h1
    rw [hcs] at g1
    cases g1
    rw [hs] at h2
    cases h2
    refine ⟨_, upd_same, ((((g2.weak hl).imp fun i v h q hq => cell (h q hq)).set hk fun q' hq' => ?_).weak l1)⟩
    rw [hq] at hq'
    cases hq'
    exact cell ⟨c, rfl, hn, hc⟩
  · have nR : R' ≠ R := fun z => by
      subst z
      exact e (nd_ix h.nd h1 hR)
    exact ⟨cs', by rw [upd_ne nR]; exact g1, (g2.weak (l2 j e)).imp fun i v h q hq => cell (h q hq)⟩
def JudgeAt (K : PySem.W.Frag) (D : Ad) (H : Hp) (j ak : Addr) (rows : List Addr) (n : Nat) (p r : Wf.P) (lev : Nat → Nat) : Prop :=
  (∃ dx ap ar, H j = some (.ins D.J dx (jF ap ar n ak)) ∧ ProcAt K D.P G0 H ap p ∧ ProcAt K D.P G0 H ar r) ∧ KTab H ak rows n p r lev
theorem JudgeAt.ex {K : PySem.W.Frag} {D : Ad} {H H' : Hp} {j ak : Addr} {rows : List Addr} {n : Nat} {p r : Wf.P} {lev : Nat → Nat} (e : Ex H H') (h : JudgeAt K D H j ak rows n p r lev) : JudgeAt K D H' j ak rows n p r lev := by
  obtain ⟨⟨dx, ap, ar, h1, h2, h3⟩, h4⟩ := h
  exact ⟨⟨dx, ap, ar, e _ _ h1, h2.ex e, h3.ex e⟩, h4.ex e⟩
def goesB (n : Nat) (f g : Wf.P) (t : Nat) (s : Wf.P) : Bool := match s with
  | .seq x (.seq y z) => isRun n f x && (isRun n g y && roundsOf (isRun n f) (isRun n g) t z)
  | _ => false
theorem rounds_succ (n : Nat) (f g : Wf.P) (t : Nat) (s : Wf.P) : roundsOf (isRun n f) (isRun n g) (t + 1) s = (isRun n f s || goesB n f g t s) := rfl
def spFits (K : PySem.W.Frag) (D : Ad) : Sp := fun vs H Q _ => ∃ (j ak : Addr) (rows : List Addr) (n : Nat) (p r : Wf.P) (lev : Nat → Nat) (i k : Nat) (s q : Wf.P), vs = [.ref j, nV i, nV k] ∧ JudgeAt K D H j ak rows n p r lev ∧ 1 ≤ n ∧
  (nodes r)[i]? = some s ∧ (nodes p)[k]? = some q ∧ lev i ≤ k ∧ Q (.bl (isRun n q s)) H
def spGoesOn (K : PySem.W.Frag) (D : Ad) : Sp := fun vs H Q _ => ∃ (j ak : Addr) (rows : List Addr) (n : Nat) (p r : Wf.P) (lev : Nat → Nat) (i k t : Nat) (s f g : Wf.P), vs = [.ref j, nV i, nV k, nV t] ∧ JudgeAt K D H j ak rows n p r lev ∧ 1 ≤ n ∧
  (nodes r)[i]? = some s ∧ (nodes p)[k]? = some (.loop f g) ∧ t < n ∧ (∀ i', i < i' → lev i' = 0) ∧ ∀ H', Ex H H' → Q (.bl (goesB n f g t s)) H'
def spLoopFits (K : PySem.W.Frag) (D : Ad) : Sp := fun vs H Q _ => ∃ (j ak : Addr) (rows : List Addr) (n : Nat) (p r : Wf.P) (lev : Nat → Nat) (i k : Nat) (s f g : Wf.P), vs = [.ref j, nV i, nV k] ∧ JudgeAt K D H j ak rows n p r lev ∧ 1 ≤ n ∧ n ≤ 3 ∧
  (nodes r)[i]? = some s ∧ (nodes p)[k]? = some (.loop f g) ∧ (∀ i', i < i' → lev i' = 0) ∧ lev i ≤ k + 1 ∧ ∀ H' c, Ex H H' → H c = none → H' c = some (.lst ((fitsL n (.loop f g) s).map V.bl)) → Q (.ref c) H'
def spFitsOf (K : PySem.W.Frag) (D : Ad) : Sp := fun vs H Q _ => ∃ (j ak : Addr) (rows : List Addr) (n : Nat) (p r : Wf.P) (lev : Nat → Nat) (i k : Nat) (s q : Wf.P), vs = [.ref j, nV i, nV k] ∧ JudgeAt K D H j ak rows n p r lev ∧ 1 ≤ n ∧ n ≤ 3 ∧
  (nodes r)[i]? = some s ∧ (nodes p)[k]? = some q ∧ (∀ i', i < i' → lev i' = 0) ∧ lev i ≤ k + 1 ∧ ∀ H' c, Ex H H' → H c = none → H' c = some (.lst ((fitsL n q s).map V.bl)) → Q (.ref c) H'
section
variable {P : Program} {w : World} {K : PySem.W.Frag} {mg : Str → Option Value} {base : Heap} {D : Ad} {f : Addr} {fd : FuncData}
theorem scFits : FnScope ["self", "place", "at"] ["self", "place", "at"] (defScope sFits) := ⟨rfl, rfl, rfl, by decide +kernel, rfl, by decide +kernel, by decide +kernel⟩
theorem ok_fits (F : Fun K "fits" "Judge.fits" sFits f fd) (T : Txt K mg D) : FnOk P w K mg base CX0 1 f fd ["self", "place", "at"] (spFits K D) := by
  refine F.ok scFits (fun vs H Q E h => ?_) (fun cdv A outer s H vs Q E hr h => ?_)
  · obtain ⟨j, ak, rows, n, p, r, lev, i, k, s, q, rfl, _⟩ := h
    rfl
  · obtain ⟨j, ak, rows, n, p, r, lev, i, k, s, q, rfl, ⟨⟨dx, ap, ar, hj, hp, hr'⟩, kt⟩, n1, hs, hq, hl, hQ⟩ := h
    refine ⟨_, pss_one (ps_ret (pe_ix ix_list (pe_ix ix_list (pe_ix ix_list (pe_fld (pv 0) rfl) (pv 1) (fun _ _ => rfl)) (pv 2) (fun _ _ => rfl)) (pe_un un_neg pe_int) (fun _ _ => rfl))), ?_⟩
    obtain ⟨R, cs, c, h1, h2, h3, h4⟩ := kt.cell hs hq hl
    refine ⟨_, rfl, j, _, dx, _, _, rfl, hj, T.cJ, T.jKnown, jF_known, _, rfl, ak, _, _, _, rfl, rfl, sq_of kt.l, nat_at h1, _, rfl, R, _, _, _, rfl, rfl, sq_of h2, nat_at h3, 1, rfl, c, _, _, .bl (isRun n q s), rfl, rfl, sq_of h4, at_last ?_, hQ⟩
    rw [List.getLast?_map, fitsL_last n1]
    rfl
theorem scGoesOn : FnScope ["self", "place", "at", "turn", "later"] ["self", "place", "at", "turn"] (defScope sGoesOn) := ⟨rfl, rfl, rfl, by decide +kernel, rfl, by decide +kernel, by decide +kernel⟩
theorem ok_goesOn (F : Fun K "goes_on" "Judge.goes_on" sGoesOn f fd) (T : Txt K mg D) (hf : HasM P w K mg base D.J "fits" 1 ["self", "place", "at"] (spFits K D)) : FnOk P w K mg base CX0 2 f fd ["self", "place", "at", "turn"] (spGoesOn K D) := by
  refine F.ok scGoesOn (fun vs H Q E h => ?_) (fun cdv A outer s H vs Q E hr h => ?_)
  · obtain ⟨j, ak, rows, n, p, r, lev, i, k, t, s, f, g, rfl, _⟩ := h
    rfl
  · obtain ⟨j, ak, rows, n, p, r, lev, i, k, t, s, f', g', rfl, J, n1, hs, hq, ht, hlev, hQ⟩ := h
    have nd := scGoesOn.nd
    refine ⟨_, pss_cons (ps_if (PW.pt (pw_or (pt_cmpR op_ne (pe_ix ix_list (pe_fld (pe_fld (pv 0) rfl) rfl) (pv 1) (fun _ _ => rfl)) (pe_ci T.SEQUENCE rfl) (nomark _)) (pw_or1 (pt_not (pt_val (pe_m (pv 0) T.cJ hf hr (pa_cons (pe_op op_add (pv 1) pe_int) (pa_cons (pe_op op_add (pv 2) pe_int) pa_nil))))))))
        (pss_one (ps_ret pe_bl)) pss_nil)
      (pss_cons (ps_set (i := 4) nd rfl (.inl rfl) (pe_ix ix_list (pe_fld (pe_fld (pv 0) rfl) rfl) (pv 1) (fun _ _ => rfl)))
      (pss_cons (ps_if (PW.pt (pw_or (pt_cmpR op_ne (pe_ix ix_list (pe_fld (pe_fld (pv 0) rfl) rfl) (pv 4) (fun _ _ => rfl)) (pe_ci T.SEQUENCE rfl) (nomark _)) (pw_or1 (pt_not (pt_val (pe_m (pv 0) T.cJ hf hr (pa_cons (pe_op op_add (pv 4) pe_int) (pa_cons (pe_ix ix_list (pe_fld (pe_fld (pv 0) rfl) rfl) (pv 2) (fun _ _ => rfl)) pa_nil))))))))
        (pss_one (ps_ret pe_bl)) pss_nil)
      (pss_one (ps_ret (pe_ix ix_list (pe_ix ix_list (pe_ix ix_list (pe_fld (pv 0) rfl) (pe_ix ix_list (pe_fld (pe_fld (pv 0) rfl) rfl) (pv 4) (fun _ _ => rfl)) (fun _ _ => rfl)) (pv 2) (fun _ _ => rfl)) (pv 3) (fun _ _ => rfl)))))), ?_⟩
    obtain ⟨⟨dx, ap, ar, hj, hp, hrr⟩, kt⟩ := id J
    obtain ⟨_, dp, pk, ps, pc, hpi, _, _, _, hpk, hps, hpc⟩ := id hp
    obtain ⟨_, dr, rk, rs, rc, hri, _, _, _, hrk, hrs, hrc⟩ := id hrr
    have evRK : ∀ {σ : L2.St} {m x : Nat} {te : TE}, σ[0]? = some (some (.ref j)) → Ev te σ H (nV m) → (kinds r)[m]? = some x → Ev (tOp (rIxL K) (tFld K (tFld K (tVar 0) "run") "kinds") te) σ H (nV x) := fun h0 hm hx =>
      ev_ixL (ev_fld (ev_fld (ev_var h0) hj T.cJ T.jRun jF_run) hri T.cP T.pKinds pF_kinds) hm hrk (nl_get hx)
    have evRS : ∀ {σ : L2.St} {m x : Nat} {te : TE}, σ[0]? = some (some (.ref j)) → Ev te σ H (nV m) → (secs 0 r)[m]? = some x → Ev (tOp (rIxL K) (tFld K (tFld K (tVar 0) "run") "seconds") te) σ H (nV x) := fun h0 hm hx =>
      ev_ixL (ev_fld (ev_fld (ev_var h0) hj T.cJ T.jRun jF_run) hri T.cP T.pSeconds pF_seconds) hm hrc (nl_get hx)
    have evF : ∀ {σ : L2.St} {ta tb : TE} {i' k' : Nat} {s' q' : Wf.P}, σ[0]? = some (some (.ref j)) → Ev ta σ H (nV i') → Ev tb σ H (nV k') → (nodes r)[i']? = some s' → (nodes p)[k']? = some q' → i < i' →
        Ev (tMeth D.J "fits" (spFits K D) [] E0 (tVar 0) (tCons ta (tCons tb tNil))) σ H (.bl (isRun n q' s')) := fun h0 ha hb hs' hq' hlt =>
      ev_methV (ev_var h0) hj jF_fits (ea_2 ha hb) fun H1 e1 Q q => ⟨j, ak, rows, n, p, r, lev, _, _, _, _, rfl, J.ex e1, n1, hs', hq', by rw [hlev _ hlt]; exact Nat.zero_le _, q H1 (Ex.refl _)⟩
    obtain ⟨cf, cg⟩ := nodes_kids p hq rfl
    by_cases k2 : kind s = 2
    · obtain ⟨x, y, rfl⟩ : ∃ x y, s = .seq x y := by cases s <;> simp [kind] at k2 <;> exact ⟨_, _, rfl⟩
      obtain ⟨cx, cy⟩ := nodes_kids r hs rfl
      have sy : (secs 0 r)[i]? = some (i + 1 + x.size) := by rw [secs_get r 0 hs, secAt_of rfl, Nat.zero_add]
      have sg : (secs 0 p)[k]? = some (k + 1 + f'.size) := by rw [secs_get p 0 hq, secAt_of rfl, Nat.zero_add]
      refine q_when (b := (!decide (kind (.seq x y) = 2)) || !isRun n f' x) (et_or (et_cmp (evRK rfl (ev_var rfl) (kinds_get hs)) (ev_c (v := nV 2)) rv_neN) (fun _ => et_not (et_B (evF rfl (ev_add (ev_var rfl) ev_one) (ev_add (ev_var rfl) ev_one) cx cf (by omega))))) (fun hb H1 e1 => ?_) (fun hb H1 e1 => ?_)
      · have hx : isRun n f' x = false := by
          rw [decide_eq_true k2, Bool.not_true, Bool.false_or] at hb
          cases q : isRun n f' x with
          | true => rw [q] at hb; cases hb
          | false => rfl
        have eb : goesB n f' g' t (.seq x y) = false := by
          cases y <;> first | rfl | (show (isRun n f' x && _) = false; rw [hx]; rfl)
        rw [eb] at hQ
        exact hQ _ e1
      · have hx : isRun n f' x = true := by
          rw [decide_eq_true k2, Bool.not_true, Bool.false_or] at hb
          cases q : isRun n f' x with
          | true => rfl
          | false => rw [q] at hb; cases hb
        refine q_asg ((evRS rfl (ev_var rfl) sy).mono e1) fun H2 e2 => ?_
        have e12 := e1.trans e2
        by_cases ky : kind y = 2
        · obtain ⟨y1, z, rfl⟩ : ∃ y1 z, y = .seq y1 z := by cases y <;> simp [kind] at ky <;> exact ⟨_, _, rfl⟩
          obtain ⟨cy1, cz⟩ := nodes_kids r cy rfl
          have sz : (secs 0 r)[i + 1 + x.size]? = some (i + 1 + x.size + 1 + y1.size) := by rw [secs_get r 0 cy, secAt_of rfl, Nat.zero_add]
          refine q_when (b := (!decide (kind (.seq y1 z) = 2)) || !isRun n g' y1) (et_or (et_cmp ((evRK rfl (ev_var rfl) (kinds_get cy)).mono e12) (ev_c (v := nV 2)) rv_neN) (fun _ => et_not (et_B ((evF rfl (ev_add (ev_var rfl) ev_one)
            (ev_ixL (ev_fld (ev_fld (ev_var rfl) hj T.cJ T.jProcess jF_process) hpi T.cP T.pSeconds pF_seconds) (ev_var rfl) hpc (nl_get sg)) cy1 cg (by omega)).mono e12)))) (fun hb H3 e3 => ?_) (fun hb H3 e3 => ?_)
          · have hy : isRun n g' y1 = false := by
              rw [decide_eq_true ky, Bool.not_true, Bool.false_or] at hb
              cases q : isRun n g' y1 with
              | true => rw [q] at hb; cases hb
              | false => rfl
            have eb : goesB n f' g' t (.seq x (.seq y1 z)) = false := by
              show (isRun n f' x && (isRun n g' y1 && _)) = false
              rw [hy, Bool.false_and, Bool.and_false]
            rw [eb] at hQ
            exact hQ _ (e12.trans e3)
          · have hy : isRun n g' y1 = true := by
              rw [decide_eq_true ky, Bool.not_true, Bool.false_or] at hb
              cases q : isRun n g' y1 with
              | true => rfl
              | false => rw [q] at hb; cases hb
            have eb : goesB n f' g' t (.seq x (.seq y1 z)) = roundsOf (isRun n f') (isRun n g') t z := by
              show (isRun n f' x && (isRun n g' y1 && _)) = _
              rw [hx, hy, Bool.true_and, Bool.true_and]
            obtain ⟨R, cs, c, c1, c2, c3, c4⟩ := kt.cell cz hq (by rw [hlev _ (by omega)]; exact Nat.zero_le _)
            have e13 := e12.trans e3
            refine s_ret (v := .bl (goesB n f' g' t (.seq x (.seq y1 z)))) (ev_ixL (ev_ixL (ev_ixL (ev_fld (ev_var rfl) (e13 _ _ hj) T.cJ T.jKnown jF_known) ((evRS rfl (ev_var rfl) sz).mono e13) (sq_of (e13 _ _ kt.l)) c1) (ev_var rfl) (sq_of (e13 _ _ c2)) c3) (ev_var rfl) (sq_of (e13 _ _ c4)) ?_) fun H4 e4 => hQ _ (e13.trans e4)
            rw [eb]
            show (((List.range n).map fun k => roundsOf (isRun n f') (isRun n g') k z).map V.bl)[t]? = _
            rw [List.getElem?_map, List.getElem?_map, List.getElem?_range ht]
            rfl
        · refine q_when (b := (!decide (kind y = 2)) || true) (et_or (et_cmp ((evRK rfl (ev_var rfl) (kinds_get cy)).mono e12) (ev_c (v := nV 2)) rv_neN) (fun h => by rw [decide_eq_false ky] at h; cases h)) (fun hb H3 e3 => ?_) (fun hb H3 e3 => ?_)
          · have eb : goesB n f' g' t (.seq x y) = false := by
              cases y <;> first | rfl | exact absurd rfl ky
            rw [eb] at hQ
            exact hQ _ (e12.trans e3)
          · rw [Bool.or_true] at hb; cases hb
    · refine q_when (b := (!decide (kind s = 2)) || true) (et_or (et_cmp (evRK rfl (ev_var rfl) (kinds_get hs)) (ev_c (v := nV 2)) rv_neN) (fun h => by rw [decide_eq_false k2] at h; cases h)) (fun hb H3 e3 => ?_) (fun hb H3 e3 => ?_)
      · have eb : goesB n f' g' t s = false := by
          cases s <;> first | rfl | exact absurd rfl k2
        rw [eb] at hQ
        exact hQ _ e3
      · rw [Bool.or_true] at hb; cases hb
theorem scLoopFits : FnScope ["self", "place", "at", "found", "turn"] ["self", "place", "at"] (defScope sLoopFits) := ⟨rfl, rfl, rfl, by decide +kernel, rfl, by decide +kernel, by decide +kernel⟩
theorem ok_loopFits (F : Fun K "loop_fits" "Judge.loop_fits" sLoopFits f fd) (T : Txt K mg D) (hf : HasM P w K mg base D.J "fits" 1 ["self", "place", "at"] (spFits K D)) (hg : HasM P w K mg base D.J "goes_on" 2 ["self", "place", "at", "turn"] (spGoesOn K D)) :
    FnOk P w K mg base CX0 3 f fd ["self", "place", "at"] (spLoopFits K D) := by
  refine F.ok scLoopFits (fun vs H Q E h => ?_) (fun cdv A outer s H vs Q E hr h => ?_)
  · obtain ⟨j, ak, rows, n, p, r, lev, i, k, s, f, g, rfl, _⟩ := h
    rfl
  · obtain ⟨j, ak, rows, n, p, r, lev, i, k, s, f', g', rfl, J, n1, n3, hs, hq, hlev, hl, hQ⟩ := h
    have nd := scLoopFits.nd
    have hr1 : Room 1 _ := hr.mono (by decide)
    refine ⟨_, pss_cons (ps_set (i := 3) nd rfl (.inl rfl) (pe_lst (pa_cons (pe_m (pv 0) T.cJ hf hr1 (pa_cons (pv 1) (pa_cons (pe_op op_add (pv 2) pe_int) pa_nil))) pa_nil)))
      (pss_cons (ps_for PassesOwn.never rfl (pi_range1 rfl T.range (pa_cons (pe_op op_sub (pe_fld (pv 0) rfl) pe_int) pa_nil)) (pg_name (i := 4) nd rfl (.inl rfl))
        (pss_one (ps_app (pv 3) (pe_or (pe_ix ix_list (pv 3) pe_int (fun _ _ => rfl)) (pe_one (pe_m (pv 0) T.cJ hg hr (pa_cons (pv 1) (pa_cons (pv 2) (pa_cons (pv 4) pa_nil)))))))))
      (pss_one (ps_ret (pv 3)))), ?_⟩
    obtain ⟨⟨dx, ap, ar, hj, hp, hrr⟩, kt⟩ := id J
    obtain ⟨cf, cg⟩ := nodes_kids p hq rfl
    refine q_asgL (xs := [.bl (isRun n f' s)]) (el_lst (ea_1 (ev_methV (ev_var rfl) hj jF_fits (ea_2 (ev_var rfl) (ev_add (ev_var rfl) ev_one)) fun H1 e1 Q q => ⟨j, ak, rows, n, p, r, lev, _, _, _, _, rfl, J.ex e1, n1, hs, cf, hl, q H1 (Ex.refl _)⟩)) (by decide : 1 ≤ 100000)) fun l H1 nl e1 h1 => ?_
    refine ⟨_, rfl, j, _, dx, _, _, rfl, e1 _ _ hj, T.cJ, T.jRounds, jF_rounds, _, _, rfl, rfl, _, rfl, by omega, by omega, ?_⟩
    have en : ((n : Int) - 1).toNat = n - 1 := by omega
    rw [en]
    refine for_range (lo := 0) (n := n - 1) (fun t σ H' => ∃ x, σ = [some (.ref j), some (nV i), some (nV k), some (.ref l), x] ∧ Ex H H' ∧ H' l = some (.lst (((List.range (t + 1)).map fun k => roundsOf (isRun n f') (isRun n g') k s).map V.bl))) ⟨none, rfl, e1, h1⟩ (fun t σ H' ht h => ?_) (fun σ H' h => ?_)
    · obtain ⟨x, rfl, e, hl'⟩ := h
      have et : V.int (0 + (t : Int)) = nV t := by show V.int _ = V.int _; congr 1; omega
      rw [et]
      refine z_app (v := .bl (roundsOf (isRun n f') (isRun n g') (t + 1) s)) hl' (ev_var rfl) ?_ ?_ fun H2 e2 => ?_
      · rw [rounds_succ]
        refine ev_orV (ev_ixL (i := 0) (ev_var rfl) ev_c (sq_of hl') ?_) fun hf' => ?_
        · rw [List.getElem?_map, List.getElem?_map, List.getElem?_range (by omega)]; rfl
        · exact ev_methV (ev_var rfl) (e _ _ hj) jF_goes_on (ea_3 (ev_var rfl) (ev_var rfl) (ev_var rfl)) fun H2 e2 Q q => ⟨j, ak, rows, n, p, r, lev, _, _, _, _, _, _, rfl, J.ex (e.trans e2), n1, hs, hq, by omega, hlev, q⟩
      · rw [List.length_map, List.length_map, List.length_range]
        have : sizeLine = 16777216 := sizeLine_eq
        omega
      · refine ⟨_, rfl, (e.trans e2).mut nl, ?_⟩
        rw [List.range_succ (n := t + 1), List.map_append, List.map_append]
        exact upd_same
    · obtain ⟨x, rfl, e, hl'⟩ := h
      refine s_ret (ev_var rfl) fun H2 e2 => hQ H2 l (e.trans e2) nl ?_
      rw [show n - 1 + 1 = n by omega] at hl'
      exact e2 _ _ hl'
theorem fitsL_one {n : Nat} {q : Wf.P} (h : kind q ≠ 5) (s : Wf.P) : fitsL n q s = [isRun n q s] := by
  cases q <;> first | rfl | exact absurd rfl h
theorem run_kind {n : Nat} {q s : Wf.P} (h5 : kind q ≠ 5) (h3 : kind q ≠ 3) (h : kind s ≠ kind q) : isRun n q s = false := by
  cases q with
  | loop f g => exact absurd rfl h5
  | alt f g => exact absurd rfl h3
  | act a =>
    show (s == .act a) = false
    rw [beq_eq_false_iff_ne]
    rintro rfl
    exact h rfl
  | skip =>
    show (s == .skip) = false
    rw [beq_eq_false_iff_ne]
    rintro rfl
    exact h rfl
  | seq f g => cases s <;> first | rfl | exact absurd rfl h
  | both f g => cases s <;> first | rfl | exact absurd rfl h
theorem run_leaf {n : Nat} {q s : Wf.P} (h : kind q ≤ 1) (hk : kind s = kind q) : isRun n q s = decide (stp s = stp q) := by
  cases q with
  | act a =>
    obtain ⟨b, rfl⟩ := act_of hk
    show (Wf.P.act b == .act a) = decide (b = a)
    rw [Bool.eq_iff_iff, beq_iff_eq, decide_eq_true_iff]
    exact ⟨fun h => Wf.P.act.inj h, fun h => by rw [h]⟩
  | skip =>
    have := skip_of hk
    subst this
    rfl
  | _ => simp [kind] at h
theorem run_two {n : Nat} {q s l r x y : Wf.P} (h : kids q = some (l, r)) (h5 : kind q ≠ 5) (h3 : kind q ≠ 3) (hk : kind s = kind q) (hs : kids s = some (x, y)) : isRun n q s = (isRun n l x && isRun n r y) := by
  cases q <;> simp [kids] at h <;> obtain ⟨rfl, rfl⟩ := h
  · cases s <;> simp [kind] at hk
    simp [kids] at hs
    obtain ⟨rfl, rfl⟩ := hs
    rfl
  · exact absurd rfl h3
  · cases s <;> simp [kind] at hk
    simp [kids] at hs
    obtain ⟨rfl, rfl⟩ := hs
    rfl
  · exact absurd rfl h5
theorem scFitsOf : FnScope ["self", "place", "at", "kind", "second"] ["self", "place", "at"] (defScope sFitsOf) := ⟨rfl, rfl, rfl, by decide +kernel, rfl, by decide +kernel, by decide +kernel⟩
theorem ok_fitsOf (F : Fun K "fits_of" "Judge.fits_of" sFitsOf f fd) (T : Txt K mg D) (hf : HasM P w K mg base D.J "fits" 1 ["self", "place", "at"] (spFits K D)) (hg : HasM P w K mg base D.J "loop_fits" 3 ["self", "place", "at"] (spLoopFits K D)) :
    FnOk P w K mg base CX0 4 f fd ["self", "place", "at"] (spFitsOf K D) := by
  refine F.ok scFitsOf (fun vs H Q E h => ?_) (fun cdv A outer s H vs Q E hr h => ?_)
  · obtain ⟨j, ak, rows, n, p, r, lev, i, k, s, q, rfl, _⟩ := h
    rfl
  · obtain ⟨j, ak, rows, n, p, r, lev, i, k, s, q, rfl, J, n1, n3, hs, hq, hlev, hl, hQ⟩ := h
    have nd := scFitsOf.nd
    have hr1 : Room 1 _ := hr.mono (by decide)
    refine ⟨_, pss_cons (ps_par rfl nd (i := 3) (j := 4) rfl rfl (by decide) rfl rfl (pa_cons (pe_ix ix_list (pe_fld (pe_fld (pv 0) rfl) rfl) (pv 2) (fun _ _ => rfl)) (pa_cons (pe_ix ix_list (pe_fld (pe_fld (pv 0) rfl) rfl) (pv 2) (fun _ _ => rfl)) pa_nil)) (by rfl))
      (pss_cons (ps_if (pt_cmpR op_eq (pv 3) (pe_ci T.LOOP rfl) (nomark _)) (pss_one (ps_ret (pe_m (pv 0) T.cJ hg hr (pa_cons (pv 1) (pa_cons (pv 2) pa_nil))))) pss_nil)
      (pss_cons (ps_if (pt_cmpR op_eq (pv 3) (pe_ci T.CHOICE rfl) (nomark _)) (pss_one (ps_ret (pe_lst (pa_cons (pe_or (pe_m (pv 0) T.cJ hf hr1 (pa_cons (pv 1) (pa_cons (pe_op op_add (pv 2) pe_int) pa_nil))) (pe_one (pe_m (pv 0) T.cJ hf hr1 (pa_cons (pv 1) (pa_cons (pv 4) pa_nil))))) pa_nil)))) pss_nil)
      (pss_cons (ps_if (pt_cmpR op_ne (pe_ix ix_list (pe_fld (pe_fld (pv 0) rfl) rfl) (pv 1) (fun _ _ => rfl)) (pv 3) (nomark _)) (pss_one (ps_ret (pe_lst (pa_cons pe_bl pa_nil)))) pss_nil)
      (pss_cons (ps_if (pt_cmpR op_in_seq (pv 3) (pe_tup (pa_cons (pe_ci T.STEP rfl) (pa_cons (pe_ci T.EMPTY rfl) pa_nil))) (by rfl)) (pss_one (ps_ret (pe_lst (pa_cons (pe_cmpR op_eq (pe_ix ix_list (pe_fld (pe_fld (pv 0) rfl) rfl) (pv 1) (fun _ _ => rfl)) (pe_ix ix_list (pe_fld (pe_fld (pv 0) rfl) rfl) (pv 2) (fun _ _ => rfl)) (nomark _)) pa_nil)))) pss_nil)
      (pss_one (ps_ret (pe_lst (pa_cons (pe_and (pe_m (pv 0) T.cJ hf hr1 (pa_cons (pe_op op_add (pv 1) pe_int) (pa_cons (pe_op op_add (pv 2) pe_int) pa_nil))) (pe_one (pe_m (pv 0) T.cJ hf hr1 (pa_cons (pe_ix ix_list (pe_fld (pe_fld (pv 0) rfl) rfl) (pv 1) (fun _ _ => rfl)) (pa_cons (pv 4) pa_nil))))) pa_nil)))))))), ?_⟩
    obtain ⟨⟨dx, ap, ar, hj, hp, hrr⟩, kt⟩ := id J
    obtain ⟨_, dp, pk, ps, pc, hpi, _, _, _, hpk, hps, hpc⟩ := id hp
    obtain ⟨_, dr, rk, rs, rc, hri, _, _, _, hrk, hrs, hrc⟩ := id hrr
    have evF : ∀ {σ : L2.St} {ta tb : TE} {H' : Hp} {i' k' : Nat} {s' q' : Wf.P}, Ex H H' → σ[0]? = some (some (.ref j)) → Ev ta σ H' (nV i') → Ev tb σ H' (nV k') → (nodes r)[i']? = some s' → (nodes p)[k']? = some q' → lev i' ≤ k' →
        Ev (tMeth D.J "fits" (spFits K D) [] E0 (tVar 0) (tCons ta (tCons tb tNil))) σ H' (.bl (isRun n q' s')) := fun e h0 ha hb hs' hq' hle =>
      ev_methV (ev_var h0) (e _ _ hj) jF_fits (ea_2 ha hb) fun H1 e1 Q q => ⟨j, ak, rows, n, p, r, lev, _, _, _, _, rfl, J.ex (e.trans e1), n1, hs', hq', hle, q H1 (Ex.refl _)⟩
    have sq : (secs 0 p)[k]? = some (secAt k q) := by rw [secs_get p 0 hq, Nat.zero_add]
    refine q_par (ea_2 (ev_ixL (ev_fld (ev_fld (ev_var rfl) hj T.cJ T.jProcess jF_process) hpi T.cP T.pKinds pF_kinds) (ev_var rfl) hpk (nl_get (kinds_get hq))) (ev_ixL (ev_fld (ev_fld (ev_var rfl) hj T.cJ T.jProcess jF_process) hpi T.cP T.pSeconds pF_seconds) (ev_var rfl) hpc (nl_get sq))) fun H1 e1 => ?_
    refine q_when (et_cmp (ev_var rfl) (ev_c (v := nV 5)) rv_eqN) (fun hb H2 e2 => ?_) (fun hb H2 e2 => ?_)
    · obtain ⟨f', g', rfl⟩ : ∃ f g, q = .loop f g := by
        have c5 := of_decide_eq_true hb
        cases q <;> simp [kind] at c5 <;> exact ⟨_, _, rfl⟩
      have e12 := e1.trans e2
      refine gmeth (ev_var rfl) (e12 _ _ hj) jF_loop_fits (ea_2 (ev_var rfl) (ev_var rfl)) fun H3 e3 => ?_
      have e13 := e12.trans e3
      exact ⟨j, ak, rows, n, p, r, lev, i, k, s, f', g', rfl, J.ex e13, n1, n3, hs, hq, hlev, hl, fun H4 c e4 nc hc => hQ H4 c (e13.trans e4) (fresh_back e13 nc) hc⟩
    have c5 := of_decide_eq_false hb
    have e12 := e1.trans e2
    rw [fitsL_one c5] at hQ
    refine q_when (et_cmp (ev_var rfl) (ev_c (v := nV 3)) rv_eqN) (fun hb H3 e3 => ?_) (fun hb H3 e3 => ?_)
    · obtain ⟨f', g', rfl⟩ : ∃ f g, q = .alt f g := by
        have c3 := of_decide_eq_true hb
        cases q <;> simp [kind] at c3 <;> exact ⟨_, _, rfl⟩
      obtain ⟨cf, cg⟩ := nodes_kids p hq rfl
      have e13 := e12.trans e3
      refine s_retL (xs := [.bl (isRun n (.alt f' g') s)]) (el_lst (ea_1 (ev_orV (evF e13 rfl (ev_var rfl) (ev_add (ev_var rfl) ev_one) hs cf hl) fun _ => evF e13 rfl (ev_var rfl) (ev_var rfl) hs cg (by show lev i ≤ k + 1 + f'.size; omega))) (by decide : 1 ≤ 100000)) fun c H4 nc e4 hc => ?_
      exact hQ H4 c (e13.trans e4) (fresh_back e13 nc) hc
    have c3 := of_decide_eq_false hb
    have e13 := e12.trans e3
    refine q_when (et_cmp (ev_ixL (ev_fld (ev_fld (ev_var rfl) (e13 _ _ hj) T.cJ T.jRun jF_run) (e13 _ _ hri) T.cP T.pKinds pF_kinds) (ev_var rfl) (hrk.ex e13) (nl_get (kinds_get hs))) (ev_var rfl) rv_neN) (fun hb H4 e4 => ?_) (fun hb H4 e4 => ?_)
    · rw [Bool.not_eq_true', decide_eq_false_iff_not] at hb
      rw [run_kind c5 c3 hb] at hQ
      have e14 := e13.trans e4
      exact s_retL (xs := [.bl false]) (el_lst (ea_1 ev_c) (by decide : 1 ≤ 100000)) fun c H5 nc e5 hc => hQ H5 c (e14.trans e5) (fresh_back e14 nc) hc
    rw [Bool.not_eq_false', decide_eq_true_iff] at hb
    have e14 := e13.trans e4
    refine q_when (et_test (ev_in2 (ev_var rfl) ev_zero ev_one)) (fun hb2 H5 e5 => ?_) (fun hb2 H5 e5 => ?_)
    · have c01 : kind q ≤ 1 := by have := of_decide_eq_true hb2; omega
      have e15 := e14.trans e5
      refine s_retL (xs := [.bl (isRun n q s)]) (el_lst (ea_1 (ev_is (ev_op (ev_ixL (ev_fld (ev_fld (ev_var rfl) (e15 _ _ hj) T.cJ T.jRun jF_run) (e15 _ _ hri) T.cP T.pSteps pF_steps) (ev_var rfl) (hrs.ex e15) (nl_get (steps_get hs)))
        (ev_ixL (ev_fld (ev_fld (ev_var rfl) (e15 _ _ hj) T.cJ T.jProcess jF_process) (e15 _ _ hpi) T.cP T.pSteps pF_steps) (ev_var rfl) (hps.ex e15) (nl_get (steps_get hq))) rv_eqN) (by rw [run_leaf c01 hb]))) (by decide : 1 ≤ 100000)) fun c H6 nc e6 hc => ?_
      exact hQ H6 c (e15.trans e6) (fresh_back e15 nc) hc
    · have c01 : ¬ kind q ≤ 1 := by have := of_decide_eq_false hb2; omega
      have e15 := e14.trans e5
      obtain ⟨l', r', hq'⟩ : ∃ l r, kids q = some (l, r) := by
        cases z : kids q with
        | none => exact absurd (kids_kind.mp z) c01
        | some y => exact ⟨y.1, y.2, rfl⟩
      obtain ⟨x, y, hs'⟩ : ∃ l r, kids s = some (l, r) := by
        cases z : kids s with
        | none => exact absurd (kids_kind.mp z) (by omega)
        | some y => exact ⟨y.1, y.2, rfl⟩
      obtain ⟨cf, cg⟩ := nodes_kids p hq hq'
      obtain ⟨cx, cy⟩ := nodes_kids r hs hs'
      have ss : (secs 0 r)[i]? = some (i + 1 + x.size) := by rw [secs_get r 0 hs, secAt_of hs', Nat.zero_add]
      rw [secAt_of hq']
      refine s_retL (xs := [.bl (isRun n q s)]) (el_lst (ea_1 (ev_is (ev_andV (evF e15 rfl (ev_add (ev_var rfl) ev_one) (ev_add (ev_var rfl) ev_one) cx cf (by rw [hlev _ (by omega)]; exact Nat.zero_le _)) fun _ => evF e15 rfl
        (ev_ixL (ev_fld (ev_fld (ev_var rfl) (e15 _ _ hj) T.cJ T.jRun jF_run) (e15 _ _ hri) T.cP T.pSeconds pF_seconds) (ev_var rfl) (hrc.ex e15) (nl_get ss)) (ev_var rfl) cy cg (by rw [hlev _ (by omega)]; exact Nat.zero_le _)) (by rw [run_two hq' c5 c3 hb hs']))) (by decide : 1 ≤ 100000)) fun c H6 nc e6 hc => ?_
      exact hQ H6 c (e15.trans e6) (fresh_back e15 nc) hc
end
end Fr
/-! judging: Judge.__init__, is_run. -/
namespace Fr
open PySem PySem.Spec PyProof.Rows L2 Evl
open Wf06 (isRun roundsOf Book)
theorem jF_put {a r k : Addr} {n : Nat} : putF "known" (.ref k) (putF "rounds" (nV n) (putF "run" (.ref r) (putF "process" (.ref a) []))) = jF a r n k := by
  show putF "known" (.ref k) (putF "rounds" (nV n) (putF "run" (.ref r) [("process", V.ref a)])) = _
  rw [ptN (by decide +kernel)]
  show putF "known" (.ref k) (putF "rounds" (nV n) [("process", V.ref a), ("run", V.ref r)]) = _
  rw [ptN (by decide +kernel), ptN (by decide +kernel)]
  show putF "known" (.ref k) [("process", V.ref a), ("run", V.ref r), ("rounds", nV n)] = _
  rw [ptN (by decide +kernel), ptN (by decide +kernel), ptN (by decide +kernel)]
  rfl
def spJInit (K : PySem.W.Frag) (D : Ad) : Sp := fun vs H Q _ => ∃ (j dx ap ar : Addr) (n : Nat) (p r : Wf.P), vs = [.ref j, .ref ap, .ref ar, nV n] ∧ H j = some (.ins D.J dx []) ∧ ProcAt K D.P G0 H ap p ∧ ProcAt K D.P G0 H ar r ∧ p.size ≤ 1000 ∧ r.size ≤ 1000 ∧ 1 ≤ n ∧ n ≤ 3 ∧
  ∀ H' ak rows, JudgeAt K D H' j ak rows n p r (fun _ => 0) → (∀ b o, H b = some o → b ≠ j → H' b = some o) → Q .non H'
def spIsRun (K : PySem.W.Frag) (D : Ad) : Sp := fun vs H Q _ => ∃ (ap ar : Addr) (n : Nat) (p r : Wf.P), vs = [.ref ap, .ref ar, nV n] ∧ ProcAt K D.P G0 H ap p ∧ ProcAt K D.P G0 H ar r ∧ p.size ≤ 1000 ∧ r.size ≤ 1000 ∧ 1 ≤ n ∧ n ≤ 3 ∧ ∀ H', Ex H H' → Q (.bl (isRun n p r)) H'
section
variable {P : Program} {w : World} {K : PySem.W.Frag} {mg : Str → Option Value} {base : Heap} {D : Ad} {f : Addr} {fd : FuncData}
theorem scJInit : FnScope ["self", "process", "run", "rounds", "place", "at", "kind"] ["self", "process", "run", "rounds"] (defScope sJInit) := ⟨rfl, rfl, rfl, by decide +kernel, rfl, by decide +kernel, by decide +kernel⟩
theorem ok_jinit (F : Fun K "__init__" "Judge.__init__" sJInit f fd) (T : Txt K mg D) (hz : HasM P w K mg base D.P "size" 1 ["self"] (spSize K D)) (hf : HasM P w K mg base D.J "fits_of" 4 ["self", "place", "at"] (spFitsOf K D)) :
    FnOk P w K mg base CX0 5 f fd ["self", "process", "run", "rounds"] (spJInit K D) := by
  refine F.ok scJInit (fun vs H Q E h => ?_) (fun cdv A outer s H vs Q E hr h => ?_)
  · obtain ⟨j, dx, ap, ar, n, p, r, rfl, _⟩ := h
    rfl
  · obtain ⟨j, dx, ap, ar, n, p, r, rfl, hj, hp, hrr, zp, zr, n1, n3, q⟩ := h
    have nd := scJInit.nd
    have hr1 : Room 1 _ := hr.mono (by decide)
    refine ⟨_, pss_cons (ps_fld (pv 0) (pv 1) rfl) (pss_cons (ps_fld (pv 0) (pv 2) rfl) (pss_cons (ps_fld (pv 0) (pv 3) rfl)
      (pss_cons (ps_fld (pv 0) (pe_lc (own := [("kind", 6)]) (g := gName 6) (tt := tYes) (te := tLc (iList K (tFld K (tVar 1) "kinds")) (gName 6) tYes (tLst tNil) [6]) rfl nd (pi_list (pe_fld (pv 2) rfl)) (blkOk_by (own := [("kind", 6)]) (N := ["self", "process", "run", "rounds", "place", "at", "kind"]) (sc := defScope sJInit) (by decide +kernel))
          (fun _ _ _ _ _ => pg_name (i := 6) nd rfl (Or.inl rfl)) (fun _ _ _ _ _ => pts_nil) (fun _ _ _ _ _ => pe_lc (own := [("kind", 6)]) (g := gName 6) (tt := tYes) rfl nd (pi_list (pe_fld (pv 1) rfl)) (blkOk_by (by kernel_rfl))
            (fun _ _ _ _ _ => pg_name (i := 6) nd rfl (Or.inl rfl)) (fun _ _ _ _ _ => pts_nil) (fun _ _ _ _ _ => pe_lst pa_nil))) rfl)
      (pss_one (ps_for PassesOwn.never rfl (pi_revR rfl T.reversed (prg_1 rfl T.range (pe_m0 (pv 2) T.cP hz hr1))) (pg_name (i := 4) nd rfl (.inl rfl))
        (pss_one (ps_for PassesOwn.never rfl (pi_revR rfl T.reversed (prg_1 rfl T.range (pe_m0 (pv 1) T.cP hz hr1))) (pg_name (i := 5) nd rfl (.inl rfl))
          (pss_one (ps_asg (pe_m (pv 0) T.cJ hf hr (pa_cons (pv 4) (pa_cons (pv 5) pa_nil))) (pg_sub (pe_ix ix_list (pe_fld (pv 0) rfl) (pv 4) (fun _ _ => rfl)) (pv 5) set_list)))))))))), ?_⟩
    obtain ⟨_, dp, pk, ps, pc, hpi, _, _, _, hpk, hps, hpc⟩ := id hp
    obtain ⟨_, dr, rk, rs, rc, hri, _, _, _, hrk, hrs, hrc⟩ := id hrr
    have nap : ap ≠ j := ne_of hpi hj (by intro z; have z2 := (HO.ins.inj z).2.2; cases z2)
    have nar : ar ≠ j := ne_of hri hj (by intro z; have z2 := (HO.ins.inj z).2.2; cases z2)
    refine ⟨_, rfl, _, rfl, j, _, dx, _, rfl, hj, T.cJ, T.jProcess, (by show 0 < 1000; decide), ?_⟩
    refine ⟨_, rfl, _, rfl, j, _, dx, _, rfl, upd_same, T.cJ, T.jRun, (by show 1 < 1000; decide), ?_⟩
    refine ⟨_, rfl, _, rfl, j, _, dx, _, rfl, upd_same, T.cJ, T.jRounds, (by show 2 < 1000; decide), ?_⟩
    rw [upd_upd, upd_upd]
    generalize hH3 : upd H j (HO.ins D.J dx (putF "rounds" (nV n) (putF "run" (V.ref ar) (putF "process" (V.ref ap) [])))) = H3
    have h3j : H3 j = some (HO.ins D.J dx (putF "rounds" (nV n) (putF "run" (V.ref ar) (putF "process" (V.ref ap) [])))) := by rw [← hH3]; exact upd_same
    have hp3 : ProcAt K D.P G0 H3 ap p := by rw [← hH3]; exact hp.updI hj nap
    have hr3 : ProcAt K D.P G0 H3 ar r := by rw [← hH3]; exact hrr.updI hj nar
    have fr3 : ∀ b o, H b = some o → b ≠ j → H3 b = some o := fun b o hb nb => by rw [← hH3, upd_ne nb]; exact hb
    have no3 : ∀ b, H3 b = none → H b = none ∧ b ≠ j := fun b hb => by
      have nb : b ≠ j := fun e => by rw [e, h3j] at hb; cases hb
      rw [← hH3, upd_ne nb] at hb
      exact ⟨hb, nb⟩
    clear hH3
    obtain ⟨_, dp, pk, ps, pc, hpi, _, _, _, hpk, hps, hpc⟩ := id hp3
    obtain ⟨_, dr, rk, rs, rc, hri, _, _, _, hrk, hrs, hrc⟩ := id hr3
    refine ⟨_, rfl, ar, _, dr, _, _, rfl, hri, T.cP, T.pKinds, pF_kinds, rk, rfl, ⟨_, hrk⟩, fun Dl nD => ?_⟩
    refine lc_list (K := K) (a := rk) (xs := (kinds r).map nV) (fun i H' => Ex H3 H' ∧ ∃ rows : List Addr, H' Dl = some (.lst (rows.map V.ref)) ∧ rows.length = i ∧ rows.Nodup ∧ Dl ∉ rows ∧ ∀ R ∈ rows, H3 R = none ∧ ∃ cs : List V, H' R = some (.lst cs) ∧ cs.length = p.size)
      ⟨Ex.new nD, [], upd_same, rfl, List.nodup_nil, List.not_mem_nil, fun _ h => absurd h List.not_mem_nil⟩ (fun i H' _ h => hrk.ex h.1) (fun i x H' hi h => ?_) (fun H4 h => ?_)
    · obtain ⟨e, rows, hD, hlen, hnd, hnD, hrows⟩ := h
      have hir : i < r.size := by
        have := (List.getElem?_eq_some_iff.mp hi).1
        rw [List.length_map, kinds_len] at this
        exact this
      refine ⟨rfl, ?_⟩
      refine ⟨_, rfl, ap, _, dp, _, _, rfl, e _ _ hpi, T.cP, T.pKinds, pF_kinds, pk, rfl, ⟨_, hpk.ex e⟩, fun Dk nDk => ?_⟩
      refine lc_list (K := K) (a := pk) (xs := (kinds p).map nV) (fun m H2 => Ex H' H2 ∧ ∃ cs : List V, H2 Dk = some (.lst cs) ∧ cs.length = m) ⟨Ex.new nDk, [], upd_same, rfl⟩ (fun m H2 _ h => hpk.ex (e.trans h.1)) (fun m y H2 hm h => ?_) (fun H2 h => ?_)
      · obtain ⟨e2, cs, hcs, hcl⟩ := h
        have hmp : m < p.size := by
          have := (List.getElem?_eq_some_iff.mp hm).1
          rw [List.length_map, kinds_len] at this
          exact this
        refine ⟨rfl, ?_⟩
        refine ⟨(by show 0 ≤ sizeLine; decide), fun c nc => ⟨cs, Ex.new nc _ _ hcs, by have : sizeLine = 16777216 := sizeLine_eq; omega, (e2.trans (Ex.new nc)).mut nDk, cs ++ [.ref c], upd_same, by rw [List.length_append, hcl]; rfl⟩⟩
      · obtain ⟨e2, cs, hcs, hcl⟩ := h
        rw [List.length_map, kinds_len] at hcl
        have nkD : Dk ≠ Dl := (ne_of_none hD nDk).symm
        have nkr : Dk ∉ rows := fun hm => by
          obtain ⟨_, cs', hc, _⟩ := hrows Dk hm
          rw [nDk] at hc
          cases hc
        refine ⟨rows.map V.ref, e2 _ _ hD, by rw [List.length_map]; have : sizeLine = 16777216 := sizeLine_eq; omega, (e.trans e2).mut nD, rows ++ [Dk], ?_, by rw [List.length_append, hlen]; rfl, ?_, ?_, fun R hR => ?_⟩
        · rw [List.map_append]; exact upd_same
        · exact List.nodup_append.mpr ⟨hnd, by simp, fun a ha b hb eq => by
            obtain rfl : b = Dk := by simpa using hb
            subst eq
            exact nkr ha⟩
        · intro hm
          rcases List.mem_append.mp hm with hm | hm
          · exact hnD hm
          · exact nkD (by simpa using hm : Dl = Dk).symm
        · rcases List.mem_append.mp hR with hR | hR
          · obtain ⟨g1, cs', g2, g3⟩ := hrows R hR
            exact ⟨g1, cs', by rw [upd_ne (fun z : R = Dl => hnD (z ▸ hR))]; exact e2 _ _ g2, g3⟩
          · obtain rfl : R = Dk := by simpa using hR
            exact ⟨fresh_back e nDk, cs, by rw [upd_ne nkD]; exact hcs, hcl⟩
    · obtain ⟨e, rows, hD, hlen, hnd, hnD, hrows⟩ := h
      rw [List.length_map, kinds_len] at hlen
      have nDj : Dl ≠ j := (ne_of_none h3j nD).symm
      refine ⟨_, rfl, j, _, dx, _, rfl, e _ _ h3j, T.cJ, T.jKnown, (by show 3 < 1000; decide), ?_⟩
      have hj5 : upd H4 j (.ins D.J dx (putF "known" (.ref Dl) (putF "rounds" (nV n) (putF "run" (V.ref ar) (putF "process" (V.ref ap) []))))) j = some (.ins D.J dx (jF ap ar n Dl)) := by rw [upd_same, jF_put]
      have J0 : KTab (upd H4 j (.ins D.J dx (putF "known" (.ref Dl) (putF "rounds" (nV n) (putF "run" (V.ref ar) (putF "process" (V.ref ap) [])))))) Dl rows n p r (fun _ => p.size) := by
        refine ⟨by rw [upd_ne nDj]; exact hD, hlen, hnd, hnD, fun i R s h1 h2 => ?_⟩
        obtain ⟨g1, cs, g2, g3⟩ := hrows R (List.mem_of_getElem? h1)
        have nRj : R ≠ j := fun z => by rw [z, h3j] at g1; cases g1
        exact ⟨cs, by rw [upd_ne nRj]; exact g2, .start g3⟩
      have fr5 : ∀ b o, H b = some o → b ≠ j → upd H4 j (.ins D.J dx (putF "known" (.ref Dl) (putF "rounds" (nV n) (putF "run" (V.ref ar) (putF "process" (V.ref ap) []))))) b = some o := fun b o hb nb => by
        rw [upd_ne nb]; exact e _ _ (fr3 b o hb nb)
      have nR : ∀ R ∈ rows, H R = none ∧ R ≠ j := fun R hR => no3 R (hrows R hR).1
      generalize upd H4 j (.ins D.J dx (putF "known" (.ref Dl) (putF "rounds" (nV n) (putF "run" (V.ref ar) (putF "process" (V.ref ap) []))))) = H5 at J0 fr5 hj5 ⊢
      clear hrows hD e nDj nD hnD hnd h3j hp3 hr3 fr3 no3 hpi hpk hps hpc hri hrk hrs hrc
      have evZ : ∀ {σ : L2.St} {H' : Hp} {i : Nat} {a : Addr} {p : Wf.P}, σ[i]? = some (some (.ref a)) → ProcAt K D.P G0 H' a p → Ev (tMeth D.P "size" (spSize K D) [] E0 (tVar i) tNil) σ H' (nV p.size) := fun h0 hp => by
        obtain ⟨_, dx, k, st, c, hi, _⟩ := id hp
        exact ev_methV (ev_var h0) hi pF_size ea_nil fun H2 e2 Q q => ⟨_, _, rfl, hp.ex e2, q H2 (Ex.refl _)⟩
      have pFr : ∀ {H'}, (∀ b o, H b = some o → b ≠ j → H' b = some o) → ProcAt K D.P G0 H' ap p ∧ ProcAt K D.P G0 H' ar r := fun e => ⟨hp.fr hj nap e, hrr.fr hj nar e⟩
      refine s_rev (evZ rfl (pFr fr5).2) (by omega) (fun k σ H' => ∃ u v w, σ = [some (.ref j), some (.ref ap), some (.ref ar), some (nV n), u, v, w] ∧ H' j = some (.ins D.J dx (jF ap ar n Dl)) ∧ KTab H' Dl rows n p r (fun i => if k ≤ i then 0 else p.size) ∧ ∀ b o, H b = some o → b ≠ j → H' b = some o)
        (fun H6 e6 => ?_) (fun k σ H' hk h => ?_) (fun σ H' h => ?_)
      · refine ⟨none, none, none, rfl, e6 _ _ hj5, (J0.ex e6).weak fun i hi => ?_, fun b o hb nb => e6 _ _ (fr5 b o hb nb)⟩
        rw [if_neg (by omega)]; exact Nat.le_refl _
      · obtain ⟨u, v, w', rfl, hj', kt, fr⟩ := h
        obtain ⟨s, hs⟩ := node_at r hk
        refine s_rev (evZ rfl (pFr fr).1) (by omega) (fun m σ H' => ∃ v w, σ = [some (.ref j), some (.ref ap), some (.ref ar), some (nV n), some (nV k), v, w] ∧ H' j = some (.ins D.J dx (jF ap ar n Dl)) ∧ KTab H' Dl rows n p r (fun i => if k < i then 0 else if i = k then m else p.size) ∧ ∀ b o, H b = some o → b ≠ j → H' b = some o)
          (fun H6 e6 => ?_) (fun m σ H2 hm h => ?_) (fun σ H2 h => ?_)
        · refine ⟨v, w', rfl, e6 _ _ hj', (kt.ex e6).weak fun i hi => ?_, fun b o hb nb => e6 _ _ (fr b o hb nb)⟩
          by_cases c : k + 1 ≤ i
          · rw [if_pos c]; exact Nat.zero_le _
          · rw [if_neg c, if_neg (by omega)]
            split <;> exact Nat.le_refl _
        · obtain ⟨v, w', rfl, hj2, kt2, fr2⟩ := h
          obtain ⟨q', hq'⟩ := node_at p hm
          refine gmeth (ev_var rfl) hj2 jF_fits_of (ea_2 (ev_var rfl) (ev_var rfl)) fun H3' e3 => ?_
          have fr3 : ∀ b o, H b = some o → b ≠ j → H3' b = some o := fun b o hb nb => e3 _ _ (fr2 b o hb nb)
          obtain ⟨P1, P2⟩ := pFr fr3
          refine ⟨j, Dl, rows, n, p, r, _, k, m, s, q', rfl, ⟨⟨dx, ap, ar, e3 _ _ hj2, P1, P2⟩, kt2.ex e3⟩, n1, n3, hs, hq', fun i' hi' => if_pos hi', ?_, fun H4' c e4 nc hc => ?_⟩
          · show (if k < k then 0 else if k = k then m + 1 else p.size) ≤ m + 1
            rw [if_neg (Nat.lt_irrefl _), if_pos rfl]; exact Nat.le_refl _
          have e34 := e3.trans e4
          have kt4 := kt2.ex e34
          have hkr : k < rows.length := by rw [kt4.len]; exact hk
          have hR : rows[k]? = some rows[k] := List.getElem?_eq_getElem hkr
          have hRm : rows[k] ∈ rows := List.mem_of_getElem? hR
          generalize rows[k] = R at hR hRm
          obtain ⟨cs, hcs, hcf⟩ := kt4.row k R s hR hs
          have ncr : c ∉ rows := fun hm' => by
            obtain ⟨i', hi'⟩ := List.getElem?_of_mem hm'
            have hir : i' < r.size := by rw [← kt4.len]; exact (List.getElem?_eq_some_iff.mp hi').1
            obtain ⟨s', hs'⟩ := node_at r hir
            obtain ⟨cs', hcs', _⟩ := (kt2.ex e3).row i' c s' hi' hs'
            rw [nc] at hcs'
            cases hcs'
          refine ⟨_, rfl, j, _, dx, _, _, rfl, e34 _ _ hj2, T.cJ, T.jKnown, jF_known, _, rfl, Dl, _, k, .ref R, rfl, rfl, sq_of kt4.l, nat_at (by rw [List.getElem?_map, hR]; rfl), _, rfl, R, cs, _, m, rfl, rfl, hcs, ixN_of (by rw [hcf.1]; exact hm), ?_⟩
          refine ⟨_, w', rfl, by rw [upd_ne (nR R hRm).2.symm]; exact e34 _ _ hj2, kt4.put hs hq' ?_ hR hcs ncr hc ?_ ?_, fun b o hb nb => ?_⟩
          · show (if k < k then 0 else if k = k then m + 1 else p.size) ≤ m + 1
            rw [if_neg (Nat.lt_irrefl _), if_pos rfl]; exact Nat.le_refl _
          · show m ≤ (if k < k then 0 else if k = k then m else p.size)
            rw [if_neg (Nat.lt_irrefl _), if_pos rfl]; exact Nat.le_refl _
          · intro i hi
            show (if k < i then 0 else if i = k then m + 1 else p.size) ≤ (if k < i then 0 else if i = k then m else p.size)
            rw [if_neg hi, if_neg hi]; exact Nat.le_refl _
          · rw [upd_ne (fun z : b = R => by rw [z, (nR R hRm).1] at hb; cases hb)]
            exact e34 _ _ (fr2 b o hb nb)
        · obtain ⟨v, w', rfl, hj2, kt2, fr2⟩ := h
          refine ⟨_, v, w', rfl, hj2, kt2.weak fun i hi => ?_, fr2⟩
          by_cases c : k < i
          · rw [if_pos c]; exact Nat.zero_le _
          · rw [if_neg c]
            by_cases c2 : i = k
            · rw [if_pos c2]; exact Nat.zero_le _
            · rw [if_neg c2, if_neg (by omega)]; exact Nat.le_refl _
      · obtain ⟨u, v, w', rfl, hj', kt, fr⟩ := h
        obtain ⟨P1, P2⟩ := pFr fr
        refine q H' Dl rows ⟨⟨dx, ap, ar, hj', P1, P2⟩, kt.weak fun i hi => ?_⟩ fr
        rw [if_pos (Nat.zero_le _)]; exact Nat.le_refl _
theorem scIsRun : FnScope ["process", "run", "rounds"] ["process", "run", "rounds"] (defScope sIsRun) := ⟨rfl, rfl, rfl, by decide +kernel, rfl, by decide +kernel, by decide +kernel⟩
theorem ok_isRun (F : Fun K "is_run" "is_run" sIsRun f fd) (T : Txt K mg D) (hc : HasC P w K mg base "Judge" D.J 5 ["self", "process", "run", "rounds"] (spJInit K D)) (hf : HasM P w K mg base D.J "fits" 1 ["self", "place", "at"] (spFits K D)) :
    FnOk P w K mg base CX0 7 f fd ["process", "run", "rounds"] (spIsRun K D) := by
  refine F.ok scIsRun (fun vs H Q E h => ?_) (fun cdv A outer s H vs Q E hr h => ?_)
  · obtain ⟨ap, ar, n, p, r, rfl, _⟩ := h
    rfl
  · obtain ⟨ap, ar, n, p, r, rfl, hp, hrr, zp, zr, n1, n3, q⟩ := h
    have hr1 : Room 1 _ := hr.mono (by decide)
    refine ⟨_, pss_one (ps_ret (pe_m (pe_c hc hr rfl (pa_cons (pv 0) (pa_cons (pv 1) (pa_cons (pv 2) pa_nil)))) T.cJ hf hr1 (pa_cons pe_int (pa_cons pe_int pa_nil)))), ?_⟩
    refine ⟨_, rfl, _, rfl, _, rfl, fun x dx nx ndx ndd => ?_⟩
    have eN : Ex H (upd (upd H dx (.own x)) x (.ins D.J dx [])) := (Ex.new ndx).trans (Ex.new (by rw [upd_ne (Ne.symm ndd)]; exact nx))
    refine ⟨x, dx, ap, ar, n, p, r, rfl, upd_same, hp.ex eN, hrr.ex eN, zp, zr, n1, n3, fun H3 ak rows J keep => ⟨rfl, ?_⟩⟩
    have e3 : Ex H H3 := fun b o hb => keep b o (eN _ _ hb) (ne_of_none hb nx)
    obtain ⟨⟨dx', ap', ar', hx, _, _⟩, _⟩ := id J
    refine ⟨x, dx', _, rfl, hx, jF_fits, ?_⟩
    exact ⟨x, ak, rows, n, p, r, _, 0, 0, r, p, rfl, J, n1, nodes_zero r, nodes_zero p, Nat.le_refl _, q H3 e3⟩
end
end Fr
/-! judging: pair_of_run. -/
namespace Fr
open PySem PySem.Spec PyProof.Rows L2 Evl
open Wf06 (Book)
def rcP (b : Book) (r : Wf.P) : Pr := (b.time r, b.cost r)
theorem rc_of {b : Book} {x l r : Wf.P} (h : kids x = some (l, r)) (hp : plain x = true) : rcP b x = jn (kind x) (rcP b l) (rcP b r) := by
  cases x <;> simp [kids] at h <;> obtain ⟨rfl, rfl⟩ := h
  · rfl
  · cases hp
  · rfl
  · cases hp
theorem plain_act {a : Nat} (h : plain (.act a) = true) : a < 6 := of_decide_eq_true h
def spPairOfRun (K : PySem.W.Frag) (D : Ad) : Sp := fun vs H Q _ => ∃ (a t : Addr) (p : Wf.P) (b : Book), vs = [.ref a, .ref t] ∧ ProcAt K D.P G0 H a p ∧ TimesAt K D.T G0 H t b ∧ BookOk b ∧ plain p = true ∧ p.size ≤ 1000 ∧
  ∀ H' x, Ex H H' → Prt K H' x (rcP b p) → Q x H'
section
variable {P : Program} {w : World} {K : PySem.W.Frag} {mg : Str → Option Value} {base : Heap} {D : Ad} {f : Addr} {fd : FuncData}
theorem scPairOfRun : FnScope ["run", "times", "found", "at", "kind"] ["run", "times"] (defScope sPairOfRun) := ⟨rfl, rfl, rfl, by decide +kernel, rfl, by decide +kernel, by decide +kernel⟩
theorem ok_pairOfRun (F : Fun K "pair_of_run" "pair_of_run" sPairOfRun f fd) (T : Txt K mg D) (hz : HasM P w K mg base D.P "size" 1 ["self"] (spSize K D)) (hp : HasM P w K mg base D.T "pair_of" 1 ["self", "step"] (spPairOf K D))
    (hc : HasF P w K mg base "joined" 1 ["kind", "one", "other"] (spJoined K)) : FnOk P w K mg base CX0 2 f fd ["run", "times"] (spPairOfRun K D) := by
  refine F.ok scPairOfRun (fun vs H Q E h => ?_) (fun cdv A outer s H vs Q E hr h => ?_)
  · obtain ⟨a, t, p, b, rfl, _⟩ := h
    rfl
  · obtain ⟨a, t, p, b, rfl, hpr, ht, ok, rt, hb, q⟩ := h
    have nd := scPairOfRun.nd
    have hr1 : Room 1 _ := hr.mono (by decide)
    refine ⟨_, pss_cons (ps_set (i := 2) nd rfl (.inl rfl) (pe_op op_rep (pe_lst (pa_cons (pe_tup (pa_cons pe_int (pa_cons pe_int pa_nil))) pa_nil)) (pe_m0 (pv 0) T.cP hz hr1)))
      (pss_cons (ps_for PassesOwn.never rfl (pi_revR rfl T.reversed (prg_1 rfl T.range (pe_m0 (pv 0) T.cP hz hr1))) (pg_name (i := 3) nd rfl (.inl rfl))
        (pss_cons (ps_set (i := 4) nd rfl (.inl rfl) (pe_ix ix_list (pe_fld (pv 0) rfl) (pv 3) (fun _ _ => rfl)))
        (pss_one (ps_if (pt_cmpR op_eq (pv 4) (pe_ci T.STEP rfl) (nomark _))
          (pss_one (ps_asg (pe_m (pv 1) T.cT hp hr1 (pa_cons (pe_ix ix_list (pe_fld (pv 0) rfl) (pv 3) (fun _ _ => rfl)) pa_nil)) (pg_sub (pv 2) (pv 3) set_list)))
          (pss_one (ps_if (pt_cmpR op_ne (pv 4) (pe_ci T.EMPTY rfl) (nomark _))
            (pss_one (ps_asg (pe_f hc hr rfl (pa_cons (pv 4) (pa_cons (pe_ix ix_list (pv 2) (pe_op op_add (pv 3) pe_int) (fun _ _ => rfl)) (pa_cons (pe_ix ix_list (pv 2) (pe_ix ix_list (pe_fld (pv 0) rfl) (pv 3) (fun _ _ => rfl)) (fun _ _ => rfl)) pa_nil)))) (pg_sub (pv 2) (pv 3) set_list)))
            pss_nil))))))
      (pss_one (ps_ret (pe_ix ix_list (pv 2) pe_int (fun _ _ => rfl))))), ?_⟩
    obtain ⟨_, dx, k, st, c, hi, _, _, _, hk, hst, hs⟩ := id hpr
    obtain ⟨_, dt, lt, ut, hti, _, htl, htu⟩ := id ht
    have evZ : ∀ {σ : L2.St} {H1 : Hp}, σ[0]? = some (some (.ref a)) → Ex H H1 → Ev (tMeth D.P "size" (spSize K D) [] E0 (tVar 0) tNil) σ H1 (nV p.size) := fun h0 e1 =>
      ev_methV (ev_var h0) (e1 _ _ hi) pF_size ea_nil fun H2 e2 Q q => ⟨a, p, rfl, hpr.ex (e1.trans e2), q H2 (Ex.refl _)⟩
    have big : p.size ≤ sizeLine := Nat.le_trans hb (by decide)
    -- [(0, 0)] * size
    refine ⟨(by show 2 ≤ sizeLine; decide), fun t0 nt0 => ⟨(by show 1 ≤ sizeLine; decide), fun l0 nl0 => ?_⟩⟩
    have e0 : Ex H (upd (upd H t0 (.tup [.int 0, .int 0])) l0 (.lst [.ref t0])) := (Ex.new nt0).trans (Ex.new nl0)
    refine evZ rfl e0 _ (Ex.refl _) _ fun H1 e1 => ?_
    refine ⟨l0, _, _, rfl, rfl, e1 _ _ upd_same, by omega, (by have : sizeLine = 16777216 := sizeLine_eq; omega), (by show 1 * (p.size : Int).toNat ≤ sizeLine; omega), fun l nl => ?_⟩
    have hf : (List.replicate (p.size : Int).toNat [V.ref t0]).flatten = List.replicate p.size (V.ref t0) := by rw [flat_rep]; simp
    rw [hf]
    have e01 : Ex H H1 := e0.trans e1
    have nlH : H l = none := fresh_back e01 nl
    have h00 : Prt K H1 (.ref t0) (0, 0) := ⟨t0, rfl, st_of (e1 _ _ (Ex.new nl0 _ _ upd_same))⟩
    have e2 := Ex.new nl (o := .lst (List.replicate p.size (.ref t0)))
    refine q_rev (evZ rfl (e01.trans e2)) (by omega) (fun k' σ H' => ∃ u v xs, σ = [some (.ref a), some (.ref t), some (.ref l), u, v] ∧ Ex H H' ∧ H' l = some (.lst xs) ∧ FilledR (WcR K H' p (rcP b)) p.size k' xs ∧ (∀ i, i < k' → ∃ v, xs[i]? = some v ∧ Prt K H' v (0, 0))) (fun H2 e3 => ?_) (fun k' σ H' hk' h => ?_) (fun σ H' h => ?_)
    · exact ⟨none, none, _, rfl, (e01.trans e2).trans e3, e3 _ _ upd_same, .start (by simp), fun i hi => ⟨.ref t0, by simp [hi], h00.ex (e2.trans e3)⟩⟩
    · obtain ⟨u, v, xs, rfl, e, g, fl, fz⟩ := h
      obtain ⟨x, hx⟩ := node_at p hk'
      have upL : ∀ {H4 : Hp} {ys : List V}, Ex H' H4 → FilledR (WcR K (upd H4 l (.lst ys)) p (rcP b)) p.size (k' + 1) xs ∧ (∀ i, i < k' → ∃ v, xs[i]? = some v ∧ Prt K (upd H4 l (.lst ys)) v (0, 0)) := fun {H4 ys} e4 =>
        ⟨fl.imp fun i v h q hq => ((h q hq).ex e4).upd (e4 _ _ g) trivial, fun i hi => let ⟨v, h1, h2⟩ := fz i (by omega); ⟨v, h1, (h2.ex e4).upd (e4 _ _ g) trivial⟩⟩
      have setZ : ∀ {xs : List V} {z : V} {H4 : Hp}, (∀ i, i < k' → ∃ v, xs[i]? = some v ∧ Prt K H4 v (0, 0)) → (∀ i, i < k' → ∃ v, (xs.set k' z)[i]? = some v ∧ Prt K H4 v (0, 0)) := fun h i hi => by
        obtain ⟨v, h1, h2⟩ := h i hi
        exact ⟨v, by rw [List.getElem?_set_ne (by omega)]; exact h1, h2⟩
      refine q_asg (ev_ixL (ev_fld (ev_var rfl) (e _ _ hi) T.cP T.pKinds pF_kinds) (ev_var rfl) (hk.ex e) (nl_get (kinds_get hx))) fun H2 e3 => ?_
      refine s_if (et_cmp (ev_var rfl) ev_zero rv_eqN) (fun hb' H3 e4 => ?_) (fun hb' H3 e4 => ?_)
      · obtain ⟨ac, rfl⟩ := act_of (of_decide_eq_true hb')
        have e34 := e3.trans e4
        have eH := e.trans e34
        refine ⟨_, rfl, t, dt, _, rfl, eH _ _ hti, tF_no (by decide +kernel) (by decide +kernel), _, rfl, a, _, dx, _, _, rfl, eH _ _ hi, T.cP, T.pSteps, pF_steps, _, rfl, st, _, _, _, rfl, rfl, hst.ex eH, nat_at (nl_get (steps_get hx)), ?_⟩
        refine ⟨t, b, ac, rfl, ht.ex eH, ok, plain_act (plain_node p rt hx), fun z hz => ?_⟩
        refine ⟨_, rfl, _, rfl, l, _, _, k', rfl, rfl, e34 _ _ g, ixN_of (by rw [fl.1]; exact hk'), ?_⟩
        obtain ⟨u1, u2⟩ := upL (ys := xs.set k' z) e34
        refine ⟨_, _, _, rfl, eH.mut nlH, upd_same, u1.set hk' fun q' hq' => ?_, setZ u2⟩
        rw [hx] at hq'
        cases hq'
        exact hz.upd (e34 _ _ g) trivial
      · refine s_when (et_cmp (ev_var rfl) ev_one rv_neN) (fun hb2 H4 e5 => ?_) (fun hb2 H4 e5 => ?_)
        · obtain ⟨l', r, hx'⟩ : ∃ l r, kids x = some (l, r) := by
            have h0 := of_decide_eq_false hb'
            rw [Bool.not_eq_true', decide_eq_false_iff_not] at hb2
            cases q : kids x with
            | none => have := kids_kind.mp q; omega
            | some y => exact ⟨y.1, y.2, rfl⟩
          obtain ⟨c1, c2⟩ := nodes_kids p hx hx'
          have zl := node_end p c1
          have zr := node_end p c2
          have pl := size_pos l'
          have pr := size_pos r
          have e35 := (e3.trans e4).trans e5
          have eH := e.trans e35
          obtain ⟨y1, hy1, hq1⟩ := fl.2 (k' + 1) (by omega) (by omega)
          obtain ⟨y2, hy2, hq2⟩ := fl.2 (k' + 1 + l'.size) (by omega) (by omega)
          have sx : (secs 0 p)[k']? = some (k' + 1 + l'.size) := by rw [secs_get p 0 hx, secAt_of hx', Nat.zero_add]
          refine gcall (ea_3 (ev_var rfl) (ev_ixL (ev_var rfl) (ev_add (ev_var rfl) ev_one) (sq_of (e35 _ _ g)) hy1)
            (ev_ixL (ev_var rfl) (ev_ixL (ev_fld (ev_var rfl) (eH _ _ hi) T.cP T.pSeconds pF_seconds) (ev_var rfl) (hs.ex eH) (nl_get sx)) (sq_of (e35 _ _ g)) hy2)) fun H5 e6 => ?_
          have e36 := e35.trans e6
          refine ⟨kind x, y1, y2, _, _, rfl, (hq1 _ c1).ex e36, (hq2 _ c2).ex e36, fun H6 tz ntz e7 htz => ?_⟩
          have hz : Prt K H6 (.ref tz) (jn (kind x) (rcP b l') (rcP b r)) := ⟨tz, rfl, st_of htz⟩
          generalize V.ref tz = z at hz ⊢
          have e37 := e36.trans e7
          refine ⟨_, rfl, _, rfl, l, _, _, k', rfl, rfl, e37 _ _ g, ixN_of (by rw [fl.1]; exact hk'), ?_⟩
          obtain ⟨u1, u2⟩ := upL (ys := xs.set k' z) e37
          refine ⟨_, _, _, rfl, (e.trans e37).mut nlH, upd_same, u1.set hk' fun q' hq' => ?_, setZ u2⟩
          rw [hx] at hq'
          cases hq'
          rw [rc_of hx' (plain_node p rt hx)]
          exact hz.upd (e37 _ _ g) trivial
        · have hx1 : x = .skip := skip_of (by
            rw [Bool.not_eq_false', decide_eq_true_iff] at hb2
            exact hb2)
          subst hx1
          have e35 := (e3.trans e4).trans e5
          refine ⟨_, _, xs, rfl, e.trans e35, e35 _ _ g, (fl.imp fun i v h q hq => (h q hq).ex e35).skip ?_, fun i hi => let ⟨v, h1, h2⟩ := fz i (by omega); ⟨v, h1, h2.ex e35⟩⟩
          obtain ⟨z, hz, hz2⟩ := fz k' (by omega)
          refine ⟨z, hz, fun q' hq' => ?_⟩
          rw [hx] at hq'
          cases hq'
          exact hz2.ex e35
    · obtain ⟨u, v, xs, rfl, e, g, fl, _⟩ := h
      obtain ⟨z, hz, hz2⟩ := fl.2 0 (Nat.zero_le _) (size_pos p)
      exact s_ret (ev_ixL (i := 0) (ev_var rfl) ev_c (sq_of g) hz) fun H3 e3 => q H3 z (e.trans e3) ((hz2 p (nodes_zero p)).ex e3)
end
end Fr
/-! selecting: the table of fronts; whole, first, second, loop_fronts, fronts_of. -/
namespace Fr
open PySem PySem.Spec PyProof.Rows L2 Evl
open Wf06 (Book Point seqs sides loops best)
abbrev sF (a f : Addr) : List (Str × V) := [("process", .ref a), ("fronts", .ref f)]
section
variable {a f : Addr}
theorem sF_process : (sF a f).lookup ("process" : Str) = some (.ref a) := lk0
theorem sF_fronts : (sF a f).lookup ("fronts" : Str) = some (.ref f) := (lkN (by decide +kernel)).trans lk0
theorem sF_no {m : Str} (h1 : (m == "process") = false) (h2 : (m == "fronts") = false) : (sF a f).lookup m = none := (lkN h1).trans ((lkN h2).trans rfl)
theorem sF_whole : (sF a f).lookup ("whole" : Str) = none := sF_no (by decide +kernel) (by decide +kernel)
theorem sF_first : (sF a f).lookup ("first" : Str) = none := sF_no (by decide +kernel) (by decide +kernel)
theorem sF_second : (sF a f).lookup ("second" : Str) = none := sF_no (by decide +kernel) (by decide +kernel)
theorem sF_fronts_of : (sF a f).lookup ("fronts_of" : Str) = none := sF_no (by decide +kernel) (by decide +kernel)
theorem sF_loop_fronts : (sF a f).lookup ("loop_fronts" : Str) = none := sF_no (by decide +kernel) (by decide +kernel)
theorem sF_run_of : (sF a f).lookup ("run_of" : Str) = none := sF_no (by decide +kernel) (by decide +kernel)
theorem sF_loop_run : (sF a f).lookup ("loop_run" : Str) = none := sF_no (by decide +kernel) (by decide +kernel)
theorem sF_put : putF "fronts" (.ref f) (putF "process" (.ref a) []) = sF a f := by
  show putF "fronts" (.ref f) [("process", V.ref a)] = _
  rw [ptN (by decide +kernel)]
  rfl
end
section
variable {K : PySem.W.Frag} {D : Ad} {H H' : Hp} {F : Addr} {b : Book} {p q : Wf.P} {k : Nat}
def GsOk (K : PySem.W.Frag) (H : Hp) (F : Addr) : List Addr → List (List Point) → Prop := Paired fun g f => g ≠ F ∧ PrN K H g (f.map proj)
def LevOk (K : PySem.W.Frag) (H : Hp) (F : Addr) (fs : List (List Point)) (v : V) : Prop := ∃ l gs, v = .ref l ∧ l ≠ F ∧ H l = some (.lst (gs.map V.ref)) ∧ GsOk K H F gs fs
theorem PrN.upd {K : PySem.W.Frag} {H : Hp} {g l : Addr} {ps : List Pr} {u o : HO} (h : PrN K H g ps) (hl : H l = some u) (hu : Wr u) (n : g ≠ l) : PrN K (upd H l o) g ps := by
  obtain ⟨vs, h1, h2⟩ := h
  exact ⟨vs, by rw [upd_ne n]; exact h1, Prs.upd h2 hl hu⟩
theorem GsOk.ex {gs : List Addr} {fs : List (List Point)} (e : Ex H H') (h : GsOk K H F gs fs) : GsOk K H' F gs fs := Paired.mono (fun _ _ q => ⟨q.1, q.2.ex e⟩) h
theorem GsOk.upd {gs : List Addr} {fs : List (List Point)} {u o : HO} (h : GsOk K H F gs fs) (hl : H F = some u) (hu : Wr u) : GsOk K (upd H F o) F gs fs := Paired.mono (fun _ _ q => ⟨q.1, q.2.upd hl hu q.1⟩) h
theorem LevOk.ex {fs : List (List Point)} {v : V} (e : Ex H H') (h : LevOk K H F fs v) : LevOk K H' F fs v := by
  obtain ⟨l, gs, rfl, n, h1, h2⟩ := h
  exact ⟨l, gs, rfl, n, e _ _ h1, h2.ex e⟩
theorem LevOk.upd {fs : List (List Point)} {v : V} {u o : HO} (h : LevOk K H F fs v) (hl : H F = some u) (hu : Wr u) : LevOk K (upd H F o) F fs v := by
  obtain ⟨l, gs, rfl, n, h1, h2⟩ := h
  exact ⟨l, gs, rfl, n, by rw [upd_ne n]; exact h1, h2.upd hl hu⟩
def LvR (K : PySem.W.Frag) (H : Hp) (F : Addr) (b : Book) (p : Wf.P) (i : Nat) (v : V) : Prop := ∀ q, (nodes p)[i]? = some q → LevOk K H F (lv b q) v
def FTab (K : PySem.W.Frag) (H : Hp) (F : Addr) (b : Book) (p : Wf.P) (k : Nat) : Prop := ∃ vs, H F = some (.lst vs) ∧ FilledR (LvR K H F b p) p.size k vs
theorem FTab.ex (e : Ex H H') (h : FTab K H F b p k) : FTab K H' F b p k := by
  obtain ⟨vs, h1, h2⟩ := h
  exact ⟨vs, e _ _ h1, h2.imp fun i v h q hq => (h q hq).ex e⟩
/-- a node's list of fronts -/
theorem FTab.lev (h : FTab K H F b p k) {i : Nat} (hq : (nodes p)[i]? = some q) (hk : k ≤ i) : ∃ vs l gs, H F = some (.lst vs) ∧ vs[i]? = some (.ref l) ∧ H l = some (.lst (gs.map V.ref)) ∧ GsOk K H F gs (lv b q) := by
  obtain ⟨vs, h1, h2⟩ := h
  obtain ⟨v, hv, hl⟩ := h2.2 i hk (by rw [← nodes_len]; exact (List.getElem?_eq_some_iff.mp hq).1)
  obtain ⟨l, gs, rfl, _, h3, h4⟩ := hl q hq
  exact ⟨vs, l, gs, h1, hv, h3, h4⟩
theorem FTab.put {l : Addr} {vs : List V} (h : FTab K H F b p (k + 1)) (hq : (nodes p)[k]? = some q) (hv : H F = some (.lst vs)) (hl : LevOk K H F (lv b q) (.ref l)) : FTab K (upd H F (.lst (vs.set k (.ref l)))) F b p k := by
  obtain ⟨vs', h1, h2⟩ := h
  rw [hv] at h1
  cases h1
  refine ⟨_, upd_same, (h2.imp fun i v h q hq => (h q hq).upd hv trivial).set (by rw [← nodes_len]; exact (List.getElem?_eq_some_iff.mp hq).1) fun q' hq' => ?_⟩
  rw [hq] at hq'
  cases hq'
  exact hl.upd hv trivial
def SelAt (K : PySem.W.Frag) (D : Ad) (H : Hp) (s F : Addr) (b : Book) (p : Wf.P) (k : Nat) : Prop := (∃ dx ap, H s = some (.ins D.S dx (sF ap F)) ∧ ProcAt K D.P G0 H ap p) ∧ FTab K H F b p k
theorem SelAt.ex {s : Addr} (e : Ex H H') (h : SelAt K D H s F b p k) : SelAt K D H' s F b p k := by
  obtain ⟨⟨dx, ap, h1, h2⟩, h3⟩ := h
  exact ⟨⟨dx, ap, e _ _ h1, h2.ex e⟩, h3.ex e⟩
end
theorem node_small {p q : Wf.P} {i : Nat} (h : p.size ≤ 11) (hq : (nodes p)[i]? = some q) : q.size ≤ 11 := by
  have := node_end p hq
  omega
theorem fr_len {b : Book} (ok : BookOk b) {q : Wf.P} (h : q.size ≤ 11) : (fr b q).length ≤ 5904901 := by
  have h1 := inc_short (front_inc b q) (fr_tb b q)
  have h2 := latest_11 ok h
  omega
def spWhole (K : PySem.W.Frag) (D : Ad) : Sp := fun vs H Q _ => ∃ (s F : Addr) (b : Book) (p q : Wf.P) (k i : Nat), vs = [.ref s, nV i] ∧ SelAt K D H s F b p k ∧ BookOk b ∧ (nodes p)[i]? = some q ∧ k ≤ i ∧ ∀ g, g ≠ F → PrN K H g (fr b q) → Q (.ref g) H
def spFirst (K : PySem.W.Frag) (D : Ad) : Sp := fun vs H Q _ => ∃ (s F : Addr) (b : Book) (p q l r : Wf.P) (k i : Nat), vs = [.ref s, nV i] ∧ SelAt K D H s F b p k ∧ BookOk b ∧ (nodes p)[i]? = some q ∧ kids q = some (l, r) ∧ k ≤ i + 1 ∧ ∀ g, g ≠ F → PrN K H g (fr b l) → Q (.ref g) H
def spSecond (K : PySem.W.Frag) (D : Ad) : Sp := fun vs H Q _ => ∃ (s F : Addr) (b : Book) (p q l r : Wf.P) (k i : Nat), vs = [.ref s, nV i] ∧ SelAt K D H s F b p k ∧ BookOk b ∧ (nodes p)[i]? = some q ∧ kids q = some (l, r) ∧ k ≤ i + 1 ∧ ∀ g, g ≠ F → PrN K H g (fr b r) → Q (.ref g) H
def spLoopFronts (K : PySem.W.Frag) (D : Ad) : Sp := fun vs H Q _ => ∃ (s F : Addr) (b : Book) (p f g : Wf.P) (k i : Nat), vs = [.ref s, nV i, nV b.rounds] ∧ SelAt K D H s F b p k ∧ BookOk b ∧ p.size ≤ 11 ∧ (nodes p)[i]? = some (.loop f g) ∧ k ≤ i + 1 ∧
  ∀ H' l, Ex H H' → LevOk K H' F (lv b (.loop f g)) (.ref l) → H l = none → Q (.ref l) H'
def spFrontsOf (K : PySem.W.Frag) (D : Ad) : Sp := fun vs H Q _ => ∃ (s t F : Addr) (b : Book) (p q : Wf.P) (k i : Nat), vs = [.ref s, nV i, .ref t] ∧ SelAt K D H s F b p k ∧ TimesAt K D.T G0 H t b ∧ BookOk b ∧ p.right = true ∧ p.size ≤ 11 ∧ (nodes p)[i]? = some q ∧ k ≤ i + 1 ∧
  ∀ H' l, Ex H H' → LevOk K H' F (lv b q) (.ref l) → H l = none → Q (.ref l) H'
section
variable {P : Program} {w : World} {K : PySem.W.Frag} {mg : Str → Option Value} {base : Heap} {D : Ad} {f : Addr} {fd : FuncData}
theorem scWhole : FnScope ["self", "at"] ["self", "at"] (defScope sWhole) := ⟨rfl, rfl, rfl, by decide +kernel, rfl, by decide +kernel, by decide +kernel⟩
theorem ok_whole (Fn : Fun K "whole" "Selection.whole" sWhole f fd) (T : Txt K mg D) : FnOk P w K mg base CX0 1 f fd ["self", "at"] (spWhole K D) := by
  refine Fn.ok scWhole (fun vs H Q E h => ?_) (fun cdv A outer s H vs Q E hr h => ?_)
  · obtain ⟨s, F, b, p, q, k, i, rfl, _⟩ := h
    rfl
  · obtain ⟨s0, F, b, p, q, k, i, rfl, ⟨⟨dx, ap, hs, hp⟩, ft⟩, ok, hq, hk, hQ⟩ := h
    refine ⟨_, pss_one (ps_ret (pe_ix ix_list (pe_ix ix_list (pe_fld (pv 0) rfl) (pv 1) (fun _ _ => rfl)) (pe_un un_neg pe_int) (fun _ _ => rfl))), ?_⟩
    obtain ⟨vs, l, gs, h1, h2, h3, h4⟩ := ft.lev hq hk
    obtain ⟨g, hg, hg1, hg2⟩ := paired_last h4 (lv_last ok q)
    exact ⟨_, rfl, s0, _, dx, _, _, rfl, hs, T.cS, T.sFronts, sF_fronts, _, rfl, F, _, _, _, rfl, rfl, sq_of h1, nat_at h2, 1, rfl, l, _, _, .ref g, rfl, rfl, sq_of h3, at_last (by rw [List.getLast?_map, hg]; rfl), hQ g hg1 hg2⟩
theorem scFirst : FnScope ["self", "at"] ["self", "at"] (defScope sFirst) := ⟨rfl, rfl, rfl, by decide +kernel, rfl, by decide +kernel, by decide +kernel⟩
theorem ok_first (Fn : Fun K "first" "Selection.first" sFirst f fd) (T : Txt K mg D) (hw : HasM P w K mg base D.S "whole" 1 ["self", "at"] (spWhole K D)) : FnOk P w K mg base CX0 2 f fd ["self", "at"] (spFirst K D) := by
  refine Fn.ok scFirst (fun vs H Q E h => ?_) (fun cdv A outer s H vs Q E hr h => ?_)
  · obtain ⟨s, F, b, p, q, l, r, k, i, rfl, _⟩ := h
    rfl
  · obtain ⟨s0, F, b, p, q, l, r, k, i, rfl, S, ok, hq, hq', hk, hQ⟩ := h
    refine ⟨_, pss_one (ps_ret (pe_m (pv 0) T.cS hw hr (pa_cons (pe_op op_add (pv 1) pe_int) pa_nil))), ?_⟩
    obtain ⟨⟨dx, ap, hs, hp⟩, ft⟩ := id S
    obtain ⟨c1, _⟩ := nodes_kids p hq hq'
    exact ⟨_, rfl, s0, dx, _, rfl, hs, sF_whole, _, rfl, _, _, rfl, rfl, s0, F, b, p, l, k, i + 1, rfl, S, ok, c1, hk, hQ⟩
theorem scSecond : FnScope ["self", "at"] ["self", "at"] (defScope sSecond) := ⟨rfl, rfl, rfl, by decide +kernel, rfl, by decide +kernel, by decide +kernel⟩
theorem ok_second (Fn : Fun K "second" "Selection.second" sSecond f fd) (T : Txt K mg D) (hw : HasM P w K mg base D.S "whole" 1 ["self", "at"] (spWhole K D)) : FnOk P w K mg base CX0 2 f fd ["self", "at"] (spSecond K D) := by
  refine Fn.ok scSecond (fun vs H Q E h => ?_) (fun cdv A outer s H vs Q E hr h => ?_)
  · obtain ⟨s, F, b, p, q, l, r, k, i, rfl, _⟩ := h
    rfl
  · obtain ⟨s0, F, b, p, q, l, r, k, i, rfl, S, ok, hq, hq', hk, hQ⟩ := h
    refine ⟨_, pss_one (ps_ret (pe_m (pv 0) T.cS hw hr (pa_cons (pe_ix ix_list (pe_fld (pe_fld (pv 0) rfl) rfl) (pv 1) (fun _ _ => rfl)) pa_nil))), ?_⟩
    obtain ⟨⟨dx, ap, hs, hp⟩, ft⟩ := id S
    obtain ⟨_, dp, pk, ps, pc, hpi, _, _, _, _, _, hpc⟩ := id hp
    obtain ⟨_, c2⟩ := nodes_kids p hq hq'
    have sx : (secs 0 p)[i]? = some (i + 1 + l.size) := by rw [secs_get p 0 hq, secAt_of hq', Nat.zero_add]
    exact ⟨_, rfl, s0, dx, _, rfl, hs, sF_whole, _, rfl, s0, _, dx, _, _, rfl, hs, T.cS, T.sProcess, sF_process, ap, _, dp, _, _, rfl, hpi, T.cP, T.pSeconds, pF_seconds, _, rfl, pc, _, _, _, rfl, rfl, hpc, nat_at (nl_get sx), s0, F, b, p, r, k, i + 1 + l.size, rfl, S, ok, c2, by omega, hQ⟩
section
variable {σ : L2.St} {H : Hp} {s F : Addr} {b : Book} {p q l r : Wf.P} {k i : Nat} {to ta : TE}
/-- the fronts of the kids, as they are read -/
theorem ep_first (S : SelAt K D H s F b p k) (ok : BookOk b) (hq : (nodes p)[i]? = some q) (hq' : kids q = some (l, r)) (hk : k ≤ i + 1) (ho : Ev to σ H (.ref s)) (ha : Ev ta σ H (nV i)) :
    EvP (tMeth D.S "first" (spFirst K D) [] E0 to (tCons ta tNil)) σ H fun v _ H2 => ∃ g, v = .ref g ∧ g ≠ F ∧ PrN K H2 g (fr b l) := by
  obtain ⟨⟨dx, ap, hs, _⟩, _⟩ := id S
  exact ev_methP ho hs sF_first (ea_1 ha) (fun _ _ _ _ _ h => h) fun H1 e1 Q q' => ⟨s, F, b, p, q, l, r, k, i, rfl, S.ex e1, ok, hq, hq', hk, fun g h1 h2 => q' _ _ (Ex.refl _) ⟨g, rfl, h1, h2⟩⟩
theorem ep_second (S : SelAt K D H s F b p k) (ok : BookOk b) (hq : (nodes p)[i]? = some q) (hq' : kids q = some (l, r)) (hk : k ≤ i + 1) (ho : Ev to σ H (.ref s)) (ha : Ev ta σ H (nV i)) :
    EvP (tMeth D.S "second" (spSecond K D) [] E0 to (tCons ta tNil)) σ H fun v _ H2 => ∃ g, v = .ref g ∧ g ≠ F ∧ PrN K H2 g (fr b r) := by
  obtain ⟨⟨dx, ap, hs, _⟩, _⟩ := id S
  exact ev_methP ho hs sF_second (ea_1 ha) (fun _ _ _ _ _ h => h) fun H1 e1 Q q' => ⟨s, F, b, p, q, l, r, k, i, rfl, S.ex e1, ok, hq, hq', hk, fun g h1 h2 => q' _ _ (Ex.refl _) ⟨g, rfl, h1, h2⟩⟩
end
theorem scLoopFronts : FnScope ["self", "at", "rounds", "found", "turn", "rest", "longer"] ["self", "at", "rounds"] (defScope sLoopFronts) := ⟨rfl, rfl, rfl, by decide +kernel, rfl, by decide +kernel, by decide +kernel⟩
theorem loops_mono {m k n : Nat} {a c : Nat} (h : k ≤ n) (hm : m = a + n * (c + a)) : a + k * (c + a) ≤ m := by
  rw [hm]
  exact Nat.add_le_add_left (Nat.mul_le_mul_right _ h) _
theorem ok_loopFronts (Fn : Fun K "loop_fronts" "Selection.loop_fronts" sLoopFronts f fd) (T : Txt K mg D) (h1 : HasM P w K mg base D.S "first" 2 ["self", "at"] (spFirst K D)) (h2 : HasM P w K mg base D.S "second" 2 ["self", "at"] (spSecond K D))
    (hc : HasF P w K mg base "combined" 2 ["kind", "some", "others"] (spCombined K)) (hf : HasF P w K mg base "front_of" 1 ["pairs"] (spFrontOf K)) : FnOk P w K mg base CX0 3 f fd ["self", "at", "rounds"] (spLoopFronts K D) := by
  refine Fn.ok scLoopFronts (fun vs H Q E h => ?_) (fun cdv A outer s H vs Q E hr h => ?_)
  · obtain ⟨s, F, b, p, f, g, k, i, rfl, _⟩ := h
    rfl
  · obtain ⟨s0, F, b, p, f', g', k, i, rfl, S, ok, hz, hq, hk, hQ⟩ := h
    have nd := scLoopFronts.nd
    have hr1 : Room 1 _ := hr.mono (by decide)
    refine ⟨_, pss_cons (ps_set (i := 3) nd rfl (.inl rfl) (pe_lst (pa_cons (pe_m (pv 0) T.cS h1 hr (pa_cons (pv 1) pa_nil)) pa_nil)))
      (pss_cons (ps_for PassesOwn.never rfl (pi_range1 rfl T.range (pa_cons (pe_op op_sub (pv 2) pe_int) pa_nil)) (pg_name (i := 4) nd rfl (.inl rfl))
        (pss_cons (ps_set (i := 5) nd rfl (.inl rfl) (pe_f hc hr rfl (pa_cons (pe_ci T.SEQUENCE rfl) (pa_cons (pe_m (pv 0) T.cS h2 hr (pa_cons (pv 1) pa_nil)) (pa_cons (pe_ix ix_list (pv 3) (pe_un un_neg pe_int) (fun _ _ => rfl)) pa_nil)))))
        (pss_cons (ps_set (i := 6) nd rfl (.inl rfl) (pe_f hc hr rfl (pa_cons (pe_ci T.SEQUENCE rfl) (pa_cons (pe_m (pv 0) T.cS h1 hr (pa_cons (pv 1) pa_nil)) (pa_cons (pv 5) pa_nil)))))
        (pss_one (ps_app (pv 3) (pe_f hf hr1 rfl (pa_cons (pe_op op_cat (pe_m (pv 0) T.cS h1 hr (pa_cons (pv 1) pa_nil)) (pv 6)) pa_nil)))))))
      (pss_one (ps_ret (pv 3)))), ?_⟩
    obtain ⟨⟨dx, ap, hs, hp⟩, ft⟩ := id S
    obtain ⟨vF, hF, _⟩ := id ft
    have lz := latest_11 ok (node_small hz hq)
    have lz' : b.latest f' + (b.rounds - 1) * (b.latest g' + b.latest f') ≤ 5904900 := lz
    have tbf := front_tb b f'
    have tbg := front_tb b g'
    have mF : ∀ {ps : List Pr}, Mono fun v H2 => ∃ g, v = .ref g ∧ g ≠ F ∧ PrN K H2 g ps := fun v H1 H2 e h => let ⟨g, a, b, c⟩ := h; ⟨g, a, b, c.ex e⟩
    have evF : ∀ {σ : L2.St} {H' : Hp}, Ex H H' → σ[0]? = some (some (.ref s0)) → σ[1]? = some (some (nV i)) → EvQ (tMeth D.S "first" (spFirst K D) [] E0 (tVar 0) (tCons (tVar 1) tNil)) σ H' fun v H2 => ∃ g, v = .ref g ∧ g ≠ F ∧ PrN K H2 g (fr b f') := fun e h0 h1 =>
      EvP.q (ep_first (S.ex e) ok hq rfl hk (ev_var h0) (ev_var h1)) fun _ _ _ h => h
    have evS : ∀ {σ : L2.St} {H' : Hp}, Ex H H' → σ[0]? = some (some (.ref s0)) → σ[1]? = some (some (nV i)) → EvQ (tMeth D.S "second" (spSecond K D) [] E0 (tVar 0) (tCons (tVar 1) tNil)) σ H' fun v H2 => ∃ g, v = .ref g ∧ g ≠ F ∧ PrN K H2 g (fr b g') := fun e h0 h1 =>
      EvP.q (ep_second (S.ex e) ok hq rfl hk (ev_var h0) (ev_var h1)) fun _ _ _ h => h
    refine q_asgP (ep_lst1 (evF (Ex.refl _) rfl rfl)) fun v H1 e1 h => ?_
    obtain ⟨u, l, H0, rfl, nl, nl0, e01, e02, ⟨g0, rfl, gF, gN⟩, hl⟩ := h
    have g0l : g0 ≠ l := by
      obtain ⟨us, h3, _⟩ := gN
      exact ne_of_none h3 nl0
    replace gN := gN.ex e02
    refine ⟨_, rfl, ?_⟩
    refine ⟨_, _, rfl, rfl, _, rfl, by have := ok.r3; omega, by have := ok.r1; have := ok.r3; omega, ?_⟩
    have en : ((b.rounds : Int) - 1).toNat = b.rounds - 1 := by omega
    rw [en]
    refine for_range (lo := 0) (n := b.rounds - 1) (fun t σ H' => ∃ u v w, σ = [some (.ref s0), some (nV i), some (nV b.rounds), some (.ref l), u, v, w] ∧ Ex H H' ∧ ∃ gs : List Addr, H' l = some (.lst (gs.map V.ref)) ∧
      Paired (fun g f => g ≠ l ∧ g ≠ F ∧ PrN K H' g (f.map proj)) gs ((List.range (t + 1)).map fun k => loops (b.front f') (b.front g') k)) ?_ (fun t σ H' ht h => ?_) (fun σ H' h => ?_)
    · exact ⟨none, none, none, rfl, e1, [g0], hl, .cons ⟨g0l, gF, gN⟩ .nil⟩
    · obtain ⟨u, v, w', rfl, e, gs, hl', hgs⟩ := h
      have et : V.int (0 + (t : Int)) = nV t := by show V.int _ = V.int _; congr 1; omega
      rw [et]
      have hlast : ((List.range (t + 1)).map fun k => loops (b.front f') (b.front g') k).getLast? = some (loops (b.front f') (b.front g') t) := by
        rw [List.range_succ, List.map_append, List.getLast?_append]; rfl
      obtain ⟨gl, hgl, _, glF, glN⟩ := paired_last hgs hlast
      have tbt := loops_tb tbf tbg t
      have bt1 : b.latest f' + t * (b.latest g' + b.latest f') + (b.latest g' + b.latest f') ≤ 5904900 := by
        have : (t + 1) * (b.latest g' + b.latest f') ≤ (b.rounds - 1) * (b.latest g' + b.latest f') := Nat.mul_le_mul_right _ (by omega)
        rw [Nat.succ_mul] at this
        omega
      -- rest
      refine gcall3 (Ev.q (ev_c (v := nV 2))) mono_eq (evS e rfl rfl) mF (Ev.q (v := .ref gl) (ev_ixLast (ev_var rfl) ev_m1 (sq_of hl') (by rw [List.getLast?_map, hgl]; rfl))) fun x y z H2 e2 hx hy hz' => ?_
      subst hx hz'
      obtain ⟨gs2, rfl, _, gs2N⟩ := hy
      refine ⟨2, gs2, gl, _, _, 5904900, rfl, gs2N.toL, (glN.ex e2).toL, fun x hx => ?_, by decide, fun H3 rr ys nrr e3 hys hF1 => ?_⟩
      · obtain ⟨a, ha, c, hc', rfl⟩ := mem_prods.mp hx
        have q1 := fr_tb b g' a ha
        have q2 := proj_tb tbt c hc'
        show a.1 + c.1 ≤ _
        omega
      obtain rfl := hF1.uniq1 (seqs_front _ _)
      have tbr : ∀ x ∈ (seqs (b.front g') (loops (b.front f') (b.front g') t)).map proj, x.1 ≤ b.latest g' + (b.latest f' + t * (b.latest g' + b.latest f')) := proj_tb (seqs_tb tbg tbt)
      have e23 := e2.trans e3
      -- longer
      refine gcall3 (Ev.q (ev_c (v := nV 2))) mono_eq (evF (e.trans e23) rfl rfl) mF (Ev.q (v := .ref rr) (ev_var rfl)) fun x y z H4 e4 hx hy hz' => ?_
      subst hx hz'
      obtain ⟨gs1, rfl, _, gs1N⟩ := hy
      refine ⟨2, gs1, rr, _, _, 5904900, rfl, gs1N.toL, (hys.ex e4).toL, fun x hx => ?_, by decide, fun H5 lg ys nlg e5 hlg hF2 => ?_⟩
      · obtain ⟨a, ha, c, hc', rfl⟩ := mem_prods.mp hx
        have q1 := fr_tb b f' a ha
        have q2 := tbr c hc'
        show a.1 + c.1 ≤ _
        omega
      obtain rfl := hF2.uniq1 (seqs_front _ _)
      have tbl : ∀ x ∈ (seqs (b.front f') (seqs (b.front g') (loops (b.front f') (b.front g') t))).map proj, x.1 ≤ 5904900 := fun x hx => by
        have := proj_tb (seqs_tb tbf (seqs_tb tbg tbt)) x hx
        omega
      have e25 := (e23.trans e4).trans e5
      have hl5 := e25 _ _ hl'
      -- append
      have lenl : ((seqs (b.front f') (seqs (b.front g') (loops (b.front f') (b.front g') t))).map proj).length ≤ 5904901 := inc_short (best_inc _) tbl
      have lenf : (fr b f').length ≤ 5904901 := inc_short (front_inc b f') fun x hx => by have := fr_tb b f' x hx; omega
      have gsl : gs.length < sizeLine := by
        have := Paired.length hgs
        rw [List.length_map, List.length_range] at this
        have := ok.r3
        have : sizeLine = 16777216 := sizeLine_eq
        omega
      refine z_appP (P := fun v H1 H2 => ∃ r, v = .ref r ∧ H1 r = none ∧ PrN K H2 r ((loops (b.front f') (b.front g') (t + 1)).map proj)) hl5 (ev_var rfl) ?_ (by rw [List.length_map]; exact gsl) (fun v H1 H2 H3 a h => let ⟨r, h1, h2, h3⟩ := h; ⟨r, h1, fresh_back a h2, h3⟩) fun v H6 e6 h6 => ?_
      · intro H6 e6 Q' q'
        refine ep_cat (P := fun xs H => Prs K H xs (fr b f')) (R := fun xs H => Prs K H xs ((seqs (b.front f') (seqs (b.front g') (loops (b.front f') (b.front g') t))).map proj)) (fun H7 e7 Q2 q2 => evF ((e.trans e25).trans e6) rfl rfl H7 e7 Q2 fun v H8 e8 ⟨g, ev, _, us, hg1, hg2⟩ => q2 v H8 e8 ⟨g, us, ev, hg1, hg2⟩)
          (fun H7 e7 Q2 q2 => (ev_var rfl : Ev (tVar 6) _ H6 (.ref lg)) H7 e7 Q2 fun H8 e8 => by
            obtain ⟨us, hg1, hg2⟩ := hlg.ex ((e6.trans e7).trans e8)
            exact q2 _ H8 e8 ⟨lg, us, rfl, hg1, hg2⟩)
          (fun xs ys H1 H2 h1 h2 => by have := Paired.length h1; have := Paired.length h2; have : sizeLine = 16777216 := sizeLine_eq; omega) (fun xs H1 H2 e h => Prs.ex e h) (fun xs H1 H2 e h => Prs.ex e h) H6 (Ex.refl _) _ fun v H7 e7 h7 => ?_
        obtain ⟨lc, xs, ys, rfl, nlc, hlc, hxs, hys2⟩ := h7
        refine ⟨lc, _, rfl, ⟨_, sq_of hlc, paired_app hxs hys2⟩, ?_, fun H8 r zs nr e8 hr8 hF8 => ?_⟩
        · rw [List.length_append]
          have : sizeLine = 16777216 := sizeLine_eq
          omega
        · have hu : zs = (loops (b.front f') (b.front g') (t + 1)).map proj := by
            rw [loops_succ]
            refine hF8.uniq1 ?_
            have := best_front (b.front f' ++ seqs (b.front f') (seqs (b.front g') (loops (b.front f') (b.front g') t)))
            rw [List.map_append] at this
            exact this
          subst hu
          exact q' _ _ (e7.trans e8) ⟨r, rfl, fresh_back e7 nr, hr8⟩
      · obtain ⟨r, rfl, nr, hr6⟩ := h6
        have e26 := e25.trans e6
        have nrl : r ≠ l := (ne_of_none hl5 nr).symm
        have nrF : r ≠ F := (ne_of_none (e.trans e25 _ _ hF) nr).symm
        refine ⟨_, _, _, rfl, (e.trans e26).mut nl, gs ++ [r], by rw [List.map_append]; exact upd_same, ?_⟩
        rw [List.range_succ (n := t + 1), List.map_append]
        exact Paired.snoc (Paired.mono (fun g f q => ⟨q.1, q.2.1, (q.2.2.ex e26).upd (e6 _ _ hl5) trivial q.1⟩) hgs) ⟨nrl, nrF, hr6.upd (e6 _ _ hl5) trivial nrl⟩
    · obtain ⟨u, v, w', rfl, e, gs, hl', hgs⟩ := h
      rw [show b.rounds - 1 + 1 = b.rounds by have := ok.r1; omega] at hgs
      refine s_ret (ev_var rfl) fun H2 e2 => hQ H2 l (e.trans e2) ?_ nl
      exact ⟨l, gs, rfl, (ne_of_none hF nl).symm, e2 _ _ hl', Paired.mono (fun _ _ q => ⟨q.2.1, q.2.2.ex e2⟩) hgs⟩
section
variable {σ : L2.St} {H H1 : Hp} {F : Addr} {te : TE} {D' : Ends} {Q : VK} {uF : HO}
/-- a new list of one pair, a front -/
theorem eq_one {x : Pr} (hF : H F = some uF) (h : EvQ te σ H fun v H2 => Prt K H2 v x) : EvQ (tLst (tCons te tNil)) σ H fun v H2 => ∃ g, v = .ref g ∧ g ≠ F ∧ PrN K H2 g [x] := fun H1 e Q q =>
  ep_lst1 h H1 e Q fun u H2 e2 ⟨v, l, H0, eu, nl, nl0, e01, e02, hp, hl⟩ => q u H2 e2 ⟨l, eu, (ne_of_none (e _ _ hF) nl).symm, [v], hl, .cons (hp.ex e02) .nil⟩
theorem ret_one {f : List Point} (hF : H F = some uF) (e : Ex H H1) (h : EvQ te σ H1 fun v H2 => ∃ g, v = .ref g ∧ g ≠ F ∧ PrN K H2 g (f.map proj)) (hrt : D'.rt = Q) (hQ : ∀ H' l, Ex H H' → LevOk K H' F [f] (.ref l) → H l = none → Q (.ref l) H') :
    tRet (tLst (tCons te tNil)) D' σ H1 := ep_lst1 h H1 (Ex.refl _) _ fun u H2 e2 ⟨v, l, H0, eu, nl, nl0, e01, e02, ⟨g, ev, gF, gN⟩, hl⟩ => by
  subst eu ev
  rw [hrt]
  exact hQ H2 l (e.trans e2) ⟨l, [g], rfl, (ne_of_none (e _ _ hF) nl).symm, hl, .cons ⟨gF, gN.ex e02⟩ .nil⟩ (fresh_back e nl)
end
theorem lv_one {b : Book} {q : Wf.P} (h : kind q ≠ 5) : lv b q = [b.front q] := by
  cases q <;> first | rfl | exact absurd rfl h
theorem scFrontsOf : FnScope ["self", "at", "times", "kind"] ["self", "at", "times"] (defScope sFrontsOf) := ⟨rfl, rfl, rfl, by decide +kernel, rfl, by decide +kernel, by decide +kernel⟩
theorem ok_frontsOf (Fn : Fun K "fronts_of" "Selection.fronts_of" sFrontsOf f fd) (T : Txt K mg D) (h1 : HasM P w K mg base D.S "first" 2 ["self", "at"] (spFirst K D)) (h2 : HasM P w K mg base D.S "second" 2 ["self", "at"] (spSecond K D))
    (hc : HasF P w K mg base "combined" 2 ["kind", "some", "others"] (spCombined K)) (hf : HasF P w K mg base "front_of" 1 ["pairs"] (spFrontOf K)) (hp : HasM P w K mg base D.T "pair_of" 1 ["self", "step"] (spPairOf K D))
    (hl : HasM P w K mg base D.S "loop_fronts" 3 ["self", "at", "rounds"] (spLoopFronts K D)) : FnOk P w K mg base CX0 4 f fd ["self", "at", "times"] (spFrontsOf K D) := by
  refine Fn.ok scFrontsOf (fun vs H Q E h => ?_) (fun cdv A outer s H vs Q E hr h => ?_)
  · obtain ⟨s, t, F, b, p, q, k, i, rfl, _⟩ := h
    rfl
  · obtain ⟨s0, t, F, b, p, q, k, i, rfl, S, ht, ok, rt, hz, hq, hk, hQ⟩ := h
    have nd := scFrontsOf.nd
    have hr1 : Room 1 _ := hr.mono (by decide)
    have hr2 : Room 2 _ := hr.mono (by decide)
    refine ⟨_, pss_cons (ps_set (i := 3) nd rfl (.inl rfl) (pe_ix ix_list (pe_fld (pe_fld (pv 0) rfl) rfl) (pv 1) (fun _ _ => rfl)))
      (pss_cons (ps_if (pt_cmpR op_eq (pv 3) (pe_ci T.STEP rfl) (nomark _)) (pss_one (ps_ret (pe_lst (pa_cons (pe_lst (pa_cons (pe_m (pv 2) T.cT hp hr1 (pa_cons (pe_ix ix_list (pe_fld (pe_fld (pv 0) rfl) rfl) (pv 1) (fun _ _ => rfl)) pa_nil)) pa_nil)) pa_nil)))) pss_nil)
      (pss_cons (ps_if (pt_cmpR op_eq (pv 3) (pe_ci T.EMPTY rfl) (nomark _)) (pss_one (ps_ret (pe_lst (pa_cons (pe_lst (pa_cons (pe_glob (v := .ref D.nothing) rfl T.gNothing rfl) pa_nil)) pa_nil)))) pss_nil)
      (pss_cons (ps_if (pt_cmpR op_eq (pv 3) (pe_ci T.CHOICE rfl) (nomark _)) (pss_one (ps_ret (pe_lst (pa_cons (pe_f hf hr1 rfl (pa_cons (pe_op op_cat (pe_m (pv 0) T.cS h1 hr2 (pa_cons (pv 1) pa_nil)) (pe_m (pv 0) T.cS h2 hr2 (pa_cons (pv 1) pa_nil))) pa_nil)) pa_nil)))) pss_nil)
      (pss_cons (ps_if (pt_cmpR op_eq (pv 3) (pe_ci T.LOOP rfl) (nomark _)) (pss_one (ps_ret (pe_m (pv 0) T.cS hl hr (pa_cons (pv 1) (pa_cons (pe_fld (pv 2) rfl) pa_nil))))) pss_nil)
      (pss_one (ps_ret (pe_lst (pa_cons (pe_f hc hr2 rfl (pa_cons (pv 3) (pa_cons (pe_m (pv 0) T.cS h1 hr2 (pa_cons (pv 1) pa_nil)) (pa_cons (pe_m (pv 0) T.cS h2 hr2 (pa_cons (pv 1) pa_nil)) pa_nil)))) pa_nil)))))))), ?_⟩
    obtain ⟨⟨dx, ap, hs, hpr⟩, ft⟩ := id S
    obtain ⟨vF, hF, _⟩ := id ft
    obtain ⟨_, dp, pk, ps, pc, hpi, _, _, _, hpk, hps, hpc⟩ := id hpr
    obtain ⟨_, dt, lt, ut, hti, _, htl, htu⟩ := id ht
    have mF : ∀ {ps : List Pr}, Mono fun v H2 => ∃ g, v = .ref g ∧ g ≠ F ∧ PrN K H2 g ps := fun v H1 H2 e h => let ⟨g, a, b, c⟩ := h; ⟨g, a, b, c.ex e⟩
    refine q_asg (ev_ixL (ev_fld (ev_fld (ev_var rfl) hs T.cS T.sProcess sF_process) hpi T.cP T.pKinds pF_kinds) (ev_var rfl) hpk (nl_get (kinds_get hq))) fun H1 e1 => ?_
    refine q_when (et_cmp (ev_var rfl) ev_zero rv_eqN) (fun hb H2 e2 => ?_) (fun hb H2 e2 => ?_)
    · obtain ⟨ac, rfl⟩ := act_of (of_decide_eq_true hb)
      have e12 := e1.trans e2
      refine ret_one (f := b.front (.act ac)) hF e12 (eq_one (e12 _ _ hF) fun H3 e3 Q' q' => ?_) rfl hQ
      have e13 := e12.trans e3
      refine gmeth (ev_var rfl) (e13 _ _ hti) (tF_no (by decide +kernel) (by decide +kernel)) (ea_1 (ev_ixL (ev_fld (ev_fld (ev_var rfl) (e13 _ _ hs) T.cS T.sProcess sF_process) (e13 _ _ hpi) T.cP T.pSteps pF_steps) (ev_var rfl) (hps.ex e13) (nl_get (steps_get hq)))) fun H4 e4 => ?_
      exact ⟨t, b, ac, rfl, ht.ex (e13.trans e4), ok, right_node p rt hq, fun v hv => q' v H4 e4 hv⟩
    have k0 := of_decide_eq_false hb
    have e12 := e1.trans e2
    refine q_when (et_cmp (ev_var rfl) ev_one rv_eqN) (fun hb H3 e3 => ?_) (fun hb H3 e3 => ?_)
    · have := skip_of (of_decide_eq_true hb)
      subst this
      have e13 := e12.trans e3
      exact ret_one (f := b.front .skip) hF e13 (eq_one (e13 _ _ hF) fun H4 e4 Q' q' => q' _ H4 (Ex.refl _) ⟨D.nothing, rfl, T.nothing H4⟩) rfl hQ
    have k1 := of_decide_eq_false hb
    have e13 := e12.trans e3
    obtain ⟨l, r, hq'⟩ : ∃ l r, kids q = some (l, r) := by
      cases z : kids q with
      | none => have := kids_kind.mp z; omega
      | some y => exact ⟨y.1, y.2, rfl⟩
    have zq := node_small hz hq
    have szl := size_of hq'
    have zl : l.size ≤ 11 := by omega
    have zr : r.size ≤ 11 := by omega
    have evF : ∀ {σ : L2.St} {H' : Hp}, Ex H H' → σ[0]? = some (some (.ref s0)) → σ[1]? = some (some (nV i)) → EvQ (tMeth D.S "first" (spFirst K D) [] E0 (tVar 0) (tCons (tVar 1) tNil)) σ H' fun v H2 => ∃ g, v = .ref g ∧ g ≠ F ∧ PrN K H2 g (fr b l) := fun e h0 h1 =>
      EvP.q (ep_first (S.ex e) ok hq hq' hk (ev_var h0) (ev_var h1)) fun _ _ _ h => h
    have evS : ∀ {σ : L2.St} {H' : Hp}, Ex H H' → σ[0]? = some (some (.ref s0)) → σ[1]? = some (some (nV i)) → EvQ (tMeth D.S "second" (spSecond K D) [] E0 (tVar 0) (tCons (tVar 1) tNil)) σ H' fun v H2 => ∃ g, v = .ref g ∧ g ≠ F ∧ PrN K H2 g (fr b r) := fun e h0 h1 =>
      EvP.q (ep_second (S.ex e) ok hq hq' hk (ev_var h0) (ev_var h1)) fun _ _ _ h => h
    refine q_when (et_cmp (ev_var rfl) (ev_c (v := nV 3)) rv_eqN) (fun hb H4 e4 => ?_) (fun hb H4 e4 => ?_)
    · have c3 := of_decide_eq_true hb
      obtain rfl : q = .alt l r := by
        cases q <;> simp [kind] at c3
        simp [kids] at hq'
        rw [hq'.1, hq'.2]
      have e14 := e13.trans e4
      refine ret_one (f := b.front (.alt l r)) hF e14 (fun H5 e5 Q' q' => ?_) rfl hQ
      have e15 := e14.trans e5
      refine ep_cat (P := fun xs H => Prs K H xs (fr b l)) (R := fun xs H => Prs K H xs (fr b r)) (fun H7 e7 Q2 q2 => evF e15 rfl rfl H7 e7 Q2 fun v H8 e8 ⟨g, ev, _, us, hg1, hg2⟩ => q2 v H8 e8 ⟨g, us, ev, hg1, hg2⟩)
        (fun H7 e7 Q2 q2 => evS e15 rfl rfl H7 e7 Q2 fun v H8 e8 ⟨g, ev, _, us, hg1, hg2⟩ => q2 v H8 e8 ⟨g, us, ev, hg1, hg2⟩)
        (fun xs ys H1 H2 h1 h2 => by have := Paired.length h1; have := Paired.length h2; have := fr_len ok zl; have := fr_len ok zr; have : sizeLine = 16777216 := sizeLine_eq; omega) (fun xs H1 H2 e h => Prs.ex e h) (fun xs H1 H2 e h => Prs.ex e h) H5 (Ex.refl _) _ fun v H6 e6 h6 => ?_
      obtain ⟨lc, xs, ys, rfl, nlc, hlc, hxs, hys2⟩ := h6
      refine ⟨lc, _, rfl, ⟨_, sq_of hlc, paired_app hxs hys2⟩, ?_, fun H7 g zs ng e7 hg hF7 => ?_⟩
      · rw [List.length_append]
        have := fr_len ok zl
        have := fr_len ok zr
        have : sizeLine = 16777216 := sizeLine_eq
        omega
      · have hu : zs = (b.front (.alt l r)).map proj := by
          refine hF7.uniq1 ?_
          have := best_front (b.front l ++ b.front r)
          rw [List.map_append] at this
          exact this
        subst hu
        exact q' _ _ (e6.trans e7) ⟨g, rfl, (ne_of_none (e15.trans e6 _ _ hF) ng).symm, hg⟩
    have k3 := of_decide_eq_false hb
    have e14 := e13.trans e4
    refine q_when (et_cmp (ev_var rfl) (ev_c (v := nV 5)) rv_eqN) (fun hb H5 e5 => ?_) (fun hb H5 e5 => ?_)
    · have c5 := of_decide_eq_true hb
      obtain rfl : q = .loop l r := by
        cases q <;> simp [kind] at c5
        simp [kids] at hq'
        rw [hq'.1, hq'.2]
      have e15 := e14.trans e5
      refine gmeth (ev_var rfl) (e15 _ _ hs) sF_loop_fronts (ea_2 (ev_var rfl) (ev_fld (ev_var rfl) (e15 _ _ hti) T.cT T.tRounds tF_rounds)) fun H6 e6 => ?_
      have e16 := e15.trans e6
      exact ⟨s0, F, b, p, l, r, k, i, rfl, S.ex e16, ok, hz, hq, hk, fun H7 g e7 hg ng => hQ H7 g (e16.trans e7) hg (fresh_back e16 ng)⟩
    have k5 := of_decide_eq_false hb
    rw [lv_one k5] at hQ
    have e15 := e14.trans e5
    refine ret_one hF e15 (fun H6 e6 Q' q' => ?_) rfl hQ
    have e16 := e15.trans e6
    refine gcall3 (Ev.q (v := nV (kind q)) (ev_var rfl)) mono_eq (evF e16 rfl rfl) mF (evS e16 rfl rfl) fun x y z H7 e7 hx hy hz' => ?_
    subst hx
    obtain ⟨g1, rfl, _, g1N⟩ := hy
    obtain ⟨g2, rfl, _, g2N⟩ := hz'
    refine ⟨kind q, g1, g2, _, _, b.latest q, rfl, g1N.toL, g2N.toL, fun x hx => ?_, Nat.le_trans (latest_11 ok zq) (by decide), fun H8 g ys ng e8 hg hF8 => ?_⟩
    · obtain ⟨a, ha, c, hc', rfl⟩ := mem_prods.mp hx
      have q1 := fr_tb b l a ha
      have q2 := fr_tb b r c hc'
      cases q <;> simp [kids] at hq' <;> obtain ⟨rfl, rfl⟩ := hq'
      · show a.1 + c.1 ≤ b.latest _ + b.latest _
        omega
      · exact absurd rfl k3
      · show max a.1 c.1 ≤ max (b.latest _) (b.latest _)
        omega
      · exact absurd rfl k5
    · have hu : ys = (b.front q).map proj := by
        cases q <;> simp [kids] at hq' <;> obtain ⟨rfl, rfl⟩ := hq'
        · exact hF8.uniq1 (seqs_front _ _)
        · exact absurd rfl k3
        · exact hF8.uniq1 (sides_front _ _)
        · exact absurd rfl k5
      subst hu
      exact q' _ _ (e7.trans e8) ⟨g, rfl, (ne_of_none (e16.trans e7 _ _ hF) ng).symm, hg⟩
end
end Fr
/-! selecting: Selection.__init__. -/
namespace Fr
open PySem PySem.Spec PyProof.Rows L2 Evl
open Wf06 (Book Point seqs sides loops best)
def spSInit (K : PySem.W.Frag) (D : Ad) : Sp := fun vs H Q _ => ∃ (s dx ap t : Addr) (p : Wf.P) (b : Book), vs = [.ref s, .ref ap, .ref t] ∧ H s = some (.ins D.S dx []) ∧ ProcAt K D.P G0 H ap p ∧ TimesAt K D.T G0 H t b ∧ BookOk b ∧ p.right = true ∧ p.size ≤ 11 ∧
  ∀ H' F, SelAt K D H' s F b p 0 → (∀ b o, H b = some o → b ≠ s → H' b = some o) → Q .non H'
section
variable {P : Program} {w : World} {K : PySem.W.Frag} {mg : Str → Option Value} {base : Heap} {D : Ad} {f : Addr} {fd : FuncData}
theorem scSInit : FnScope ["self", "process", "times", "at", "kind"] ["self", "process", "times"] (defScope sSInit) := ⟨rfl, rfl, rfl, by decide +kernel, rfl, by decide +kernel, by decide +kernel⟩
theorem ok_sinit (Fn : Fun K "__init__" "Selection.__init__" sSInit f fd) (T : Txt K mg D) (hz : HasM P w K mg base D.P "size" 1 ["self"] (spSize K D)) (hf : HasM P w K mg base D.S "fronts_of" 4 ["self", "at", "times"] (spFrontsOf K D)) :
    FnOk P w K mg base CX0 5 f fd ["self", "process", "times"] (spSInit K D) := by
  refine Fn.ok scSInit (fun vs H Q E h => ?_) (fun cdv A outer s H vs Q E hr h => ?_)
  · obtain ⟨s, dx, ap, t, p, b, rfl, _⟩ := h
    rfl
  · obtain ⟨s0, dx, ap, t, p, b, rfl, hs, hp, ht, ok, rt, zp, q⟩ := h
    have nd := scSInit.nd
    have hr1 : Room 1 _ := hr.mono (by decide)
    refine ⟨_, pss_cons (ps_fld (pv 0) (pv 1) rfl)
      (pss_cons (ps_fld (pv 0) (pe_lc (own := [("kind", 4)]) (g := gName 4) (tt := tYes) rfl nd (pi_list (pe_fld (pv 1) rfl)) (blkOk_by (own := [("kind", 4)]) (N := ["self", "process", "times", "at", "kind"]) (sc := defScope sSInit) (by decide +kernel))
          (fun _ _ _ _ _ => pg_name (i := 4) nd rfl (Or.inl rfl)) (fun _ _ _ _ _ => pts_nil) (fun _ _ _ _ _ => pe_lst pa_nil)) rfl)
      (pss_one (ps_for PassesOwn.never rfl (pi_revR rfl T.reversed (prg_1 rfl T.range (pe_m0 (pv 1) T.cP hz hr1))) (pg_name (i := 3) nd rfl (.inl rfl))
        (pss_one (ps_asg (pe_m (pv 0) T.cS hf hr (pa_cons (pv 3) (pa_cons (pv 2) pa_nil))) (pg_sub (pe_fld (pv 0) rfl) (pv 3) set_list)))))), ?_⟩
    obtain ⟨_, dp, pk, ps, pc, hpi, _, _, _, hpk, hps, hpc⟩ := id hp
    obtain ⟨_, dt, lt, ut, hti, _, htl, htu⟩ := id ht
    have nap : ap ≠ s0 := ne_of hpi hs (by intro z; have z2 := (HO.ins.inj z).2.2; cases z2)
    have nat' : t ≠ s0 := ne_of hti hs (by intro z; have z2 := (HO.ins.inj z).2.2; cases z2)
    refine ⟨_, rfl, _, rfl, s0, _, dx, _, rfl, hs, T.cS, T.sProcess, (by show 0 < 1000; decide), ?_⟩
    generalize hH3 : upd H s0 (HO.ins D.S dx (putF "process" (V.ref ap) [])) = H3
    have h3s : H3 s0 = some (HO.ins D.S dx (putF "process" (V.ref ap) [])) := by rw [← hH3]; exact upd_same
    have fr3 : ∀ b o, H b = some o → b ≠ s0 → H3 b = some o := fun b o hb nb => by rw [← hH3, upd_ne nb]; exact hb
    have no3 : ∀ b, H3 b = none → H b = none ∧ b ≠ s0 := fun b hb => by
      have nb : b ≠ s0 := fun e => by rw [e, h3s] at hb; cases hb
      rw [← hH3, upd_ne nb] at hb
      exact ⟨hb, nb⟩
    clear hH3
    have hp3 : ProcAt K D.P G0 H3 ap p := hp.fr hs nap fr3
    obtain ⟨_, dp, pk, ps, pc, hpi, _, _, _, hpk, hps, hpc⟩ := id hp3
    refine ⟨_, rfl, ap, _, dp, _, _, rfl, hpi, T.cP, T.pKinds, pF_kinds, pk, rfl, ⟨_, hpk⟩, fun F nF => ?_⟩
    refine lc_list (K := K) (a := pk) (xs := (kinds p).map nV) (fun m H2 => Ex H3 H2 ∧ ∃ cs : List V, H2 F = some (.lst cs) ∧ cs.length = m) ⟨Ex.new nF, [], upd_same, rfl⟩ (fun m H2 _ h => hpk.ex h.1) (fun m y H2 hm h => ?_) (fun H4 h => ?_)
    · obtain ⟨e2, cs, hcs, hcl⟩ := h
      have hmp : m < p.size := by
        have := (List.getElem?_eq_some_iff.mp hm).1
        rw [List.length_map, kinds_len] at this
        exact this
      refine ⟨rfl, ?_⟩
      exact ⟨(by show 0 ≤ sizeLine; decide), fun c nc => ⟨cs, Ex.new nc _ _ hcs, by have : sizeLine = 16777216 := sizeLine_eq; omega, (e2.trans (Ex.new nc)).mut nF, cs ++ [.ref c], upd_same, by rw [List.length_append, hcl]; rfl⟩⟩
    · obtain ⟨e, cs, hcs, hcl⟩ := h
      rw [List.length_map, kinds_len] at hcl
      obtain ⟨nFH, nFs⟩ := no3 F nF
      refine ⟨_, rfl, s0, _, dx, _, rfl, e _ _ h3s, T.cS, T.sFronts, (by show 1 < 1000; decide), ?_⟩
      have hs5 : upd H4 s0 (.ins D.S dx (putF "fronts" (.ref F) (putF "process" (V.ref ap) []))) s0 = some (.ins D.S dx (sF ap F)) := by rw [upd_same, sF_put]
      have ft5 : FTab K (upd H4 s0 (.ins D.S dx (putF "fronts" (.ref F) (putF "process" (V.ref ap) [])))) F b p p.size := ⟨cs, by rw [upd_ne nFs]; exact hcs, .start hcl⟩
      have fr5 : ∀ b o, H b = some o → b ≠ s0 → upd H4 s0 (.ins D.S dx (putF "fronts" (.ref F) (putF "process" (V.ref ap) []))) b = some o := fun b o hb nb => by
        rw [upd_ne nb]; exact e _ _ (fr3 b o hb nb)
      generalize upd H4 s0 (.ins D.S dx (putF "fronts" (.ref F) (putF "process" (V.ref ap) []))) = H5 at hs5 ft5 fr5 ⊢
      have pFr : ∀ {H'}, (∀ b o, H b = some o → b ≠ s0 → H' b = some o) → ProcAt K D.P G0 H' ap p ∧ TimesAt K D.T G0 H' t b := fun e => ⟨hp.fr hs nap e, ht.fr hs nat' e⟩
      have evZ : ∀ {σ : L2.St} {H' : Hp} {i : Nat} {a : Addr} {p : Wf.P}, σ[i]? = some (some (.ref a)) → ProcAt K D.P G0 H' a p → Ev (tMeth D.P "size" (spSize K D) [] E0 (tVar i) tNil) σ H' (nV p.size) := fun h0 hp => by
        obtain ⟨_, dx, k, st, c, hi, _⟩ := id hp
        exact ev_methV (ev_var h0) hi pF_size ea_nil fun H2 e2 Q q => ⟨_, _, rfl, hp.ex e2, q H2 (Ex.refl _)⟩
      refine s_rev (evZ rfl (pFr fr5).1) (by omega) (fun k σ H' => ∃ u v, σ = [some (.ref s0), some (.ref ap), some (.ref t), u, v] ∧ H' s0 = some (.ins D.S dx (sF ap F)) ∧ FTab K H' F b p k ∧ ∀ b o, H b = some o → b ≠ s0 → H' b = some o) (fun H6 e6 => ?_) (fun k σ H' hk h => ?_) (fun σ H' h => ?_)
      · exact ⟨none, none, rfl, e6 _ _ hs5, ft5.ex e6, fun b o hb nb => e6 _ _ (fr5 b o hb nb)⟩
      · obtain ⟨u, v, rfl, hs', ft, fr⟩ := h
        obtain ⟨x, hx⟩ := node_at p hk
        refine gmeth (ev_var rfl) hs' sF_fronts_of (ea_2 (ev_var rfl) (ev_var rfl)) fun H6 e6 => ?_
        obtain ⟨P1, P2⟩ := pFr (H' := H6) fun b o hb nb => e6 _ _ (fr b o hb nb)
        refine ⟨s0, t, F, b, p, x, k + 1, k, rfl, ⟨⟨dx, ap, e6 _ _ hs', P1⟩, ft.ex e6⟩, P2, ok, rt, zp, hx, Nat.le_refl _, fun H7 l e7 hl nl => ?_⟩
        have e67 := e6.trans e7
        have ft7 := ft.ex e67
        obtain ⟨us, hus, hfl⟩ := id ft7
        refine ⟨_, rfl, s0, _, dx, _, _, rfl, e67 _ _ hs', T.cS, T.sFronts, sF_fronts, _, rfl, F, us, _, k, rfl, rfl, hus, ixN_of (by rw [hfl.1]; exact hk), ?_⟩
        refine ⟨_, v, rfl, by rw [upd_ne nFs.symm]; exact e67 _ _ hs', ft7.put hx hus hl, fun b o hb nb => ?_⟩
        rw [upd_ne (fun z : b = F => by rw [z, nFH] at hb; cases hb)]
        exact e67 _ _ (fr b o hb nb)
      · obtain ⟨u, v, rfl, hs', ft, fr⟩ := h
        exact q H' F ⟨⟨dx, ap, hs', (pFr fr).1⟩, ft⟩ fr
end
end Fr
/-! selecting: run_of, loop_run. -/
namespace Fr
open PySem PySem.Spec PyProof.Rows L2 Evl
open Wf06 (Book Point seqs sides loops best)
/-- a list of numbers, tracked -/
def NN (ns : List Nat) : V → Hp → Prop := fun v H => ∃ a, v = .ref a ∧ H a = some (.lst (ns.map nV))
theorem NN.m {ns : List Nat} : Mono (NN ns) := fun v H1 H2 e h => let ⟨a, h1, h2⟩ := h; ⟨a, h1, e _ _ h2⟩
def NNf (ns : List Nat) : V → Hp → Hp → Prop := fun v H1 H2 => ∃ a, v = .ref a ∧ H1 a = none ∧ H2 a = some (.lst (ns.map nV))
section
variable {K : PySem.W.Frag} {σ : L2.St} {H H' : Hp} {ta tb te : TE}
theorem NNf.q {ns : List Nat} (h : EvP te σ H (NNf ns)) : EvQ te σ H (NN ns) := EvP.q h fun v H1 H2 ⟨a, h1, _, h3⟩ => ⟨a, h1, h3⟩
theorem ep_catN {ns ms : List Nat} (h1 : EvQ ta σ H (NN ns)) (h2 : EvQ tb σ H (NN ms)) (hz : ns.length + ms.length ≤ sizeLine) : EvP (tOp rCat ta tb) σ H (NNf (ns ++ ms)) := fun H1 e Q q =>
  ep_cat (P := fun xs _ => xs = ns.map nV) (R := fun ys _ => ys = ms.map nV) (fun H1 e Q q => h1 H1 e Q fun v H2 e2 ⟨a, ev, h⟩ => q v H2 e2 ⟨a, _, ev, h, rfl⟩) (fun H1 e Q q => h2 H1 e Q fun v H2 e2 ⟨a, ev, h⟩ => q v H2 e2 ⟨a, _, ev, h, rfl⟩)
    (fun xs ys H1 H2 h1 h2 => by rw [h1, h2, List.length_map, List.length_map]; exact hz) (fun _ _ _ _ h => h) (fun _ _ _ _ h => h) H1 e Q fun v H2 e2 ⟨l, xs, ys, ev, nl, hl, hx, hy⟩ => q v H2 e2 ⟨l, ev, nl, by rw [hl, hx, hy, List.map_append]⟩
theorem ep_lstN1 {n : Nat} (h : Ev te σ H (nV n)) : EvP (tLst (tCons te tNil)) σ H (NNf [n]) := fun H1 e Q q => el_lst (ea_1 h) (by decide : 1 ≤ 100000) H1 e Q fun p H2 np e2 hp => q _ H2 e2 ⟨p, rfl, np, hp⟩
theorem ep_lstN2 {n m : Nat} (h : Ev ta σ H (nV n)) (h2 : Ev tb σ H (nV m)) : EvP (tLst (tCons ta (tCons tb tNil))) σ H (NNf [n, m]) := fun H1 e Q q => el_lst (ea_2 h h2) (by decide : 2 ≤ 100000) H1 e Q fun p H2 np e2 hp => q _ H2 e2 ⟨p, rfl, np, hp⟩
theorem et_in {x : Pr} {ps : List Pr} (ha : EvQ ta σ H fun v H => Prt K H v x) (hb : EvQ tb σ H fun v H => ∃ g, v = .ref g ∧ PrL K H g ps) : EvT (tTest (tOp (rInD K) ta tb)) σ H (decide (x ∈ ps)) := fun H1 e Q q =>
  ha H1 e _ fun v H2 e2 hv => hb H2 (e.trans e2) _ fun u H3 e3 ⟨g, eu, hg⟩ => by
    subst eu
    exact ⟨prd x, ps.map prd, (hv.ex e3).dp, hg.dp, prd_shaped _, prds_shaped _, _, by rw [prds_mem], q _ (e2.trans e3)⟩
theorem et_notIn {x : Pr} {ps : List Pr} (ha : EvQ ta σ H fun v H => Prt K H v x) (hb : EvQ tb σ H fun v H => ∃ g, v = .ref g ∧ PrL K H g ps) : EvT (tTest (tOp (rNotInD K) ta tb)) σ H (!decide (x ∈ ps)) := fun H1 e Q q =>
  ha H1 e _ fun v H2 e2 hv => hb H2 (e.trans e2) _ fun u H3 e3 ⟨g, eu, hg⟩ => by
    subst eu
    exact ⟨prd x, ps.map prd, (hv.ex e3).dp, hg.dp, prd_shaped _, prds_shaped _, _, by rw [prds_mem], q _ (e2.trans e3)⟩
end
theorem sel_two {b : Book} {q l r : Wf.P} {x : Point} (hk : kids q = some (l, r)) (h3 : kind q ≠ 3) (h5 : kind q ≠ 5) (h : x ∈ b.front q) :
    ∃ a ∈ b.front l, ∃ c ∈ b.front r, (fits (kind q) (fr b l) (fr b r) (proj x)).head? = some (proj a, proj c) ∧ x.r.row = kind q :: (a.r.row ++ c.r.row) := by
  cases q <;> simp [kids] at hk <;> obtain ⟨rfl, rfl⟩ := hk
  · obtain ⟨a, ha, c, hc, e, hf⟩ := sel_seq h
    exact ⟨a, ha, c, hc, hf, by rw [e]; rfl⟩
  · exact absurd rfl h3
  · obtain ⟨a, ha, c, hc, e, hf⟩ := sel_both h
    exact ⟨a, ha, c, hc, hf, by rw [e]; rfl⟩
  · exact absurd rfl h5
def spRunOf (K : PySem.W.Frag) (D : Ad) (N : Nat) : Sp := fun vs H Q _ => ∃ (s F : Addr) (b : Book) (p q : Wf.P) (i : Nat) (v : V) (x : Point), vs = [.ref s, nV i, v] ∧ SelAt K D H s F b p 0 ∧ BookOk b ∧ p.size ≤ 11 ∧ (nodes p)[i]? = some q ∧ q.size ≤ N ∧ x ∈ b.front q ∧ Prt K H v (proj x) ∧
  ∀ H' l, Ex H H' → H l = none → H' l = some (.lst (x.r.row.map nV)) → Q (.ref l) H'
def spLoopRun (K : PySem.W.Frag) (D : Ad) (N : Nat) : Sp := fun vs H Q _ => ∃ (s F : Addr) (b : Book) (p f g : Wf.P) (i : Nat) (v : V) (x : Point), vs = [.ref s, nV i, nV b.rounds, v] ∧ SelAt K D H s F b p 0 ∧ BookOk b ∧ p.size ≤ 11 ∧ (nodes p)[i]? = some (.loop f g) ∧ f.size ≤ N ∧ g.size ≤ N ∧ x ∈ b.front (.loop f g) ∧ Prt K H v (proj x) ∧
  ∀ H' l, Ex H H' → H l = none → H' l = some (.lst (x.r.row.map nV)) → Q (.ref l) H'
section
variable {P : Program} {w : World} {K : PySem.W.Frag} {mg : Str → Option Value} {base : Heap} {D : Ad} {f : Addr} {fd : FuncData}
section
variable {σ : L2.St} {H : Hp} {s F : Addr} {b : Book} {p q : Wf.P} {i k N : Nat} {to ta tb : TE} {x : Point}
/-- a run as it is read -/
theorem ep_run (S : SelAt K D H s F b p 0) (ok : BookOk b) (hz : p.size ≤ 11) (hq : (nodes p)[i]? = some q) (hN : q.size ≤ N) (hx : x ∈ b.front q) (ho : Ev to σ H (.ref s)) (ha : Ev ta σ H (nV i)) (hb : EvQ tb σ H fun v H => Prt K H v (proj x)) :
    EvP (tMeth D.S "run_of" (spRunOf K D N) [] E0 to (tCons ta (tCons tb tNil))) σ H (NNf x.r.row) := by
  obtain ⟨⟨dx, ap, hs, _⟩, _⟩ := id S
  intro H1 e Q q'
  refine ho H1 e _ fun H2 e2 => ⟨s, dx, _, rfl, e2 _ _ (e _ _ hs), sF_run_of, ?_⟩
  refine ha H2 (e.trans e2) _ fun H3 e3 => hb H3 ((e.trans e2).trans e3) _ fun v H4 e4 hv => ?_
  have e14 := (e2.trans e3).trans e4
  exact ⟨s, F, b, p, q, i, v, x, rfl, S.ex (e.trans e14), ok, hz, hq, hN, hx, hv, fun H5 l e5 nl hl => q' _ _ (e14.trans e5) ⟨l, rfl, fresh_back e14 nl, hl⟩⟩
end
theorem scRunOf : FnScope ["self", "at", "pair", "kind", "second", "one", "other"] ["self", "at", "pair"] (defScope sRunOf) := ⟨rfl, rfl, rfl, by decide +kernel, rfl, by decide +kernel, by decide +kernel⟩
theorem ok_runOf {k N : Nat} (hk2 : 2 ≤ k) (Fn : Fun K "run_of" "Selection.run_of" sRunOf f fd) (T : Txt K mg D) (h1 : HasM P w K mg base D.S "first" 2 ["self", "at"] (spFirst K D)) (h2 : HasM P w K mg base D.S "second" 2 ["self", "at"] (spSecond K D))
    (hp : HasF P w K mg base "parted" 2 ["kind", "some", "others", "pair"] (spParted K)) (hl : HasM P w K mg base D.S "loop_run" (k + 1) ["self", "at", "rounds", "pair"] (spLoopRun K D N)) (hrun : HasM P w K mg base D.S "run_of" k ["self", "at", "pair"] (spRunOf K D N)) :
    FnOk P w K mg base CX0 (k + 2) f fd ["self", "at", "pair"] (spRunOf K D (N + 1)) := by
  refine Fn.ok scRunOf (fun vs H Q E h => ?_) (fun cdv A outer s H vs Q E hr h => ?_)
  · obtain ⟨s, F, b, p, q, i, v, x, rfl, _⟩ := h
    rfl
  · obtain ⟨s0, F, b, p, q, i, v, x, rfl, S, ok, hz, hq, hN, hx, hv, hQ⟩ := h
    have nd := scRunOf.nd
    have hr2 : Room 2 _ := hr.mono (by omega)
    have hrk : Room k _ := hr.mono (by omega)
    have hu65 : (A.deeper (envOfC "Selection.run_of" (defScope sRunOf) s.heap.objs.size f cdv)).units + 65 < cLine := by have := hr.un; omega
    refine ⟨_, pss_cons (ps_par rfl nd (i := 3) (j := 4) rfl rfl (by decide) rfl rfl (pa_cons (pe_ix ix_list (pe_fld (pe_fld (pv 0) rfl) rfl) (pv 1) (fun _ _ => rfl)) (pa_cons (pe_ix ix_list (pe_fld (pe_fld (pv 0) rfl) rfl) (pv 1) (fun _ _ => rfl)) pa_nil)) (by rfl))
      (pss_cons (ps_if (pt_cmpR op_eq (pv 3) (pe_ci T.STEP rfl) (nomark _)) (pss_one (ps_ret (pe_lst (pa_cons (pe_ci T.STEP rfl) (pa_cons (pe_ix ix_list (pe_fld (pe_fld (pv 0) rfl) rfl) (pv 1) (fun _ _ => rfl)) pa_nil))))) pss_nil)
      (pss_cons (ps_if (pt_cmpR op_eq (pv 3) (pe_ci T.EMPTY rfl) (nomark _)) (pss_one (ps_ret (pe_lst (pa_cons (pe_ci T.EMPTY rfl) pa_nil)))) pss_nil)
      (pss_cons (ps_if (pt_cmpR op_eq (pv 3) (pe_ci T.CHOICE rfl) (nomark _)) (pss_one (ps_ret (pe_m (pv 0) T.cS hrun hrk (pa_cons (pe_ifExp (pt_cmpR (op_inD hu65) (pv 2) (pe_m (pv 0) T.cS h1 hr2 (pa_cons (pv 1) pa_nil)) (by rfl)) (pe_op op_add (pv 1) pe_int) (pv 4)) (pa_cons (pv 2) pa_nil))))) pss_nil)
      (pss_cons (ps_if (pt_cmpR op_eq (pv 3) (pe_ci T.LOOP rfl) (nomark _)) (pss_one (ps_ret (pe_m (pv 0) T.cS hl hr (pa_cons (pv 1) (pa_cons (pe_callB call_len_seq (by rfl) T.len PySem.boot_len (pa_cons (pe_ix ix_list (pe_fld (pv 0) rfl) (pv 1) (fun _ _ => rfl)) pa_nil)) (pa_cons (pv 2) pa_nil)))))) pss_nil)
      (pss_cons (ps_asg (pe_f hp hr2 rfl (pa_cons (pv 3) (pa_cons (pe_m (pv 0) T.cS h1 hr2 (pa_cons (pv 1) pa_nil)) (pa_cons (pe_m (pv 0) T.cS h2 hr2 (pa_cons (pv 1) pa_nil)) (pa_cons (pv 2) pa_nil))))) (pg_tup rfl (pgs_cons (pg_name (i := 5) nd rfl (.inl rfl)) (pgs_cons (pg_name (i := 6) nd rfl (.inl rfl)) pgs_nil))))
      (pss_one (ps_ret (pe_op op_cat (pe_op op_cat (pe_lst (pa_cons (pv 3) pa_nil)) (pe_m (pv 0) T.cS hrun hrk (pa_cons (pe_op op_add (pv 1) pe_int) (pa_cons (pv 5) pa_nil)))) (pe_m (pv 0) T.cS hrun hrk (pa_cons (pv 4) (pa_cons (pv 6) pa_nil))))))))))), ?_⟩
    obtain ⟨⟨dx, ap, hs, hpr⟩, ft⟩ := id S
    obtain ⟨_, dp, pk, ps, pc, hpi, _, _, _, hpk, hps, hpc⟩ := id hpr
    have sq : (secs 0 p)[i]? = some (secAt i q) := by rw [secs_get p 0 hq, Nat.zero_add]
    have zq := node_small hz hq
    have zrow := row_11 ok zq hx
    refine q_par (ea_2 (ev_ixL (ev_fld (ev_fld (ev_var rfl) hs T.cS T.sProcess sF_process) hpi T.cP T.pKinds pF_kinds) (ev_var rfl) hpk (nl_get (kinds_get hq))) (ev_ixL (ev_fld (ev_fld (ev_var rfl) hs T.cS T.sProcess sF_process) hpi T.cP T.pSeconds pF_seconds) (ev_var rfl) hpc (nl_get sq))) fun H1 e1 => ?_
    refine q_when (et_cmp (ev_var rfl) ev_zero rv_eqN) (fun hb H2 e2 => ?_) (fun hb H2 e2 => ?_)
    · obtain ⟨ac, rfl⟩ := act_of (of_decide_eq_true hb)
      obtain rfl := List.mem_singleton.mp hx
      have e12 := e1.trans e2
      refine s_retP (ep_lstN2 ev_zero (ev_ixL (ev_fld (ev_fld (ev_var rfl) (e12 _ _ hs) T.cS T.sProcess sF_process) (e12 _ _ hpi) T.cP T.pSteps pF_steps) (ev_var rfl) (hps.ex e12) (nl_get (steps_get hq)))) fun u H3 e3 h => ?_
      obtain ⟨l, rfl, nl, hl⟩ := h
      exact hQ H3 l (e12.trans e3) (fresh_back e12 nl) hl
    have k0 := of_decide_eq_false hb
    have e12 := e1.trans e2
    refine q_when (et_cmp (ev_var rfl) ev_one rv_eqN) (fun hb H3 e3 => ?_) (fun hb H3 e3 => ?_)
    · have := skip_of (of_decide_eq_true hb)
      subst this
      obtain rfl := List.mem_singleton.mp hx
      have e13 := e12.trans e3
      refine s_retP (ep_lstN1 ev_one) fun u H4 e4 h => ?_
      obtain ⟨l, rfl, nl, hl⟩ := h
      exact hQ H4 l (e13.trans e4) (fresh_back e13 nl) hl
    have k1 := of_decide_eq_false hb
    have e13 := e12.trans e3
    obtain ⟨l, r, hq'⟩ : ∃ l r, kids q = some (l, r) := by
      cases z : kids q with
      | none => have := kids_kind.mp z; omega
      | some y => exact ⟨y.1, y.2, rfl⟩
    obtain ⟨cl, cr⟩ := nodes_kids p hq hq'
    have szl := size_of hq'
    have evF : ∀ {σ : L2.St} {H' : Hp}, Ex H H' → σ[0]? = some (some (.ref s0)) → σ[1]? = some (some (nV i)) → EvQ (tMeth D.S "first" (spFirst K D) [] E0 (tVar 0) (tCons (tVar 1) tNil)) σ H' fun v H2 => ∃ g, v = .ref g ∧ PrL K H2 g (fr b l) := fun e h0 h1 =>
      EvP.q (ep_first (S.ex e) ok hq hq' (Nat.zero_le _) (ev_var h0) (ev_var h1)) fun _ _ _ ⟨g, h, _, h2⟩ => ⟨g, h, h2.toL⟩
    have evS : ∀ {σ : L2.St} {H' : Hp}, Ex H H' → σ[0]? = some (some (.ref s0)) → σ[1]? = some (some (nV i)) → EvQ (tMeth D.S "second" (spSecond K D) [] E0 (tVar 0) (tCons (tVar 1) tNil)) σ H' fun v H2 => ∃ g, v = .ref g ∧ PrL K H2 g (fr b r) := fun e h0 h1 =>
      EvP.q (ep_second (S.ex e) ok hq hq' (Nat.zero_le _) (ev_var h0) (ev_var h1)) fun _ _ _ ⟨g, h, _, h2⟩ => ⟨g, h, h2.toL⟩
    have evP : ∀ {σ : L2.St} {H' : Hp}, Ex H H' → σ[2]? = some (some v) → EvQ (tVar 2) σ H' fun v H => Prt K H v (proj x) := fun e h0 H1 e1 Q q => ev_var h0 H1 e1 Q fun H2 e2 => q _ _ e2 (hv.ex ((e.trans e1).trans e2))
    refine q_when (et_cmp (ev_var rfl) (ev_c (v := nV 3)) rv_eqN) (fun hb H4 e4 => ?_) (fun hb H4 e4 => ?_)
    · have c3 := of_decide_eq_true hb
      obtain rfl : q = .alt l r := by
        cases q <;> simp [kind] at c3
        simp [kids] at hq'
        rw [hq'.1, hq'.2]
      have e14 := e13.trans e4
      obtain ⟨s1, s2⟩ := sel_app (f := b.front l) (g := b.front r) hx
      by_cases c : proj x ∈ fr b l
      · refine s_retP (ep_run (N := N) (S.ex e14) ok hz cl (by omega) (s1 c) (ev_var rfl) (ev_if (v := nV (i + 1)) (et_in (evP e14 rfl) (evF e14 rfl rfl)) (fun _ => ev_add (ev_var rfl) ev_one) (fun h => absurd c (of_decide_eq_false h))) (evP e14 rfl)) fun u H5 e5 h => ?_
        obtain ⟨g, rfl, ng, hg⟩ := h
        exact hQ H5 g (e14.trans e5) (fresh_back e14 ng) hg
      · refine s_retP (ep_run (N := N) (S.ex e14) ok hz cr (by omega) (s2 c) (ev_var rfl) (ev_if (v := nV (i + 1 + l.size)) (et_in (evP e14 rfl) (evF e14 rfl rfl)) (fun h => absurd (of_decide_eq_true h) c) (fun h => ev_var rfl)) (evP e14 rfl)) fun u H5 e5 h => ?_
        obtain ⟨g, rfl, ng, hg⟩ := h
        exact hQ H5 g (e14.trans e5) (fresh_back e14 ng) hg
    have k3 := of_decide_eq_false hb
    have e14 := e13.trans e4
    refine q_when (et_cmp (ev_var rfl) (ev_c (v := nV 5)) rv_eqN) (fun hb H5 e5 => ?_) (fun hb H5 e5 => ?_)
    · have c5 := of_decide_eq_true hb
      obtain rfl : q = .loop l r := by
        cases q <;> simp [kind] at c5
        simp [kids] at hq'
        rw [hq'.1, hq'.2]
      have e15 := e14.trans e5
      obtain ⟨us, lv', gs, hF, hus, hlv, hgs⟩ := (ft.ex e15).lev hq (Nat.zero_le _)
      have hlen : (gs.map V.ref).length = b.rounds := by
        rw [List.length_map, Paired.length hgs]
        show ((List.range b.rounds).map _).length = _
        rw [List.length_map, List.length_range]
      refine gmeth (ev_var rfl) (e15 _ _ hs) sF_loop_run (ea_3 (ev_var rfl) (ev_lenL (ev_ixL (ev_fld (ev_var rfl) (e15 _ _ hs) T.cS T.sFronts sF_fronts) (ev_var rfl) (sq_of hF) hus) (sq_of hlv) hlen) (ev_var rfl)) fun H6 e6 => ?_
      have e16 := e15.trans e6
      exact ⟨s0, F, b, p, l, r, i, v, x, rfl, S.ex e16, ok, hz, hq, by omega, by omega, hx, hv.ex e16, fun H7 g e7 ng hg => hQ H7 g (e16.trans e7) (fresh_back e16 ng) hg⟩
    have k5 := of_decide_eq_false hb
    have e15 := e14.trans e5
    obtain ⟨a, ha, c, hc, hfit, hrow⟩ := sel_two hq' k3 k5 hx
    have mL : ∀ {ps : List Pr}, Mono fun v H2 => ∃ g, v = .ref g ∧ PrL K H2 g ps := fun v H1 H2 e h => let ⟨g, a, c⟩ := h; ⟨g, a, c.ex e⟩
    refine gcall4 (Ev.q (v := nV (kind q)) (ev_var rfl)) mono_eq (evF e15 rfl rfl) mL (evS e15 rfl rfl) mL (evP e15 rfl) fun x1 y1 z1 u1 H6 e6 hx1 hy1 hz1 hu1 => ?_
    subst hx1
    obtain ⟨g1, rfl, g1N⟩ := hy1
    obtain ⟨g2, rfl, g2N⟩ := hz1
    refine ⟨kind q, g1, g2, u1, _, _, _, _, rfl, g1N, g2N, hu1, front_inc b r, ?_, hfit, fun H7 u e7 hu => ?_⟩
    · have := fr_len ok (q := l) (by omega)
      have : sizeLine = 16777216 := sizeLine_eq
      omega
    obtain ⟨t, v1, v2, rfl, ht, hv1, hv2⟩ := hu
    refine ⟨t, _, rfl, ht, rfl, _, _, rfl, _, _, rfl, rfl, ?_⟩
    have e17 := (e15.trans e6).trans e7
    rw [hrow] at zrow hQ
    simp only [List.length_cons, List.length_append] at zrow
    have zl : sizeLine = 16777216 := sizeLine_eq
    refine s_retP (ep_catN (NNf.q (ep_catN (NNf.q (ep_lstN1 (ev_var rfl))) (NNf.q (ep_run (N := N) (S.ex e17) ok hz cl (by omega) ha (ev_var rfl) (ev_add (ev_var rfl) ev_one) fun H1 e1 Q q => ev_var rfl H1 e1 Q fun H2 e2 => q _ _ e2 (hv1.ex (e1.trans e2)))) (by simp only [List.length_cons, List.length_nil]; omega)))
      (NNf.q (ep_run (N := N) (S.ex e17) ok hz cr (by omega) hc (ev_var rfl) (ev_is (ev_var rfl) (by rw [secAt_of hq'])) fun H1 e1 Q q => ev_var rfl H1 e1 Q fun H2 e2 => q _ _ e2 (hv2.ex (e1.trans e2)))) (by simp only [List.length_append, List.length_cons, List.length_nil]; omega)) fun u H8 e8 h => ?_
    obtain ⟨g, rfl, ng, hg⟩ := h
    exact hQ H8 g (e17.trans e8) (fresh_back e17 ng) hg
end
end Fr
/-! selecting: loop_run, and both for every size. -/
namespace Fr
open PySem PySem.Spec PyProof.Rows L2 Evl
open Wf06 (Book Point seqs sides loops best)
section
variable {P : Program} {w : World} {K : PySem.W.Frag} {mg : Str → Option Value} {base : Heap} {D : Ad} {f : Addr} {fd : FuncData}
theorem scLoopRun : FnScope ["self", "at", "rounds", "pair", "found", "left", "here", "shorter", "rest", "one", "behind", "other"] ["self", "at", "rounds", "pair"] (defScope sLoopRun) := ⟨rfl, rfl, rfl, by decide +kernel, rfl, by decide +kernel, by decide +kernel⟩
theorem ok_loopRun {k N : Nat} (hk2 : 2 ≤ k) (Fn : Fun K "loop_run" "Selection.loop_run" sLoopRun f fd) (T : Txt K mg D) (h1 : HasM P w K mg base D.S "first" 2 ["self", "at"] (spFirst K D)) (h2 : HasM P w K mg base D.S "second" 2 ["self", "at"] (spSecond K D))
    (hc : HasF P w K mg base "combined" 2 ["kind", "some", "others"] (spCombined K)) (hp : HasF P w K mg base "parted" 2 ["kind", "some", "others", "pair"] (spParted K)) (hrun : HasM P w K mg base D.S "run_of" k ["self", "at", "pair"] (spRunOf K D N)) :
    FnOk P w K mg base CX0 (k + 1) f fd ["self", "at", "rounds", "pair"] (spLoopRun K D N) := by
  refine Fn.ok scLoopRun (fun vs H Q E h => ?_) (fun cdv A outer s H vs Q E hr h => ?_)
  · obtain ⟨s, F, b, p, f, g, i, v, x, rfl, _⟩ := h
    rfl
  · obtain ⟨s0, F, b, p, f', g', i, v, x, rfl, S, ok, hz, hq, hNf, hNg, hx, hv, hQ⟩ := h
    have nd := scLoopRun.nd
    have hr2 : Room 2 _ := hr.mono hk2
    have hu65 : (A.deeper (envOfC "Selection.loop_run" (defScope sLoopRun) s.heap.objs.size f cdv)).units + 65 < cLine := by have := hr.un; omega
    refine ⟨_, pss_cons (ps_par3 rfl nd (i := 4) (j := 5) (l := 6) rfl rfl rfl (by decide) (by decide) (by decide) rfl rfl rfl (pa_cons (pe_lst pa_nil) (pa_cons (pv 2) (pa_cons (pv 3) pa_nil))) (by rfl))
      (pss_cons (ps_while PassesOwn.never (pt_cmpR (op_notInD hu65) (pv 6) (pe_m (pv 0) T.cS h1 hr2 (pa_cons (pv 1) pa_nil)) (by rfl))
        (pss_cons (ps_set (i := 5) nd rfl (.inl rfl) (pe_op op_sub (pv 5) pe_int))
        (pss_cons (ps_set (i := 7) nd rfl (.inl rfl) (pe_ix ix_list (pe_ix ix_list (pe_fld (pv 0) rfl) (pv 1) (fun _ _ => rfl)) (pe_op op_sub (pv 5) pe_int) (fun _ _ => rfl)))
        (pss_cons (ps_set (i := 8) nd rfl (.inl rfl) (pe_f hc hr2 rfl (pa_cons (pe_ci T.SEQUENCE rfl) (pa_cons (pe_m (pv 0) T.cS h2 hr2 (pa_cons (pv 1) pa_nil)) (pa_cons (pv 7) pa_nil)))))
        (pss_cons (ps_asg (pe_f hp hr2 rfl (pa_cons (pe_ci T.SEQUENCE rfl) (pa_cons (pe_m (pv 0) T.cS h1 hr2 (pa_cons (pv 1) pa_nil)) (pa_cons (pv 8) (pa_cons (pv 6) pa_nil))))) (pg_tup rfl (pgs_cons (pg_name (i := 9) nd rfl (.inl rfl)) (pgs_cons (pg_name (i := 10) nd rfl (.inl rfl)) pgs_nil))))
        (pss_cons (ps_asg (pe_f hp hr2 rfl (pa_cons (pe_ci T.SEQUENCE rfl) (pa_cons (pe_m (pv 0) T.cS h2 hr2 (pa_cons (pv 1) pa_nil)) (pa_cons (pv 7) (pa_cons (pv 10) pa_nil))))) (pg_tup rfl (pgs_cons (pg_name (i := 11) nd rfl (.inl rfl)) (pgs_cons (pg_name (i := 6) nd rfl (.inl rfl)) pgs_nil))))
        (pss_cons (ps_ext (pv 4) (pe_op op_cat (pe_lst (pa_cons (pe_ci T.SEQUENCE rfl) pa_nil)) (pe_m (pv 0) T.cS hrun hr (pa_cons (pe_op op_add (pv 1) pe_int) (pa_cons (pv 9) pa_nil)))))
        (pss_one (ps_ext (pv 4) (pe_op op_cat (pe_lst (pa_cons (pe_ci T.SEQUENCE rfl) pa_nil)) (pe_m (pv 0) T.cS hrun hr (pa_cons (pe_ix ix_list (pe_fld (pe_fld (pv 0) rfl) rfl) (pv 1) (fun _ _ => rfl)) (pa_cons (pv 11) pa_nil)))))))))))))
      (pss_one (ps_ret (pe_op op_cat (pv 4) (pe_m (pv 0) T.cS hrun hr (pa_cons (pe_op op_add (pv 1) pe_int) (pa_cons (pv 6) pa_nil))))))), ?_⟩
    obtain ⟨⟨dx, ap, hs, hpr⟩, ft⟩ := id S
    obtain ⟨_, dp, pk, ps, pc, hpi, _, _, _, hpk, hps, hpc⟩ := id hpr
    obtain ⟨cl, cr⟩ := nodes_kids p hq rfl
    have zq := node_small hz hq
    have zrow := row_11 ok zq hx
    have zl : sizeLine = 16777216 := sizeLine_eq
    have szl : (Wf.P.loop f' g').size = f'.size + g'.size + 1 := rfl
    have lz := latest_11 ok zq
    have lz' : b.latest f' + (b.rounds - 1) * (b.latest g' + b.latest f') ≤ 5904900 := lz
    have tbf := front_tb b f'
    have tbg := front_tb b g'
    have sq : (secs 0 p)[i]? = some (i + 1 + f'.size) := by rw [secs_get p 0 hq, secAt_of rfl, Nat.zero_add]
    obtain ⟨n, hn⟩ : ∃ n, b.rounds = n + 1 := ⟨b.rounds - 1, by have := ok.r1; omega⟩
    have hx' : x ∈ loops (b.front f') (b.front g') n := by
      have : x ∈ loops (b.front f') (b.front g') (b.rounds - 1) := hx
      rw [hn, Nat.add_sub_cancel] at this
      exact this
    have mL : ∀ {ps : List Pr}, Mono fun v H2 => ∃ g, v = .ref g ∧ PrL K H2 g ps := fun v H1 H2 e h => let ⟨g, a, c⟩ := h; ⟨g, a, c.ex e⟩
    have evF : ∀ {σ : L2.St} {H' : Hp}, Ex H H' → σ[0]? = some (some (.ref s0)) → σ[1]? = some (some (nV i)) → EvQ (tMeth D.S "first" (spFirst K D) [] E0 (tVar 0) (tCons (tVar 1) tNil)) σ H' fun v H2 => ∃ g, v = .ref g ∧ PrL K H2 g (fr b f') := fun e h0 h1 =>
      EvP.q (ep_first (S.ex e) ok hq rfl (Nat.zero_le _) (ev_var h0) (ev_var h1)) fun _ _ _ ⟨g, h, _, h2⟩ => ⟨g, h, h2.toL⟩
    have evS : ∀ {σ : L2.St} {H' : Hp}, Ex H H' → σ[0]? = some (some (.ref s0)) → σ[1]? = some (some (nV i)) → EvQ (tMeth D.S "second" (spSecond K D) [] E0 (tVar 0) (tCons (tVar 1) tNil)) σ H' fun v H2 => ∃ g, v = .ref g ∧ PrL K H2 g (fr b g') := fun e h0 h1 =>
      EvP.q (ep_second (S.ex e) ok hq rfl (Nat.zero_le _) (ev_var h0) (ev_var h1)) fun _ _ _ ⟨g, h, _, h2⟩ => ⟨g, h, h2.toL⟩
    have evV : ∀ {σ : L2.St} {H' : Hp} {j : Nat} {u : V} {y : Pr}, σ[j]? = some (some u) → Prt K H' u y → EvQ (tVar j) σ H' fun v H => Prt K H v y := fun h0 hu H1 e1 Q q => ev_var h0 H1 e1 Q fun H2 e2 => q _ _ e2 (hu.ex (e1.trans e2))
    refine ⟨(by show 0 ≤ sizeLine; decide), fun l nl => ⟨_, rfl, _, rfl, _, _, _, rfl, ?_⟩⟩
    have e0 := Ex.new nl (o := .lst [])
    refine q_while (fun m σ H' => ∃ (k' : Nat) (y : Point) (hv' : V) (u1 u2 u3 u4 u5 : Option V) (ns : List Nat), σ = [some (.ref s0), some (nV i), some (nV b.rounds), some v, some (.ref l), some (nV (k' + 1)), some hv', u1, u2, u3, u4, u5] ∧ m = k' ∧ k' < b.rounds ∧ y ∈ loops (b.front f') (b.front g') k' ∧
      Prt K H' hv' (proj y) ∧ Ex H H' ∧ H' l = some (.lst (ns.map nV)) ∧ x.r.row = ns ++ y.r.row) n ?_ (fun m σ H' h => ?_)
    · exact ⟨n, x, v, none, none, none, none, none, [], by rw [hn]; rfl, rfl, by omega, hx', hv.ex e0, e0, upd_same, rfl⟩
    · obtain ⟨k', y, hv', u1, u2, u3, u4, u5, ns, rfl, hm, hkr, hy, hvy, e, hl, hrow⟩ := h
      refine ⟨_, et_notIn (evV rfl hvy) (evF e rfl rfl), fun hb H1 e1 => ?_, fun hb H1 e1 => ?_⟩
      · rw [Bool.not_eq_true', decide_eq_false_iff_not] at hb
        obtain ⟨k'', rfl⟩ : ∃ k'', k' = k'' + 1 := by
          cases k' with
          | zero => exact absurd (List.mem_map.mpr ⟨y, hy, rfl⟩) hb
          | succ k'' => exact ⟨k'', rfl⟩
        subst hm
        have hyS := (sel_app hy).2 hb
        obtain ⟨a, ha, bb, hbb, ey, hfit1⟩ := sel_seq hyS
        obtain ⟨c, hc', d, hd, ebb, hfit2⟩ := sel_seq hbb
        have hyrow : y.r.row = 2 :: (a.r.row ++ (2 :: (c.r.row ++ d.r.row))) := by rw [ey]; show 2 :: (a.r.row ++ bb.r.row) = _; rw [ebb]; rfl
        have hxrow := hrow
        rw [hyrow] at hxrow
        have hlen := congrArg List.length hxrow
        simp only [List.length_cons, List.length_append] at hlen
        refine ⟨fun σ2 H2 => ∃ m', m' < k'' + 1 ∧ ∃ (k' : Nat) (y : Point) (hv' : V) (u1 u2 u3 u4 u5 : Option V) (ns : List Nat), σ2 = [some (.ref s0), some (nV i), some (nV b.rounds), some v, some (.ref l), some (nV (k' + 1)), some hv', u1, u2, u3, u4, u5] ∧ m' = k' ∧ k' < b.rounds ∧ y ∈ loops (b.front f') (b.front g') k' ∧
          Prt K H2 hv' (proj y) ∧ Ex H H2 ∧ H2 l = some (.lst (ns.map nV)) ∧ x.r.row = ns ++ y.r.row, fun _ _ h => h, ?_⟩
        have eA := e.trans e1
        have evL : ∀ {σ : L2.St} {H' : Hp} {m : Nat}, σ[5]? = some (some (nV (m + 1))) → Ev (tOp (rI0 fun i j => .int (i - j)) (tVar 5) (tC (.int 1))) σ H' (nV m) := fun h0 => ev_is (ev_op (ev_var h0) ev_one rv_I0) (by show V.int _ = V.int _; congr 1; omega)
        refine q_asg (evL (m := k'' + 1) rfl) fun H2 e2 => ?_
        have eB := eA.trans e2
        obtain ⟨us, lv', gs, hF, hus, hlv, hgs⟩ := (ft.ex eB).lev hq (Nat.zero_le _)
        have hgk : (lv b (.loop f' g'))[k'']? = some (loops (b.front f') (b.front g') k'') := by
          show ((List.range b.rounds).map fun k => loops (b.front f') (b.front g') k)[k'']? = _
          rw [List.getElem?_map, List.getElem?_range (by omega)]; rfl
        obtain ⟨gsh, hgsh, _, gshN⟩ := paired_get hgs hgk
        refine q_asg (ev_ixL (ev_ixL (ev_fld (ev_var rfl) (eB _ _ hs) T.cS T.sFronts sF_fronts) (ev_var rfl) (sq_of hF) hus) (evL (m := k'') rfl) (sq_of hlv) (v := .ref gsh) (by rw [List.getElem?_map, hgsh]; rfl)) fun H3 e3 => ?_
        have eC := eB.trans e3
        have gsh3 := gshN.ex e3
        have tbt := loops_tb tbf tbg k''
        have bt1 : b.latest f' + k'' * (b.latest g' + b.latest f') + (b.latest g' + b.latest f') ≤ 5904900 := by
          have : (k'' + 1) * (b.latest g' + b.latest f') ≤ (b.rounds - 1) * (b.latest g' + b.latest f') := Nat.mul_le_mul_right _ (by omega)
          rw [Nat.succ_mul] at this
          omega
        refine gcall3 (Ev.q (ev_c (v := nV 2))) mono_eq (evS eC rfl rfl) mL (Ev.q (v := .ref gsh) (ev_var rfl)) fun x1 y1 z1 H4 e4 hx1 hy1 hz1 => ?_
        subst hx1 hz1
        obtain ⟨gs2, rfl, gs2N⟩ := hy1
        refine ⟨2, gs2, gsh, _, _, 5904900, rfl, gs2N, (gsh3.ex e4).toL, fun z hz => ?_, by decide, fun H5 rr ys nrr e5 hys hF1 => ?_⟩
        · obtain ⟨a, ha, c, hc', rfl⟩ := mem_prods.mp hz
          have q1 := fr_tb b g' a ha
          have q2 := proj_tb tbt c hc'
          show a.1 + c.1 ≤ _
          omega
        obtain rfl := hF1.uniq1 (seqs_front _ _)
        have eD := (eC.trans e4).trans e5
        have e15 := ((e2.trans e3).trans e4).trans e5
        refine gcall4 (Ev.q (ev_c (v := nV 2))) mono_eq (evF eD rfl rfl) mL (Ev.q (v := .ref rr) (ev_var rfl)) mono_eq (evV rfl (hvy.ex (e1.trans e15))) fun x1 y1 z1 w1 H6 e6 hx1 hy1 hz1 hw1 => ?_
        subst hx1 hz1
        obtain ⟨gs1, rfl, gs1N⟩ := hy1
        refine ⟨2, gs1, rr, w1, _, _, _, _, rfl, gs1N, (hys.ex e6).toL, hw1, best_inc _, ?_, hfit1, fun H7 u7 e7 hu7 => ?_⟩
        · have := fr_len ok (q := f') (by omega)
          omega
        obtain ⟨t1, o1, o2, rfl, ht1, ho1, ho2⟩ := hu7
        refine ⟨t1, _, rfl, ht1, rfl, _, _, rfl, _, _, rfl, rfl, ?_⟩
        have eE := (eD.trans e6).trans e7
        refine gcall4 (Ev.q (ev_c (v := nV 2))) mono_eq (evS eE rfl rfl) mL (Ev.q (v := .ref gsh) (ev_var rfl)) mono_eq (evV rfl ho2) fun x1 y1 z1 w1 H8 e8 hx1 hy1 hz1 hw1 => ?_
        subst hx1 hz1
        obtain ⟨gs3, rfl, gs3N⟩ := hy1
        refine ⟨2, gs3, gsh, w1, _, _, _, _, rfl, gs3N, (gsh3.ex ((((e4.trans e5).trans e6).trans e7).trans e8)).toL, hw1, loops_inc (front_inc b f') k'', ?_, hfit2, fun H9 u9 e9 hu9 => ?_⟩
        · have := fr_len ok (q := g') (by omega)
          omega
        obtain ⟨t2, o3, o4, rfl, ht2, ho3, ho4⟩ := hu9
        refine ⟨t2, _, rfl, ht2, rfl, _, _, rfl, _, _, rfl, rfl, ?_⟩
        have eG := (eE.trans e8).trans e9
        have hl9 : H9 l = some (.lst (ns.map nV)) := (e1.trans ((((e15.trans e6).trans e7).trans e8).trans e9)) _ _ hl
        have ho1' := ho1.ex (e8.trans e9)
        refine q_extP (P := fun zs _ => zs = (2 :: a.r.row).map nV) hl9 (ev_var rfl) (EvP.imp (ep_catN (NNf.q (ep_lstN1 (n := 2) ev_c)) (NNf.q (ep_run (N := N) (S.ex eG) ok hz cl hNf ha (ev_var rfl) (ev_add (ev_var rfl) ev_one) (evV rfl ho1'))) (by simp only [List.length_cons, List.length_nil]; omega)) fun v H1 H2 _ _ ⟨r, er, nr, hr⟩ => ⟨r, _, er, nr, hr, by simp only [List.length_map, List.length_append, List.length_cons, List.length_nil]; omega, rfl⟩) fun zs H10 e10 hzs => ?_
        subst hzs
        have eI := (eG.trans e10).mut nl (o := .lst (ns.map nV ++ (2 :: a.r.row).map nV))
        have ho3' : Prt K (upd H10 l (.lst (ns.map nV ++ (2 :: a.r.row).map nV))) o3 (proj c) := (ho3.ex e10).upd (e10 _ _ hl9) trivial
        have ho4' : Prt K (upd H10 l (.lst (ns.map nV ++ (2 :: a.r.row).map nV))) o4 (proj d) := (ho4.ex e10).upd (e10 _ _ hl9) trivial
        refine z_extP (P := fun zs _ => zs = (2 :: c.r.row).map nV) upd_same (ev_var rfl) (EvP.imp (ep_catN (NNf.q (ep_lstN1 (n := 2) ev_c)) (NNf.q (ep_run (N := N) (S.ex eI) ok hz cr hNg hc' (ev_var rfl) (ev_ixL (ev_fld (ev_fld (ev_var rfl) (eI _ _ hs) T.cS T.sProcess sF_process) (eI _ _ hpi) T.cP T.pSeconds pF_seconds) (ev_var rfl) (hpc.ex eI) (nl_get sq)) (evV rfl ho3'))) (by simp only [List.length_cons, List.length_nil]; omega)) fun v H1 H2 _ _ ⟨r, er, nr, hr⟩ => ⟨r, _, er, nr, hr, by simp only [List.length_map, List.length_append, List.length_cons, List.length_nil]; omega, rfl⟩) fun zs H11 e11 hzs => ?_
        subst hzs
        refine ⟨k'', Nat.lt_succ_self _, k'', d, o4, _, _, _, _, _, ns ++ (2 :: a.r.row) ++ (2 :: c.r.row), rfl, rfl, by omega, hd, (ho4'.ex e11).upd (e11 _ _ upd_same) trivial, (eI.trans e11).mut nl, ?_, ?_⟩
        · rw [upd_same, List.map_append, List.map_append]
        · rw [hxrow]; simp
      · rw [Bool.not_eq_false', decide_eq_true_iff] at hb
        have hyf : y ∈ b.front f' := by
          cases k' with
          | zero => exact hy
          | succ k'' => exact (sel_app hy).1 hb
        have eA := e.trans e1
        have hlen := congrArg List.length hrow
        rw [List.length_append] at hlen
        refine s_retP (ep_catN (ns := ns) (fun H2 e2 Q q => ev_var rfl H2 e2 Q fun H3 e3 => q _ _ e3 ⟨l, rfl, e3 _ _ (e2 _ _ (e1 _ _ hl))⟩) (NNf.q (ep_run (N := N) (S.ex eA) ok hz cl hNf hyf (ev_var rfl) (ev_add (ev_var rfl) ev_one) (evV rfl (hvy.ex e1)))) (by omega)) fun u H2 e2 h => ?_
        obtain ⟨g, rfl, ng, hg⟩ := h
        rw [← hrow] at hg
        exact hQ H2 g (eA.trans e2) (fresh_back eA ng) hg
/-- a promise that is never asked -/
theorem never_ok {ps : List Str} {sp : Sp} {k : Nat} (h : ∀ vs H Q E, ¬ sp vs H Q E) : FnOk P w K mg base CX0 k f fd ps sp :=
  ⟨fun vs H Q E z => absurd z (h vs H Q E), fun _ _ _ H _ _ vs Q E _ _ _ _ z => absurd z (h vs H Q E)⟩
theorem runOf_all {fR fL : Addr} {fdR fdL : FuncData} (FR : Fun K "run_of" "Selection.run_of" sRunOf fR fdR) (FL : Fun K "loop_run" "Selection.loop_run" sLoopRun fL fdL) (mR : Meth K D.S "run_of" fR) (mL : Meth K D.S "loop_run" fL) (bR : Binds K fdR ["self", "at", "pair"] []) (bL : Binds K fdL ["self", "at", "rounds", "pair"] [])
    (T : Txt K mg D) (h1 : HasM P w K mg base D.S "first" 2 ["self", "at"] (spFirst K D)) (h2 : HasM P w K mg base D.S "second" 2 ["self", "at"] (spSecond K D))
    (hc : HasF P w K mg base "combined" 2 ["kind", "some", "others"] (spCombined K)) (hp : HasF P w K mg base "parted" 2 ["kind", "some", "others", "pair"] (spParted K)) : ∀ N, HasM P w K mg base D.S "run_of" (2 * N + 2) ["self", "at", "pair"] (spRunOf K D N)
  | 0 => ⟨fR, fdR, never_ok fun vs H Q E ⟨_, _, _, _, q, _, _, _, _, _, _, _, _, hN, _⟩ => by have := size_pos q; omega, mR, bR⟩
  | N + 1 => by
    have ih := runOf_all FR FL mR mL bR bL T h1 h2 hc hp N
    have hl : HasM P w K mg base D.S "loop_run" (2 * N + 2 + 1) ["self", "at", "rounds", "pair"] (spLoopRun K D N) := ⟨fL, fdL, ok_loopRun (by omega) FL T h1 h2 hc hp ih, mL, bL⟩
    exact ⟨fR, fdR, ok_runOf (by omega) FR T h1 h2 hp hl ih, mR, bR⟩
end
end Fr
/-! fronts: is_right; a service. -/
namespace Fr
open PySem PySem.Spec PyProof.Rows L2 Evl
open Wf06 (Book Point House)
def spIsRight (K : PySem.W.Frag) (D : Ad) : Sp := fun vs H Q _ => ∃ v, vs = [v] ∧ ((v = .non ∧ ∀ H', Ex H H' → Q (.bl false) H') ∨
  ∃ a p, v = .ref a ∧ ProcAt K D.P G0 H a p ∧ p.size ≤ 1000 ∧ ∀ H', Ex H H' → Q (.bl (decide (p.right = true ∧ p.size ≤ 11))) H')
section
variable {P : Program} {w : World} {K : PySem.W.Frag} {mg : Str → Option Value} {base : Heap} {D : Ad} {f : Addr} {fd : FuncData}
theorem et_isN {te : TE} {σ : L2.St} {H : Hp} {v : V} (h : Ev te σ H v) : EvT (tB (tIsN te)) σ H (decide (v = .non)) := fun H1 e Q q => h H1 e _ fun H2 e2 => ⟨_, rfl, q H2 e2⟩
theorem scIsRight : FnScope ["process", "step"] ["process"] (defScope sIsRight) := ⟨rfl, rfl, rfl, by decide +kernel, rfl, by decide +kernel, by decide +kernel⟩
theorem ok_isRight (F : Fun K "is_right" "is_right" sIsRight f fd) (T : Txt K mg D) (hz : HasM P w K mg base D.P "size" 1 ["self"] (spSize K D)) (he : HasF P w K mg base "has_empty_loop" 3 ["process"] (spHasEmpty K D)) :
    FnOk P w K mg base CX0 4 f fd ["process"] (spIsRight K D) := by
  refine F.ok scIsRight (fun vs H Q E h => ?_) (fun cdv A outer s H vs Q E hr h => ?_)
  · obtain ⟨v, rfl, _⟩ := h
    rfl
  · obtain ⟨v, rfl, h⟩ := h
    have nd := scIsRight.nd
    have hr1 : Room 1 _ := hr.mono (by decide)
    refine ⟨_, pss_cons (ps_if (PW.pt (pw_or (pt_cmp (pc_isN (pv 0))) (pw_or (pt_cmpR op_gt (pe_m0 (pv 0) T.cP hz hr1) (pe_ci T.MOST_SIZE rfl) (nomark _)) (pw_or1 (pt_val (pe_f he hr rfl (pa_cons (pv 0) pa_nil)))))))
        (pss_one (ps_ret pe_bl)) pss_nil)
      (pss_one (ps_ret (pe_callB (cr_all rfl) (by rfl) T.all (by decide +kernel) (pa_cons
        (pe_lc (own := [("step", 1)]) (g := gName 1) (tt := tYes) (by rfl) nd (pi_list (pe_fld (pv 0) rfl)) (blkOk_by (own := [("step", 1)]) (N := ["process", "step"]) (sc := defScope sIsRight) (by decide +kernel))
          (fun _ _ _ _ _ => pg_name (i := 1) nd rfl (.inl rfl))
          (fun _ _ _ _ _ => pts_nil)
          (fun _ _ _ _ _ => pe_cmpR op_le (pv 1) (pe_ci T.MOST_STEP rfl) (nomark _))) pa_nil)))), ?_⟩
    rcases h with ⟨hv, q⟩ | ⟨a, p, hv, hp, zp, q⟩
    · subst hv
      refine q_when (b := true) (fun H1 e Q q => ?_) (fun _ H1 e1 => ?_) (fun hb => by cases hb)
      · exact et_or (a := true) (b := true) (et_is (et_isN (ev_var rfl)) (decide_eq_true rfl)) (fun h => by cases h) H1 e Q q
      · exact s_ret ev_c fun H2 e2 => q H2 (e1.trans e2)
    · subst hv
      obtain ⟨_, dx, k, st, c, hi, _, _, _, hk, hst, hs⟩ := id hp
      have evZ : ∀ {σ : L2.St} {H1 : Hp}, σ[0]? = some (some (.ref a)) → Ex H H1 → Ev (tMeth D.P "size" (spSize K D) [] E0 (tVar 0) tNil) σ H1 (nV p.size) := fun h0 e1 =>
        ev_methV (ev_var h0) (e1 _ _ hi) pF_size ea_nil fun H2 e2 Q q => ⟨a, p, rfl, hp.ex (e1.trans e2), q H2 (Ex.refl _)⟩
      refine q_when (et_or (a := false) (et_is (et_isN (ev_var rfl)) (decide_eq_false (by intro z; cases z))) fun _ => et_or (et_cmp (evZ rfl (Ex.refl _)) (ev_c (v := nV 11)) rv_gtN) fun _ => et_B (ev_callV (ea_1 (ev_var rfl)) fun H4 e4 Q q => ⟨a, p, rfl, hp.ex e4, zp, q⟩)) (fun hb H1 e1 => ?_) (fun hb H1 e1 => ?_)
      · refine s_ret ev_c fun H2 e2 => ?_
        have := q H2 (e1.trans e2)
        rw [decide_eq_false] at this
        · exact this
        · rintro ⟨h1, h2⟩
          rw [right_all, Bool.and_eq_true] at h1
          rw [Bool.false_or, h1.2, Bool.or_eq_true, decide_eq_true_iff] at hb
          rcases hb with hb | hb
          · omega
          · cases hb
      · rw [Bool.false_or, Bool.or_eq_false_iff, decide_eq_false_iff_not] at hb
        refine ⟨_, rfl, a, _, dx, _, _, rfl, e1 _ _ hi, T.cP, T.pSteps, pF_steps, st, rfl, ⟨_, hst.ex e1⟩, fun Dl nD => ?_⟩
        refine lc_list (K := K) (a := st) (xs := (steps p).map nV) (fun m H2 => Ex H1 H2 ∧ H2 Dl = some (.lst ((((steps p).take m).map fun s => decide (s ≤ 5)).map V.bl))) ⟨Ex.new nD, by rw [List.take_zero]; exact upd_same⟩ (fun m H2 _ h => hst.ex (e1.trans h.1)) (fun m y H2 hm h => ?_) (fun H4 h => ?_)
        · obtain ⟨e2, h2⟩ := h
          refine ⟨rfl, ?_⟩
          rw [List.getElem?_map] at hm
          cases hg : (steps p)[m]? with
          | none => rw [hg] at hm; cases hm
          | some x =>
            rw [hg] at hm
            cases hm
            have hlt := (List.getElem?_eq_some_iff.mp hg).1
            refine ev_op (ev_var rfl) (ev_c (v := nV 5)) rv_leN H2 (Ex.refl _) _ fun H3 e3 => ⟨_, e3 _ _ h2, ?_, (e2.trans e3).mut nD, ?_⟩
            · rw [List.length_map, List.length_map, List.length_take]
              have : sizeLine = 16777216 := sizeLine_eq
              have := steps_len p
              omega
            · rw [upd_same, take_next hg, List.map_append, List.map_append]; rfl
        · obtain ⟨e2, h2⟩ := h
          rw [List.length_map, List.take_length] at h2
          refine ⟨Dl, _, rfl, sq_of h2, ?_⟩
          have := q H4 (e1.trans e2)
          have he : ((steps p).map fun s => decide (s ≤ 5)).all id = decide (p.right = true ∧ p.size ≤ 11) := by
            rw [List.all_map, right_all]
            have h9 : (nodes p).all okLoop = true := by
              have := hb.2
              rwa [Bool.not_eq_false'] at this
            rw [h9, Bool.and_true, show steps p = (nodes p).map stp from rfl, List.all_map, Bool.eq_iff_iff, decide_eq_true_iff]
            refine ⟨fun h => ⟨h, by omega⟩, fun h => h.1⟩
          rw [he]
          exact this
end
end Fr
/-! fronts: a service: put_process, put_step, put_rounds, selection, worst, judge. -/
namespace Fr
open PySem PySem.Spec PyProof.Rows L2 Evl
open Wf06 (Book Point House)
abbrev vF (a t : Addr) : List (Str × V) := [("process", .ref a), ("times", .ref t)]
section
variable {a t : Addr}
theorem vF_process : (vF a t).lookup ("process" : Str) = some (.ref a) := lk0
theorem vF_times : (vF a t).lookup ("times" : Str) = some (.ref t) := (lkN (by decide +kernel)).trans lk0
theorem vF_no {m : Str} (h1 : (m == "process") = false) (h2 : (m == "times") = false) : (vF a t).lookup m = none := (lkN h1).trans ((lkN h2).trans rfl)
theorem vF_put : putF "times" (.ref t) (putF "process" (.ref a) []) = vF a t := by
  show putF "times" (.ref t) [("process", V.ref a)] = _
  rw [ptN (by decide +kernel)]
  rfl
theorem vF_pput {b : Addr} : putF "process" (.ref b) (vF a t) = vF b t := pt0
end
section
variable {K : PySem.W.Frag} {D : Ad} {G H H' H1 H2 : Hp} {s l : Addr} {h : House} {b : Book}
def Sub (G H : Hp) : Prop := ∀ b, H b = none → G b = none
theorem Sub.ex (e : Ex H H') (g : Sub G H) : Sub G H' := fun b hb => g b (fresh_back e hb)
theorem Sub.upd {u o : HO} (g : Sub G H) (hl : H l = some u) : Sub G (upd H l o) := fun b hb => by
  by_cases c : b = l
  · subst c; rw [upd_same] at hb; cases hb
  · rw [upd_ne c] at hb; exact g b hb
def SvAt (K : PySem.W.Frag) (D : Ad) (G H : Hp) (s : Addr) (h : House) : Prop := Sub G H ∧ G s = none ∧ ∃ dx ap tt, H s = some (.ins D.V dx (vF ap tt)) ∧ ProcAt K D.P G H ap h.p ∧ TimesAt K D.T G H tt h.book ∧ BookOk h.book ∧ h.p.right = true ∧ h.p.size ≤ 11
theorem SvAt.ex (e : Ex H H') (v : SvAt K D G H s h) : SvAt K D G H' s h := by
  obtain ⟨g, gs, dx, ap, tt, h0, h1, h2, r⟩ := v
  exact ⟨g.ex e, gs, dx, ap, tt, e _ _ h0, h1.ex e, h2.ex e, r⟩
theorem SvAt.upd {u u' o : HO} (v : SvAt K D G H s h) (hl : G l = some u) (hh : H l = some u') (hw : Wr u') : SvAt K D G (upd H l o) s h := by
  obtain ⟨g, gs, dx, ap, tt, h0, h1, h2, r⟩ := v
  exact ⟨g.upd hh, gs, dx, ap, tt, by rw [upd_ne (fun e => by rw [e, hl] at gs; cases gs)]; exact h0, h1.upd hl, h2.upd hl hh hw, r⟩
/-- what was there at first stands -/
def Stay (G H H' : Hp) : Prop := ∀ b o, G b ≠ none → H b = some o → H' b = some o
theorem Stay.of (e : Ex H H') : Stay G H H' := fun b o _ h => e b o h
theorem Stay.trans (a : Stay G H H1) (c : Stay G H1 H2) : Stay G H H2 := fun b o g h => c b o g (a b o g h)
theorem Stay.upd {o : HO} (gl : G l = none) : Stay G H (upd H l o) := fun b o g h => by rw [upd_ne (fun e => g (by rw [e]; exact gl))]; exact h
/-- numbers and pairs are not one list -/
theorem l_updP {ns : List Nat} {a : Addr} {us : List V} {ps : List Pr} {o : HO} (q : NL K H a ns) (hn : ns ≠ []) (hl : H l = some (.lst us)) (hp : Prs K H us ps) : NL K (upd H l o) a ns := by
  rcases q with (q | ⟨ob, q⟩) | q
  · refine .inl (.inl ?_)
    rw [upd_ne (ne_of q hl fun z => ?_)]
    · exact q
    · obtain ⟨n, r, rfl⟩ := List.exists_cons_of_ne_nil hn
      have z2 := HO.lst.inj z
      rw [List.map_cons] at z2
      subst z2
      cases hp with
      | cons h _ =>
        obtain ⟨t, ht, _⟩ := h
        cases ht
  · exact .inl (.inr ⟨ob, by rw [upd_ne (ne_of q hl (by intro z; cases z))]; exact q⟩)
  · exact .inr q
theorem ProcAt.updP {C a : Addr} {p : Wf.P} {us : List V} {ps : List Pr} {o : HO} (q : ProcAt K C G H a p) (hl : H l = some (.lst us)) (hp : Prs K H us ps) : ProcAt K C G (L2.upd H l o) a p := by
  obtain ⟨g, dx, k, s, c, h0, g1, g2, g3, h1, h2, h3⟩ := q
  have hz := size_pos p
  have ne : ∀ {α : Type} {l : List α}, l.length = p.size → l ≠ [] := fun e z => by rw [z] at e; simp at e; omega
  exact ⟨g, dx, k, s, c, by rw [upd_ne (ne_of h0 hl (by intro z; cases z))]; exact h0, g1, g2, g3, l_updP h1 (ne (kinds_len p)) hl hp, l_updP h2 (ne (steps_len p)) hl hp, l_updP h3 (ne (secs_len p 0)) hl hp⟩
end
theorem step_proc (h : House) (l : List Nat) : Wf06.step h (.process l) = match Wf06.run? l with
    | none => (h, Wf06.ok (-1))
    | some p => if p.right = true ∧ p.size ≤ 11 then ({ h with p := p }, Wf06.ok (p.size : Nat)) else (h, Wf06.ok (-1)) := by
  unfold Wf06.step
  show (match Wf.process l with | none => _ | some p => _) = _
  rw [process_of]
  cases Wf06.run? l with
  | none => rfl
  | some p =>
    show (match (if p.right = true ∧ p.size ≤ 15 then some p else none) with | none => _ | some p => if 11 < p.size then _ else _) = if p.right = true ∧ p.size ≤ 11 then _ else _
    by_cases c : p.right = true ∧ p.size ≤ 15
    · rw [if_pos c]
      show (if 11 < p.size then _ else _) = _
      by_cases c2 : 11 < p.size
      · rw [if_pos c2, if_neg (by omega)]
      · rw [if_neg c2, if_pos ⟨c.1, by omega⟩]
    · rw [if_neg c, if_neg (fun z => c ⟨z.1, by omega⟩)]
/-- what a call gives -/
abbrev outV (h : House) (c : Wf06.Call) : List V := (Wf06Neutral.out (Wf06.step h c).2).map V.int
def spM (K : PySem.W.Frag) (D : Ad) (arg : List V → Hp → Wf06.Call → Prop) : Sp := fun vs H Q _ => ∃ (s : Addr) (G : Hp) (h : House) (c : Wf06.Call) (us : List V), arg us H c ∧ vs = .ref s :: us ∧ SvAt K D G H s h ∧
  ∀ H' r, SvAt K D G H' s (Wf06.step h c).1 → Stay G H H' → G r = none → H' r = some (.lst (outV h c)) → Q (.ref r) H'
def aProc (K : PySem.W.Frag) : List V → Hp → Wf06.Call → Prop := fun us H c => ∃ (a : Addr) (ns : List Nat), us = [.ref a] ∧ NL K H a ns ∧ ns.length ≤ 100 ∧ c = .process ns
def aStep : List V → Hp → Wf06.Call → Prop := fun us H c => ∃ (s t k : Nat), us = [nV s, nV t, nV k] ∧ c = .step s t k
def aRounds : List V → Hp → Wf06.Call → Prop := fun us H c => ∃ (n : Nat), us = [nV n] ∧ c = .rounds n
def aJudge (K : PySem.W.Frag) : List V → Hp → Wf06.Call → Prop := fun us H c => ∃ (a : Addr) (ns : List Nat), us = [.ref a] ∧ NL K H a ns ∧ ns.length ≤ 100 ∧ c = .judge ns
def aBy : List V → Hp → Wf06.Call → Prop := fun us H c => ∃ (n : Nat), us = [nV n] ∧ c = .by_ n
def aOne (k : Wf06.Call) : List V → Hp → Wf06.Call → Prop := fun us H c => us = [] ∧ c = k
def spVSel (K : PySem.W.Frag) (D : Ad) : Sp := fun vs H Q _ => ∃ (s : Addr) (G : Hp) (h : House), vs = [.ref s] ∧ SvAt K D G H s h ∧ ∀ H' r F, Ex H H' → SelAt K D H' r F h.book h.p 0 → Q (.ref r) H'
section
variable {P : Program} {w : World} {K : PySem.W.Frag} {mg : Str → Option Value} {base : Heap} {D : Ad} {f : Addr} {fd : FuncData}
theorem scVProcess : FnScope ["self", "numbers", "process"] ["self", "numbers"] (defScope sVProcess) := ⟨rfl, rfl, rfl, by decide +kernel, rfl, by decide +kernel, by decide +kernel⟩
theorem ok_vProcess (F : Fun K "put_process" "Service.put_process" sVProcess f fd) (T : Txt K mg D) (hz : HasM P w K mg base D.P "size" 1 ["self"] (spSize K D)) (hr' : HasF P w K mg base "is_right" 4 ["process"] (spIsRight K D)) (hread : HasF P w K mg base "read" 5 ["numbers"] (spRead K D)) :
    FnOk P w K mg base CX0 6 f fd ["self", "numbers"] (spM K D (aProc K)) := by
  refine F.ok scVProcess (fun vs H Q E h => ?_) (fun cdv A outer s H vs Q E hr h => ?_)
  · obtain ⟨s, G, h, c, us, ⟨a, ns, rfl, _⟩, rfl, _⟩ := h
    rfl
  · obtain ⟨s0, G, h, c, us, ⟨a, ns, rfl, hns, hlen, rfl⟩, rfl, sv, q⟩ := h
    have nd := scVProcess.nd
    have hr1 : Room 1 _ := hr.mono (by decide)
    have hr4 : Room 4 _ := hr.mono (by decide)
    refine ⟨_, pss_cons (ps_set (i := 2) nd rfl (.inl rfl) (pe_f hread hr rfl (pa_cons (pv 1) pa_nil)))
      (pss_cons (ps_if (pt_not (pt_val (pe_f hr' hr4 rfl (pa_cons (pv 2) pa_nil)))) (pss_one (ps_ret (pe_lst (pa_cons (pe_ci T.WRONG rfl) pa_nil)))) pss_nil)
      (pss_cons (ps_fld (pv 0) (pv 2) rfl)
      (pss_one (ps_ret (pe_lst (pa_cons (pe_m0 (pv 2) T.cP hz hr1) pa_nil)))))), ?_⟩
    refine q_asgP (P := fun v H1 H2 => match Wf06.run? ns with | none => v = .non | some p => ∃ r, v = .ref r ∧ ProcAt K D.P H1 H2 r p) (ev_callP (ea_1 (ev_var rfl)) (fun v H1 H2 H3 e h => ?_) fun H1 e1 Q q => ⟨a, ns, rfl, hns.ex e1, hlen, fun hn H2 e2 => q _ H2 e2 (by rw [hn]), fun p hp H2 r e2 hr => q _ H2 e2 (by rw [hp]; exact ⟨r, rfl, hr⟩)⟩) fun v H1 e1 hv => ?_
    · cases hq : Wf06.run? ns with
      | none => rw [hq] at h; exact h
      | some p =>
        rw [hq] at h
        obtain ⟨r, h1, h2⟩ := h
        exact ⟨r, h1, h2.back fun b hb => fresh_back e hb⟩
    · have hst := step_proc h ns
      cases hq : Wf06.run? ns with
      | none =>
        rw [hq] at hv hst
        obtain rfl := hv
        refine q_when (b := true) (et_not (a := false) (et_B (ev_callV (ea_1 (ev_var rfl)) fun H4 e4 Q q => ⟨_, rfl, .inl ⟨rfl, q⟩⟩))) (fun _ H2 e2 => ?_) (fun hb => by cases hb)
        refine s_retL (el_lst (ea_1 (x := .int (-1)) ev_c) (by decide : 1 ≤ 100000)) fun r H3 nr e3 h3 => ?_
        have e := (e1.trans e2).trans e3
        refine q H3 r ?_ (.of e) (sv.1 r (fresh_back (e1.trans e2) nr)) ?_
        · rw [hst]; exact sv.ex e
        · rw [show outV h (.process ns) = [V.int (-1)] from by unfold outV; rw [hst]; rfl]; exact h3
      | some p =>
        rw [hq] at hv hst
        obtain ⟨r, rfl, hp⟩ := hv
        have hz' : p.size ≤ 100 := by
          have := row_len p
          rw [← run_row.mp hq] at this
          omega
        refine q_when (et_not (et_B (ev_callV (ea_1 (ev_var rfl)) fun H4 e4 Q q => ⟨_, rfl, .inr ⟨r, p, rfl, (hp.ex e4).any, by omega, q⟩⟩))) (fun hb H2 e2 => ?_) (fun hb H2 e2 => ?_)
        · rw [Bool.not_eq_true', decide_eq_false_iff_not] at hb
          have hst2 : Wf06.step h (.process ns) = (h, Wf06.ok (-1)) := hst.trans (if_neg hb)
          refine s_retL (el_lst (ea_1 (x := .int (-1)) ev_c) (by decide : 1 ≤ 100000)) fun r' H3 nr e3 h3 => ?_
          have e := (e1.trans e2).trans e3
          refine q H3 r' ?_ (.of e) (sv.1 r' (fresh_back (e1.trans e2) nr)) ?_
          · rw [hst2]; exact sv.ex e
          · rw [show outV h (.process ns) = [V.int (-1)] from by unfold outV; rw [hst2]; rfl]; exact h3
        · rw [Bool.not_eq_false', decide_eq_true_iff] at hb
          have hst2 : Wf06.step h (.process ns) = ({ h with p := p }, Wf06.ok (p.size : Nat)) := hst.trans (if_pos hb)
          have eA := e1.trans e2
          obtain ⟨g, gs, dx, ap, tt, h0, h1, h2, r1, r2, r3⟩ := sv.ex eA
          have hp2 : ProcAt K D.P G H2 r p := (hp.ex e2).back sv.1
          obtain ⟨_, dp, k, st, cc, hi, _⟩ := id hp2
          obtain ⟨_, dt, lt, ut, hti, _, _⟩ := id h2
          have n1 : r ≠ s0 := ne_of hi h0 (by intro z; have z2 : 3 = 2 := congrArg List.length (HO.ins.inj z).2.2; omega)
          have n2 : tt ≠ s0 := ne_of hti h0 (by
            intro z
            have z2 := congrArg (List.lookup ("pairs" : Str)) (HO.ins.inj z).2.2
            rw [tF_pairs, vF_no (by decide +kernel) (by decide +kernel)] at z2
            cases z2)
          refine ⟨_, rfl, _, rfl, s0, _, dx, _, rfl, h0, T.cV, T.vProcess, (by show 2 < 1000; decide), ?_⟩
          rw [vF_pput]
          have sv3 : SvAt K D G (upd H2 s0 (.ins D.V dx (vF r tt))) s0 { h with p := p } := ⟨g.upd h0, gs, dx, r, tt, upd_same, hp2.updI h0 n1, h2.fr h0 n2 (fun b o hb nb => by rw [upd_ne nb]; exact hb), r1, hb.1, hb.2⟩
          have stay : Stay G H (upd H2 s0 (.ins D.V dx (vF r tt))) := (Stay.of eA).trans (.upd gs)
          have hp3 : ProcAt K D.P G (upd H2 s0 (.ins D.V dx (vF r tt))) r p := hp2.updI h0 n1
          generalize upd H2 s0 (.ins D.V dx (vF r tt)) = H3 at sv3 stay hp3
          obtain ⟨_, dp, k, st, cc, hi, _⟩ := id hp3
          refine s_retL (el_lst (ea_1 (ev_methV (v := nV p.size) (ev_var rfl) hi pF_size ea_nil fun H5 e5 Q q => ⟨r, p, rfl, (hp3.ex e5).any, q H5 (Ex.refl _)⟩)) (by decide : 1 ≤ 100000)) fun r' H4 nr e4 h4 => ?_
          refine q H4 r' ?_ (stay.trans (.of e4)) (sv3.1 r' nr) ?_
          · rw [hst2]; exact sv3.ex e4
          · rw [show outV h (.process ns) = [nV p.size] from by unfold outV; rw [hst2]; rfl]; exact h4
theorem step_step (h : House) (s t k : Nat) : Wf06.step h (.step s t k) = if 6 ≤ s ∨ 100 < t ∨ 100 < k then (h, Wf06.ok (-1)) else ({ h with book := { h.book with times := h.book.times.set s t, costs := h.book.costs.set s k } }, Wf06.ok 0) := rfl
theorem scVStep : FnScope ["self", "step", "time", "cost"] ["self", "step", "time", "cost"] (defScope sVStep) := ⟨rfl, rfl, rfl, by decide +kernel, rfl, by decide +kernel, by decide +kernel⟩
theorem tF_put_step {l : Addr} {n : Nat} : (tF l n).lookup ("put_step" : Str) = none := tF_no (by decide +kernel) (by decide +kernel)
theorem tF_put_rounds {l : Addr} {n : Nat} : (tF l n).lookup ("put_rounds" : Str) = none := tF_no (by decide +kernel) (by decide +kernel)
theorem ok_vStep (F : Fun K "put_step" "Service.put_step" sVStep f fd) (T : Txt K mg D) (hs : HasM P w K mg base D.T "put_step" 1 ["self", "step", "time", "cost"] (spTStep D)) :
    FnOk P w K mg base CX0 2 f fd ["self", "step", "time", "cost"] (spM K D aStep) := by
  refine F.ok scVStep (fun vs H Q E h => ?_) (fun cdv A outer s H vs Q E hr h => ?_)
  · obtain ⟨s, G, h, c, us, ⟨_, _, _, rfl, _⟩, rfl, _⟩ := h
    rfl
  · obtain ⟨s0, G, h, c, us, ⟨st, t, k, rfl, rfl⟩, rfl, sv, q⟩ := h
    refine ⟨_, pss_one (ps_ret (pe_lst (pa_cons (pe_ifExp (pt_val (pe_m (pe_fld (pv 0) rfl) T.cT hs hr (pa_cons (pv 1) (pa_cons (pv 2) (pa_cons (pv 3) pa_nil))))) pe_int (pe_ci T.WRONG rfl)) pa_nil))), ?_⟩
    have hst := step_step h st t k
    obtain ⟨g, gs, dx, ap, tt, h0, h1, h2, r1, r2, r3⟩ := id sv
    obtain ⟨gt, dt, lt, ut, hti, gl, htl, hpr⟩ := id h2
    have hul : ut.length = 6 := (Paired.length hpr).trans (pairs_len r1)
    refine gmeth (Q := fun x H1 => ∃ c, x = .bl c ∧ _) (ev_fld (ev_var rfl) h0 T.cV T.vTimes vF_times) hti tF_put_step (ea_3 (ev_var rfl) (ev_var rfl) (ev_var rfl)) fun H1 e1 => ?_
    refine ⟨tt, dt, lt, ut, _, st, t, k, rfl, e1 _ _ hti, e1 _ _ htl, hul, fun hc => ⟨false, rfl, ?_⟩, fun c1 c2 c3 p np => ⟨true, rfl, ?_⟩⟩
    · have hst2 : Wf06.step h (.step st t k) = (h, Wf06.ok (-1)) := hst.trans (if_pos hc)
      refine ⟨(by show 1 ≤ sizeLine; decide), fun r nr => ?_⟩
      have e := e1.trans (Ex.new nr (o := .lst [.int (-1)]))
      refine q _ r ?_ (.of e) (sv.1 r (fresh_back e1 nr)) ?_
      · rw [hst2]; exact sv.ex e
      · rw [show outV h (.step st t k) = [V.int (-1)] from by unfold outV; rw [hst2]; rfl]; exact upd_same
    · have hst2 := hst.trans (if_neg (by omega))
      have eA : Ex H (upd H1 p (.tup [nV t, nV k])) := e1.trans (Ex.new np)
      have hp : upd H1 p (.tup [nV t, nV k]) p = some (.tup [nV t, nV k]) := upd_same
      generalize upd H1 p (.tup [nV t, nV k]) = H2 at eA hp ⊢
      have nl := eA _ _ htl
      have svB : SvAt K D G (upd H2 lt (.lst (ut.set st (.ref p)))) s0 { h with book := { h.book with times := h.book.times.set st t, costs := h.book.costs.set st k } } := by
        refine ⟨(g.ex eA).upd nl, gs, dx, ap, tt, by rw [upd_ne (ne_of h0 htl (by intro z; cases z))]; exact eA _ _ h0, (h1.ex eA).updP nl (Prs.ex eA hpr), ⟨gt, dt, lt, _, by rw [upd_ne (ne_of hti htl (by intro z; cases z))]; exact eA _ _ hti, gl, upd_same, ?_⟩, r1.put c2 c3, r2, r3⟩
        rw [pairs_set]
        exact Prs.upd (paired_set ⟨p, rfl, st_of hp⟩ st (Prs.ex eA hpr)) nl trivial
      have stay : Stay G H (upd H2 lt (.lst (ut.set st (.ref p)))) := (Stay.of eA).trans (.upd gl)
      generalize upd H2 lt (.lst (ut.set st (.ref p))) = H3 at svB stay ⊢
      refine ⟨(by show 1 ≤ sizeLine; decide), fun r nr => ?_⟩
      have e := Ex.new nr (o := .lst [.int 0])
      refine q _ r ?_ (stay.trans (.of e)) (svB.1 r nr) ?_
      · rw [hst2]; exact svB.ex e
      · rw [show outV h (.step st t k) = [V.int 0] from by unfold outV; rw [hst2]; rfl]; exact upd_same
theorem step_rounds (h : House) (n : Nat) : Wf06.step h (.rounds n) = if n = 0 ∨ 3 < n then (h, Wf06.ok (-1)) else ({ h with book := { h.book with rounds := n } }, Wf06.ok 0) := rfl
theorem scVRounds : FnScope ["self", "number"] ["self", "number"] (defScope sVRounds) := ⟨rfl, rfl, rfl, by decide +kernel, rfl, by decide +kernel, by decide +kernel⟩
theorem ok_vRounds (F : Fun K "put_rounds" "Service.put_rounds" sVRounds f fd) (T : Txt K mg D) (hs : HasM P w K mg base D.T "put_rounds" 1 ["self", "number"] (spTRounds D)) :
    FnOk P w K mg base CX0 2 f fd ["self", "number"] (spM K D aRounds) := by
  refine F.ok scVRounds (fun vs H Q E h => ?_) (fun cdv A outer s H vs Q E hr h => ?_)
  · obtain ⟨s, G, h, c, us, ⟨_, rfl, _⟩, rfl, _⟩ := h
    rfl
  · obtain ⟨s0, G, h, c, us, ⟨n, rfl, rfl⟩, rfl, sv, q⟩ := h
    refine ⟨_, pss_one (ps_ret (pe_lst (pa_cons (pe_ifExp (pt_val (pe_m (pe_fld (pv 0) rfl) T.cT hs hr (pa_cons (pv 1) pa_nil))) pe_int (pe_ci T.WRONG rfl)) pa_nil))), ?_⟩
    have hst := step_rounds h n
    obtain ⟨g, gs, dx, ap, tt, h0, h1, h2, r1, r2, r3⟩ := id sv
    obtain ⟨gt, dt, lt, ut, hti, gl, htl, hpr⟩ := id h2
    obtain ⟨_, dp, _, _, _, hpi, _⟩ := id h1
    refine gmeth (Q := fun x H1 => ∃ c, x = .bl c ∧ _) (ev_fld (ev_var rfl) h0 T.cV T.vTimes vF_times) hti tF_put_rounds (ea_1 (ev_var rfl)) fun H1 e1 => ?_
    refine ⟨tt, dt, lt, _, n, rfl, e1 _ _ hti, fun hc => ⟨false, rfl, ?_⟩, fun c1 c2 => ⟨true, rfl, ?_⟩⟩
    · have hst2 : Wf06.step h (.rounds n) = (h, Wf06.ok (-1)) := hst.trans (if_pos hc)
      refine ⟨(by show 1 ≤ sizeLine; decide), fun r nr => ?_⟩
      have e := e1.trans (Ex.new nr (o := .lst [.int (-1)]))
      refine q _ r ?_ (.of e) (sv.1 r (fresh_back e1 nr)) ?_
      · rw [hst2]; exact sv.ex e
      · rw [show outV h (.rounds n) = [V.int (-1)] from by unfold outV; rw [hst2]; rfl]; exact upd_same
    · have hst2 := hst.trans (if_neg (by omega))
      have nt := e1 _ _ hti
      have n1 : ap ≠ tt := ne_of hpi hti (by intro z; have z2 : 3 = 2 := congrArg List.length (HO.ins.inj z).2.2; omega)
      have n2 : s0 ≠ tt := ne_of h0 hti (by
        intro z
        have z2 := congrArg (List.lookup ("pairs" : Str)) (HO.ins.inj z).2.2
        rw [tF_pairs, vF_no (by decide +kernel) (by decide +kernel)] at z2
        cases z2)
      have svB : SvAt K D G (upd H1 tt (.ins D.T dt (tF lt n))) s0 { h with book := { h.book with rounds := n } } := by
        refine ⟨(g.ex e1).upd nt, gs, dx, ap, tt, by rw [upd_ne n2]; exact e1 _ _ h0, (h1.ex e1).updI nt n1, ⟨gt, dt, lt, ut, upd_same, gl, by rw [upd_ne (ne_of htl hti (by intro z; cases z))]; exact e1 _ _ htl, Prs.upd (Prs.ex e1 hpr) nt trivial⟩, r1.rounds c1 c2, r2, r3⟩
      have stay : Stay G H (upd H1 tt (.ins D.T dt (tF lt n))) := (Stay.of e1).trans (.upd gt)
      generalize upd H1 tt (.ins D.T dt (tF lt n)) = H3 at svB stay ⊢
      refine ⟨(by show 1 ≤ sizeLine; decide), fun r nr => ?_⟩
      have e := Ex.new nr (o := .lst [.int 0])
      refine q _ r ?_ (stay.trans (.of e)) (svB.1 r nr) ?_
      · rw [hst2]; exact svB.ex e
      · rw [show outV h (.rounds n) = [V.int 0] from by unfold outV; rw [hst2]; rfl]; exact upd_same
end
end Fr
/-! fronts: selection, worst, judge, front, cheapest_by, soonest. -/
namespace Fr
open PySem PySem.Spec PyProof.Rows L2 Evl
open Wf06 (Book Point House)
section
variable {P : Program} {w : World} {K : PySem.W.Frag} {mg : Str → Option Value} {base : Heap} {D : Ad} {f : Addr} {fd : FuncData}
section
variable {σ : L2.St} {H H' : Hp} {te ta tb : TE}
abbrev rLst (K : PySem.W.Frag) : List V → Hp → VK → Prop := fun xs H Q => ∃ p ys, xs = [.ref p] ∧ (SqL K H p ys ∨ SqT K H p ys) ∧ ∀ l, H l = none → Q (.ref l) (upd H l (.lst ys))
theorem ep_listP {x : Pr} (h : EvQ te σ H fun v H => Prt K H v x) : EvP (tCB (rLst K) (tCons te tNil)) σ H (NNf [x.1, x.2]) := fun H1 e Q q =>
  h H1 e _ fun v H2 e2 ⟨t, ev, ht⟩ => ⟨t, _, by rw [ev], .inr ht, fun l nl => q _ _ (e2.trans (Ex.new nl)) ⟨l, rfl, fresh_back e2 nl, upd_same⟩⟩
theorem eq_call {sp : Sp} {E : XK} {ta : TA} {vs : List V} {P : V → Hp → Prop} (h : EvA ta σ H vs) (hs : ∀ H1, Ex H H1 → ∀ Q : VK, (∀ v H2, Ex H1 H2 → P v H2 → Q v H2) → sp vs H1 Q E) : EvQ (tCall sp [] E ta) σ H P :=
  EvP.q (ev_callP (P := fun v _ H2 => P v H2) h (fun _ _ _ _ _ h => h) hs) fun _ _ _ h => h
/-- the service's selection -/
def SelQ (K : PySem.W.Frag) (D : Ad) (h : House) : V → Hp → Prop := fun v H => ∃ r F, v = .ref r ∧ SelAt K D H r F h.book h.p 0
theorem ep_sel {G : Hp} {s : Addr} {h : House} (sv : SvAt K D G H s h) (ho : Ev te σ H (.ref s)) : EvQ (tMeth D.V "selection" (spVSel K D) [] E0 te tNil) σ H (SelQ K D h) := by
  obtain ⟨_, _, dx, ap, tt, h0, _⟩ := id sv
  intro H1 e Q q
  refine ho H1 e _ fun H2 e2 => ⟨s, dx, _, rfl, e2 _ _ (e _ _ h0), vF_no (by decide +kernel) (by decide +kernel), ?_⟩
  exact ⟨s, G, h, rfl, sv.ex (e.trans e2), fun H3 r F e3 S => q _ H3 (e2.trans e3) ⟨r, F, rfl, S⟩⟩
theorem ep_whole {h : House} (ok : BookOk h.book) (hs : EvQ te σ H (SelQ K D h)) : EvQ (tMeth D.S "whole" (spWhole K D) [] E0 te (tCons (tC (.int 0)) tNil)) σ H fun v H2 => ∃ g, v = .ref g ∧ PrN K H2 g (fr h.book h.p) := fun H1 e Q q =>
  hs H1 e _ fun v H2 e2 ⟨r, F, ev, S⟩ => by
    obtain ⟨⟨dx, ap, hi, _⟩, _⟩ := id S
    subst ev
    exact ⟨r, dx, _, rfl, hi, sF_whole, ⟨r, F, _, _, _, _, 0, rfl, S, ok, nodes_zero h.p, Nat.le_refl _, fun g h1 h2 => q _ _ e2 ⟨g, rfl, h2⟩⟩⟩
theorem ep_var {i : Nat} {v : V} {x : Pr} (h : σ[i]? = some (some v)) (p : Prt K H v x) : EvQ (tVar i) σ H fun v H => Prt K H v x := fun H1 e Q q => ev_var h H1 e Q fun H2 e2 => q _ _ e2 (p.ex (e.trans e2))
theorem NNf.l {ns : List Nat} {D : Ends} (h : EvP te σ H (NNf ns)) (k : ∀ l H1, Ex H H1 → H l = none → H1 l = some (.lst (ns.map nV)) → D.rt (.ref l) H1) : tRet te D σ H :=
  s_retP h fun v H1 e ⟨l, ev, nl, hl⟩ => by rw [ev]; exact k l H1 e nl hl
end
theorem scVSel : FnScope ["self"] ["self"] (defScope sVSelection) := ⟨rfl, rfl, rfl, by decide +kernel, rfl, by decide +kernel, by decide +kernel⟩
theorem ok_vSel (F : Fun K "selection" "Service.selection" sVSelection f fd) (T : Txt K mg D) (hc : HasC P w K mg base "Selection" D.S 5 ["self", "process", "times"] (spSInit K D)) : FnOk P w K mg base CX0 7 f fd ["self"] (spVSel K D) := by
  refine F.ok scVSel (fun vs H Q E h => ?_) (fun cdv A outer s H vs Q E hr h => ?_)
  · obtain ⟨s, G, h, rfl, _⟩ := h
    rfl
  · obtain ⟨s0, G, h, rfl, sv, q⟩ := h
    refine ⟨_, pss_one (ps_ret (pe_c hc hr rfl (pa_cons (pe_fld (pv 0) rfl) (pa_cons (pe_fld (pv 0) rfl) pa_nil)))), ?_⟩
    obtain ⟨g, gs, dx, ap, tt, h0, h1, h2, r1, r2, r3⟩ := id sv
    refine ⟨_, rfl, s0, _, dx, _, _, rfl, h0, T.cV, T.vProcess, vF_process, _, rfl, s0, _, dx, _, _, rfl, h0, T.cV, T.vTimes, vF_times, fun x dx nx ndx ndd => ?_⟩
    have eN : Ex H (upd (upd H dx (.own x)) x (.ins D.S dx [])) := (Ex.new ndx).trans (Ex.new (by rw [upd_ne (Ne.symm ndd)]; exact nx))
    refine ⟨x, dx, ap, tt, h.p, h.book, rfl, upd_same, h1.any.ex eN, h2.any.ex eN, r1, r2, r3, fun H3 F S keep => ⟨rfl, ?_⟩⟩
    exact q H3 x F (fun b o hb => keep b o (eN _ _ hb) (ne_of_none hb nx)) S
theorem scVWorst : FnScope ["self"] ["self"] (defScope sVWorst) := ⟨rfl, rfl, rfl, by decide +kernel, rfl, by decide +kernel, by decide +kernel⟩
theorem ok_vWorst (F : Fun K "worst" "Service.worst" sVWorst f fd) (T : Txt K mg D) (hw : HasF P w K mg base "worst_of" 4 ["process", "times"] (spWorstOf K D)) : FnOk P w K mg base CX0 5 f fd ["self"] (spM K D (aOne .worst)) := by
  refine F.ok scVWorst (fun vs H Q E h => ?_) (fun cdv A outer s H vs Q E hr h => ?_)
  · obtain ⟨s, G, h, c, us, ⟨rfl, _⟩, rfl, _⟩ := h
    rfl
  · obtain ⟨s0, G, h, c, us, ⟨rfl, rfl⟩, rfl, sv, q⟩ := h
    refine ⟨_, pss_one (ps_ret (pe_callTy call_list_of (by rfl) T.list (by decide +kernel) (pa_cons (pe_f hw hr rfl (pa_cons (pe_fld (pv 0) rfl) (pa_cons (pe_fld (pv 0) rfl) pa_nil))) pa_nil))), ?_⟩
    obtain ⟨g, gs, dx, ap, tt, h0, h1, h2, r1, r2, r3⟩ := id sv
    refine NNf.l (ep_listP (K := K) (x := wc h.book h.p) (eq_call (ea_2 (ev_fld (ev_var rfl) h0 T.cV T.vProcess vF_process) (ev_fld (ev_var rfl) h0 T.cV T.vTimes vF_times)) fun H1 e1 Q q' => ?_)) fun l H1 e1 nl hl => q H1 l (sv.ex e1) (.of e1) (sv.1 l nl) hl
    exact ⟨ap, tt, h.p, h.book, rfl, h1.any.ex e1, h2.any.ex e1, r1, r2, by omega, fun H4 x e4 hx => q' x H4 e4 hx⟩
theorem scVJudge : FnScope ["self", "numbers", "run"] ["self", "numbers"] (defScope sVJudge) := ⟨rfl, rfl, rfl, by decide +kernel, rfl, by decide +kernel, by decide +kernel⟩
theorem step_judge (h : House) (l : List Nat) : Wf06.step h (.judge l) = (h, match Wf06.run? l with | none => Wf06.ok (-1) | some r => if Wf06.isRun h.book.rounds h.p r = true then ⟨1, [h.book.time r, h.book.cost r]⟩ else Wf06.ok 0) := rfl
theorem ok_vJudge (F : Fun K "judge" "Service.judge" sVJudge f fd) (T : Txt K mg D) (hread : HasF P w K mg base "read" 5 ["numbers"] (spRead K D)) (hrun : HasF P w K mg base "is_run" 7 ["process", "run", "rounds"] (spIsRun K D)) (hpair : HasF P w K mg base "pair_of_run" 2 ["run", "times"] (spPairOfRun K D)) :
    FnOk P w K mg base CX0 8 f fd ["self", "numbers"] (spM K D (aJudge K)) := by
  refine F.ok scVJudge (fun vs H Q E h => ?_) (fun cdv A outer s H vs Q E hr h => ?_)
  · obtain ⟨s, G, h, c, us, ⟨a, ns, rfl, _⟩, rfl, _⟩ := h
    rfl
  · obtain ⟨s0, G, h, c, us, ⟨a, ns, rfl, hns, hlen, rfl⟩, rfl, sv, q⟩ := h
    have nd := scVJudge.nd
    have hr5 : Room 5 _ := hr.mono (by decide)
    have hr2 : Room 2 _ := hr.mono (by decide)
    refine ⟨_, pss_cons (ps_set (i := 2) nd rfl (.inl rfl) (pe_f hread hr5 rfl (pa_cons (pv 1) pa_nil)))
      (pss_cons (ps_if (pt_cmp (pc_isN (pv 2))) (pss_one (ps_ret (pe_lst (pa_cons (pe_ci T.WRONG rfl) pa_nil)))) pss_nil)
      (pss_cons (ps_if (pt_not (pt_val (pe_f hrun hr rfl (pa_cons (pe_fld (pv 0) rfl) (pa_cons (pv 2) (pa_cons (pe_fld (pe_fld (pv 0) rfl) rfl) pa_nil)))))) (pss_one (ps_ret (pe_lst (pa_cons pe_int pa_nil)))) pss_nil)
      (pss_one (ps_ret (pe_op op_cat (pe_lst (pa_cons pe_int pa_nil)) (pe_callTy call_list_of (by rfl) T.list (by decide +kernel) (pa_cons (pe_f hpair hr2 rfl (pa_cons (pv 2) (pa_cons (pe_fld (pv 0) rfl) pa_nil))) pa_nil))))))), ?_⟩
    obtain ⟨g, gs, dx, ap, tt, h0, h1, h2, r1, r2, r3⟩ := id sv
    obtain ⟨_, dt, lt, ut, hti, _, _, _⟩ := id h2
    refine q_asgP (P := fun v _ H2 => match Wf06.run? ns with | none => v = .non | some p => ∃ r, v = .ref r ∧ ProcAt K D.P G0 H2 r p) (ev_callP (ea_1 (ev_var rfl)) (fun v H1 H2 H3 e h => h) fun H1 e1 Q q => ⟨a, ns, rfl, hns.ex e1, hlen, fun hn H2 e2 => q _ H2 e2 (by rw [hn]), fun p hp H2 r e2 hr => q _ H2 e2 (by rw [hp]; exact ⟨r, rfl, hr.any⟩)⟩) fun v H1 e1 hv => ?_
    have hst := step_judge h ns
    cases hq : Wf06.run? ns with
    | none =>
      rw [hq] at hv hst
      obtain rfl := hv
      refine q_when (b := true) (et_is (et_isN (ev_var rfl)) (decide_eq_true rfl)) (fun _ H2 e2 => ?_) (fun hb => by cases hb)
      refine s_retL (el_lst (ea_1 (x := .int (-1)) ev_c) (by decide : 1 ≤ 100000)) fun r H3 nr e3 h3 => ?_
      have e := (e1.trans e2).trans e3
      refine q H3 r ?_ (.of e) (sv.1 r (fresh_back (e1.trans e2) nr)) ?_
      · rw [hst]; exact sv.ex e
      · rw [show outV h (.judge ns) = [V.int (-1)] from by unfold outV; rw [hst]; rfl]; exact h3
    | some p =>
      rw [hq] at hv hst
      obtain ⟨r, rfl, hp⟩ := hv
      have hz' : p.size ≤ 100 := by
        have := row_len p
        rw [← run_row.mp hq] at this
        omega
      refine q_when (b := false) (et_is (et_isN (ev_var rfl)) (decide_eq_false (by intro z; cases z))) (fun hb => by cases hb) (fun _ H2 e2 => ?_)
      have e12 := e1.trans e2
      refine q_when (et_not (a := Wf06.isRun h.book.rounds h.p p) (et_B (ev_callV (ea_3 (ev_fld (ev_var rfl) (e12 _ _ h0) T.cV T.vProcess vF_process) (ev_var rfl) (ev_fld (ev_fld (ev_var rfl) (e12 _ _ h0) T.cV T.vTimes vF_times) (e12 _ _ hti) T.cT T.tRounds tF_rounds)) fun H4 e4 Q q => ⟨ap, r, _, h.p, p, rfl, h1.any.ex (e12.trans e4), hp.ex (e2.trans e4), by omega, by omega, r1.r1, r1.r3, q⟩))) (fun hb H3 e3 => ?_) (fun hb H3 e3 => ?_)
      · rw [Bool.not_eq_true'] at hb
        have hst2 : Wf06.step h (.judge ns) = (h, Wf06.ok 0) := hst.trans (by show (h, if _ then _ else _) = _; rw [hb]; rfl)
        refine s_retL (el_lst (ea_1 (x := .int 0) ev_c) (by decide : 1 ≤ 100000)) fun r' H4 nr e4 h4 => ?_
        have e := (e12.trans e3).trans e4
        refine q H4 r' ?_ (.of e) (sv.1 r' (fresh_back (e12.trans e3) nr)) ?_
        · rw [hst2]; exact sv.ex e
        · rw [show outV h (.judge ns) = [V.int 0] from by unfold outV; rw [hst2]; rfl]; exact h4
      · rw [Bool.not_eq_false'] at hb
        have hst2 : Wf06.step h (.judge ns) = (h, ⟨1, [h.book.time p, h.book.cost p]⟩) := hst.trans (by show (h, if _ then _ else _) = _; rw [hb]; rfl)
        have e13 := e12.trans e3
        have pl := plain_run h.p r2 p hb
        refine NNf.l (ep_catN (NNf.q (ep_lstN1 (n := 1) ev_c)) (NNf.q (ep_listP (K := K) (x := rcP h.book p) (eq_call (ea_2 (ev_var rfl) (ev_fld (ev_var rfl) (e13 _ _ h0) T.cV T.vTimes vF_times)) fun H4 e4 Q q' => ?_))) (by show 3 ≤ sizeLine; decide)) fun l H4 e4 nl hl => ?_
        · exact ⟨r, tt, p, h.book, rfl, hp.ex ((e2.trans e3).trans e4), h2.any.ex (e13.trans e4), r1, pl, by omega, fun H7 x e7 hx => q' x H7 e7 hx⟩
        · have e := e13.trans e4
          refine q H4 l ?_ (.of e) (sv.1 l (fresh_back e13 nl)) ?_
          · rw [hst2]; exact sv.ex e
          · rw [show outV h (.judge ns) = ([1] ++ [(rcP h.book p).1, (rcP h.book p).2]).map nV from by unfold outV; rw [hst2]; rfl]; exact hl
end
end Fr
/-! fronts: front, cheapest_by, soonest. -/
namespace Fr
open PySem PySem.Spec PyProof.Rows L2 Evl
open Wf06 (Book Point House)
def flatP (ps : List Pr) : List Nat := ps.flatMap fun x => [x.1, x.2]
theorem flatP_snoc (ps : List Pr) (x : Pr) : flatP (ps ++ [x]) = flatP ps ++ [x.1, x.2] := by
  unfold flatP; rw [List.flatMap_append]; simp
theorem flatP_len : ∀ ps : List Pr, (flatP ps).length = 2 * ps.length
  | [] => rfl
  | x :: r => by
    show ([x.1, x.2] ++ flatP r).length = _
    rw [List.length_append, flatP_len r]
    simp; omega
theorem flatP_fr (b : Book) (p : Wf.P) : flatP (fr b p) = (b.front p).flatMap fun x => [x.t, x.c] := by
  unfold flatP fr
  rw [List.flatMap_map]
  rfl
section
variable {P : Program} {w : World} {K : PySem.W.Frag} {mg : Str → Option Value} {base : Heap} {D : Ad} {f : Addr} {fd : FuncData}
theorem NNf.app {σ : L2.St} {H : Hp} {ta tb : TE} {ns ms : List Nat} (h1 : EvP ta σ H (NNf ns)) (h2 : EvP tb σ H (NNf ms)) (hz : ns.length + ms.length ≤ sizeLine) : EvP (tOp rCat ta tb) σ H (NNf (ns ++ ms)) := ep_catN (NNf.q h1) (NNf.q h2) hz
theorem step_front (h : House) : Wf06.step h .front = (h, ⟨((h.book.front h.p).length : Nat), (h.book.front h.p).flatMap fun x => [x.t, x.c]⟩) := rfl
theorem scVFront : FnScope ["self", "pairs", "found", "time", "cost"] ["self"] (defScope sVFront) := ⟨rfl, rfl, rfl, by decide +kernel, rfl, by decide +kernel, by decide +kernel⟩
theorem ok_vFront (F : Fun K "front" "Service.front" sVFront f fd) (T : Txt K mg D) (hs : HasM P w K mg base D.V "selection" 7 ["self"] (spVSel K D)) (hw : HasM P w K mg base D.S "whole" 1 ["self", "at"] (spWhole K D)) : FnOk P w K mg base CX0 8 f fd ["self"] (spM K D (aOne .front)) := by
  refine F.ok scVFront (fun vs H Q E h => ?_) (fun cdv A outer s H vs Q E hr h => ?_)
  · obtain ⟨s, G, h, c, us, ⟨rfl, _⟩, rfl, _⟩ := h
    rfl
  · obtain ⟨s0, G, h, c, us, ⟨rfl, rfl⟩, rfl, sv, q⟩ := h
    have nd := scVFront.nd
    have hr1 : Room 1 _ := hr.mono (by decide)
    refine ⟨_, pss_cons (ps_set (i := 1) nd rfl (.inl rfl) (pe_m (pe_m0 (pv 0) T.cV hs hr) T.cS hw hr1 (pa_cons pe_int pa_nil)))
      (pss_cons (ps_set (i := 2) nd rfl (.inl rfl) (pe_lst (pa_cons (pe_callB call_len_seq (by rfl) T.len PySem.boot_len (pa_cons (pv 1) pa_nil)) pa_nil)))
      (pss_cons (ps_for PassesOwn.never rfl (pi_list (pv 1)) (pg_tup rfl (pgs_cons (pg_name (i := 3) nd rfl (.inl rfl)) (pgs_cons (pg_name (i := 4) nd rfl (.inl rfl)) pgs_nil)))
        (pss_one (ps_ext (pv 2) (pe_lst (pa_cons (pv 3) (pa_cons (pv 4) pa_nil))))))
      (pss_one (ps_ret (pv 2))))), ?_⟩
    obtain ⟨g, gs, dx, ap, tt, h0, h1, h2, r1, r2, r3⟩ := id sv
    refine q_asgP (P := fun v _ H2 => ∃ g, v = .ref g ∧ PrN K H2 g (fr h.book h.p)) (fun H1 e Q q => ep_whole r1 (ep_sel sv (ev_var rfl)) H1 e Q q) fun v H1 e1 hv => ?_
    obtain ⟨gg, rfl, vs, hg, hvs⟩ := hv
    have hvl := Paired.length hvs
    refine q_asgL (el_lst (ea_1 (ev_lenL (ev_var rfl) (sq_of hg) hvl)) (by decide : 1 ≤ 100000)) fun l H2 nl e2 h2' => ?_
    have ngl : gg ≠ l := ne_of_none hg nl
    have nlH : H l = none := fresh_back e1 nl
    refine ⟨_, rfl, gg, rfl, ⟨_, sq_of (e2 _ _ hg)⟩, for_list (K := K) (a := gg) (xs := vs) (fun i σ H' => ∃ u u', σ = [some (.ref s0), some (.ref gg), some (.ref l), u, u'] ∧ Ex H H' ∧ H' gg = some (.lst vs) ∧ Prs K H' vs (fr h.book h.p) ∧ H' l = some (.lst (((fr h.book h.p).length :: flatP ((fr h.book h.p).take i)).map nV))) ?_ ?_ ?_ ?_⟩
    · exact ⟨none, none, rfl, e1.trans e2, e2 _ _ hg, Prs.ex e2 hvs, by rw [List.take_zero]; exact h2'⟩
    · rintro i σ H' _ ⟨u, u', rfl, _, hp, _⟩
      exact sq_of hp
    · rintro i v1 σ H' hi ⟨u, u', rfl, e, hgg, hps, hl⟩
      obtain ⟨x, hx, ⟨t, rfl, ht⟩⟩ := paired_getL hps hi
      have hilt := (List.getElem?_eq_some_iff.mp hx).1
      refine ⟨t, _, rfl, ht, rfl, _, _, rfl, _, _, rfl, rfl, ?_⟩
      refine z_extP (P := fun zs _ => zs = [nV x.1, nV x.2]) hl (ev_var rfl) (EvP.imp (EvL.p (el_lst (ea_2 (ev_var rfl) (ev_var rfl)) (by decide : 2 ≤ 100000))) fun v H1 H2 _ _ ⟨p, ev, n, hp⟩ => ⟨p, _, ev, n, hp, ?_, rfl⟩) fun zs H3 e3 hz => ?_
      · have := fr_len r1 (q := h.p) r3
        have : sizeLine = 16777216 := sizeLine_eq
        simp only [List.length_map, List.length_cons, flatP_len, List.length_take, List.length_nil]
        omega
      · subst hz
        refine ⟨_, _, rfl, (e.trans e3).mut nlH, by rw [upd_ne ngl]; exact e3 _ _ hgg, Prs.upd (Prs.ex e3 hps) (e3 _ _ hl) trivial, ?_⟩
        rw [upd_same, take_next hx, flatP_snoc]
        simp
    · rintro σ H' ⟨u, u', rfl, e, hgg, hps, hl⟩
      rw [hvl, List.take_length] at hl
      refine s_ret (ev_var rfl) fun H3 e3 => q H3 l (sv.ex (e.trans e3)) (.of (e.trans e3)) (sv.1 l nlH) ?_
      rw [e3 _ _ hl, show outV h .front = (((fr h.book h.p).length :: flatP (fr h.book h.p)).map nV) from ?_]
      unfold outV
      rw [step_front, flatP_fr, show (fr h.book h.p).length = (h.book.front h.p).length from List.length_map ..]
      show List.map V.int ((((h.book.front h.p).length : Nat) : Int) :: List.map (fun (n : Nat) => (n : Int)) _) = _
      rw [List.map_cons, List.map_cons, List.map_map]
      rfl
theorem scVSoonest : FnScope ["self", "selection", "time", "cost"] ["self"] (defScope sVSoonest) := ⟨rfl, rfl, rfl, by decide +kernel, rfl, by decide +kernel, by decide +kernel⟩
theorem outV_of {h : House} {c : Wf06.Call} {h' : House} {n : Nat} {l : List Nat} (e : Wf06.step h c = (h', ⟨(n : Int), l⟩)) : outV h c = (n :: l).map nV := by
  unfold outV
  rw [e]
  show List.map V.int ((n : Int) :: List.map (fun (n : Nat) => (n : Int)) l) = _
  rw [List.map_cons, List.map_cons, List.map_map]
  rfl
theorem ok_vSoonest (F : Fun K "soonest" "Service.soonest" sVSoonest f fd) (T : Txt K mg D) (hs : HasM P w K mg base D.V "selection" 7 ["self"] (spVSel K D)) (hw : HasM P w K mg base D.S "whole" 1 ["self", "at"] (spWhole K D))
    (hrun : HasM P w K mg base D.S "run_of" 24 ["self", "at", "pair"] (spRunOf K D 11)) : FnOk P w K mg base CX0 25 f fd ["self"] (spM K D (aOne .soonest)) := by
  refine F.ok scVSoonest (fun vs H Q E h => ?_) (fun cdv A outer s H vs Q E hr h => ?_)
  · obtain ⟨s, G, h, c, us, ⟨rfl, _⟩, rfl, _⟩ := h
    rfl
  · obtain ⟨s0, G, h, c, us, ⟨rfl, rfl⟩, rfl, sv, q⟩ := h
    have nd := scVSoonest.nd
    have hr1 : Room 1 _ := hr.mono (by decide)
    have hr7 : Room 7 _ := hr.mono (by decide)
    refine ⟨_, pss_cons (ps_set (i := 1) nd rfl (.inl rfl) (pe_m0 (pv 0) T.cV hs hr7))
      (pss_cons (ps_asg (pe_ix ix_list (pe_m (pv 1) T.cS hw hr1 (pa_cons pe_int pa_nil)) pe_int (fun _ _ => rfl)) (pg_tup rfl (pgs_cons (pg_name (i := 2) nd rfl (.inl rfl)) (pgs_cons (pg_name (i := 3) nd rfl (.inl rfl)) pgs_nil))))
      (pss_one (ps_ret (pe_op op_cat (pe_lst (pa_cons (pv 2) (pa_cons (pv 3) pa_nil))) (pe_m (pv 1) T.cS hrun hr (pa_cons pe_int (pa_cons (pe_tup (pa_cons (pv 2) (pa_cons (pv 3) pa_nil))) pa_nil))))))), ?_⟩
    obtain ⟨g, gs, dx, ap, tt, h0, h1, h2, r1, r2, r3⟩ := id sv
    refine q_asgP (P := fun v _ H2 => SelQ K D h v H2) (fun H1 e Q q => ep_sel sv (ev_var rfl) H1 e Q q) fun v H1 e1 hv => ?_
    obtain ⟨r, Fa, rfl, S⟩ := hv
    obtain ⟨x, rest, hx⟩ : ∃ x rest, h.book.front h.p = x :: rest := List.exists_cons_of_ne_nil (front_ne h.book h.p)
    have hmem : x ∈ h.book.front h.p := by rw [hx]; exact List.mem_cons_self ..
    have hst : Wf06.step h .soonest = (h, ⟨((x.t : Nat) : Int), x.c :: x.r.row⟩) := by
      show (h, match h.book.front h.p with | [] => _ | x :: _ => _) = _
      rw [hx]
    have zrow := row_11 r1 r3 hmem
    refine ep_whole r1 (fun H2 e2 Q q => ev_var rfl H2 e2 Q fun H3 e3 => q _ _ e3 ⟨r, Fa, rfl, S.ex (e2.trans e3)⟩) H1 (Ex.refl _) _ fun v H2 e2 hv => ?_
    obtain ⟨gg, rfl, vs, hg, hvs⟩ := hv
    have hx0 : (fr h.book h.p)[0]? = some (proj x) := by unfold fr; rw [hx]; rfl
    obtain ⟨u, hu, hup⟩ := paired_get hvs hx0
    refine ⟨gg, vs, 0, u, rfl, rfl, sq_of hg, atI_nat hu, ?_⟩
    obtain ⟨t, rfl, ht⟩ := hup
    refine ⟨t, _, rfl, ht, rfl, _, _, rfl, _, _, rfl, rfl, ?_⟩
    have e12 := e1.trans e2
    refine NNf.l (NNf.app (ep_lstN2 (ev_var rfl) (ev_var rfl)) (ep_run (N := 11) (S.ex e2) r1 r3 (nodes_zero h.p) r3 hmem (ev_var rfl) (ev_c (v := nV 0)) (fun H3 e3 Q q => eu_tup (ea_2 (ev_var rfl) (ev_var rfl)) (by decide : 2 ≤ 100000) H3 e3 _ fun p H4 np e4 hp => q _ _ e4 ⟨p, rfl, st_of hp⟩)) ?_) fun l H3 e3 nl hl => ?_
    · have : sizeLine = 16777216 := sizeLine_eq
      simp only [List.length_cons, List.length_nil]
      omega
    · have e := e12.trans e3
      refine q H3 l ?_ (.of e) (sv.1 l (fresh_back e12 nl)) ?_
      · rw [hst]; exact sv.ex e
      · rw [outV_of hst]; exact hl
theorem scVBy : FnScope ["self", "most", "selection", "some", "time", "cost", "pair"] ["self", "most"] (defScope sVBy) := ⟨rfl, rfl, rfl, by decide +kernel, rfl, by decide +kernel, by decide +kernel⟩
theorem ok_vBy (F : Fun K "cheapest_by" "Service.cheapest_by" sVBy f fd) (T : Txt K mg D) (hs : HasM P w K mg base D.V "selection" 7 ["self"] (spVSel K D)) (hw : HasM P w K mg base D.S "whole" 1 ["self", "at"] (spWhole K D))
    (hrun : HasM P w K mg base D.S "run_of" 24 ["self", "at", "pair"] (spRunOf K D 11)) : FnOk P w K mg base CX0 25 f fd ["self", "most"] (spM K D aBy) := by
  refine F.ok scVBy (fun vs H Q E h => ?_) (fun cdv A outer s H vs Q E hr h => ?_)
  · obtain ⟨s, G, h, c, us, ⟨_, rfl, _⟩, rfl, _⟩ := h
    rfl
  · obtain ⟨s0, G, h, c, us, ⟨m, rfl, rfl⟩, rfl, sv, q⟩ := h
    have nd := scVBy.nd
    have hr1 : Room 1 _ := hr.mono (by decide)
    have hr7 : Room 7 _ := hr.mono (by decide)
    refine ⟨_, pss_cons (ps_set (i := 2) nd rfl (.inl rfl) (pe_m0 (pv 0) T.cV hs hr7))
      (pss_cons (ps_setLc (i := 3) (own := [("pair", 6)]) (g := gName 6) (tt := tTest (tOp (rI0 fun i j => .bl (decide (i ≤ j))) (tOp (rIxT K) (tVar 6) (tC (.int 0))) (tVar 1))) (te := tVar 6) (by rfl) nd rfl rfl (sw_true rfl rfl rfl (by decide +kernel)) (pi_list (pe_m (pv 2) T.cS hw hr1 (pa_cons pe_int pa_nil))) (blkOk_by (own := [("pair", 6)]) (N := ["self", "most", "selection", "some", "time", "cost", "pair"]) (sc := defScope sVBy) (by decide +kernel))
          (fun _ _ _ _ _ => pg_name (i := 6) nd rfl (Or.inl rfl)) (fun _ _ _ _ _ => pts_one (pt_cmpR op_le (pe_ix (r := rIxT K) ix_tup (pv 6) pe_int (fun _ _ => rfl)) (pv 1) (nomark _)))
          (fun _ _ _ _ _ => pv 6))
      (pss_cons (ps_if (pt_cmpR (op_eqD hr.units) (pv 3) (pe_lst pa_nil) (nomark _)) (pss_one (ps_ret (pe_lst (pa_cons (pe_ci T.NO_PAIR rfl) pa_nil)))) pss_nil)
      (pss_cons (ps_asg (pe_ix ix_list (pv 3) (pe_un un_neg pe_int) (fun _ _ => rfl)) (pg_tup rfl (pgs_cons (pg_name (i := 4) nd rfl (.inl rfl)) (pgs_cons (pg_name (i := 5) nd rfl (.inl rfl)) pgs_nil))))
      (pss_one (ps_ret (pe_op op_cat (pe_lst (pa_cons (pv 5) (pa_cons (pv 4) pa_nil))) (pe_m (pv 2) T.cS hrun hr (pa_cons pe_int (pa_cons (pe_ix ix_list (pv 3) (pe_un un_neg pe_int) (fun _ _ => rfl)) pa_nil))))))))), ?_⟩
    obtain ⟨g, gs, dx, ap, tt, h0, h1, h2, r1, r2, r3⟩ := id sv
    refine q_asgP (P := fun v _ H2 => SelQ K D h v H2) (fun H1 e Q q => ep_sel sv (ev_var rfl) H1 e Q q) fun v H1 e1 hv => ?_
    obtain ⟨r, Fa, rfl, S⟩ := hv
    have hfl := fr_len r1 (q := h.p) r3
    refine ep_whole r1 (fun H2 e2 Q q => ev_var rfl H2 e2 Q fun H3 e3 => q _ _ e3 ⟨r, Fa, rfl, S.ex (e2.trans e3)⟩) H1 (Ex.refl _) _ fun v H2 e2 hv => ?_
    obtain ⟨gg, rfl, vs, hg, hvs⟩ := hv
    refine ⟨gg, rfl, ⟨_, sq_of hg⟩, fun Dl nD => ?_⟩
    refine lc_list (K := K) (a := gg) (xs := vs) (fun j H3 => Ex H2 H3 ∧ ∃ zs, H3 Dl = some (.lst zs) ∧ Prs K H3 zs (((fr h.book h.p).take j).filter fun y => decide (y.1 ≤ m))) ?_ (fun j H3 _ h => sq_of (h.1 _ _ hg)) (fun j v2 H3 hj h' => ?_) (fun H3 h' => ?_)
    · exact ⟨Ex.new nD, [], upd_same, by rw [List.take_zero]; exact .nil⟩
    · obtain ⟨e3, zs, hD, hzs⟩ := h'
      obtain ⟨x, hx, hxv⟩ := paired_getL hvs hj
      refine ⟨rfl, ?_⟩
      obtain ⟨t, rfl, ht⟩ := hxv.ex e3
      refine et_cmp (x := nV x.1) (ev_ixT (i := 0) (ev_var rfl) ev_c ht rfl) (ev_var rfl) rv_leN H3 (Ex.refl _) _ fun H4 e4 => ?_
      have tk := take_next hx
      by_cases c : x.1 ≤ m
      · refine ifT (decide_eq_true c) ?_
        refine ⟨_, rfl, zs, e4 _ _ hD, ?_, (e3.trans e4).mut nD, _, upd_same, ?_⟩
        · rw [Paired.length hzs]
          have : sizeLine = 16777216 := sizeLine_eq
          have h9 := List.length_filter_le (fun y : Pr => decide (y.1 ≤ m)) ((fr h.book h.p).take j)
          rw [List.length_take] at h9
          omega
        · rw [tk, List.filter_append, show [x].filter (fun y => decide (y.1 ≤ m)) = [x] from by simp [c]]
          exact Prs.upd (Paired.snoc (Prs.ex e4 hzs) ⟨t, rfl, ex_t e4 ht⟩) (e4 _ _ hD) trivial
      · refine ifF (decide_eq_false c) ?_
        refine ⟨e3.trans e4, zs, e4 _ _ hD, ?_⟩
        rw [tk, List.filter_append, show [x].filter (fun y => decide (y.1 ≤ m)) = [] from by simp [c], List.append_nil]
        exact Prs.ex e4 hzs
    · obtain ⟨e3, zs, hD, hzs⟩ := h'
      rw [Paired.length hvs, List.take_length] at hzs
      have hfil : ((fr h.book h.p).filter fun y => decide (y.1 ≤ m)) = ((h.book.front h.p).filter fun x => decide (x.t ≤ m)).map proj := by
        unfold fr
        rw [List.filter_map]
        rfl
      rw [hfil] at hzs
      have hst : Wf06.step h (.by_ m) = (h, match ((h.book.front h.p).filter fun x => decide (x.t ≤ m)).getLast? with | none => Wf06.ok (-6) | some x => ⟨(x.c : Nat), x.t :: x.r.row⟩) := rfl
      have e123 := (e1.trans e2).trans e3
      refine q_when (et_isNil (ev_var rfl) ⟨zs, sq_of hD, hzs⟩) (fun hb H4 e4 => ?_) (fun hb H4 e4 => ?_)
      · rw [List.isEmpty_iff, List.map_eq_nil_iff] at hb
        rw [hb] at hst
        refine s_retL (el_lst (ea_1 (x := .int (-6)) ev_c) (by decide : 1 ≤ 100000)) fun r' H5 nr e5 h5 => ?_
        have e := (e123.trans e4).trans e5
        refine q H5 r' ?_ (.of e) (sv.1 r' (fresh_back (e123.trans e4) nr)) ?_
        · rw [hst]; exact sv.ex e
        · rw [show outV h (.by_ m) = [V.int (-6)] from by unfold outV; rw [hst]; rfl]; exact h5
      · cases hl : ((h.book.front h.p).filter fun x => decide (x.t ≤ m)).getLast? with
        | none =>
          rw [List.getLast?_eq_none_iff] at hl
          rw [hl] at hb
          cases hb
        | some x =>
          rw [hl] at hst
          have hst : Wf06.step h (.by_ m) = (h, ⟨((x.c : Nat) : Int), x.t :: x.r.row⟩) := hst
          have hmem : x ∈ h.book.front h.p := (List.mem_filter.mp (List.mem_of_getLast? hl)).1
          have zrow := row_11 r1 r3 hmem
          obtain ⟨u, hu, hup⟩ := paired_last hzs (y := proj x) (by rw [List.getLast?_map, hl]; rfl)
          have e1234 := e123.trans e4
          refine ev_ixLast (ev_var rfl) ev_m1 (sq_of (e4 _ _ hD)) hu H4 (Ex.refl _) _ fun H5 e5 => ?_
          obtain ⟨t, rfl, ht⟩ := hup.ex (e4.trans e5)
          refine ⟨t, _, rfl, ht, rfl, _, _, rfl, _, _, rfl, rfl, ?_⟩
          have e45 := e4.trans e5
          refine NNf.l (NNf.app (ep_lstN2 (n := x.c) (m := x.t) (ev_var rfl) (ev_var rfl)) (ep_run (N := 11) (S.ex ((e2.trans e3).trans e45)) r1 r3 (nodes_zero h.p) r3 hmem (ev_var rfl) (ev_c (v := nV 0)) (fun H6 e6 Q q' => ev_ixLast (ev_var rfl) ev_m1 (sq_of (e45 _ _ hD)) hu H6 e6 _ fun H7 e7 => q' _ _ e7 ⟨t, rfl, ex_t (e6.trans e7) ht⟩)) ?_) fun l H6 e6 nl hl' => ?_
          · have : sizeLine = 16777216 := sizeLine_eq
            simp only [List.length_cons, List.length_nil]
            omega
          · have e := (e123.trans e45).trans e6
            refine q H6 l ?_ (.of e) (sv.1 l (fresh_back (e123.trans e45) nl)) ?_
            · rw [hst]; exact sv.ex e
            · rw [outV_of hst]; exact hl'
end
end Fr
/-! fronts: Service.__init__, asked, answer. -/
namespace Fr
open PySem PySem.Spec PyProof.Rows L2 Evl
open Wf06 (Book Point House)
theorem init_ok : BookOk Wf06.init.book := ⟨by decide, by decide, by decide, by decide, by decide, by decide⟩
def spVInit (K : PySem.W.Frag) (D : Ad) : Sp := fun vs H Q _ => ∃ (s dx : Addr), vs = [.ref s] ∧ H s = some (.ins D.V dx []) ∧
  ∀ H', (∀ G H'', Ex H' H'' → Sub G H'' → (∀ b, H b = none → H' b ≠ none → G b = none) → G s = none → SvAt K D G H'' s Wf06.init) → (∀ b o, H b = some o → b ≠ s → H' b = some o) → Q .non H'
section
variable {P : Program} {w : World} {K : PySem.W.Frag} {mg : Str → Option Value} {base : Heap} {D : Ad} {f : Addr} {fd : FuncData}
theorem scVInit : FnScope ["self"] ["self"] (defScope sVInit) := ⟨rfl, rfl, rfl, by decide +kernel, rfl, by decide +kernel, by decide +kernel⟩
theorem ok_vInit (F : Fun K "__init__" "Service.__init__" sVInit f fd) (T : Txt K mg D) (hp : HasC P w K mg base "Process" D.P 3 ["self", "kinds", "steps"] (spPInit K D)) (ht : HasC P w K mg base "Times" D.T 1 ["self"] (spTInit K D)) :
    FnOk P w K mg base CX0 5 f fd ["self"] (spVInit K D) := by
  refine F.ok scVInit (fun vs H Q E h => ?_) (fun cdv A outer s H vs Q E hr h => ?_)
  · obtain ⟨s, dx, rfl, _⟩ := h
    rfl
  · obtain ⟨s0, dx, rfl, hs, q⟩ := h
    have hr2 : Room 2 _ := hr.mono (by decide)
    refine ⟨_, pss_cons (ps_fld (pv 0) (pe_c hp hr rfl (pa_cons (pe_lst (pa_cons (pe_ci T.EMPTY rfl) pa_nil)) (pa_cons (pe_lst (pa_cons pe_int pa_nil)) pa_nil))) rfl)
      (pss_one (ps_fld (pv 0) (pe_c0 ht hr2 rfl) rfl)), ?_⟩
    refine ⟨(by show 1 ≤ sizeLine; decide), fun k nk => ⟨(by show 1 ≤ sizeLine; decide), fun st nst => fun x dp nx ndp ndd => ?_⟩⟩
    have e1 : Ex H (upd (upd H k (.lst [.int 1])) st (.lst [.int 0])) := (Ex.new nk).trans (Ex.new nst)
    have nkst : k ≠ st := ne_of_none upd_same nst
    have hk : upd (upd H k (.lst [.int 1])) st (.lst [.int 0]) k = some (.lst [nV 1]) := by rw [upd_ne nkst]; exact upd_same
    have hst : upd (upd H k (.lst [.int 1])) st (.lst [.int 0]) st = some (.lst [nV 0]) := upd_same
    have nst' : H st = none := fresh_back (Ex.new nk) nst
    generalize upd (upd H k (.lst [.int 1])) st (.lst [.int 0]) = Hb at e1 hk hst nx ndp ⊢
    have eN : Ex Hb (upd (upd Hb dp (.own x)) x (.ins D.P dp [])) := (Ex.new ndp).trans (Ex.new (by rw [upd_ne (Ne.symm ndd)]; exact nx))
    refine ⟨x, dp, k, st, .skip, rfl, upd_same, eN _ _ hk, by decide, fun H3 c hc hx hc3 keep => ⟨rfl, ?_⟩⟩
    have nc : Hb c = none := fresh_back eN hc
    have e3 : Ex Hb H3 := fun b o hb => keep b o (eN _ _ hb) (ne_of_none hb nx)
    have e03 := e1.trans e3
    refine ⟨_, rfl, s0, _, dx, _, rfl, e03 _ _ hs, T.cV, T.vProcess, (by show 0 < 1000; decide), fun y dy ny ndy ndd2 => ?_⟩
    have hds : upd H3 s0 (.ins D.V dx (putF "process" (.ref x) [])) s0 = some (.ins D.V dx (putF "process" (.ref x) [])) := upd_same
    have frd : ∀ b o, H3 b = some o → b ≠ s0 → upd H3 s0 (.ins D.V dx (putF "process" (.ref x) [])) b = some o := fun b o hb nb => by rw [upd_ne nb]; exact hb
    have nod : ∀ b, upd H3 s0 (.ins D.V dx (putF "process" (.ref x) [])) b = none → H3 b = none := fun b hb => by
      by_cases cb : b = s0
      · subst cb; rw [upd_same] at hb; cases hb
      · rw [upd_ne cb] at hb; exact hb
    generalize upd H3 s0 (.ins D.V dx (putF "process" (.ref x) [])) = Hd at hds frd nod ny ndy ⊢
    have eM : Ex Hd (upd (upd Hd dy (.own y)) y (.ins D.T dy [])) := (Ex.new ndy).trans (Ex.new (by rw [upd_ne (Ne.symm ndd2)]; exact ny))
    refine ⟨y, dy, rfl, upd_same, fun H5 l us hy nl hl hus keep2 => ⟨rfl, ?_⟩⟩
    have nl' : Hd l = none := fresh_back eM nl
    have e5 : Ex Hd H5 := fun b o hb => keep2 b o (eM _ _ hb) (ne_of_none hb ny)
    refine ⟨_, rfl, s0, _, dx, _, rfl, e5 _ _ hds, T.cV, T.vTimes, (by show 1 < 1000; decide), ?_⟩
    rw [vF_put]
    have nes : ∀ {b}, H b = none → b ≠ s0 := fun {b} hb e => by rw [e, hs] at hb; cases hb
    have hfs : upd H5 s0 (.ins D.V dx (vF x y)) s0 = some (.ins D.V dx (vF x y)) := upd_same
    have fr5 : ∀ b o, H5 b = some o → b ≠ s0 → upd H5 s0 (.ins D.V dx (vF x y)) b = some o := fun b o hb nb => by rw [upd_ne nb]; exact hb
    have pr5 : Prs K (upd H5 s0 (.ins D.V dx (vF x y))) us (List.replicate 6 (1, 1)) := Prs.upd hus (e5 _ _ hds) trivial
    generalize upd H5 s0 (.ins D.V dx (vF x y)) = Hf at hfs fr5 pr5 ⊢
    have fr3 : ∀ b o, H3 b = some o → b ≠ s0 → Hf b = some o := fun b o hb nb => fr5 b o (e5 _ _ (frd b o hb nb)) nb
    have mx : H x = none := fresh_back e1 nx
    have mc : H c = none := fresh_back e1 nc
    have my : H y = none := fresh_back e03 (nod y ny)
    have ml : H l = none := fresh_back e03 (nod l nl')
    have gx := fr3 _ _ hx (nes mx)
    have gk := fr3 _ _ (e3 _ _ hk) (nes nk)
    have gst := fr3 _ _ (e3 _ _ hst) (nes nst')
    have gc := fr3 _ _ hc3 (nes mc)
    have gy := fr5 _ _ hy (nes my)
    have gl := fr5 _ _ hl (nes ml)
    have nn : ∀ {b o}, Hf b = some o → Hf b ≠ none := fun h z => by rw [h] at z; cases z
    refine q Hf (fun G H'' e g gn gs => ?_) fun b o hb nb => fr3 b o (e03 _ _ hb) nb
    refine ⟨g, gs, dx, x, y, e _ _ hfs, ⟨gn x mx (nn gx), dp, k, st, c, e _ _ gx, gn k nk (nn gk), gn st nst' (nn gst), gn c mc (nn gc), sq_of (e _ _ gk), sq_of (e _ _ gst), sq_of (e _ _ gc)⟩, ⟨gn y my (nn gy), dy, l, us, e _ _ gy, gn l ml (nn gl), e _ _ gl, Prs.ex e pr5⟩, init_ok, rfl, by decide⟩
/-! ### asked, answer -/
def aAsked : List V → Hp → Wf06.Call → Prop := fun us _ c => ∃ k : Nat, us = [nV k] ∧ ((k = 3 ∧ c = .front) ∨ (k = 5 ∧ c = .soonest) ∨ (k = 6 ∧ c = .worst))
theorem scVAsked : FnScope ["self", "call"] ["self", "call"] (defScope sVAsked) := ⟨rfl, rfl, rfl, by decide +kernel, rfl, by decide +kernel, by decide +kernel⟩
theorem vF_m {a t : Addr} {m : Str} (h1 : (m == "process") = false := by decide +kernel) (h2 : (m == "times") = false := by decide +kernel) : (vF a t).lookup m = none := vF_no h1 h2
/-- a call of a method of the service that gives what is answered -/
theorem g_serv {arg : List V → Hp → Wf06.Call → Prop} {m : Str} {σ : L2.St} {H : Hp} {to : TE} {ta : TA} {us : List V} {s : Addr} {G : Hp} {h : House} {c : Wf06.Call} {Q : VK} (sv : SvAt K D G H s h) (ho : Ev to σ H (.ref s)) (ha : EvA ta σ H us) (hm : ∀ a t, (vF a t).lookup m = none) (hg : ∀ H', Ex H H' → arg us H' c)
    (q : ∀ H' r, SvAt K D G H' s (Wf06.step h c).1 → Stay G H H' → G r = none → H' r = some (.lst (outV h c)) → Q (.ref r) H') : tMeth D.V m (spM K D arg) [] E0 to ta σ H Q := by
  obtain ⟨_, _, dx, ap, tt, h0, _⟩ := id sv
  exact gmeth ho h0 (hm _ _) ha fun H1 e1 => ⟨s, G, h, c, us, hg H1 e1, rfl, sv.ex e1, fun H' r sv' st gr hr => q H' r sv' ((Stay.of e1).trans st) gr hr⟩
theorem ok_vAsked (F : Fun K "asked" "Service.asked" sVAsked f fd) (T : Txt K mg D) (h3 : HasM P w K mg base D.V "front" 8 ["self"] (spM K D (aOne .front))) (h5 : HasM P w K mg base D.V "soonest" 25 ["self"] (spM K D (aOne .soonest))) (h6 : HasM P w K mg base D.V "worst" 5 ["self"] (spM K D (aOne .worst))) :
    FnOk P w K mg base CX0 26 f fd ["self", "call"] (spM K D aAsked) := by
  refine F.ok scVAsked (fun vs H Q E h => ?_) (fun cdv A outer s H vs Q E hr h => ?_)
  · obtain ⟨s, G, h, c, us, ⟨_, rfl, _⟩, rfl, _⟩ := h
    rfl
  · obtain ⟨s0, G, h, c, us, ⟨k, rfl, hc⟩, rfl, sv, q⟩ := h
    refine ⟨_, pss_cons (ps_if (pt_cmpR op_eq (pv 1) pe_int (nomark _)) (pss_one (ps_ret (pe_m0 (pv 0) T.cV h3 (hr.mono (by decide))))) pss_nil)
      (pss_one (ps_ret (pe_ifExp (pt_cmpR op_eq (pv 1) pe_int (nomark _)) (pe_m0 (pv 0) T.cV h5 hr) (pe_m0 (pv 0) T.cV h6 (hr.mono (by decide)))))), ?_⟩
    refine q_when (et_cmp (ev_var rfl) (ev_c (v := nV 3)) rv_eqN) (fun hb H1 e1 => ?_) (fun hb H1 e1 => ?_)
    · rw [decide_eq_true_iff] at hb
      obtain rfl : c = .front := by rcases hc with ⟨_, h⟩ | ⟨a, _⟩ | ⟨a, _⟩ <;> first | exact h | omega
      exact g_serv (sv.ex e1) (ev_var rfl) ea_nil (fun _ _ => vF_m) (fun _ _ => ⟨rfl, rfl⟩) fun H' r sv' st gr hr => q H' r sv' ((Stay.of e1).trans st) gr hr
    · rw [decide_eq_false_iff_not] at hb
      refine et_cmp (ev_var rfl) (ev_c (v := nV 5)) rv_eqN H1 (Ex.refl _) _ fun H2 e2 => ?_
      have e := e1.trans e2
      by_cases c5 : k = 5
      · obtain rfl : c = .soonest := by rcases hc with ⟨a, _⟩ | ⟨_, h⟩ | ⟨a, _⟩ <;> first | exact h | omega
        refine ifT (decide_eq_true c5) ?_
        exact g_serv (sv.ex e) (ev_var rfl) ea_nil (fun _ _ => vF_m) (fun _ _ => ⟨rfl, rfl⟩) fun H' r sv' st gr hr => q H' r sv' ((Stay.of e).trans st) gr hr
      · obtain rfl : c = .worst := by rcases hc with ⟨a, _⟩ | ⟨a, _⟩ | ⟨_, h⟩ <;> first | exact h | omega
        refine ifF (decide_eq_false c5) ?_
        exact g_serv (sv.ex e) (ev_var rfl) ea_nil (fun _ _ => vF_m) (fun _ _ => ⟨rfl, rfl⟩) fun H' r sv' st gr hr => q H' r sv' ((Stay.of e).trans st) gr hr
/-- a call by its number and by what is given -/
def Cal (k : Nat) (ns : List Nat) (c : Wf06.Call) : Prop := (k = 0 ∧ ns.length ≤ 100 ∧ c = .process ns) ∨ (k = 1 ∧ ∃ s t x, ns = [s, t, x] ∧ c = .step s t x) ∨ (k = 2 ∧ ∃ n, ns = [n] ∧ c = .rounds n) ∨ (k = 3 ∧ ns = [] ∧ c = .front) ∨ (k = 4 ∧ ∃ n, ns = [n] ∧ c = .by_ n) ∨
  (k = 5 ∧ ns = [] ∧ c = .soonest) ∨ (k = 6 ∧ ns = [] ∧ c = .worst) ∨ (k = 7 ∧ ns.length ≤ 100 ∧ c = .judge ns)
def aAns (K : PySem.W.Frag) : List V → Hp → Wf06.Call → Prop := fun us H c => ∃ (k : Nat) (a : Addr) (ns : List Nat), us = [nV k, .ref a] ∧ NL K H a ns ∧ Cal k ns c
theorem scVAnswer : FnScope ["self", "call", "given"] ["self", "call", "given"] (defScope sVAnswer) := ⟨rfl, rfl, rfl, by decide +kernel, rfl, by decide +kernel, by decide +kernel⟩
theorem ok_vAnswer (F : Fun K "answer" "Service.answer" sVAnswer f fd) (T : Txt K mg D) (h0 : HasM P w K mg base D.V "put_process" 6 ["self", "numbers"] (spM K D (aProc K))) (h1 : HasM P w K mg base D.V "put_step" 2 ["self", "step", "time", "cost"] (spM K D aStep))
    (h2 : HasM P w K mg base D.V "put_rounds" 2 ["self", "number"] (spM K D aRounds)) (h4 : HasM P w K mg base D.V "cheapest_by" 25 ["self", "most"] (spM K D aBy)) (h7 : HasM P w K mg base D.V "judge" 8 ["self", "numbers"] (spM K D (aJudge K))) (ha : HasM P w K mg base D.V "asked" 26 ["self", "call"] (spM K D aAsked)) :
    FnOk P w K mg base CX0 27 f fd ["self", "call", "given"] (spM K D (aAns K)) := by
  refine F.ok scVAnswer (fun vs H Q E h => ?_) (fun cdv A outer s H vs Q E hr h => ?_)
  · obtain ⟨s, G, h, c, us, ⟨_, _, _, rfl, _⟩, rfl, _⟩ := h
    rfl
  · obtain ⟨s0, G, h, c, us, ⟨k, a, ns, rfl, hns, hc⟩, rfl, sv, q⟩ := h
    refine ⟨_, pss_cons (ps_if (pt_cmpR op_eq (pv 1) pe_int (nomark _)) (pss_one (ps_ret (pe_m (pv 0) T.cV h0 (hr.mono (by decide)) (pa_cons (pv 2) pa_nil)))) pss_nil)
      (pss_cons (ps_if (pt_cmpR op_eq (pv 1) pe_int (nomark _)) (pss_one (ps_ret (pe_m (pv 0) T.cV h1 (hr.mono (by decide)) (pa_cons (pe_ix ix_list (pv 2) pe_int (fun _ _ => rfl)) (pa_cons (pe_ix ix_list (pv 2) pe_int (fun _ _ => rfl)) (pa_cons (pe_ix ix_list (pv 2) pe_int (fun _ _ => rfl)) pa_nil)))))) pss_nil)
      (pss_cons (ps_if (pt_cmpR op_eq (pv 1) pe_int (nomark _)) (pss_one (ps_ret (pe_m (pv 0) T.cV h2 (hr.mono (by decide)) (pa_cons (pe_ix ix_list (pv 2) pe_int (fun _ _ => rfl)) pa_nil)))) pss_nil)
      (pss_cons (ps_if (pt_cmpR op_eq (pv 1) pe_int (nomark _)) (pss_one (ps_ret (pe_m (pv 0) T.cV h4 (hr.mono (by decide)) (pa_cons (pe_ix ix_list (pv 2) pe_int (fun _ _ => rfl)) pa_nil)))) pss_nil)
      (pss_one (ps_ret (pe_ifExp (pt_cmpR op_eq (pv 1) pe_int (nomark _)) (pe_m (pv 0) T.cV h7 (hr.mono (by decide)) (pa_cons (pv 2) pa_nil)) (pe_m (pv 0) T.cV ha hr (pa_cons (pv 1) pa_nil)))))))), ?_⟩
    have go : ∀ {H1 : Hp}, Ex H H1 → ∀ H' r, SvAt K D G H' s0 (Wf06.step h c).1 → Stay G H1 H' → G r = none → H' r = some (.lst (outV h c)) → Q (.ref r) H' := fun e H' r sv' st gr hr => q H' r sv' ((Stay.of e).trans st) gr hr
    have evI : ∀ {σ : L2.St} {H1 : Hp} {i n : Nat}, Ex H H1 → σ[2]? = some (some (.ref a)) → ns[i]? = some n → Ev (tOp (rIxL K) (tVar 2) (tC (.int (i : Int)))) σ H1 (nV n) := fun e h1 h2 => ev_ixL (ev_var h1) ev_c (hns.ex e) (nl_get h2)
    refine q_when (et_cmp (ev_var rfl) (ev_c (v := nV 0)) rv_eqN) (fun hb H1 e1 => ?_) (fun hb H1 e1 => ?_)
    · rw [decide_eq_true_iff] at hb
      subst hb
      rcases hc with ⟨_, hl, rfl⟩ | ⟨z, _⟩ | ⟨z, _⟩ | ⟨z, _⟩ | ⟨z, _⟩ | ⟨z, _⟩ | ⟨z, _⟩ | ⟨z, _⟩ <;> first | omega | skip
      exact g_serv (sv.ex e1) (ev_var rfl) (ea_1 (ev_var rfl)) (fun _ _ => vF_m) (fun H' e => ⟨a, ns, rfl, hns.ex (e1.trans e), hl, rfl⟩) (go e1)
    rw [decide_eq_false_iff_not] at hb
    refine q_when (et_cmp (ev_var rfl) (ev_c (v := nV 1)) rv_eqN) (fun hb2 H2 e2 => ?_) (fun hb2 H2 e2 => ?_)
    · rw [decide_eq_true_iff] at hb2
      subst hb2
      have e := e1.trans e2
      rcases hc with ⟨z, _⟩ | ⟨_, s', t', x', rfl, rfl⟩ | ⟨z, _⟩ | ⟨z, _⟩ | ⟨z, _⟩ | ⟨z, _⟩ | ⟨z, _⟩ | ⟨z, _⟩ <;> first | omega | skip
      exact g_serv (sv.ex e) (ev_var rfl) (ea_3 (evI (i := 0) e rfl rfl) (evI (i := 1) e rfl rfl) (evI (i := 2) e rfl rfl)) (fun _ _ => vF_m) (fun H' e => ⟨_, _, _, rfl, rfl⟩) (go e)
    rw [decide_eq_false_iff_not] at hb2
    have e12 := e1.trans e2
    refine q_when (et_cmp (ev_var rfl) (ev_c (v := nV 2)) rv_eqN) (fun hb3 H3 e3 => ?_) (fun hb3 H3 e3 => ?_)
    · rw [decide_eq_true_iff] at hb3
      subst hb3
      have e := e12.trans e3
      rcases hc with ⟨z, _⟩ | ⟨z, _⟩ | ⟨_, n, rfl, rfl⟩ | ⟨z, _⟩ | ⟨z, _⟩ | ⟨z, _⟩ | ⟨z, _⟩ | ⟨z, _⟩ <;> first | omega | skip
      exact g_serv (sv.ex e) (ev_var rfl) (ea_1 (evI (i := 0) e rfl rfl)) (fun _ _ => vF_m) (fun H' e => ⟨_, rfl, rfl⟩) (go e)
    rw [decide_eq_false_iff_not] at hb3
    have e13 := e12.trans e3
    refine q_when (et_cmp (ev_var rfl) (ev_c (v := nV 4)) rv_eqN) (fun hb4 H4 e4 => ?_) (fun hb4 H4 e4 => ?_)
    · rw [decide_eq_true_iff] at hb4
      subst hb4
      have e := e13.trans e4
      rcases hc with ⟨z, _⟩ | ⟨z, _⟩ | ⟨z, _⟩ | ⟨z, _⟩ | ⟨_, n, rfl, rfl⟩ | ⟨z, _⟩ | ⟨z, _⟩ | ⟨z, _⟩ <;> first | omega | skip
      exact g_serv (sv.ex e) (ev_var rfl) (ea_1 (evI (i := 0) e rfl rfl)) (fun _ _ => vF_m) (fun H' e => ⟨_, rfl, rfl⟩) (go e)
    rw [decide_eq_false_iff_not] at hb4
    have e14 := e13.trans e4
    refine et_cmp (ev_var rfl) (ev_c (v := nV 7)) rv_eqN H4 (Ex.refl _) _ fun H5 e5 => ?_
    have e := e14.trans e5
    by_cases c7 : k = 7
    · refine ifT (decide_eq_true c7) ?_
      subst c7
      rcases hc with ⟨z, _⟩ | ⟨z, _⟩ | ⟨z, _⟩ | ⟨z, _⟩ | ⟨z, _⟩ | ⟨z, _⟩ | ⟨z, _⟩ | ⟨_, hl, rfl⟩ <;> first | omega | skip
      exact g_serv (sv.ex e) (ev_var rfl) (ea_1 (ev_var rfl)) (fun _ _ => vF_m) (fun H' e' => ⟨a, ns, rfl, hns.ex (e.trans e'), hl, rfl⟩) (go e)
    · refine ifF (decide_eq_false c7) ?_
      have hc' : (k = 3 ∧ c = .front) ∨ (k = 5 ∧ c = .soonest) ∨ (k = 6 ∧ c = .worst) := by
        rcases hc with ⟨z, _⟩ | ⟨z, _⟩ | ⟨z, _⟩ | ⟨z, _, h⟩ | ⟨z, _⟩ | ⟨z, _, h⟩ | ⟨z, _, h⟩ | ⟨z, _⟩ <;> first | omega | exact .inl ⟨z, h⟩ | exact .inr (.inl ⟨z, h⟩) | exact .inr (.inr ⟨z, h⟩)
      exact g_serv (sv.ex e) (ev_var rfl) (ea_1 (ev_var rfl)) (fun _ _ => vF_m) (fun H' e' => ⟨k, rfl, hc'⟩) (go e)
end
end Fr
/-! fronts: answers. -/
namespace Fr
open PySem PySem.Spec PyProof.Rows L2 Evl
open Wf06 (Book Point House)
def shs : List (Int × Bool) := [(0, true), (3, false), (1, false), (0, false), (1, false), (0, false), (0, false), (0, true)]
def rowed (k : Nat) : Bool := decide (k = 0 ∨ k = 7)
/-- a call's numbers -/
def enc (k : Nat) (args : List Nat) : List Nat := if rowed k = true then k :: args.length :: args else k :: args
def told1 (h : House) (c : Wf06.Call) : List Int := ((Wf06Neutral.out (Wf06.step h c).2).length : Int) :: Wf06Neutral.out (Wf06.step h c).2
inductive Plays : House → List Nat → List Int → Prop
  | nil {h : House} : Plays h [] []
  | cons {h : House} {k : Nat} {args rest : List Nat} {c : Wf06.Call} {o : List Int} : Cal k args c → Plays (Wf06.step h c).1 rest o → Plays h (enc k args ++ rest) (told1 h c ++ o)
theorem cal_sh {k : Nat} {args : List Nat} {c : Wf06.Call} (h : Cal k args c) : ∃ m, shs[k]? = some (m, rowed k) ∧ (rowed k = false → m = (args.length : Nat)) := by
  rcases h with ⟨rfl, _⟩ | ⟨rfl, _, _, _, rfl, _⟩ | ⟨rfl, _, rfl, _⟩ | ⟨rfl, rfl, _⟩ | ⟨rfl, _, rfl, _⟩ | ⟨rfl, rfl, _⟩ | ⟨rfl, rfl, _⟩ | ⟨rfl, _⟩
  · exact ⟨0, rfl, fun h => by cases h⟩
  · exact ⟨3, rfl, fun h => rfl⟩
  · exact ⟨1, rfl, fun h => rfl⟩
  · exact ⟨0, rfl, fun h => rfl⟩
  · exact ⟨1, rfl, fun h => rfl⟩
  · exact ⟨0, rfl, fun h => rfl⟩
  · exact ⟨0, rfl, fun h => rfl⟩
  · exact ⟨0, rfl, fun h => by cases h⟩
theorem cut_nat {xs : List V} {b n : Nat} (h : b + n ≤ xs.length) : cutV xs (some (b : Int)) (some ((b + n : Nat) : Int)) = (xs.drop b).take n := by
  unfold cutV
  have h1 : min b xs.length = b := Nat.min_eq_left (by omega)
  have h2 : min (b + n) xs.length = b + n := Nat.min_eq_left h
  rw [HT.sIx_nat, HT.sIx_nat, h1, h2, Nat.add_sub_cancel_left]
theorem drop_get {ns x : List Nat} {a i : Nat} (h : ns.drop a = x) : ns[a + i]? = x[i]? := by rw [← h, List.getElem?_drop]
section
variable {K : PySem.W.Frag} {σ : L2.St} {H H' : Hp} {ta tb te : TE} {v : V} {D : Ends} {tu tz : TS}
theorem qz_app {l : Addr} {xs : List V} (hl : H l = some (.lst xs)) (ha : Ev ta σ H (.ref l)) (h : Ev te σ H v) (hz : xs.length < sizeLine) (k : ∀ H1, Ex H H1 → tz D σ (upd H1 l (.lst (xs ++ [v])))) :
    tSeq (tDrop (tBM K "list" rAppend ta (tCons te tNil))) tz D σ H := z_app (D := { D with nx := tz D }) hl ha h hz k
theorem q_ext2 {l b : Addr} {xs zs : List V} (hl : H l = some (.lst xs)) (ha : Ev ta σ H (.ref l)) (h : Ev te σ H (.ref b)) (hb : H b = some (.lst zs)) (hz : xs.length + zs.length ≤ sizeLine) (k : ∀ H1, Ex H H1 → tz D σ (upd H1 l (.lst (xs ++ zs)))) :
    tSeq (tDrop (tBM K "list" rExtend ta (tCons te tNil))) tz D σ H := ha H (Ex.refl H) _ fun H1 e1 =>
  ⟨.inl ⟨rfl, xs, sq_of (e1 l _ hl)⟩, h H1 e1 _ fun H2 e2 => ⟨l, b, xs, zs, rfl, rfl, e2 l _ (e1 l _ hl), e2 b _ (e1 b _ hb), hz, k H2 (e1.trans e2)⟩⟩
end
def spAnswers (K : PySem.W.Frag) : Sp := fun vs H Q _ => ∃ (a : Addr) (ns : List Nat) (o : List Int), vs = [.ref a] ∧ NL K H a ns ∧ Plays Wf06.init ns o ∧ o.length ≤ 10000000 ∧
  ∀ H' r, Ex H H' → H' r = some (.lst (o.map V.int)) → Q (.ref r) H'
section
variable {P : Program} {w : World} {K : PySem.W.Frag} {mg : Str → Option Value} {base : Heap} {D : Ad} {f : Addr} {fd : FuncData}
theorem scAnswers : FnScope ["calls", "service", "found", "at", "many", "has_row", "begin", "end", "told"] ["calls"] (defScope sAnswers) := ⟨rfl, rfl, rfl, by decide +kernel, rfl, by decide +kernel, by decide +kernel⟩
theorem ok_answers (F : Fun K "answers" "answers" sAnswers f fd) (T : Txt K mg D) (hc : HasC P w K mg base "Service" D.V 5 ["self"] (spVInit K D)) (ha : HasM P w K mg base D.V "answer" 27 ["self", "call", "given"] (spM K D (aAns K))) :
    FnOk P w K mg base CX0 28 f fd ["calls"] (spAnswers K) := by
  refine F.ok scAnswers (fun vs H Q E h => ?_) (fun cdv A outer s H vs Q E hr h => ?_)
  · obtain ⟨a, ns, o, rfl, _⟩ := h
    rfl
  · obtain ⟨a, ns, o, rfl, hns, hpl, hol, q⟩ := h
    have nd := scAnswers.nd
    obtain ⟨ss, hss, hps⟩ := T.shapes
    refine ⟨_, pss_cons (ps_set (i := 1) nd rfl (.inl rfl) (pe_c0 hc (hr.mono (by decide)) rfl))
      (pss_cons (ps_set (i := 2) nd rfl (.inl rfl) (pe_lst pa_nil))
      (pss_cons (ps_set (i := 3) nd rfl (.inl rfl) pe_int)
      (pss_cons (ps_while PassesOwn.never (pt_cmpR op_lt (pv 3) (pe_callB call_len_seq (by rfl) T.len PySem.boot_len (pa_cons (pv 0) pa_nil)) (nomark _))
        (pss_cons (ps_asg (pe_ix ix_tup (pe_glob (v := .ref D.shapes) rfl T.gShapes rfl) (pe_ix ix_list (pv 0) (pv 3) (fun _ _ => rfl)) (fun _ _ => rfl)) (pg_tup rfl (pgs_cons (pg_name (i := 4) nd rfl (.inl rfl)) (pgs_cons (pg_name (i := 5) nd rfl (.inl rfl)) pgs_nil))))
        (pss_cons (ps_set (i := 6) nd rfl (.inl rfl) (pe_ifExp (pt_val (pv 5)) (pe_op op_add (pv 3) pe_int) (pe_op op_add (pv 3) pe_int)))
        (pss_cons (ps_set (i := 7) nd rfl (.inl rfl) (pe_op op_add (pv 6) (pe_ifExp (pt_val (pv 5)) (pe_ix ix_list (pv 0) (pe_op op_add (pv 3) pe_int) (fun _ _ => rfl)) (pv 4))))
        (pss_cons (ps_set (i := 8) nd rfl (.inl rfl) (pe_m (pv 1) T.cV ha hr (pa_cons (pe_ix ix_list (pv 0) (pv 3) (fun _ _ => rfl)) (pa_cons (pe_slice sl_list (pv 0) (po_some (pv 6)) (po_some (pv 7))) pa_nil))))
        (pss_cons (ps_app (pv 2) (pe_callB call_len_seq (by rfl) T.len PySem.boot_len (pa_cons (pv 8) pa_nil)))
        (pss_cons (ps_ext (pv 2) (pv 8))
        (pss_one (ps_set (i := 3) nd rfl (.inl rfl) (pv 7))))))))))
      (pss_one (ps_ret (pv 2)))))), ?_⟩
    have hlen : (ns.map nV).length = ns.length := List.length_map ..
    refine fun x dx nx ndx ndd => ?_
    have eN : Ex H (upd (upd H dx (.own x)) x (.ins D.V dx [])) := (Ex.new ndx).trans (Ex.new (by rw [upd_ne (Ne.symm ndd)]; exact nx))
    refine ⟨x, dx, rfl, upd_same, fun H1 mk keep => ⟨rfl, ?_⟩⟩
    have e1 : Ex H H1 := fun b o hb => keep b o (eN _ _ hb) (ne_of_none hb nx)
    have mk' : ∀ G H'', Ex H1 H'' → Sub G H'' → (∀ b, H b = none → H1 b ≠ none → G b = none) → SvAt K D G H'' x Wf06.init := fun G H'' e g gn => by
      have nX : H1 x ≠ none := by
        obtain ⟨_, _, dx, _, _, hx, _⟩ := mk G0 H1 (Ex.refl _) (fun _ _ => rfl) (fun _ _ _ => rfl) rfl
        rw [hx]; intro z; cases z
      refine mk G H'' e g (fun b hb hb1 => gn b (fresh_back eN hb) hb1) (gn x nx nX)
    refine q_asgL (el_lst ea_nil (by decide : 0 ≤ 100000)) fun l H2 nl e2 hl => ?_
    have nlH : H l = none := fresh_back e1 nl
    have hG : ∃ G : Hp, G l = some (.lst []) ∧ ∀ b, b ≠ l → G b = H b := ⟨fun b => if b = l then some (.lst []) else H b, if_pos rfl, fun b nb => if_neg nb⟩
    obtain ⟨G, gl, gb⟩ := hG
    have sv : SvAt K D G H2 x Wf06.init := by
      refine mk' G H2 e2 (fun b hb => ?_) (fun b hb hb1 => ?_)
      · have nb : b ≠ l := fun z => by rw [z, hl] at hb; cases hb
        rw [gb b nb]; exact fresh_back (e1.trans e2) hb
      · rw [gb b (fun z => hb1 (by rw [z]; exact nl))]; exact hb
    have stayH : ∀ {Ha Hb : Hp}, Ex H Ha → Stay G Ha Hb → Ex H Hb := fun ea st b o hb => by
      refine st b o ?_ (ea b o hb)
      by_cases c : b = l
      · rw [c, gl]; intro z; cases z
      · rw [gb b c, hb]; intro z; cases z
    have e12 := e1.trans e2
    refine q_asg (v := nV 0) ev_c fun H3 e3 => ?_
    refine q_while (fun m σ H' => ∃ (h : House) (at' : Nat) (acc o' : List Int) (u4 u5 u6 u7 u8 : Option V), σ = [some (.ref a), some (.ref x), some (.ref l), some (nV at'), u4, u5, u6, u7, u8] ∧ m = ns.length - at' ∧ at' ≤ ns.length ∧ Plays h (ns.drop at') o' ∧ o = acc ++ o' ∧ SvAt K D G H' x h ∧ H' l = some (.lst (acc.map V.int)) ∧ Ex H H') (ns.length - 0) ?_ (fun m σ H' h => ?_)
    · exact ⟨Wf06.init, 0, [], o, none, none, none, none, none, rfl, rfl, Nat.zero_le _, by rw [List.drop_zero]; exact hpl, rfl, sv.ex e3, e3 _ _ hl, e12.trans e3⟩
    · obtain ⟨h, at', acc, o', u4, u5, u6, u7, u8, rfl, rfl, hat, hp, ho, sv, hl, e⟩ := h
      refine ⟨_, et_cmp (ev_var rfl) (ev_lenL (ev_var rfl) (hns.ex e) hlen) rv_ltN, fun hb H4 e4 => ?_, fun hb H4 e4 => ?_⟩
      · rw [decide_eq_true_iff] at hb
        refine ⟨fun σ2 H2 => ∃ m', m' < ns.length - at' ∧ ∃ (h : House) (at' : Nat) (acc o' : List Int) (u4 u5 u6 u7 u8 : Option V), σ2 = [some (.ref a), some (.ref x), some (.ref l), some (nV at'), u4, u5, u6, u7, u8] ∧ m' = ns.length - at' ∧ at' ≤ ns.length ∧ Plays h (ns.drop at') o' ∧ o = acc ++ o' ∧ SvAt K D G H2 x h ∧ H2 l = some (.lst (acc.map V.int)) ∧ Ex H H2, fun _ _ h => h, ?_⟩
        generalize hd : ns.drop at' = X at hp
        cases hp with
        | nil =>
          have := congrArg List.length hd
          rw [List.length_drop] at this
          simp at this
          omega
        | @cons _ k args rest c o2 hc hp2 =>
          obtain ⟨mm, hsh, hmm⟩ := cal_sh hc
          obtain ⟨sa, hsa, hsp⟩ := paired_get hps hsh
          have eA := e.trans e4
          have hk : ns[at']? = some k := by
            have := drop_get (i := 0) hd
            rw [Nat.add_zero] at this
            rw [this]
            unfold enc
            split <;> rfl
          have beg : ∃ b, b = (if rowed k = true then at' + 2 else at' + 1) ∧ ns.drop b = args ++ rest := by
            refine ⟨_, rfl, ?_⟩
            by_cases c : rowed k = true
            · rw [if_pos c, ← List.drop_drop, hd, enc, if_pos c]; rfl
            · rw [if_neg c, ← List.drop_drop, hd, enc, if_neg c]; rfl
          obtain ⟨b, eb, hb2⟩ := beg
          have hbl : b + args.length ≤ ns.length ∧ at' < b := by
            have h1 := congrArg List.length hb2
            rw [List.length_drop, List.length_append] at h1
            have h2 : at' < b := by rw [eb]; split <;> omega
            have h3 := congrArg List.length hd
            rw [List.length_drop, List.length_append, enc] at h3
            refine ⟨?_, h2⟩
            by_cases c : rowed k = true
            · rw [if_pos c] at h3 eb
              simp only [List.length_cons] at h3
              omega
            · rw [if_neg c] at h3 eb
              simp only [List.length_cons] at h3
              omega
          refine ev_ixT (ev_c (v := .ref D.shapes)) (ev_ixL (ev_var rfl) (ev_var rfl) (hns.ex eA) (nl_get hk)) (hss H4) (v := .ref sa) (by rw [List.getElem?_map, hsa]; rfl) H4 (Ex.refl _) _ fun H5 e5 => ?_
          refine ⟨sa, _, rfl, hsp H5, rfl, _, _, rfl, _, _, rfl, rfl, ?_⟩
          have eB := eA.trans e5
          refine q_asg (v := nV b) (ev_if (et_B (ev_var rfl)) (fun (z : rowed k = true) => ev_is (ev_add (j := 2) (ev_var rfl) ev_c) (by rw [eb, if_pos z])) (fun (z : rowed k = false) => ev_is (ev_add (j := 1) (ev_var rfl) ev_c) (by rw [eb, z]; rfl))) fun H6 e6 => ?_
          have eC := eB.trans e6
          refine q_asg (v := nV (b + args.length)) (ev_add (ev_var rfl) (ev_if (et_B (ev_var rfl)) (fun (z : rowed k = true) => ev_ixL (ev_var rfl) (ev_add (j := 1) (ev_var rfl) ev_c) (hns.ex eC) (nl_get ?_)) (fun (z : rowed k = false) => ev_is (ev_var rfl) (by rw [hmm z])))) fun H7 e7 => ?_
          · rw [drop_get (i := 1) hd, enc, if_pos z]; rfl
          have eD := eC.trans e7
          have e47 := ((e4.trans e5).trans e6).trans e7
          have svD := sv.ex e47
          obtain ⟨_, _, dxx, _, _, hx0, _⟩ := id svD
          refine ⟨_, rfl, x, dxx, _, rfl, hx0, vF_m, ?_⟩
          refine ev_ixL (ev_var rfl) (ev_var rfl) (hns.ex eD) (nl_get hk) H7 (Ex.refl _) _ fun H8 e8 => ?_
          refine el_sl (ev_var rfl) (eo_some (ev_var rfl)) (eo_some (ev_var rfl)) (hns.ex eD) H8 e8 _ fun p H9 np e9 hp9 => ?_
          rw [cut_nat (by rw [hlen]; exact hbl.1), ← List.map_drop, hb2, ← List.map_take, List.take_left] at hp9
          have e79 := e8.trans e9
          refine ⟨x, G, h, c, _, ⟨k, p, args, rfl, sq_of hp9, hc⟩, rfl, svD.ex e79, fun H10 r sv10 st gr hr => ?_⟩
          have hl9 : H9 l = some (.lst (acc.map V.int)) := (e47.trans e79) _ _ hl
          have hl10 : H10 l = some (.lst (acc.map V.int)) := st l _ (by rw [gl]; intro z; cases z) hl9
          have nrl : r ≠ l := fun z => by rw [z, gl] at gr; cases gr
          have eE := stayH (eD.trans e79) st
          have hlo := congrArg List.length ho
          rw [List.length_append, List.length_append, told1, List.length_cons] at hlo
          have zl : sizeLine = 16777216 := sizeLine_eq
          have hov : (outV h c).length = (Wf06Neutral.out (Wf06.step h c).2).length := List.length_map ..
          refine qz_app hl10 (ev_var rfl) (ev_lenL (ev_var rfl) (sq_of hr) hov) (by rw [List.length_map]; omega) fun H11 e11 => ?_
          have hl11 := e11 _ _ hl10
          have hr12 : upd H11 l (.lst (acc.map V.int ++ [nV (Wf06Neutral.out (Wf06.step h c).2).length])) r = some (.lst (outV h c)) := by rw [upd_ne nrl]; exact e11 _ _ hr
          have sv12 := (sv10.ex e11).upd (o := .lst (acc.map V.int ++ [nV (Wf06Neutral.out (Wf06.step h c).2).length])) gl hl11 trivial
          have eF := (eE.trans e11).mut nlH (o := .lst (acc.map V.int ++ [nV (Wf06Neutral.out (Wf06.step h c).2).length]))
          refine q_ext2 upd_same (ev_var rfl) (ev_var rfl) hr12 (by rw [List.length_append, List.length_map, hov]; simp only [List.length_cons, List.length_nil]; omega) fun H13 e13 => ?_
          have sv14 := (sv12.ex e13).upd (o := .lst (acc.map V.int ++ [nV (Wf06Neutral.out (Wf06.step h c).2).length] ++ outV h c)) gl (e13 _ _ upd_same) trivial
          have eG := (eF.trans e13).mut nlH (o := .lst (acc.map V.int ++ [nV (Wf06Neutral.out (Wf06.step h c).2).length] ++ outV h c))
          refine s_asg (v := nV (b + args.length)) (ev_var rfl) fun H15 e15 => ?_
          refine ⟨ns.length - (b + args.length), by omega, (Wf06.step h c).1, b + args.length, acc ++ told1 h c, o2, _, _, _, _, _, rfl, rfl, hbl.1, ?_, by rw [ho, List.append_assoc], sv14.ex e15, ?_, eG.trans e15⟩
          · rw [← List.drop_drop, hb2, List.drop_left]; exact hp2
          · rw [e15 _ _ upd_same, List.map_append, told1, List.append_assoc]; rfl
      · rw [decide_eq_false_iff_not] at hb
        have hz : ns.drop at' = [] := List.drop_eq_nil_of_le (by omega)
        rw [hz] at hp
        generalize hX : ([] : List Nat) = X at hp
        cases hp with
        | nil =>
          rw [List.append_nil] at ho
          refine s_ret (ev_var rfl) fun H5 e5 => q H5 l ((e.trans e4).trans e5) ?_
          rw [ho]; exact e5 _ _ (e4 _ _ hl)
        | @cons _ k args rest c o2 hc hp2 =>
          have hX := congrArg List.length hX
          unfold enc at hX
          rw [List.length_append] at hX
          split at hX <;> simp only [List.length_cons, List.length_nil] at hX <;> omega
end
end Fr
/-! The plain law: what is asked is played. -/
namespace Fr
open Wf06 (Book Point House)
def zz (ns : List Nat) : List Int := ns.map fun (n : Nat) => (n : Int)
theorem zz_nats : ∀ {l : List Int}, (∀ z ∈ l, 0 ≤ z) → zz (Wf06Neutral.nats l) = l
  | [], _ => rfl
  | z :: r, h => by
    show ((z.toNat : Nat) : Int) :: zz (Wf06Neutral.nats r) = z :: r
    rw [zz_nats (fun y hy => h y (List.mem_cons_of_mem _ hy)), Int.toNat_of_nonneg (h z (List.mem_cons_self ..))]
theorem zz_app (a b : List Nat) : zz (a ++ b) = zz a ++ zz b := List.map_append
theorem w32 {z : Int} (h : Wf06Neutral.whole32 z = true) : 0 ≤ z := by
  unfold Wf06Neutral.whole32 at h
  rw [Bool.and_eq_true, decide_eq_true_iff] at h
  exact h.1
theorem r32 {l : List Int} {n : Nat} (h : Wf06Neutral.row32 l n = true) : l.length ≤ n ∧ ∀ z ∈ l, 0 ≤ z := by
  unfold Wf06Neutral.row32 at h
  rw [Bool.and_eq_true, decide_eq_true_iff, List.all_eq_true] at h
  exact ⟨h.1, fun z hz => w32 (h.2 z hz)⟩
theorem z_of {a : Int} (h : 0 ≤ a) : ((a.toNat : Nat) : Int) = a := Int.toNat_of_nonneg h
theorem frow_of {r x t : List Int} (h : PyFlat.rows 1 r = some ([x], t)) : r = (x.length : Int) :: (x ++ t) := by
  unfold PyFlat.rows at h
  unfold PyFlat.row at h
  cases r with
  | nil => cases h
  | cons m r' =>
    by_cases c : 0 ≤ m ∧ m.toNat ≤ r'.length
    · simp only [if_pos c, PyFlat.rows, Option.some.injEq, Prod.mk.injEq, List.cons.injEq, and_true] at h
      obtain ⟨rfl, rfl⟩ := h
      rw [List.take_append_drop, List.length_take, Nat.min_eq_left c.2, Int.toNat_of_nonneg c.1]
    · simp only [if_neg c] at h
      cases h
theorem rows_one {r : List Int} {xs : List (List Int)} {t : List Int} (h : PyFlat.rows 1 r = some (xs, t)) : ∃ x, xs = [x] := by
  unfold PyFlat.rows at h
  cases e : PyFlat.row r with
  | none => rw [e] at h; cases h
  | some y =>
    rw [e] at h
    simp only [PyFlat.rows, Option.some.injEq, Prod.mk.injEq] at h
    exact ⟨_, h.1.symm⟩
theorem one_row {p : Int} {r t : List Int} {c : List (List Int)} (hs : PyWf06.shape p = some (0, 1)) (h : PyFlat.call PyWf06.shape (p :: r) = some (c, t)) : ∃ x, c = [[p], x] ∧ r = (x.length : Int) :: (x ++ t) := by
  simp only [PyFlat.call, hs, List.drop_zero, if_neg (Nat.not_lt_zero _)] at h
  cases e : PyFlat.rows 1 r with
  | none => rw [e] at h; cases h
  | some y =>
    obtain ⟨xs, t'⟩ := y
    rw [e] at h
    simp only [Option.some.injEq, Prod.mk.injEq, List.take_zero] at h
    obtain ⟨rfl, rfl⟩ := h
    obtain ⟨x, rfl⟩ := rows_one e
    exact ⟨x, rfl, frow_of e⟩
theorem one_nums {p : Int} {r t : List Int} {c : List (List Int)} {n : Nat} (hs : PyWf06.shape p = some (n, 0)) (h : PyFlat.call PyWf06.shape (p :: r) = some (c, t)) : ∃ x, x.length = n ∧ c = [p :: x] ∧ r = x ++ t := by
  simp only [PyFlat.call, hs] at h
  by_cases hn : r.length < n
  · simp only [if_pos hn] at h
    cases h
  · simp only [if_neg hn, PyFlat.rows, Option.some.injEq, Prod.mk.injEq] at h
    obtain ⟨rfl, rfl⟩ := h
    exact ⟨r.take n, by rw [List.length_take]; omega, rfl, (List.take_append_drop n r).symm⟩
/-- one call -/
theorem one {l t : List Int} {c : List (List Int)} (h : PyFlat.call PyWf06.shape l = some (c, t)) (ha : Wf06Neutral.asked1 (PyWf06.whole c) = true) :
    ∃ k args w, l = zz (enc k args) ++ t ∧ Cal k args w ∧ Wf06Neutral.callOf (PyWf06.whole c) = some w := by
  cases l with
  | nil => cases h
  | cons p r =>
    have s : p = 0 ∨ p = 1 ∨ p = 2 ∨ p = 3 ∨ p = 4 ∨ p = 5 ∨ p = 6 ∨ p = 7 := by
      by_cases c : p = 0 ∨ p = 1 ∨ p = 2 ∨ p = 3 ∨ p = 4 ∨ p = 5 ∨ p = 6 ∨ p = 7
      · exact c
      · have e : PyWf06.shape p = none := by
          unfold PyWf06.shape
          rw [if_neg (by omega), if_neg (by omega), if_neg (by omega), if_neg (by omega), if_neg (by omega), if_neg (by omega), if_neg (by omega), if_neg (by omega)]
        simp only [PyFlat.call, e] at h
        cases h
    rcases s with rfl | rfl | rfl | rfl | rfl | rfl | rfl | rfl
    · obtain ⟨x, rfl, rfl⟩ := one_row rfl h
      obtain ⟨h1, h2⟩ := r32 (show Wf06Neutral.row32 x 100 = true from ha)
      refine ⟨0, Wf06Neutral.nats x, _, ?_, .inl ⟨rfl, by unfold Wf06Neutral.nats; rw [List.length_map]; exact h1, rfl⟩, rfl⟩
      show _ = ((0 : Int) :: (((Wf06Neutral.nats x).length : Nat) : Int) :: zz (Wf06Neutral.nats x)) ++ t
      rw [zz_nats h2, show (Wf06Neutral.nats x).length = x.length from List.length_map ..]
      rfl
    · obtain ⟨x, hx, rfl, rfl⟩ := one_nums (n := 3) rfl h
      match x, hx with
      | [a, b, d], _ =>
        have ha' : (Wf06Neutral.whole32 a && (Wf06Neutral.whole32 b && Wf06Neutral.whole32 d)) = true := ha
        rw [Bool.and_eq_true, Bool.and_eq_true] at ha'
        refine ⟨1, [a.toNat, b.toNat, d.toNat], _, ?_, .inr (.inl ⟨rfl, _, _, _, rfl, rfl⟩), rfl⟩
        show _ = [(1 : Int), ((a.toNat : Nat) : Int), ((b.toNat : Nat) : Int), ((d.toNat : Nat) : Int)] ++ t
        rw [z_of (w32 ha'.1), z_of (w32 ha'.2.1), z_of (w32 ha'.2.2)]
        rfl
    · obtain ⟨x, hx, rfl, rfl⟩ := one_nums (n := 1) rfl h
      match x, hx with
      | [a], _ =>
        have ha' : Wf06Neutral.whole32 a = true := ha
        refine ⟨2, [a.toNat], _, ?_, .inr (.inr (.inl ⟨rfl, _, rfl, rfl⟩)), rfl⟩
        show _ = [(2 : Int), ((a.toNat : Nat) : Int)] ++ t
        rw [z_of (w32 ha')]
        rfl
    · obtain ⟨x, hx, rfl, rfl⟩ := one_nums (n := 0) rfl h
      match x, hx with
      | [], _ => exact ⟨3, [], _, rfl, .inr (.inr (.inr (.inl ⟨rfl, rfl, rfl⟩))), rfl⟩
    · obtain ⟨x, hx, rfl, rfl⟩ := one_nums (n := 1) rfl h
      match x, hx with
      | [a], _ =>
        have ha' : Wf06Neutral.whole32 a = true := ha
        refine ⟨4, [a.toNat], _, ?_, .inr (.inr (.inr (.inr (.inl ⟨rfl, _, rfl, rfl⟩)))), rfl⟩
        show _ = [(4 : Int), ((a.toNat : Nat) : Int)] ++ t
        rw [z_of (w32 ha')]
        rfl
    · obtain ⟨x, hx, rfl, rfl⟩ := one_nums (n := 0) rfl h
      match x, hx with
      | [], _ => exact ⟨5, [], _, rfl, .inr (.inr (.inr (.inr (.inr (.inl ⟨rfl, rfl, rfl⟩))))), rfl⟩
    · obtain ⟨x, hx, rfl, rfl⟩ := one_nums (n := 0) rfl h
      match x, hx with
      | [], _ => exact ⟨6, [], _, rfl, .inr (.inr (.inr (.inr (.inr (.inr (.inl ⟨rfl, rfl, rfl⟩)))))), rfl⟩
    · obtain ⟨x, rfl, rfl⟩ := one_row rfl h
      obtain ⟨h1, h2⟩ := r32 (show Wf06Neutral.row32 x 100 = true from ha)
      refine ⟨7, Wf06Neutral.nats x, _, ?_, .inr (.inr (.inr (.inr (.inr (.inr (.inr ⟨rfl, by unfold Wf06Neutral.nats; rw [List.length_map]; exact h1, rfl⟩)))))), rfl⟩
      show _ = ((7 : Int) :: (((Wf06Neutral.nats x).length : Nat) : Int) :: zz (Wf06Neutral.nats x)) ++ t
      rw [zz_nats h2, show (Wf06Neutral.nats x).length = x.length from List.length_map ..]
      rfl
theorem played_all : ∀ (f : Nat) (l : List Int) (raw : List (List (List Int))) (h : House), PyFlat.calls PyWf06.shape f l = some raw → (raw.map PyWf06.whole).all Wf06Neutral.asked1 = true →
    ∃ ns, l = zz ns ∧ Plays h ns (PyFlat.told (PyFlat.played Wf06Neutral.step h (raw.map PyWf06.whole)))
  | f, [], raw, h, hc, _ => by
    have : raw = [] := by cases f <;> exact (Option.some.inj hc).symm
    subst this
    exact ⟨[], rfl, .nil⟩
  | 0, p :: r, raw, h, hc, _ => by cases hc
  | f + 1, p :: r, raw, h, hc, ha => by
    unfold PyFlat.calls at hc
    cases e1 : PyFlat.call PyWf06.shape (p :: r) with
    | none => rw [e1] at hc; cases hc
    | some y =>
      obtain ⟨c, t⟩ := y
      rw [e1] at hc
      cases e2 : PyFlat.calls PyWf06.shape f t with
      | none => simp only [e2] at hc; cases hc
      | some cs =>
        simp only [e2, Option.some.injEq] at hc
        subst hc
        rw [List.map_cons, List.all_cons, Bool.and_eq_true] at ha
        obtain ⟨k, args, w, el, hcal, hw⟩ := one e1 ha.1
        obtain ⟨ns, et, hp⟩ := played_all f t cs (Wf06.step h w).1 e2 ha.2
        refine ⟨enc k args ++ ns, by rw [el, et, zz_app], ?_⟩
        have hst : Wf06Neutral.step h (PyWf06.whole c) = ((Wf06.step h w).1, Wf06Neutral.out (Wf06.step h w).2) := by
          unfold Wf06Neutral.step
          rw [hw]
        have e3 : PyFlat.told (PyFlat.played Wf06Neutral.step h ((c :: cs).map PyWf06.whole)) = told1 h w ++ PyFlat.told (PyFlat.played Wf06Neutral.step (Wf06.step h w).1 (cs.map PyWf06.whole)) := by
          rw [List.map_cons]
          show PyFlat.told ((Wf06Neutral.step h (PyWf06.whole c)).2 :: PyFlat.played Wf06Neutral.step (Wf06Neutral.step h (PyWf06.whole c)).1 (cs.map PyWf06.whole)) = _
          rw [hst]
          show PyFlat.told (Wf06Neutral.out (Wf06.step h w).2 :: PyFlat.played Wf06Neutral.step (Wf06.step h w).1 (cs.map PyWf06.whole)) = _
          unfold PyFlat.told
          rw [List.flatMap_cons]
          rfl
        rw [e3]
        exact .cons hcal hp
theorem the_law {l : List Int} (h : PyWf06.answers_asked l = true) : ∃ ns, l = zz ns ∧ Plays Wf06.init ns (PyWf06.answers l) ∧ (PyWf06.answers l).length ≤ 10000000 := by
  unfold PyWf06.answers_asked at h
  cases e : PyFlat.calls PyWf06.shape l.length l with
  | none => rw [e] at h; cases h
  | some raw =>
    rw [e] at h
    simp only [Bool.and_eq_true] at h
    obtain ⟨⟨_, hask⟩, hshort⟩ := h
    have hall : (raw.map PyWf06.whole).all Wf06Neutral.asked1 = true := by
      unfold Wf06Neutral.asked at hask
      rw [Bool.and_eq_true] at hask
      exact hask.1
    obtain ⟨ns, h1, h2⟩ := played_all l.length l raw Wf06.init e hall
    have ea : PyWf06.answers l = PyFlat.told (PyFlat.played Wf06Neutral.step Wf06Neutral.start (raw.map PyWf06.whole)) := by
      unfold PyWf06.answers PyWf06.calls
      rw [e]
    refine ⟨ns, h1, by rw [ea]; exact h2, ?_⟩
    exact of_decide_eq_true hshort
end Fr
/-! The end: what the top has written; every def holds its promise. -/
namespace Fr
open PySem PySem.Spec PyProof.Rows L2 Evl
section
variable {K : PySem.W.Frag}
def Bd (fd : FuncData) (ps : List Str) : Prop := ∀ us : List Value, us.length = ps.length → bindArgs fd ⟨us, []⟩ = pure (ps.zip us)
def GF (K : PySem.W.Frag) (x : Str) (st : Stmt) (ps : List Str) : Prop := ∃ f fd, PySem.W.nsIn K mainGlobals x = some (some (.ref f)) ∧ Fun K x x st f fd ∧ Bd fd ps
def GM (K : PySem.W.Frag) (C : Addr) (m q : Str) (st : Stmt) (ps : List Str) : Prop := ∃ f fd, PySem.W.findIn K (.ref C) m = some (some (.ref f)) ∧ PySem.W.isFn K (.ref f) = true ∧ Fun K m q st f fd ∧ Bd fd ps
theorem gf_mk {x : Str} {st : Stmt} {ps : List Str} {f : Addr} {oc : Value} {od an : Option Addr} {osl : Array (Option Value)} {kV doc pm cdv ct : Value}
    (h : ∀ (kV doc pm : Value) (an : Option Addr) (cdv ct : Value) (us : List Value), us.length = ps.length → bindArgs (PySem.W.fnOf x x (defArgs st) (defBody st) (defScope st) .none kV doc pm an cdv ct) ⟨us, []⟩ = pure (ps.zip us))
    (a : PySem.W.nsIn K mainGlobals x = some (some (.ref f))) (l : K.lookup f = some ⟨oc, od, .func (PySem.W.fnOf x x (defArgs st) (defBody st) (defScope st) .none kV doc pm an cdv ct), osl⟩) (c : PySem.W.codeIn K cdv x = true) (k : PySem.W.keepIn K (.ref f) = true) : GF K x st ps :=
  ⟨f, _, a, fun_mk l c k, h kV doc pm an cdv ct⟩
theorem gm_mk {C : Addr} {x q : Str} {st : Stmt} {ps : List Str} {f : Addr} {oc : Value} {od an : Option Addr} {osl : Array (Option Value)} {kV doc pm cdv ct : Value}
    (h : ∀ (kV doc pm : Value) (an : Option Addr) (cdv ct : Value) (us : List Value), us.length = ps.length → bindArgs (PySem.W.fnOf x q (defArgs st) (defBody st) (defScope st) .none kV doc pm an cdv ct) ⟨us, []⟩ = pure (ps.zip us))
    (a : PySem.W.findIn K (.ref C) x = some (some (.ref f))) (i : PySem.W.isFn K (.ref f) = true) (l : K.lookup f = some ⟨oc, od, .func (PySem.W.fnOf x q (defArgs st) (defBody st) (defScope st) .none kV doc pm an cdv ct), osl⟩) (c : PySem.W.codeIn K cdv q = true) (k : PySem.W.keepIn K (.ref f) = true) : GM K C x q st ps :=
  ⟨f, _, a, i, fun_mk l c k, h kV doc pm an cdv ct⟩
structure CF (K : PySem.W.Frag) (x : Str) (C : Addr) : Prop where
  ns : PySem.W.nsIn K mainGlobals x = some (some (.ref C))
  cls : Cls K C
  mks : PySem.W.makesIn K C = true
  kc : PySem.W.keepIn K (.ref C) = true
theorem cf_mk {x : Str} {C : Addr} (a : PySem.W.nsIn K mainGlobals x = some (some (.ref C))) (pg : PySem.W.plainGet K C Str.empty = true) (hd : PySem.W.hasDictIn K C = true) (po : PySem.W.plainOver K C = true)
    (sa : PySem.W.findIn K (.ref C) "__setattr__" = some (some (.builtin "object.__setattr__"))) (mk : PySem.W.makesIn K C = true) (kc : PySem.W.keepIn K (.ref C) = true) : CF K x C := ⟨a, ⟨pg, hd, po, sa⟩, mk, kc⟩
def CK (K : PySem.W.Frag) (x : Str) (i : Int) : Prop := ∃ t, PySem.W.nsIn K mainGlobals x = some (some (.int i t))
def TK (K : PySem.W.Frag) (a : Addr) (xs : List V) : Prop := ∀ H, SqT K H a xs
theorem tk_mk {a : Addr} {xs : List V} {od : Option Addr} {n : Nat} {sl : Array (Option Value)} {its : Array Value} (l : K.lookup a = some ⟨.type "tuple", od, .seq its n, sl⟩) (hz : its.size ≤ sizeLine) (v : Vals xs its.toList) : TK K a xs := fun _ => .inr ⟨_, its, n, l, rfl, rfl, hz, v⟩
theorem ck_mk {x : Str} {i : Int} {t} (a : PySem.W.nsIn K mainGlobals x = some (some (.int i t))) : CK K x i := ⟨t, a⟩
theorem tk_ii {a : Addr} {i j : Int} {od : Option Addr} {n : Nat} {sl : Array (Option Value)} {t u} (l : K.lookup a = some ⟨.type "tuple", od, .seq #[.int i t, .int j u] n, sl⟩) : TK K a [.int i, .int j] := tk_mk l (by show 2 ≤ sizeLine; decide) (.cons ⟨_, rfl⟩ (.cons ⟨_, rfl⟩ .nil))
theorem tk_ib {a : Addr} {i : Int} {b : Bool} {od : Option Addr} {n : Nat} {sl : Array (Option Value)} {t} (l : K.lookup a = some ⟨.type "tuple", od, .seq #[.int i t, .bool b] n, sl⟩) : TK K a [.int i, .bl b] := tk_mk l (by show 2 ≤ sizeLine; decide) (.cons ⟨_, rfl⟩ (.cons rfl .nil))
theorem tk_8 {a s0 s1 s2 s3 s4 s5 s6 s7 : Addr} {od : Option Addr} {n : Nat} {sl : Array (Option Value)} (l : K.lookup a = some ⟨.type "tuple", od, .seq #[.ref s0, .ref s1, .ref s2, .ref s3, .ref s4, .ref s5, .ref s6, .ref s7] n, sl⟩) : TK K a [.ref s0, .ref s1, .ref s2, .ref s3, .ref s4, .ref s5, .ref s6, .ref s7] :=
  tk_mk l (by show 8 ≤ sizeLine; decide) (.cons rfl (.cons rfl (.cons rfl (.cons rfl (.cons rfl (.cons rfl (.cons rfl (.cons rfl .nil))))))))
variable {P : Program} {w : World} {mg : Str → Option Value} {base h : Heap}
theorem hf {x : Str} {st : Stmt} {ps : List Str} {k : Nat} {sp : Sp} (X : K.In h) (G : h.Ns mainGlobals mg) (g : GF K x st ps) (ok : ∀ f fd, Fun K x x st f fd → FnOk P w K mg base CX0 k f fd ps sp) : HasF P w K mg base x k ps sp := by
  obtain ⟨f, fd, a, F, b⟩ := g
  exact ⟨f, fd, ok f fd F, PySem.W.mg_of X G a, F.kp, .all b⟩
theorem hm {C : Addr} {x q : Str} {st : Stmt} {ps : List Str} {k : Nat} {sp : Sp} (g : GM K C x q st ps) (ok : ∀ f fd, Fun K x q st f fd → FnOk P w K mg base CX0 k f fd ps sp) : HasM P w K mg base C x k ps sp := by
  obtain ⟨f, fd, a, i, F, b⟩ := g
  exact ⟨f, fd, ok f fd F, ⟨a, i, F.kp⟩, .all b⟩
theorem hc {C : Addr} {x q : Str} {st : Stmt} {ps : List Str} {k : Nat} {sp : Sp} (X : K.In h) (G : h.Ns mainGlobals mg) (c : CF K x C) (g : GM K C "__init__" q st ps) (ok : ∀ f fd, Fun K "__init__" q st f fd → FnOk P w K mg base CX0 k f fd ps sp) : HasC P w K mg base x C k ps sp := by
  obtain ⟨f, fd, a, i, F, b⟩ := g
  exact ⟨f, fd, ok f fd F, ⟨c.mks, a, i, c.kc⟩, PySem.W.mg_of X G c.ns, .all b⟩
theorem ci {x : Str} {i : Int} (X : K.In h) (G : h.Ns mainGlobals mg) (c : CK K x i) : CI mg x i := let ⟨t, e⟩ := c; ⟨t, PySem.W.mg_of X G e⟩
end
theorem all_mk {P : Program} {w : World} {K : PySem.W.Frag} {h : Heap} {mg : Str → Option Value} {fa cP cJ cS cT cV nN nS s0 s1 s2 s3 s4 s5 s6 s7 : Addr} (X : K.In h) (G : h.Ns mainGlobals mg) (hfa : mg "answers" = some (.ref fa))
    (hcP : CF K "Process" cP)
    (hcJ : CF K "Judge" cJ)
    (hcS : CF K "Selection" cS)
    (hcT : CF K "Times" cT)
    (hcV : CF K "Service" cV)
    (g_is_leaf : GF K "is_leaf" sLeaf ["kind"])
    (g_seconds_of : GF K "seconds_of" sSeconds ["kinds"])
    (g_read : GF K "read" sRead ["numbers"])
    (g_is_capable : GF K "is_capable" sCapable ["kind", "first", "second"])
    (g_capables : GF K "capables" sCapables ["process"])
    (g_has_empty_loop : GF K "has_empty_loop" sHasEmpty ["process"])
    (g_front_of : GF K "front_of" sFrontOf ["pairs"])
    (g_joined : GF K "joined" sJoined ["kind", "one", "other"])
    (g_combined : GF K "combined" sCombined ["kind", "some", "others"])
    (g_parted : GF K "parted" sParted ["kind", "some", "others", "pair"])
    (g_is_run : GF K "is_run" sIsRun ["process", "run", "rounds"])
    (g_pair_of_run : GF K "pair_of_run" sPairOfRun ["run", "times"])
    (g_greater : GF K "greater" sGreater ["one", "other"])
    (g_loop_worst : GF K "loop_worst" sLoopWorst ["rounds", "first", "second"])
    (g_construct_worst : GF K "construct_worst" sConWorst ["kind", "rounds", "first", "second"])
    (g_worst_of : GF K "worst_of" sWorstOf ["process", "times"])
    (g_is_right : GF K "is_right" sIsRight ["process"])
    (g_answers : GF K "answers" sAnswers ["calls"])
    (m_P_init : GM K cP "__init__" "Process.__init__" sPInit ["self", "kinds", "steps"])
    (m_P_size : GM K cP "size" "Process.size" sSize ["self"])
    (m_J_init : GM K cJ "__init__" "Judge.__init__" sJInit ["self", "process", "run", "rounds"])
    (m_J_fits : GM K cJ "fits" "Judge.fits" sFits ["self", "place", "at"])
    (m_J_fits_of : GM K cJ "fits_of" "Judge.fits_of" sFitsOf ["self", "place", "at"])
    (m_J_loop_fits : GM K cJ "loop_fits" "Judge.loop_fits" sLoopFits ["self", "place", "at"])
    (m_J_goes_on : GM K cJ "goes_on" "Judge.goes_on" sGoesOn ["self", "place", "at", "turn"])
    (m_S_init : GM K cS "__init__" "Selection.__init__" sSInit ["self", "process", "times"])
    (m_S_whole : GM K cS "whole" "Selection.whole" sWhole ["self", "at"])
    (m_S_first : GM K cS "first" "Selection.first" sFirst ["self", "at"])
    (m_S_second : GM K cS "second" "Selection.second" sSecond ["self", "at"])
    (m_S_fronts_of : GM K cS "fronts_of" "Selection.fronts_of" sFrontsOf ["self", "at", "times"])
    (m_S_loop_fronts : GM K cS "loop_fronts" "Selection.loop_fronts" sLoopFronts ["self", "at", "rounds"])
    (m_S_run_of : GM K cS "run_of" "Selection.run_of" sRunOf ["self", "at", "pair"])
    (m_S_loop_run : GM K cS "loop_run" "Selection.loop_run" sLoopRun ["self", "at", "rounds", "pair"])
    (m_T_init : GM K cT "__init__" "Times.__init__" sTInit ["self"])
    (m_T_pair_of : GM K cT "pair_of" "Times.pair_of" sPairOf ["self", "step"])
    (m_T_put_step : GM K cT "put_step" "Times.put_step" sTStep ["self", "step", "time", "cost"])
    (m_T_put_rounds : GM K cT "put_rounds" "Times.put_rounds" sTRounds ["self", "number"])
    (m_V_init : GM K cV "__init__" "Service.__init__" sVInit ["self"])
    (m_V_put_process : GM K cV "put_process" "Service.put_process" sVProcess ["self", "numbers"])
    (m_V_put_step : GM K cV "put_step" "Service.put_step" sVStep ["self", "step", "time", "cost"])
    (m_V_put_rounds : GM K cV "put_rounds" "Service.put_rounds" sVRounds ["self", "number"])
    (m_V_selection : GM K cV "selection" "Service.selection" sVSelection ["self"])
    (m_V_front : GM K cV "front" "Service.front" sVFront ["self"])
    (m_V_cheapest_by : GM K cV "cheapest_by" "Service.cheapest_by" sVBy ["self", "most"])
    (m_V_soonest : GM K cV "soonest" "Service.soonest" sVSoonest ["self"])
    (m_V_worst : GM K cV "worst" "Service.worst" sVWorst ["self"])
    (m_V_judge : GM K cV "judge" "Service.judge" sVJudge ["self", "numbers"])
    (m_V_asked : GM K cV "asked" "Service.asked" sVAsked ["self", "call"])
    (m_V_answer : GM K cV "answer" "Service.answer" sVAnswer ["self", "call", "given"])
    (i_STEP : CK K "STEP" 0)
    (i_EMPTY : CK K "EMPTY" 1)
    (i_SEQUENCE : CK K "SEQUENCE" 2)
    (i_CHOICE : CK K "CHOICE" 3)
    (i_PARALLEL : CK K "PARALLEL" 4)
    (i_LOOP : CK K "LOOP" 5)
    (i_MOST_STEP : CK K "MOST_STEP" 5)
    (i_MOST_OF_STEP : CK K "MOST_OF_STEP" 100)
    (i_MOST_ROUNDS : CK K "MOST_ROUNDS" 3)
    (i_MOST_SIZE : CK K "MOST_SIZE" 11)
    (i_WRONG : CK K "WRONG" (-1))
    (i_NO_PAIR : CK K "NO_PAIR" (-6))
    (b_len : PySem.W.nsIn K mainGlobals "len" = some none)
    (b_range : PySem.W.nsIn K mainGlobals "range" = some none)
    (b_reversed : PySem.W.nsIn K mainGlobals "reversed" = some none)
    (b_sorted : PySem.W.nsIn K mainGlobals "sorted" = some none)
    (b_max : PySem.W.nsIn K mainGlobals "max" = some none)
    (b_min : PySem.W.nsIn K mainGlobals "min" = some none)
    (b_any : PySem.W.nsIn K mainGlobals "any" = some none)
    (b_all : PySem.W.nsIn K mainGlobals "all" = some none)
    (b_enumerate : PySem.W.nsIn K mainGlobals "enumerate" = some none)
    (b_list : PySem.W.nsIn K mainGlobals "list" = some none)
    (n_pKinds : PySem.W.findIn K (.ref cP) "kinds" = some none)
    (n_pSteps : PySem.W.findIn K (.ref cP) "steps" = some none)
    (n_pSeconds : PySem.W.findIn K (.ref cP) "seconds" = some none)
    (n_jProcess : PySem.W.findIn K (.ref cJ) "process" = some none)
    (n_jRun : PySem.W.findIn K (.ref cJ) "run" = some none)
    (n_jRounds : PySem.W.findIn K (.ref cJ) "rounds" = some none)
    (n_jKnown : PySem.W.findIn K (.ref cJ) "known" = some none)
    (n_sProcess : PySem.W.findIn K (.ref cS) "process" = some none)
    (n_sFronts : PySem.W.findIn K (.ref cS) "fronts" = some none)
    (n_tPairs : PySem.W.findIn K (.ref cT) "pairs" = some none)
    (n_tRounds : PySem.W.findIn K (.ref cT) "rounds" = some none)
    (n_vProcess : PySem.W.findIn K (.ref cV) "process" = some none)
    (n_vTimes : PySem.W.findIn K (.ref cV) "times" = some none)
    (gN : PySem.W.nsIn K mainGlobals "NOTHING" = some (some (.ref nN)))
    (tN : TK K nN [.int 0, .int 0])
    (gS : PySem.W.nsIn K mainGlobals "SHAPES" = some (some (.ref nS)))
    (tS : TK K nS [.ref s0, .ref s1, .ref s2, .ref s3, .ref s4, .ref s5, .ref s6, .ref s7])
    (t0 : TK K s0 [.int 0, .bl true])
    (t1 : TK K s1 [.int 3, .bl false])
    (t2 : TK K s2 [.int 1, .bl false])
    (t3 : TK K s3 [.int 0, .bl false])
    (t4 : TK K s4 [.int 1, .bl false])
    (t5 : TK K s5 [.int 0, .bl false])
    (t6 : TK K s6 [.int 0, .bl false])
    (t7 : TK K s7 [.int 0, .bl true]) :
    ∃ fd : FuncData, (∀ (s : Shared) (us : List Value), us.length = (["calls"] : List Str).length → BindsTo s fd ⟨us, []⟩ ((["calls"] : List Str).zip us)) ∧ ∀ base : Heap, K.In base → base.Ns mainGlobals mg → FnOk P w K mg base CX0 28 fa fd ["calls"] (spAnswers K) := by
  have T : Txt K mg ⟨cP, cJ, cS, cT, cV, nN, nS⟩ := {
    STEP := ci X G i_STEP
    EMPTY := ci X G i_EMPTY
    SEQUENCE := ci X G i_SEQUENCE
    CHOICE := ci X G i_CHOICE
    PARALLEL := ci X G i_PARALLEL
    LOOP := ci X G i_LOOP
    MOST_STEP := ci X G i_MOST_STEP
    MOST_OF_STEP := ci X G i_MOST_OF_STEP
    MOST_ROUNDS := ci X G i_MOST_ROUNDS
    MOST_SIZE := ci X G i_MOST_SIZE
    WRONG := ci X G i_WRONG
    NO_PAIR := ci X G i_NO_PAIR
    len := PySem.W.mg_none_of X G b_len
    range := PySem.W.mg_none_of X G b_range
    reversed := PySem.W.mg_none_of X G b_reversed
    sorted := PySem.W.mg_none_of X G b_sorted
    max := PySem.W.mg_none_of X G b_max
    min := PySem.W.mg_none_of X G b_min
    any := PySem.W.mg_none_of X G b_any
    all := PySem.W.mg_none_of X G b_all
    enumerate := PySem.W.mg_none_of X G b_enumerate
    list := PySem.W.mg_none_of X G b_list
    cP := hcP.cls
    cJ := hcJ.cls
    cS := hcS.cls
    cT := hcT.cls
    cV := hcV.cls
    pKinds := n_pKinds
    pSteps := n_pSteps
    pSeconds := n_pSeconds
    jProcess := n_jProcess
    jRun := n_jRun
    jRounds := n_jRounds
    jKnown := n_jKnown
    sProcess := n_sProcess
    sFronts := n_sFronts
    tPairs := n_tPairs
    tRounds := n_tRounds
    vProcess := n_vProcess
    vTimes := n_vTimes
    gNothing := PySem.W.mg_of X G gN
    nothing := tN
    gShapes := PySem.W.mg_of X G gS
    shapes := ⟨[s0, s1, s2, s3, s4, s5, s6, s7], tS, (.cons t0 (.cons t1 (.cons t2 (.cons t3 (.cons t4 (.cons t5 (.cons t6 (.cons t7 .nil))))))))⟩ }
  obtain ⟨fA, fdA, aA, FA, bA⟩ := g_answers
  have e := hfa.symm.trans (PySem.W.mg_of X G aA)
  cases e
  refine ⟨fdA, fun s us hu => .of_eq (bA us hu), fun base _ _ => ?_⟩
  have a_size := hm (P := P) (w := w) (mg := mg) (base := base) m_P_size fun f fd F => ok_size F T
  have a_leaf := hf (P := P) (w := w) (base := base) X G g_is_leaf fun f fd F => ok_leaf F T
  have a_sec := hf (P := P) (w := w) (base := base) X G g_seconds_of fun f fd F => ok_seconds F T a_leaf
  have a_P := hc (P := P) (w := w) (base := base) X G hcP m_P_init fun f fd F => ok_pinit F T a_sec
  have a_read := hf (P := P) (w := w) (base := base) X G g_read fun f fd F => ok_read F T a_leaf a_P
  have a_capable := hf (P := P) (w := w) (base := base) X G g_is_capable fun f fd F => ok_capable F T
  have a_capables := hf (P := P) (w := w) (base := base) X G g_capables fun f fd F => ok_capables F T a_leaf a_capable a_size
  have a_empty := hf (P := P) (w := w) (base := base) X G g_has_empty_loop fun f fd F => ok_hasEmpty F T a_capables
  have a_joined := hf (P := P) (w := w) (base := base) X G g_joined fun f fd F => ok_joined F T
  have a_front := hf (P := P) (w := w) (base := base) X G g_front_of fun f fd F => ok_frontOf F T
  have a_comb := hf (P := P) (w := w) (base := base) X G g_combined fun f fd F => ok_combined F T a_joined a_front
  have a_parted := hf (P := P) (w := w) (base := base) X G g_parted fun f fd F => ok_parted F T a_joined
  have a_T := hc (P := P) (w := w) (base := base) X G hcT m_T_init fun f fd F => ok_tinit F T
  have a_pairOf := hm (P := P) (w := w) (mg := mg) (base := base) m_T_pair_of fun f fd F => ok_pairOf F T
  have a_tstep := hm (P := P) (w := w) (mg := mg) (base := base) m_T_put_step fun f fd F => ok_tstep F T
  have a_trounds := hm (P := P) (w := w) (mg := mg) (base := base) m_T_put_rounds fun f fd F => ok_trounds F T
  have a_greater := hf (P := P) (w := w) (base := base) X G g_greater fun f fd F => ok_greater F T
  have a_lworst := hf (P := P) (w := w) (base := base) X G g_loop_worst fun f fd F => ok_loopWorst F T a_greater a_joined
  have a_cworst := hf (P := P) (w := w) (base := base) X G g_construct_worst fun f fd F => ok_conWorst F T a_greater a_joined a_lworst
  have a_worst := hf (P := P) (w := w) (base := base) X G g_worst_of fun f fd F => ok_worstOf F T a_size a_pairOf a_cworst
  have a_fits := hm (P := P) (w := w) (mg := mg) (base := base) m_J_fits fun f fd F => ok_fits F T
  have a_goes := hm (P := P) (w := w) (mg := mg) (base := base) m_J_goes_on fun f fd F => ok_goesOn F T a_fits
  have a_lfits := hm (P := P) (w := w) (mg := mg) (base := base) m_J_loop_fits fun f fd F => ok_loopFits F T a_fits a_goes
  have a_fitsOf := hm (P := P) (w := w) (mg := mg) (base := base) m_J_fits_of fun f fd F => ok_fitsOf F T a_fits a_lfits
  have a_J := hc (P := P) (w := w) (base := base) X G hcJ m_J_init fun f fd F => ok_jinit F T a_size a_fitsOf
  have a_isRun := hf (P := P) (w := w) (base := base) X G g_is_run fun f fd F => ok_isRun F T a_J a_fits
  have a_pairRun := hf (P := P) (w := w) (base := base) X G g_pair_of_run fun f fd F => ok_pairOfRun F T a_size a_pairOf a_joined
  have a_whole := hm (P := P) (w := w) (mg := mg) (base := base) m_S_whole fun f fd F => ok_whole F T
  have a_first := hm (P := P) (w := w) (mg := mg) (base := base) m_S_first fun f fd F => ok_first F T a_whole
  have a_second := hm (P := P) (w := w) (mg := mg) (base := base) m_S_second fun f fd F => ok_second F T a_whole
  have a_lfronts := hm (P := P) (w := w) (mg := mg) (base := base) m_S_loop_fronts fun f fd F => ok_loopFronts F T a_first a_second a_comb a_front
  have a_fronts := hm (P := P) (w := w) (mg := mg) (base := base) m_S_fronts_of fun f fd F => ok_frontsOf F T a_first a_second a_comb a_front a_pairOf a_lfronts
  have a_S := hc (P := P) (w := w) (base := base) X G hcS m_S_init fun f fd F => ok_sinit F T a_size a_fronts
  have a_run : HasM P w K mg base cS "run_of" 24 ["self", "at", "pair"] (spRunOf K ⟨cP, cJ, cS, cT, cV, nN, nS⟩ 11) := by
    obtain ⟨fR, fdR, aR, iR, FR, bR⟩ := m_S_run_of
    obtain ⟨fL, fdL, aL, iL, FL, bL⟩ := m_S_loop_run
    exact runOf_all FR FL ⟨aR, iR, FR.kp⟩ ⟨aL, iL, FL.kp⟩ (.all bR) (.all bL) T a_first a_second a_comb a_parted 11
  have a_right := hf (P := P) (w := w) (base := base) X G g_is_right fun f fd F => ok_isRight F T a_size a_empty
  have a_v0 := hm (P := P) (w := w) (mg := mg) (base := base) m_V_put_process fun f fd F => ok_vProcess F T a_size a_right a_read
  have a_v1 := hm (P := P) (w := w) (mg := mg) (base := base) m_V_put_step fun f fd F => ok_vStep F T a_tstep
  have a_v2 := hm (P := P) (w := w) (mg := mg) (base := base) m_V_put_rounds fun f fd F => ok_vRounds F T a_trounds
  have a_sel := hm (P := P) (w := w) (mg := mg) (base := base) m_V_selection fun f fd F => ok_vSel F T a_S
  have a_v6 := hm (P := P) (w := w) (mg := mg) (base := base) m_V_worst fun f fd F => ok_vWorst F T a_worst
  have a_v7 := hm (P := P) (w := w) (mg := mg) (base := base) m_V_judge fun f fd F => ok_vJudge F T a_read a_isRun a_pairRun
  have a_v3 := hm (P := P) (w := w) (mg := mg) (base := base) m_V_front fun f fd F => ok_vFront F T a_sel a_whole
  have a_v5 := hm (P := P) (w := w) (mg := mg) (base := base) m_V_soonest fun f fd F => ok_vSoonest F T a_sel a_whole a_run
  have a_v4 := hm (P := P) (w := w) (mg := mg) (base := base) m_V_cheapest_by fun f fd F => ok_vBy F T a_sel a_whole a_run
  have a_V := hc (P := P) (w := w) (base := base) X G hcV m_V_init fun f fd F => ok_vInit F T a_P a_T
  have a_asked := hm (P := P) (w := w) (mg := mg) (base := base) m_V_asked fun f fd F => ok_vAsked F T a_v3 a_v5 a_v6
  have a_ans := hm (P := P) (w := w) (mg := mg) (base := base) m_V_answer fun f fd F => ok_vAnswer F T a_v0 a_v1 a_v2 a_v4 a_v7 a_asked
  exact ok_answers FA T a_V a_ans
end Fr
open PySem PySem.W PyProof.Rows
set_option maxRecDepth 100000 in
set_option maxHeartbeats 8000000 in
theorem PySem.Challenge.cw_processfronts_s01_answers_holds : PySem.Challenge.rw_processfronts_s01_answers.Holds := by
  w_on; k_headR; (case hw => exact ⟨[.list [.int 6]], by decide +kernel, by decide +kernel⟩)
  k_fillS
  refine L2.walk_specK (r := PySem.Challenge.rw_processfronts_s01_answers) (k := 28) (CX := L2.CX0) (ps := ["calls"]) (sp := Fr.spAnswers) (by decide +kernel) rfl rfl ⟨rfl, by decide, by decide⟩ (fun w h Y => PySem.W.kIn_of Y) ?F ?S (fun _ _ _ _ z => z)
  case F =>
    intro w mg fa h Y KX G hmg
    refine' Fr.all_mk KX G hmg ?hcP ?hcJ ?hcS ?hcT ?hcV ?hg_is_leaf ?hg_seconds_of ?hg_read ?hg_is_capable ?hg_capables ?hg_has_empty_loop ?hg_front_of ?hg_joined ?hg_combined ?hg_parted ?hg_is_run ?hg_pair_of_run ?hg_greater ?hg_loop_worst ?hg_construct_worst ?hg_worst_of ?hg_is_right ?hg_answers ?hm_P_init ?hm_P_size ?hm_J_init ?hm_J_fits ?hm_J_fits_of ?hm_J_loop_fits ?hm_J_goes_on ?hm_S_init ?hm_S_whole ?hm_S_first ?hm_S_second ?hm_S_fronts_of ?hm_S_loop_fronts ?hm_S_run_of ?hm_S_loop_run ?hm_T_init ?hm_T_pair_of ?hm_T_put_step ?hm_T_put_rounds ?hm_V_init ?hm_V_put_process ?hm_V_put_step ?hm_V_put_rounds ?hm_V_selection ?hm_V_front ?hm_V_cheapest_by ?hm_V_soonest ?hm_V_worst ?hm_V_judge ?hm_V_asked ?hm_V_answer ?hi_STEP ?hi_EMPTY ?hi_SEQUENCE ?hi_CHOICE ?hi_PARALLEL ?hi_LOOP ?hi_MOST_STEP ?hi_MOST_OF_STEP ?hi_MOST_ROUNDS ?hi_MOST_SIZE ?hi_WRONG ?hi_NO_PAIR ?hb_len ?hb_range ?hb_reversed ?hb_sorted ?hb_max ?hb_min ?hb_any ?hb_all ?hb_enumerate ?hb_list ?hn_pKinds ?hn_pSteps ?hn_pSeconds ?hn_jProcess ?hn_jRun ?hn_jRounds ?hn_jKnown ?hn_sProcess ?hn_sFronts ?hn_tPairs ?hn_tRounds ?hn_vProcess ?hn_vTimes ?hgN ?htN ?hgS ?htS ?ht0 ?ht1 ?ht2 ?ht3 ?ht4 ?ht5 ?ht6 ?ht7
    (case hcP => refine' Fr.cf_mk ?a ?pg ?hd ?po ?sa ?mk ?kc; (case a => k_is); (case pg => k_is); (case hd => k_is); (case po => k_is); (case sa => k_is); (case mk => k_is); (case kc => k_is))
    (case hcJ => refine' Fr.cf_mk ?a ?pg ?hd ?po ?sa ?mk ?kc; (case a => k_is); (case pg => k_is); (case hd => k_is); (case po => k_is); (case sa => k_is); (case mk => k_is); (case kc => k_is))
    (case hcS => refine' Fr.cf_mk ?a ?pg ?hd ?po ?sa ?mk ?kc; (case a => k_is); (case pg => k_is); (case hd => k_is); (case po => k_is); (case sa => k_is); (case mk => k_is); (case kc => k_is))
    (case hcT => refine' Fr.cf_mk ?a ?pg ?hd ?po ?sa ?mk ?kc; (case a => k_is); (case pg => k_is); (case hd => k_is); (case po => k_is); (case sa => k_is); (case mk => k_is); (case kc => k_is))
    (case hcV => refine' Fr.cf_mk ?a ?pg ?hd ?po ?sa ?mk ?kc; (case a => k_is); (case pg => k_is); (case hd => k_is); (case po => k_is); (case sa => k_is); (case mk => k_is); (case kc => k_is))
    (case hg_is_leaf => refine' Fr.gf_mk (fun _ _ _ _ _ _ us hl => match us, hl with | [_], _ => rfl) ?a ?l ?c ?k; (case a => k_is); (case l => k_is); (case c => k_is); (case k => k_is))
    (case hg_seconds_of => refine' Fr.gf_mk (fun _ _ _ _ _ _ us hl => match us, hl with | [_], _ => rfl) ?a ?l ?c ?k; (case a => k_is); (case l => k_is); (case c => k_is); (case k => k_is))
    (case hg_read => refine' Fr.gf_mk (fun _ _ _ _ _ _ us hl => match us, hl with | [_], _ => rfl) ?a ?l ?c ?k; (case a => k_is); (case l => k_is); (case c => k_is); (case k => k_is))
    (case hg_is_capable => refine' Fr.gf_mk (fun _ _ _ _ _ _ us hl => match us, hl with | [_, _, _], _ => rfl) ?a ?l ?c ?k; (case a => k_is); (case l => k_is); (case c => k_is); (case k => k_is))
    (case hg_capables => refine' Fr.gf_mk (fun _ _ _ _ _ _ us hl => match us, hl with | [_], _ => rfl) ?a ?l ?c ?k; (case a => k_is); (case l => k_is); (case c => k_is); (case k => k_is))
    (case hg_has_empty_loop => refine' Fr.gf_mk (fun _ _ _ _ _ _ us hl => match us, hl with | [_], _ => rfl) ?a ?l ?c ?k; (case a => k_is); (case l => k_is); (case c => k_is); (case k => k_is))
    (case hg_front_of => refine' Fr.gf_mk (fun _ _ _ _ _ _ us hl => match us, hl with | [_], _ => rfl) ?a ?l ?c ?k; (case a => k_is); (case l => k_is); (case c => k_is); (case k => k_is))
    (case hg_joined => refine' Fr.gf_mk (fun _ _ _ _ _ _ us hl => match us, hl with | [_, _, _], _ => rfl) ?a ?l ?c ?k; (case a => k_is); (case l => k_is); (case c => k_is); (case k => k_is))
    (case hg_combined => refine' Fr.gf_mk (fun _ _ _ _ _ _ us hl => match us, hl with | [_, _, _], _ => rfl) ?a ?l ?c ?k; (case a => k_is); (case l => k_is); (case c => k_is); (case k => k_is))
    (case hg_parted => refine' Fr.gf_mk (fun _ _ _ _ _ _ us hl => match us, hl with | [_, _, _, _], _ => rfl) ?a ?l ?c ?k; (case a => k_is); (case l => k_is); (case c => k_is); (case k => k_is))
    (case hg_is_run => refine' Fr.gf_mk (fun _ _ _ _ _ _ us hl => match us, hl with | [_, _, _], _ => rfl) ?a ?l ?c ?k; (case a => k_is); (case l => k_is); (case c => k_is); (case k => k_is))
    (case hg_pair_of_run => refine' Fr.gf_mk (fun _ _ _ _ _ _ us hl => match us, hl with | [_, _], _ => rfl) ?a ?l ?c ?k; (case a => k_is); (case l => k_is); (case c => k_is); (case k => k_is))
    (case hg_greater => refine' Fr.gf_mk (fun _ _ _ _ _ _ us hl => match us, hl with | [_, _], _ => rfl) ?a ?l ?c ?k; (case a => k_is); (case l => k_is); (case c => k_is); (case k => k_is))
    (case hg_loop_worst => refine' Fr.gf_mk (fun _ _ _ _ _ _ us hl => match us, hl with | [_, _, _], _ => rfl) ?a ?l ?c ?k; (case a => k_is); (case l => k_is); (case c => k_is); (case k => k_is))
    (case hg_construct_worst => refine' Fr.gf_mk (fun _ _ _ _ _ _ us hl => match us, hl with | [_, _, _, _], _ => rfl) ?a ?l ?c ?k; (case a => k_is); (case l => k_is); (case c => k_is); (case k => k_is))
    (case hg_worst_of => refine' Fr.gf_mk (fun _ _ _ _ _ _ us hl => match us, hl with | [_, _], _ => rfl) ?a ?l ?c ?k; (case a => k_is); (case l => k_is); (case c => k_is); (case k => k_is))
    (case hg_is_right => refine' Fr.gf_mk (fun _ _ _ _ _ _ us hl => match us, hl with | [_], _ => rfl) ?a ?l ?c ?k; (case a => k_is); (case l => k_is); (case c => k_is); (case k => k_is))
    (case hg_answers => refine' Fr.gf_mk (fun _ _ _ _ _ _ us hl => match us, hl with | [_], _ => rfl) ?a ?l ?c ?k; (case a => k_is); (case l => k_is); (case c => k_is); (case k => k_is))
    (case hm_P_init => refine' Fr.gm_mk (fun _ _ _ _ _ _ us hl => match us, hl with | [_, _, _], _ => rfl) ?a ?i ?l ?c ?k; (case a => k_is); (case i => k_is); (case l => k_is); (case c => k_is); (case k => k_is))
    (case hm_P_size => refine' Fr.gm_mk (fun _ _ _ _ _ _ us hl => match us, hl with | [_], _ => rfl) ?a ?i ?l ?c ?k; (case a => k_is); (case i => k_is); (case l => k_is); (case c => k_is); (case k => k_is))
    (case hm_J_init => refine' Fr.gm_mk (fun _ _ _ _ _ _ us hl => match us, hl with | [_, _, _, _], _ => rfl) ?a ?i ?l ?c ?k; (case a => k_is); (case i => k_is); (case l => k_is); (case c => k_is); (case k => k_is))
    (case hm_J_fits => refine' Fr.gm_mk (fun _ _ _ _ _ _ us hl => match us, hl with | [_, _, _], _ => rfl) ?a ?i ?l ?c ?k; (case a => k_is); (case i => k_is); (case l => k_is); (case c => k_is); (case k => k_is))
    (case hm_J_fits_of => refine' Fr.gm_mk (fun _ _ _ _ _ _ us hl => match us, hl with | [_, _, _], _ => rfl) ?a ?i ?l ?c ?k; (case a => k_is); (case i => k_is); (case l => k_is); (case c => k_is); (case k => k_is))
    (case hm_J_loop_fits => refine' Fr.gm_mk (fun _ _ _ _ _ _ us hl => match us, hl with | [_, _, _], _ => rfl) ?a ?i ?l ?c ?k; (case a => k_is); (case i => k_is); (case l => k_is); (case c => k_is); (case k => k_is))
    (case hm_J_goes_on => refine' Fr.gm_mk (fun _ _ _ _ _ _ us hl => match us, hl with | [_, _, _, _], _ => rfl) ?a ?i ?l ?c ?k; (case a => k_is); (case i => k_is); (case l => k_is); (case c => k_is); (case k => k_is))
    (case hm_S_init => refine' Fr.gm_mk (fun _ _ _ _ _ _ us hl => match us, hl with | [_, _, _], _ => rfl) ?a ?i ?l ?c ?k; (case a => k_is); (case i => k_is); (case l => k_is); (case c => k_is); (case k => k_is))
    (case hm_S_whole => refine' Fr.gm_mk (fun _ _ _ _ _ _ us hl => match us, hl with | [_, _], _ => rfl) ?a ?i ?l ?c ?k; (case a => k_is); (case i => k_is); (case l => k_is); (case c => k_is); (case k => k_is))
    (case hm_S_first => refine' Fr.gm_mk (fun _ _ _ _ _ _ us hl => match us, hl with | [_, _], _ => rfl) ?a ?i ?l ?c ?k; (case a => k_is); (case i => k_is); (case l => k_is); (case c => k_is); (case k => k_is))
    (case hm_S_second => refine' Fr.gm_mk (fun _ _ _ _ _ _ us hl => match us, hl with | [_, _], _ => rfl) ?a ?i ?l ?c ?k; (case a => k_is); (case i => k_is); (case l => k_is); (case c => k_is); (case k => k_is))
    (case hm_S_fronts_of => refine' Fr.gm_mk (fun _ _ _ _ _ _ us hl => match us, hl with | [_, _, _], _ => rfl) ?a ?i ?l ?c ?k; (case a => k_is); (case i => k_is); (case l => k_is); (case c => k_is); (case k => k_is))
    (case hm_S_loop_fronts => refine' Fr.gm_mk (fun _ _ _ _ _ _ us hl => match us, hl with | [_, _, _], _ => rfl) ?a ?i ?l ?c ?k; (case a => k_is); (case i => k_is); (case l => k_is); (case c => k_is); (case k => k_is))
    (case hm_S_run_of => refine' Fr.gm_mk (fun _ _ _ _ _ _ us hl => match us, hl with | [_, _, _], _ => rfl) ?a ?i ?l ?c ?k; (case a => k_is); (case i => k_is); (case l => k_is); (case c => k_is); (case k => k_is))
    (case hm_S_loop_run => refine' Fr.gm_mk (fun _ _ _ _ _ _ us hl => match us, hl with | [_, _, _, _], _ => rfl) ?a ?i ?l ?c ?k; (case a => k_is); (case i => k_is); (case l => k_is); (case c => k_is); (case k => k_is))
    (case hm_T_init => refine' Fr.gm_mk (fun _ _ _ _ _ _ us hl => match us, hl with | [_], _ => rfl) ?a ?i ?l ?c ?k; (case a => k_is); (case i => k_is); (case l => k_is); (case c => k_is); (case k => k_is))
    (case hm_T_pair_of => refine' Fr.gm_mk (fun _ _ _ _ _ _ us hl => match us, hl with | [_, _], _ => rfl) ?a ?i ?l ?c ?k; (case a => k_is); (case i => k_is); (case l => k_is); (case c => k_is); (case k => k_is))
    (case hm_T_put_step => refine' Fr.gm_mk (fun _ _ _ _ _ _ us hl => match us, hl with | [_, _, _, _], _ => rfl) ?a ?i ?l ?c ?k; (case a => k_is); (case i => k_is); (case l => k_is); (case c => k_is); (case k => k_is))
    (case hm_T_put_rounds => refine' Fr.gm_mk (fun _ _ _ _ _ _ us hl => match us, hl with | [_, _], _ => rfl) ?a ?i ?l ?c ?k; (case a => k_is); (case i => k_is); (case l => k_is); (case c => k_is); (case k => k_is))
    (case hm_V_init => refine' Fr.gm_mk (fun _ _ _ _ _ _ us hl => match us, hl with | [_], _ => rfl) ?a ?i ?l ?c ?k; (case a => k_is); (case i => k_is); (case l => k_is); (case c => k_is); (case k => k_is))
    (case hm_V_put_process => refine' Fr.gm_mk (fun _ _ _ _ _ _ us hl => match us, hl with | [_, _], _ => rfl) ?a ?i ?l ?c ?k; (case a => k_is); (case i => k_is); (case l => k_is); (case c => k_is); (case k => k_is))
    (case hm_V_put_step => refine' Fr.gm_mk (fun _ _ _ _ _ _ us hl => match us, hl with | [_, _, _, _], _ => rfl) ?a ?i ?l ?c ?k; (case a => k_is); (case i => k_is); (case l => k_is); (case c => k_is); (case k => k_is))
    (case hm_V_put_rounds => refine' Fr.gm_mk (fun _ _ _ _ _ _ us hl => match us, hl with | [_, _], _ => rfl) ?a ?i ?l ?c ?k; (case a => k_is); (case i => k_is); (case l => k_is); (case c => k_is); (case k => k_is))
    (case hm_V_selection => refine' Fr.gm_mk (fun _ _ _ _ _ _ us hl => match us, hl with | [_], _ => rfl) ?a ?i ?l ?c ?k; (case a => k_is); (case i => k_is); (case l => k_is); (case c => k_is); (case k => k_is))
    (case hm_V_front => refine' Fr.gm_mk (fun _ _ _ _ _ _ us hl => match us, hl with | [_], _ => rfl) ?a ?i ?l ?c ?k; (case a => k_is); (case i => k_is); (case l => k_is); (case c => k_is); (case k => k_is))
    (case hm_V_cheapest_by => refine' Fr.gm_mk (fun _ _ _ _ _ _ us hl => match us, hl with | [_, _], _ => rfl) ?a ?i ?l ?c ?k; (case a => k_is); (case i => k_is); (case l => k_is); (case c => k_is); (case k => k_is))
    (case hm_V_soonest => refine' Fr.gm_mk (fun _ _ _ _ _ _ us hl => match us, hl with | [_], _ => rfl) ?a ?i ?l ?c ?k; (case a => k_is); (case i => k_is); (case l => k_is); (case c => k_is); (case k => k_is))
    (case hm_V_worst => refine' Fr.gm_mk (fun _ _ _ _ _ _ us hl => match us, hl with | [_], _ => rfl) ?a ?i ?l ?c ?k; (case a => k_is); (case i => k_is); (case l => k_is); (case c => k_is); (case k => k_is))
    (case hm_V_judge => refine' Fr.gm_mk (fun _ _ _ _ _ _ us hl => match us, hl with | [_, _], _ => rfl) ?a ?i ?l ?c ?k; (case a => k_is); (case i => k_is); (case l => k_is); (case c => k_is); (case k => k_is))
    (case hm_V_asked => refine' Fr.gm_mk (fun _ _ _ _ _ _ us hl => match us, hl with | [_, _], _ => rfl) ?a ?i ?l ?c ?k; (case a => k_is); (case i => k_is); (case l => k_is); (case c => k_is); (case k => k_is))
    (case hm_V_answer => refine' Fr.gm_mk (fun _ _ _ _ _ _ us hl => match us, hl with | [_, _, _], _ => rfl) ?a ?i ?l ?c ?k; (case a => k_is); (case i => k_is); (case l => k_is); (case c => k_is); (case k => k_is))
    (case hi_STEP => refine' Fr.ck_mk ?a; (case a => k_is))
    (case hi_EMPTY => refine' Fr.ck_mk ?a; (case a => k_is))
    (case hi_SEQUENCE => refine' Fr.ck_mk ?a; (case a => k_is))
    (case hi_CHOICE => refine' Fr.ck_mk ?a; (case a => k_is))
    (case hi_PARALLEL => refine' Fr.ck_mk ?a; (case a => k_is))
    (case hi_LOOP => refine' Fr.ck_mk ?a; (case a => k_is))
    (case hi_MOST_STEP => refine' Fr.ck_mk ?a; (case a => k_is))
    (case hi_MOST_OF_STEP => refine' Fr.ck_mk ?a; (case a => k_is))
    (case hi_MOST_ROUNDS => refine' Fr.ck_mk ?a; (case a => k_is))
    (case hi_MOST_SIZE => refine' Fr.ck_mk ?a; (case a => k_is))
    (case hi_WRONG => refine' Fr.ck_mk ?a; (case a => k_is))
    (case hi_NO_PAIR => refine' Fr.ck_mk ?a; (case a => k_is))
    (case hb_len => k_is)
    (case hb_range => k_is)
    (case hb_reversed => k_is)
    (case hb_sorted => k_is)
    (case hb_max => k_is)
    (case hb_min => k_is)
    (case hb_any => k_is)
    (case hb_all => k_is)
    (case hb_enumerate => k_is)
    (case hb_list => k_is)
    (case hn_pKinds => k_is)
    (case hn_pSteps => k_is)
    (case hn_pSeconds => k_is)
    (case hn_jProcess => k_is)
    (case hn_jRun => k_is)
    (case hn_jRounds => k_is)
    (case hn_jKnown => k_is)
    (case hn_sProcess => k_is)
    (case hn_sFronts => k_is)
    (case hn_tPairs => k_is)
    (case hn_tRounds => k_is)
    (case hn_vProcess => k_is)
    (case hn_vTimes => k_is)
    (case hgN => k_is)
    (case htN => refine' Fr.tk_ii ?l; (case l => k_is))
    (case hgS => k_is)
    (case htS => refine' Fr.tk_8 ?l; (case l => k_is))
    (case ht0 => refine' Fr.tk_ib ?l; (case l => k_is))
    (case ht1 => refine' Fr.tk_ib ?l; (case l => k_is))
    (case ht2 => refine' Fr.tk_ib ?l; (case l => k_is))
    (case ht3 => refine' Fr.tk_ib ?l; (case l => k_is))
    (case ht4 => refine' Fr.tk_ib ?l; (case l => k_is))
    (case ht5 => refine' Fr.tk_ib ?l; (case l => k_is))
    (case ht6 => refine' Fr.tk_ib ?l; (case l => k_is))
    (case ht7 => refine' Fr.tk_ib ?l; (case l => k_is))
  case S =>
    intro K H xs a hO hwi hask hx
    cases hx with
    | cons h1 h2 =>
      cases h2
      cases h1 with
      | lst hs ha =>
        have e := L2.ints_dw a.1 _ ha
        subst e
        obtain ⟨ns, e1, e2, e3⟩ := Fr.the_law (l := a.1) hask
        refine ⟨_, ns, PyWf06.answers a.1, rfl, ?_, e2, e3, fun H' r _ hr => .lst (L2.SqL.of hr) (L2.dw_ints _)⟩
        rw [e1] at hs
        show L2.SqL K H _ (ns.map Fr.nV)
        rw [show (Fr.zz ns).map L2.V.int = ns.map Fr.nV from List.map_map ..] at hs
        exact hs
#print axioms PySem.Challenge.cw_processfronts_s01_answers_holds
