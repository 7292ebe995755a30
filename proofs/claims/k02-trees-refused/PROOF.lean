import PyProof.Rows.All
import Wide.All
import OpenK.AllK
import Wide.FinOn
import HandS.ForMost
import HandS.ForExc
import HandS.IsInst
import HandS.Evl
import HandS.ExcIs
import KE.DataFind
import PySem.Challenge.RW_firetree_k02_trees_refused
set_option Elab.async false
set_option linter.all false
set_option maxRecDepth 100000
set_option maxHeartbeats 4000000
/-! The mathematics: trees as lists of elders and worths. No program here. -/
namespace Fm
def draw (ns : List Int) (k : Int) : Int := (ns.getD (k % 61).toNat 0 + 7919 * k) * (48271 + 2 * k) % 2147483647
theorem draw_lo (ns : List Int) (k : Int) : 0 ≤ draw ns k := Int.emod_nonneg _ (by decide)
theorem draw_hi (ns : List Int) (k : Int) : draw ns k < 2147483647 := Int.emod_lt_of_pos _ (by decide)
/-- an elder by the four ways -/
def elderAt (way k cell : Int) : Int :=
  if way = 0 then cell % (k + 1) else if way = 1 then k - cell % (k + 1) / 2 else if way = 2 then cell % (if 3 < k + 1 then 3 else k + 1) else (k + cell % 2) / 2
theorem elderAt_lo {way k cell : Int} (hk : 0 ≤ k) : 0 ≤ elderAt way k cell := by
  have h1 := Int.emod_nonneg cell (show k + 1 ≠ 0 by omega)
  have h2 := Int.emod_lt_of_pos cell (show 0 < k + 1 by omega)
  unfold elderAt
  split
  · exact h1
  · split
    · omega
    · split
      · split
        · omega
        · exact Int.emod_nonneg cell (show k + 1 ≠ 0 by omega)
      · omega
theorem elderAt_hi {way k cell : Int} (hk : 0 ≤ k) : elderAt way k cell ≤ k := by
  have h1 := Int.emod_nonneg cell (show k + 1 ≠ 0 by omega)
  have h2 := Int.emod_lt_of_pos cell (show 0 < k + 1 by omega)
  unfold elderAt
  split
  · omega
  · split
    · omega
    · split
      · split
        · omega
        · omega
      · omega
/-- the elders of m + 1 things, drawn -/
def elders (ns : List Int) (m : Nat) : List Nat := (List.range m).map fun (k : Nat) => (elderAt (draw ns 2 % 4) (k : Int) (draw ns (10 + (k : Int)))).toNat
def topOf (ns : List Int) : Int := if draw ns 3 % 3 = 0 then 10 else if draw ns 3 % 3 = 1 then 2 else 1001
def worths (ns : List Int) (n : Nat) : List Nat := (List.range n).map fun (k : Nat) => (draw ns (30 + (k : Int)) % topOf ns).toNat
def count (ns : List Int) (most : Int) : Nat := (1 + draw ns 1 % most).toNat
theorem count_lo (ns : List Int) {most : Int} (h : 1 ≤ most) : 1 ≤ count ns most := by
  have := Int.emod_nonneg (draw ns 1) (show most ≠ 0 by omega)
  unfold count
  omega
theorem count_hi (ns : List Int) {most : Int} (h : 1 ≤ most) : (count ns most : Int) ≤ most := by
  have := Int.emod_nonneg (draw ns 1) (show most ≠ 0 by omega)
  have := Int.emod_lt_of_pos (draw ns 1) (show 0 < most by omega)
  unfold count
  omega
theorem count_eq (ns : List Int) {most : Int} (h : 1 ≤ most) : 1 + draw ns 1 % most = (count ns most : Int) := by
  have := Int.emod_nonneg (draw ns 1) (show most ≠ 0 by omega)
  unfold count
  omega
theorem elders_len (ns : List Int) (m : Nat) : (elders ns m).length = m := by simp [elders]
theorem worths_len (ns : List Int) (m : Nat) : (worths ns m).length = m := by simp [worths]
theorem elders_succ (ns : List Int) (m : Nat) : elders ns (m + 1) = elders ns m ++ [(elderAt (draw ns 2 % 4) (m : Int) (draw ns (10 + (m : Int)))).toNat] := by
  unfold elders
  rw [List.range_succ, List.map_append]
  rfl
theorem topOf_pos (ns : List Int) : 0 < topOf ns := by
  unfold topOf
  split
  · decide
  · split <;> decide
theorem topOf_le (ns : List Int) : topOf ns ≤ 1001 := by
  unfold topOf
  split
  · decide
  · split <;> decide
structure OkT (es ws : List Nat) : Prop where
  len : es.length + 1 = ws.length
  most : ws.length ≤ 14
  up : ∀ (k v : Nat), es[k]? = some v → v ≤ k
  wt : ∀ v ∈ ws, v ≤ 1000
theorem ok_drawn (ns : List Int) {n : Nat} (h : 1 ≤ n) (h2 : n ≤ 14) : OkT (elders ns (n - 1)) (worths ns n) where
  len := by rw [elders_len, worths_len]; omega
  most := by rw [worths_len]; exact h2
  up := fun k v e => by
    unfold elders at e
    rw [List.getElem?_map] at e
    cases q : (List.range (n - 1))[k]? with
    | none => rw [q] at e; cases e
    | some j =>
      rw [q] at e
      obtain ⟨h3, h4⟩ := List.getElem?_eq_some_iff.mp q
      rw [List.getElem_range] at h4
      subst h4
      have e2 : (elderAt (draw ns 2 % 4) (k : Int) (draw ns (10 + (k : Int)))).toNat = v := Option.some.inj e
      have h5 := elderAt_hi (way := draw ns 2 % 4) (cell := draw ns (10 + (k : Int))) (show (0 : Int) ≤ (k : Int) by omega)
      omega
  wt := fun v e => by
    unfold worths at e
    obtain ⟨k, _, rfl⟩ := List.mem_map.mp e
    have h5 := Int.emod_lt_of_pos (draw ns (30 + (k : Int))) (topOf_pos ns)
    have h6 := topOf_le ns
    omega
theorem OkT.pos {es ws : List Nat} (o : OkT es ws) : 0 < ws.length := by have := o.len; omega
/-- the elder of a thing that is not the first -/
def eld (es : List Nat) (t : Nat) : Nat := es.getD (t - 1) 0
theorem eld_lt {es : List Nat} (up : ∀ (k v : Nat), es[k]? = some v → v ≤ k) {t : Nat} (h : 0 < t) : eld es t < t := by
  unfold eld
  rw [List.getD_eq_getElem?_getD]
  cases e : es[t - 1]? with
  | none => exact h
  | some v =>
    have := up _ _ e
    show v < t
    omega
theorem eld_get {es : List Nat} {t : Nat} (h : 0 < t) (h2 : t < es.length + 1) : es[t - 1]? = some (eld es t) := by
  unfold eld
  rw [List.getD_eq_getElem?_getD, List.getElem?_eq_getElem (by omega)]
  rfl
/-! ### depth -/
def depF (es : List Nat) : Nat → Nat → Nat
  | 0, _ => 0
  | f + 1, t => if t = 0 then 0 else depF es f (eld es t) + 1
def depth (es : List Nat) (t : Nat) : Nat := depF es t t
section
variable {es : List Nat} (up : ∀ (k v : Nat), es[k]? = some v → v ≤ k)
include up
theorem depF_fuel : ∀ (f g t : Nat), t ≤ f → t ≤ g → depF es f t = depF es g t
  | 0, 0, t, _, _ => rfl
  | 0, g + 1, t, h, _ => by
    have : t = 0 := by omega
    subst this
    rfl
  | f + 1, 0, t, _, h => by
    have : t = 0 := by omega
    subst this
    rfl
  | f + 1, g + 1, t, h1, h2 => by
    unfold depF
    by_cases h : t = 0
    · rw [if_pos h, if_pos h]
    · rw [if_neg h, if_neg h]
      have := eld_lt up (t := t) (by omega)
      rw [depF_fuel f g (eld es t) (by omega) (by omega)]
theorem depth_zero : depth es 0 = 0 := rfl
theorem depth_step {t : Nat} (h : 0 < t) : depth es t = depth es (eld es t) + 1 := by
  have hl := eld_lt up h
  unfold depth
  obtain ⟨n, rfl⟩ : ∃ n, t = n + 1 := ⟨t - 1, by omega⟩
  rw [show depF es (n + 1) (n + 1) = depF es n (eld es (n + 1)) + 1 from by rw [depF, if_neg (by omega)]]
  rw [depF_fuel up n (eld es (n + 1)) (eld es (n + 1)) (by omega) (Nat.le_refl _)]
theorem depth_le (t : Nat) : depth es t ≤ t := by
  induction t using Nat.strongRecOn with
  | ind t ih =>
    by_cases h : t = 0
    · subst h; exact Nat.le_refl _
    · have hl := eld_lt up (t := t) (by omega)
      have := ih _ hl
      rw [depth_step up (by omega)]
      omega
theorem depth_pos {t : Nat} (h : 0 < t) : 0 < depth es t := by
  rw [depth_step up h]
  omega
end
/-! ### below -/
def climbF (es : List Nat) (t : Nat) : Nat → Nat → Nat
  | 0, h => h
  | f + 1, h => if t < h then climbF es t f (eld es h) else h
def climb (es : List Nat) (t h : Nat) : Nat := climbF es t h h
def isBelow (es : List Nat) (t o : Nat) : Bool := climb es t o == t
def below (es : List Nat) (t : Nat) : List Nat := (List.range (es.length + 1)).filter (isBelow es t)
def worth (es ws : List Nat) (t : Nat) : Nat := ((below es t).map fun o => ws.getD o 0).sum
section
variable {es : List Nat} (up : ∀ (k v : Nat), es[k]? = some v → v ≤ k)
include up
theorem climbF_fuel (t : Nat) : ∀ (f g h : Nat), h ≤ f → h ≤ g → climbF es t f h = climbF es t g h
  | 0, 0, h, _, _ => rfl
  | 0, g + 1, h, h1, _ => by
    have : h = 0 := by omega
    subst this
    rw [climbF, climbF, if_neg (by omega)]
  | f + 1, 0, h, _, h1 => by
    have : h = 0 := by omega
    subst this
    rw [climbF, climbF, if_neg (by omega)]
  | f + 1, g + 1, h, h1, h2 => by
    rw [climbF, climbF]
    by_cases c : t < h
    · rw [if_pos c, if_pos c]
      have := eld_lt up (t := h) (by omega)
      exact climbF_fuel t f g (eld es h) (by omega) (by omega)
    · rw [if_neg c, if_neg c]
theorem climb_step {t h : Nat} (c : t < h) : climb es t h = climb es t (eld es h) := by
  have hl := eld_lt up (t := h) (by omega)
  unfold climb
  obtain ⟨n, rfl⟩ : ∃ n, h = n + 1 := ⟨h - 1, by omega⟩
  rw [climbF, if_pos c]
  exact climbF_fuel up t n (eld es (n + 1)) (eld es (n + 1)) (by omega) (Nat.le_refl _)
omit up in
theorem climb_end {t h : Nat} (c : ¬ t < h) : climb es t h = h := by
  unfold climb
  cases h with
  | zero => rfl
  | succ n => rw [climbF, if_neg c]
theorem isBelow_step {t o : Nat} (c : t < o) : isBelow es t o = isBelow es t (eld es o) := by
  unfold isBelow
  rw [climb_step up c]
omit up in
theorem isBelow_self {t : Nat} : isBelow es t t = true := by
  unfold isBelow
  rw [climb_end (Nat.lt_irrefl t)]
  exact beq_self_eq_true t
omit up in
theorem isBelow_lt {t o : Nat} (c : o < t) : isBelow es t o = false := by
  unfold isBelow
  rw [climb_end (by omega)]
  exact beq_eq_false_iff_ne.mpr (by omega)
end
theorem mem_below {es : List Nat} {t o : Nat} : o ∈ below es t ↔ o < es.length + 1 ∧ isBelow es t o = true := by
  unfold below
  rw [List.mem_filter, List.mem_range]
theorem below_len (es : List Nat) (t : Nat) : (below es t).length ≤ es.length + 1 := by
  have := List.length_filter_le (isBelow es t) (List.range (es.length + 1))
  rw [List.length_range] at this
  exact this
/-- what the program's loop has found ahead of m -/
def belowTo (es : List Nat) (t m : Nat) : List Nat := (List.range m).filter (isBelow es t)
theorem belowTo_start {es : List Nat} (t : Nat) : belowTo es t (t + 1) = [t] := by
  unfold belowTo
  rw [List.range_succ, List.filter_append]
  have h : (List.range t).filter (isBelow es t) = [] := by
    rw [List.filter_eq_nil_iff]
    intro a ha
    rw [isBelow_lt (List.mem_range.mp ha)]
    decide
  rw [h, List.filter_cons, if_pos isBelow_self]
  rfl
theorem belowTo_succ {es : List Nat} (t m : Nat) : belowTo es t (m + 1) = if isBelow es t m = true then belowTo es t m ++ [m] else belowTo es t m := by
  unfold belowTo
  rw [List.range_succ, List.filter_append, List.filter_cons]
  by_cases h : isBelow es t m = true
  · rw [if_pos h, if_pos h]; rfl
  · rw [if_neg h, if_neg h]; exact List.append_nil _
theorem belowTo_end {es : List Nat} (t : Nat) : belowTo es t (es.length + 1) = below es t := rfl
theorem mem_belowTo {es : List Nat} {t m o : Nat} : o ∈ belowTo es t m ↔ o < m ∧ isBelow es t o = true := by
  unfold belowTo
  rw [List.mem_filter, List.mem_range]
theorem belowTo_len (es : List Nat) (t m : Nat) : (belowTo es t m).length ≤ m := by
  have := List.length_filter_le (isBelow es t) (List.range m)
  rw [List.length_range] at this
  exact this
end Fm
/-! The mathematics of fires. No program here. -/
namespace Fm
theorem nodup_len : ∀ (n : Nat) (l : List Nat), l.Nodup → (∀ x ∈ l, x < n) → l.length ≤ n
  | 0, l, _, h => by
    cases l with
    | nil => exact Nat.le_refl _
    | cons a r => exact absurd (h a List.mem_cons_self) (Nat.not_lt_zero _)
  | n + 1, l, nd, h => by
    by_cases hn : n ∈ l
    · have e := List.length_erase_of_mem hn
      have ih := nodup_len n (l.erase n) (nd.erase n) fun x hx => by
        have h1 := (nd.mem_erase_iff.mp hx)
        have h2 := h x h1.2
        have h3 := h1.1
        omega
      have : 0 < l.length := List.length_pos_of_mem hn
      omega
    · have ih := nodup_len n l nd fun x hx => by
        have h2 := h x hx
        have h3 : x ≠ n := fun e => hn (e ▸ hx)
        omega
      omega
/-- what catches fire in a minute -/
def fresh (es b s : List Nat) : List Nat := (List.range' 1 es.length).filter fun t => decide (eld es t ∈ b) && !decide (t ∈ b) && !decide (t ∈ s)
theorem mem_fresh {es b s : List Nat} {t : Nat} : t ∈ fresh es b s ↔ (1 ≤ t ∧ t < es.length + 1) ∧ eld es t ∈ b ∧ t ∉ b ∧ t ∉ s := by
  unfold fresh
  rw [List.mem_filter, List.mem_range'_1]
  simp only [Bool.and_eq_true, decide_eq_true_eq, Bool.not_eq_true', decide_eq_false_iff_not]
  constructor
  · rintro ⟨⟨a1, a2⟩, ⟨a3, a4⟩, a5⟩; exact ⟨⟨a1, by omega⟩, a3, a4, a5⟩
  · rintro ⟨⟨a1, a2⟩, a3, a4, a5⟩; exact ⟨⟨a1, by omega⟩, ⟨a3, a4⟩, a5⟩
theorem fresh_nodup (es b s : List Nat) : (fresh es b s).Nodup := (by exact List.Nodup.sublist List.filter_sublist List.nodup_range')
/-- what the loop over the things has found ahead of thing m + 1 -/
def freshTo (es b s : List Nat) (m : Nat) : List Nat := (List.range' 1 m).filter fun t => decide (eld es t ∈ b) && !decide (t ∈ b) && !decide (t ∈ s)
theorem freshTo_succ (es b s : List Nat) (m : Nat) : freshTo es b s (m + 1) = if (decide (eld es (m + 1) ∈ b) && !decide (m + 1 ∈ b) && !decide (m + 1 ∈ s)) = true then freshTo es b s m ++ [m + 1] else freshTo es b s m := by
  unfold freshTo
  rw [List.range'_concat, List.filter_append, List.filter_cons, show 1 + 1 * m = m + 1 by omega]
  by_cases h : (decide (eld es (m + 1) ∈ b) && !decide (m + 1 ∈ b) && !decide (m + 1 ∈ s)) = true
  · rw [if_pos h, if_pos h]; rfl
  · rw [if_neg h, if_neg h]; exact List.append_nil _
theorem freshTo_len (es b s : List Nat) (m : Nat) : (freshTo es b s m).length ≤ m := by
  have := List.length_filter_le (fun t => decide (eld es t ∈ b) && !decide (t ∈ b) && !decide (t ∈ s)) (List.range' 1 m)
  rw [List.length_range'] at this
  exact this
/-- the shutting off of a minute: a fault (1: no thing, 2: it burns, or is shut off), or what is shut off -/
def shutStep (n : Nat) (o : Option (Option Int)) (b s : List Nat) : Except Nat (List Nat) :=
  match o with
  | some (some z) => if 0 ≤ z ∧ z < (n : Int) then (if z.toNat ∈ b ∨ z.toNat ∈ s then .error 2 else .ok (s ++ [z.toNat])) else .error 1
  | _ => .ok s
/-- so many minutes -/
def run (es : List Nat) (plan : List (Option Int)) : Nat → Except Nat (List (List Nat) × List Nat × List Nat)
  | 0 => .ok ([[0]], [0], [])
  | m + 1 => match run es plan m with
    | .error c => .error c
    | .ok (r, b, s) => match shutStep (es.length + 1) plan[m]? b s with
      | .error c => .error c
      | .ok s' => .ok (r ++ [fresh es b s'], b ++ fresh es b s', s')
theorem run_step {es : List Nat} {plan : List (Option Int)} {m : Nat} {r : List (List Nat)} {b s s' : List Nat} (h : run es plan m = .ok (r, b, s)) (h2 : shutStep (es.length + 1) plan[m]? b s = .ok s') :
    run es plan (m + 1) = .ok (r ++ [fresh es b s'], b ++ fresh es b s', s') := by
  rw [run, h]
  simp only
  rw [h2]
theorem run_fail {es : List Nat} {plan : List (Option Int)} {m c : Nat} {r : List (List Nat)} {b s : List Nat} (h : run es plan m = .ok (r, b, s)) (h2 : shutStep (es.length + 1) plan[m]? b s = .error c) : run es plan (m + 1) = .error c := by
  rw [run, h]
  simp only
  rw [h2]
theorem run_error {es : List Nat} {plan : List (Option Int)} {m c : Nat} (h : run es plan m = .error c) : ∀ k, run es plan (m + k) = .error c
  | 0 => h
  | k + 1 => by
    rw [Nat.add_succ, run, run_error h k]
/-- what holds of every state -/
structure Good (es : List Nat) (r : List (List Nat)) (b s : List Nat) (m : Nat) : Prop where
  len : r.length = m + 1
  nd : b.Nodup
  lt : ∀ x ∈ b, x < es.length + 1
  root : 0 ∈ b
  slt : ∀ x ∈ s, x < es.length + 1
  sum : b.length = (r.map List.length).sum
  head : r[0]? = some [0]
  rlt : ∀ row ∈ r, ∀ x ∈ row, x < es.length + 1
  rln : ∀ row ∈ r, row.length ≤ es.length + 1
  sln : s.length ≤ m
theorem shut_slt {n : Nat} {o : Option (Option Int)} {b s s' : List Nat} (h : shutStep n o b s = .ok s') (hs : ∀ x ∈ s, x < n) : ∀ x ∈ s', x < n := by
  unfold shutStep at h
  split at h
  · split at h
    · split at h
      · cases h
      · cases h
        intro x hx
        rcases List.mem_append.mp hx with hx | hx
        · exact hs x hx
        · have := List.mem_singleton.mp hx
          omega
    · cases h
  · cases h
    exact hs
theorem shut_len {n : Nat} {o : Option (Option Int)} {b s s' : List Nat} (h : shutStep n o b s = .ok s') : s'.length ≤ s.length + 1 := by
  unfold shutStep at h
  split at h
  · split at h
    · split at h
      · cases h
      · cases h
        rw [List.length_append]
        exact Nat.le_refl _
    · cases h
  · cases h
    exact Nat.le_succ _
theorem good_zero (es : List Nat) : Good es [[0]] [0] [] 0 := ⟨rfl, by simp, by simp, by simp, by simp, rfl, rfl, by simp, by simp, Nat.le_refl _⟩
theorem good_step {es : List Nat} {r : List (List Nat)} {b s s' : List Nat} {m : Nat} (g : Good es r b s m) (hs : ∀ x ∈ s', x < es.length + 1) (hl : s'.length ≤ s.length + 1) : Good es (r ++ [fresh es b s']) (b ++ fresh es b s') s' (m + 1) where
  len := by rw [List.length_append, g.len]; rfl
  nd := List.nodup_append.mpr ⟨g.nd, fresh_nodup es b s', fun a ha c hc e => (mem_fresh.mp hc).2.2.1 (e ▸ ha)⟩
  lt := fun x hx => by
    rcases List.mem_append.mp hx with hx | hx
    · exact g.lt x hx
    · exact (mem_fresh.mp hx).1.2
  root := List.mem_append_left _ g.root
  slt := hs
  sum := by simp [g.sum]
  head := by
    have := g.head
    rw [List.getElem?_append_left (by rw [g.len]; omega)]
    exact this
  rlt := fun row hrow x hx => by
    rcases List.mem_append.mp hrow with hrow | hrow
    · exact g.rlt row hrow x hx
    · rw [List.mem_singleton.mp hrow] at hx
      exact (mem_fresh.mp hx).1.2
  rln := fun row hrow => by
    rcases List.mem_append.mp hrow with hrow | hrow
    · exact g.rln row hrow
    · rw [List.mem_singleton.mp hrow]
      exact nodup_len _ _ (fresh_nodup es b s') fun x hx => (mem_fresh.mp hx).1.2
  sln := by have := g.sln; omega
theorem good_run {es : List Nat} {plan : List (Option Int)} : ∀ {m : Nat} {r : List (List Nat)} {b s : List Nat}, run es plan m = .ok (r, b, s) → Good es r b s m
  | 0, r, b, s, h => by
    cases h
    exact good_zero es
  | m + 1, r, b, s, h => by
    rw [run] at h
    cases e : run es plan m with
    | error c => rw [e] at h; cases h
    | ok v =>
      obtain ⟨r0, b0, s0⟩ := v
      rw [e] at h
      simp only at h
      cases e2 : shutStep (es.length + 1) plan[m]? b0 s0 with
      | error c => rw [e2] at h; cases h
      | ok s1 =>
        rw [e2] at h
        cases h
        have g := good_run e
        exact good_step g (shut_slt e2 g.slt) (shut_len e2)
theorem Good.blen {es : List Nat} {r : List (List Nat)} {b s : List Nat} {m : Nat} (g : Good es r b s m) : b.length ≤ es.length + 1 := nodup_len _ b g.nd g.lt
/-- behind the plan nothing is shut off -/
theorem shut_behind {n : Nat} {plan : List (Option Int)} {m : Nat} {b s : List Nat} (h : plan.length ≤ m) : shutStep n plan[m]? b s = .ok s := by
  rw [List.getElem?_eq_none h]
  rfl
/-- the fire is over: nothing more happens -/
theorem run_over {es : List Nat} {plan : List (Option Int)} {m : Nat} {r : List (List Nat)} {b s : List Nat} (h : run es plan m = .ok (r, b, s)) (hm : plan.length ≤ m) (hf : fresh es b s = []) : ∀ k, run es plan (m + k) = .ok (r ++ List.replicate k [], b, s)
  | 0 => by rw [List.replicate_zero, List.append_nil]; exact h
  | k + 1 => by
    have ih := run_over h hm hf k
    rw [Nat.add_succ, run_step ih (shut_behind (by omega)), hf, List.append_nil, List.append_assoc, List.replicate_succ']
/-- if the last minute brought nothing, the fire is over -/
theorem over_of {es : List Nat} {plan : List (Option Int)} {m : Nat} {r : List (List Nat)} {b s : List Nat} (h : run es plan m = .ok (r, b, s)) (hl : r.getLast? = some []) : fresh es b s = [] := by
  cases m with
  | zero => cases h; cases hl
  | succ m =>
    rw [run] at h
    cases e : run es plan m with
    | error c => rw [e] at h; cases h
    | ok v =>
      obtain ⟨r0, b0, s0⟩ := v
      rw [e] at h
      simp only at h
      cases e2 : shutStep (es.length + 1) plan[m]? b0 s0 with
      | error c => rw [e2] at h; cases h
      | ok s1 =>
        rw [e2] at h
        cases h
        rw [List.getLast?_append] at hl
        have hf : fresh es b0 s = [] := by simpa using hl
        rw [hf, List.append_nil]
        exact hf
/-- the last row, where there is one ahead of it -/
theorem last_row {es : List Nat} {plan : List (Option Int)} {m : Nat} {r : List (List Nat)} {b s : List Nat} (h : run es plan m = .ok (r, b, s)) : ∃ x, r.getLast? = some x := by
  have g := good_run h
  have : r ≠ [] := fun e => by have := g.len; rw [e] at this; cases this
  exact ⟨_, List.getLast?_eq_some_getLast this⟩
/-- either over by the minute plan.length + j, or j things more burn -/
theorem over_or {es : List Nat} {plan : List (Option Int)} : ∀ {j : Nat} {r : List (List Nat)} {b s : List Nat}, run es plan (plan.length + j) = .ok (r, b, s) → fresh es b s = [] ∨ j < b.length
  | 0, r, b, s, h => .inr (List.length_pos_of_mem (good_run h).root)
  | j + 1, r, b, s, h => by
    have h0 := h
    rw [Nat.add_succ, run] at h
    cases e : run es plan (plan.length + j) with
    | error c => rw [e] at h; cases h
    | ok v =>
      obtain ⟨r0, b0, s0⟩ := v
      rw [e] at h
      simp only at h
      rw [shut_behind (by omega)] at h
      cases h
      rcases over_or e with h1 | h1
      · left
        rw [h1, List.append_nil]
        exact h1
      · by_cases hf : fresh es b0 s = []
        · left
          rw [hf, List.append_nil]
          exact hf
        · right
          rw [List.length_append]
          have : 0 < (fresh es b0 s).length := List.length_pos_iff.mpr hf
          omega
/-- the whole fire -/
def fire (es : List Nat) (plan : List (Option Int)) : Except Nat (List (List Nat) × List Nat × List Nat) := run es plan (plan.length + (es.length + 1))
theorem fire_over {es : List Nat} {plan : List (Option Int)} {r : List (List Nat)} {b s : List Nat} (h : fire es plan = .ok (r, b, s)) : fresh es b s = [] := by
  rcases over_or h with h1 | h1
  · exact h1
  · have := (good_run h).blen
    omega
/-! ### rows without the empty ones behind -/
def trim (l : List (List Nat)) : List (List Nat) := (l.reverse.dropWhile fun x => x == []).reverse
theorem trim_snoc_nil (l : List (List Nat)) : trim (l ++ [[]]) = trim l := by
  unfold trim
  rw [List.reverse_append, List.reverse_singleton, List.singleton_append, List.dropWhile_cons, if_pos (show (([] : List Nat) == []) = true from rfl)]
theorem trim_snoc {x : List Nat} (l : List (List Nat)) (h : x ≠ []) : trim (l ++ [x]) = l ++ [x] := by
  unfold trim
  rw [List.reverse_append, List.reverse_singleton, List.singleton_append, List.dropWhile_cons, if_neg (by simpa using h)]
  rw [List.reverse_cons, List.reverse_reverse]
theorem trim_rep (l : List (List Nat)) : ∀ k, trim (l ++ List.replicate k []) = trim l
  | 0 => by rw [List.replicate_zero, List.append_nil]
  | k + 1 => by rw [List.replicate_succ', ← List.append_assoc, trim_snoc_nil, trim_rep l k]
theorem dropWhile_nil {α : Type} {p : α → Bool} : ∀ {l : List α}, l.dropWhile p = [] → ∀ x ∈ l, p x = true
  | [], _, x, hx => by cases hx
  | a :: r, h, x, hx => by
    rw [List.dropWhile_cons] at h
    by_cases ha : p a = true
    · rw [if_pos ha] at h
      rcases List.mem_cons.mp hx with e | e
      · rw [e]; exact ha
      · exact dropWhile_nil h x e
    · rw [if_neg ha] at h; cases h
theorem trim_ne {l : List (List Nat)} (h : l[0]? = some [0]) : trim l ≠ [] := by
  cases l with
  | nil => cases h
  | cons a r =>
    have ha : a = [0] := Option.some.inj h
    subst ha
    unfold trim
    rw [List.reverse_cons]
    intro e
    have e2 := congrArg List.reverse e
    rw [List.reverse_reverse, List.reverse_nil] at e2
    have h3 := dropWhile_nil e2
    have := h3 [0] (by simp)
    cases this
/-- the program's fire, at whatever minute it stops -/
theorem run_fire {es : List Nat} {plan : List (Option Int)} {m : Nat} {r : List (List Nat)} {b s : List Nat} (h : run es plan m = .ok (r, b, s)) (hm : plan.length ≤ m) (hl : r.getLast? = some []) : ∃ r', fire es plan = .ok (r', b, s) ∧ trim r' = trim r := by
  have hf := over_of h hl
  by_cases c : m ≤ plan.length + (es.length + 1)
  · obtain ⟨k, hk⟩ : ∃ k, plan.length + (es.length + 1) = m + k := ⟨_, (Nat.add_sub_cancel' c).symm⟩
    refine ⟨r ++ List.replicate k [], ?_, trim_rep r k⟩
    unfold fire
    rw [hk]
    exact run_over h hm hf k
  · obtain ⟨k, hk⟩ : ∃ k, m = plan.length + (es.length + 1) + k := ⟨_, (Nat.add_sub_cancel' (by omega)).symm⟩
    cases e : fire es plan with
    | error c => 
      have := run_error e k
      rw [← hk, h] at this
      cases this
    | ok v =>
      obtain ⟨r', b', s'⟩ := v
      have := run_over e (by omega) (fire_over e) k
      rw [← hk, h] at this
      cases this
      exact ⟨r', rfl, (trim_rep r' k).symm⟩
theorem run_fire_error {es : List Nat} {plan : List (Option Int)} {m c : Nat} (h : run es plan m = .error c) (hm : m ≤ plan.length) : fire es plan = .error c := by
  obtain ⟨k, hk⟩ : ∃ k, plan.length + (es.length + 1) = m + k := ⟨_, (Nat.add_sub_cancel' (by omega)).symm⟩
  unfold fire
  rw [hk]
  exact run_error h k
/-- what a plan saves: the worths of what never burns -/
def saved (ws b : List Nat) : Nat := (((List.range ws.length).filter fun t => !decide (t ∈ b)).map fun t => ws.getD t 0).sum
theorem saved_congr {ws b c : List Nat} (h : ∀ x, x ∈ b ↔ x ∈ c) : saved ws b = saved ws c := by
  unfold saved
  congr 2
  exact List.filter_congr fun x _ => by rw [decide_eq_decide.mpr (h x)]
end Fm
/-! The ground of the proofs: a def's promise by its name (Has, HasM), what reads evaluate to (over Evl), lists of numbers. -/
namespace Fi
open PySem L2 Evl

/-! ### the built-in names that the text does not bind -/
structure Bi (mg : Str → Option Value) : Prop where
  len : mg "len" = none
  range : mg "range" = none
  list : mg "list" = none
  sum : mg "sum" = none
  max : mg "max" = none
  min : mg "min" = none
  isinstance : mg "isinstance" = none
  int : mg "int" = none
  bool : mg "bool" = none
  str : mg "str" = none
  tuple : mg "tuple" = none
  enumerate : mg "enumerate" = none
  ValueError : mg "ValueError" = none

/-! ### a def of the top, a method, by the promise -/
def Has (P : Program) (w : World) (K : PySem.W.Frag) (mg : Str → Option Value) (base : Heap) (CX : CXT) (x : Str) (ps : List Str) (k : Nat) (sp : Sp) : Prop :=
  ∃ f fd, mg x = some (.ref f) ∧ PySem.W.keepIn K (.ref f) = true ∧ Binds K fd ps [] ∧ FnOk P w K mg base CX k f fd ps sp
def HasM (P : Program) (w : World) (K : PySem.W.Frag) (mg : Str → Option Value) (base : Heap) (CX : CXT) (C : Addr) (m : Str) (ps : List Str) (k : Nat) (sp : Sp) : Prop :=
  ∃ f fd, Meth K C m f ∧ Binds K fd ps [] ∧ FnOk P w K mg base CX k f fd ps sp
section
variable {X : Cx} {CX : CXT} {k : Nat} {C : Addr} {ps : List Str} {sp : Sp} {E : XK} {x m : Str} {p pos apos : Pos} {e o : Expr} {es : List Expr} {ta : TE} {t : TA}
theorem Has.call (h : Has X.prog X.w X.K X.mg X.base CX x ps k sp) (hr : Room k X.A) (hg : Gl X x) (hx : Passes CX X E) (ha : PA X (e :: es) t) (hdb : (x == ("__debug__" : Str)) = false := by decide)
    (he : starEach (e :: es) X.env = (false, eval e X.env) :: starEach es X.env := by rfl) (hpl : (backTo pos (starEach es X.env)).any (·.1) = false := by rfl) :
    PE X (.Call (.Name x p) (e :: es) [] pos) (tCall sp [] E t) := by
  obtain ⟨f, fd, hm, hk, hb, F⟩ := h
  exact pe_call F hr hg hm hk hb .nil hx ha hdb he hpl
theorem HasM.call (h : HasM X.prog X.w X.K X.mg X.base CX C m ps k sp) (c : Cls X.K C) (ho : PE X o ta) (hr : Room k X.A) (hx : Passes CX X E) (ha : PA X (e :: es) t) {pl : Sem Bool}
    (hst : starEach (e :: es) X.env = (false, eval e X.env) :: starEach es X.env := by rfl) (hpl : (backTo pos (starEach es X.env)).any (·.1) = false := by rfl)
    (ht : eval (.Call (.Attribute o m apos) (e :: es) [] pos) X.env = (do let ov ← eval o X.env; standAt apos.atName; let (f, first) ← holding [ov] (getMethod ov m pl); callWith pos f first (backTo pos (starEach (e :: es) X.env)) (backToKw pos (keywordEach [] X.env))) := by rfl) :
    PE X (.Call (.Attribute o m apos) (e :: es) [] pos) (tMeth C m sp [] E ta t) := by
  obtain ⟨f, fd, hm, hb, F⟩ := h
  exact pe_meth ho c hm F hr hb .nil hx ha hst hpl ht
theorem HasM.call0 (h : HasM X.prog X.w X.K X.mg X.base CX C m ps k sp) (c : Cls X.K C) (ho : PE X o ta) (hr : Room k X.A) (hx : Passes CX X E) {pl : Sem Bool}
    (ht : eval (.Call (.Attribute o m apos) [] [] pos) X.env = (do let ov ← eval o X.env; standAt apos.atName; let (f, first) ← holding [ov] (getMethod ov m pl); callWith pos f first (backTo pos (starEach [] X.env)) (backToKw pos (keywordEach [] X.env))) := by rfl) :
    PE X (.Call (.Attribute o m apos) [] [] pos) (tMeth C m sp [] E ta tNil) := by
  obtain ⟨f, fd, hm, hb, F⟩ := h
  exact pe_meth0 ho c hm F hr hb .nil hx ht
end

/-! ### a def of the text as it stands behind the top -/
def At (K : PySem.W.Frag) (mg : Str → Option Value) (x : Str) (st : Stmt) (ps : List Str) : Prop := ∃ f fd, Fun K x x st f fd ∧ mg x = some (.ref f) ∧ Binds K fd ps []
def AtM (K : PySem.W.Frag) (C : Addr) (m qual : Str) (st : Stmt) (ps : List Str) : Prop := ∃ f fd, Fun K m qual st f fd ∧ Meth K C m f ∧ Binds K fd ps []
section
variable {P : Program} {w : World} {K : PySem.W.Frag} {mg : Str → Option Value} {base : Heap} {CX : CXT} {k : Nat} {C : Addr} {st : Stmt} {ps : List Str} {sp : Sp} {x m qual : Str}
theorem At.has (D : At K mg x st ps) (h : ∀ f fd, Fun K x x st f fd → FnOk P w K mg base CX k f fd ps sp) : Has P w K mg base CX x ps k sp := by
  obtain ⟨f, fd, F, hm, hb⟩ := D
  exact ⟨f, fd, hm, F.kp, hb, h f fd F⟩
theorem AtM.has (D : AtM K C m qual st ps) (h : ∀ f fd, Fun K m qual st f fd → FnOk P w K mg base CX k f fd ps sp) : HasM P w K mg base CX C m ps k sp := by
  obtain ⟨f, fd, F, hm, hb⟩ := D
  exact ⟨f, fd, hm, hb, h f fd F⟩
theorem Has.imp {sp' : Sp} (h : Has P w K mg base CX x ps k sp) (i : ∀ vs H Q E, sp' vs H Q E → sp vs H Q E) : Has P w K mg base CX x ps k sp' := by
  obtain ⟨f, fd, hm, hk, hb, F⟩ := h
  exact ⟨f, fd, hm, hk, hb, F.imp i⟩
theorem HasM.imp {sp' : Sp} (h : HasM P w K mg base CX C m ps k sp) (i : ∀ vs H Q E, sp' vs H Q E → sp vs H Q E) : HasM P w K mg base CX C m ps k sp' := by
  obtain ⟨f, fd, hm, hb, F⟩ := h
  exact ⟨f, fd, hm, hb, F.imp i⟩
end

/-! ### the facts that k_is finds, put together -/
section
variable {K : PySem.W.Frag} {mg : Str → Option Value} {h : Heap} {C f : Addr} {x m qual : Str} {st : Stmt} {ps : List Str} {oc : Value} {od an : Option Addr} {sl : Array (Option Value)} {kV dc pm cd ct : Value}
theorem at_mk (X : K.In h) (G : h.Ns mainGlobals mg) (a : PySem.W.nsIn K mainGlobals x = some (some (.ref f))) (l : K.lookup f = some ⟨oc, od, .func (PySem.W.fnOf x x (defArgs st) (defBody st) (defScope st) .none kV dc pm an cd ct), sl⟩) (c : PySem.W.codeIn K cd x = true) (k : PySem.W.keepIn K (.ref f) = true)
    (hb : ∀ (kV doc pm : Value) (an : Option Addr) (cdv ct : Value) (us : List Value), us.length = ps.length → bindArgs (PySem.W.fnOf x x (defArgs st) (defBody st) (defScope st) .none kV doc pm an cdv ct) ⟨us, []⟩ = pure (ps.zip us)) : At K mg x st ps :=
  ⟨f, _, fun_mk l c k, PySem.W.mg_of X G a, (fun_mk l c k).binds hb⟩
theorem atm_mk (a : PySem.W.findIn K (.ref C) m = some (some (.ref f))) (i : PySem.W.isFn K (.ref f) = true) (l : K.lookup f = some ⟨oc, od, .func (PySem.W.fnOf m qual (defArgs st) (defBody st) (defScope st) .none kV dc pm an cd ct), sl⟩) (c : PySem.W.codeIn K cd qual = true) (k : PySem.W.keepIn K (.ref f) = true)
    (hb : ∀ (kV doc pm : Value) (an : Option Addr) (cdv ct : Value) (us : List Value), us.length = ps.length → bindArgs (PySem.W.fnOf m qual (defArgs st) (defBody st) (defScope st) .none kV doc pm an cdv ct) ⟨us, []⟩ = pure (ps.zip us)) : AtM K C m qual st ps :=
  ⟨f, _, fun_mk l c k, ⟨a, i, k⟩, (fun_mk l c k).binds hb⟩
end

/-! ### a class made; own exceptions -/
def HasI (P : Program) (w : World) (K : PySem.W.Frag) (mg : Str → Option Value) (base : Heap) (CX : CXT) (C : Addr) (ps : List Str) (k : Nat) (sp : Sp) : Prop :=
  ∃ f fd, Mk K C f ∧ Binds K fd ps [] ∧ FnOk P w K mg base CX k f fd ps sp
def AtI (K : PySem.W.Frag) (C : Addr) (qual : Str) (st : Stmt) (ps : List Str) : Prop := ∃ f fd, Fun K "__init__" qual st f fd ∧ Mk K C f ∧ Binds K fd ps []
/-- what the text's top has left of an own exception class without an __init__ -/
structure Err (K : PySem.W.Frag) (mg : Str → Option Value) (x : Str) (C : Addr) : Prop where
  g : mg x = some (.ref C)
  q : PySem.W.excIn K C [.type "ValueError", .type "Exception", .type "BaseException", .type "object"] "ValueError.__new__" = true
  k : PySem.W.keepIn K (.ref C) = true
  b : PySem.W.subIn K (.ref C) (.type "BaseException") = some true
  t : PySem.W.typeIn K (.ref C) = some (.type "type")
section
variable {K : PySem.W.Frag} {mg : Str → Option Value} {h : Heap} {C f : Addr} {x qual : Str} {st : Stmt} {ps : List Str} {oc : Value} {od an : Option Addr} {sl : Array (Option Value)} {kV dc pm cd ct : Value}
theorem ati_mk (a : PySem.W.findIn K (.ref C) "__init__" = some (some (.ref f))) (i : PySem.W.isFn K (.ref f) = true) (l : K.lookup f = some ⟨oc, od, .func (PySem.W.fnOf "__init__" qual (defArgs st) (defBody st) (defScope st) .none kV dc pm an cd ct), sl⟩) (c : PySem.W.codeIn K cd qual = true) (k : PySem.W.keepIn K (.ref f) = true)
    (mk : PySem.W.makesIn K C = true) (kc : PySem.W.keepIn K (.ref C) = true)
    (hb : ∀ (kV doc pm : Value) (an : Option Addr) (cdv ct : Value) (us : List Value), us.length = ps.length → bindArgs (PySem.W.fnOf "__init__" qual (defArgs st) (defBody st) (defScope st) .none kV doc pm an cdv ct) ⟨us, []⟩ = pure (ps.zip us)) : AtI K C qual st ps :=
  ⟨f, _, fun_mk l c k, ⟨mk, a, i, kc⟩, (fun_mk l c k).binds hb⟩
theorem err_mk (X : K.In h) (G : h.Ns mainGlobals mg) (a : PySem.W.nsIn K mainGlobals x = some (some (.ref C))) (q : PySem.W.excIn K C [.type "ValueError", .type "Exception", .type "BaseException", .type "object"] "ValueError.__new__" = true) (k : PySem.W.keepIn K (.ref C) = true)
    (b : PySem.W.subIn K (.ref C) (.type "BaseException") = some true) (t : PySem.W.typeIn K (.ref C) = some (.type "type")) : Err K mg x C := ⟨PySem.W.mg_of X G a, q, k, b, t⟩
end
section
variable {P : Program} {w : World} {K : PySem.W.Frag} {mg : Str → Option Value} {base : Heap} {CX : CXT} {k : Nat} {C : Addr} {st : Stmt} {ps : List Str} {sp : Sp} {qual : Str}
theorem AtI.has (D : AtI K C qual st ps) (h : ∀ f fd, Fun K "__init__" qual st f fd → FnOk P w K mg base CX k f fd ps sp) : HasI P w K mg base CX C ps k sp := by
  obtain ⟨f, fd, F, hm, hb⟩ := D
  exact ⟨f, fd, hm, hb, h f fd F⟩
end
section
variable {X : Cx} {CX : CXT} {k j : Nat} {C : Addr} {ps : List Str} {sp : Sp} {E : XK} {x m : Str} {p p2 pos : Pos} {e : Expr} {es : List Expr} {t : TA}
theorem HasI.make (h : HasI X.prog X.w X.K X.mg X.base CX C ps k sp) (hr : Room (k + 1) X.A) (hg : Gl X x) (hm : X.mg x = some (.ref C)) (hx : Passes CX X E) (ha : PA X (e :: es) t) (hdb : (x == ("__debug__" : Str)) = false := by decide)
    (he : starEach (e :: es) X.env = (false, eval e X.env) :: starEach es X.env := by rfl) (hpl : (backTo pos (starEach es X.env)).any (·.1) = false := by rfl) : PE X (.Call (.Name x p) (e :: es) [] pos) (tMake C sp [] E t) := by
  obtain ⟨f, fd, M, hb, F⟩ := h
  exact pe_make M F hr hg hm hb .nil hx ha hdb he hpl
theorem Err.made (T : Err X.K X.mg x C) (hg : Gl X x) (hdb : (x == ("__debug__" : Str)) = false := by decide) : PMk X (.Call (.Name x p) [.Constant (.str m) j p2] [] pos) (fun _ H Q => Q (.ref C) none H) :=
  pmk_own PySem.F.excBase_ValueError T.q T.g T.k (raises_own T.b T.t) hg hdb
theorem pe_gint {i : Int} {tk : Tok} (hg : Gl X x) (h : X.mg x = some (.int i tk)) (hd : (x == ("__debug__" : Str)) = false := by decide) : PE X (.Name x pos) (tC (.int i)) := pe_glob hg h ⟨tk, rfl⟩ hd
theorem pe_gstr {i : Str} {tk : Tok} (hg : Gl X x) (h : X.mg x = some (.str i tk)) (hd : (x == ("__debug__" : Str)) = false := by decide) : PE X (.Name x pos) (tC (.str i)) := pe_glob hg h ⟨tk, rfl⟩ hd
theorem pe_gcls {C : Addr} (hg : Gl X x) (h : X.mg x = some (.ref C)) (hd : (x == ("__debug__" : Str)) = false := by decide) : PE X (.Name x pos) (tC (.ref C)) := pe_glob hg h rfl hd
end

theorem bi_mk {K : PySem.W.Frag} {mg : Str → Option Value} {h : Heap} (X : K.In h) (G : h.Ns mainGlobals mg) (z1 : PySem.W.nsIn K mainGlobals "len" = some none) (z2 : PySem.W.nsIn K mainGlobals "range" = some none) (z3 : PySem.W.nsIn K mainGlobals "list" = some none) (z4 : PySem.W.nsIn K mainGlobals "sum" = some none)
    (z5 : PySem.W.nsIn K mainGlobals "max" = some none) (z6 : PySem.W.nsIn K mainGlobals "min" = some none) (z7 : PySem.W.nsIn K mainGlobals "isinstance" = some none) (z8 : PySem.W.nsIn K mainGlobals "int" = some none) (z9 : PySem.W.nsIn K mainGlobals "bool" = some none) (z10 : PySem.W.nsIn K mainGlobals "str" = some none)
    (z11 : PySem.W.nsIn K mainGlobals "tuple" = some none) (z12 : PySem.W.nsIn K mainGlobals "enumerate" = some none) (z13 : PySem.W.nsIn K mainGlobals "ValueError" = some none) : Bi mg :=
  ⟨PySem.W.mg_none_of X G z1, PySem.W.mg_none_of X G z2, PySem.W.mg_none_of X G z3, PySem.W.mg_none_of X G z4, PySem.W.mg_none_of X G z5, PySem.W.mg_none_of X G z6, PySem.W.mg_none_of X G z7, PySem.W.mg_none_of X G z8, PySem.W.mg_none_of X G z9, PySem.W.mg_none_of X G z10, PySem.W.mg_none_of X G z11, PySem.W.mg_none_of X G z12, PySem.W.mg_none_of X G z13⟩

/-! ### rules with the written part named (within a comprehension's block it must not hang on the block) -/
section
variable {X : Cx} {K : PySem.W.Frag} {e : Expr} {f : Str} {pos : Pos} {ta : TE}
theorem ix_listK (hK : X.K = K := by rfl) : IxR X (rIxL K) := by subst hK; exact ix_list
theorem ix_tupK (hK : X.K = K := by rfl) : IxR X (rIxT K) := by subst hK; exact ix_tup
theorem sl_listK (hK : X.K = K := by rfl) : SlR X (rSlL K) := by subst hK; exact sl_list
theorem op_inK (hK : X.K = K := by rfl) : OpR X (compareOp .In) (rIn K false) := by subst hK; exact op_in_seq
theorem op_notInK (hK : X.K = K := by rfl) : OpR X (compareOp .NotIn) (rIn K true) := by subst hK; exact op_notIn_seq
theorem op_eqDK (hu : X.A.units + 64 < cLine) (hK : X.K = K := by rfl) : OpR X (compareOp .Eq) (rEqD K) := by subst hK; exact op_eqD hu
theorem op_neDK (hu : X.A.units + 64 < cLine) (hK : X.K = K := by rfl) : OpR X (compareOp .NotEq) (rNeD K) := by subst hK; exact op_neD hu
theorem call_lenK (hK : X.K = K := by rfl) : CallR X (.builtin "len") (rLenS K) := by subst hK; exact call_len_seq
theorem call_listK (hK : X.K = K := by rfl) : CallR X (.type "list") (rListS K) := by subst hK; exact call_list_of
theorem call_isiK1 (hK : X.K = K := by rfl) : CallR X (.builtin "isinstance") (rIsi K) := by subst hK; exact call_isi
theorem cr_sumK (hc : X.calm = true) (hK : X.K = K := by rfl) : CallR X (.builtin "sum") (rSum K) := by subst hK; exact cr_sum hc
theorem cr_maxK (hc : X.calm = true) (hK : X.K = K := by rfl) : CallR X (.builtin "max") (rMax K) := by subst hK; exact cr_max hc
theorem mt_indexK (hK : X.K = K := by rfl) : MtR X "list.index" (rIndex K) := by subst hK; exact mt_index
theorem pe_fldK (he : PE X e ta) (hb : attributeBase e f X.env (eval e X.env) = eval e X.env) (hK : X.K = K := by rfl) : PE X (.Attribute e f pos) (tFld K ta f) := by subst hK; exact pe_fld he hb
end

/-! ### more of what evaluates to what -/
section
variable {K : PySem.W.Frag} {σ : L2.St} {H H' : Hp} {ta tb te tc : TE} {t u : TT} {x y z v w' : V} {r r' : R2} {a C dx : Addr} {fs : List (Str × V)} {f m : Str}
theorem ev_fld (h : Ev te σ H (.ref a)) (ho : H a = some (.ins C dx fs)) (hc : Cls K C) (hn : NoAttr K C f) (hl : fs.lookup f = some v) : Ev (tFld K te f) σ H v := fun H1 e Q q =>
  h H1 e _ fun H2 e2 => ⟨a, C, dx, fs, v, rfl, e2 a _ (e a _ ho), hc, hn, hl, q H2 e2⟩
theorem ev_meth {sp : Sp} {vs : List V} {E : XK} {tA : TA} (h : Ev te σ H (.ref a)) (ho : H a = some (.ins C dx fs)) (hl : fs.lookup m = none) (hA : EvA tA σ H vs) (hs : SpV sp (.ref a :: vs) H z) : Ev (tMeth C m sp [] E te tA) σ H z := fun H1 e Q q =>
  h H1 e _ fun H2 e2 => ⟨a, dx, fs, rfl, e2 a _ (e a _ ho), hl, hA H2 (e.trans e2) _ fun H3 e3 => by
    rw [List.append_nil]
    exact hs H3 ((e.trans e2).trans e3) Q (fun H4 e4 => q H4 ((e2.trans e3).trans e4)) E⟩
theorem el_meth {sp : Sp} {vs xs : List V} {E : XK} {tA : TA} (h : Ev te σ H (.ref a)) (ho : H a = some (.ins C dx fs)) (hl : fs.lookup m = none) (hA : EvA tA σ H vs) (hs : SpL sp (.ref a :: vs) H xs) : EvL (tMeth C m sp [] E te tA) σ H xs := fun H1 e Q q =>
  h H1 e _ fun H2 e2 => ⟨a, dx, fs, rfl, e2 a _ (e a _ ho), hl, hA H2 (e.trans e2) _ fun H3 e3 => by
    rw [List.append_nil]
    exact hs H3 ((e.trans e2).trans e3) Q (fun p H4 hp e4 h4 => q p H4 (fresh_back (e2.trans e3) hp) ((e2.trans e3).trans e4) h4) E⟩
theorem ev_call0 {sp : Sp} {vs : List V} {E : XK} {tA : TA} (h : EvA tA σ H vs) (hs : SpV sp vs H z) : Ev (tCall sp [] E tA) σ H z := ev_call h (by rw [List.append_nil]; exact hs)
theorem el_call0 {sp : Sp} {vs xs : List V} {E : XK} {tA : TA} (h : EvA tA σ H vs) (hs : SpL sp vs H xs) : EvL (tCall sp [] E tA) σ H xs := el_call h (by rw [List.append_nil]; exact hs)
theorem ev_chain {k1 k2 : Bool} (ha : Ev ta σ H x) (hb : Ev tb σ H y) (hc : k1 = true → Ev tc σ H w') (h1 : RV r x y H (.bl k1)) (h2 : k1 = true → RV r' y w' H (.bl k2)) : Ev (tChain r r' ta tb tc) σ H (.bl (k1 && k2)) := fun H1 e Q q =>
  ha H1 e _ fun H2 e2 => hb H2 (e.trans e2) _ fun H3 e3 => h1 H3 ((e.trans e2).trans e3) _ fun H4 e4 => ⟨k1, rfl, by
    cases k1 with
    | true =>
      show tc σ H4 fun w1 H5 => r' y w1 H5 Q
      exact hc rfl H4 (((e.trans e2).trans e3).trans e4) _ fun H5 e5 => h2 rfl H5 ((((e.trans e2).trans e3).trans e4).trans e5) _ fun H6 e6 => q H6 ((((e2.trans e3).trans e4).trans e5).trans e6)
    | false =>
      show Q (.bl false) H4
      exact q H4 ((e2.trans e3).trans e4)⟩
/-- len of a list -/
theorem ev_lenS {p : Addr} {xs : List V} (ha : Ev ta σ H (.ref p)) (h : SqL K H p xs) : Ev (tCB (rLenS K) (tCons ta tNil)) σ H (.int (xs.length : Int)) := ev_len ha h
/-- list(x) of a list -/
theorem el_listS {p : Addr} {xs : List V} (ha : Ev ta σ H (.ref p)) (h : SqL K H p xs) : EvL (tCB (rListS K) (tCons ta tNil)) σ H xs := el_list ha h
/-- list(x) of a new list -/
theorem el_listN {xs : List V} (ha : EvL ta σ H xs) : EvL (tCB (rListS K) (tCons ta tNil)) σ H xs := fun H1 e Q q =>
  ha H1 e _ fun p H2 _ e2 h2 => ⟨p, xs, rfl, .inl (sq_of h2), fun l hl => q l _ (fresh_back e2 hl) (e2.trans (Ex.new hl)) upd_same⟩
/-- a new list handed to a built-in -/
theorem ev_cbL {rr : List V → Hp → VK → Prop} {xs : List V} (h : EvL ta σ H xs) (hr : ∀ p H1, H1 p = some (.lst xs) → Ex H H1 → RC rr [.ref p] H1 z) : Ev (tCB rr (tCons ta tNil)) σ H z := fun H1 e Q q =>
  h H1 e _ fun p H2 _ e2 hp => hr p H2 hp (e.trans e2) H2 (Ex.refl H2) Q fun H3 e3 => q H3 (e2.trans e3)
theorem ev_opIx {p : Addr} {xs : List V} {i : Int} (ha : Ev ta σ H (.ref p)) (hb : Ev tb σ H (.int i)) (h : SqL K H p xs) (hi : atI xs i = some v) : Ev (tOp (rIxL K) ta tb) σ H v := ev_op ha hb (rv_ixL h hi)
theorem ev_opIxT {p : Addr} {xs : List V} {i : Int} (ha : Ev ta σ H (.ref p)) (hb : Ev tb σ H (.int i)) (h : SqT K H p xs) (hi : atI xs i = some v) : Ev (tOp (rIxT K) ta tb) σ H v := ev_op ha hb (rv_ixT h hi)
/-- an item of a new list -/
theorem ev_opIxN {xs : List V} {i : Int} (ha : EvL ta σ H xs) (hb : Ev tb σ H (.int i)) (hi : atI xs i = some v) : Ev (tOp (rIxL K) ta tb) σ H v := ev_opL1 ha (fun H1 e => hb.mono e) fun p H1 h e => rv_ixL (sq_of h) hi

/-! anything that comes of a read, told of the heaps ahead and behind -/
def EvP (te : TE) (σ : L2.St) (H : Hp) (P : V → Hp → Prop) : Prop := ∀ H1, Ex H H1 → ∀ Q : VK, (∀ v H2, Ex H1 H2 → P v H2 → Q v H2) → te σ H1 Q
def SpP (sp : Sp) (vs : List V) (H : Hp) (P : V → Hp → Prop) : Prop := ∀ H1, Ex H H1 → ∀ Q : VK, (∀ v H2, Ex H1 H2 → P v H2 → Q v H2) → ∀ E : XK, sp vs H1 Q E
def RetP (P : V → Hp → Prop) (H : Hp) (Q : VK) : Prop := ∀ v H2, Ex H H2 → P v H2 → Q v H2
theorem ep_call0 {sp : Sp} {vs : List V} {P : V → Hp → Prop} {E : XK} {tA : TA} (h : EvA tA σ H vs) (hs : SpP sp vs H P) : EvP (tCall sp [] E tA) σ H P := fun H1 e Q q =>
  h H1 e _ fun H2 e2 => by
    rw [List.append_nil]
    exact hs H2 (e.trans e2) Q (fun v H3 e3 p => q v H3 (e2.trans e3) p) E
theorem ep_meth {sp : Sp} {vs : List V} {P : V → Hp → Prop} {E : XK} {tA : TA} (h : Ev te σ H (.ref a)) (ho : H a = some (.ins C dx fs)) (hl : fs.lookup m = none) (hA : EvA tA σ H vs) (hs : SpP sp (.ref a :: vs) H P) : EvP (tMeth C m sp [] E te tA) σ H P := fun H1 e Q q =>
  h H1 e _ fun H2 e2 => ⟨a, dx, fs, rfl, e2 a _ (e a _ ho), hl, hA H2 (e.trans e2) _ fun H3 e3 => by
    rw [List.append_nil]
    exact hs H3 ((e.trans e2).trans e3) Q (fun v H4 e4 h4 => q v H4 ((e2.trans e3).trans e4) h4) E⟩
theorem ep_make {sp : Sp} {vs : List V} {P : V → Hp → Prop} {E : XK} {tA : TA} (h : EvA tA σ H vs)
    (hs : ∀ H1, Ex H H1 → ∀ x dx, H1 x = none → H1 dx = none → dx ≠ x → ∀ Q : VK, (∀ H2, Ex H1 H2 → P (.ref x) H2 → Q (.ref x) H2) → ∀ E : XK, sp (.ref x :: vs) (upd (upd H1 dx (.own x)) x (.ins C dx [])) (fun v H2 => v = .non ∧ Q (.ref x) H2) E) :
    EvP (tMake C sp [] E tA) σ H P := fun H1 e Q q => h H1 e _ fun H2 e2 x dx hx hdx ne => by
  rw [List.append_nil]
  exact hs H2 (e.trans e2) x dx hx hdx ne Q (fun H3 e3 p => q _ H3 (e2.trans e3) p) E
variable {D : Ends} {tu tw tz : TS}
/-- a method that may raise, called as a statement -/
theorem q_methX {sp : Sp} {vs : List V} {E : XK} {tA : TA} (h : Ev te σ H (.ref a)) (ho : H a = some (.ins C dx fs)) (hl : fs.lookup m = none) (hA : EvA tA σ H vs) (k : ∀ H1, Ex H H1 → sp (.ref a :: vs) H1 (fun _ H2 => tz D σ H2) E) :
    tSeq (tDrop (tMeth C m sp [] E te tA)) tz D σ H := h H (Ex.refl H) _ fun H1 e1 => ⟨a, dx, fs, rfl, e1 a _ ho, hl, hA H1 e1 _ fun H2 e2 => by
  rw [List.append_nil]
  exact k H2 (e1.trans e2)⟩
/-- o.f = e -/
theorem q_fld {P : V → Hp → Prop} (h : EvP te σ H P) (k : ∀ v H1, Ex H H1 → P v H1 → ∃ dx fs, Ev ta σ H1 (.ref a) ∧ H1 a = some (.ins C dx fs) ∧ Cls K C ∧ NoAttr K C f ∧ fs.length < 1000 ∧ ∀ H2, Ex H1 H2 → tz D σ (upd H2 a (.ins C dx (putF f v fs)))) :
    tSeq (sFld K ta te f) tz D σ H := h H (Ex.refl H) _ fun v H1 e1 p => by
  obtain ⟨dx, fs, h2, h3, h4, h5, h6, h7⟩ := k v H1 e1 p
  exact h2 H1 (Ex.refl H1) _ fun H2 e2 => ⟨a, C, dx, fs, rfl, e2 a _ h3, h4, h5, h6, h7 H2 e2⟩
theorem s_fld {P : V → Hp → Prop} (h : EvP te σ H P) (k : ∀ v H1, Ex H H1 → P v H1 → ∃ dx fs, Ev ta σ H1 (.ref a) ∧ H1 a = some (.ins C dx fs) ∧ Cls K C ∧ NoAttr K C f ∧ fs.length < 1000 ∧ ∀ H2, Ex H1 H2 → D.nx σ (upd H2 a (.ins C dx (putF f v fs)))) :
    sFld K ta te f D σ H := q_fld (tz := fun D σ H => D.nx σ H) (D := D) h k
theorem s_clear {l : Addr} {xs : List V} (hl : H l = some (.lst xs)) (ha : Ev ta σ H (.ref l)) (k : ∀ H1, Ex H H1 → D.nx σ (upd H1 l (.lst []))) : tDrop (tBM0 K "list" rClear ta) D σ H := ha H (Ex.refl H) _ fun H1 e1 =>
  ⟨Or.inl ⟨rfl, xs, sq_of (e1 l _ hl)⟩, l, xs, rfl, rfl, e1 l _ hl, k H1 e1⟩
theorem q_clear {l : Addr} {xs : List V} (hl : H l = some (.lst xs)) (ha : Ev ta σ H (.ref l)) (k : ∀ H1, Ex H H1 → tz D σ (upd H1 l (.lst []))) : tSeq (tDrop (tBM0 K "list" rClear ta)) tz D σ H := s_clear (D := { D with nx := tz D }) hl ha k
theorem no {p : Prop} (h : false = true) : p := Bool.noConfusion h
theorem no' {p : Prop} (h : true = false) : p := Bool.noConfusion h
theorem EvL.p {xs : List V} (h : EvL te σ H xs) : EvP te σ H (fun v H2 => ∃ p, v = .ref p ∧ H p = none ∧ H2 p = some (.lst xs)) := fun H1 e Q q => h H1 e _ fun p H2 hp e2 h2 => q _ H2 e2 ⟨p, rfl, fresh_back e hp, h2⟩
/-- two new lists in one -/
theorem el_catNN {xs ys : List V} (ha : EvL ta σ H xs) (hb : EvL tb σ H ys) (hz : xs.length + ys.length ≤ 100000) : EvL (tOp rCat ta tb) σ H (xs ++ ys) := fun H1 e Q q =>
  ha H1 e _ fun p H2 hp e2 h2 => hb H2 (e.trans e2) _ fun p2 H3 hp2 e3 h3 => ⟨p, p2, xs, ys, rfl, rfl, e3 p _ h2, h3, sz_of hz, fun l hl => q l _ (fresh_back (e2.trans e3) hl) ((e2.trans e3).trans (Ex.new hl)) upd_same⟩
/-- a list that stands (tracked), a new one -/
theorem el_catVN {p : Addr} {xs ys : List V} (ha : Ev ta σ H (.ref p)) (h : H p = some (.lst xs)) (hb : EvL tb σ H ys) (hz : xs.length + ys.length ≤ 100000) : EvL (tOp rCat ta tb) σ H (xs ++ ys) := fun H1 e Q q =>
  ha H1 e _ fun H2 e2 => hb H2 (e.trans e2) _ fun p2 H3 hp2 e3 h3 => ⟨p, p2, xs, ys, rfl, rfl, e3 p _ (e2 p _ (e p _ h)), h3, sz_of hz, fun l hl => q l _ (fresh_back (e2.trans e3) hl) ((e2.trans e3).trans (Ex.new hl)) upd_same⟩
theorem s_asgP {i : Nat} {P : V → Hp → Prop} (h : EvP te σ H P) (k : ∀ v H1, Ex H H1 → P v H1 → D.nx (σ.set i (some v)) H1) : tAsg te (gName i) D σ H := h H (Ex.refl H) _ fun v H1 e p => k v H1 e p
theorem q_asgP {i : Nat} {P : V → Hp → Prop} (h : EvP te σ H P) (k : ∀ v H1, Ex H H1 → P v H1 → tz D (σ.set i (some v)) H1) : tSeq (tAsg te (gName i)) tz D σ H := s_asgP (D := { D with nx := tz D }) h k
theorem s_retP {P : V → Hp → Prop} (h : EvP te σ H P) (k : ∀ v H1, Ex H H1 → P v H1 → D.rt v H1) : tRet te D σ H := h H (Ex.refl H) _ k
end

/-! ### lists of numbers -/
def vi (l : List Nat) : List V := l.map fun (n : Nat) => V.int (n : Int)
theorem vi_nil : vi [] = [] := rfl
theorem vi_cons (n : Nat) (l : List Nat) : vi (n :: l) = V.int (n : Int) :: vi l := rfl
theorem vi_app (l m : List Nat) : vi (l ++ m) = vi l ++ vi m := List.map_append
theorem vi_len (l : List Nat) : (vi l).length = l.length := List.length_map _
theorem vi_ints (l : List Nat) : vi l = (l.map fun (n : Nat) => (n : Int)).map V.int := by
  unfold vi
  rw [List.map_map]
  rfl
theorem vi_get {l : List Nat} {i n : Nat} (h : l[i]? = some n) : (vi l)[i]? = some (V.int (n : Int)) := by
  unfold vi
  rw [List.getElem?_map, h]
  rfl
theorem vi_get_of {l : List Nat} {i : Nat} {x : V} (h : (vi l)[i]? = some x) : ∃ n, l[i]? = some n ∧ x = V.int (n : Int) := by
  unfold vi at h
  rw [List.getElem?_map] at h
  cases e : l[i]? with
  | none => rw [e] at h; cases h
  | some n => rw [e] at h; exact ⟨n, rfl, (Option.some.inj h).symm⟩
theorem vi_at {l : List Nat} {i : Int} {j n : Nat} (e : i = (j : Int)) (h : l[j]? = some n) : atI (vi l) i = some (V.int (n : Int)) := at_of e (vi_get h)
theorem vi_flat (l : List Nat) : (vi l).all flatV = true := by
  induction l with
  | nil => rfl
  | cons n r ih => rw [vi_cons, List.all_cons, ih]; rfl
theorem eqV_nat (n m : Nat) : eqV (V.int (n : Int)) (V.int (m : Int)) = decide (n = m) := by
  show (((n : Int) == (m : Int)) : Bool) = _
  by_cases h : n = m
  · subst h; simp
  · have : ¬ ((n : Int) = (m : Int)) := by omega
    simp [h, this]
theorem vi_in (l : List Nat) (n : Nat) : inV (V.int (n : Int)) (vi l) = decide (n ∈ l) := by
  unfold inV
  induction l with
  | nil => simp [vi]
  | cons m r ih =>
    rw [vi_cons, List.any_cons, ih, eqV_nat]
    by_cases h : n = m
    · subst h; simp
    · by_cases h2 : n ∈ r
      · simp [h2]
      · have h3 : ¬ m = n := fun e => h e.symm
        simp [h, h2, h3]
theorem vi_inj : ∀ {l m : List Nat}, vi l = vi m → l = m
  | [], [], _ => rfl
  | [], _ :: _, h => by simp [vi] at h
  | _ :: _, [], h => by simp [vi] at h
  | a :: l, b :: m, h => by
    rw [vi_cons, vi_cons] at h
    injection h with h1 h2
    injection h1 with h1
    have : a = b := by omega
    rw [this, vi_inj h2]
theorem sum_cast (l : List Nat) : (l.map fun (n : Nat) => (n : Int)).sum = ((l.sum : Nat) : Int) := by
  induction l with
  | nil => rfl
  | cons n r ih => rw [List.map_cons, List.sum_cons, List.sum_cons, ih]; omega
end Fi
/-! More readings: data compared, isinstance, min, tuples and comprehensions made. -/
namespace Fi
open PySem L2 Evl
/-! ### data as a whole -/
def dI (l : List Nat) : PyData := .list (l.map fun (n : Nat) => PyData.int (n : Int))
theorem dpAll_vi {K : PySem.W.Frag} {H : Hp} : ∀ l : List Nat, DpAll K H (vi l) (l.map fun (n : Nat) => PyData.int (n : Int))
  | [] => .nil
  | n :: l => .cons (.int _) (dpAll_vi l)
theorem dp_vi {K : PySem.W.Frag} {H : Hp} {p : Addr} {l : List Nat} (h : SqL K H p (vi l)) : Dp K H (.ref p) (dI l) := .lst h (dpAll_vi l)
theorem canAll_ints : ∀ l : List Nat, PyData.canLayAll0 (l.map fun (n : Nat) => PyData.int (n : Int)) = true
  | [] => by simp [PyData.canLayAll0]
  | n :: l => by simp [PyData.canLayAll0, PyData.canLay0, canAll_ints l]
theorem depthAll_ints : ∀ l : List Nat, PyData.depthAll (l.map fun (n : Nat) => PyData.int (n : Int)) = 0
  | [] => by simp [PyData.depthAll]
  | n :: l => by simp [PyData.depthAll, PyData.depth, depthAll_ints l]
theorem can_dI (l : List Nat) : PyData.canLay0 (dI l) = true := by simp [dI, PyData.canLay0, canAll_ints]
theorem depth_dI (l : List Nat) : PyData.depth (dI l) = 1 := by simp [dI, PyData.depth, depthAll_ints]
theorem shaped_dI (l : List Nat) : SeqAt.shaped (dI l) = true := by
  unfold SeqAt.shaped
  rw [can_dI, depth_dI]
  rfl
theorem eqvAll_ints : ∀ l m : List Nat, PyData.eqvAll (l.map fun (n : Nat) => PyData.int (n : Int)) (m.map fun (n : Nat) => PyData.int (n : Int)) = decide (l = m)
  | [], [] => by simp [PyData.eqvAll]
  | [], _ :: _ => by simp [PyData.eqvAll]
  | _ :: _, [] => by simp [PyData.eqvAll]
  | a :: l, b :: m => by
    rw [List.map_cons, List.map_cons, PyData.eqvAll, eqvAll_ints l m]
    have e : PyData.eqv (.int (a : Int)) (.int (b : Int)) = decide (a = b) := by
      rw [PyData.eqv]
      by_cases h : a = b
      · subst h; simp
      · have : ¬ ((a : Int) = (b : Int)) := by omega
        simp [h, this]
    rw [e]
    by_cases h : a = b
    · by_cases h2 : l = m
      · simp [h, h2]
      · simp [h, h2]
    · simp [h]
theorem eqv_dI (l m : List Nat) : PyData.eqv (dI l) (dI m) = decide (l = m) := by
  unfold dI
  rw [PyData.eqv, eqvAll_ints]
theorem eqv_dII (a b c d : List Nat) : PyData.eqv (.list [dI a, dI b]) (.list [dI c, dI d]) = (decide (a = c) && decide (b = d)) := by
  rw [PyData.eqv, PyData.eqvAll, PyData.eqvAll, PyData.eqvAll, eqv_dI, eqv_dI, Bool.and_true]
theorem shaped_dII (a b : List Nat) : SeqAt.shaped (.list [dI a, dI b]) = true := by
  unfold SeqAt.shaped
  simp [PyData.canLay0, PyData.canLayAll0, can_dI, PyData.depth, PyData.depthAll, depth_dI]
section
variable {K : PySem.W.Frag} {σ : L2.St} {H H' : Hp} {ta tb te : TE} {t : TT} {x y z v : V}
theorem rv_neD {d e : PyData} (hd : ∀ H1, Ex H H1 → Dp K H1 x d) (he : ∀ H1, Ex H H1 → Dp K H1 y e) (sd : SeqAt.shaped d = true) (se : SeqAt.shaped e = true) : RV (rNeD K) x y H (.bl (!PyData.eqv d e)) := fun H1 e1 Q q =>
  ⟨d, e, hd H1 e1, he H1 e1, sd, se, q H1 (Ex.refl H1)⟩
theorem rv_eqD {d e : PyData} (hd : ∀ H1, Ex H H1 → Dp K H1 x d) (he : ∀ H1, Ex H H1 → Dp K H1 y e) (sd : SeqAt.shaped d = true) (se : SeqAt.shaped e = true) : RV (rEqD K) x y H (.bl (PyData.eqv d e)) := fun H1 e1 Q q =>
  ⟨d, e, hd H1 e1, he H1 e1, sd, se, q H1 (Ex.refl H1)⟩
/-- two lists of numbers that stand -/
theorem rv_neI {p q : Addr} {l m : List Nat} (h1 : SqL K H p (vi l)) (h2 : SqL K H q (vi m)) : RV (rNeD K) (.ref p) (.ref q) H (.bl (!decide (l = m))) := by
  rw [← eqv_dI]
  exact rv_neD (fun H1 e => dp_vi (ex_l e h1)) (fun H1 e => dp_vi (ex_l e h2)) (shaped_dI l) (shaped_dI m)
theorem rv_eqI {p q : Addr} {l m : List Nat} (h1 : SqL K H p (vi l)) (h2 : SqL K H q (vi m)) : RV (rEqD K) (.ref p) (.ref q) H (.bl (decide (l = m))) := by
  rw [← eqv_dI]
  exact rv_eqD (fun H1 e => dp_vi (ex_l e h1)) (fun H1 e => dp_vi (ex_l e h2)) (shaped_dI l) (shaped_dI m)
/-- a list against the empty list, made on the way -/
theorem ev_neNil {p : Addr} {l : List Nat} (ha : Ev ta σ H (.ref p)) (h : SqL K H p (vi l)) : Ev (tOp (rNeD K) ta (tLst tNil)) σ H (.bl (!decide (l = []))) :=
  ev_opL ha (el_lst ea_nil (Nat.zero_le _)) fun q H1 hq e => rv_neI (ex_l e h) (sq_of (xs := vi []) hq)
theorem ev_eqNil {p : Addr} {l : List Nat} (ha : Ev ta σ H (.ref p)) (h : SqL K H p (vi l)) : Ev (tOp (rEqD K) ta (tLst tNil)) σ H (.bl (decide (l = []))) :=
  ev_opL ha (el_lst ea_nil (Nat.zero_le _)) fun q H1 hq e => rv_eqI (ex_l e h) (sq_of (xs := vi []) hq)
/-- a new list against the empty list -/
theorem ev_neNilN {l : List Nat} (ha : EvL ta σ H (vi l)) : Ev (tOp (rNeD K) ta (tLst tNil)) σ H (.bl (!decide (l = []))) :=
  ev_opLL ha (el_lst ea_nil (Nat.zero_le _)) fun p q H1 hp hq e => rv_neI (sq_of hp) (sq_of (xs := vi []) hq)
theorem ev_eqNilN {l : List Nat} (ha : EvL ta σ H (vi l)) : Ev (tOp (rEqD K) ta (tLst tNil)) σ H (.bl (decide (l = []))) :=
  ev_opLL ha (el_lst ea_nil (Nat.zero_le _)) fun p q H1 hp hq e => rv_eqI (sq_of hp) (sq_of (xs := vi []) hq)
/-! ### isinstance, min, max, sum by values -/
theorem rc_isi {c : V} {tt u : Value} {b : Bool} (hc : ClsV c u) (ht : ∀ H1, Ex H H1 → TyX K H1 x tt) (hk : PySem.W.kitOne K tt u = some b) : RC (rIsi K) [x, c] H (.bl b) := fun H1 e Q q => ⟨x, c, tt, u, b, rfl, hc, ht H1 e, hk, q H1 (Ex.refl H1)⟩
theorem ev_isiInt {i : Int} {b : Bool} {s : String} (h : Ev ta σ H (.int i)) (hk : kitB "int" s = some b) : Ev (tCB (rIsi K) (tCons ta (tCons (tC (.ty s)) tNil))) σ H (.bl b) :=
  ev_cb (ea_cons h (ea_cons ev_c ea_nil)) (rc_isi (.ty s) (fun _ _ => .base (.int i)) (kit_ty hk))
theorem ev_isiLst {p : Addr} {xs : List V} {b : Bool} {s : String} (h : Ev ta σ H (.ref p)) (hp : H p = some (.lst xs)) (hk : kitB "list" s = some b) : Ev (tCB (rIsi K) (tCons ta (tCons (tC (.ty s)) tNil))) σ H (.bl b) :=
  ev_cb (ea_cons h (ea_cons ev_c ea_nil)) (rc_isi (.ty s) (fun H1 e => .base (.lst (e p _ hp))) (kit_ty hk))
theorem ev_isiTup {p : Addr} {xs : List V} {b : Bool} {s : String} (h : Ev ta σ H (.ref p)) (hp : H p = some (.tup xs)) (hk : kitB "tuple" s = some b) : Ev (tCB (rIsi K) (tCons ta (tCons (tC (.ty s)) tNil))) σ H (.bl b) :=
  ev_cb (ea_cons h (ea_cons ev_c ea_nil)) (rc_isi (.ty s) (fun H1 e => .base (.tup (e p _ hp))) (kit_ty hk))
theorem rc_min2 {i j : Int} : RC (fun xs H Q => ∃ i j, xs = [.int i, .int j] ∧ Q (.int (if j < i then j else i)) H) [.int i, .int j] H (.int (if j < i then j else i)) := fun H1 _ _ q => ⟨i, j, rfl, q H1 (Ex.refl H1)⟩
theorem rc_max2 {i j : Int} : RC (fun xs H Q => ∃ i j, xs = [.int i, .int j] ∧ Q (.int (if j > i then j else i)) H) [.int i, .int j] H (.int (if j > i then j else i)) := fun H1 _ _ q => ⟨i, j, rfl, q H1 (Ex.refl H1)⟩
theorem rc_sum {p : Addr} {l : List Nat} (h : SqL K H p (vi l)) : RC (rSum K) [.ref p] H (.int ((l.sum : Nat) : Int)) := fun H1 e Q q => ⟨p, l.map fun (n : Nat) => (n : Int), rfl, by rw [← vi_ints]; exact ex_l e h, by rw [sum_cast]; exact q H1 (Ex.refl H1)⟩
/-- sum of a new list -/
theorem ev_sumN {l : List Nat} (h : EvL ta σ H (vi l)) : Ev (tCB (rSum K) (tCons ta tNil)) σ H (.int ((l.sum : Nat) : Int)) := ev_cbL h fun p H1 hp _ => rc_sum (sq_of hp)
/-! ### two new lists in a tuple, in a list -/
theorem ep_tupLL {xs ys : List V} (ha : EvL ta σ H xs) (hb : EvL tb σ H ys) : EvP (tTup (tCons ta (tCons tb tNil))) σ H (fun v H2 => ∃ t p q, v = .ref t ∧ H2 t = some (.tup [.ref p, .ref q]) ∧ H2 p = some (.lst xs) ∧ H2 q = some (.lst ys)) := fun H1 e Q k =>
  ha H1 e _ fun p H2 hp e2 h2 => hb H2 (e.trans e2) _ fun q H3 hq e3 h3 => ⟨by show 2 ≤ sizeLine; decide, fun t ht => k _ _ ((e2.trans e3).trans (Ex.new ht)) ⟨t, p, q, rfl, upd_same, Ex.new ht p _ (e3 p _ h2), Ex.new ht q _ h3⟩⟩
theorem ep_tupVL {ys : List V} (ha : Ev ta σ H x) (hb : EvL tb σ H ys) : EvP (tTup (tCons ta (tCons tb tNil))) σ H (fun v H2 => ∃ t q, v = .ref t ∧ H2 t = some (.tup [x, .ref q]) ∧ H2 q = some (.lst ys)) := fun H1 e Q k =>
  ha H1 e _ fun H2 e2 => hb H2 (e.trans e2) _ fun q H3 hq e3 h3 => ⟨by show 2 ≤ sizeLine; decide, fun t ht => k _ _ ((e2.trans e3).trans (Ex.new ht)) ⟨t, q, rfl, upd_same, Ex.new ht q _ h3⟩⟩
/-- two new lists in a new list; all three are new -/
theorem ep_lstLL {xs ys : List V} (ha : EvL ta σ H xs) (hb : EvL tb σ H ys) : EvP (tLst (tCons ta (tCons tb tNil))) σ H (fun v H2 => ∃ t p q, v = .ref t ∧ H t = none ∧ H p = none ∧ H q = none ∧ p ≠ q ∧ p ≠ t ∧ q ≠ t ∧ H2 t = some (.lst [.ref p, .ref q]) ∧ H2 p = some (.lst xs) ∧ H2 q = some (.lst ys)) := fun H1 e Q k =>
  ha H1 e _ fun p H2 hp e2 h2 => hb H2 (e.trans e2) _ fun q H3 hq e3 h3 => ⟨by show 2 ≤ sizeLine; decide, fun t ht =>
    k _ _ ((e2.trans e3).trans (Ex.new ht)) ⟨t, p, q, rfl, fresh_back ((e.trans e2).trans e3) ht, fresh_back e hp, fresh_back (e.trans e2) hq, ne_of_none h2 hq, ne_of_none (e3 p _ h2) ht, ne_of_none h3 ht, upd_same, Ex.new ht p _ (e3 p _ h2), Ex.new ht q _ h3⟩⟩
/-! ### comprehensions -/
theorem et_yes : EvT tYes σ H true := fun H1 _ _ q => q H1 (Ex.refl H1)
theorem given_all (n : Nat) (v : Nat → V) : given n (fun _ => true) v = (List.range n).map v := by
  unfold given
  rw [List.filter_eq_self.mpr (by simp)]
theorem given_vi {n : Nat} {g : Nat → Nat} {v : Nat → V} (h : ∀ i, i < n → v i = V.int ((g i : Nat) : Int)) : given n (fun _ => true) v = vi ((List.range n).map g) := by
  rw [given_all]
  unfold vi
  rw [List.map_map]
  exact List.map_congr_left fun i hi => h i (List.mem_range.mp hi)
theorem el_is {xs ys : List V} (h : EvL te σ H xs) (e : xs = ys) : EvL te σ H ys := e ▸ h
/-- [e for i in range(n)], whole numbers made -/
theorem el_lcR1v {tA : TA} {j : Nat} {vs : List Nat} {n : Nat} (g : Nat → Nat) (h : EvA tA σ H [.int (n : Int)]) (hn : n ≤ 40000) (hw : ∀ x, wipe ((wipe σ vs).set j (some x)) vs = wipe σ vs)
    (he : ∀ (i : Nat) H1, Ex H H1 → i < n → Ev te ((wipe σ vs).set j (some (.int (i : Int)))) H1 (.int ((g i : Nat) : Int))) : EvL (tLc (iRng1 tA) (gName j) tYes te vs) σ H (vi ((List.range n).map g)) := by
  have q := el_lcR1 (t := tYes) (te := te) (σ := σ) (H := H) (ta := tA) (j := j) (vs := vs) (n := (n : Int)) (fun _ => true) (fun i => V.int ((g i : Nat) : Int)) h ⟨by omega, by omega⟩ hw (fun _ _ _ _ => et_yes) (fun i H1 e hi _ => he i H1 e (by omega))
  rw [Int.toNat_natCast, given_vi fun i _ => rfl] at q
  exact q
theorem range_map_get (l : List Nat) (g : Nat → Nat) : (List.range l.length).map (fun i => g (l.getD i 0)) = l.map g := by
  refine List.ext_getElem ?_ fun i h1 h2 => ?_
  · simp
  · rw [List.length_map, List.length_range] at h1
    simp only [List.getElem_map, List.getElem_range]
    rw [List.getD_eq_getElem?_getD, List.getElem?_eq_getElem h1]
    rfl
/-- [e for n in l], l a list of numbers that stands, whole numbers made -/
theorem el_lcLv {a : Addr} {l : List Nat} {tl : TE} {j : Nat} {vs : List Nat} (g : Nat → Nat) (h : Ev tl σ H (.ref a)) (hx : SqL K H a (vi l)) (hz : l.length ≤ 40000) (hw : ∀ x, wipe ((wipe σ vs).set j (some x)) vs = wipe σ vs)
    (he : ∀ (n : Nat) H1, Ex H H1 → n ∈ l → Ev te ((wipe σ vs).set j (some (.int (n : Int)))) H1 (.int ((g n : Nat) : Int))) : EvL (tLc (iList K tl) (gName j) tYes te vs) σ H (vi (l.map g)) := by
  have q := el_lcL (t := tYes) (te := te) (K := K) (σ := σ) (H := H) (a := a) (xs := vi l) (tl := tl) (j := j) (vs := vs) (fun _ => true) (fun i => V.int ((g (l.getD i 0) : Nat) : Int)) h hx (by rw [vi_len]; exact hz) hw (fun _ _ _ _ _ => et_yes) (fun i x H1 e hi _ => by
    obtain ⟨n, hn, rfl⟩ := vi_get_of hi
    have e1 : l.getD i 0 = n := by rw [List.getD_eq_getElem?_getD, hn]; rfl
    show Ev te _ H1 (.int ((g (l.getD i 0) : Nat) : Int))
    rw [e1]
    exact he n H1 e (List.mem_of_getElem? hn))
  rw [vi_len, given_vi (g := fun i => g (l.getD i 0)) fun i _ => rfl, range_map_get] at q
  exact q
theorem el_lcNLv {l : List Nat} {tl : TE} {j : Nat} {vs : List Nat} (g : Nat → Nat) (h : EvL tl σ H (vi l)) (hz : l.length ≤ 40000) (hw : ∀ x, wipe ((wipe σ vs).set j (some x)) vs = wipe σ vs)
    (he : ∀ (n : Nat) H1, Ex H H1 → n ∈ l → Ev te ((wipe σ vs).set j (some (.int (n : Int)))) H1 (.int ((g n : Nat) : Int))) : EvL (tLc (iList K tl) (gName j) tYes te vs) σ H (vi (l.map g)) := by
  have q := el_lcNL (t := tYes) (te := te) (K := K) (σ := σ) (H := H) (xs := vi l) (tl := tl) (j := j) (vs := vs) (fun _ => true) (fun i => V.int ((g (l.getD i 0) : Nat) : Int)) h (by rw [vi_len]; exact hz) hw (fun _ _ _ _ _ => et_yes) (fun i x H1 e hi _ => by
    obtain ⟨n, hn, rfl⟩ := vi_get_of hi
    have e1 : l.getD i 0 = n := by rw [List.getD_eq_getElem?_getD, hn]; rfl
    show Ev te _ H1 (.int ((g (l.getD i 0) : Nat) : Int))
    rw [e1]
    exact he n H1 e (List.mem_of_getElem? hn))
  rw [vi_len, given_vi (g := fun i => g (l.getD i 0)) fun i _ => rfl, range_map_get] at q
  exact q
theorem filter_get (l : List Nat) (f : Nat → Bool) : ((List.range l.length).filter fun i => f (l.getD i 0)).map (fun i => l.getD i 0) = l.filter f := by
  have e : (List.range l.length).map (fun i => l.getD i 0) = l := by
    have := range_map_get l id
    rw [List.map_id] at this
    exact this
  conv => rhs; rw [← e]
  rw [List.filter_map]
  rfl
end
/-! ### a plot: a tuple of elders and worths -/
def PlotAt (H : Hp) (p : Addr) (es ws : List Nat) : Prop := ∃ pe pw, H p = some (.tup [.ref pe, .ref pw]) ∧ H pe = some (.lst (vi es)) ∧ H pw = some (.lst (vi ws))
theorem PlotAt.mono {H H' : Hp} {p : Addr} {es ws : List Nat} (h : PlotAt H p es ws) (e : Ex H H') : PlotAt H' p es ws := by
  obtain ⟨pe, pw, h1, h2, h3⟩ := h
  exact ⟨pe, pw, e _ _ h1, e _ _ h2, e _ _ h3⟩
theorem tup0 {K : PySem.W.Frag} {H : Hp} {p : Addr} {x y : V} (h : H p = some (.tup [x, y])) : SqT K H p [x, y] := st_of h
theorem dec_int {a b : Nat} : decide (V.int (a : Int) = V.int (b : Int)) = decide (a = b) := by
  by_cases h : a = b
  · subst h; simp
  · have h2 : ¬ (V.int (a : Int) = V.int (b : Int)) := fun e => h (by injection e with e; omega)
    rw [decide_eq_false h, decide_eq_false h2]
theorem getD_get {l : List Nat} {n : Nat} (h : n < l.length) : l[n]? = some (l.getD n 0) := by
  rw [List.getD_eq_getElem?_getD, List.getElem?_eq_getElem h]
  rfl
end Fi
/-! Rows: lists of lists; plans; readings for them. -/
namespace Fi
open PySem L2 Evl
def oV : Option Int → V
  | none => .non
  | some z => .int z
theorem oV_get {plan : List (Option Int)} {i : Nat} {o : Option Int} (h : plan[i]? = some o) : (plan.map oV)[i]? = some (oV o) := by
  rw [List.getElem?_map, h]
  rfl
theorem oV_some (l : List Nat) : (l.map fun (n : Nat) => some (n : Int)).map oV = vi l := by
  unfold vi
  rw [List.map_map]
  rfl
/-- the addresses rs hold the rows -/
def RowsL (H : Hp) : List Addr → List (List Nat) → Prop
  | [], [] => True
  | a :: as, r :: rs => H a = some (.lst (vi r)) ∧ RowsL H as rs
  | _, _ => False
theorem RowsL.len {H : Hp} : ∀ {rs : List Addr} {rows : List (List Nat)}, RowsL H rs rows → rs.length = rows.length
  | [], [], _ => rfl
  | _ :: _, _ :: _, h => by rw [List.length_cons, List.length_cons, RowsL.len h.2]
  | [], _ :: _, h => h.elim
  | _ :: _, [], h => h.elim
theorem RowsL.mono {H H' : Hp} : ∀ {rs : List Addr} {rows : List (List Nat)}, RowsL H rs rows → (∀ a o, a ∈ rs → H a = some o → H' a = some o) → RowsL H' rs rows
  | [], [], _, _ => trivial
  | a :: as, _ :: _, h, k => ⟨k a _ List.mem_cons_self h.1, RowsL.mono h.2 fun b o hb => k b o (List.mem_cons_of_mem _ hb)⟩
  | [], _ :: _, h, _ => h.elim
  | _ :: _, [], h, _ => h.elim
theorem RowsL.snoc {H : Hp} {a : Addr} {r : List Nat} (ha : H a = some (.lst (vi r))) : ∀ {rs : List Addr} {rows : List (List Nat)}, RowsL H rs rows → RowsL H (rs ++ [a]) (rows ++ [r])
  | [], [], _ => ⟨ha, trivial⟩
  | _ :: _, _ :: _, h => ⟨h.1, RowsL.snoc ha h.2⟩
  | [], _ :: _, h => h.elim
  | _ :: _, [], h => h.elim
theorem RowsL.get {H : Hp} : ∀ {rs : List Addr} {rows : List (List Nat)} {i : Nat} {r : List Nat}, RowsL H rs rows → rows[i]? = some r → ∃ a, rs[i]? = some a ∧ a ∈ rs ∧ H a = some (.lst (vi r))
  | [], [], i, _, _, h => by cases i <;> cases h
  | a :: as, r :: _, 0, _, h, e => by cases e; exact ⟨a, rfl, List.mem_cons_self, h.1⟩
  | a :: as, _ :: _, i + 1, r, h, e => by
    obtain ⟨b, h1, h2, h3⟩ := RowsL.get (i := i) (r := r) h.2 e
    exact ⟨b, h1, List.mem_cons_of_mem _ h2, h3⟩
  | [], _ :: _, _, _, h, _ => h.elim
  | _ :: _, [], _, _, h, _ => h.elim
theorem RowsL.drop {H : Hp} : ∀ {rs : List Addr} {rows : List (List Nat)}, RowsL H rs rows → RowsL H rs.dropLast rows.dropLast
  | [], [], _ => trivial
  | [a], [r], _ => trivial
  | a :: b :: as, r :: q :: rs, h => ⟨h.1, RowsL.drop (rs := b :: as) (rows := q :: rs) h.2⟩
  | [], _ :: _, h => h.elim
  | _ :: _, [], h => h.elim
  | [_], _ :: _ :: _, h => h.2.elim
  | _ :: _ :: _, [_], h => h.2.elim
theorem RowsL.mem {H : Hp} : ∀ {rs : List Addr} {rows : List (List Nat)} {a : Addr}, RowsL H rs rows → a ∈ rs → ∃ r, r ∈ rows ∧ H a = some (.lst (vi r))
  | [], [], _, _, h => by cases h
  | a :: as, r :: rs, b, h, e => by
    rcases List.mem_cons.mp e with rfl | e
    · exact ⟨r, List.mem_cons_self, h.1⟩
    · obtain ⟨q, h1, h2⟩ := RowsL.mem h.2 e
      exact ⟨q, List.mem_cons_of_mem _ h1, h2⟩
  | [], _ :: _, _, h, _ => h.elim
  | _ :: _, [], _, h, _ => h.elim
theorem last_idx {α : Type} {l : List α} {x : α} (h : l.getLast? = some x) : l[l.length - 1]? = some x := by
  rw [← List.getLast?_eq_getElem?]
  exact h
theorem refs_last {rs : List Addr} {a : Addr} (h : rs[rs.length - 1]? = some a) (hn : rs ≠ []) : atI (rs.map V.ref) (-1) = some (V.ref a) := by
  have hl : 0 < rs.length := List.length_pos_iff.mpr hn
  unfold atI ixN
  rw [List.length_map, if_neg (by decide), if_pos (by omega)]
  show (rs.map V.ref)[(-1 + (rs.length : Int)).toNat]? = _
  rw [show (-1 + (rs.length : Int)).toNat = rs.length - 1 by omega, List.getElem?_map, h]
  rfl
section
variable {K : PySem.W.Frag} {σ : L2.St} {H H' : Hp} {ta tb te : TE} {t : TT} {x y z v : V} {D : Ends} {tz : TS}
/-- [[..]]: a new list in a new list -/
theorem ep_lstL1 {xs : List V} (ha : EvL ta σ H xs) : EvP (tLst (tCons ta tNil)) σ H (fun v H2 => ∃ t p, v = .ref t ∧ H t = none ∧ H p = none ∧ p ≠ t ∧ H2 t = some (.lst [.ref p]) ∧ H2 p = some (.lst xs)) := fun H1 e Q k =>
  ha H1 e _ fun p H2 hp e2 h2 => ⟨by show 1 ≤ sizeLine; decide, fun t ht => k _ _ (e2.trans (Ex.new ht)) ⟨t, p, rfl, fresh_back (e.trans e2) ht, fresh_back e hp, ne_of_none h2 ht, upd_same, Ex.new ht p _ h2⟩⟩
/-- xs.extend(ys) -/
theorem s_ext {l b : Addr} {xs ys : List V} (hl : H l = some (.lst xs)) (hb : H b = some (.lst ys)) (ha : Ev ta σ H (.ref l)) (h : Ev te σ H (.ref b)) (hz : xs.length + ys.length ≤ 100000) (k : ∀ H1, Ex H H1 → D.nx σ (upd H1 l (.lst (xs ++ ys)))) :
    tDrop (tBM K "list" rExtend ta (tCons te tNil)) D σ H := ha H (Ex.refl H) _ fun H1 e1 =>
  ⟨Or.inl ⟨rfl, xs, sq_of (e1 l _ hl)⟩, h H1 e1 _ fun H2 e2 => ⟨l, b, xs, ys, rfl, rfl, e2 l _ (e1 l _ hl), e2 b _ (e1 b _ hb), sz_of hz, k H2 (e1.trans e2)⟩⟩
theorem q_ext {l b : Addr} {xs ys : List V} (hl : H l = some (.lst xs)) (hb : H b = some (.lst ys)) (ha : Ev ta σ H (.ref l)) (h : Ev te σ H (.ref b)) (hz : xs.length + ys.length ≤ 100000) (k : ∀ H1, Ex H H1 → tz D σ (upd H1 l (.lst (xs ++ ys)))) :
    tSeq (tDrop (tBM K "list" rExtend ta (tCons te tNil))) tz D σ H := s_ext (D := { D with nx := tz D }) hl hb ha h hz k
/-- xs.extend(a new list) -/
theorem s_extN {l : Addr} {xs ys : List V} (hl : H l = some (.lst xs)) (ha : Ev ta σ H (.ref l)) (h : EvL te σ H ys) (hz : xs.length + ys.length ≤ 100000) (k : ∀ H1, Ex H H1 → D.nx σ (upd H1 l (.lst (xs ++ ys)))) :
    tDrop (tBM K "list" rExtend ta (tCons te tNil)) D σ H := ha H (Ex.refl H) _ fun H1 e1 =>
  ⟨Or.inl ⟨rfl, xs, sq_of (e1 l _ hl)⟩, h H1 e1 _ fun b H2 hb e2 h2 => ⟨l, b, xs, ys, rfl, rfl, e2 l _ (e1 l _ hl), h2, sz_of hz, k H2 (e1.trans e2)⟩⟩
theorem q_extN {l : Addr} {xs ys : List V} (hl : H l = some (.lst xs)) (ha : Ev ta σ H (.ref l)) (h : EvL te σ H ys) (hz : xs.length + ys.length ≤ 100000) (k : ∀ H1, Ex H H1 → tz D σ (upd H1 l (.lst (xs ++ ys)))) :
    tSeq (tDrop (tBM K "list" rExtend ta (tCons te tNil))) tz D σ H := s_extN (D := { D with nx := tz D }) hl ha h hz k
/-- xs.pop() as a statement -/
theorem s_pop {l : Addr} {xs : List V} {y : V} (hl : H l = some (.lst xs)) (hy : xs[xs.length - 1]? = some y) (ha : Ev ta σ H (.ref l)) (k : ∀ H1, Ex H H1 → D.nx σ (upd H1 l (.lst xs.dropLast))) : tDrop (tBM0 K "list" rPop ta) D σ H := ha H (Ex.refl H) _ fun H1 e1 =>
  ⟨Or.inl ⟨rfl, xs, sq_of (e1 l _ hl)⟩, l, xs, y, rfl, rfl, e1 l _ hl, hy, k H1 e1⟩
/-- an item of a tuple that a read gives -/
theorem ep_ixT {P P' : V → Hp → Prop} {i : Int} (h : EvP te σ H P) (hb : Ev tb σ H (.int i)) (k : ∀ v H2 H3, Ex H H2 → Ex H2 H3 → P v H2 → ∃ t xs x, v = .ref t ∧ SqT K H3 t xs ∧ atI xs i = some x ∧ P' x H3) : EvP (tOp (rIxT K) te tb) σ H P' := fun H1 e Q q =>
  h H1 e _ fun v H2 e2 p => hb H2 (e.trans e2) _ fun H3 e3 => by
    obtain ⟨t, xs, x, rfl, h1, h2, h3⟩ := k v H2 H3 (e.trans e2) e3 p
    exact ⟨t, xs, i, x, rfl, rfl, h1, h2, q x H3 (e2.trans e3) h3⟩
theorem ev_opNotN (h : Ev ta σ H x) : Ev (tOp (fun x y H Q => y = .non ∧ Q (.bl (!decide (x = .non))) H) ta (tC .non)) σ H (.bl (!decide (x = .non))) := ev_op h ev_c fun H1 _ _ q => ⟨rfl, q H1 (Ex.refl H1)⟩
theorem ev_opIsN (h : Ev ta σ H x) : Ev (tOp (fun x y H Q => y = .non ∧ Q (.bl (decide (x = .non))) H) ta (tC .non)) σ H (.bl (decide (x = .non))) := ev_op h ev_c fun H1 _ _ q => ⟨rfl, q H1 (Ex.refl H1)⟩
/-- the last row against [] -/
theorem ev_neLast {l : Addr} {rs : List Addr} {rows : List (List Nat)} {r : List Nat} (ha : Ev ta σ H (.ref l)) (hb : Ev tb σ H (.int (-1))) (h : H l = some (.lst (rs.map V.ref))) (R : RowsL H rs rows) (hl : rows.getLast? = some r) : Ev (tOp (rNeD K) (tOp (rIxL K) ta tb) (tLst tNil)) σ H (.bl (!decide (r = []))) := by
  obtain ⟨a, h1, h2, h3⟩ := R.get (last_idx hl)
  rw [← R.len] at h1
  exact ev_neNil (ev_opIx ha hb (sq_of h) (refs_last h1 (fun e => by rw [e] at h2; cases h2))) (sq_of h3)
theorem ev_eqLast {l : Addr} {rs : List Addr} {rows : List (List Nat)} {r : List Nat} (ha : Ev ta σ H (.ref l)) (hb : Ev tb σ H (.int (-1))) (h : H l = some (.lst (rs.map V.ref))) (R : RowsL H rs rows) (hl : rows.getLast? = some r) : Ev (tOp (rEqD K) (tOp (rIxL K) ta tb) (tLst tNil)) σ H (.bl (decide (r = []))) := by
  obtain ⟨a, h1, h2, h3⟩ := R.get (last_idx hl)
  rw [← R.len] at h1
  exact ev_eqNil (ev_opIx ha hb (sq_of h) (refs_last h1 (fun e => by rw [e] at h2; cases h2))) (sq_of h3)
theorem rv_inI {neg : Bool} {p : Addr} {l : List Nat} {n : Nat} (h : SqL K H p (vi l)) : RV (rIn K neg) (.int (n : Int)) (.ref p) H (.bl (if neg then !decide (n ∈ l) else decide (n ∈ l))) := by
  have q := rv_inL (K := K) (neg := neg) (x := .int (n : Int)) h rfl (vi_flat l)
  rw [vi_in] at q
  exact q
theorem rv_isI {p : Addr} {l : List Nat} {n : Nat} (h : SqL K H p (vi l)) : RV (rIn K false) (.int (n : Int)) (.ref p) H (.bl (decide (n ∈ l))) := rv_inI h
theorem rv_niI {p : Addr} {l : List Nat} {n : Nat} (h : SqL K H p (vi l)) : RV (rIn K true) (.int (n : Int)) (.ref p) H (.bl (!decide (n ∈ l))) := rv_inI h
/-- [e for i in range(n) if t], whole numbers made -/
theorem el_lcR1f {tA : TA} {j : Nat} {vs : List Nat} {n : Nat} (f : Nat → Bool) (g : Nat → Nat) (h : EvA tA σ H [.int (n : Int)]) (hn : n ≤ 40000) (hw : ∀ x, wipe ((wipe σ vs).set j (some x)) vs = wipe σ vs)
    (ht : ∀ (i : Nat) H1, Ex H H1 → i < n → EvT t ((wipe σ vs).set j (some (.int (i : Int)))) H1 (f i)) (he : ∀ (i : Nat) H1, Ex H H1 → i < n → f i = true → Ev te ((wipe σ vs).set j (some (.int (i : Int)))) H1 (.int ((g i : Nat) : Int))) :
    EvL (tLc (iRng1 tA) (gName j) t te vs) σ H (vi (((List.range n).filter f).map g)) := by
  have q := el_lcR1 (t := t) (te := te) (σ := σ) (H := H) (ta := tA) (j := j) (vs := vs) (n := (n : Int)) f (fun i => V.int ((g i : Nat) : Int)) h ⟨by omega, by omega⟩ hw (fun i H1 e hi => ht i H1 e (by omega)) (fun i H1 e hi hf => he i H1 e (by omega) hf)
  rw [Int.toNat_natCast] at q
  unfold given at q
  unfold vi
  rw [List.map_map]
  exact q
/-- [n for n in l if t] -/
theorem el_lcLf {a : Addr} {l : List Nat} {tl : TE} {j : Nat} {vs : List Nat} (f : Nat → Bool) (h : Ev tl σ H (.ref a)) (hx : SqL K H a (vi l)) (hz : l.length ≤ 40000) (hw : ∀ x, wipe ((wipe σ vs).set j (some x)) vs = wipe σ vs)
    (ht : ∀ (n : Nat) H1, Ex H H1 → n ∈ l → EvT t ((wipe σ vs).set j (some (.int (n : Int)))) H1 (f n)) (he : ∀ (n : Nat) H1, Ex H H1 → n ∈ l → f n = true → Ev te ((wipe σ vs).set j (some (.int (n : Int)))) H1 (.int (n : Int))) : EvL (tLc (iList K tl) (gName j) t te vs) σ H (vi (l.filter f)) := by
  have q := el_lcL (t := t) (te := te) (K := K) (σ := σ) (H := H) (a := a) (xs := vi l) (tl := tl) (j := j) (vs := vs) (fun i => f (l.getD i 0)) (fun i => V.int ((l.getD i 0 : Nat) : Int)) h hx (by rw [vi_len]; exact hz) hw (fun i x H1 e hi => by
    obtain ⟨n, hn, rfl⟩ := vi_get_of hi
    have e1 : l.getD i 0 = n := by rw [List.getD_eq_getElem?_getD, hn]; rfl
    rw [e1]
    exact ht n H1 e (List.mem_of_getElem? hn)) (fun i x H1 e hi hf => by
    obtain ⟨n, hn, rfl⟩ := vi_get_of hi
    have e1 : l.getD i 0 = n := by rw [List.getD_eq_getElem?_getD, hn]; rfl
    show Ev te _ H1 (.int ((l.getD i 0 : Nat) : Int))
    rw [e1] at hf ⊢
    exact he n H1 e (List.mem_of_getElem? hn) hf)
  rw [vi_len] at q
  rw [← filter_get l f]
  unfold given at q
  unfold vi
  rw [List.map_map]
  exact q
end
end Fi
/-! A caught error that is kept: try: .. except X as n: m = n, the error tracked behind the try; isinstance of it. -/
namespace Fi
open PySem L2 Evl
/-- an error of the class cls, caught once, at a -/
def ExV (cls : Value) (a : Addr) : HO := .ext fun h => ∃ (oe : Obj) (vs : Array Value), h.get? a = some oe ∧ Zc cls none oe ∧ oe.data = .fields vs
theorem exV_ok {P : Program} {w : World} {H : Hp} {h : Heap} {a : Addr} {cls : Value} {oe : Obj} {vs : Array Value} (e : h.get? a = some oe) (z : Zc cls none oe) (d : oe.data = .fields vs) : ObjOk P w H h a (ExV cls a) :=
  ⟨⟨oe, vs, e, z, d⟩, ⟨oe, e⟩, fun _ _ ⟨o1, v1, q1, r1⟩ k => ⟨o1, v1, k o1 q1, r1⟩⟩
section
variable {X : Cx} {pins : List (Addr × Obj)} {σ : L2.St} {H : Hp} {s : Shared}
/-- an error that stands untracked is tracked -/
theorem exc_tracked {a : Addr} {oe : Obj} {vs : Array Value} {cls : Value} (S : Inv X pins σ H s) (hn0 : X.s_0.heap.get? a = none) (he : s.heap.get? a = some oe) (hz : Zc cls none oe) (hd : oe.data = .fields vs) (na : H a = none) (nL : a ≠ X.env.locals) (np : ∀ p ∈ X.pn ++ pins, p.1 ≠ a) :
    Inv X pins σ (upd H a (ExV cls a)) s := by
  have old : ∀ b ob, X.s_0.heap.get? b = some ob → b ≠ a := fun b ob q z => by rw [z, hn0] at q; cases q
  have some_ne : ∀ b ob, H b = some ob → b ≠ a := fun b ob q z => by rw [z, na] at q; cases q
  have U : Un X.fs X.ex X.H_0 (upd H a (ExV cls a)) X.s_0.heap s.heap :=
    { keep := S.base.keep
      slot := S.base.slot
      there := S.base.there
      free := fun b ob q1 q2 q3 => (upd_ne (old b ob q1)).trans (S.base.free b ob q1 q2 q3)
      tups := fun b xs q => (upd_ne (some_ne b _ (S.base.tups b xs q))).trans (S.base.tups b xs q)
      frzs := fun b ob u q => (upd_ne (some_ne b _ (S.base.frzs b ob u q))).trans (S.base.frzs b ob u q)
      tbls := fun b ps q => by
        obtain ⟨m, z⟩ := S.base.tbls b ps q
        exact ⟨m, (upd_ne (some_ne b _ z)).trans z⟩ }
  have cellNe : ∀ x c, X.env.cells.lookup x = some c → c ≠ a := fun x c q z => by
    obtain ⟨v, oc, h1, h2⟩ := S.cell x c q
    rw [z, he] at h1
    cases h1
    rw [hd] at h2
    cases h2
  have O : HOk X.prog X.w (upd H a (ExV cls a)) s.heap := fun b u q => by
    by_cases hb : b = a
    · subst hb
      rw [upd_same] at q
      cases q
      exact exV_ok he hz hd
    · rw [upd_ne hb] at q
      exact (S.hok b u q).stay (fun _ _ _ z => z) (fun c z => (upd_ne (some_ne c _ z)).trans z) fun c xs z => (upd_ne (some_ne c _ z)).trans z
  exact { ok := S.ok, os := S.os, bare := S.bare, base := U, loc := S.loc, cell := S.cell, free := (upd_ne nL.symm).trans S.free, freeC := fun x c q => (upd_ne (cellNe x c q)).trans (S.freeC x c q),
          pin := fun p hp => ⟨(S.pin p hp).1, (upd_ne (np p hp)).trans (S.pin p hp).2.1, (S.pin p hp).2.2⟩, hok := O, len := S.len }
end
/-- what 'except x as n: ..', n kept, wishes of an error of the body (slot i is n's) -/
def wV (K : PySem.W.Frag) (c : Value) (i : Nat) (ts : Addr → Value → TS) (D : Ends) : WX := fun cls d σ H =>
  d = none ∧ PySem.W.exmOne K cls c = some true ∧ ∀ a, H a = none → ts a cls { nx := fun σ' H' => D.nx (σ'.set i none) (upd H' a (ExV cls a)), rt := fun _ _ => False } (σ.set i (some (.ref a))) H
section
variable {X : Cx} {x n : Str} {c : Value} {i : Nat} {body suite : List Stmt} {b₀ : Stmt} {np pos pos' : Pos} {tb : WX → TS} {ts : Addr → Value → TS}
theorem ps_try_asV (hs : X.stack = X.env :: X.outer) (hf : X.env.frame = some X.env.locals) (hex : X.ex = []) (hN : X.N.Nodup) (hi : X.N[i]? = some n) (hln : X.env.kindOf n = some .local) (hc : Names X x c)
    (hb : ∀ (W : WX) (pn : List (Addr × Obj)) (xe : Value → Shared → Prop), Takes (X.tr pn xe) W → PassesOwn (model X.prog X.w) X.A X.env xe → PSs (X.tr pn xe) body (tb W))
    (hsu : ∀ (a : Addr) (oe : Obj) (cls : Value) (pn : List (Addr × Obj)), Zc cls none oe → (∃ vs, oe.data = .fields vs) → PSs (X.suite a ((a, oe) :: pn)) (b₀ :: suite) (ts a cls)) :
    PS X (.Try body [.ExceptHandler (some (.Name x np)) (some n) (b₀ :: suite) pos'] [] [] pos) (fun D σ H => tb (wV X.K c i ts D) D σ H) := by
  constructor
  intro pins s σ H D I h
  have ok := I.ok
  let M := model X.prog X.w
  let hds : List ExceptHandler := [.ExceptHandler (some (.Name x np)) (some n) (b₀ :: suite) pos']
  let catch_ : Value → Shared → Prop := fun e s₁ => wpAny M X.A (noteFrame e X.env) (fun _ s₂ => wpAny M X.A (setFlight e none) (fun _ s₃ => wpAny M X.A (handleBy e X.env hds) (SP X pins D) X.xe s₃) X.xe s₂) X.xe s₁
  have frames : X.A.frames = some (X.env :: X.outer) := ok.frames.trans (congrArg some hs)
  have taken : Takes (X.tr (X.pn ++ pins) catch_) (wV X.K c i ts D) := by
    rintro u s' ⟨a, B, sI, pinsI, σ', H', cls, d, rfl, J0, nb, up, sky, na, os, ag, rfl, hyes, hsuite⟩
    have J : Inv X pins σ' H' sI := J0.ofTry ok
    rw [show (X.tr (X.pn ++ pins) catch_).stack = X.env :: X.outer from hs] at sky
    refine Sky.land Zc.steady frames hf sky fun h3 fl3 up3 => ?_
    have J3 : Inv X pins σ' H' { s' with heap := h3 } := J.landed nb fl3.1 (up.trans up3) os ag
    obtain ⟨oe3, vs3, he3, hz3, hd3⟩ := fl3.there
    have away : a ∉ frs (X.env :: X.outer) := fun hm => by
      obtain ⟨_, o', e', hnf⟩ := fl3.2.2.1.mem hm
      rw [he3] at e'
      cases e'
      exact hnf _ hd3
    have nL : a ≠ X.env.locals := fun z => away (List.mem_filterMap.mpr ⟨X.env, .head _, hf.trans (congrArg some z.symm)⟩)
    have nF : a ∉ X.fs := fun hm => by
      obtain ⟨e, q1, q2⟩ := List.mem_filterMap.mp hm
      exact away (List.mem_filterMap.mpr ⟨e, .tail _ q1, q2⟩)
    -- the error stood nowhere ahead of the body's run
    have newI : sI.heap.get? a = none := by
      cases q : sI.heap.get? a with
      | none => rfl
      | some ob =>
        have z := nb a ob q (show a ∉ frs X.stack by rw [hs]; exact away)
        rw [fl3.2.1] at z
        cases z
    have new0 : X.s_0.heap.get? a = none := by
      cases q : X.s_0.heap.get? a with
      | none => rfl
      | some ob =>
        obtain ⟨o', z⟩ := J.base.there a ob q (by rw [hex]; exact List.not_mem_nil)
        rw [newI] at z
        cases z
    have apart : ∀ p ∈ X.pn ++ pins, p.1 ≠ a := fun p hp z => by
      have q := (J.pin p hp).1
      rw [z, newI] at q
      cases q
    have S3 := J3.suite he3 hd3 na nL nF
    refine wpAny_handleBy_cons (codeAny_handlers_test ?_) fun q => nomatch q
    have kind : PySem.W.Looks M h3 (typeOf (.ref a)) cls := fun A Q E s k q => wpAny_typeOf_ref (k _ _ he3) (hz3.1.symm ▸ q)
    have fits := PySem.W.exm_one (M := M) J3.kIn kind hyes
    have named : ∀ {Q : Value → Shared → Prop} {E : Value → Shared → Prop}, Q c { s' with heap := h3 } → wpAny M (X.A.mark (some (.ref a))) (eval (.Name x np) X.env) Q E { s' with heap := h3 } := by
      intro Q E q
      rcases hc with ⟨g1, g2, g3 | ⟨g3, g4, g5⟩⟩
      · exact ld_glob S3 g1 g3 q g2
      · exact ld_blt S3 g1 g3 g4 q g5 g2
    refine named (fits.here (codeAny_handlers_suite_as (HandSPX.lands_againZ fl3 fun h4 fl4 up4 => ?_)))
    have J4 : Inv X pins σ' H' { s' with heap := h4 } := J.landed nb fl4.1 ((up.trans up3).trans up4) os ag
    obtain ⟨oe4, vs4, he4, hz4, hd4⟩ := fl4.there
    have S4 := J4.suite he4 hd4 na nL nF
    refine @store_ok (X.suite a ((a, oe4) :: (X.pn ++ pins))) _ _ _ _ _ _ _ _ _ _ _ _ S4 hN hi (.inl hln) (show RelV (.ref a) (.ref a) from rfl) (fun s5 S5 => ?_) (.inr hln)
    have ran := (hsu a oe4 cls (X.pn ++ pins) hz4 ⟨vs4, hd4⟩).run [] s5 _ H' _ S5 (hsuite a na)
    refine wpAny_mono ran (fun f s6 out => ?_) fun _ _ z => z.elim
    cases f with
    | next =>
      obtain ⟨σ6, H6, S6, q6⟩ := out
      obtain ⟨p1, p2, _⟩ := S6.pin (a, oe4) (List.mem_append_left _ (.head _))
      have T6 := exc_tracked (S6.unsuite ok) new0 p1 hz4 hd4 p2 nL apart
      exact gone_ok T6 hN hi hln fun s7 J7 => ⟨_, _, J7, q6⟩
    | brk => obtain ⟨_, _, _, q6⟩ := out; exact q6.elim
    | cont => obtain ⟨_, _, _, q6⟩ := out; exact q6.elim
    | ret u => obtain ⟨_, _, _, _, _, q6⟩ := out; exact q6.elim
  refine wpAny_Try_except (wpAny_mono ((hb _ (X.pn ++ pins) catch_ taken PassesOwn.looking).run [] s σ H D (I.toTry _) h) (fun f s1 out => ?_) fun _ _ q => q)
  cases f with
  | next => obtain ⟨σ1, H1, J1, q⟩ := out; exact wpAny_execs_nil ⟨σ1, H1, J1.ofTry ok, q⟩
  | brk => obtain ⟨σ1, H1, J1, q⟩ := out; exact ⟨σ1, H1, J1.ofTry ok, q⟩
  | cont => obtain ⟨σ1, H1, J1, q⟩ := out; exact ⟨σ1, H1, J1.ofTry ok, q⟩
  | ret u => obtain ⟨v, σ1, H1, J1, r, q⟩ := out; exact ⟨v, σ1, H1, J1.ofTry ok, r, q⟩
/-- isinstance(e, c), e a kept error of the class at Dc -/
def rIsV (K : PySem.W.Frag) : List V → Hp → VK → Prop := fun xs H Q => ∃ (a Dc : Addr) (cc : V) (u : Value) (b : Bool), xs = [.ref a, cc] ∧ H a = some (ExV (.ref Dc) a) ∧ ExcC K Dc ∧ ClsV cc u ∧ PySem.W.kitOne K (.ref Dc) u = some b ∧ Q (.bl b) H
theorem call_isV {K : PySem.W.Frag} (hK : X.K = K := by rfl) : CallR X (.builtin "isinstance") (rIsV K) := by
  subst hK
  intro pins s σ H xs us Q I r h
  obtain ⟨a, Dc, cc, u, b, rfl, ha, C, hcu, e, q⟩ := h
  cases r with
  | cons rx rr =>
    cases rr with
    | cons rt rr =>
      cases rr
      cases rx
      have ec := hcu.eq rt
      subst ec
      obtain ⟨⟨oe, vs, hget, hz, hv⟩, _⟩ := I.hok a _ ha
      have J : PySem.W.InstAt s.heap a oe Dc none := by
        obtain ⟨oc, od, oda, osl⟩ := oe
        obtain ⟨z1, z2⟩ := hz
        simp only at z1 z2 hv
        subst z1 z2 hv
        exact ⟨hget, rfl, rfl, trivial⟩
      exact PySem.W.kia_one (PySem.W.handS_kitx_exc C.hg C.hk C.hs C.hd C.ha C.hn C.ht C.hm) I.kIn J e (fun z => nomatch z) fun tk => ⟨.bl b, H, I.tok _, rfl, q⟩
/-! ### list.count(True) of a list of truth values -/
theorem dpAll_bl {K : PySem.W.Frag} {H : Hp} : ∀ l : List Bool, DpAll K H (l.map V.bl) (l.map PyData.bool)
  | [] => .nil
  | b :: l => .cons (.bl b) (dpAll_bl l)
theorem plain_bl : ∀ l : List Bool, PyData.plainAll (l.map PyData.bool) = true
  | [] => by simp [PyData.plainAll]
  | b :: l => by simp [PyData.plainAll, PyData.plain, plain_bl l]
theorem depth_bl : ∀ l : List Bool, PyData.depthAll (l.map PyData.bool) = 0
  | [] => by simp [PyData.depthAll]
  | b :: l => by simp [PyData.depthAll, PyData.depth, depth_bl l]
theorem count_bl (l : List Bool) : (l.map PyData.bool).countP (fun y => PyData.eqv y (.bool true)) = l.countP id := by
  rw [List.countP_map]
  congr 1
  funext b
  cases b <;> simp [PyData.eqv]
def rCntB (K : PySem.W.Frag) : V → List V → Hp → VK → Prop := fun x xs H Q => ∃ (p : Addr) (bs : List Bool), x = .ref p ∧ xs = [.bl true] ∧ SqL K H p (bs.map V.bl) ∧ Q (.int ((bs.countP id : Nat) : Int)) H
theorem mt_countB {K : PySem.W.Frag} (hu : X.A.units + 64 < cLine) (hK : X.K = K := by rfl) : MtR X "list.count" (rCntB K) := by
  subst hK
  rintro pins s σ H x xs v us Q I rx rxs ⟨p, bs, rfl, rfl, hs, q⟩
  cases rx
  cases rxs with
  | cons ry rt =>
    cases rt
    cases ry
    obtain ⟨its, rv, ⟨ob, n, ho, hc, _, hd⟩, hlen⟩ := I.list hs
    obtain ⟨as, rd⟩ := Dp.readsAll I _ _ its (dpAll_bl bs) rv
    refine PySem.SeqAt.count_list_data (d := .bool true) (bs := _) ⟨ob, ho, hc, n, hd⟩ (by simpa using rd) (Reads.bool true) (plain_bl bs) (by simp [PyData.plain]) ?_ ⟨.int ((bs.countP id : Nat) : Int), H, I.tok _, ⟨s.toks, ?_⟩, q⟩
    · rw [depth_bl]
      simp [PyData.depth]
      omega
    · rw [count_bl]
end
/-! ### calls that may raise, the wish told at the caller's slots -/
section
variable {X : Cx} {CX : CXT} {k : Nat} {C f : Addr} {fd : FuncData} {ps : List Str} {sp : Sp} {E : L2.St → XK} {x m : Str} {p pos apos : Pos} {e o : Expr} {es : List Expr} {ta : TE} {t : TA}
def tMethE (C : Addr) (m : Str) (sp : Sp) (E : L2.St → XK) (ta : TE) (t : TA) : TE := fun σ H Q => ta σ H fun x H1 => ∃ a dx fs, x = .ref a ∧ H1 a = some (.ins C dx fs) ∧ fs.lookup m = none ∧ t σ H1 fun vs H2 => sp (x :: vs) H2 Q (E σ)
def tMakeE (C : Addr) (sp : Sp) (E : L2.St → XK) (t : TA) : TE := fun σ H Q => t σ H fun vs H1 => ∀ x dx, H1 x = none → H1 dx = none → dx ≠ x → sp (.ref x :: vs) (upd (upd H1 dx (.own x)) x (.ins C dx [])) (fun v H2 => v = .non ∧ Q (.ref x) H2) (E σ)
theorem Has.callS (h : Has X.prog X.w X.K X.mg X.base CX x ps k sp) (hr : Room k X.A) (hg : Gl X x) (hx : ∀ σ, PassesAt CX X σ (E σ)) (ha : PA X (e :: es) t) (hdb : (x == ("__debug__" : Str)) = false := by decide)
    (he : starEach (e :: es) X.env = (false, eval e X.env) :: starEach es X.env := by rfl) (hpl : (backTo pos (starEach es X.env)).any (·.1) = false := by rfl) : PE X (.Call (.Name x p) (e :: es) [] pos) (tCallS sp E t) := by
  obtain ⟨f, fd, hm, hk, hb, F⟩ := h
  exact pe_callS F hr hg hm hk hb hx ha hdb he hpl
theorem HasM.callS (h : HasM X.prog X.w X.K X.mg X.base CX C m ps k sp) (c : Cls X.K C) (ho : PE X o ta) (hr : Room k X.A) (hx : ∀ σ, PassesAt CX X σ (E σ)) (ha : PA X (e :: es) t) {pl : Sem Bool}
    (hst : starEach (e :: es) X.env = (false, eval e X.env) :: starEach es X.env := by rfl) (hpl : (backTo pos (starEach es X.env)).any (·.1) = false := by rfl)
    (ht : eval (.Call (.Attribute o m apos) (e :: es) [] pos) X.env = (do let ov ← eval o X.env; standAt apos.atName; let (f, first) ← holding [ov] (getMethod ov m pl); callWith pos f first (backTo pos (starEach (e :: es) X.env)) (backToKw pos (keywordEach [] X.env))) := by rfl) : PE X (.Call (.Attribute o m apos) (e :: es) [] pos) (tMethE C m sp E ta t) := by
  obtain ⟨f, fd, hm, hb, F⟩ := h
  constructor
  intro pins s σ H Q I q
  have first := ho.run pins s σ H _ I q
  refine PySem.W.methodCall_KW (pl := pl) (wpAny_mono first (fun u s1 out => ?_) fun _ _ z => z) ht
  obtain ⟨y, H1, I1, ry, a, dx, fs, rfl, ea, hl, q1⟩ := out
  have eu : u = Value.ref a := ry
  subst eu
  have args := ha.run pos pins s1 σ H1 _ I1 q1
  exact getmeth_ok I1 ea c hm hl (PySem.W.callWith_K (first := [.ref a]) (h₀ := X.base) I.ok.mod.kin hm.kp (wpAny_mono args (fun us s2 out => by
    obtain ⟨vs, H2, I2, r, q2⟩ := out
    exact ⟨I2.kIn, run_fnS (us := .ref a :: us) (vs := .ref a :: vs) F hr hb (hx σ) I2 (.cons rfl r) q2⟩) fun _ _ z => z) hst hpl)
theorem HasI.makeS (h : HasI X.prog X.w X.K X.mg X.base CX C ps k sp) (hr : Room (k + 1) X.A) (hg : Gl X x) (hm : X.mg x = some (.ref C)) (hx : ∀ σ, PassesAt CX X σ (E σ)) (ha : PA X (e :: es) t) (hdb : (x == ("__debug__" : Str)) = false := by decide)
    (he : starEach (e :: es) X.env = (false, eval e X.env) :: starEach es X.env := by rfl) (hpl : (backTo pos (starEach es X.env)).any (·.1) = false := by rfl) : PE X (.Call (.Name x p) (e :: es) [] pos) (tMakeE C sp E t) := by
  obtain ⟨f, fd, M, hb, F⟩ := h
  constructor
  intro pins s σ H Q I q
  have args := ha.run pos pins s σ H _ I q
  refine wpAny_Call_Name_kw (ld_glob I hg hm (PySem.W.callWith_K (h₀ := X.base) I.ok.mod.kin M.kp (wpAny_mono args (fun us s1 out => ?_) fun _ _ z => z) he hpl) hdb)
  obtain ⟨vs, H1, I1, r, q1⟩ := out
  refine ⟨I1.kIn, ?_⟩
  have sz := I1.hok
  have want := q1 (s1.heap.objs.size + 1) s1.heap.objs.size (sz.fresh (Nat.le_succ _)) (sz.fresh (Nat.le_refl _)) (Nat.ne_of_lt (Nat.lt_succ_self _))
  have I2 := Inv.made (C := C) I1
  have r2 : Vals (V.ref (s1.heap.objs.size + 1) :: vs) (Value.ref (s1.heap.objs.size + 1) :: us) := .cons rfl r
  have len : (Value.ref (s1.heap.objs.size + 1) :: us).length = ps.length := r2.length.symm.trans (F.len _ _ _ _ want)
  have b2 := hb _ (Value.ref (s1.heap.objs.size + 1) :: us) I2.kIn (by rw [List.append_nil]; exact len)
  rw [List.append_nil] at b2
  have ran := F.run _ X.stack _ _ ⟨Value.ref (s1.heap.objs.size + 1) :: us, []⟩ (Value.ref (s1.heap.objs.size + 1) :: us) _ _ (E σ) (hr.make C us []) (I2.env0.make C us []) b2 r2 want
  refine wpAny_call (make_map (f := f) I1.kIn M.makes M.init (beq_iff_eq.mp M.fn) (codeAny_mono ran fun res s' out => ?_))
  cases res with
  | error e1 => exact hx σ pins _ _ e1 s' I2 out
  | ok fl =>
    cases fl with
    | ret u =>
      obtain ⟨v, H', I3, rv, ev, q3⟩ := I2.after out
      subst ev
      exact ⟨rv, .ref (s1.heap.objs.size + 1), H', I3, rfl, q3⟩
    | next => exact out.elim
    | brk => exact out.elim
    | cont => exact out.elim
end
end Fi
namespace Fi
open PySem L2 Evl
def top (i : Nat) : Stmt := PySem.Challenge.pw_firetree_k02_trees_refused.main.body.getD i (.Pass ⟨0, 0, 0, 0⟩)
abbrev s_Tree___init__ : Stmt := inClass (top 9) 0
abbrev n_Tree___init__ : List Str := ["self", "elders", "worths", "k", "worth"]
abbrev p_Tree___init__ : List Str := ["self", "elders", "worths"]
theorem sc_Tree___init__ : FnScope n_Tree___init__ p_Tree___init__ (defScope s_Tree___init__) := ⟨rfl, rfl, rfl, by decide +kernel, rfl, by decide +kernel, by decide +kernel⟩
theorem bd_Tree___init__ : ∀ (kV doc pm : Value) (an : Option Addr) (cdv ct : Value) (us : List Value), us.length = p_Tree___init__.length → bindArgs (PySem.W.fnOf "__init__" "Tree.__init__" (defArgs s_Tree___init__) (defBody s_Tree___init__) (defScope s_Tree___init__) .none kV doc pm an cdv ct) ⟨us, []⟩ = pure (p_Tree___init__.zip us) := fun _ _ _ _ _ _ us hl => match us, hl with | [_, _, _], _ => rfl
abbrev s_Tree_elders : Stmt := inClass (top 9) 1
abbrev n_Tree_elders : List Str := ["self"]
abbrev p_Tree_elders : List Str := ["self"]
theorem sc_Tree_elders : FnScope n_Tree_elders p_Tree_elders (defScope s_Tree_elders) := ⟨rfl, rfl, rfl, by decide +kernel, rfl, by decide +kernel, by decide +kernel⟩
theorem bd_Tree_elders : ∀ (kV doc pm : Value) (an : Option Addr) (cdv ct : Value) (us : List Value), us.length = p_Tree_elders.length → bindArgs (PySem.W.fnOf "elders" "Tree.elders" (defArgs s_Tree_elders) (defBody s_Tree_elders) (defScope s_Tree_elders) .none kV doc pm an cdv ct) ⟨us, []⟩ = pure (p_Tree_elders.zip us) := fun _ _ _ _ _ _ us hl => match us, hl with | [_], _ => rfl
abbrev s_Tree_worths : Stmt := inClass (top 9) 2
abbrev n_Tree_worths : List Str := ["self"]
abbrev p_Tree_worths : List Str := ["self"]
theorem sc_Tree_worths : FnScope n_Tree_worths p_Tree_worths (defScope s_Tree_worths) := ⟨rfl, rfl, rfl, by decide +kernel, rfl, by decide +kernel, by decide +kernel⟩
theorem bd_Tree_worths : ∀ (kV doc pm : Value) (an : Option Addr) (cdv ct : Value) (us : List Value), us.length = p_Tree_worths.length → bindArgs (PySem.W.fnOf "worths" "Tree.worths" (defArgs s_Tree_worths) (defBody s_Tree_worths) (defScope s_Tree_worths) .none kV doc pm an cdv ct) ⟨us, []⟩ = pure (p_Tree_worths.zip us) := fun _ _ _ _ _ _ us hl => match us, hl with | [_], _ => rfl
abbrev s_Tree_things : Stmt := inClass (top 9) 3
abbrev n_Tree_things : List Str := ["self"]
abbrev p_Tree_things : List Str := ["self"]
theorem sc_Tree_things : FnScope n_Tree_things p_Tree_things (defScope s_Tree_things) := ⟨rfl, rfl, rfl, by decide +kernel, rfl, by decide +kernel, by decide +kernel⟩
theorem bd_Tree_things : ∀ (kV doc pm : Value) (an : Option Addr) (cdv ct : Value) (us : List Value), us.length = p_Tree_things.length → bindArgs (PySem.W.fnOf "things" "Tree.things" (defArgs s_Tree_things) (defBody s_Tree_things) (defScope s_Tree_things) .none kV doc pm an cdv ct) ⟨us, []⟩ = pure (p_Tree_things.zip us) := fun _ _ _ _ _ _ us hl => match us, hl with | [_], _ => rfl
abbrev s_Tree_see_thing : Stmt := inClass (top 9) 4
abbrev n_Tree_see_thing : List Str := ["self", "thing"]
abbrev p_Tree_see_thing : List Str := ["self", "thing"]
theorem sc_Tree_see_thing : FnScope n_Tree_see_thing p_Tree_see_thing (defScope s_Tree_see_thing) := ⟨rfl, rfl, rfl, by decide +kernel, rfl, by decide +kernel, by decide +kernel⟩
theorem bd_Tree_see_thing : ∀ (kV doc pm : Value) (an : Option Addr) (cdv ct : Value) (us : List Value), us.length = p_Tree_see_thing.length → bindArgs (PySem.W.fnOf "see_thing" "Tree.see_thing" (defArgs s_Tree_see_thing) (defBody s_Tree_see_thing) (defScope s_Tree_see_thing) .none kV doc pm an cdv ct) ⟨us, []⟩ = pure (p_Tree_see_thing.zip us) := fun _ _ _ _ _ _ us hl => match us, hl with | [_, _], _ => rfl
abbrev s_Tree_depth : Stmt := inClass (top 9) 5
abbrev n_Tree_depth : List Str := ["self", "thing", "steps"]
abbrev p_Tree_depth : List Str := ["self", "thing"]
theorem sc_Tree_depth : FnScope n_Tree_depth p_Tree_depth (defScope s_Tree_depth) := ⟨rfl, rfl, rfl, by decide +kernel, rfl, by decide +kernel, by decide +kernel⟩
theorem bd_Tree_depth : ∀ (kV doc pm : Value) (an : Option Addr) (cdv ct : Value) (us : List Value), us.length = p_Tree_depth.length → bindArgs (PySem.W.fnOf "depth" "Tree.depth" (defArgs s_Tree_depth) (defBody s_Tree_depth) (defScope s_Tree_depth) .none kV doc pm an cdv ct) ⟨us, []⟩ = pure (p_Tree_depth.zip us) := fun _ _ _ _ _ _ us hl => match us, hl with | [_, _], _ => rfl
abbrev s_Tree_below : Stmt := inClass (top 9) 6
abbrev n_Tree_below : List Str := ["self", "thing", "found", "other"]
abbrev p_Tree_below : List Str := ["self", "thing"]
theorem sc_Tree_below : FnScope n_Tree_below p_Tree_below (defScope s_Tree_below) := ⟨rfl, rfl, rfl, by decide +kernel, rfl, by decide +kernel, by decide +kernel⟩
theorem bd_Tree_below : ∀ (kV doc pm : Value) (an : Option Addr) (cdv ct : Value) (us : List Value), us.length = p_Tree_below.length → bindArgs (PySem.W.fnOf "below" "Tree.below" (defArgs s_Tree_below) (defBody s_Tree_below) (defScope s_Tree_below) .none kV doc pm an cdv ct) ⟨us, []⟩ = pure (p_Tree_below.zip us) := fun _ _ _ _ _ _ us hl => match us, hl with | [_, _], _ => rfl
abbrev s_Tree_worth_below : Stmt := inClass (top 9) 7
abbrev n_Tree_worth_below : List Str := ["self", "thing", "other"]
abbrev p_Tree_worth_below : List Str := ["self", "thing"]
theorem sc_Tree_worth_below : FnScope n_Tree_worth_below p_Tree_worth_below (defScope s_Tree_worth_below) := ⟨rfl, rfl, rfl, by decide +kernel, rfl, by decide +kernel, by decide +kernel⟩
theorem bd_Tree_worth_below : ∀ (kV doc pm : Value) (an : Option Addr) (cdv ct : Value) (us : List Value), us.length = p_Tree_worth_below.length → bindArgs (PySem.W.fnOf "worth_below" "Tree.worth_below" (defArgs s_Tree_worth_below) (defBody s_Tree_worth_below) (defScope s_Tree_worth_below) .none kV doc pm an cdv ct) ⟨us, []⟩ = pure (p_Tree_worth_below.zip us) := fun _ _ _ _ _ _ us hl => match us, hl with | [_, _], _ => rfl
abbrev s__law_cell_at : Stmt := top 11
abbrev n__law_cell_at : List Str := ["script", "k"]
abbrev p__law_cell_at : List Str := ["script", "k"]
theorem sc__law_cell_at : FnScope n__law_cell_at p__law_cell_at (defScope s__law_cell_at) := ⟨rfl, rfl, rfl, by decide +kernel, rfl, by decide +kernel, by decide +kernel⟩
theorem bd__law_cell_at : ∀ (kV doc pm : Value) (an : Option Addr) (cdv ct : Value) (us : List Value), us.length = p__law_cell_at.length → bindArgs (PySem.W.fnOf "_law_cell_at" "_law_cell_at" (defArgs s__law_cell_at) (defBody s__law_cell_at) (defScope s__law_cell_at) .none kV doc pm an cdv ct) ⟨us, []⟩ = pure (p__law_cell_at.zip us) := fun _ _ _ _ _ _ us hl => match us, hl with | [_, _], _ => rfl
abbrev s__law_draw : Stmt := top 12
abbrev n__law_draw : List Str := ["script", "k"]
abbrev p__law_draw : List Str := ["script", "k"]
theorem sc__law_draw : FnScope n__law_draw p__law_draw (defScope s__law_draw) := ⟨rfl, rfl, rfl, by decide +kernel, rfl, by decide +kernel, by decide +kernel⟩
theorem bd__law_draw : ∀ (kV doc pm : Value) (an : Option Addr) (cdv ct : Value) (us : List Value), us.length = p__law_draw.length → bindArgs (PySem.W.fnOf "_law_draw" "_law_draw" (defArgs s__law_draw) (defBody s__law_draw) (defScope s__law_draw) .none kV doc pm an cdv ct) ⟨us, []⟩ = pure (p__law_draw.zip us) := fun _ _ _ _ _ _ us hl => match us, hl with | [_, _], _ => rfl
abbrev s__law_elders : Stmt := top 13
abbrev n__law_elders : List Str := ["script", "things", "elders", "way", "k", "cell"]
abbrev p__law_elders : List Str := ["script", "things"]
theorem sc__law_elders : FnScope n__law_elders p__law_elders (defScope s__law_elders) := ⟨rfl, rfl, rfl, by decide +kernel, rfl, by decide +kernel, by decide +kernel⟩
theorem bd__law_elders : ∀ (kV doc pm : Value) (an : Option Addr) (cdv ct : Value) (us : List Value), us.length = p__law_elders.length → bindArgs (PySem.W.fnOf "_law_elders" "_law_elders" (defArgs s__law_elders) (defBody s__law_elders) (defScope s__law_elders) .none kV doc pm an cdv ct) ⟨us, []⟩ = pure (p__law_elders.zip us) := fun _ _ _ _ _ _ us hl => match us, hl with | [_, _], _ => rfl
abbrev s__law_tree : Stmt := top 14
abbrev n__law_tree : List Str := ["script", "most", "things", "top", "k"]
abbrev p__law_tree : List Str := ["script", "most"]
theorem sc__law_tree : FnScope n__law_tree p__law_tree (defScope s__law_tree) := ⟨rfl, rfl, rfl, by decide +kernel, rfl, by decide +kernel, by decide +kernel⟩
theorem bd__law_tree : ∀ (kV doc pm : Value) (an : Option Addr) (cdv ct : Value) (us : List Value), us.length = p__law_tree.length → bindArgs (PySem.W.fnOf "_law_tree" "_law_tree" (defArgs s__law_tree) (defBody s__law_tree) (defScope s__law_tree) .none kV doc pm an cdv ct) ⟨us, []⟩ = pure (p__law_tree.zip us) := fun _ _ _ _ _ _ us hl => match us, hl with | [_, _], _ => rfl
abbrev s__law_alone : Stmt := top 15
abbrev n__law_alone : List Str := ["e", "found"]
abbrev p__law_alone : List Str := ["e"]
theorem sc__law_alone : FnScope n__law_alone p__law_alone (defScope s__law_alone) := ⟨rfl, rfl, rfl, by decide +kernel, rfl, by decide +kernel, by decide +kernel⟩
theorem bd__law_alone : ∀ (kV doc pm : Value) (an : Option Addr) (cdv ct : Value) (us : List Value), us.length = p__law_alone.length → bindArgs (PySem.W.fnOf "_law_alone" "_law_alone" (defArgs s__law_alone) (defBody s__law_alone) (defScope s__law_alone) .none kV doc pm an cdv ct) ⟨us, []⟩ = pure (p__law_alone.zip us) := fun _ _ _ _ _ _ us hl => match us, hl with | [_], _ => rfl
abbrev s__law_spoiled : Stmt := top 16
abbrev n__law_spoiled : List Str := ["plot", "fault", "cell", "elders", "worths", "at", "k"]
abbrev p__law_spoiled : List Str := ["plot", "fault", "cell"]
theorem sc__law_spoiled : FnScope n__law_spoiled p__law_spoiled (defScope s__law_spoiled) := ⟨rfl, rfl, rfl, by decide +kernel, rfl, by decide +kernel, by decide +kernel⟩
theorem bd__law_spoiled : ∀ (kV doc pm : Value) (an : Option Addr) (cdv ct : Value) (us : List Value), us.length = p__law_spoiled.length → bindArgs (PySem.W.fnOf "_law_spoiled" "_law_spoiled" (defArgs s__law_spoiled) (defBody s__law_spoiled) (defScope s__law_spoiled) .none kV doc pm an cdv ct) ⟨us, []⟩ = pure (p__law_spoiled.zip us) := fun _ _ _ _ _ _ us hl => match us, hl with | [_, _, _], _ => rfl
abbrev s__law_made : Stmt := top 17
abbrev n__law_made : List Str := ["elders", "worths", "found", "e"]
abbrev p__law_made : List Str := ["elders", "worths"]
theorem sc__law_made : FnScope n__law_made p__law_made (defScope s__law_made) := ⟨rfl, rfl, rfl, by decide +kernel, rfl, by decide +kernel, by decide +kernel⟩
theorem bd__law_made : ∀ (kV doc pm : Value) (an : Option Addr) (cdv ct : Value) (us : List Value), us.length = p__law_made.length → bindArgs (PySem.W.fnOf "_law_made" "_law_made" (defArgs s__law_made) (defBody s__law_made) (defScope s__law_made) .none kV doc pm an cdv ct) ⟨us, []⟩ = pure (p__law_made.zip us) := fun _ _ _ _ _ _ us hl => match us, hl with | [_, _], _ => rfl
abbrev s__law_refused : Stmt := top 18
abbrev n__law_refused : List Str := ["tree", "call", "thing", "found", "e"]
abbrev p__law_refused : List Str := ["tree", "call", "thing"]
theorem sc__law_refused : FnScope n__law_refused p__law_refused (defScope s__law_refused) := ⟨rfl, rfl, rfl, by decide +kernel, rfl, by decide +kernel, by decide +kernel⟩
theorem bd__law_refused : ∀ (kV doc pm : Value) (an : Option Addr) (cdv ct : Value) (us : List Value), us.length = p__law_refused.length → bindArgs (PySem.W.fnOf "_law_refused" "_law_refused" (defArgs s__law_refused) (defBody s__law_refused) (defScope s__law_refused) .none kV doc pm an cdv ct) ⟨us, []⟩ = pure (p__law_refused.zip us) := fun _ _ _ _ _ _ us hl => match us, hl with | [_, _, _], _ => rfl
abbrev s_law : Stmt := top 19
abbrev n_law : List Str := ["script", "plot", "cell", "fault", "spoiled", "handed", "turn", "found", "many", "call", "thing"]
abbrev p_law : List Str := ["script"]
theorem sc_law : FnScope n_law p_law (defScope s_law) := ⟨rfl, rfl, rfl, by decide +kernel, rfl, by decide +kernel, by decide +kernel⟩
theorem bd_law : ∀ (kV doc pm : Value) (an : Option Addr) (cdv ct : Value) (us : List Value), us.length = p_law.length → bindArgs (PySem.W.fnOf "law" "law" (defArgs s_law) (defBody s_law) (defScope s_law) .none kV doc pm an cdv ct) ⟨us, []⟩ = pure (p_law.zip us) := fun _ _ _ _ _ _ us hl => match us, hl with | [_], _ => rfl
end Fi
/-! The law's draws and its tree. -/
namespace Fi
open PySem L2 Evl
section
variable {P : Program} {w : World} {K : PySem.W.Frag} {mg : Str → Option Value} {base : Heap}
/-! ### _law_cell_at -/
def spCell (K : PySem.W.Frag) : Sp := fun vs H Q _ => ∃ (a : Addr) (ns : List Int) (k : Int), vs = [.ref a, .int k] ∧ SqL K H a (ns.map V.int) ∧ 0 ≤ k ∧ RetV (.int (ns.getD k.toNat 0)) H Q
theorem has_cell (B : Bi mg) (D : At K mg "_law_cell_at" s__law_cell_at p__law_cell_at) : Has P w K mg base CX0 "_law_cell_at" p__law_cell_at 1 (spCell K) := D.has fun f fd F => by
  refine F.ok sc__law_cell_at (fun vs H Q E h => ?_) (fun cdv A outer s H vs Q E hr h => ?_)
  · obtain ⟨a, ns, k, rfl, _⟩ := h
    rfl
  · obtain ⟨a, ns, k, rfl, hS, hk, q⟩ := h
    refine ⟨_, (pss_cons (ps_if (pt_cmpR op_lt (pv 1) (pe_callB (call_lenK (K := K)) (by rfl) B.len PySem.boot_len (pa_cons (pv 0) pa_nil)) (nomark _)) (pss_one (ps_ret (pe_ix (ix_listK (K := K)) (pv 0) (pv 1) (fun _ _ => rfl)))) pss_nil)
      (pss_one (ps_ret pe_int))), ?_⟩
    refine q_when (et_test (ev_op (ev_var rfl) (ev_lenS (ev_var rfl) hS) rv_I0)) (fun hb H1 e1 => ?_) (fun hb H1 e1 => ?_)
    · have hlt : k < ((ns.map V.int).length : Int) := of_decide_eq_true hb
      rw [List.length_map] at hlt
      have hx : atI (ns.map V.int) k = some (V.int (ns.getD k.toNat 0)) := at_of (j := k.toNat) (by omega) (by
        rw [List.getElem?_map, List.getD_eq_getElem?_getD, List.getElem?_eq_getElem (by omega)]; rfl)
      exact s_ret (ev_opIx (ev_var rfl) (ev_var rfl) (ex_l e1 hS) hx) fun H2 e2 => q H2 (e1.trans e2)
    · have hlt : ¬ k < ((ns.map V.int).length : Int) := of_decide_eq_false hb
      rw [List.length_map] at hlt
      have hx : ns.getD k.toNat 0 = 0 := by
        rw [List.getD_eq_getElem?_getD, List.getElem?_eq_none (by omega)]; rfl
      rw [hx] at q
      exact s_ret ev_c fun H2 e2 => q H2 (e1.trans e2)
theorem spv_cell {H : Hp} {a : Addr} {ns : List Int} {k : Int} (hS : SqL K H a (ns.map V.int)) (hk : 0 ≤ k) : SpV (spCell K) [.ref a, .int k] H (.int (ns.getD k.toNat 0)) := fun H1 e Q q E => ⟨a, ns, k, rfl, ex_l e hS, hk, q⟩
/-! ### _law_draw -/
def spDraw (K : PySem.W.Frag) : Sp := fun vs H Q _ => ∃ (a : Addr) (ns : List Int) (k : Int), vs = [.ref a, .int k] ∧ SqL K H a (ns.map V.int) ∧ 0 ≤ k ∧ k ≤ 1000 ∧ RetV (.int (Fm.draw ns k)) H Q
theorem has_draw (D : At K mg "_law_draw" s__law_draw p__law_draw) (h_law_cell_at : Has P w K mg base CX0 "_law_cell_at" p__law_cell_at 1 (spCell K)) : Has P w K mg base CX0 "_law_draw" p__law_draw 2 (spDraw K) := D.has fun f fd F => by
  refine F.ok sc__law_draw (fun vs H Q E h => ?_) (fun cdv A outer s H vs Q E hr h => ?_)
  · obtain ⟨a, ns, k, rfl, _⟩ := h
    rfl
  · obtain ⟨a, ns, k, rfl, hS, hk, hk2, q⟩ := h
    refine ⟨_, (pss_one (ps_ret (pe_op op_mod (pe_op op_mul (pe_op op_add (h_law_cell_at.call (hr.mono (by decide)) (by rfl) pass0 (pa_cons (pv 0) (pa_cons (pe_op op_mod (pv 1) pe_int) pa_nil))) (pe_op op_mul pe_int (pv 1))) (pe_op op_add pe_int (pe_op op_mul pe_int (pv 1)))) pe_int))), ?_⟩
    refine s_ret (ev_op (ev_op (ev_op (ev_call0 (ea_cons (ev_var rfl) (ea_cons (ev_op (ev_var rfl) ev_c (rv_I (by decide))) ea_nil)) (spv_cell hS (Int.emod_nonneg _ (by decide)))) (ev_op ev_c (ev_var rfl) (rv_I (.inl (by decide)))) rv_I0)
      (ev_op ev_c (ev_op ev_c (ev_var rfl) (rv_I (.inl (by decide)))) rv_I0) (rv_I (.inr ⟨by omega, by omega⟩))) ev_c (rv_I (by decide))) fun H1 e1 => q H1 e1
theorem spv_draw {H : Hp} {a : Addr} {ns : List Int} {k : Int} (hS : SqL K H a (ns.map V.int)) (hk : 0 ≤ k) (hk2 : k ≤ 1000) : SpV (spDraw K) [.ref a, .int k] H (.int (Fm.draw ns k)) := fun H1 e Q q E => ⟨a, ns, k, rfl, ex_l e hS, hk, hk2, q⟩
/-! ### _law_elders -/
def spElders (K : PySem.W.Frag) : Sp := fun vs H Q _ => ∃ (a : Addr) (ns : List Int) (n : Nat), vs = [.ref a, .int (n : Int)] ∧ SqL K H a (ns.map V.int) ∧ 1 ≤ n ∧ n ≤ 14 ∧ RetL (vi (Fm.elders ns (n - 1))) H Q
theorem way4 {w a b c d : Int} (h0 : 0 ≤ w) (h1 : w < 4) : atI [V.int a, V.int b, V.int c, V.int d] w = some (V.int (if w = 0 then a else if w = 1 then b else if w = 2 then c else d)) := by
  have : w = 0 ∨ w = 1 ∨ w = 2 ∨ w = 3 := by omega
  rcases this with rfl | rfl | rfl | rfl <;> rfl
theorem has_elders (B : Bi mg) (D : At K mg "_law_elders" s__law_elders p__law_elders) (h_law_draw : Has P w K mg base CX0 "_law_draw" p__law_draw 2 (spDraw K)) : Has P w K mg base CX0 "_law_elders" p__law_elders 3 (spElders K) := D.has fun f fd F => by
  refine F.ok sc__law_elders (fun vs H Q E h => ?_) (fun cdv A outer s H vs Q E hr h => ?_)
  · obtain ⟨a, ns, k, rfl, _⟩ := h
    rfl
  · obtain ⟨a, ns, n, rfl, hS, hn, hn2, q⟩ := h
    refine ⟨_, (pss_cons (ps_set (i := 2) sc__law_elders.nd rfl (Or.inl rfl) (pe_lst pa_nil))
      (pss_cons (ps_set (i := 3) sc__law_elders.nd rfl (Or.inl rfl) (pe_op op_mod (h_law_draw.call (hr.mono (by decide)) (by rfl) pass0 (pa_cons (pv 0) (pa_cons pe_int pa_nil))) pe_int))
      (pss_cons (ps_for PassesOwn.never rfl (pi_range1 (by rfl) B.range (pa_cons (pe_op op_sub (pv 1) pe_int) pa_nil)) (pg_name (i := 4) sc__law_elders.nd rfl (Or.inl rfl)) (pss_cons (ps_set (i := 5) sc__law_elders.nd rfl (Or.inl rfl) (h_law_draw.call (hr.mono (by decide)) (by rfl) pass0 (pa_cons (pv 0) (pa_cons (pe_op op_add pe_int (pv 4)) pa_nil))))
        (pss_one (ps_expr (pe_bm PySem.F.plainAttrs_list PySem.F.slot_list_append PySem.F.type_list_append mt_append (pv 2) (pa_cons (pe_ix (ix_listK (K := K)) (pe_lst (pa_cons (pe_op op_mod (pv 5) (pe_op op_add (pv 4) pe_int)) (pa_cons (pe_op op_sub (pv 4) (pe_op op_fdiv (pe_op op_mod (pv 5) (pe_op op_add (pv 4) pe_int)) pe_int)) (pa_cons (pe_op op_mod (pv 5) (pe_callB (call_min2 rfl) (by rfl) B.min (by decide +kernel) (pa_cons (pe_op op_add (pv 4) pe_int) (pa_cons pe_int pa_nil)))) (pa_cons (pe_op op_fdiv (pe_op op_add (pv 4) (pe_op op_mod (pv 5) pe_int)) pe_int) pa_nil))))) (pv 3) (fun _ _ => rfl)) pa_nil))))))
      (pss_one (ps_ret (pv 2)))))), ?_⟩
    -- elders = []; way = ..
    refine q_asgL (el_lst ea_nil (Nat.zero_le _)) fun l H1 hl e1 h1 => ?_
    refine q_asg (ev_op (ev_call0 (ea_cons (ev_var rfl) (ea_cons ev_c ea_nil)) (spv_draw (ex_l e1 hS) (by decide) (by decide))) ev_c (rv_I (by decide))) fun H2 e2 => ?_
    have w0 : 0 ≤ Fm.draw ns 2 % 4 := Int.emod_nonneg _ (by decide)
    have w1 : Fm.draw ns 2 % 4 < 4 := Int.emod_lt_of_pos _ (by decide)
    refine q_forR1 (n := (n : Int) - 1) (ea_cons (ev_op (ev_var rfl) ev_c rv_I0) ea_nil) ⟨by omega, by omega⟩
      (fun i σ' H' => ∃ v1 v2, σ' = [some (.ref a), some (.int (n : Int)), some (.ref l), some (.int (Fm.draw ns 2 % 4)), v1, v2] ∧ Ex H H' ∧ H' l = some (.lst (vi (Fm.elders ns i))))
      (fun H3 e3 => ⟨none, none, rfl, (e1.trans e2).trans e3, e3 _ _ (e2 _ _ h1)⟩) ?_ ?_
    · rintro i σ' H' hi ⟨v1, v2, rfl, e, hL⟩
      -- cell = ..
      refine q_asg (v := .int (Fm.draw ns (10 + (i : Int)))) (ev_call0 (ea_cons (ev_var rfl) (ea_cons (ev_op ev_c (ev_var rfl) rv_I0) ea_nil)) (spv_draw (ex_l e hS) (by omega) (by omega))) fun H4 e4 => ?_
      refine s_app (v := .int ((Fm.elderAt (Fm.draw ns 2 % 4) (i : Int) (Fm.draw ns (10 + (i : Int)))).toNat : Nat)) (e4 _ _ hL) (ev_var rfl) ?_ (by rw [vi_len, Fm.elders_len]; omega) fun H5 e5 => ?_
      · rw [Int.toNat_of_nonneg (Fm.elderAt_lo (by omega))]
        refine ev_is (ev_opIxN (el_lst (ea_cons (ev_op (ev_var rfl) (ev_op (ev_var rfl) ev_c rv_I0) (rv_I (by show (0 : Int) < (i : Int) + 1; omega))) (ea_cons (ev_op (ev_var rfl) (ev_op (ev_op (ev_var rfl) (ev_op (ev_var rfl) ev_c rv_I0) (rv_I (by show (0 : Int) < (i : Int) + 1; omega))) ev_c (rv_I ⟨by decide, by decide⟩)) rv_I0)
          (ea_cons (ev_op (ev_var rfl) (ev_cb (ea_cons (ev_op (ev_var rfl) ev_c rv_I0) (ea_cons ev_c ea_nil)) rc_min2) (rv_I (by show (0 : Int) < if (3 : Int) < (i : Int) + 1 then 3 else (i : Int) + 1; split <;> omega))) (ea_cons (ev_op (ev_op (ev_var rfl) (ev_op (ev_var rfl) ev_c (rv_I (by decide))) rv_I0) ev_c (rv_I ⟨by decide, by decide⟩)) ea_nil)))) (by show 4 ≤ 100000; decide)) (ev_var rfl) (way4 w0 w1)) ?_
        rfl
      · refine ⟨_, _, rfl, Ex.mut ((e.trans e4).trans e5) hl, ?_⟩
        rw [upd_same, Fm.elders_succ, vi_app]
        rfl
    · rintro σ' H' ⟨v1, v2, rfl, e, hL⟩
      have en : ((n : Int) - 1).toNat = n - 1 := by omega
      rw [en] at hL
      exact s_ret (ev_var rfl) fun H3 e3 => q l H3 hl (e.trans e3) (e3 _ _ hL)
theorem spl_elders {H : Hp} {a : Addr} {ns : List Int} {n : Nat} (hS : SqL K H a (ns.map V.int)) (h1 : 1 ≤ n) (h2 : n ≤ 14) : SpL (spElders K) [.ref a, .int (n : Int)] H (vi (Fm.elders ns (n - 1))) := fun H1 e Q q E => ⟨a, ns, n, rfl, ex_l e hS, h1, h2, q⟩
/-! ### _law_tree -/
def spPlot (K : PySem.W.Frag) : Sp := fun vs H Q _ => ∃ (a : Addr) (ns : List Int) (most : Nat), vs = [.ref a, .int (most : Int)] ∧ SqL K H a (ns.map V.int) ∧ 1 ≤ most ∧ most ≤ 14 ∧
  RetP (fun v H2 => ∃ p, v = .ref p ∧ PlotAt H2 p (Fm.elders ns (Fm.count ns most - 1)) (Fm.worths ns (Fm.count ns most))) H Q
theorem top3 {w a b c : Int} (h0 : 0 ≤ w) (h1 : w < 3) : atI [V.int a, V.int b, V.int c] w = some (V.int (if w = 0 then a else if w = 1 then b else c)) := by
  have : w = 0 ∨ w = 1 ∨ w = 2 := by omega
  rcases this with rfl | rfl | rfl <;> rfl
theorem has_plot (B : Bi mg) (D : At K mg "_law_tree" s__law_tree p__law_tree) (h_law_draw : Has P w K mg base CX0 "_law_draw" p__law_draw 2 (spDraw K)) (h_law_elders : Has P w K mg base CX0 "_law_elders" p__law_elders 3 (spElders K)) :
    Has P w K mg base CX0 "_law_tree" p__law_tree 4 (spPlot K) := D.has fun f fd F => by
  refine F.ok sc__law_tree (fun vs H Q E h => ?_) (fun cdv A outer s H vs Q E hr h => ?_)
  · obtain ⟨a, ns, k, rfl, _⟩ := h
    rfl
  · obtain ⟨a, ns, most, rfl, hS, hn, hn2, q⟩ := h
    refine ⟨_, (pss_cons (ps_set (i := 2) sc__law_tree.nd rfl (Or.inl rfl) (pe_op op_add pe_int (pe_op op_mod (h_law_draw.call (hr.mono (by decide)) (by rfl) pass0 (pa_cons (pv 0) (pa_cons pe_int pa_nil))) (pv 1))))
      (pss_cons (ps_set (i := 3) sc__law_tree.nd rfl (Or.inr rfl) (pe_ix (ix_listK (K := K)) (pe_lst (pa_cons pe_int (pa_cons pe_int (pa_cons pe_int pa_nil)))) (pe_op op_mod (h_law_draw.call (hr.mono (by decide)) (by rfl) pass0 (pa_cons (pv 0) (pa_cons pe_int pa_nil))) pe_int) (fun _ _ => rfl)))
      (pss_one (ps_ret (pe_tup (pa_cons (h_law_elders.call (hr.mono (by decide)) (by rfl) pass0 (pa_cons (pv 0) (pa_cons (pv 2) pa_nil))) (pa_cons (pe_lc (own := [("k", 4)]) (g := gName 4) rfl sc__law_tree.nd (pi_range1 (by rfl) B.range (pa_cons (pv 2) pa_nil)) (blkOk_by (own := [("k", 4)]) (N := n__law_tree) (sc := defScope s__law_tree) (by decide +kernel)) (fun _ _ _ _ _ => pg_name (i := 4) sc__law_tree.nd rfl (Or.inl rfl)) (fun _ _ _ _ _ => pts_nil) (fun _ _ _ _ _ => (pe_op op_mod (h_law_draw.call (hr.mono (by decide)) (by rfl) pass0 (pa_cons (pv 0) (pa_cons (pe_op op_add pe_int (pv 4)) pa_nil))) (pv 3)))) pa_nil))))))), ?_⟩
    have c1 := Fm.count_lo ns (most := (most : Int)) (by omega)
    have c2 := Fm.count_hi ns (most := (most : Int)) (by omega)
    refine q_asg (v := .int (Fm.count ns most : Int)) (ev_is (ev_op ev_c (ev_op (ev_call0 (ea_cons (ev_var rfl) (ea_cons ev_c ea_nil)) (spv_draw hS (by decide) (by decide))) (ev_var rfl) (rv_I (by show (0 : Int) < (most : Int); omega))) rv_I0) (by rw [Fm.count_eq ns (by omega)])) fun H1 e1 => ?_
    refine q_asg (v := .int (Fm.topOf ns)) (ev_is (ev_opIxN (el_lst (ea_cons ev_c (ea_cons ev_c (ea_cons ev_c ea_nil))) (by show 3 ≤ 100000; decide)) (ev_op (ev_call0 (ea_cons (ev_var rfl) (ea_cons ev_c ea_nil)) (spv_draw (ex_l e1 hS) (by decide) (by decide))) ev_c (rv_I (by decide)))
      (top3 (Int.emod_nonneg _ (by decide)) (Int.emod_lt_of_pos _ (by decide)))) rfl) fun H2 e2 => ?_
    refine s_retP (ep_tupLL (el_call0 (ea_cons (ev_var rfl) (ea_cons (ev_var rfl) ea_nil)) (spl_elders (ex_l (e1.trans e2) hS) c1 (by omega)))
      (el_lcR1v (n := Fm.count ns most) (fun k => (Fm.draw ns (30 + (k : Int)) % Fm.topOf ns).toNat) (ea_cons (ev_var rfl) ea_nil) (by omega) (fun x => rfl) fun i H3 e3 hi => ?_)) fun v H3 e3 ⟨t, p1, p2, ev, ht, h1, h2⟩ => ?_
    · rw [Int.toNat_of_nonneg (Int.emod_nonneg _ (by have := Fm.topOf_pos ns; omega))]
      exact ev_op (ev_call0 (ea_cons (ev_var rfl) (ea_cons (ev_op ev_c (ev_var rfl) rv_I0) ea_nil)) (spv_draw (ex_l ((e1.trans e2).trans e3) hS) (by omega) (by omega))) (ev_var rfl) (rv_I (Fm.topOf_pos ns))
    · exact q v H3 ((e1.trans e2).trans e3) ⟨t, ev, p1, p2, ht, h1, h2⟩
theorem spp_plot {H : Hp} {a : Addr} {ns : List Int} {most : Nat} (hS : SqL K H a (ns.map V.int)) (h1 : 1 ≤ most) (h2 : most ≤ 14) :
    SpP (spPlot K) [.ref a, .int (most : Int)] H (fun v H2 => ∃ p, v = .ref p ∧ PlotAt H2 p (Fm.elders ns (Fm.count ns most - 1)) (Fm.worths ns (Fm.count ns most))) := fun H1 e Q q E => ⟨a, ns, most, rfl, ex_l e hS, h1, h2, q⟩
/-- some tree of at most so many things -/
theorem spp_some {H : Hp} {a : Addr} {ns : List Int} {most : Nat} (hS : SqL K H a (ns.map V.int)) (h1 : 1 ≤ most) (h2 : most ≤ 14) :
    SpP (spPlot K) [.ref a, .int (most : Int)] H (fun v H2 => ∃ p es ws, v = .ref p ∧ PlotAt H2 p es ws ∧ Fm.OkT es ws ∧ ws.length ≤ most) := fun H1 e Q q E => ⟨a, ns, most, rfl, ex_l e hS, h1, h2, fun v H2 e2 ⟨p, ev, hp⟩ => by
  have c1 := Fm.count_lo ns (most := (most : Int)) (by omega)
  have c2 := Fm.count_hi ns (most := (most : Int)) (by omega)
  exact q v H2 e2 ⟨p, _, _, ev, hp, Fm.ok_drawn ns c1 (by omega), by rw [Fm.worths_len]; omega⟩⟩
/-! ### _law_whole, of a whole number -/
def spWhole : Sp := fun vs H Q _ => ∃ (i : Int), vs = [.int i] ∧ RetV (.bl true) H Q
theorem spv_whole {H : Hp} {i : Int} : SpV spWhole [.int i] H (.bl true) := fun H1 e Q q E => ⟨i, rfl, q⟩
/-! ### _law_numbers, of two lists of whole numbers -/
def spNumbers (K : PySem.W.Frag) : Sp := fun vs H Q _ => ∃ (p q : Addr) (l m : List Nat), vs = [.ref p, .ref q] ∧ H p = some (.lst (vi l)) ∧ SqL K H q (vi m) ∧ l.length ≤ 1000 ∧ RetV (.bl (decide (l = m))) H Q
theorem spv_numbers {H : Hp} {p q : Addr} {l m : List Nat} (h1 : H p = some (.lst (vi l))) (h2 : SqL K H q (vi m)) (hl : l.length ≤ 1000) : SpV (spNumbers K) [.ref p, .ref q] H (.bl (decide (l = m))) := fun H1 e Q k E => ⟨p, q, l, m, rfl, e _ _ h1, ex_l e h2, hl, k⟩
end
end Fi
/-! The class Tree: what each method promises. -/
namespace Fi
open PySem L2 Evl
/-! ### lists of whole numbers of any sign, against the empty list -/
theorem dpAll_z {K : PySem.W.Frag} {H : Hp} : ∀ l : List Int, DpAll K H (l.map V.int) (l.map PyData.int)
  | [] => .nil
  | n :: l => .cons (.int _) (dpAll_z l)
theorem canAll_z : ∀ l : List Int, PyData.canLayAll0 (l.map PyData.int) = true
  | [] => by simp [PyData.canLayAll0]
  | n :: l => by simp [PyData.canLayAll0, PyData.canLay0, canAll_z l]
theorem depthAll_z : ∀ l : List Int, PyData.depthAll (l.map PyData.int) = 0
  | [] => by simp [PyData.depthAll]
  | n :: l => by simp [PyData.depthAll, PyData.depth, depthAll_z l]
theorem shaped_z (l : List Int) : SeqAt.shaped (.list (l.map PyData.int)) = true := by
  unfold SeqAt.shaped
  simp [PyData.canLay0, canAll_z, PyData.depth, depthAll_z]
theorem eqv_zNil (l : List Int) : PyData.eqv (.list (l.map PyData.int)) (.list ([].map PyData.int)) = decide (l = []) := by
  cases l with
  | nil => simp [PyData.eqv, PyData.eqvAll]
  | cons a r => simp [PyData.eqv, PyData.eqvAll]
theorem ev_neNilZ {K : PySem.W.Frag} {σ : L2.St} {H : Hp} {ta : TE} {l : List Int} (ha : EvL ta σ H (l.map V.int)) : Ev (tOp (rNeD K) ta (tLst tNil)) σ H (.bl (!decide (l = []))) :=
  ev_opLL ha (el_lst ea_nil (Nat.zero_le _)) fun p q H1 hp hq e => by
    rw [← eqv_zNil]
    exact rv_neD (fun H2 e2 => .lst (ex_l e2 (sq_of hp)) (dpAll_z l)) (fun H2 e2 => .lst (ex_l e2 (sq_of (xs := ([] : List Int).map V.int) hq)) (dpAll_z [])) (shaped_z l) (shaped_z [])
theorem zget {l : List Int} {i : Nat} {x : V} (h : (l.map V.int)[i]? = some x) : ∃ z, l[i]? = some z ∧ x = V.int z := by
  rw [List.getElem?_map] at h
  cases e : l[i]? with
  | none => rw [e] at h; cases h
  | some n => rw [e] at h; exact ⟨n, rfl, (Option.some.inj h).symm⟩
theorem zgetD {l : List Int} {i : Nat} (h : i < l.length) : l[i]? = some (l.getD i 0) := by
  rw [List.getD_eq_getElem?_getD, List.getElem?_eq_getElem h]
  rfl
theorem zat {l : List Int} {i : Int} {j : Nat} (e : i = (j : Int)) (h : j < l.length) : atI (l.map V.int) i = some (V.int (l.getD j 0)) := at_of e (by rw [List.getElem?_map, zgetD h]; rfl)
theorem zfilter (l : List Int) (f : Int → Bool) : given l.length (fun i => f (l.getD i 0)) (fun i => V.int (l.getD i 0)) = (l.filter f).map V.int := by
  have e : (List.range l.length).map (fun i => l.getD i 0) = l := by
    refine List.ext_getElem (by simp) fun i h1 h2 => ?_
    rw [List.length_map, List.length_range] at h1
    simp only [List.getElem_map, List.getElem_range]
    rw [List.getD_eq_getElem?_getD, List.getElem?_eq_getElem h1]
    rfl
  have e2 : l.filter f = ((List.range l.length).filter (fun i => f (l.getD i 0))).map (fun i => l.getD i 0) := by
    conv => lhs; rw [← e]
    rw [List.filter_map]
    rfl
  unfold given
  rw [e2, List.map_map]
  rfl
/-! ### the attributes -/
theorem kaw : ¬ (("above" : Str) = "worth") := by decide +kernel
def flds (a w : Addr) : List (Str × V) := putF "worth" (.ref w) (putF "above" (.ref a) [])
theorem flds_above (a w : Addr) : (flds a w).lookup ("above" : Str) = some (.ref a) := by
  unfold flds
  rw [lookup_putF, if_neg kaw, lookup_putF, if_pos rfl]
theorem flds_worth (a w : Addr) : (flds a w).lookup ("worth" : Str) = some (.ref w) := by
  unfold flds
  rw [lookup_putF, if_pos rfl]
theorem flds_no (a w : Addr) {m : Str} (h1 : ¬ m = "above") (h2 : ¬ m = "worth") : (flds a w).lookup m = none := by
  unfold flds
  rw [lookup_putF, if_neg h2, lookup_putF, if_neg h1]
  rfl
/-- a tree stands at p -/
structure TreeAt (C : Addr) (H : Hp) (p : Addr) (es ws : List Nat) : Prop where
  at_ : ∃ dx a w, H p = some (.ins C dx (flds a w)) ∧ H a = some (.lst (V.int (-1) :: vi es)) ∧ H w = some (.lst (vi ws))
  ok : Fm.OkT es ws
theorem TreeAt.mono {C : Addr} {H H' : Hp} {p : Addr} {es ws : List Nat} (T : TreeAt C H p es ws) (e : Ex H H') : TreeAt C H' p es ws := by
  obtain ⟨⟨dx, a, w, h1, h2, h3⟩, o⟩ := T
  exact ⟨⟨dx, a, w, e _ _ h1, e _ _ h2, e _ _ h3⟩, o⟩
/-- elders and worths that make a tree -/
def Right (le lw : List Int) : Prop := 1 ≤ lw.length ∧ lw.length ≤ 14 ∧ le.length + 1 = lw.length ∧ (∀ k, k < le.length → 0 ≤ le.getD k 0 ∧ le.getD k 0 ≤ (k : Int)) ∧ ∀ z ∈ lw, 0 ≤ z ∧ z ≤ 1000
theorem vi_int (l : List Nat) : vi l = (l.map fun (n : Nat) => (n : Int)).map V.int := vi_ints l
theorem right_of {es ws : List Nat} (o : Fm.OkT es ws) : Right (es.map fun (n : Nat) => (n : Int)) (ws.map fun (n : Nat) => (n : Int)) := by
  have := o.len
  refine ⟨by rw [List.length_map]; omega, by rw [List.length_map]; exact o.most, by rw [List.length_map, List.length_map]; exact o.len, fun k hk => ?_, fun z hz => ?_⟩
  · rw [List.length_map] at hk
    rw [List.getD_eq_getElem?_getD, List.getElem?_map]
    have h := o.up k es[k] (List.getElem?_eq_getElem hk)
    rw [List.getElem?_eq_getElem hk]
    show 0 ≤ ((es[k] : Nat) : Int) ∧ ((es[k] : Nat) : Int) ≤ (k : Int)
    omega
  · obtain ⟨n, hn, rfl⟩ := List.mem_map.mp hz
    have := o.wt n hn
    omega
/-- what stands of the text for the class -/
structure TreeT (K : PySem.W.Frag) (mg : Str → Option Value) (C : Addr) : Prop where
  cl : Cls K C
  nA : NoAttr K C "above"
  nW : NoAttr K C "worth"
  g : mg "Tree" = some (.ref C)
section
variable {P : Program} {w : World} {K : PySem.W.Frag} {mg : Str → Option Value} {base : Heap} {C cBad cNo : Addr}
/-! ### __init__ -/
def spInit (K : PySem.W.Frag) (C cBad : Addr) : Sp := fun vs H Q E => ∃ (p dx pe pw : Addr) (le lw : List Int), vs = [.ref p, .ref pe, .ref pw] ∧ H p = some (.ins C dx []) ∧ SqL K H pe (le.map V.int) ∧ SqL K H pw (lw.map V.int) ∧ le.length ≤ 1000 ∧ lw.length ≤ 1000 ∧
  (Right le lw → ∀ a u H2, H a = none → H u = none → (∀ b o, b ≠ p → H b = some o → H2 b = some o) → H2 p = some (.ins C dx (flds a u)) → H2 a = some (.lst (V.int (-1) :: le.map V.int)) → H2 u = some (.lst (lw.map V.int)) → Q .non H2) ∧
  (¬ Right le lw → ∀ H2, Ex H H2 → E (.ref cBad) none H2)
theorem has_init (B : Bi mg) (T : TreeT K mg C) {t1 t2 : Tok} (c_MOST : mg "MOST" = some (.int 14 t1)) (c_WORTHS : mg "WORTHS" = some (.int 1000 t2)) (e_BadTree : Err K mg "BadTree" cBad) (D : AtI K C "Tree.__init__" s_Tree___init__ p_Tree___init__) :
    HasI P w K mg base (L2.CX P w) C p_Tree___init__ 1 (spInit K C cBad) := D.has fun f fd F => by
  refine F.okX sc_Tree___init__ (fun vs H Q E h => ?_) (fun cdv A outer s H vs Q E hr h => ?_)
  · obtain ⟨p, dx, pe, pw, le, lw, rfl, _⟩ := h
    rfl
  · obtain ⟨p, dx, pe, pw, le, lw, rfl, hp, he, hw, h1, h2, kQ, kE⟩ := h
    refine ⟨_, (pss_cons (ps_if (PW.pt (pw_or (pt_not (pt_chain op_le op_le pe_int (pe_callB (call_lenK (K := K)) (by rfl) B.len PySem.boot_len (pa_cons (pv 2) pa_nil)) (pe_gint (by rfl) c_MOST))) (pw_or1 (pt_cmpR op_ne (pe_callB (call_lenK (K := K)) (by rfl) B.len PySem.boot_len (pa_cons (pv 1) pa_nil)) (pe_op op_sub (pe_callB (call_lenK (K := K)) (by rfl) B.len PySem.boot_len (pa_cons (pv 2) pa_nil)) pe_int) (nomark _))))) (pss_one (ps_raise rfl (takes_of rfl rfl rfl rfl) (e_BadTree.made (by rfl)))) pss_nil)
      (pss_cons (ps_for (passes_of rfl) rfl (pi_range1 (by rfl) B.range (pa_cons (pe_callB (call_lenK (K := K)) (by rfl) B.len PySem.boot_len (pa_cons (pv 1) pa_nil)) pa_nil)) (pg_name (i := 3) sc_Tree___init__.nd rfl (Or.inl rfl)) (pss_one (ps_if (pt_not (pt_chain op_le op_le pe_int (pe_ix (ix_listK (K := K)) (pv 1) (pv 3) (fun _ _ => rfl)) (pv 3))) (pss_one (ps_raise rfl (takes_of rfl rfl rfl rfl) (e_BadTree.made (by rfl)))) pss_nil)))
      (pss_cons (ps_if (pt_cmpR (op_neDK (K := K) hr.units) (pe_lc (own := [("worth", 4)]) (g := gName 4) rfl sc_Tree___init__.nd (pi_list (pv 2)) (blkOk_by (own := [("worth", 4)]) (N := n_Tree___init__) (sc := defScope s_Tree___init__) (by decide +kernel)) (fun _ _ _ _ _ => pg_name (i := 4) sc_Tree___init__.nd rfl (Or.inl rfl)) (fun _ _ _ _ _ => pts_one (pt_not (pt_chain op_le op_le pe_int (pv 4) (pe_gint (by rfl) c_WORTHS)))) (fun _ _ _ _ _ => (pv 4))) (pe_lst pa_nil) (nomark _)) (pss_one (ps_raise rfl (takes_of rfl rfl rfl rfl) (e_BadTree.made (by rfl)))) pss_nil)
      (pss_cons (ps_fld (pv 0) (pe_op op_cat (pe_lst (pa_cons (pe_un un_neg pe_int) pa_nil)) (pe_callTy (call_listK (K := K)) (by rfl) B.list (by decide +kernel) (pa_cons (pv 1) pa_nil))) rfl)
      (pss_one (ps_fld (pv 0) (pe_callTy (call_listK (K := K)) (by rfl) B.list (by decide +kernel) (pa_cons (pv 2) pa_nil)) rfl)))))), ?_⟩
    have lE : (le.map V.int).length = le.length := List.length_map _
    have lW : (lw.map V.int).length = lw.length := List.length_map _
    refine q_when (b := (!(decide ((1 : Int) ≤ (lw.length : Int)) && decide ((lw.length : Int) ≤ 14))) || !decide (V.int (le.length : Int) = V.int ((lw.length : Int) - 1)))
      (et_or (et_not (et_test (ev_chain ev_c (ev_is (ev_lenS (ev_var rfl) hw) (by rw [lW])) (fun _ => ev_c) rv_I0 (fun _ => rv_I0)))) fun _ => et_test (ev_op (ev_is (ev_lenS (ev_var rfl) he) (by rw [lE])) (ev_op (ev_is (ev_lenS (ev_var rfl) hw) (by rw [lW])) ev_c rv_I0) (rv_ne rfl))) (fun hb H1 e1 => ?_) (fun hb H1 e1 => ?_)
    · -- raise
      refine kE (fun R => ?_) H1 e1
      obtain ⟨r1, r2, r3, _⟩ := R
      have x1 : decide ((1 : Int) ≤ (lw.length : Int)) = true := decide_eq_true (by omega)
      have x2 : decide ((lw.length : Int) ≤ 14) = true := decide_eq_true (by omega)
      have x3 : decide (V.int (le.length : Int) = V.int ((lw.length : Int) - 1)) = true := decide_eq_true (by congr 1; omega)
      rw [x1, x2, x3] at hb
      cases hb
    · have x : (1 ≤ lw.length ∧ lw.length ≤ 14) ∧ le.length + 1 = lw.length := by
        simp only [Bool.or_eq_false_iff, Bool.not_eq_false', Bool.and_eq_true, decide_eq_true_eq] at hb
        obtain ⟨⟨a1, a2⟩, a3⟩ := hb
        injection a3 with a3
        omega
      -- for k in range(len(elders))
      refine q_forR1 (n := (le.length : Int)) (ea_cons (ev_is (ev_lenS (ev_var rfl) (ex_l e1 he)) (by rw [lE])) ea_nil) ⟨by omega, by omega⟩
        (fun i σ' H' => ∃ v, σ' = [some (.ref p), some (.ref pe), some (.ref pw), v, none] ∧ Ex H H' ∧ ∀ k, k < i → 0 ≤ le.getD k 0 ∧ le.getD k 0 ≤ (k : Int)) (fun H2 e2 => ⟨none, rfl, e1.trans e2, fun k hk => absurd hk (Nat.not_lt_zero _)⟩) ?_ ?_
      · rintro i σ' H' hi ⟨v, rfl, e, hu⟩
        have hx := zat (l := le) (i := (i : Int)) (j := i) rfl (by omega)
        refine s_when (b := !(decide ((0 : Int) ≤ le.getD i 0) && decide (le.getD i 0 ≤ (i : Int)))) (et_not (et_test (ev_chain ev_c (ev_opIx (ev_var rfl) (ev_var rfl) (ex_l e he) hx) (fun _ => ev_var rfl) rv_I0 (fun _ => rv_I0)))) (fun hb2 H2 e2 => ?_) (fun hb2 H2 e2 => ?_)
        · refine kE (fun R => ?_) H2 (e.trans e2)
          obtain ⟨_, _, _, r4, _⟩ := R
          obtain ⟨y1, y2⟩ := r4 i (by omega)
          rw [decide_eq_true y1, decide_eq_true y2] at hb2
          cases hb2
        · simp only [Bool.not_eq_false', Bool.and_eq_true, decide_eq_true_eq] at hb2
          refine ⟨_, rfl, e.trans e2, fun k hk => ?_⟩
          by_cases hki : k = i
          · rw [hki]; exact hb2
          · exact hu k (by omega)
      · rintro σ' H' ⟨v, rfl, e, hu⟩
        rw [Int.toNat_natCast] at hu
        -- the worths
        refine q_when (b := !decide (lw.filter (fun z => !(decide ((0 : Int) ≤ z) && decide (z ≤ 1000))) = [])) (et_test (ev_neNilZ (el_is (el_lcL (fun i => !(decide ((0 : Int) ≤ lw.getD i 0) && decide (lw.getD i 0 ≤ 1000))) (fun i => V.int (lw.getD i 0)) (ev_var rfl) (ex_l e hw) (by rw [lW]; omega) (fun x => rfl) (fun i x H2 e2 hi => ?_) (fun i x H2 e2 hi _ => ?_))
          (by rw [lW]; exact zfilter lw fun z => !(decide ((0 : Int) ≤ z) && decide (z ≤ 1000)))))) (fun hb2 H2 e2 => ?_) (fun hb2 H2 e2 => ?_)
        · obtain ⟨z, hz, rfl⟩ := zget hi
          have ez : lw.getD i 0 = z := by rw [List.getD_eq_getElem?_getD, hz]; rfl
          rw [ez]
          exact et_not (et_test (ev_chain ev_c (ev_var rfl) (fun _ => ev_c) rv_I0 (fun _ => rv_I0)))
        · obtain ⟨z, hz, rfl⟩ := zget hi
          have ez : lw.getD i 0 = z := by rw [List.getD_eq_getElem?_getD, hz]; rfl
          show Ev _ _ _ (V.int (lw.getD i 0))
          rw [ez]
          exact ev_var rfl
        · refine kE (fun R => ?_) H2 (e.trans e2)
          obtain ⟨_, _, _, _, r5⟩ := R
          have : lw.filter (fun z => !(decide ((0 : Int) ≤ z) && decide (z ≤ 1000))) = [] := by
            rw [List.filter_eq_nil_iff]
            intro z hz
            obtain ⟨y1, y2⟩ := r5 z hz
            rw [decide_eq_true y1, decide_eq_true y2]
            decide
          rw [decide_eq_true this] at hb2
          cases hb2
        · have hnil : lw.filter (fun z => !(decide ((0 : Int) ≤ z) && decide (z ≤ 1000))) = [] := by
            cases hd : decide (lw.filter (fun z => !(decide ((0 : Int) ≤ z) && decide (z ≤ 1000))) = []) with
            | true => exact of_decide_eq_true hd
            | false => rw [hd] at hb2; cases hb2
          have R : Right le lw := ⟨x.1.1, x.1.2, x.2, hu, fun z hz => by
            have := List.filter_eq_nil_iff.mp hnil z hz
            simp only [Bool.not_eq_true', Bool.not_eq_false, Bool.and_eq_true, decide_eq_true_eq] at this
            exact this⟩
          have E2 := e.trans e2
          -- self.above = [-1] + list(elders)
          refine q_fld (EvL.p (el_catNN (xs := [V.int (-1)]) (ys := le.map V.int) (el_lst (ea_cons (ev_un ev_c ru_neg) ea_nil) (by show 1 ≤ 100000; decide)) (el_listS (ev_var rfl) (ex_l E2 he)) (by show 1 + _ ≤ _; rw [lE]; omega))) fun v1 H3 e3 ⟨a, ev, ha, hA⟩ => ⟨dx, [], ev_var rfl, e3 _ _ (E2 _ _ hp), T.cl, T.nA, by show 0 < 1000; decide, fun H4 e4 => ?_⟩
          subst ev
          have E4 := (E2.trans e3).trans e4
          have npa : p ≠ a := ne_of_none (E2 _ _ hp) ha
          have npe : SqL K (upd H4 p (.ins C dx (putF "above" (.ref a) []))) pw (lw.map V.int) := by
            rcases ex_l E4 hw with (h | ⟨o, h⟩) | h
            · exact .inl (.inl (by rw [upd_ne]; exact h; intro z; rw [z] at h; rw [E4 _ _ hp] at h; cases h))
            · exact .inl (.inr ⟨o, by rw [upd_ne]; exact h; intro z; rw [z] at h; rw [E4 _ _ hp] at h; cases h⟩)
            · exact .inr h
          -- self.worth = list(worths)
          refine s_fld (EvL.p (el_listS (ev_var rfl) npe)) fun v2 H5 e5 ⟨u, ev2, hu2, hU⟩ => ⟨dx, putF "above" (.ref a) [], ev_var rfl, e5 _ _ upd_same, T.cl, T.nW, by show 1 < 1000; decide, fun H6 e6 => ?_⟩
          subst ev2
          have npu : p ≠ u := ne_of_none upd_same hu2
          have hA6 : H6 a = some (.lst (V.int (-1) :: le.map V.int)) := e6 _ _ (e5 _ _ (by rw [upd_ne npa.symm]; exact e4 _ _ hA))
          have fa : H a = none := fresh_back E2 ha
          have fu : H u = none := by
            have q : H4 u = none := by rw [upd_ne npu.symm] at hu2; exact hu2
            exact fresh_back E4 q
          refine kQ R a u _ fa fu (fun b o hb hbo => ?_) upd_same (by rw [upd_ne npa.symm]; exact hA6) (by rw [upd_ne npu.symm]; exact e6 _ _ hU)
          rw [upd_ne hb]
          exact e6 _ _ (e5 _ _ (by rw [upd_ne hb]; exact E4 _ _ hbo))
/-- a Tree that was made beside H: nothing of it stood there -/
def TreeNew (C : Addr) (H H2 : Hp) (v : V) (es ws : List Nat) : Prop := ∃ x dx a u, v = .ref x ∧ H x = none ∧ H a = none ∧ H u = none ∧ H2 x = some (.ins C dx (flds a u)) ∧ H2 a = some (.lst (V.int (-1) :: vi es)) ∧ H2 u = some (.lst (vi ws))
theorem spp_tree {H : Hp} {pe pw : Addr} {es ws : List Nat} (he : SqL K H pe (vi es)) (hw : SqL K H pw (vi ws)) (o : Fm.OkT es ws) : ∀ H1, Ex H H1 → ∀ x dx, H1 x = none → H1 dx = none → dx ≠ x → ∀ Q : VK, (∀ H2, Ex H1 H2 → TreeNew C H H2 (.ref x) es ws → Q (.ref x) H2) → ∀ E : XK,
    spInit K C cBad (.ref x :: [.ref pe, .ref pw]) (upd (upd H1 dx (.own x)) x (.ins C dx [])) (fun v H2 => v = .non ∧ Q (.ref x) H2) E := fun H1 e x dx hx hdx ne Q q E => by
  have e0 : Ex H1 (upd (upd H1 dx (.own x)) x (.ins C dx [])) := fun b ob hb => by
    rw [upd_ne (ne_of_none hb hx), upd_ne (ne_of_none hb hdx)]
    exact hb
  have ol := o.len
  have om := o.most
  refine ⟨x, dx, pe, pw, es.map fun (n : Nat) => (n : Int), ws.map fun (n : Nat) => (n : Int), rfl, upd_same, by rw [← vi_int]; exact ex_l (e.trans e0) he, by rw [← vi_int]; exact ex_l (e.trans e0) hw, by rw [List.length_map]; omega, by rw [List.length_map]; omega,
    fun _ a u H2 ha hu k hp hA hU => ⟨rfl, q H2 (fun b ob hb => k b ob (ne_of_none hb hx) (e0 b ob hb)) ⟨x, dx, a, u, rfl, fresh_back e hx, fresh_back (e.trans e0) ha, fresh_back (e.trans e0) hu, hp, by rw [vi_int]; exact hA, by rw [vi_int]; exact hU⟩⟩, fun h => absurd (right_of o) h⟩
theorem TreeNew.at {H H2 : Hp} {v : V} {es ws : List Nat} (h : TreeNew C H H2 v es ws) (o : Fm.OkT es ws) : ∃ x, v = .ref x ∧ TreeAt C H2 x es ws := by
  obtain ⟨x, dx, a, u, rfl, _, _, _, h1, h2, h3⟩ := h
  exact ⟨x, rfl, ⟨dx, a, u, h1, h2, h3⟩, o⟩
/-! ### elders, worths, things -/
def spElders1 (C : Addr) : Sp := fun vs H Q _ => ∃ (p : Addr) (es ws : List Nat), vs = [.ref p] ∧ TreeAt C H p es ws ∧ RetL (vi es) H Q
def spWorths1 (C : Addr) : Sp := fun vs H Q _ => ∃ (p : Addr) (es ws : List Nat), vs = [.ref p] ∧ TreeAt C H p es ws ∧ RetL (vi ws) H Q
def spThings (C : Addr) : Sp := fun vs H Q _ => ∃ (p : Addr) (es ws : List Nat), vs = [.ref p] ∧ TreeAt C H p es ws ∧ RetV (.int (ws.length : Int)) H Q
theorem spl_elders1 {H : Hp} {p : Addr} {es ws : List Nat} (h : TreeAt C H p es ws) : SpL (spElders1 C) [.ref p] H (vi es) := fun H1 e Q q E => ⟨p, es, ws, rfl, h.mono e, q⟩
theorem spl_worths1 {H : Hp} {p : Addr} {es ws : List Nat} (h : TreeAt C H p es ws) : SpL (spWorths1 C) [.ref p] H (vi ws) := fun H1 e Q q E => ⟨p, es, ws, rfl, h.mono e, q⟩
theorem spv_things {H : Hp} {p : Addr} {es ws : List Nat} (h : TreeAt C H p es ws) : SpV (spThings C) [.ref p] H (.int (ws.length : Int)) := fun H1 e Q q E => ⟨p, es, ws, rfl, h.mono e, q⟩
theorem has_elders1 (B : Bi mg) (T : TreeT K mg C) (D : AtM K C "elders" "Tree.elders" s_Tree_elders p_Tree_elders) : HasM P w K mg base CX0 C "elders" p_Tree_elders 1 (spElders1 C) := D.has fun f fd F => by
  refine F.ok sc_Tree_elders (fun vs H Q E h => ?_) (fun cdv A outer s H vs Q E hr h => ?_)
  · obtain ⟨p, es, ws, rfl, _⟩ := h
    rfl
  · obtain ⟨p, es, ws, rfl, ⟨⟨dx, a, u, h1, h2, h3⟩, o⟩, q⟩ := h
    refine ⟨_, (pss_one (ps_ret (pe_callTy (call_listK (K := K)) (by rfl) B.list (by decide +kernel) (pa_cons (pe_slice (sl_listK (K := K)) (pe_fldK (K := K) (pv 0) rfl) (po_some pe_int) po_none) pa_nil)))), ?_⟩
    exact s_retL (el_listN (el_is (el_sl (ev_fld (ev_var rfl) h1 T.cl T.nA (flds_above a u)) (eo_some ev_c) eo_none (sq_of h2)) (by
      unfold cutV
      show (List.drop 1 (V.int (-1) :: vi es)).take _ = _
      exact List.take_of_length_le (by simp [HT.sIx, List.length_drop])))) q
theorem has_worths1 (B : Bi mg) (T : TreeT K mg C) (D : AtM K C "worths" "Tree.worths" s_Tree_worths p_Tree_worths) : HasM P w K mg base CX0 C "worths" p_Tree_worths 1 (spWorths1 C) := D.has fun f fd F => by
  refine F.ok sc_Tree_worths (fun vs H Q E h => ?_) (fun cdv A outer s H vs Q E hr h => ?_)
  · obtain ⟨p, es, ws, rfl, _⟩ := h
    rfl
  · obtain ⟨p, es, ws, rfl, ⟨⟨dx, a, u, h1, h2, h3⟩, o⟩, q⟩ := h
    refine ⟨_, (pss_one (ps_ret (pe_callTy (call_listK (K := K)) (by rfl) B.list (by decide +kernel) (pa_cons (pe_fldK (K := K) (pv 0) rfl) pa_nil)))), ?_⟩
    exact s_retL (el_listS (ev_fld (ev_var rfl) h1 T.cl T.nW (flds_worth a u)) (sq_of h3)) q
theorem has_things (B : Bi mg) (T : TreeT K mg C) (D : AtM K C "things" "Tree.things" s_Tree_things p_Tree_things) : HasM P w K mg base CX0 C "things" p_Tree_things 1 (spThings C) := D.has fun f fd F => by
  refine F.ok sc_Tree_things (fun vs H Q E h => ?_) (fun cdv A outer s H vs Q E hr h => ?_)
  · obtain ⟨p, es, ws, rfl, _⟩ := h
    rfl
  · obtain ⟨p, es, ws, rfl, ⟨⟨dx, a, u, h1, h2, h3⟩, o⟩, q⟩ := h
    refine ⟨_, (pss_one (ps_ret (pe_callB (call_lenK (K := K)) (by rfl) B.len PySem.boot_len (pa_cons (pe_fldK (K := K) (pv 0) rfl) pa_nil)))), ?_⟩
    exact s_ret (ev_is (ev_lenS (ev_fld (ev_var rfl) h1 T.cl T.nW (flds_worth a u)) (sq_of h3)) (by rw [vi_len])) q
end
end Fi
/-! Tree.see_thing. -/
namespace Fi
open PySem L2 Evl
section
variable {P : Program} {w : World} {K : PySem.W.Frag} {mg : Str → Option Value} {base : Heap} {C cBad cNo : Addr}
/-- a thing of a tree, or NoThing -/
def Seen (cNo : Addr) (ws : List Nat) (t : Int) (H : Hp) (E : XK) (yes : Prop) : Prop := (0 ≤ t ∧ t < (ws.length : Int) → yes) ∧ (¬ (0 ≤ t ∧ t < (ws.length : Int)) → ∀ H2, Ex H H2 → E (.ref cNo) none H2)
theorem Seen.of {cNo : Addr} {ws : List Nat} {t : Nat} {H : Hp} {E : XK} {yes : Prop} (h : t < ws.length) (y : yes) : Seen cNo ws (t : Int) H E yes := ⟨fun _ => y, fun n => absurd ⟨by omega, by omega⟩ n⟩
def spSee (C cNo : Addr) : Sp := fun vs H Q E => ∃ (p : Addr) (es ws : List Nat) (t : Int), vs = [.ref p, .int t] ∧ TreeAt C H p es ws ∧ Seen cNo ws t H E (RetV .non H Q)
theorem has_see (B : Bi mg) (T : TreeT K mg C) (e_NoThing : Err K mg "NoThing" cNo) (D : AtM K C "see_thing" "Tree.see_thing" s_Tree_see_thing p_Tree_see_thing) : HasM P w K mg base (L2.CX P w) C "see_thing" p_Tree_see_thing 1 (spSee C cNo) := D.has fun f fd F => by
  refine F.okX sc_Tree_see_thing (fun vs H Q E h => ?_) (fun cdv A outer s H vs Q E hr h => ?_)
  · obtain ⟨p, es, ws, t, rfl, _⟩ := h
    rfl
  · obtain ⟨p, es, ws, t, rfl, ⟨⟨dx, a, u, h1, h2, h3⟩, o⟩, k1, k2⟩ := h
    refine ⟨_, (pss_one (ps_if (pt_not (pt_chain op_le op_lt pe_int (pv 1) (pe_callB (call_lenK (K := K)) (by rfl) B.len PySem.boot_len (pa_cons (pe_fldK (K := K) (pv 0) rfl) pa_nil)))) (pss_one (ps_raise rfl (takes_of rfl rfl rfl rfl) (e_NoThing.made (by rfl)))) pss_nil)), ?_⟩
    refine s_when (b := !(decide ((0 : Int) ≤ t) && decide (t < (ws.length : Int)))) (et_not (et_test (ev_chain ev_c (ev_var rfl) (fun _ => ev_is (ev_lenS (ev_fld (ev_var rfl) h1 T.cl T.nW (flds_worth a u)) (sq_of h3)) (by rw [vi_len])) rv_I0 (fun _ => rv_I0)))) (fun hb H1 e1 => ?_) (fun hb H1 e1 => ?_)
    · exact k2 (fun ⟨y1, y2⟩ => by rw [decide_eq_true y1, decide_eq_true y2] at hb; cases hb) H1 e1
    · simp only [Bool.not_eq_false', Bool.and_eq_true, decide_eq_true_eq] at hb
      exact k1 hb H1 e1
end
end Fi
/-! Tree: see_thing, depth, below, worth_below. -/
namespace Fi
open PySem L2 Evl
section
variable {P : Program} {w : World} {K : PySem.W.Frag} {mg : Str → Option Value} {base : Heap} {C cBad cNo : Addr}
/-! ### depth -/
def spDepth (C cNo : Addr) : Sp := fun vs H Q E => ∃ (p : Addr) (es ws : List Nat) (t : Int), vs = [.ref p, .int t] ∧ TreeAt C H p es ws ∧ Seen cNo ws t H E (RetV (.int (Fm.depth es t.toNat : Int)) H Q)
theorem spv_depth {H : Hp} {p : Addr} {es ws : List Nat} {t : Nat} (h : TreeAt C H p es ws) (ht : t < ws.length) : SpV (spDepth C cNo) [.ref p, .int (t : Int)] H (.int (Fm.depth es t : Int)) := fun H1 e Q q E => ⟨p, es, ws, t, rfl, h.mono e, .of ht q⟩
theorem aget {es : List Nat} {j n : Nat} (h : 0 < j) (e : es[j - 1]? = some n) : (V.int (-1) :: vi es)[j]? = some (V.int (n : Int)) := by
  obtain ⟨k, rfl⟩ : ∃ k, j = k + 1 := ⟨j - 1, by omega⟩
  rw [List.getElem?_cons_succ]
  exact vi_get e
theorem has_depth (T : TreeT K mg C) (hM_see_thing : HasM P w K mg base (L2.CX P w) C "see_thing" p_Tree_see_thing 1 (spSee C cNo)) (D : AtM K C "depth" "Tree.depth" s_Tree_depth p_Tree_depth) :
    HasM P w K mg base (L2.CX P w) C "depth" p_Tree_depth 2 (spDepth C cNo) := D.has fun f fd F => by
  refine F.okX sc_Tree_depth (fun vs H Q E h => ?_) (fun cdv A outer s H vs Q E hr h => ?_)
  · obtain ⟨p, es, ws, t, rfl, _⟩ := h
    rfl
  · obtain ⟨p, es, ws, t, rfl, TA, k1, k2⟩ := h
    obtain ⟨⟨dx, a, u, h1, h2, h3⟩, o⟩ := id TA
    have up := o.up
    have ol := o.len
    refine ⟨_, (pss_cons (ps_expr (hM_see_thing.call T.cl (pv 0) (hr.mono (by decide)) (passes_call (takes_of rfl rfl rfl rfl) fun _ _ _ _ h => h) (pa_cons (pv 1) pa_nil)))
      (pss_cons (ps_set (i := 2) sc_Tree_depth.nd rfl (Or.inl rfl) pe_int)
      (pss_cons (ps_while (passes_of rfl) (pt_cmpR op_ne (pv 1) pe_int (nomark _)) (pss_cons (ps_set (i := 1) sc_Tree_depth.nd rfl (Or.inl rfl) (pe_ix (ix_listK (K := K)) (pe_fldK (K := K) (pv 0) rfl) (pv 1) (fun _ _ => rfl)))
        (pss_one (ps_set (i := 2) sc_Tree_depth.nd rfl (Or.inl rfl) (pe_op op_add (pv 2) pe_int)))))
      (pss_one (ps_ret (pv 2)))))), ?_⟩
    refine q_methX (ev_var rfl) h1 (flds_no a u (by decide +kernel) (by decide +kernel)) (ea_cons (ev_var rfl) ea_nil) fun H1 e1 => ⟨p, es, ws, t, rfl, TA.mono e1, fun hv H2 e2 => ?_, fun hv H2 e2 => k2 hv H2 (e1.trans e2)⟩
    have q := k1 hv
    obtain ⟨n, rfl⟩ : ∃ n : Nat, t = (n : Int) := ⟨t.toNat, by omega⟩
    rw [Int.toNat_natCast] at q
    refine q_asg ev_c fun H3 e3 => ?_
    refine q_while (fun m σ' H' => ∃ (t' s' : Nat), σ' = [some (.ref p), some (.int (t' : Int)), some (.int (s' : Int))] ∧ Ex H H' ∧ s' + Fm.depth es t' = Fm.depth es n ∧ t' ≤ es.length ∧ m = t') n ⟨n, 0, rfl, (e1.trans e2).trans e3, Nat.zero_add _, by omega, rfl⟩ ?_
    rintro m σ' H' ⟨t', s', rfl, e, hd, hl, rfl⟩
    refine ⟨!decide (V.int (m : Int) = V.int ((0 : Nat) : Int)), et_test (ev_op (ev_var rfl) ev_c (rv_ne rfl)), fun hb H4 e4 => ⟨fun σ2 H2 => ∃ m', m' < m ∧ _, fun _ _ h => h, ?_⟩, fun hb H4 e4 => ?_⟩
    · rw [dec_int] at hb
      have hpos : 0 < m := by
        simp only [Bool.not_eq_true', decide_eq_false_iff_not] at hb
        omega
      have hlt := Fm.eld_lt up hpos
      refine q_asg (v := .int (Fm.eld es m : Int)) (ev_opIx (ev_fld (ev_var rfl) (e4 _ _ (e _ _ h1)) T.cl T.nA (flds_above a u)) (ev_var rfl) (sq_of (e4 _ _ (e _ _ h2))) (at_of (j := m) rfl (aget hpos (Fm.eld_get hpos (by omega))))) fun H5 e5 => ?_
      exact s_asg (ev_op (ev_var rfl) ev_c rv_I0) fun H6 e6 => ⟨Fm.eld es m, hlt, Fm.eld es m, s' + 1, rfl, ((e.trans e4).trans e5).trans e6, by have := Fm.depth_step up hpos; omega, by omega, rfl⟩
    · rw [dec_int] at hb
      have hz : m = 0 := by
        simp only [Bool.not_eq_false', decide_eq_true_eq] at hb
        exact hb
      subst hz
      have hd0 : Fm.depth es n = s' := by rw [← hd]; rfl
      rw [hd0] at q
      exact s_ret (ev_var rfl) fun H5 e5 => q H5 ((e.trans e4).trans e5)
/-! ### below -/
def spBelow (C cNo : Addr) : Sp := fun vs H Q E => ∃ (p : Addr) (es ws : List Nat) (t : Int), vs = [.ref p, .int t] ∧ TreeAt C H p es ws ∧ Seen cNo ws t H E (RetL (vi (Fm.below es t.toNat)) H Q)
theorem spl_below {H : Hp} {p : Addr} {es ws : List Nat} {t : Nat} (h : TreeAt C H p es ws) (ht : t < ws.length) : SpL (spBelow C cNo) [.ref p, .int (t : Int)] H (vi (Fm.below es t)) := fun H1 e Q q E => ⟨p, es, ws, t, rfl, h.mono e, .of ht q⟩
theorem has_below (B : Bi mg) (T : TreeT K mg C) (hM_see_thing : HasM P w K mg base (L2.CX P w) C "see_thing" p_Tree_see_thing 1 (spSee C cNo)) (D : AtM K C "below" "Tree.below" s_Tree_below p_Tree_below) :
    HasM P w K mg base (L2.CX P w) C "below" p_Tree_below 2 (spBelow C cNo) := D.has fun f fd F => by
  refine F.okX sc_Tree_below (fun vs H Q E h => ?_) (fun cdv A outer s H vs Q E hr h => ?_)
  · obtain ⟨p, es, ws, t, rfl, _⟩ := h
    rfl
  · obtain ⟨p, es, ws, t, rfl, TA, k1, k2⟩ := h
    obtain ⟨⟨dx, a, u, h1, h2, h3⟩, o⟩ := id TA
    have up := o.up
    have ol := o.len
    have om := o.most
    refine ⟨_, (pss_cons (ps_expr (hM_see_thing.call T.cl (pv 0) (hr.mono (by decide)) (passes_call (takes_of rfl rfl rfl rfl) fun _ _ _ _ h => h) (pa_cons (pv 1) pa_nil)))
      (pss_cons (ps_set (i := 2) sc_Tree_below.nd rfl (Or.inl rfl) (pe_lst (pa_cons (pv 1) pa_nil)))
      (pss_cons (ps_for (passes_of rfl) rfl (pi_range2 (by rfl) B.range (pa_cons (pe_op op_add (pv 1) pe_int) (pa_cons (pe_callB (call_lenK (K := K)) (by rfl) B.len PySem.boot_len (pa_cons (pe_fldK (K := K) (pv 0) rfl) pa_nil)) pa_nil))) (pg_name (i := 3) sc_Tree_below.nd rfl (Or.inl rfl)) (pss_one (ps_if (pt_cmpR (op_inK (K := K)) (pe_ix (ix_listK (K := K)) (pe_fldK (K := K) (pv 0) rfl) (pv 3) (fun _ _ => rfl)) (pv 2) (by with_unfolding_all rfl)) (pss_one (ps_expr (pe_bm PySem.F.plainAttrs_list PySem.F.slot_list_append PySem.F.type_list_append mt_append (pv 2) (pa_cons (pv 3) pa_nil)))) pss_nil)))
      (pss_one (ps_ret (pv 2)))))), ?_⟩
    refine q_methX (ev_var rfl) h1 (flds_no a u (by decide +kernel) (by decide +kernel)) (ea_cons (ev_var rfl) ea_nil) fun H1 e1 => ⟨p, es, ws, t, rfl, TA.mono e1, fun hv H2 e2 => ?_, fun hv H2 e2 => k2 hv H2 (e1.trans e2)⟩
    have q := k1 hv
    obtain ⟨n, rfl⟩ : ∃ n : Nat, t = (n : Int) := ⟨t.toNat, by omega⟩
    rw [Int.toNat_natCast] at q
    have E2 := e1.trans e2
    refine q_asgL (xs := vi [n]) (el_lst (ea_cons (ev_var rfl) ea_nil) (by show 1 ≤ 100000; decide)) fun l H3 hln e3 hl => ?_
    have hlH : H l = none := fresh_back E2 hln
    refine q_forR2 (lo := (n : Int) + 1) (n := (ws.length : Int)) (ea_cons (ev_op (ev_var rfl) ev_c rv_I0) (ea_cons (ev_is (ev_lenS (ev_fld (ev_var rfl) (e3 _ _ (E2 _ _ h1)) T.cl T.nW (flds_worth a u)) (sq_of (e3 _ _ (E2 _ _ h3)))) (by rw [vi_len])) ea_nil)) ⟨by omega, by omega, by omega, by omega⟩
      (fun i σ' H' => ∃ v, σ' = [some (.ref p), some (.int (n : Int)), some (.ref l), v] ∧ Ex H H' ∧ H' l = some (.lst (vi (Fm.belowTo es n (n + 1 + i))))) (fun H4 e4 => ⟨none, rfl, (E2.trans e3).trans e4, by rw [Nat.add_zero, Fm.belowTo_start]; exact e4 _ _ hl⟩) ?_ ?_
    · rintro i σ' H' hi ⟨v, rfl, e, hL⟩
      have hx : (V.int (-1) :: vi es)[n + 1 + i]? = some (V.int (Fm.eld es (n + 1 + i) : Int)) := aget (by omega) (Fm.eld_get (by omega) (by omega))
      have hin : decide (Fm.eld es (n + 1 + i) ∈ Fm.belowTo es n (n + 1 + i)) = Fm.isBelow es n (n + 1 + i) := by
        rw [Fm.isBelow_step up (show n < n + 1 + i by omega)]
        have hlt := Fm.eld_lt up (t := n + 1 + i) (by omega)
        cases hb : Fm.isBelow es n (Fm.eld es (n + 1 + i)) with
        | true => exact decide_eq_true (Fm.mem_belowTo.mpr ⟨hlt, hb⟩)
        | false => exact decide_eq_false fun h => by rw [(Fm.mem_belowTo.mp h).2] at hb; cases hb
      refine s_when (b := Fm.isBelow es n (n + 1 + i)) (et_test (ev_is (ev_op (ev_opIx (ev_fld (ev_var rfl) (e _ _ h1) T.cl T.nA (flds_above a u)) (ev_var rfl) (sq_of (e _ _ h2)) (at_of (j := n + 1 + i) (by omega) hx)) (ev_var rfl) (rv_isL (sq_of hL) rfl (vi_flat _))) (by rw [vi_in, hin]))) (fun hb H4 e4 => ?_) (fun hb H4 e4 => ?_)
      · refine s_app (v := .int ((n + 1 + i : Nat) : Int)) (e4 _ _ hL) (ev_var rfl) (ev_is (ev_var rfl) (by congr 1)) (by rw [vi_len]; have := Fm.belowTo_len es n (n + 1 + i); omega) fun H5 e5 => ⟨_, rfl, Ex.mut ((e.trans e4).trans e5) hlH, ?_⟩
        rw [upd_same, show n + 1 + (i + 1) = (n + 1 + i) + 1 from rfl, Fm.belowTo_succ, if_pos hb, vi_app]
        rfl
      · refine ⟨_, rfl, e.trans e4, ?_⟩
        rw [show n + 1 + (i + 1) = (n + 1 + i) + 1 from rfl, Fm.belowTo_succ, if_neg (by rw [hb]; decide)]
        exact e4 _ _ hL
    · rintro σ' H' ⟨v, rfl, e, hL⟩
      rw [show n + 1 + ((ws.length : Int) - ((n : Int) + 1)).toNat = es.length + 1 by omega, Fm.belowTo_end] at hL
      exact s_ret (ev_var rfl) fun H4 e4 => q l H4 hlH (e.trans e4) (e4 _ _ hL)
/-! ### worth_below -/
def spWorthB (C cNo : Addr) : Sp := fun vs H Q E => ∃ (p : Addr) (es ws : List Nat) (t : Int), vs = [.ref p, .int t] ∧ TreeAt C H p es ws ∧ Seen cNo ws t H E (RetV (.int (Fm.worth es ws t.toNat : Int)) H Q)
theorem spv_worthB {H : Hp} {p : Addr} {es ws : List Nat} {t : Nat} (h : TreeAt C H p es ws) (ht : t < ws.length) : SpV (spWorthB C cNo) [.ref p, .int (t : Int)] H (.int (Fm.worth es ws t : Int)) := fun H1 e Q q E => ⟨p, es, ws, t, rfl, h.mono e, .of ht q⟩
theorem has_worthB (B : Bi mg) (T : TreeT K mg C) (hM_below : HasM P w K mg base (L2.CX P w) C "below" p_Tree_below 2 (spBelow C cNo)) (D : AtM K C "worth_below" "Tree.worth_below" s_Tree_worth_below p_Tree_worth_below) :
    HasM P w K mg base (L2.CX P w) C "worth_below" p_Tree_worth_below 3 (spWorthB C cNo) := D.has fun f fd F => by
  refine F.okX sc_Tree_worth_below (fun vs H Q E h => ?_) (fun cdv A outer s H vs Q E hr h => ?_)
  · obtain ⟨p, es, ws, t, rfl, _⟩ := h
    rfl
  · obtain ⟨p, es, ws, t, rfl, TA, k1, k2⟩ := h
    obtain ⟨⟨dx, a, u, h1, h2, h3⟩, o⟩ := id TA
    have ol := o.len
    have om := o.most
    refine ⟨_, (pss_one (ps_ret (pe_callB (cr_sumK (K := K) rfl) (by rfl) B.sum (by decide +kernel) (pa_cons (pe_lc (own := [("other", 2)]) (g := gName 2) rfl sc_Tree_worth_below.nd (pi_list (hM_below.call T.cl (pv 0) (hr.mono (by decide)) (passes_call (takes_of rfl rfl rfl rfl) fun _ _ _ _ h => h) (pa_cons (pv 1) pa_nil))) (blkOk_by (own := [("other", 2)]) (N := n_Tree_worth_below) (sc := defScope s_Tree_worth_below) (by decide +kernel)) (fun _ _ _ _ _ => pg_name (i := 2) sc_Tree_worth_below.nd rfl (Or.inl rfl)) (fun _ _ _ _ _ => pts_nil) (fun _ _ _ _ _ => (pe_ix (ix_listK (K := K)) (pe_fldK (K := K) (pv 0) rfl) (pv 2) (fun _ _ => rfl)))) pa_nil)))), ?_⟩
    by_cases hv : 0 ≤ t ∧ t < (ws.length : Int)
    · have q := k1 hv
      obtain ⟨n, rfl⟩ : ∃ n : Nat, t = (n : Int) := ⟨t.toNat, by omega⟩
      rw [Int.toNat_natCast] at q
      refine s_ret (ev_sumN (el_lcNLv (l := Fm.below es n) (fun o => ws.getD o 0) (el_meth (ev_var rfl) h1 (flds_no a u (by decide +kernel) (by decide +kernel)) (ea_cons (ev_var rfl) ea_nil) (spl_below TA (by omega))) (by have := Fm.below_len es n; omega) (fun x => rfl) fun m H1 e1 hm => ?_)) q
      have hm2 := (Fm.mem_below.mp hm).1
      exact ev_opIx (ev_fld (ev_var rfl) (e1 _ _ h1) T.cl T.nW (flds_worth a u)) (ev_var rfl) (sq_of (e1 _ _ h3)) (vi_at rfl (getD_get (by omega)))
    · exact ⟨_, rfl, p, dx, _, rfl, h1, flds_no a u (by decide +kernel) (by decide +kernel), _, rfl, p, es, ws, t, rfl, TA, fun h => absurd h hv, fun _ H2 e2 => k2 hv H2 e2⟩
end
end Fi
/-! _law_alone: which of the four an error is. -/
namespace Fi
open PySem L2 Evl
theorem kit_ref {K : PySem.W.Frag} {D C : Addr} {b : Bool} (i : PySem.W.isClsIn K C = true) (t : PySem.W.typeIn K (.ref C) = some (.type "type")) (s : PySem.W.subIn K (.ref D) (.ref C) = some b) (self : PySem.W.subIn K (.ref D) (.ref D) = some true) : PySem.W.kitOne K (.ref D) (.ref C) = some b := by
  unfold PySem.W.kitOne
  split
  · rename_i h
    have e : D = C := Value.ref.inj (beq_iff_eq.mp h)
    subst e
    rw [self] at s
    exact s
  · unfold PySem.W.kitCls
    have i' : (PySem.W.clsIn K C).isSome = true := i
    simp only [i', t]
    rw [if_pos (by rfl)]
    exact s
theorem kit_ve {K : PySem.W.Frag} {D : Addr} {b : Bool} (s : PySem.W.subIn K (.ref D) (.type "ValueError") = some b) : PySem.W.kitOne K (.ref D) (.type "ValueError") = some b := by
  unfold PySem.W.kitOne
  rw [if_neg (by intro h; cases beq_iff_eq.mp h)]
  unfold PySem.W.kitCls
  simp only
  rw [if_pos (by decide +kernel)]
  exact s
/-- the four classes of refusals, and what is above them -/
structure Cs where
  fire : Addr
  bad : Addr
  no : Addr
  plan : Addr
  text : Addr
/-- the class D is the j-th of the four alone -/
structure Alone (K : PySem.W.Frag) (c : Cs) (D : Addr) (j : Nat) : Prop where
  lt : j < 4
  ex : ExcC K D
  k0 : PySem.W.kitOne K (.ref D) (.ref c.bad) = some (j == 0)
  k1 : PySem.W.kitOne K (.ref D) (.ref c.no) = some (j == 1)
  k2 : PySem.W.kitOne K (.ref D) (.ref c.plan) = some (j == 2)
  k3 : PySem.W.kitOne K (.ref D) (.ref c.text) = some (j == 3)
  kf : PySem.W.kitOne K (.ref D) (.ref c.fire) = some true
  kv : PySem.W.kitOne K (.ref D) (.type "ValueError") = some true
structure Gs (mg : Str → Option Value) (c : Cs) : Prop where
  fire : mg "FireError" = some (.ref c.fire)
  bad : mg "BadTree" = some (.ref c.bad)
  no : mg "NoThing" = some (.ref c.no)
  plan : mg "BadPlan" = some (.ref c.plan)
  text : mg "NoText" = some (.ref c.text)
section
variable {P : Program} {w : World} {K : PySem.W.Frag} {mg : Str → Option Value} {base : Heap}
def spAlone (K : PySem.W.Frag) (c : Cs) : Sp := fun vs H Q _ => ∃ (a D : Addr) (j : Nat), vs = [.ref a] ∧ H a = some (ExV (.ref D) a) ∧ Alone K c D j ∧ RetV (.int (j : Int)) H Q
theorem spv_alone {c : Cs} {H : Hp} {a D : Addr} {j : Nat} (h : H a = some (ExV (.ref D) a)) (A : Alone K c D j) : SpV (spAlone K c) [.ref a] H (.int (j : Int)) := fun H1 e Q q E => ⟨a, D, j, rfl, e _ _ h, A, q⟩
theorem rc_isV {H : Hp} {a D : Addr} {cc : V} {u : Value} {b : Bool} (h : H a = some (ExV (.ref D) a)) (x : ExcC K D) (hu : ClsV cc u) (k : PySem.W.kitOne K (.ref D) u = some b) : RC (rIsV K) [.ref a, cc] H (.bl b) := fun H1 e Q q => ⟨a, D, cc, u, b, rfl, e _ _ h, x, hu, k, q H1 (Ex.refl H1)⟩
theorem has_alone (B : Bi mg) {c : Cs} (G : Gs mg c) (D : At K mg "_law_alone" s__law_alone p__law_alone) : Has P w K mg base CX0 "_law_alone" p__law_alone 1 (spAlone K c) := D.has fun f fd F => by
  refine F.ok sc__law_alone (fun vs H Q E h => ?_) (fun cdv A outer s H vs Q E hr h => ?_)
  · obtain ⟨a, D, j, rfl, _⟩ := h
    rfl
  · obtain ⟨a, D, j, rfl, ha, AL, q⟩ := h
    have g_BadTree := G.bad
    have g_NoThing := G.no
    have g_BadPlan := G.plan
    have g_NoText := G.text
    have g_FireError := G.fire
    have lt := AL.lt
    refine ⟨_, (pss_cons (ps_set (i := 1) sc__law_alone.nd rfl (Or.inl rfl) (pe_lst (pa_cons (pe_callB (call_isV (K := K)) (by rfl) B.isinstance (by decide +kernel) (pa_cons (pv 0) (pa_cons (pe_gcls (by rfl) g_BadTree) pa_nil))) (pa_cons (pe_callB (call_isV (K := K)) (by rfl) B.isinstance (by decide +kernel) (pa_cons (pv 0) (pa_cons (pe_gcls (by rfl) g_NoThing) pa_nil))) (pa_cons (pe_callB (call_isV (K := K)) (by rfl) B.isinstance (by decide +kernel) (pa_cons (pv 0) (pa_cons (pe_gcls (by rfl) g_BadPlan) pa_nil))) (pa_cons (pe_callB (call_isV (K := K)) (by rfl) B.isinstance (by decide +kernel) (pa_cons (pv 0) (pa_cons (pe_gcls (by rfl) g_NoText) pa_nil))) pa_nil))))))
      (pss_cons (ps_if (PW.pt (pw_or (pt_not (pt_val (pe_callB (call_isV (K := K)) (by rfl) B.isinstance (by decide +kernel) (pa_cons (pv 0) (pa_cons (pe_gcls (by rfl) g_FireError) pa_nil))))) (pw_or (pt_not (pt_val (pe_callB (call_isV (K := K)) (by rfl) B.isinstance (by decide +kernel) (pa_cons (pv 0) (pa_cons (pe_bltn (v := .ty "ValueError") (u := .type "ValueError") (by rfl) B.ValueError (by decide +kernel) rfl) pa_nil))))) (pw_or1 (pt_cmpR op_ne (pe_bm PySem.F.plainAttrs_list PySem.F.slot_list_count PySem.F.type_list_count (mt_countB (K := K) hr.units) (pv 1) (pa_cons pe_bl pa_nil)) pe_int (nomark _)))))) (pss_one (ps_ret (pe_un un_neg pe_int))) pss_nil)
      (pss_one (ps_ret (pe_bm PySem.F.plainAttrs_list PySem.F.slot_list_index PySem.F.type_list_index (mt_indexK (K := K)) (pv 1) (pa_cons pe_bl pa_nil)))))), ?_⟩
    refine q_asgL (xs := [j == 0, j == 1, j == 2, j == 3].map V.bl) (el_lst (ea_cons (ev_cb (ea_cons (ev_var rfl) (ea_cons ev_c ea_nil)) (rc_isV ha AL.ex (.own _) AL.k0)) (ea_cons (ev_cb (ea_cons (ev_var rfl) (ea_cons ev_c ea_nil)) (rc_isV ha AL.ex (.own _) AL.k1)) (ea_cons (ev_cb (ea_cons (ev_var rfl) (ea_cons ev_c ea_nil)) (rc_isV ha AL.ex (.own _) AL.k2)) (ea_cons (ev_cb (ea_cons (ev_var rfl) (ea_cons ev_c ea_nil)) (rc_isV ha AL.ex (.own _) AL.k3)) ea_nil)))) (by show 4 ≤ 100000; decide)) fun l H1 nl e1 hl => ?_
    have cnt : ([j == 0, j == 1, j == 2, j == 3].countP id : Nat) = 1 := by
      have : j = 0 ∨ j = 1 ∨ j = 2 ∨ j = 3 := by omega
      rcases this with rfl | rfl | rfl | rfl <;> rfl
    have evc : ∀ H2, Ex H1 H2 → Ev (tBM K "list" (rCntB K) (tVar 1) (tCons (tC (.bl true)) tNil)) [some (.ref a), some (.ref l)] H2 (.int 1) := fun H2 e2 H3 e3 Q' k' => by
      have h3 := e3 _ _ (e2 _ _ hl)
      refine ⟨.ref l, rfl, .inl ⟨rfl, _, sq_of h3⟩, ?_⟩
      refine ⟨l, [j == 0, j == 1, j == 2, j == 3], rfl, rfl, sq_of h3, ?_⟩
      rw [cnt]
      exact k' H3 (Ex.refl H3)
    refine q_when (b := false) (et_or (a := false) (b := false) (et_not (a := true) (et_B (ev_cb (ea_cons (ev_var rfl) (ea_cons ev_c ea_nil)) (rc_isV (e1 _ _ ha) AL.ex (.own _) AL.kf)))) fun _ => et_or (a := false) (b := false) (et_not (a := true) (et_B (ev_cb (ea_cons (ev_var rfl) (ea_cons ev_c ea_nil)) (rc_isV (e1 _ _ ha) AL.ex (.ty _) AL.kv))))
      fun _ => et_test (ev_is (ev_op (evc H1 (Ex.refl H1)) ev_c (rv_ne rfl)) (by rw [decide_eq_true rfl]; rfl))) (fun h => no h) fun _ H2 e2 => ?_
    have h2 := e2 _ _ hl
    refine ⟨.ref l, rfl, .inl ⟨rfl, _, sq_of h2⟩, ?_⟩
    refine ⟨l, [j == 0, j == 1, j == 2, j == 3].map V.bl, .bl true, j, .bl true, rfl, rfl, sq_of h2, rfl, by simp [flatV], ?_, rfl, ?_, q H2 (e1.trans e2)⟩
    · have : j = 0 ∨ j = 1 ∨ j = 2 ∨ j = 3 := by omega
      rcases this with rfl | rfl | rfl | rfl <;> rfl
    · intro m z hm hz
      have : j = 0 ∨ j = 1 ∨ j = 2 ∨ j = 3 := by omega
      rcases this with rfl | rfl | rfl | rfl
      · omega
      · have : m = 0 := by omega
        subst this
        cases hz
        rfl
      · have : m = 0 ∨ m = 1 := by omega
        rcases this with rfl | rfl <;> (cases hz; rfl)
      · have : m = 0 ∨ m = 1 ∨ m = 2 := by omega
        rcases this with rfl | rfl | rfl <;> (cases hz; rfl)
end
end Fi
/-! _law_spoiled, _law_made, _law_refused. -/
namespace Fi
open PySem L2 Evl
theorem two2' {w a b : Int} (h0 : 0 ≤ w) (h1 : w < 2) : atI [V.int a, V.int b] w = some (V.int (if w = 0 then a else b)) := by
  have : w = 0 ∨ w = 1 := by omega
  rcases this with rfl | rfl <;> rfl
theorem dec_zint {a b : Int} : decide (V.int a = V.int b) = decide (a = b) := by
  by_cases h : a = b
  · subst h; simp
  · have h2 : ¬ (V.int a = V.int b) := fun e => h (by injection e)
    rw [decide_eq_false h, decide_eq_false h2]
/-! ### lists of any whole numbers compared with themselves -/
theorem eqvAll_z : ∀ l : List Int, PyData.eqvAll (l.map PyData.int) (l.map PyData.int) = true
  | [] => by simp [PyData.eqvAll]
  | a :: l => by simp [PyData.eqvAll, PyData.eqv, eqvAll_z l]
def dZ2 (a b : List Int) : PyData := .list [.list (a.map PyData.int), .list (b.map PyData.int)]
theorem eqv_dZ2 (a b : List Int) : PyData.eqv (dZ2 a b) (dZ2 a b) = true := by
  unfold dZ2
  rw [PyData.eqv, PyData.eqvAll, PyData.eqvAll, PyData.eqvAll, PyData.eqv, PyData.eqv, eqvAll_z, eqvAll_z]
  rfl
theorem shaped_dZ2 (a b : List Int) : SeqAt.shaped (dZ2 a b) = true := by
  unfold SeqAt.shaped dZ2
  simp [PyData.canLay0, PyData.canLayAll0, canAll_z, PyData.depth, PyData.depthAll, depthAll_z]
theorem ev_neNilZs {K : PySem.W.Frag} {σ : L2.St} {H : Hp} {ta : TE} {p : Addr} {l : List Int} (ha : Ev ta σ H (.ref p)) (h : SqL K H p (l.map V.int)) : Ev (tOp (rNeD K) ta (tLst tNil)) σ H (.bl (!decide (l = []))) :=
  ev_opL ha (el_lst ea_nil (Nat.zero_le _)) fun q H1 hq e => by
    rw [← eqv_zNil]
    exact rv_neD (fun H2 e2 => .lst (ex_l (e.trans e2) h) (dpAll_z l)) (fun H2 e2 => .lst (ex_l e2 (sq_of (xs := ([] : List Int).map V.int) hq)) (dpAll_z [])) (shaped_z l) (shaped_z [])
def castN (l : List Nat) : List Int := l.map fun (n : Nat) => (n : Int)
theorem castN_len (l : List Nat) : (castN l).length = l.length := List.length_map _
section
variable {P : Program} {w : World} {K : PySem.W.Frag} {mg : Str → Option Value} {base : Heap} {C : Addr}
/-! ### _law_spoiled -/
def SpM (H : Hp) (p : Addr) (es ws : List Nat) (fault cell at_ j : Int) (σ' : L2.St) (H' : Hp) : Prop := ∃ (la lb : Addr) (le lw : List Int) (v6 : Option V), σ' = [some (.ref p), some (.int fault), some (.int cell), some (.ref la), some (.ref lb), some (.int at_), v6] ∧ Ex H H' ∧ H la = none ∧ H lb = none ∧ la ≠ lb ∧
  H' la = some (.lst (le.map V.int)) ∧ H' lb = some (.lst (lw.map V.int)) ∧ le.length ≤ 100 ∧ lw.length ≤ 100 ∧ (fault < j → ¬ Right le lw) ∧ (j ≤ fault → le = castN es ∧ lw = castN ws)
def spSpoiled (K : PySem.W.Frag) : Sp := fun vs H Q _ => ∃ (p : Addr) (es ws : List Nat) (fault cell : Int), vs = [.ref p, .int fault, .int cell] ∧ PlotAt H p es ws ∧ Fm.OkT es ws ∧ 0 ≤ fault ∧ 0 ≤ cell ∧ (fault = 3 ∨ fault = 4 → es ≠ []) ∧
  RetP (fun v H2 => ∃ t la lb le lw, v = .ref t ∧ H2 t = some (.tup [.ref la, .ref lb]) ∧ H2 la = some (.lst (le.map V.int)) ∧ H2 lb = some (.lst (lw.map V.int)) ∧ le.length ≤ 100 ∧ lw.length ≤ 100 ∧ (fault < 7 → ¬ Right le lw) ∧ (7 ≤ fault → le = castN es ∧ lw = castN ws)) H Q
theorem has_spoiled (B : Bi mg) (D : At K mg "_law_spoiled" s__law_spoiled p__law_spoiled) : Has P w K mg base CX0 "_law_spoiled" p__law_spoiled 1 (spSpoiled K) := D.has fun f fd F => by
  refine F.ok sc__law_spoiled (fun vs H Q E h => ?_) (fun cdv A outer s H vs Q E hr h => ?_)
  · obtain ⟨p, es, ws, fault, cell, rfl, _⟩ := h
    rfl
  · obtain ⟨p, es, ws, fault, cell, rfl, ⟨pe, pw, hp, hpe, hpw⟩, o, f0, c0, hne, q⟩ := h
    have ol := o.len
    have om := o.most
    refine ⟨_, (pss_cons (ps_set (i := 3) sc__law_spoiled.nd rfl (Or.inl rfl) (pe_callTy (call_listK (K := K)) (by rfl) B.list (by decide +kernel) (pa_cons (pe_ix (ix_tupK (K := K)) (pv 0) pe_int (fun _ _ => rfl)) pa_nil)))
      (pss_cons (ps_set (i := 4) sc__law_spoiled.nd rfl (Or.inl rfl) (pe_callTy (call_listK (K := K)) (by rfl) B.list (by decide +kernel) (pa_cons (pe_ix (ix_tupK (K := K)) (pv 0) pe_int (fun _ _ => rfl)) pa_nil)))
      (pss_cons (ps_set (i := 5) sc__law_spoiled.nd rfl (Or.inl rfl) (pe_op op_mod (pv 2) (pe_callB (call_max2 rfl) (by rfl) B.max (by decide +kernel) (pa_cons pe_int (pa_cons (pe_callB (call_lenK (K := K)) (by rfl) B.len PySem.boot_len (pa_cons (pv 3) pa_nil)) pa_nil)))))
      (pss_cut (ps_if (pt_cmpR op_eq (pv 1) pe_int (nomark _)) (pss_one (ps_asg (pe_ix (ix_listK (K := K)) (pe_lst (pa_cons (pe_op op_sub (pe_un un_neg pe_int) (pe_op op_mod (pe_op op_fdiv (pv 2) pe_int) pe_int)) (pa_cons (pe_op op_add pe_int (pe_op op_mod (pe_op op_fdiv (pv 2) pe_int) pe_int)) pa_nil))) (pe_op op_mod (pe_op op_fdiv (pv 2) pe_int) pe_int) (fun _ _ => rfl)) (pg_sub (pv 4) (pe_op op_mod (pv 2) (pe_callB (call_lenK (K := K)) (by rfl) B.len PySem.boot_len (pa_cons (pv 4) pa_nil))) set_list))) pss_nil)
      (pss_cut (ps_if (pt_cmpR op_eq (pv 1) pe_int (nomark _)) (pss_one (ps_expr (pe_bm PySem.F.plainAttrs_list PySem.F.slot_list_append PySem.F.type_list_append mt_append (pv 4) (pa_cons pe_int pa_nil)))) pss_nil)
      (pss_cut (ps_if (pt_cmpR op_eq (pv 1) pe_int (nomark _)) (pss_one (ps_expr (pe_bm PySem.F.plainAttrs_list PySem.F.slot_list_append PySem.F.type_list_append mt_append (pv 3) (pa_cons pe_int pa_nil)))) pss_nil)
      (pss_cut (ps_if (PW.pt (pw_and (pt_cmpR op_eq (pv 1) pe_int (nomark _)) (pw_and1 (pt_cmpR (op_neDK (K := K) hr.units) (pv 3) (pe_lst pa_nil) (nomark _))))) (pss_one (ps_asg (pe_op op_add (pe_op op_add (pv 5) pe_int) (pe_op op_mod (pe_op op_fdiv (pv 2) pe_int) pe_int)) (pg_sub (pv 3) (pv 5) set_list))) pss_nil)
      (pss_cut (ps_if (PW.pt (pw_and (pt_cmpR op_eq (pv 1) pe_int (nomark _)) (pw_and1 (pt_cmpR (op_neDK (K := K) hr.units) (pv 3) (pe_lst pa_nil) (nomark _))))) (pss_one (ps_asg (pe_op op_sub (pe_un un_neg pe_int) (pe_op op_mod (pe_op op_fdiv (pv 2) pe_int) pe_int)) (pg_sub (pv 3) (pv 5) set_list))) pss_nil)
      (pss_cut (ps_if (pt_cmpR op_eq (pv 1) pe_int (nomark _)) (pss_cons (ps_set (i := 3) sc__law_spoiled.nd rfl (Or.inl rfl) (pe_lst pa_nil))
        (pss_one (ps_set (i := 4) sc__law_spoiled.nd rfl (Or.inl rfl) (pe_lst pa_nil)))) pss_nil)
      (pss_cut (ps_if (pt_cmpR op_eq (pv 1) pe_int (nomark _)) (pss_cons (ps_set (i := 3) sc__law_spoiled.nd rfl (Or.inl rfl) (pe_op op_cat (pv 3) (pe_lc (own := [("k", 6)]) (g := gName 6) rfl sc__law_spoiled.nd (pi_range1 (by rfl) B.range (pa_cons (pe_op op_sub pe_int (pe_callB (call_lenK (K := K)) (by rfl) B.len PySem.boot_len (pa_cons (pv 3) pa_nil))) pa_nil)) (blkOk_by (own := [("k", 6)]) (N := n__law_spoiled) (sc := defScope s__law_spoiled) (by decide +kernel)) (fun _ _ _ _ _ => pg_name (i := 6) sc__law_spoiled.nd rfl (Or.inl rfl)) (fun _ _ _ _ _ => pts_nil) (fun _ _ _ _ _ => pe_int))))
        (pss_one (ps_set (i := 4) sc__law_spoiled.nd rfl (Or.inl rfl) (pe_op op_cat (pv 4) (pe_lc (own := [("k", 6)]) (g := gName 6) rfl sc__law_spoiled.nd (pi_range1 (by rfl) B.range (pa_cons (pe_op op_sub pe_int (pe_callB (call_lenK (K := K)) (by rfl) B.len PySem.boot_len (pa_cons (pv 4) pa_nil))) pa_nil)) (blkOk_by (own := [("k", 6)]) (N := n__law_spoiled) (sc := defScope s__law_spoiled) (by decide +kernel)) (fun _ _ _ _ _ => pg_name (i := 6) sc__law_spoiled.nd rfl (Or.inl rfl)) (fun _ _ _ _ _ => pts_nil) (fun _ _ _ _ _ => pe_int)))))) pss_nil)
      (pss_one (ps_ret (pe_tup (pa_cons (pv 3) (pa_cons (pv 4) pa_nil))))))))))))))), ?_⟩
    refine q_asgL (el_is (el_listS (ev_opIxT (ev_var rfl) ev_c (st_of hp) rfl) (sq_of hpe)) (vi_ints es)) fun la H1 na e1 hla => ?_
    refine q_asgL (el_is (el_listS (ev_opIxT (ev_var rfl) ev_c (st_of (e1 _ _ hp)) rfl) (sq_of (e1 _ _ hpw))) (vi_ints ws)) fun lb H2 nb e2 hlb => ?_
    have e12 := e1.trans e2
    have le0 : (castN es).length = es.length := castN_len es
    have lw0 : (castN ws).length = ws.length := castN_len ws
    have hla2 : H2 la = some (.lst ((castN es).map V.int)) := e2 _ _ hla
    have hlb2 : H2 lb = some (.lst ((castN ws).map V.int)) := hlb
    refine q_asg (v := .int (cell % (if (es.length : Int) > 1 then (es.length : Int) else 1))) (ev_op (ev_var rfl) (ev_cb (ea_cons ev_c (ea_cons (ev_is (ev_lenS (ev_var rfl) (sq_of hla2)) (by rw [List.length_map, le0])) ea_nil)) rc_max2) (rv_I (by show (0 : Int) < if (es.length : Int) > 1 then (es.length : Int) else 1; split <;> omega))) fun H3 e3 => ?_
    have at0 : 0 ≤ cell % (if (es.length : Int) > 1 then (es.length : Int) else 1) := Int.emod_nonneg _ (by split <;> omega)
    have at1 : es ≠ [] → cell % (if (es.length : Int) > 1 then (es.length : Int) else 1) < (es.length : Int) := fun h => by
      have hpos : 0 < es.length := List.length_pos_iff.mpr h
      have := Int.emod_lt_of_pos cell (show (0 : Int) < (if (es.length : Int) > 1 then (es.length : Int) else 1) by split <;> omega)
      by_cases hc : (es.length : Int) > 1
      · rw [if_pos hc] at this ⊢
        exact this
      · rw [if_neg hc] at this ⊢
        omega
    generalize cell % (if (es.length : Int) > 1 then (es.length : Int) else 1) = at_ at at0 at1
    have x9a := Int.emod_nonneg (cell / 20) (show (9 : Int) ≠ 0 by decide)
    have ev9 : ∀ {σ : L2.St} {H : Hp}, σ[2]? = some (some (.int cell)) → Ev (tOp (rI (fun _ j => 0 < j) fun i j => .int (i % j)) (tOp (rI CDiv fun i j => .int (i / j)) (tVar 2) (tC (.int 20))) (tC (.int 9))) σ H (.int (cell / 20 % 9)) := fun h => ev_op (ev_op (ev_var h) ev_c (rv_I ⟨by decide, by decide⟩)) ev_c (rv_I (by decide))
    have M0 : SpM H p es ws fault cell at_ 0 [some (.ref p), some (.int fault), some (.int cell), some (.ref la), some (.ref lb), some (.int at_), none] H3 :=
      ⟨la, lb, castN es, castN ws, none, rfl, e12.trans e3, na, fresh_back e1 nb, ne_of_none hla nb, e3 _ _ hla2, e3 _ _ hlb2, by omega, by omega, fun h => absurd h (by omega), fun _ => ⟨rfl, rfl⟩⟩
    have keep : ∀ (j : Int) (σ' : L2.St) (H' H4 : Hp), SpM H p es ws fault cell at_ j σ' H' → Ex H' H4 → fault ≠ j → SpM H p es ws fault cell at_ (j + 1) σ' H4 := fun j σ' H' H4 ⟨a, b, l, m, v, h1, h2, h3, h4, h5, h6, h7, h8, h9, h10, h11⟩ e hn => ⟨a, b, l, m, v, h1, h2.trans e, h3, h4, h5, e _ _ h6, e _ _ h7, h8, h9, fun h => h10 (by omega), fun h => h11 (by omega)⟩
    -- fault 0
    refine q_cut (M := SpM H p es ws fault cell at_ 1) ?_ ?_
    · obtain ⟨a, b, l, m, v6, h1, h2, h3, h4, h5, h6, h7, h8, h9, h10, h11⟩ := M0
      refine s_when (b := decide (fault = 0)) (et_test (ev_is (ev_op (ev_var rfl) ev_c (rv_eq rfl)) (by rw [dec_zint]))) (fun hb H4 e4 => ?_) (fun hb H4 e4 => keep 0 _ _ _ ⟨la, lb, castN es, castN ws, none, rfl, e12.trans e3, na, fresh_back e1 nb, ne_of_none hla nb, e3 _ _ hla2, e3 _ _ hlb2, by omega, by omega, fun h => absurd h (by omega), fun _ => ⟨rfl, rfl⟩⟩ e4 (of_decide_eq_false hb))
      have hf := of_decide_eq_true hb
      have w0 := Int.emod_nonneg cell (show (ws.length : Int) ≠ 0 by omega)
      have w1 := Int.emod_lt_of_pos cell (show (0 : Int) < (ws.length : Int) by omega)
      have hlb4 := e4 _ _ (e3 _ _ hlb2)
      refine s_setL (l := lb) (xs := (castN ws).map V.int) (j := (cell % (ws.length : Int)).toNat) hlb4 (ev_opIxN (el_lst (ea_cons (ev_op (ev_un ev_c ru_neg) (ev9 rfl) rv_I0) (ea_cons (ev_op ev_c (ev9 rfl) rv_I0) ea_nil)) (by show 2 ≤ 100000; decide)) (ev_op (ev_op (ev_var rfl) ev_c (rv_I ⟨by decide, by decide⟩)) ev_c (rv_I (by decide))) (two2' (Int.emod_nonneg _ (by decide)) (Int.emod_lt_of_pos _ (by decide))))
        (ev_var rfl) (ev_is (ev_op (ev_var rfl) (ev_is (ev_lenS (ev_var rfl) (sq_of hlb4)) (by rw [List.length_map, lw0])) (rv_I (show (0 : Int) < (ws.length : Int) by omega))) (by rw [Int.toNat_of_nonneg w0])) (by rw [List.length_map, lw0]; omega) fun H5 e5 => ?_
      refine ⟨la, lb, castN es, (castN ws).set (cell % (ws.length : Int)).toNat (if cell / 200 % 2 = 0 then -1 - cell / 20 % 9 else 1001 + cell / 20 % 9), none, rfl, Ex.mut (((e12.trans e3).trans e4).trans e5) (fresh_back e1 nb), na, fresh_back e1 nb, ne_of_none hla nb, ?_, ?_, by omega, by rw [List.length_set]; omega, fun _ R => ?_, fun h => absurd h (by omega)⟩
      · rw [upd_ne (ne_of_none hla nb)]; exact e5 _ _ (e4 _ _ (e3 _ _ hla2))
      · rw [upd_same, List.map_set]
      · obtain ⟨_, _, _, _, r5⟩ := R
        have hm := r5 _ (List.mem_of_getElem? (List.getElem?_set_self (by rw [lw0]; omega)))
        split at hm <;> omega
    · rintro σ' H4 M
      -- fault 1
      refine q_cut (M := SpM H p es ws fault cell at_ 2) ?_ ?_
      · obtain ⟨a, b, l, m, v6, rfl, h2, h3, h4, h5, h6, h7, h8, h9, h10, h11⟩ := id M
        refine s_when (b := decide (fault = 1)) (et_test (ev_is (ev_op (ev_var rfl) ev_c (rv_eq rfl)) (by rw [dec_zint]))) (fun hb H5 e5 => ?_) (fun hb H5 e5 => keep 1 _ _ _ M e5 (of_decide_eq_false hb))
        have hf := of_decide_eq_true hb
        obtain ⟨rfl, rfl⟩ := h11 (by omega)
        refine s_app (e5 _ _ h7) (ev_var rfl) ev_c (by rw [List.length_map]; omega) fun H6 e6 => ⟨a, b, castN es, castN ws ++ [1], v6, rfl, Ex.mut ((h2.trans e5).trans e6) h4, h3, h4, h5, ?_, ?_, by omega, by rw [List.length_append]; show _ + 1 ≤ 100; omega, fun _ R => ?_, fun h => absurd h (by omega)⟩
        · rw [upd_ne h5]; exact e6 _ _ (e5 _ _ h6)
        · rw [upd_same, List.map_append]; rfl
        · obtain ⟨_, _, r3, _, _⟩ := R
          rw [List.length_append] at r3
          have : (castN es).length + 1 = (castN ws).length + 1 := r3
          omega
      · rintro σ' H5 M
        -- fault 2
        refine q_cut (M := SpM H p es ws fault cell at_ 3) ?_ ?_
        · obtain ⟨a, b, l, m, v6, rfl, h2, h3, h4, h5, h6, h7, h8, h9, h10, h11⟩ := id M
          refine s_when (b := decide (fault = 2)) (et_test (ev_is (ev_op (ev_var rfl) ev_c (rv_eq rfl)) (by rw [dec_zint]))) (fun hb H6 e6 => ?_) (fun hb H6 e6 => keep 2 _ _ _ M e6 (of_decide_eq_false hb))
          have hf := of_decide_eq_true hb
          obtain ⟨rfl, rfl⟩ := h11 (by omega)
          refine s_app (e6 _ _ h6) (ev_var rfl) ev_c (by rw [List.length_map]; omega) fun H7 e7 => ⟨a, b, castN es ++ [0], castN ws, v6, rfl, Ex.mut ((h2.trans e6).trans e7) h3, h3, h4, h5, ?_, ?_, by rw [List.length_append]; show _ + 1 ≤ 100; omega, by omega, fun _ R => ?_, fun h => absurd h (by omega)⟩
          · rw [upd_same, List.map_append]; rfl
          · rw [upd_ne h5.symm]; exact e7 _ _ (e6 _ _ h7)
          · obtain ⟨_, _, r3, _, _⟩ := R
            rw [List.length_append] at r3
            have : (castN es).length + 1 + 1 = (castN ws).length := r3
            omega
        · rintro σ' H6 M
          -- fault 3
          refine q_cut (M := SpM H p es ws fault cell at_ 4) ?_ ?_
          · obtain ⟨a, b, l, m, v6, rfl, h2, h3, h4, h5, h6, h7, h8, h9, h10, h11⟩ := id M
            refine s_when (b := decide (fault = 3) && !decide (l = [])) (et_and (et_test (ev_is (ev_op (ev_var rfl) ev_c (rv_eq rfl)) (by rw [dec_zint]))) fun _ => et_test (ev_neNilZs (ev_var rfl) (sq_of h6))) (fun hb H7 e7 => ?_) (fun hb H7 e7 => keep 3 _ _ _ M e7 fun hf => ?_)
            · rw [Bool.and_eq_true] at hb
              have hf := of_decide_eq_true hb.1
              obtain ⟨rfl, rfl⟩ := h11 (by omega)
              have hn := hne (.inl hf)
              have a1 := at1 hn
              refine s_setL (l := a) (xs := (castN es).map V.int) (j := at_.toNat) (e7 _ _ h6) (ev_op (ev_op (ev_var rfl) ev_c rv_I0) (ev9 rfl) rv_I0) (ev_var rfl) (ev_is (ev_var rfl) (by rw [Int.toNat_of_nonneg at0])) (by rw [List.length_map, le0]; omega) fun H8 e8 => ?_
              refine ⟨a, b, (castN es).set at_.toNat (at_ + 1 + cell / 20 % 9), castN ws, v6, rfl, Ex.mut ((h2.trans e7).trans e8) h3, h3, h4, h5, ?_, ?_, by rw [List.length_set]; omega, by omega, fun _ R => ?_, fun h => absurd h (by omega)⟩
              · rw [upd_same, List.map_set]
              · rw [upd_ne h5.symm]; exact e8 _ _ (e7 _ _ h7)
              · obtain ⟨_, _, _, r4, _⟩ := R
                have hk := r4 at_.toNat (by rw [List.length_set, le0]; omega)
                rw [List.getD_eq_getElem?_getD, List.getElem?_set_self (by rw [le0]; omega)] at hk
                have hk2 : at_ + 1 + cell / 20 % 9 ≤ (at_.toNat : Int) := hk.2
                omega
            · obtain ⟨rfl, rfl⟩ := h11 (by omega)
              have hn := hne (.inl hf)
              rw [decide_eq_true hf, Bool.true_and] at hb
              have : castN es = [] := by simpa using hb
              have : (castN es).length = 0 := by rw [this]; rfl
              rw [le0] at this
              exact hn (List.length_eq_zero_iff.mp this)
          · rintro σ' H7 M
            -- fault 4
            refine q_cut (M := SpM H p es ws fault cell at_ 5) ?_ ?_
            · obtain ⟨a, b, l, m, v6, rfl, h2, h3, h4, h5, h6, h7, h8, h9, h10, h11⟩ := id M
              refine s_when (b := decide (fault = 4) && !decide (l = [])) (et_and (et_test (ev_is (ev_op (ev_var rfl) ev_c (rv_eq rfl)) (by rw [dec_zint]))) fun _ => et_test (ev_neNilZs (ev_var rfl) (sq_of h6))) (fun hb H8 e8 => ?_) (fun hb H8 e8 => keep 4 _ _ _ M e8 fun hf => ?_)
              · rw [Bool.and_eq_true] at hb
                have hf := of_decide_eq_true hb.1
                obtain ⟨rfl, rfl⟩ := h11 (by omega)
                have hn := hne (.inr hf)
                have a1 := at1 hn
                refine s_setL (l := a) (xs := (castN es).map V.int) (j := at_.toNat) (e8 _ _ h6) (ev_op (ev_un ev_c ru_neg) (ev9 rfl) rv_I0) (ev_var rfl) (ev_is (ev_var rfl) (by rw [Int.toNat_of_nonneg at0])) (by rw [List.length_map, le0]; omega) fun H9 e9 => ?_
                refine ⟨a, b, (castN es).set at_.toNat (-1 - cell / 20 % 9), castN ws, v6, rfl, Ex.mut ((h2.trans e8).trans e9) h3, h3, h4, h5, ?_, ?_, by rw [List.length_set]; omega, by omega, fun _ R => ?_, fun h => absurd h (by omega)⟩
                · rw [upd_same, List.map_set]
                · rw [upd_ne h5.symm]; exact e9 _ _ (e8 _ _ h7)
                · obtain ⟨_, _, _, r4, _⟩ := R
                  have hk := r4 at_.toNat (by rw [List.length_set, le0]; omega)
                  rw [List.getD_eq_getElem?_getD, List.getElem?_set_self (by rw [le0]; omega)] at hk
                  have hk2 : 0 ≤ -1 - cell / 20 % 9 := hk.1
                  omega
              · obtain ⟨rfl, rfl⟩ := h11 (by omega)
                have hn := hne (.inr hf)
                rw [decide_eq_true hf, Bool.true_and] at hb
                have : castN es = [] := by simpa using hb
                have : (castN es).length = 0 := by rw [this]; rfl
                rw [le0] at this
                exact hn (List.length_eq_zero_iff.mp this)
            · rintro σ' H8 M
              -- fault 5
              refine q_cut (M := SpM H p es ws fault cell at_ 6) ?_ ?_
              · obtain ⟨a, b, l, m, v6, rfl, h2, h3, h4, h5, h6, h7, h8, h9, h10, h11⟩ := id M
                refine s_when (b := decide (fault = 5)) (et_test (ev_is (ev_op (ev_var rfl) ev_c (rv_eq rfl)) (by rw [dec_zint]))) (fun hb H9 e9 => ?_) (fun hb H9 e9 => keep 5 _ _ _ M e9 (of_decide_eq_false hb))
                have hf := of_decide_eq_true hb
                refine q_asgL (el_lst ea_nil (Nat.zero_le _)) fun a2 H10 na2 e10 ha2 => ?_
                have E9 := h2.trans e9
                refine s_asgL (el_lst ea_nil (Nat.zero_le _)) fun b2 H11 nb2 e11 hb2 => ⟨a2, b2, [], [], v6, rfl, (E9.trans e10).trans e11, fresh_back E9 na2, fresh_back (E9.trans e10) nb2, ne_of_none ha2 nb2, e11 _ _ ha2, hb2, Nat.zero_le _, Nat.zero_le _, fun _ R => absurd R.1 (by decide), fun h => absurd h (by omega)⟩
              · rintro σ' H9 M
                -- fault 6
                refine q_cut (M := SpM H p es ws fault cell at_ 7) ?_ ?_
                · obtain ⟨a, b, l, m, v6, rfl, h2, h3, h4, h5, h6, h7, h8, h9, h10, h11⟩ := id M
                  refine s_when (b := decide (fault = 6)) (et_test (ev_is (ev_op (ev_var rfl) ev_c (rv_eq rfl)) (by rw [dec_zint]))) (fun hb H10 e10 => ?_) (fun hb H10 e10 => keep 6 _ _ _ M e10 (of_decide_eq_false hb))
                  have hf := of_decide_eq_true hb
                  obtain ⟨rfl, rfl⟩ := h11 (by omega)
                  have zs : ∀ n : Nat, given n (fun _ => true) (fun _ => V.int 0) = (List.replicate n (0 : Int)).map V.int := fun n => by
                    rw [given_all, List.map_replicate]
                    refine List.ext_getElem (by simp) fun i h1 h2 => by simp
                  have E10 := h2.trans e10
                  have a10 := e10 _ _ h6
                  refine q_asgL (xs := ((castN es) ++ List.replicate (14 - (es.length : Int)).toNat 0).map V.int) (el_is (el_catVN (ev_var rfl) a10 (el_is (el_lcR1 (n := 14 - (es.length : Int)) (fun _ => true) (fun _ => V.int 0) (ea_cons (ev_op ev_c (ev_is (ev_lenS (ev_var rfl) (sq_of a10)) (by rw [List.length_map, le0])) rv_I0) ea_nil) ⟨by omega, by omega⟩ (fun x => rfl) (fun _ _ _ _ => et_yes) (fun i H11 e11 hi _ => ev_c)) (zs _)) (by rw [List.length_map, List.length_map, List.length_replicate]; omega)) (by rw [List.map_append])) fun a2 H11 na2 e11 ha2 => ?_
                  have b11 := e11 _ _ (e10 _ _ h7)
                  refine s_asgL (xs := ((castN ws) ++ List.replicate (15 - (ws.length : Int)).toNat 0).map V.int) (el_is (el_catVN (ev_var rfl) b11 (el_is (el_lcR1 (n := 15 - (ws.length : Int)) (fun _ => true) (fun _ => V.int 0) (ea_cons (ev_op ev_c (ev_is (ev_lenS (ev_var rfl) (sq_of b11)) (by rw [List.length_map, lw0])) rv_I0) ea_nil) ⟨by omega, by omega⟩ (fun x => rfl) (fun _ _ _ _ => et_yes) (fun i H12 e12 hi _ => ev_c)) (zs _)) (by rw [List.length_map, List.length_map, List.length_replicate]; omega)) (by rw [List.map_append])) fun b2 H12 nb2 e12 hb2 =>
                    ⟨a2, b2, _, _, v6, rfl, (E10.trans e11).trans e12, fresh_back E10 na2, fresh_back (E10.trans e11) nb2, ne_of_none ha2 nb2, e12 _ _ ha2, hb2, by rw [List.length_append, List.length_replicate]; omega, by rw [List.length_append, List.length_replicate]; omega, fun _ R => ?_, fun h => absurd h (by omega)⟩
                  obtain ⟨_, r2, _⟩ := R
                  rw [List.length_append, List.length_replicate] at r2
                  omega
                · rintro σ' H10 ⟨a, b, l, m, v6, rfl, h2, h3, h4, h5, h6, h7, h8, h9, h10, h11⟩
                  exact s_retU (eu_tup (ea_cons (ev_var rfl) (ea_cons (ev_var rfl) ea_nil)) (by show 2 ≤ 100000; decide)) fun t H11 nt e11 ht => q _ H11 (h2.trans e11) ⟨t, a, b, l, m, rfl, ht, e11 _ _ h6, e11 _ _ h7, h8, h9, h10, h11⟩
/-! ### _law_made -/
def spMade (K : PySem.W.Frag) (C cBad : Addr) : Sp := fun vs H Q _ => ∃ (pe pw : Addr) (le lw : List Int), vs = [.ref pe, .ref pw] ∧ SqL K H pe (le.map V.int) ∧ SqL K H pw (lw.map V.int) ∧ le.length ≤ 1000 ∧ lw.length ≤ 1000 ∧
  (Right le lw → RetP (fun v H2 => ∃ x dx a u, v = .ref x ∧ H2 x = some (.ins C dx (flds a u)) ∧ H2 a = some (.lst (V.int (-1) :: le.map V.int)) ∧ H2 u = some (.lst (lw.map V.int))) H Q) ∧
  (¬ Right le lw → RetP (fun v H2 => ∃ a, v = .ref a ∧ H2 a = some (ExV (.ref cBad) a)) H Q)
theorem has_made {c : Cs} (T : TreeT K mg C) (G : Gs mg c) (xB : PySem.W.exmOne K (.ref c.bad) (.ref c.fire) = some true) (hI_Tree : HasI P w K mg base (L2.CX P w) C p_Tree___init__ 1 (spInit K C c.bad)) (D : At K mg "_law_made" s__law_made p__law_made) :
    Has P w K mg base CX0 "_law_made" p__law_made 3 (spMade K C c.bad) := D.has fun f fd F => by
  refine F.ok sc__law_made (fun vs H Q E h => ?_) (fun cdv A outer s H vs Q E hr h => ?_)
  · obtain ⟨pe, pw, le, lw, rfl, _⟩ := h
    rfl
  · obtain ⟨pe, pw, le, lw, rfl, he, hw, h1, h2, kR, kE⟩ := h
    have g_FireError := G.fire
    refine ⟨_, (pss_cons (ps_set (i := 2) sc__law_made.nd rfl (Or.inl rfl) pe_non)
      (pss_cons (ps_try_asV (i := 3) rfl rfl rfl sc__law_made.nd rfl rfl ⟨rfl, by decide, Or.inl g_FireError⟩ (fun W pn xe tk _ => (pss_one (ps_set (i := 2) sc__law_made.nd rfl (Or.inl rfl) (hI_Tree.makeS (hr.mono (by decide)) (by rfl) T.g (fun σ => passAt tk σ) (pa_cons (pv 0) (pa_cons (pv 1) pa_nil)))))) (fun a oe cls pn hz hf => (pss_one (ps_set (i := 2) sc__law_made.nd rfl (Or.inl rfl) (pv 3)))))
      (pss_one (ps_ret (pv 2))))), ?_⟩
    refine q_asg ev_c fun H1 e1 => ?_
    refine ⟨.ref pe, rfl, .ref pw, rfl, fun x dx nx ndx ne => ?_⟩
    have e0 : Ex H1 (upd (upd H1 dx (.own x)) x (.ins C dx [])) := fun b ob hb => by
      rw [upd_ne (ne_of_none hb nx), upd_ne (ne_of_none hb ndx)]
      exact hb
    have E0 := e1.trans e0
    refine ⟨x, dx, pe, pw, le, lw, rfl, upd_same, ex_l E0 he, ex_l E0 hw, h1, h2, fun R a u H2 na nu k hx ha hu => ⟨rfl, ?_⟩, fun R H2 e2 => ⟨rfl, xB, fun a na => ⟨_, rfl, ?_⟩⟩⟩
    · have k2 : Ex H1 H2 := fun b ob hb => k b ob (ne_of_none hb nx) (e0 b ob hb)
      exact s_ret (ev_var rfl) fun H3 e3 => kR R _ H3 ((e1.trans k2).trans e3) ⟨x, dx, a, u, rfl, e3 _ _ hx, e3 _ _ ha, e3 _ _ hu⟩
    · exact s_ret (ev_var rfl) fun H3 e3 => kE R _ H3 (((E0.trans e2).trans (Ex.new na)).trans e3) ⟨a, rfl, e3 _ _ upd_same⟩
/-! ### _law_refused -/
def spRefused (C : Addr) : Sp := fun vs H Q _ => ∃ (t : Addr) (i z : Int) (es ws : List Nat), vs = [.ref t, .int i, .int z] ∧ TreeAt C H t es ws ∧ (i = 0 ∨ i = 1 ∨ i = 2) ∧ ¬ (0 ≤ z ∧ z < (ws.length : Int)) ∧ RetV (.int 1) H Q
theorem spv_refused {H : Hp} {t : Addr} {i z : Int} {es ws : List Nat} (h : TreeAt C H t es ws) (hi : i = 0 ∨ i = 1 ∨ i = 2) (hz : ¬ (0 ≤ z ∧ z < (ws.length : Int))) : SpV (spRefused C) [.ref t, .int i, .int z] H (.int 1) := fun H1 e Q q E => ⟨t, i, z, es, ws, rfl, h.mono e, hi, hz, q⟩
theorem has_refused {c : Cs} (T : TreeT K mg C) (G : Gs mg c) (xN : PySem.W.exmOne K (.ref c.no) (.ref c.fire) = some true) (aN : Alone K c c.no 1) (h_law_alone : Has P w K mg base CX0 "_law_alone" p__law_alone 1 (spAlone K c)) (hM_depth : HasM P w K mg base (L2.CX P w) C "depth" p_Tree_depth 2 (spDepth C c.no)) (hM_below : HasM P w K mg base (L2.CX P w) C "below" p_Tree_below 2 (spBelow C c.no))
    (hM_worth_below : HasM P w K mg base (L2.CX P w) C "worth_below" p_Tree_worth_below 3 (spWorthB C c.no)) (D : At K mg "_law_refused" s__law_refused p__law_refused) : Has P w K mg base CX0 "_law_refused" p__law_refused 4 (spRefused C) := D.has fun f fd F => by
  refine F.ok sc__law_refused (fun vs H Q E h => ?_) (fun cdv A outer s H vs Q E hr h => ?_)
  · obtain ⟨t, i, z, es, ws, rfl, _⟩ := h
    rfl
  · obtain ⟨t, i, z, es, ws, rfl, TA, hi, hz, q⟩ := h
    have g_FireError := G.fire
    obtain ⟨⟨dx, a, u, h1, h2, h3⟩, o⟩ := id TA
    refine ⟨_, (pss_cons (ps_set (i := 3) sc__law_refused.nd rfl (Or.inl rfl) pe_non)
      (pss_cons (ps_try_asV (i := 4) rfl rfl rfl sc__law_refused.nd rfl rfl ⟨rfl, by decide, Or.inl g_FireError⟩ (fun W pn xe tk _ => (pss_cons (ps_if (pt_cmpR op_eq (pv 1) pe_int (nomark _)) (pss_one (ps_expr (hM_depth.callS T.cl (pv 0) (hr.mono (by decide)) (fun σ => passAt tk σ) (pa_cons (pv 2) pa_nil)))) pss_nil)
        (pss_cons (ps_if (pt_cmpR op_eq (pv 1) pe_int (nomark _)) (pss_one (ps_expr (hM_below.callS T.cl (pv 0) (hr.mono (by decide)) (fun σ => passAt tk σ) (pa_cons (pv 2) pa_nil)))) pss_nil)
        (pss_one (ps_if (pt_cmpR op_eq (pv 1) pe_int (nomark _)) (pss_one (ps_expr (hM_worth_below.callS T.cl (pv 0) (hr.mono (by decide)) (fun σ => passAt tk σ) (pa_cons (pv 2) pa_nil)))) pss_nil))))) (fun a oe cls pn hz hf => (pss_one (ps_set (i := 3) sc__law_refused.nd rfl (Or.inl rfl) (pv 4)))))
      (pss_one (ps_ret (h_law_alone.call (hr.mono (by decide)) (by rfl) pass0 (pa_cons (pv 3) pa_nil)))))), ?_⟩
    refine q_asg ev_c fun H1 e1 => ?_
    have fin : ∀ (σ : L2.St) (H2 : Hp) (x : Addr), Ex H H2 → H2 x = none → σ[3]? = some (some (.ref x)) → Ev (tCall (spAlone K c) [] E0 (tCons (tVar 3) tNil)) σ (upd H2 x (ExV (.ref c.no) x)) (.int 1) := fun σ H2 x e nx hσ => ev_call0 (ea_cons (ev_var hσ) ea_nil) (spv_alone (j := 1) upd_same aN)
    have noM : ∀ m : Str, ¬ m = "above" → ¬ m = "worth" → (flds a u).lookup m = none := fun m => flds_no a u
    rcases hi with rfl | rfl | rfl
    · refine q_when (b := true) (et_test (ev_op (ev_var rfl) ev_c (rv_eq rfl))) (fun _ H2 e2 => ?_) (fun h => no' h)
      have E2 := e1.trans e2
      refine ⟨.ref t, rfl, t, dx, _, rfl, E2 _ _ h1, noM _ (by decide +kernel) (by decide +kernel), .int z, rfl, t, es, ws, z, rfl, TA.mono E2, fun h => absurd h hz, fun _ H3 e3 => ⟨rfl, xN, fun x nx => ⟨_, rfl, ?_⟩⟩⟩
      exact s_ret (fin _ H3 x (E2.trans e3) nx rfl) fun H4 e4 => q H4 (((E2.trans e3).trans (Ex.new nx)).trans e4)
    · refine q_when (b := false) (et_test (ev_op (ev_var rfl) ev_c (rv_eq rfl))) (fun h => no h) (fun _ H2 e2 => ?_)
      refine q_when (b := true) (et_test (ev_op (ev_var rfl) ev_c (rv_eq rfl))) (fun _ H2' e2' => ?_) (fun h => no' h)
      have E2 := (e1.trans e2).trans e2'
      refine ⟨.ref t, rfl, t, dx, _, rfl, E2 _ _ h1, noM _ (by decide +kernel) (by decide +kernel), .int z, rfl, t, es, ws, z, rfl, TA.mono E2, fun h => absurd h hz, fun _ H3 e3 => ⟨rfl, xN, fun x nx => ⟨_, rfl, ?_⟩⟩⟩
      exact s_ret (fin _ H3 x (E2.trans e3) nx rfl) fun H4 e4 => q H4 (((E2.trans e3).trans (Ex.new nx)).trans e4)
    · refine q_when (b := false) (et_test (ev_op (ev_var rfl) ev_c (rv_eq rfl))) (fun h => no h) (fun _ H2 e2 => ?_)
      refine q_when (b := false) (et_test (ev_op (ev_var rfl) ev_c (rv_eq rfl))) (fun h => no h) (fun _ H2' e2' => ?_)
      refine s_when (b := true) (et_test (ev_op (ev_var rfl) ev_c (rv_eq rfl))) (fun _ H2'' e2'' => ?_) (fun h => no' h)
      have E2 := ((e1.trans e2).trans e2').trans e2''
      refine ⟨.ref t, rfl, t, dx, _, rfl, E2 _ _ h1, noM _ (by decide +kernel) (by decide +kernel), .int z, rfl, t, es, ws, z, rfl, TA.mono E2, fun h => absurd h hz, fun _ H3 e3 => ⟨rfl, xN, fun x nx => ⟨_, rfl, ?_⟩⟩⟩
      exact s_ret (fin _ H3 x (E2.trans e3) nx rfl) fun H4 e4 => q H4 (((E2.trans e3).trans (Ex.new nx)).trans e4)
end
end Fi
/-! The law of refusals. -/
namespace Fi
open PySem L2 Evl
theorem draw91 {K : PySem.W.Frag} {H : Hp} {a : Addr} {ns : List Int} (hS : SqL K H a (ns.map V.int)) : SpV (spDraw K) [.ref a, .int 91] H (.int (Fm.draw ns 91)) := spv_draw hS (by decide) (by decide)
section
variable {P : Program} {w : World} {K : PySem.W.Frag} {mg : Str → Option Value} {base : Heap} {C : Addr}
def spLaw (K : PySem.W.Frag) : Sp := fun vs H Q _ => ∃ (a : Addr) (ns : List Int), vs = [.ref a] ∧ SqL K H a (ns.map V.int) ∧ ns.length ≤ 63 ∧ ∀ H', Q (.bl true) H'
theorem ok_law {c : Cs} (B : Bi mg) (a0 : Alone K c c.bad 0) (h_law_tree : Has P w K mg base CX0 "_law_tree" p__law_tree 4 (spPlot K)) (h_law_draw : Has P w K mg base CX0 "_law_draw" p__law_draw 2 (spDraw K)) (h_law_spoiled : Has P w K mg base CX0 "_law_spoiled" p__law_spoiled 1 (spSpoiled K))
    (h_law_made : Has P w K mg base CX0 "_law_made" p__law_made 3 (spMade K C c.bad)) (h_law_alone : Has P w K mg base CX0 "_law_alone" p__law_alone 1 (spAlone K c)) (h_law_refused : Has P w K mg base CX0 "_law_refused" p__law_refused 4 (spRefused C)) :
    ∀ f fd, Fun K "law" "law" s_law f fd → FnOk P w K mg base CX0 5 f fd p_law (spLaw K) := fun f fd F => by
  refine F.ok sc_law (fun vs H Q E h => ?_) (fun cdv A outer s H vs Q E hr h => ?_)
  · obtain ⟨a, ns, rfl, _⟩ := h
    rfl
  · obtain ⟨sa, ns, rfl, hS, _, q⟩ := h
    refine ⟨_, (pss_cons (ps_set (i := 1) sc_law.nd rfl (Or.inl rfl) (h_law_tree.call (hr.mono (by decide)) (by rfl) pass0 (pa_cons (pv 0) (pa_cons pe_int pa_nil))))
      (pss_cons (ps_set (i := 2) sc_law.nd rfl (Or.inl rfl) (h_law_draw.call (hr.mono (by decide)) (by rfl) pass0 (pa_cons (pv 0) (pa_cons pe_int pa_nil))))
      (pss_cons (ps_set (i := 3) sc_law.nd rfl (Or.inl rfl) (pe_op op_mod (pv 2) pe_int))
      (pss_cut (ps_if (PW.pt (pw_and (pt_cmpR op_eq (pe_callB (call_lenK (K := K)) (by rfl) B.len PySem.boot_len (pa_cons (pe_ix (ix_tupK (K := K)) (pv 1) pe_int (fun _ _ => rfl)) pa_nil)) pe_int (nomark _)) (pw_and1 (pt_cmpR (op_inK (K := K)) (pv 3) (pe_tup (pa_cons pe_int (pa_cons pe_int pa_nil))) (by with_unfolding_all rfl))))) (pss_one (ps_set (i := 3) sc_law.nd rfl (Or.inl rfl) pe_int)) pss_nil)
      (pss_cons (ps_set (i := 4) sc_law.nd rfl (Or.inl rfl) (h_law_spoiled.call (hr.mono (by decide)) (by rfl) pass0 (pa_cons (pv 1) (pa_cons (pv 3) (pa_cons (pe_op op_fdiv (pv 2) pe_int) pa_nil)))))
      (pss_cons (ps_set (i := 5) sc_law.nd rfl (Or.inl rfl) (pe_lst (pa_cons (pe_callTy (call_listK (K := K)) (by rfl) B.list (by decide +kernel) (pa_cons (pe_ix (ix_tupK (K := K)) (pv 4) pe_int (fun _ _ => rfl)) pa_nil)) (pa_cons (pe_callTy (call_listK (K := K)) (by rfl) B.list (by decide +kernel) (pa_cons (pe_ix (ix_tupK (K := K)) (pv 4) pe_int (fun _ _ => rfl)) pa_nil)) pa_nil))))
      (pss_cons (ps_for PassesOwn.never rfl (pi_range1 (by rfl) B.range (pa_cons pe_int pa_nil)) (pg_name (i := 6) sc_law.nd rfl (Or.inl rfl)) (pss_cons (ps_set (i := 7) sc_law.nd rfl (Or.inl rfl) (h_law_made.call (hr.mono (by decide)) (by rfl) pass0 (pa_cons (pe_ix (ix_listK (K := K)) (pv 5) pe_int (fun _ _ => rfl)) (pa_cons (pe_ix (ix_listK (K := K)) (pv 5) pe_int (fun _ _ => rfl)) pa_nil))))
        (pss_cons (ps_if (pt_cmpR (op_neDK (K := K) hr.units) (pv 5) (pe_lst (pa_cons (pe_ix (ix_tupK (K := K)) (pv 4) pe_int (fun _ _ => rfl)) (pa_cons (pe_ix (ix_tupK (K := K)) (pv 4) pe_int (fun _ _ => rfl)) pa_nil))) (nomark _)) (pss_one (ps_ret pe_bl)) pss_nil)
        (pss_one (ps_if (PW.pt (pw_and (pt_cmpR op_lt (pv 3) pe_int (nomark _)) (pw_and1 (pt_cmpR op_ne (h_law_alone.call (hr.mono (by decide)) (by rfl) pass0 (pa_cons (pv 7) pa_nil)) pe_int (nomark _))))) (pss_one (ps_ret pe_bl)) pss_nil)))))
      (pss_cons (ps_if (pt_cmpR op_lt (pv 3) pe_int (nomark _)) (pss_one (ps_ret pe_bl)) pss_nil)
      (pss_cons (ps_set (i := 8) sc_law.nd rfl (Or.inl rfl) (pe_callB (call_lenK (K := K)) (by rfl) B.len PySem.boot_len (pa_cons (pe_ix (ix_tupK (K := K)) (pv 1) pe_int (fun _ _ => rfl)) pa_nil)))
      (pss_cons (ps_for PassesOwn.never rfl (pi_range1 (by rfl) B.range (pa_cons pe_int pa_nil)) (pg_name (i := 9) sc_law.nd rfl (Or.inl rfl)) (pss_one (ps_for PassesOwn.never rfl (pi_list (pe_lst (pa_cons (pe_un un_neg pe_int) (pa_cons (pe_op op_sub (pe_un un_neg pe_int) (pe_op op_mod (pv 2) (pe_op op_pow pe_int pe_int))) (pa_cons (pv 8) (pa_cons (pe_op op_add (pv 8) (pe_op op_mod (pv 2) (pe_op op_pow pe_int pe_int))) pa_nil)))))) (pg_name (i := 10) sc_law.nd rfl (Or.inl rfl)) (pss_one (ps_if (pt_cmpR op_ne (h_law_refused.call (hr.mono (by decide)) (by rfl) pass0 (pa_cons (pv 7) (pa_cons (pv 9) (pa_cons (pv 10) pa_nil)))) pe_int (nomark _)) (pss_one (ps_ret pe_bl)) pss_nil)))))
      (pss_one (ps_ret pe_bl)))))))))))), ?_⟩
    refine q_asgP (ep_call0 (ea_cons (ev_var rfl) (ea_cons ev_c ea_nil)) (spp_some (most := 14) hS (by decide) (by decide))) fun v H1 e1 ⟨p, es, ws, ev, hP, o, _⟩ => ?_
    subst ev
    obtain ⟨pe, pw, hp, hpe, hpw⟩ := id hP
    have ol := o.len
    have om := o.most
    refine q_asg (v := .int (Fm.draw ns 91)) (ev_call0 (ea_cons (ev_var rfl) (ea_cons ev_c ea_nil)) (draw91 (ex_l e1 hS))) fun H2 e2 => ?_
    have c0 := Fm.draw_lo ns 91
    generalize Fm.draw ns 91 = cell at c0
    refine q_asg (v := .int (cell % 10)) (ev_op (ev_var rfl) ev_c (rv_I (by decide))) fun H3 e3 => ?_
    have e13 := e2.trans e3
    have E3 := e1.trans e13
    have f0 := Int.emod_nonneg cell (show (10 : Int) ≠ 0 by decide)
    have f1 := Int.emod_lt_of_pos cell (show (0 : Int) < 10 by decide)
    have fin : ∀ z : Int, inV (.int z) [.int 3, .int 4] = (decide (z = 3) || decide (z = 4)) := fun z => by
      unfold inV
      show ((((3 : Int) == z) : Bool) || ((((4 : Int) == z) : Bool) || false)) = _
      rw [Bool.or_false]
      by_cases h3 : z = 3
      · subst h3; rfl
      · by_cases h4 : z = 4
        · subst h4; rfl
        · have h3' : ¬ (3 : Int) = z := fun e => h3 e.symm
          have h4' : ¬ (4 : Int) = z := fun e => h4 e.symm
          simp [h3, h4, h3', h4']
    refine q_cut (M := fun σ' H' => ∃ fault : Int, σ' = [some (.ref sa), some (.ref p), some (.int cell), some (.int fault), none, none, none, none, none, none, none] ∧ Ex H1 H' ∧ 0 ≤ fault ∧ (fault = 3 ∨ fault = 4 → es ≠ [])) ?_ ?_
    · refine s_when (b := decide (ws.length = 1) && (decide (cell % 10 = 3) || decide (cell % 10 = 4))) (et_and (et_test (ev_is (ev_op (ev_lenS (ev_opIxT (ev_var rfl) ev_c (st_of (e13 _ _ hp)) rfl) (sq_of (e13 _ _ hpw))) ev_c (rv_eq rfl)) (by rw [vi_len]; exact congrArg V.bl (dec_int (a := ws.length) (b := 1)))))
        fun _ => et_test (ev_is (ev_inU (xs := [.int 3, .int 4]) (ev_var rfl) (eu_tup (ea_cons ev_c (ea_cons ev_c ea_nil)) (by show 2 ≤ 100000; decide)) rfl rfl) (by rw [fin]))) (fun hb H4 e4 => ?_) (fun hb H4 e4 => ?_)
      · exact s_asg ev_c fun H5 e5 => ⟨5, rfl, (e13.trans e4).trans e5, by decide, fun h => absurd h (by omega)⟩
      · refine ⟨cell % 10, rfl, e13.trans e4, f0, fun h he => ?_⟩
        have hl : ws.length = 1 := by
          rw [he] at ol
          exact ol.symm
        rw [decide_eq_true hl, Bool.true_and] at hb
        rcases h with h | h
        · rw [decide_eq_true h] at hb; cases hb
        · rw [decide_eq_true h, Bool.or_true] at hb; cases hb
    · rintro σ' H4 ⟨fault, rfl, e4, f0, fne⟩
      -- spoiled
      refine q_asgP (P := fun v H2 => ∃ t la lb le lw, v = .ref t ∧ H2 t = some (.tup [.ref la, .ref lb]) ∧ H2 la = some (.lst (le.map V.int)) ∧ H2 lb = some (.lst (lw.map V.int)) ∧ le.length ≤ 100 ∧ lw.length ≤ 100 ∧ (fault < 7 → ¬ Right le lw) ∧ (7 ≤ fault → le = castN es ∧ lw = castN ws))
        (ep_call0 (ea_cons (ev_var rfl) (ea_cons (ev_var rfl) (ea_cons (ev_op (ev_var rfl) ev_c (rv_I ⟨by decide, by decide⟩)) ea_nil))) (fun H5 e5 Q' q' E' => ⟨p, es, ws, fault, cell / 10, rfl, hP.mono (e4.trans e5), o, f0, by omega, fne, q'⟩)) fun v H5 e5 ⟨ts, la, lb, le, lw, ev, hts, hla, hlb, nle, nlw, kb, kg⟩ => ?_
      subst ev
      refine q_asgP (ep_lstLL (el_listS (ev_opIxT (ev_var rfl) ev_c (st_of hts) rfl) (sq_of hla)) (el_listS (ev_opIxT (ev_var rfl) ev_c (st_of hts) rfl) (sq_of hlb))) fun v H6 e6 ⟨t, q1, q2, ev, nt, n1, n2, n12, n1t, n2t, ht, hq1, hq2⟩ => ?_
      subst ev
      have E6 : Ex H1 H6 := (e4.trans e5).trans e6
      refine q_forR1 (n := 2) (ea_cons ev_c ea_nil) ⟨by decide, by decide⟩ (fun i σ' H' => ∃ (v6 v7 : Option V), σ' = [some (.ref sa), some (.ref p), some (.int cell), some (.int fault), some (.ref ts), some (.ref t), v6, v7, none, none, none] ∧ Ex H6 H' ∧ (7 ≤ fault → 1 ≤ i → ∃ x, v7 = some (.ref x) ∧ TreeAt C H' x es ws))
        (fun H7 e7 => ⟨none, none, rfl, e7, fun _ h => absurd h (by decide)⟩) ?_ ?_
      · rintro i σ' H' hi ⟨v6, v7, rfl, e, _⟩
        have neqT : ∀ {σ : L2.St} {H7 : Hp}, Ex H6 H7 → σ[5]? = some (some (.ref t)) → σ[4]? = some (some (.ref ts)) → EvT (tTest (tOp (rNeD K) (tVar 5) (tLst (tCons (tOp (rIxT K) (tVar 4) (tC (.int 0))) (tCons (tOp (rIxT K) (tVar 4) (tC (.int 1))) tNil))))) σ H7 false := fun {σ H7} e7 h5 h4 => by
          have e67 := e6.trans e7
          refine et_test (ev_is (ev_opL (ev_var h5) (el_lst (ea_cons (ev_opIxT (ev_var h4) ev_c (st_of (e67 _ _ hts)) rfl) (ea_cons (ev_opIxT (ev_var h4) ev_c (st_of (e67 _ _ hts)) rfl) ea_nil)) (by show 2 ≤ 100000; decide)) fun r H8 hr8 e8 =>
            rv_neD (d := dZ2 le lw) (e := dZ2 le lw) (fun H9 e9 => ?_) (fun H9 e9 => ?_) (shaped_dZ2 _ _) (shaped_dZ2 _ _)) (by rw [eqv_dZ2]; rfl))
          · have e79 := (e7.trans e8).trans e9
            exact .lst (sq_of (e79 _ _ ht)) (.cons (.lst (sq_of (e79 _ _ hq1)) (dpAll_z le)) (.cons (.lst (sq_of (e79 _ _ hq2)) (dpAll_z lw)) .nil))
          · have e79 := (e67.trans e8).trans e9
            exact .lst (sq_of (e9 _ _ hr8)) (.cons (.lst (sq_of (e79 _ _ hla)) (dpAll_z le)) (.cons (.lst (sq_of (e79 _ _ hlb)) (dpAll_z lw)) .nil))
        by_cases hf : fault < 7
        · have nR := kb hf
          refine q_asgP (P := fun v H2 => ∃ a, v = .ref a ∧ H2 a = some (ExV (.ref c.bad) a)) (ep_call0 (ea_cons (ev_opIx (ev_var rfl) ev_c (sq_of (e _ _ ht)) rfl) (ea_cons (ev_opIx (ev_var rfl) ev_c (sq_of (e _ _ ht)) rfl) ea_nil)) (fun H7 e7 Q' q' E' => ⟨q1, q2, le, lw, rfl, sq_of (e7 _ _ (e _ _ hq1)), sq_of (e7 _ _ (e _ _ hq2)), by omega, by omega, fun R => absurd R nR, fun _ => q'⟩)) fun v H7 e7 ⟨xa, ev, hxa⟩ => ?_
          subst ev
          refine q_when (b := false) (neqT (e.trans e7) rfl rfl) (fun h => no h) fun _ H8 e8 => ?_
          refine s_when (b := false) (et_is (et_and (a := decide (fault < 7)) (b := false) (et_test (ev_op (ev_var rfl) ev_c rv_I0)) fun _ => et_test (ev_is (ev_op (ev_call0 (ea_cons (ev_var rfl) ea_nil) (spv_alone (e8 _ _ hxa) a0)) ev_c (rv_ne rfl)) rfl)) (Bool.and_false _)) (fun h => no h) fun _ H9 e9 => ⟨_, _, rfl, ((e.trans e7).trans e8).trans e9, fun h => absurd h (by omega)⟩
        · have hf7 : 7 ≤ fault := by omega
          obtain ⟨rfl, rfl⟩ := kg hf7
          have R : Right (castN es) (castN ws) := right_of o
          refine q_asgP (P := fun v H2 => ∃ x, v = .ref x ∧ TreeAt C H2 x es ws) (ep_call0 (ea_cons (ev_opIx (ev_var rfl) ev_c (sq_of (e _ _ ht)) rfl) (ea_cons (ev_opIx (ev_var rfl) ev_c (sq_of (e _ _ ht)) rfl) ea_nil)) (fun H7 e7 Q' q' E' => ⟨q1, q2, castN es, castN ws, rfl, sq_of (e7 _ _ (e _ _ hq1)), sq_of (e7 _ _ (e _ _ hq2)), by omega, by omega,
            fun _ v H8 e8 ⟨x, dx, a, u, ev, h1, h2, h3⟩ => q' v H8 e8 ⟨x, ev, ⟨dx, a, u, h1, by rw [vi_ints]; exact h2, by rw [vi_ints]; exact h3⟩, o⟩, fun nR => absurd R nR⟩)) fun v H7 e7 ⟨x, ev, TA⟩ => ?_
          subst ev
          refine q_when (b := false) (neqT (e.trans e7) rfl rfl) (fun h => no h) fun _ H8 e8 => ?_
          refine s_when (b := false) (et_is (et_and (a := decide (fault < 7)) (b := false) (et_test (ev_op (ev_var rfl) ev_c rv_I0)) fun h => absurd (of_decide_eq_true h) hf) (Bool.and_false _)) (fun h => no h) fun _ H9 e9 => ⟨_, _, rfl, ((e.trans e7).trans e8).trans e9, fun _ _ => ⟨x, rfl, TA.mono (e8.trans e9)⟩⟩
      · rintro σ' H' ⟨v6, v7, rfl, e, hx⟩
        by_cases hf : fault < 7
        · exact q_when (b := true) (et_test (ev_is (ev_op (ev_var rfl) ev_c rv_I0) (by rw [decide_eq_true hf]))) (fun _ H7 e7 => s_ret ev_c fun H8 e8 => q H8) (fun h => no' h)
        · obtain ⟨x, rfl, TA⟩ := hx (by omega) (by decide)
          refine q_when (b := false) (et_test (ev_is (ev_op (ev_var rfl) ev_c rv_I0) (by rw [decide_eq_false hf]))) (fun h => no h) (fun _ H7 e7 => ?_)
          have E7 := (E6.trans e).trans e7
          refine q_asg (v := .int (ws.length : Int)) (ev_is (ev_lenS (ev_opIxT (ev_var rfl) ev_c (st_of (E7 _ _ hp)) rfl) (sq_of (E7 _ _ hpw))) (by rw [vi_len])) fun H8 e8 => ?_
          have TA8 := TA.mono (e7.trans e8)
          have x0 := Int.emod_nonneg cell (show (1000000 : Int) ≠ 0 by decide)
          have evm : ∀ {σ : L2.St} {H9 : Hp}, σ[2]? = some (some (.int cell)) → Ev (tOp (rI (fun _ j => 0 < j) fun i j => .int (i % j)) (tVar 2) (tOp (rI CPow fun i j => .int (i ^ j.toNat)) (tC (.int 10)) (tC (.int 6)))) σ H9 (.int (cell % 1000000)) := fun h => ev_op (ev_var h) (ev_op ev_c ev_c (rv_I ⟨by decide, by decide, by decide⟩)) (rv_I (by decide))
          refine q_forR1 (n := 3) (ea_cons ev_c ea_nil) ⟨by decide, by decide⟩ (fun i σ' H' => ∃ (v9 v10 : Option V), σ' = [some (.ref sa), some (.ref p), some (.int cell), some (.int fault), some (.ref ts), some (.ref t), v6, some (.ref x), some (.int (ws.length : Int)), v9, v10] ∧ Ex H8 H') (fun H9 e9 => ⟨_, _, rfl, e9⟩) ?_ ?_
          · rintro i σ' H9 hi ⟨v9, v10, rfl, e9⟩
            refine s_forNL (xs := [.int (-1), .int (-1 - cell % 1000000), .int (ws.length : Int), .int ((ws.length : Int) + cell % 1000000)]) (el_lst (ea_cons (ev_un ev_c ru_neg) (ea_cons (ev_op (ev_un ev_c ru_neg) (evm rfl) rv_I0) (ea_cons (ev_var rfl) (ea_cons (ev_op (ev_var rfl) (evm rfl) rv_I0) ea_nil)))) (by show 4 ≤ 100000; decide))
              (fun lp k σ' H' => ∃ v10, σ' = [some (.ref sa), some (.ref p), some (.int cell), some (.int fault), some (.ref ts), some (.ref t), v6, some (.ref x), some (.int (ws.length : Int)), some (.int (i : Int)), v10] ∧ Ex H9 H' ∧ H' lp = some (.lst [.int (-1), .int (-1 - cell % 1000000), .int (ws.length : Int), .int ((ws.length : Int) + cell % 1000000)]))
              (fun lp H10 nlp e10 h10 => ⟨_, rfl, e10, h10⟩) (fun lp k σ' H' _ ⟨_, _, _, h⟩ => sq_of h) ?_ ?_
            · rintro lp k y σ' H10 hk ⟨v10, rfl, e10, h10⟩
              have hbad : ∃ z : Int, y = .int z ∧ ¬ (0 ≤ z ∧ z < (ws.length : Int)) := by
                have hlt := (List.getElem?_eq_some_iff.mp hk).1
                have h4 : ([V.int (-1), .int (-1 - cell % 1000000), .int (ws.length : Int), .int ((ws.length : Int) + cell % 1000000)] : List V).length = 4 := rfl
                have : k = 0 ∨ k = 1 ∨ k = 2 ∨ k = 3 := by omega
                rcases this with rfl | rfl | rfl | rfl <;> (cases hk; exact ⟨_, rfl, by omega⟩)
              obtain ⟨z, rfl, hz⟩ := hbad
              exact s_when (b := false) (et_test (ev_is (ev_op (ev_call0 (ea_cons (ev_var rfl) (ea_cons (ev_var rfl) (ea_cons (ev_var rfl) ea_nil))) (spv_refused (TA8.mono (e9.trans e10)) (by omega) hz)) ev_c (rv_ne rfl)) rfl)) (fun h => no h) fun _ H11 e11 => ⟨_, rfl, e10.trans e11, e11 _ _ h10⟩
            · rintro lp σ' H10 ⟨v10, rfl, e10, _⟩
              exact ⟨_, _, rfl, e9.trans e10⟩
          · rintro σ' H9 ⟨v9, v10, rfl, e9⟩
            exact s_ret ev_c fun H10 e10 => q H10
/-- the whole chain, from what the top has left -/
theorem chain {c : Cs} (B : Bi mg) (T : TreeT K mg C) {t1 t2 : Tok} (c_MOST : mg "MOST" = some (.int 14 t1)) (c_WORTHS : mg "WORTHS" = some (.int 1000 t2)) (eB : Err K mg "BadTree" c.bad) (eN : Err K mg "NoThing" c.no)
    (G : Gs mg c) (xB : PySem.W.exmOne K (.ref c.bad) (.ref c.fire) = some true) (xN : PySem.W.exmOne K (.ref c.no) (.ref c.fire) = some true) (aB : Alone K c c.bad 0) (aN : Alone K c c.no 1)
    (d1 : AtI K C "Tree.__init__" s_Tree___init__ p_Tree___init__) (d2 : AtM K C "see_thing" "Tree.see_thing" s_Tree_see_thing p_Tree_see_thing) (d3 : AtM K C "depth" "Tree.depth" s_Tree_depth p_Tree_depth) (d4 : AtM K C "below" "Tree.below" s_Tree_below p_Tree_below) (d5 : AtM K C "worth_below" "Tree.worth_below" s_Tree_worth_below p_Tree_worth_below)
    (d7 : At K mg "_law_cell_at" s__law_cell_at p__law_cell_at) (d8 : At K mg "_law_draw" s__law_draw p__law_draw) (d10 : At K mg "_law_elders" s__law_elders p__law_elders) (d11 : At K mg "_law_tree" s__law_tree p__law_tree)
    (d12 : At K mg "_law_alone" s__law_alone p__law_alone) (d13 : At K mg "_law_spoiled" s__law_spoiled p__law_spoiled) (d14 : At K mg "_law_made" s__law_made p__law_made) (d15 : At K mg "_law_refused" s__law_refused p__law_refused) : ∀ f fd, Fun K "law" "law" s_law f fd → FnOk P w K mg base CX0 5 f fd p_law (spLaw K) := by
  have g7 := has_cell (P := P) (w := w) (base := base) B d7
  have g8 := has_draw d8 g7
  have g10 := has_elders B d10 g8
  have g11 := has_plot B d11 g8 g10
  have g2 := has_see (P := P) (w := w) (base := base) B T eN d2
  have g4 := has_below B T g2 d4
  have g12 := has_alone (P := P) (w := w) (base := base) B G d12
  have g14 := has_made T G xB (has_init (P := P) (w := w) (base := base) B T c_MOST c_WORTHS eB d1) d14
  exact ok_law B aB g11 g8 (has_spoiled B d13) g14 g12 (has_refused T G xN aN g12 (has_depth T g2 d3) g4 (has_worthB B T g4 d5) d15)
end
end Fi
namespace Fi
open PySem L2 Evl
theorem all_mk {l : PySem.W.OpenLaw} {w : World} {K : PySem.W.Frag} {h : Heap} {mg : Str → Option Value} {fa : Addr} (X : K.In h) (G : h.Ns mainGlobals mg) (hfa : mg "law" = some (.ref fa))
    {C : Addr}
    {tk0 : Tok}
    {tk1 : Tok}
    {E_BadTree : Addr}
    {E_NoThing : Addr}
    {E_FireError : Addr}
    {E_BadPlan : Addr}
    {E_NoText : Addr}
    {f0 : Addr} {od0 an0 : Option Addr} {sl0 : Array (Option Value)} {oc0 kV0 dc0 pm0 cd0 ct0 : Value}
    {f4 : Addr} {od4 an4 : Option Addr} {sl4 : Array (Option Value)} {oc4 kV4 dc4 pm4 cd4 ct4 : Value}
    {f5 : Addr} {od5 an5 : Option Addr} {sl5 : Array (Option Value)} {oc5 kV5 dc5 pm5 cd5 ct5 : Value}
    {f6 : Addr} {od6 an6 : Option Addr} {sl6 : Array (Option Value)} {oc6 kV6 dc6 pm6 cd6 ct6 : Value}
    {f7 : Addr} {od7 an7 : Option Addr} {sl7 : Array (Option Value)} {oc7 kV7 dc7 pm7 cd7 ct7 : Value}
    {f8 : Addr} {od8 an8 : Option Addr} {sl8 : Array (Option Value)} {oc8 kV8 dc8 pm8 cd8 ct8 : Value}
    {f9 : Addr} {od9 an9 : Option Addr} {sl9 : Array (Option Value)} {oc9 kV9 dc9 pm9 cd9 ct9 : Value}
    {f10 : Addr} {od10 an10 : Option Addr} {sl10 : Array (Option Value)} {oc10 kV10 dc10 pm10 cd10 ct10 : Value}
    {f11 : Addr} {od11 an11 : Option Addr} {sl11 : Array (Option Value)} {oc11 kV11 dc11 pm11 cd11 ct11 : Value}
    {f12 : Addr} {od12 an12 : Option Addr} {sl12 : Array (Option Value)} {oc12 kV12 dc12 pm12 cd12 ct12 : Value}
    {f13 : Addr} {od13 an13 : Option Addr} {sl13 : Array (Option Value)} {oc13 kV13 dc13 pm13 cd13 ct13 : Value}
    {f14 : Addr} {od14 an14 : Option Addr} {sl14 : Array (Option Value)} {oc14 kV14 dc14 pm14 cd14 ct14 : Value}
    {f15 : Addr} {od15 an15 : Option Addr} {sl15 : Array (Option Value)} {oc15 kV15 dc15 pm15 cd15 ct15 : Value}
    {f16 : Addr} {od16 an16 : Option Addr} {sl16 : Array (Option Value)} {oc16 kV16 dc16 pm16 cd16 ct16 : Value}
    (z1 : PySem.W.nsIn K mainGlobals "len" = some none)
    (z2 : PySem.W.nsIn K mainGlobals "range" = some none)
    (z3 : PySem.W.nsIn K mainGlobals "list" = some none)
    (z4 : PySem.W.nsIn K mainGlobals "sum" = some none)
    (z5 : PySem.W.nsIn K mainGlobals "max" = some none)
    (z6 : PySem.W.nsIn K mainGlobals "min" = some none)
    (z7 : PySem.W.nsIn K mainGlobals "isinstance" = some none)
    (z8 : PySem.W.nsIn K mainGlobals "int" = some none)
    (z9 : PySem.W.nsIn K mainGlobals "bool" = some none)
    (z10 : PySem.W.nsIn K mainGlobals "str" = some none)
    (z11 : PySem.W.nsIn K mainGlobals "tuple" = some none)
    (z12 : PySem.W.nsIn K mainGlobals "enumerate" = some none)
    (z13 : PySem.W.nsIn K mainGlobals "ValueError" = some none)
    (aC : PySem.W.nsIn K mainGlobals "Tree" = some (some (.ref C)))
    (pg : PySem.W.plainGet K C Str.empty = true)
    (hd : PySem.W.hasDictIn K C = true)
    (po : PySem.W.plainOver K C = true)
    (sa : PySem.W.findIn K (.ref C) "__setattr__" = some (some (.builtin "object.__setattr__")))
    (mk : PySem.W.makesIn K C = true)
    (kc : PySem.W.keepIn K (.ref C) = true)
    (nA : PySem.W.findIn K (.ref C) "above" = some none)
    (nW : PySem.W.findIn K (.ref C) "worth" = some none)
    (k_MOST : PySem.W.nsIn K mainGlobals "MOST" = some (some (.int 14 tk0)))
    (k_WORTHS : PySem.W.nsIn K mainGlobals "WORTHS" = some (some (.int 1000 tk1)))
    (ea_BadTree : PySem.W.nsIn K mainGlobals "BadTree" = some (some (.ref E_BadTree)))
    (eq_BadTree : PySem.W.excIn K E_BadTree [.type "ValueError", .type "Exception", .type "BaseException", .type "object"] "ValueError.__new__" = true)
    (ek_BadTree : PySem.W.keepIn K (.ref E_BadTree) = true)
    (eb_BadTree : PySem.W.subIn K (.ref E_BadTree) (.type "BaseException") = some true)
    (et_BadTree : PySem.W.typeIn K (.ref E_BadTree) = some (.type "type"))
    (ea_NoThing : PySem.W.nsIn K mainGlobals "NoThing" = some (some (.ref E_NoThing)))
    (eq_NoThing : PySem.W.excIn K E_NoThing [.type "ValueError", .type "Exception", .type "BaseException", .type "object"] "ValueError.__new__" = true)
    (ek_NoThing : PySem.W.keepIn K (.ref E_NoThing) = true)
    (eb_NoThing : PySem.W.subIn K (.ref E_NoThing) (.type "BaseException") = some true)
    (et_NoThing : PySem.W.typeIn K (.ref E_NoThing) = some (.type "type"))
    (ea_FireError : PySem.W.nsIn K mainGlobals "FireError" = some (some (.ref E_FireError)))
    (et_FireError : PySem.W.typeIn K (.ref E_FireError) = some (.type "type"))
    (eb_FireError : PySem.W.subIn K (.ref E_FireError) (.type "BaseException") = some true)
    (ei_FireError : PySem.W.isClsIn K E_FireError = true)
    (ei_BadTree : PySem.W.isClsIn K E_BadTree = true)
    (ei_NoThing : PySem.W.isClsIn K E_NoThing = true)
    (ea_BadPlan : PySem.W.nsIn K mainGlobals "BadPlan" = some (some (.ref E_BadPlan)))
    (et_BadPlan : PySem.W.typeIn K (.ref E_BadPlan) = some (.type "type"))
    (eb_BadPlan : PySem.W.subIn K (.ref E_BadPlan) (.type "BaseException") = some true)
    (ei_BadPlan : PySem.W.isClsIn K E_BadPlan = true)
    (ea_NoText : PySem.W.nsIn K mainGlobals "NoText" = some (some (.ref E_NoText)))
    (et_NoText : PySem.W.typeIn K (.ref E_NoText) = some (.type "type"))
    (eb_NoText : PySem.W.subIn K (.ref E_NoText) (.type "BaseException") = some true)
    (ei_NoText : PySem.W.isClsIn K E_NoText = true)
    (fd_Fire : PySem.W.hasDictIn K E_FireError = true)
    (xn : PySem.W.specialIn K (.builtin "object.__class__") "__get__" = some (some (.builtin "getset_descriptor.__get__")))
    (xt : PySem.W.takesIn K (.builtin "object.__class__") = some true)
    (xg_BadTree : PySem.W.findIn K (.ref E_BadTree) "__getattribute__" = some (some (.builtin "BaseException.__getattribute__")))
    (xk_BadTree : PySem.W.findIn K (.ref E_BadTree) "__getattr__" = some none)
    (xd_BadTree : PySem.W.hasDictIn K E_BadTree = true)
    (xa_BadTree : PySem.W.findIn K (.ref E_BadTree) "__class__" = some (some (.builtin "object.__class__")))
    (xm_BadTree : PySem.W.mroIn K E_BadTree (.type "object") = some true)
    (sb_BadTree_FireError : PySem.W.subIn K (.ref E_BadTree) (.ref E_FireError) = some true)
    (sb_BadTree_BadTree : PySem.W.subIn K (.ref E_BadTree) (.ref E_BadTree) = some true)
    (sb_BadTree_NoThing : PySem.W.subIn K (.ref E_BadTree) (.ref E_NoThing) = some false)
    (sb_BadTree_BadPlan : PySem.W.subIn K (.ref E_BadTree) (.ref E_BadPlan) = some false)
    (sb_BadTree_NoText : PySem.W.subIn K (.ref E_BadTree) (.ref E_NoText) = some false)
    (sv_BadTree : PySem.W.subIn K (.ref E_BadTree) (.type "ValueError") = some true)
    (xg_NoThing : PySem.W.findIn K (.ref E_NoThing) "__getattribute__" = some (some (.builtin "BaseException.__getattribute__")))
    (xk_NoThing : PySem.W.findIn K (.ref E_NoThing) "__getattr__" = some none)
    (xd_NoThing : PySem.W.hasDictIn K E_NoThing = true)
    (xa_NoThing : PySem.W.findIn K (.ref E_NoThing) "__class__" = some (some (.builtin "object.__class__")))
    (xm_NoThing : PySem.W.mroIn K E_NoThing (.type "object") = some true)
    (sb_NoThing_FireError : PySem.W.subIn K (.ref E_NoThing) (.ref E_FireError) = some true)
    (sb_NoThing_BadTree : PySem.W.subIn K (.ref E_NoThing) (.ref E_BadTree) = some false)
    (sb_NoThing_NoThing : PySem.W.subIn K (.ref E_NoThing) (.ref E_NoThing) = some true)
    (sb_NoThing_BadPlan : PySem.W.subIn K (.ref E_NoThing) (.ref E_BadPlan) = some false)
    (sb_NoThing_NoText : PySem.W.subIn K (.ref E_NoThing) (.ref E_NoText) = some false)
    (sv_NoThing : PySem.W.subIn K (.ref E_NoThing) (.type "ValueError") = some true)
    (a0 : PySem.W.findIn K (.ref C) "__init__" = some (some (.ref f0)))
    (i0 : PySem.W.isFn K (.ref f0) = true)
    (l0 : K.lookup f0 = some ⟨oc0, od0, .func (PySem.W.fnOf "__init__" "Tree.__init__" (defArgs s_Tree___init__) (defBody s_Tree___init__) (defScope s_Tree___init__) .none kV0 dc0 pm0 an0 cd0 ct0), sl0⟩)
    (c0 : PySem.W.codeIn K cd0 "Tree.__init__" = true)
    (k0 : PySem.W.keepIn K (.ref f0) = true)
    (a4 : PySem.W.findIn K (.ref C) "see_thing" = some (some (.ref f4)))
    (i4 : PySem.W.isFn K (.ref f4) = true)
    (l4 : K.lookup f4 = some ⟨oc4, od4, .func (PySem.W.fnOf "see_thing" "Tree.see_thing" (defArgs s_Tree_see_thing) (defBody s_Tree_see_thing) (defScope s_Tree_see_thing) .none kV4 dc4 pm4 an4 cd4 ct4), sl4⟩)
    (c4 : PySem.W.codeIn K cd4 "Tree.see_thing" = true)
    (k4 : PySem.W.keepIn K (.ref f4) = true)
    (a5 : PySem.W.findIn K (.ref C) "depth" = some (some (.ref f5)))
    (i5 : PySem.W.isFn K (.ref f5) = true)
    (l5 : K.lookup f5 = some ⟨oc5, od5, .func (PySem.W.fnOf "depth" "Tree.depth" (defArgs s_Tree_depth) (defBody s_Tree_depth) (defScope s_Tree_depth) .none kV5 dc5 pm5 an5 cd5 ct5), sl5⟩)
    (c5 : PySem.W.codeIn K cd5 "Tree.depth" = true)
    (k5 : PySem.W.keepIn K (.ref f5) = true)
    (a6 : PySem.W.findIn K (.ref C) "below" = some (some (.ref f6)))
    (i6 : PySem.W.isFn K (.ref f6) = true)
    (l6 : K.lookup f6 = some ⟨oc6, od6, .func (PySem.W.fnOf "below" "Tree.below" (defArgs s_Tree_below) (defBody s_Tree_below) (defScope s_Tree_below) .none kV6 dc6 pm6 an6 cd6 ct6), sl6⟩)
    (c6 : PySem.W.codeIn K cd6 "Tree.below" = true)
    (k6 : PySem.W.keepIn K (.ref f6) = true)
    (a7 : PySem.W.findIn K (.ref C) "worth_below" = some (some (.ref f7)))
    (i7 : PySem.W.isFn K (.ref f7) = true)
    (l7 : K.lookup f7 = some ⟨oc7, od7, .func (PySem.W.fnOf "worth_below" "Tree.worth_below" (defArgs s_Tree_worth_below) (defBody s_Tree_worth_below) (defScope s_Tree_worth_below) .none kV7 dc7 pm7 an7 cd7 ct7), sl7⟩)
    (c7 : PySem.W.codeIn K cd7 "Tree.worth_below" = true)
    (k7 : PySem.W.keepIn K (.ref f7) = true)
    (a8 : PySem.W.nsIn K mainGlobals "_law_cell_at" = some (some (.ref f8)))
    (l8 : K.lookup f8 = some ⟨oc8, od8, .func (PySem.W.fnOf "_law_cell_at" "_law_cell_at" (defArgs s__law_cell_at) (defBody s__law_cell_at) (defScope s__law_cell_at) .none kV8 dc8 pm8 an8 cd8 ct8), sl8⟩)
    (c8 : PySem.W.codeIn K cd8 "_law_cell_at" = true)
    (k8 : PySem.W.keepIn K (.ref f8) = true)
    (a9 : PySem.W.nsIn K mainGlobals "_law_draw" = some (some (.ref f9)))
    (l9 : K.lookup f9 = some ⟨oc9, od9, .func (PySem.W.fnOf "_law_draw" "_law_draw" (defArgs s__law_draw) (defBody s__law_draw) (defScope s__law_draw) .none kV9 dc9 pm9 an9 cd9 ct9), sl9⟩)
    (c9 : PySem.W.codeIn K cd9 "_law_draw" = true)
    (k9 : PySem.W.keepIn K (.ref f9) = true)
    (a10 : PySem.W.nsIn K mainGlobals "_law_elders" = some (some (.ref f10)))
    (l10 : K.lookup f10 = some ⟨oc10, od10, .func (PySem.W.fnOf "_law_elders" "_law_elders" (defArgs s__law_elders) (defBody s__law_elders) (defScope s__law_elders) .none kV10 dc10 pm10 an10 cd10 ct10), sl10⟩)
    (c10 : PySem.W.codeIn K cd10 "_law_elders" = true)
    (k10 : PySem.W.keepIn K (.ref f10) = true)
    (a11 : PySem.W.nsIn K mainGlobals "_law_tree" = some (some (.ref f11)))
    (l11 : K.lookup f11 = some ⟨oc11, od11, .func (PySem.W.fnOf "_law_tree" "_law_tree" (defArgs s__law_tree) (defBody s__law_tree) (defScope s__law_tree) .none kV11 dc11 pm11 an11 cd11 ct11), sl11⟩)
    (c11 : PySem.W.codeIn K cd11 "_law_tree" = true)
    (k11 : PySem.W.keepIn K (.ref f11) = true)
    (a12 : PySem.W.nsIn K mainGlobals "_law_alone" = some (some (.ref f12)))
    (l12 : K.lookup f12 = some ⟨oc12, od12, .func (PySem.W.fnOf "_law_alone" "_law_alone" (defArgs s__law_alone) (defBody s__law_alone) (defScope s__law_alone) .none kV12 dc12 pm12 an12 cd12 ct12), sl12⟩)
    (c12 : PySem.W.codeIn K cd12 "_law_alone" = true)
    (k12 : PySem.W.keepIn K (.ref f12) = true)
    (a13 : PySem.W.nsIn K mainGlobals "_law_spoiled" = some (some (.ref f13)))
    (l13 : K.lookup f13 = some ⟨oc13, od13, .func (PySem.W.fnOf "_law_spoiled" "_law_spoiled" (defArgs s__law_spoiled) (defBody s__law_spoiled) (defScope s__law_spoiled) .none kV13 dc13 pm13 an13 cd13 ct13), sl13⟩)
    (c13 : PySem.W.codeIn K cd13 "_law_spoiled" = true)
    (k13 : PySem.W.keepIn K (.ref f13) = true)
    (a14 : PySem.W.nsIn K mainGlobals "_law_made" = some (some (.ref f14)))
    (l14 : K.lookup f14 = some ⟨oc14, od14, .func (PySem.W.fnOf "_law_made" "_law_made" (defArgs s__law_made) (defBody s__law_made) (defScope s__law_made) .none kV14 dc14 pm14 an14 cd14 ct14), sl14⟩)
    (c14 : PySem.W.codeIn K cd14 "_law_made" = true)
    (k14 : PySem.W.keepIn K (.ref f14) = true)
    (a15 : PySem.W.nsIn K mainGlobals "_law_refused" = some (some (.ref f15)))
    (l15 : K.lookup f15 = some ⟨oc15, od15, .func (PySem.W.fnOf "_law_refused" "_law_refused" (defArgs s__law_refused) (defBody s__law_refused) (defScope s__law_refused) .none kV15 dc15 pm15 an15 cd15 ct15), sl15⟩)
    (c15 : PySem.W.codeIn K cd15 "_law_refused" = true)
    (k15 : PySem.W.keepIn K (.ref f15) = true)
    (a16 : PySem.W.nsIn K mainGlobals "law" = some (some (.ref f16)))
    (l16 : K.lookup f16 = some ⟨oc16, od16, .func (PySem.W.fnOf "law" "law" (defArgs s_law) (defBody s_law) (defScope s_law) .none kV16 dc16 pm16 an16 cd16 ct16), sl16⟩)
    (c16 : PySem.W.codeIn K cd16 "law" = true)
    (k16 : PySem.W.keepIn K (.ref f16) = true)
    : ∃ fd : FuncData, (∀ (s : Shared) (v : Value), BindsTo s fd ⟨[v], []⟩ [("script", v)]) ∧ ∀ base : Heap, K.In base → base.Ns mainGlobals mg → FnOk l.prog w K mg base CX0 5 fa fd ["script"] (spLaw K) := by
  have e := hfa.symm.trans (PySem.W.mg_of X G a16)
  cases e
  exact ⟨PySem.W.fnOf "law" "law" (defArgs s_law) (defBody s_law) (defScope s_law) .none kV16 dc16 pm16 an16 cd16 ct16, fun s v => .of_eq rfl, fun base _ _ => chain (bi_mk X G z1 z2 z3 z4 z5 z6 z7 z8 z9 z10 z11 z12 z13) ⟨⟨pg, hd, po, sa⟩, nA, nW, PySem.W.mg_of X G aC⟩ (PySem.W.mg_of X G k_MOST) (PySem.W.mg_of X G k_WORTHS) (err_mk X G ea_BadTree eq_BadTree ek_BadTree eb_BadTree et_BadTree) (err_mk X G ea_NoThing eq_NoThing ek_NoThing eb_NoThing et_NoThing) (c := ⟨E_FireError, E_BadTree, E_NoThing, E_BadPlan, E_NoText⟩) ⟨PySem.W.mg_of X G ea_FireError, PySem.W.mg_of X G ea_BadTree, PySem.W.mg_of X G ea_NoThing, PySem.W.mg_of X G ea_BadPlan, PySem.W.mg_of X G ea_NoText⟩ (PySem.W.exm_ref eb_FireError fd_Fire et_FireError sb_BadTree_FireError) (PySem.W.exm_ref eb_FireError fd_Fire et_FireError sb_NoThing_FireError) ⟨by decide, ⟨xg_BadTree, xk_BadTree, eb_BadTree, xd_BadTree, xa_BadTree, xn, xt, xm_BadTree⟩, kit_ref ei_BadTree et_BadTree sb_BadTree_BadTree sb_BadTree_BadTree, kit_ref ei_NoThing et_NoThing sb_BadTree_NoThing sb_BadTree_BadTree, kit_ref ei_BadPlan et_BadPlan sb_BadTree_BadPlan sb_BadTree_BadTree, kit_ref ei_NoText et_NoText sb_BadTree_NoText sb_BadTree_BadTree, kit_ref ei_FireError et_FireError sb_BadTree_FireError sb_BadTree_BadTree, kit_ve sv_BadTree⟩ ⟨by decide, ⟨xg_NoThing, xk_NoThing, eb_NoThing, xd_NoThing, xa_NoThing, xn, xt, xm_NoThing⟩, kit_ref ei_BadTree et_BadTree sb_NoThing_BadTree sb_NoThing_NoThing, kit_ref ei_NoThing et_NoThing sb_NoThing_NoThing sb_NoThing_NoThing, kit_ref ei_BadPlan et_BadPlan sb_NoThing_BadPlan sb_NoThing_NoThing, kit_ref ei_NoText et_NoText sb_NoThing_NoText sb_NoThing_NoThing, kit_ref ei_FireError et_FireError sb_NoThing_FireError sb_NoThing_NoThing, kit_ve sv_NoThing⟩ (ati_mk a0 i0 l0 c0 k0 mk kc bd_Tree___init__) (atm_mk a4 i4 l4 c4 k4 bd_Tree_see_thing) (atm_mk a5 i5 l5 c5 k5 bd_Tree_depth) (atm_mk a6 i6 l6 c6 k6 bd_Tree_below) (atm_mk a7 i7 l7 c7 k7 bd_Tree_worth_below) (at_mk X G a8 l8 c8 k8 bd__law_cell_at) (at_mk X G a9 l9 c9 k9 bd__law_draw) (at_mk X G a10 l10 c10 k10 bd__law_elders) (at_mk X G a11 l11 c11 k11 bd__law_tree) (at_mk X G a12 l12 c12 k12 bd__law_alone) (at_mk X G a13 l13 c13 k13 bd__law_spoiled) (at_mk X G a14 l14 c14 k14 bd__law_made) (at_mk X G a15 l15 c15 k15 bd__law_refused) _ _ (fun_mk l16 c16 k16)⟩
theorem walk {l : PySem.W.OpenLaw} {q : Program} {loose : List Str} {XP : (Str → Option Value) → Heap → Prop} {YP : World → Heap → Prop} {d : DefRec} {K : Params → PySem.W.Frag} (hn : l.most = some 63) (hdf : d.params.defaults = [])
    (hY : ∀ (w : World) (h : Heap), YP w h → (K w.params).In h)
    (F : ∀ (w : World) (mg : Str → Option Value) (fa : Addr) (h : Heap), (K w.params).In h → h.Ns mainGlobals mg → mg d.name = some (.ref fa) →
      ∃ fd : FuncData, (∀ (s : Shared) (u : Value), BindsTo s fd ⟨[u], []⟩ [("script", u)]) ∧ ∀ base : Heap, (K w.params).In base → base.Ns mainGlobals mg → FnOk l.prog w (K w.params) mg base CX0 5 fa fd ["script"] (spLaw (K w.params))) :
    PySem.W.WalkO q loose XP YP l.row.toRowW d [] (fun f vs => PySem.call f vs) :=
  L2.walk_of (n := 63) (k := 5) (x := "script") (CX := fun _ => CX0) (sp := fun w => spLaw (K w.params)) hn (by decide) hdf ⟨rfl, by decide, by decide⟩ hY F (fun _ _ a ns hl _ hS => ⟨a, ns, rfl, hS, hl, fun _ => rfl⟩) fun _ _ _ _ _ z => z
end Fi
open PySem PySem.W PyProof.Rows
set_option maxRecDepth 100000 in
set_option maxHeartbeats 0 in
theorem PySem.Challenge.cw_firetree_k02_trees_refused_holds : PySem.Challenge.rw_firetree_k02_trees_refused.Holds := by
  w_on; o_law; k_head; (case hw => w_witness2)
  k_fill
  refine Fi.walk (l := PySem.Challenge.rw_firetree_k02_trees_refused) rfl rfl (fun w h Y => PySem.W.kIn_of Y) ?F
  case F =>
    intro w mg fa h KX G hmg
    refine' Fi.all_mk KX G hmg ?z1 ?z2 ?z3 ?z4 ?z5 ?z6 ?z7 ?z8 ?z9 ?z10 ?z11 ?z12 ?z13 ?aC ?pg ?hd ?po ?sa ?mk ?kc ?nA ?nW ?k_MOST ?k_WORTHS ?ea_BadTree ?eq_BadTree ?ek_BadTree ?eb_BadTree ?et_BadTree ?ea_NoThing ?eq_NoThing ?ek_NoThing ?eb_NoThing ?et_NoThing ?ea_FireError ?et_FireError ?eb_FireError ?ei_FireError ?ei_BadTree ?ei_NoThing ?ea_BadPlan ?et_BadPlan ?eb_BadPlan ?ei_BadPlan ?ea_NoText ?et_NoText ?eb_NoText ?ei_NoText ?fd_Fire ?xn ?xt ?xg_BadTree ?xk_BadTree ?xd_BadTree ?xa_BadTree ?xm_BadTree ?sb_BadTree_FireError ?sb_BadTree_BadTree ?sb_BadTree_NoThing ?sb_BadTree_BadPlan ?sb_BadTree_NoText ?sv_BadTree ?xg_NoThing ?xk_NoThing ?xd_NoThing ?xa_NoThing ?xm_NoThing ?sb_NoThing_FireError ?sb_NoThing_BadTree ?sb_NoThing_NoThing ?sb_NoThing_BadPlan ?sb_NoThing_NoText ?sv_NoThing ?a0 ?i0 ?l0 ?c0 ?k0 ?a4 ?i4 ?l4 ?c4 ?k4 ?a5 ?i5 ?l5 ?c5 ?k5 ?a6 ?i6 ?l6 ?c6 ?k6 ?a7 ?i7 ?l7 ?c7 ?k7 ?a8 ?l8 ?c8 ?k8 ?a9 ?l9 ?c9 ?k9 ?a10 ?l10 ?c10 ?k10 ?a11 ?l11 ?c11 ?k11 ?a12 ?l12 ?c12 ?k12 ?a13 ?l13 ?c13 ?k13 ?a14 ?l14 ?c14 ?k14 ?a15 ?l15 ?c15 ?k15 ?a16 ?l16 ?c16 ?k16
    (case z1 => k_is)
    (case z2 => k_is)
    (case z3 => k_is)
    (case z4 => k_is)
    (case z5 => k_is)
    (case z6 => k_is)
    (case z7 => k_is)
    (case z8 => k_is)
    (case z9 => k_is)
    (case z10 => k_is)
    (case z11 => k_is)
    (case z12 => k_is)
    (case z13 => k_is)
    (case aC => k_is)
    (case pg => k_is)
    (case hd => k_is)
    (case po => k_is)
    (case sa => k_is)
    (case mk => k_is)
    (case kc => k_is)
    (case nA => k_is)
    (case nW => k_is)
    (case k_MOST => k_is)
    (case k_WORTHS => k_is)
    (case ea_BadTree => k_is)
    (case eq_BadTree => k_exc)
    (case ek_BadTree => k_is)
    (case eb_BadTree => k_is)
    (case et_BadTree => k_is)
    (case ea_NoThing => k_is)
    (case eq_NoThing => k_exc)
    (case ek_NoThing => k_is)
    (case eb_NoThing => k_is)
    (case et_NoThing => k_is)
    (case ea_FireError => k_is)
    (case et_FireError => k_is)
    (case eb_FireError => k_is)
    (case ei_FireError => k_is)
    (case ei_BadTree => k_is)
    (case ei_NoThing => k_is)
    (case ea_BadPlan => k_is)
    (case et_BadPlan => k_is)
    (case eb_BadPlan => k_is)
    (case ei_BadPlan => k_is)
    (case ea_NoText => k_is)
    (case et_NoText => k_is)
    (case eb_NoText => k_is)
    (case ei_NoText => k_is)
    (case fd_Fire => k_is)
    (case xn => k_is)
    (case xt => k_is)
    (case xg_BadTree => k_is)
    (case xk_BadTree => k_is)
    (case xd_BadTree => k_is)
    (case xa_BadTree => k_is)
    (case xm_BadTree => k_is)
    (case sb_BadTree_FireError => k_is)
    (case sb_BadTree_BadTree => k_is)
    (case sb_BadTree_NoThing => k_is)
    (case sb_BadTree_BadPlan => k_is)
    (case sb_BadTree_NoText => k_is)
    (case sv_BadTree => k_is)
    (case xg_NoThing => k_is)
    (case xk_NoThing => k_is)
    (case xd_NoThing => k_is)
    (case xa_NoThing => k_is)
    (case xm_NoThing => k_is)
    (case sb_NoThing_FireError => k_is)
    (case sb_NoThing_BadTree => k_is)
    (case sb_NoThing_NoThing => k_is)
    (case sb_NoThing_BadPlan => k_is)
    (case sb_NoThing_NoText => k_is)
    (case sv_NoThing => k_is)
    (case a0 => k_is)
    (case i0 => k_is)
    (case l0 => k_is)
    (case c0 => k_is)
    (case k0 => k_is)
    (case a4 => k_is)
    (case i4 => k_is)
    (case l4 => k_is)
    (case c4 => k_is)
    (case k4 => k_is)
    (case a5 => k_is)
    (case i5 => k_is)
    (case l5 => k_is)
    (case c5 => k_is)
    (case k5 => k_is)
    (case a6 => k_is)
    (case i6 => k_is)
    (case l6 => k_is)
    (case c6 => k_is)
    (case k6 => k_is)
    (case a7 => k_is)
    (case i7 => k_is)
    (case l7 => k_is)
    (case c7 => k_is)
    (case k7 => k_is)
    (case a8 => k_is)
    (case l8 => k_is)
    (case c8 => k_is)
    (case k8 => k_is)
    (case a9 => k_is)
    (case l9 => k_is)
    (case c9 => k_is)
    (case k9 => k_is)
    (case a10 => k_is)
    (case l10 => k_is)
    (case c10 => k_is)
    (case k10 => k_is)
    (case a11 => k_is)
    (case l11 => k_is)
    (case c11 => k_is)
    (case k11 => k_is)
    (case a12 => k_is)
    (case l12 => k_is)
    (case c12 => k_is)
    (case k12 => k_is)
    (case a13 => k_is)
    (case l13 => k_is)
    (case c13 => k_is)
    (case k13 => k_is)
    (case a14 => k_is)
    (case l14 => k_is)
    (case c14 => k_is)
    (case k14 => k_is)
    (case a15 => k_is)
    (case l15 => k_is)
    (case c15 => k_is)
    (case k15 => k_is)
    (case a16 => k_is)
    (case l16 => k_is)
    (case c16 => k_is)
    (case k16 => k_is)
#print axioms PySem.Challenge.cw_firetree_k02_trees_refused_holds
