import PyProof.Rows.All
import Wide.All
import OpenK.AllK
import Wide.FinOn
import HandS.ForMost
import HandS.ForExc
import HandS.IsInst
import HandS.Evl
import HandS.ExcIs
import KE.DataFind
import HandS.SortKw
import KE.DatumOrd
import PySem.Challenge.RW_firetree_k06_whole_greedy_and_ceiling
set_option Elab.async false
set_option linter.all false
set_option maxRecDepth 100000
set_option maxHeartbeats 4000000
/-! The mathematics: trees as lists of elders and worths. No program here. -/
namespace Fm
def draw (ns : List Int) (k : Int) : Int := (ns.getD (k % 61).toNat 0 + 7919 * k) * (48271 + 2 * k) % 2147483647
theorem draw_lo (ns : List Int) (k : Int) : 0 ≤ draw ns k := Int.emod_nonneg _ (by decide)
theorem draw_hi (ns : List Int) (k : Int) : draw ns k < 2147483647 := Int.emod_lt_of_pos _ (by decide)
/-- an elder by the four ways -/
def elderAt (way k cell : Int) : Int :=
  if way = 0 then cell % (k + 1) else if way = 1 then k - cell % (k + 1) / 2 else if way = 2 then cell % (if 3 < k + 1 then 3 else k + 1) else (k + cell % 2) / 2
theorem elderAt_lo {way k cell : Int} (hk : 0 ≤ k) : 0 ≤ elderAt way k cell := by
  have h1 := Int.emod_nonneg cell (show k + 1 ≠ 0 by omega)
  have h2 := Int.emod_lt_of_pos cell (show 0 < k + 1 by omega)
  unfold elderAt
  split
  · exact h1
  · split
    · omega
    · split
      · split
        · omega
        · exact Int.emod_nonneg cell (show k + 1 ≠ 0 by omega)
      · omega
theorem elderAt_hi {way k cell : Int} (hk : 0 ≤ k) : elderAt way k cell ≤ k := by
  have h1 := Int.emod_nonneg cell (show k + 1 ≠ 0 by omega)
  have h2 := Int.emod_lt_of_pos cell (show 0 < k + 1 by omega)
  unfold elderAt
  split
  · omega
  · split
    · omega
    · split
      · split
        · omega
        · omega
      · omega
/-- the elders of m + 1 things, drawn -/
def elders (ns : List Int) (m : Nat) : List Nat := (List.range m).map fun (k : Nat) => (elderAt (draw ns 2 % 4) (k : Int) (draw ns (10 + (k : Int)))).toNat
def topOf (ns : List Int) : Int := if draw ns 3 % 3 = 0 then 10 else if draw ns 3 % 3 = 1 then 2 else 1001
def worths (ns : List Int) (n : Nat) : List Nat := (List.range n).map fun (k : Nat) => (draw ns (30 + (k : Int)) % topOf ns).toNat
def count (ns : List Int) (most : Int) : Nat := (1 + draw ns 1 % most).toNat
theorem count_lo (ns : List Int) {most : Int} (h : 1 ≤ most) : 1 ≤ count ns most := by
  have := Int.emod_nonneg (draw ns 1) (show most ≠ 0 by omega)
  unfold count
  omega
theorem count_hi (ns : List Int) {most : Int} (h : 1 ≤ most) : (count ns most : Int) ≤ most := by
  have := Int.emod_nonneg (draw ns 1) (show most ≠ 0 by omega)
  have := Int.emod_lt_of_pos (draw ns 1) (show 0 < most by omega)
  unfold count
  omega
theorem count_eq (ns : List Int) {most : Int} (h : 1 ≤ most) : 1 + draw ns 1 % most = (count ns most : Int) := by
  have := Int.emod_nonneg (draw ns 1) (show most ≠ 0 by omega)
  unfold count
  omega
theorem elders_len (ns : List Int) (m : Nat) : (elders ns m).length = m := by simp [elders]
theorem worths_len (ns : List Int) (m : Nat) : (worths ns m).length = m := by simp [worths]
theorem elders_succ (ns : List Int) (m : Nat) : elders ns (m + 1) = elders ns m ++ [(elderAt (draw ns 2 % 4) (m : Int) (draw ns (10 + (m : Int)))).toNat] := by
  unfold elders
  rw [List.range_succ, List.map_append]
  rfl
theorem topOf_pos (ns : List Int) : 0 < topOf ns := by
  unfold topOf
  split
  · decide
  · split <;> decide
theorem topOf_le (ns : List Int) : topOf ns ≤ 1001 := by
  unfold topOf
  split
  · decide
  · split <;> decide
structure OkT (es ws : List Nat) : Prop where
  len : es.length + 1 = ws.length
  most : ws.length ≤ 14
  up : ∀ (k v : Nat), es[k]? = some v → v ≤ k
  wt : ∀ v ∈ ws, v ≤ 1000
theorem ok_drawn (ns : List Int) {n : Nat} (h : 1 ≤ n) (h2 : n ≤ 14) : OkT (elders ns (n - 1)) (worths ns n) where
  len := by rw [elders_len, worths_len]; omega
  most := by rw [worths_len]; exact h2
  up := fun k v e => by
    unfold elders at e
    rw [List.getElem?_map] at e
    cases q : (List.range (n - 1))[k]? with
    | none => rw [q] at e; cases e
    | some j =>
      rw [q] at e
      obtain ⟨h3, h4⟩ := List.getElem?_eq_some_iff.mp q
      rw [List.getElem_range] at h4
      subst h4
      have e2 : (elderAt (draw ns 2 % 4) (k : Int) (draw ns (10 + (k : Int)))).toNat = v := Option.some.inj e
      have h5 := elderAt_hi (way := draw ns 2 % 4) (cell := draw ns (10 + (k : Int))) (show (0 : Int) ≤ (k : Int) by omega)
      omega
  wt := fun v e => by
    unfold worths at e
    obtain ⟨k, _, rfl⟩ := List.mem_map.mp e
    have h5 := Int.emod_lt_of_pos (draw ns (30 + (k : Int))) (topOf_pos ns)
    have h6 := topOf_le ns
    omega
theorem OkT.pos {es ws : List Nat} (o : OkT es ws) : 0 < ws.length := by have := o.len; omega
/-- the elder of a thing that is not the first -/
def eld (es : List Nat) (t : Nat) : Nat := es.getD (t - 1) 0
theorem eld_lt {es : List Nat} (up : ∀ (k v : Nat), es[k]? = some v → v ≤ k) {t : Nat} (h : 0 < t) : eld es t < t := by
  unfold eld
  rw [List.getD_eq_getElem?_getD]
  cases e : es[t - 1]? with
  | none => exact h
  | some v =>
    have := up _ _ e
    show v < t
    omega
theorem eld_get {es : List Nat} {t : Nat} (h : 0 < t) (h2 : t < es.length + 1) : es[t - 1]? = some (eld es t) := by
  unfold eld
  rw [List.getD_eq_getElem?_getD, List.getElem?_eq_getElem (by omega)]
  rfl
/-! ### depth -/
def depF (es : List Nat) : Nat → Nat → Nat
  | 0, _ => 0
  | f + 1, t => if t = 0 then 0 else depF es f (eld es t) + 1
def depth (es : List Nat) (t : Nat) : Nat := depF es t t
section
variable {es : List Nat} (up : ∀ (k v : Nat), es[k]? = some v → v ≤ k)
include up
theorem depF_fuel : ∀ (f g t : Nat), t ≤ f → t ≤ g → depF es f t = depF es g t
  | 0, 0, t, _, _ => rfl
  | 0, g + 1, t, h, _ => by
    have : t = 0 := by omega
    subst this
    rfl
  | f + 1, 0, t, _, h => by
    have : t = 0 := by omega
    subst this
    rfl
  | f + 1, g + 1, t, h1, h2 => by
    unfold depF
    by_cases h : t = 0
    · rw [if_pos h, if_pos h]
    · rw [if_neg h, if_neg h]
      have := eld_lt up (t := t) (by omega)
      rw [depF_fuel f g (eld es t) (by omega) (by omega)]
theorem depth_zero : depth es 0 = 0 := rfl
theorem depth_step {t : Nat} (h : 0 < t) : depth es t = depth es (eld es t) + 1 := by
  have hl := eld_lt up h
  unfold depth
  obtain ⟨n, rfl⟩ : ∃ n, t = n + 1 := ⟨t - 1, by omega⟩
  rw [show depF es (n + 1) (n + 1) = depF es n (eld es (n + 1)) + 1 from by rw [depF, if_neg (by omega)]]
  rw [depF_fuel up n (eld es (n + 1)) (eld es (n + 1)) (by omega) (Nat.le_refl _)]
theorem depth_le (t : Nat) : depth es t ≤ t := by
  induction t using Nat.strongRecOn with
  | ind t ih =>
    by_cases h : t = 0
    · subst h; exact Nat.le_refl _
    · have hl := eld_lt up (t := t) (by omega)
      have := ih _ hl
      rw [depth_step up (by omega)]
      omega
theorem depth_pos {t : Nat} (h : 0 < t) : 0 < depth es t := by
  rw [depth_step up h]
  omega
end
/-! ### below -/
def climbF (es : List Nat) (t : Nat) : Nat → Nat → Nat
  | 0, h => h
  | f + 1, h => if t < h then climbF es t f (eld es h) else h
def climb (es : List Nat) (t h : Nat) : Nat := climbF es t h h
def isBelow (es : List Nat) (t o : Nat) : Bool := climb es t o == t
def below (es : List Nat) (t : Nat) : List Nat := (List.range (es.length + 1)).filter (isBelow es t)
def worth (es ws : List Nat) (t : Nat) : Nat := ((below es t).map fun o => ws.getD o 0).sum
section
variable {es : List Nat} (up : ∀ (k v : Nat), es[k]? = some v → v ≤ k)
include up
theorem climbF_fuel (t : Nat) : ∀ (f g h : Nat), h ≤ f → h ≤ g → climbF es t f h = climbF es t g h
  | 0, 0, h, _, _ => rfl
  | 0, g + 1, h, h1, _ => by
    have : h = 0 := by omega
    subst this
    rw [climbF, climbF, if_neg (by omega)]
  | f + 1, 0, h, _, h1 => by
    have : h = 0 := by omega
    subst this
    rw [climbF, climbF, if_neg (by omega)]
  | f + 1, g + 1, h, h1, h2 => by
    rw [climbF, climbF]
    by_cases c : t < h
    · rw [if_pos c, if_pos c]
      have := eld_lt up (t := h) (by omega)
      exact climbF_fuel t f g (eld es h) (by omega) (by omega)
    · rw [if_neg c, if_neg c]
theorem climb_step {t h : Nat} (c : t < h) : climb es t h = climb es t (eld es h) := by
  have hl := eld_lt up (t := h) (by omega)
  unfold climb
  obtain ⟨n, rfl⟩ : ∃ n, h = n + 1 := ⟨h - 1, by omega⟩
  rw [climbF, if_pos c]
  exact climbF_fuel up t n (eld es (n + 1)) (eld es (n + 1)) (by omega) (Nat.le_refl _)
omit up in
theorem climb_end {t h : Nat} (c : ¬ t < h) : climb es t h = h := by
  unfold climb
  cases h with
  | zero => rfl
  | succ n => rw [climbF, if_neg c]
theorem isBelow_step {t o : Nat} (c : t < o) : isBelow es t o = isBelow es t (eld es o) := by
  unfold isBelow
  rw [climb_step up c]
omit up in
theorem isBelow_self {t : Nat} : isBelow es t t = true := by
  unfold isBelow
  rw [climb_end (Nat.lt_irrefl t)]
  exact beq_self_eq_true t
omit up in
theorem isBelow_lt {t o : Nat} (c : o < t) : isBelow es t o = false := by
  unfold isBelow
  rw [climb_end (by omega)]
  exact beq_eq_false_iff_ne.mpr (by omega)
end
theorem mem_below {es : List Nat} {t o : Nat} : o ∈ below es t ↔ o < es.length + 1 ∧ isBelow es t o = true := by
  unfold below
  rw [List.mem_filter, List.mem_range]
theorem below_len (es : List Nat) (t : Nat) : (below es t).length ≤ es.length + 1 := by
  have := List.length_filter_le (isBelow es t) (List.range (es.length + 1))
  rw [List.length_range] at this
  exact this
/-- what the program's loop has found ahead of m -/
def belowTo (es : List Nat) (t m : Nat) : List Nat := (List.range m).filter (isBelow es t)
theorem belowTo_start {es : List Nat} (t : Nat) : belowTo es t (t + 1) = [t] := by
  unfold belowTo
  rw [List.range_succ, List.filter_append]
  have h : (List.range t).filter (isBelow es t) = [] := by
    rw [List.filter_eq_nil_iff]
    intro a ha
    rw [isBelow_lt (List.mem_range.mp ha)]
    decide
  rw [h, List.filter_cons, if_pos isBelow_self]
  rfl
theorem belowTo_succ {es : List Nat} (t m : Nat) : belowTo es t (m + 1) = if isBelow es t m = true then belowTo es t m ++ [m] else belowTo es t m := by
  unfold belowTo
  rw [List.range_succ, List.filter_append, List.filter_cons]
  by_cases h : isBelow es t m = true
  · rw [if_pos h, if_pos h]; rfl
  · rw [if_neg h, if_neg h]; exact List.append_nil _
theorem belowTo_end {es : List Nat} (t : Nat) : belowTo es t (es.length + 1) = below es t := rfl
theorem mem_belowTo {es : List Nat} {t m o : Nat} : o ∈ belowTo es t m ↔ o < m ∧ isBelow es t o = true := by
  unfold belowTo
  rw [List.mem_filter, List.mem_range]
theorem belowTo_len (es : List Nat) (t m : Nat) : (belowTo es t m).length ≤ m := by
  have := List.length_filter_le (isBelow es t) (List.range m)
  rw [List.length_range] at this
  exact this
end Fm
/-! The mathematics of fires. No program here. -/
namespace Fm
theorem nodup_len : ∀ (n : Nat) (l : List Nat), l.Nodup → (∀ x ∈ l, x < n) → l.length ≤ n
  | 0, l, _, h => by
    cases l with
    | nil => exact Nat.le_refl _
    | cons a r => exact absurd (h a List.mem_cons_self) (Nat.not_lt_zero _)
  | n + 1, l, nd, h => by
    by_cases hn : n ∈ l
    · have e := List.length_erase_of_mem hn
      have ih := nodup_len n (l.erase n) (nd.erase n) fun x hx => by
        have h1 := (nd.mem_erase_iff.mp hx)
        have h2 := h x h1.2
        have h3 := h1.1
        omega
      have : 0 < l.length := List.length_pos_of_mem hn
      omega
    · have ih := nodup_len n l nd fun x hx => by
        have h2 := h x hx
        have h3 : x ≠ n := fun e => hn (e ▸ hx)
        omega
      omega
/-- what catches fire in a minute -/
def fresh (es b s : List Nat) : List Nat := (List.range' 1 es.length).filter fun t => decide (eld es t ∈ b) && !decide (t ∈ b) && !decide (t ∈ s)
theorem mem_fresh {es b s : List Nat} {t : Nat} : t ∈ fresh es b s ↔ (1 ≤ t ∧ t < es.length + 1) ∧ eld es t ∈ b ∧ t ∉ b ∧ t ∉ s := by
  unfold fresh
  rw [List.mem_filter, List.mem_range'_1]
  simp only [Bool.and_eq_true, decide_eq_true_eq, Bool.not_eq_true', decide_eq_false_iff_not]
  constructor
  · rintro ⟨⟨a1, a2⟩, ⟨a3, a4⟩, a5⟩; exact ⟨⟨a1, by omega⟩, a3, a4, a5⟩
  · rintro ⟨⟨a1, a2⟩, a3, a4, a5⟩; exact ⟨⟨a1, by omega⟩, ⟨a3, a4⟩, a5⟩
theorem fresh_nodup (es b s : List Nat) : (fresh es b s).Nodup := (by exact List.Nodup.sublist List.filter_sublist List.nodup_range')
/-- what the loop over the things has found ahead of thing m + 1 -/
def freshTo (es b s : List Nat) (m : Nat) : List Nat := (List.range' 1 m).filter fun t => decide (eld es t ∈ b) && !decide (t ∈ b) && !decide (t ∈ s)
theorem freshTo_succ (es b s : List Nat) (m : Nat) : freshTo es b s (m + 1) = if (decide (eld es (m + 1) ∈ b) && !decide (m + 1 ∈ b) && !decide (m + 1 ∈ s)) = true then freshTo es b s m ++ [m + 1] else freshTo es b s m := by
  unfold freshTo
  rw [List.range'_concat, List.filter_append, List.filter_cons, show 1 + 1 * m = m + 1 by omega]
  by_cases h : (decide (eld es (m + 1) ∈ b) && !decide (m + 1 ∈ b) && !decide (m + 1 ∈ s)) = true
  · rw [if_pos h, if_pos h]; rfl
  · rw [if_neg h, if_neg h]; exact List.append_nil _
theorem freshTo_len (es b s : List Nat) (m : Nat) : (freshTo es b s m).length ≤ m := by
  have := List.length_filter_le (fun t => decide (eld es t ∈ b) && !decide (t ∈ b) && !decide (t ∈ s)) (List.range' 1 m)
  rw [List.length_range'] at this
  exact this
/-- the shutting off of a minute: a fault (1: no thing, 2: it burns, or is shut off), or what is shut off -/
def shutStep (n : Nat) (o : Option (Option Int)) (b s : List Nat) : Except Nat (List Nat) :=
  match o with
  | some (some z) => if 0 ≤ z ∧ z < (n : Int) then (if z.toNat ∈ b ∨ z.toNat ∈ s then .error 2 else .ok (s ++ [z.toNat])) else .error 1
  | _ => .ok s
/-- so many minutes -/
def run (es : List Nat) (plan : List (Option Int)) : Nat → Except Nat (List (List Nat) × List Nat × List Nat)
  | 0 => .ok ([[0]], [0], [])
  | m + 1 => match run es plan m with
    | .error c => .error c
    | .ok (r, b, s) => match shutStep (es.length + 1) plan[m]? b s with
      | .error c => .error c
      | .ok s' => .ok (r ++ [fresh es b s'], b ++ fresh es b s', s')
theorem run_step {es : List Nat} {plan : List (Option Int)} {m : Nat} {r : List (List Nat)} {b s s' : List Nat} (h : run es plan m = .ok (r, b, s)) (h2 : shutStep (es.length + 1) plan[m]? b s = .ok s') :
    run es plan (m + 1) = .ok (r ++ [fresh es b s'], b ++ fresh es b s', s') := by
  rw [run, h]
  simp only
  rw [h2]
theorem run_fail {es : List Nat} {plan : List (Option Int)} {m c : Nat} {r : List (List Nat)} {b s : List Nat} (h : run es plan m = .ok (r, b, s)) (h2 : shutStep (es.length + 1) plan[m]? b s = .error c) : run es plan (m + 1) = .error c := by
  rw [run, h]
  simp only
  rw [h2]
theorem run_error {es : List Nat} {plan : List (Option Int)} {m c : Nat} (h : run es plan m = .error c) : ∀ k, run es plan (m + k) = .error c
  | 0 => h
  | k + 1 => by
    rw [Nat.add_succ, run, run_error h k]
/-- what holds of every state -/
structure Good (es : List Nat) (r : List (List Nat)) (b s : List Nat) (m : Nat) : Prop where
  len : r.length = m + 1
  nd : b.Nodup
  lt : ∀ x ∈ b, x < es.length + 1
  root : 0 ∈ b
  slt : ∀ x ∈ s, x < es.length + 1
  sum : b.length = (r.map List.length).sum
  head : r[0]? = some [0]
  rlt : ∀ row ∈ r, ∀ x ∈ row, x < es.length + 1
  rln : ∀ row ∈ r, row.length ≤ es.length + 1
  sln : s.length ≤ m
theorem shut_slt {n : Nat} {o : Option (Option Int)} {b s s' : List Nat} (h : shutStep n o b s = .ok s') (hs : ∀ x ∈ s, x < n) : ∀ x ∈ s', x < n := by
  unfold shutStep at h
  split at h
  · split at h
    · split at h
      · cases h
      · cases h
        intro x hx
        rcases List.mem_append.mp hx with hx | hx
        · exact hs x hx
        · have := List.mem_singleton.mp hx
          omega
    · cases h
  · cases h
    exact hs
theorem shut_len {n : Nat} {o : Option (Option Int)} {b s s' : List Nat} (h : shutStep n o b s = .ok s') : s'.length ≤ s.length + 1 := by
  unfold shutStep at h
  split at h
  · split at h
    · split at h
      · cases h
      · cases h
        rw [List.length_append]
        exact Nat.le_refl _
    · cases h
  · cases h
    exact Nat.le_succ _
theorem good_zero (es : List Nat) : Good es [[0]] [0] [] 0 := ⟨rfl, by simp, by simp, by simp, by simp, rfl, rfl, by simp, by simp, Nat.le_refl _⟩
theorem good_step {es : List Nat} {r : List (List Nat)} {b s s' : List Nat} {m : Nat} (g : Good es r b s m) (hs : ∀ x ∈ s', x < es.length + 1) (hl : s'.length ≤ s.length + 1) : Good es (r ++ [fresh es b s']) (b ++ fresh es b s') s' (m + 1) where
  len := by rw [List.length_append, g.len]; rfl
  nd := List.nodup_append.mpr ⟨g.nd, fresh_nodup es b s', fun a ha c hc e => (mem_fresh.mp hc).2.2.1 (e ▸ ha)⟩
  lt := fun x hx => by
    rcases List.mem_append.mp hx with hx | hx
    · exact g.lt x hx
    · exact (mem_fresh.mp hx).1.2
  root := List.mem_append_left _ g.root
  slt := hs
  sum := by simp [g.sum]
  head := by
    have := g.head
    rw [List.getElem?_append_left (by rw [g.len]; omega)]
    exact this
  rlt := fun row hrow x hx => by
    rcases List.mem_append.mp hrow with hrow | hrow
    · exact g.rlt row hrow x hx
    · rw [List.mem_singleton.mp hrow] at hx
      exact (mem_fresh.mp hx).1.2
  rln := fun row hrow => by
    rcases List.mem_append.mp hrow with hrow | hrow
    · exact g.rln row hrow
    · rw [List.mem_singleton.mp hrow]
      exact nodup_len _ _ (fresh_nodup es b s') fun x hx => (mem_fresh.mp hx).1.2
  sln := by have := g.sln; omega
theorem good_run {es : List Nat} {plan : List (Option Int)} : ∀ {m : Nat} {r : List (List Nat)} {b s : List Nat}, run es plan m = .ok (r, b, s) → Good es r b s m
  | 0, r, b, s, h => by
    cases h
    exact good_zero es
  | m + 1, r, b, s, h => by
    rw [run] at h
    cases e : run es plan m with
    | error c => rw [e] at h; cases h
    | ok v =>
      obtain ⟨r0, b0, s0⟩ := v
      rw [e] at h
      simp only at h
      cases e2 : shutStep (es.length + 1) plan[m]? b0 s0 with
      | error c => rw [e2] at h; cases h
      | ok s1 =>
        rw [e2] at h
        cases h
        have g := good_run e
        exact good_step g (shut_slt e2 g.slt) (shut_len e2)
theorem Good.blen {es : List Nat} {r : List (List Nat)} {b s : List Nat} {m : Nat} (g : Good es r b s m) : b.length ≤ es.length + 1 := nodup_len _ b g.nd g.lt
/-- behind the plan nothing is shut off -/
theorem shut_behind {n : Nat} {plan : List (Option Int)} {m : Nat} {b s : List Nat} (h : plan.length ≤ m) : shutStep n plan[m]? b s = .ok s := by
  rw [List.getElem?_eq_none h]
  rfl
/-- the fire is over: nothing more happens -/
theorem run_over {es : List Nat} {plan : List (Option Int)} {m : Nat} {r : List (List Nat)} {b s : List Nat} (h : run es plan m = .ok (r, b, s)) (hm : plan.length ≤ m) (hf : fresh es b s = []) : ∀ k, run es plan (m + k) = .ok (r ++ List.replicate k [], b, s)
  | 0 => by rw [List.replicate_zero, List.append_nil]; exact h
  | k + 1 => by
    have ih := run_over h hm hf k
    rw [Nat.add_succ, run_step ih (shut_behind (by omega)), hf, List.append_nil, List.append_assoc, List.replicate_succ']
/-- if the last minute brought nothing, the fire is over -/
theorem over_of {es : List Nat} {plan : List (Option Int)} {m : Nat} {r : List (List Nat)} {b s : List Nat} (h : run es plan m = .ok (r, b, s)) (hl : r.getLast? = some []) : fresh es b s = [] := by
  cases m with
  | zero => cases h; cases hl
  | succ m =>
    rw [run] at h
    cases e : run es plan m with
    | error c => rw [e] at h; cases h
    | ok v =>
      obtain ⟨r0, b0, s0⟩ := v
      rw [e] at h
      simp only at h
      cases e2 : shutStep (es.length + 1) plan[m]? b0 s0 with
      | error c => rw [e2] at h; cases h
      | ok s1 =>
        rw [e2] at h
        cases h
        rw [List.getLast?_append] at hl
        have hf : fresh es b0 s = [] := by simpa using hl
        rw [hf, List.append_nil]
        exact hf
/-- the last row, where there is one ahead of it -/
theorem last_row {es : List Nat} {plan : List (Option Int)} {m : Nat} {r : List (List Nat)} {b s : List Nat} (h : run es plan m = .ok (r, b, s)) : ∃ x, r.getLast? = some x := by
  have g := good_run h
  have : r ≠ [] := fun e => by have := g.len; rw [e] at this; cases this
  exact ⟨_, List.getLast?_eq_some_getLast this⟩
/-- either over by the minute plan.length + j, or j things more burn -/
theorem over_or {es : List Nat} {plan : List (Option Int)} : ∀ {j : Nat} {r : List (List Nat)} {b s : List Nat}, run es plan (plan.length + j) = .ok (r, b, s) → fresh es b s = [] ∨ j < b.length
  | 0, r, b, s, h => .inr (List.length_pos_of_mem (good_run h).root)
  | j + 1, r, b, s, h => by
    have h0 := h
    rw [Nat.add_succ, run] at h
    cases e : run es plan (plan.length + j) with
    | error c => rw [e] at h; cases h
    | ok v =>
      obtain ⟨r0, b0, s0⟩ := v
      rw [e] at h
      simp only at h
      rw [shut_behind (by omega)] at h
      cases h
      rcases over_or e with h1 | h1
      · left
        rw [h1, List.append_nil]
        exact h1
      · by_cases hf : fresh es b0 s = []
        · left
          rw [hf, List.append_nil]
          exact hf
        · right
          rw [List.length_append]
          have : 0 < (fresh es b0 s).length := List.length_pos_iff.mpr hf
          omega
/-- the whole fire -/
def fire (es : List Nat) (plan : List (Option Int)) : Except Nat (List (List Nat) × List Nat × List Nat) := run es plan (plan.length + (es.length + 1))
theorem fire_over {es : List Nat} {plan : List (Option Int)} {r : List (List Nat)} {b s : List Nat} (h : fire es plan = .ok (r, b, s)) : fresh es b s = [] := by
  rcases over_or h with h1 | h1
  · exact h1
  · have := (good_run h).blen
    omega
/-! ### rows without the empty ones behind -/
def trim (l : List (List Nat)) : List (List Nat) := (l.reverse.dropWhile fun x => x == []).reverse
theorem trim_snoc_nil (l : List (List Nat)) : trim (l ++ [[]]) = trim l := by
  unfold trim
  rw [List.reverse_append, List.reverse_singleton, List.singleton_append, List.dropWhile_cons, if_pos (show (([] : List Nat) == []) = true from rfl)]
theorem trim_snoc {x : List Nat} (l : List (List Nat)) (h : x ≠ []) : trim (l ++ [x]) = l ++ [x] := by
  unfold trim
  rw [List.reverse_append, List.reverse_singleton, List.singleton_append, List.dropWhile_cons, if_neg (by simpa using h)]
  rw [List.reverse_cons, List.reverse_reverse]
theorem trim_rep (l : List (List Nat)) : ∀ k, trim (l ++ List.replicate k []) = trim l
  | 0 => by rw [List.replicate_zero, List.append_nil]
  | k + 1 => by rw [List.replicate_succ', ← List.append_assoc, trim_snoc_nil, trim_rep l k]
theorem dropWhile_nil {α : Type} {p : α → Bool} : ∀ {l : List α}, l.dropWhile p = [] → ∀ x ∈ l, p x = true
  | [], _, x, hx => by cases hx
  | a :: r, h, x, hx => by
    rw [List.dropWhile_cons] at h
    by_cases ha : p a = true
    · rw [if_pos ha] at h
      rcases List.mem_cons.mp hx with e | e
      · rw [e]; exact ha
      · exact dropWhile_nil h x e
    · rw [if_neg ha] at h; cases h
theorem trim_ne {l : List (List Nat)} (h : l[0]? = some [0]) : trim l ≠ [] := by
  cases l with
  | nil => cases h
  | cons a r =>
    have ha : a = [0] := Option.some.inj h
    subst ha
    unfold trim
    rw [List.reverse_cons]
    intro e
    have e2 := congrArg List.reverse e
    rw [List.reverse_reverse, List.reverse_nil] at e2
    have h3 := dropWhile_nil e2
    have := h3 [0] (by simp)
    cases this
/-- the program's fire, at whatever minute it stops -/
theorem run_fire {es : List Nat} {plan : List (Option Int)} {m : Nat} {r : List (List Nat)} {b s : List Nat} (h : run es plan m = .ok (r, b, s)) (hm : plan.length ≤ m) (hl : r.getLast? = some []) : ∃ r', fire es plan = .ok (r', b, s) ∧ trim r' = trim r := by
  have hf := over_of h hl
  by_cases c : m ≤ plan.length + (es.length + 1)
  · obtain ⟨k, hk⟩ : ∃ k, plan.length + (es.length + 1) = m + k := ⟨_, (Nat.add_sub_cancel' c).symm⟩
    refine ⟨r ++ List.replicate k [], ?_, trim_rep r k⟩
    unfold fire
    rw [hk]
    exact run_over h hm hf k
  · obtain ⟨k, hk⟩ : ∃ k, m = plan.length + (es.length + 1) + k := ⟨_, (Nat.add_sub_cancel' (by omega)).symm⟩
    cases e : fire es plan with
    | error c => 
      have := run_error e k
      rw [← hk, h] at this
      cases this
    | ok v =>
      obtain ⟨r', b', s'⟩ := v
      have := run_over e (by omega) (fire_over e) k
      rw [← hk, h] at this
      cases this
      exact ⟨r', rfl, (trim_rep r' k).symm⟩
theorem run_fire_error {es : List Nat} {plan : List (Option Int)} {m c : Nat} (h : run es plan m = .error c) (hm : m ≤ plan.length) : fire es plan = .error c := by
  obtain ⟨k, hk⟩ : ∃ k, plan.length + (es.length + 1) = m + k := ⟨_, (Nat.add_sub_cancel' (by omega)).symm⟩
  unfold fire
  rw [hk]
  exact run_error h k
/-- what a plan saves: the worths of what never burns -/
def saved (ws b : List Nat) : Nat := (((List.range ws.length).filter fun t => !decide (t ∈ b)).map fun t => ws.getD t 0).sum
theorem saved_congr {ws b c : List Nat} (h : ∀ x, x ∈ b ↔ x ∈ c) : saved ws b = saved ws c := by
  unfold saved
  congr 2
  exact List.filter_congr fun x _ => by rw [decide_eq_decide.mpr (h x)]
end Fm
/-! The mathematics of level plans. No program here. -/
namespace Fm
/-- the things of a depth that are not gone, rising -/
def avail (es : List Nat) (d : Nat) (g : List Nat) : List Nat := (List.range' 1 es.length).filter fun t => decide (depth es t = d) && !decide (t ∈ g)
theorem mem_avail {es : List Nat} {d t : Nat} {g : List Nat} : t ∈ avail es d g ↔ (1 ≤ t ∧ t < es.length + 1) ∧ depth es t = d ∧ t ∉ g := by
  unfold avail
  rw [List.mem_filter, List.mem_range'_1]
  simp only [Bool.and_eq_true, decide_eq_true_eq, Bool.not_eq_true', decide_eq_false_iff_not]
  constructor
  · rintro ⟨⟨a, b⟩, c, d⟩; exact ⟨⟨a, by omega⟩, c, d⟩
  · rintro ⟨⟨a, b⟩, c, d⟩; exact ⟨⟨a, by omega⟩, c, d⟩
theorem avail_len (es : List Nat) (d : Nat) (g : List Nat) : (avail es d g).length ≤ es.length := by
  have := List.length_filter_le (fun t => decide (depth es t = d) && !decide (t ∈ g)) (List.range' 1 es.length)
  rw [List.length_range'] at this
  exact this
/-- what the loop has found ahead of thing m + 1 -/
def availTo (es : List Nat) (d : Nat) (g : List Nat) (m : Nat) : List Nat := (List.range' 1 m).filter fun t => decide (depth es t = d) && !decide (t ∈ g)
theorem availTo_succ (es : List Nat) (d : Nat) (g : List Nat) (m : Nat) : availTo es d g (m + 1) = if (decide (depth es (m + 1) = d) && !decide (m + 1 ∈ g)) = true then availTo es d g m ++ [m + 1] else availTo es d g m := by
  unfold availTo
  rw [List.range'_concat, List.filter_append, List.filter_cons, show 1 + 1 * m = m + 1 by omega]
  by_cases h : (decide (depth es (m + 1) = d) && !decide (m + 1 ∈ g)) = true
  · rw [if_pos h, if_pos h]; rfl
  · rw [if_neg h, if_neg h]; exact List.append_nil _
theorem availTo_len (es : List Nat) (d : Nat) (g : List Nat) (m : Nat) : (availTo es d g m).length ≤ m := by
  have := List.length_filter_le (fun t => decide (depth es t = d) && !decide (t ∈ g)) (List.range' 1 m)
  rw [List.length_range'] at this
  exact this
/-- one thing tried: the best so far, the thing, what follows it -/
def better (best : Int × List Nat) (t : Nat) (wt : Nat) (fu : Int × List Nat) : Int × List Nat := if best.1 < (wt : Int) + fu.1 then ((wt : Int) + fu.1, t :: fu.2) else best
/-- the program's best, so many depths on -/
def bf (es ws : List Nat) : Nat → Nat → List Nat → Int × List Nat
  | 0, _, _ => (0, [])
  | n + 1, d, g => if avail es d g = [] then (0, []) else (avail es d g).foldl (fun best t => better best t (worth es ws t) (bf es ws n (d + 1) (g ++ below es t))) (-1, [])
/-- the law's best -/
def lb (es ws : List Nat) : Nat → Nat → List Nat → Nat
  | 0, _, _ => 0
  | n + 1, d, g => (avail es d g).foldl (fun b t => max b (worth es ws t + lb es ws n (d + 1) (g ++ below es t))) 0
/-- a plan, level by level from depth d on -/
def IsLevel (es : List Nat) : Nat → List Nat → List Nat → Prop
  | d, g, [] => avail es d g = []
  | d, g, t :: r => t ∈ avail es d g ∧ IsLevel es (d + 1) (g ++ below es t) r
def planWorth (es ws : List Nat) (plan : List Nat) : Nat := (plan.map (worth es ws)).sum
theorem avail_deep {es : List Nat} (up : ∀ (k v : Nat), es[k]? = some v → v ≤ k) {d : Nat} (h : es.length + 1 ≤ d) (g : List Nat) : avail es d g = [] := by
  cases e : avail es d g with
  | nil => rfl
  | cons t r =>
    have ht : t ∈ avail es d g := by rw [e]; exact List.mem_cons_self
    obtain ⟨⟨_, h1⟩, h2, _⟩ := mem_avail.mp ht
    have := depth_le up t
    omega
section
variable {es ws : List Nat} (up : ∀ (k v : Nat), es[k]? = some v → v ≤ k)
theorem foldmax_ge : ∀ (l : List Nat) (f : Nat → Nat) (b : Nat), b ≤ l.foldl (fun b t => max b (f t)) b ∧ ∀ t ∈ l, f t ≤ l.foldl (fun b t => max b (f t)) b
  | [], f, b => ⟨Nat.le_refl _, fun t h => by cases h⟩
  | a :: l, f, b => by
    obtain ⟨h1, h2⟩ := foldmax_ge l f (max b (f a))
    rw [List.foldl_cons]
    refine ⟨Nat.le_trans (Nat.le_max_left _ _) h1, fun t ht => ?_⟩
    rcases List.mem_cons.mp ht with rfl | ht
    · exact Nat.le_trans (Nat.le_max_right _ _) h1
    · exact h2 t ht
theorem foldmax_of : ∀ (l : List Nat) (f : Nat → Nat) (b : Nat), l.foldl (fun b t => max b (f t)) b = b ∨ ∃ t ∈ l, l.foldl (fun b t => max b (f t)) b = f t
  | [], f, b => .inl rfl
  | a :: l, f, b => by
    rw [List.foldl_cons]
    rcases foldmax_of l f (max b (f a)) with h | ⟨t, h1, h2⟩
    · by_cases hc : b ≤ f a
      · right
        exact ⟨a, List.mem_cons_self, by rw [h, Nat.max_eq_right hc]⟩
      · left
        rw [h, Nat.max_eq_left (by omega)]
    · exact .inr ⟨t, List.mem_cons_of_mem _ h1, h2⟩
theorem lb_ge {n d t : Nat} {g : List Nat} (h : t ∈ avail es d g) : worth es ws t + lb es ws n (d + 1) (g ++ below es t) ≤ lb es ws (n + 1) d g := by
  rw [lb]
  exact (foldmax_ge (avail es d g) (fun t => worth es ws t + lb es ws n (d + 1) (g ++ below es t)) 0).2 t h
/-- the fold over the tried things: what it holds -/
theorem fold_better (F : Nat → Int × List Nat) (G : Nat → Nat) (hF : ∀ t, (F t).1 = (G t : Int)) : ∀ (l : List Nat) (best : Int × List Nat) (b : Nat), (best.1 = (b : Int) ∨ (best.1 = -1 ∧ b = 0)) → ∀ r, r = l.foldl (fun best t => better best t (worth es ws t) (F t)) best →
    (r = best ∧ (l = [] ∨ best.1 = (b : Int)) ∧ l.foldl (fun b t => max b (worth es ws t + G t)) b = b) ∨ (∃ t ∈ l, r = ((worth es ws t : Int) + (F t).1, t :: (F t).2) ∧ l.foldl (fun b t => max b (worth es ws t + G t)) b = worth es ws t + G t)
  | [], best, b, h, r, hr => .inl ⟨hr, .inl rfl, rfl⟩
  | a :: l, best, b, h, r, hr => by
    rw [List.foldl_cons] at hr ⊢
    have ha := hF a
    by_cases c : best.1 < (worth es ws a : Int) + (F a).1
    · have e1 : better best a (worth es ws a) (F a) = ((worth es ws a : Int) + (F a).1, a :: (F a).2) := if_pos c
      rw [e1] at hr
      have e2 : max b (worth es ws a + G a) = worth es ws a + G a := Nat.max_eq_right (by omega)
      rw [e2]
      rcases fold_better F G hF l _ (worth es ws a + G a) (.inl (by show (worth es ws a : Int) + (F a).1 = _; omega)) r hr with ⟨h1, _, h3⟩ | ⟨t, h1, h2, h3⟩
      · exact .inr ⟨a, List.mem_cons_self, h1, h3⟩
      · exact .inr ⟨t, List.mem_cons_of_mem _ h1, h2, h3⟩
    · have e1 : better best a (worth es ws a) (F a) = best := if_neg c
      rw [e1] at hr
      have hb : best.1 = (b : Int) := by
        rcases h with h | h
        · exact h
        · omega
      have e2 : max b (worth es ws a + G a) = b := Nat.max_eq_left (by omega)
      rw [e2]
      rcases fold_better F G hF l best b (.inl hb) r hr with ⟨h1, _, h3⟩ | ⟨t, h1, h2, h3⟩
      · exact .inl ⟨h1, .inr hb, h3⟩
      · exact .inr ⟨t, List.mem_cons_of_mem _ h1, h2, h3⟩
/-- the program's best is the law's, and its plan is of the kind and worth that much -/
theorem bf_lb : ∀ (n d : Nat) (g : List Nat), (bf es ws n d g).1 = (lb es ws n d g : Int)
  | 0, d, g => rfl
  | n + 1, d, g => by
    have ih := bf_lb n
    rw [bf, lb]
    by_cases h : avail es d g = []
    · rw [if_pos h, h]; rfl
    · rw [if_neg h]
      rcases fold_better (es := es) (ws := ws) (fun t => bf es ws n (d + 1) (g ++ below es t)) (fun t => lb es ws n (d + 1) (g ++ below es t)) (fun t => ih _ _) (avail es d g) (-1, []) 0 (.inr ⟨rfl, rfl⟩) _ rfl with ⟨h1, h2, h3⟩ | ⟨t, h1, h2, h3⟩
      · rcases h2 with h2 | h2
        · exact absurd h2 h
        · exact absurd h2 (by decide)
      · rw [h2, h3]
        have := ih (d + 1) (g ++ below es t)
        show (worth es ws t : Int) + _ = _
        omega
include up in
theorem bf_level : ∀ (n d : Nat) (g : List Nat), es.length + 1 ≤ d + n → IsLevel es d g (bf es ws n d g).2 ∧ (bf es ws n d g).1 = (planWorth es ws (bf es ws n d g).2 : Int)
  | 0, d, g, h => ⟨avail_deep up h g, rfl⟩
  | n + 1, d, g, h => by
    have ih := bf_level n
    rw [bf]
    by_cases ha : avail es d g = []
    · rw [if_pos ha]
      exact ⟨ha, rfl⟩
    · rw [if_neg ha]
      rcases fold_better (es := es) (ws := ws) (fun t => bf es ws n (d + 1) (g ++ below es t)) (fun t => lb es ws n (d + 1) (g ++ below es t)) (fun t => bf_lb _ _ _) (avail es d g) (-1, []) 0 (.inr ⟨rfl, rfl⟩) _ rfl with ⟨h1, h2, h3⟩ | ⟨t, h1, h2, h3⟩
      · rcases h2 with h2 | h2
        · exact absurd h2 ha
        · exact absurd h2 (by decide)
      · rw [h2]
        obtain ⟨i1, i2⟩ := ih (d + 1) (g ++ below es t) (by omega)
        refine ⟨⟨h1, i1⟩, ?_⟩
        show (worth es ws t : Int) + _ = ((worth es ws t + (((bf es ws n (d + 1) (g ++ below es t)).2).map (worth es ws)).sum : Nat) : Int)
        rw [i2]
        unfold planWorth
        omega
include up in
theorem level_len : ∀ (plan : List Nat) (d : Nat) (g : List Nat), IsLevel es d g plan → d ≤ es.length + 1 → d + plan.length ≤ es.length + 1
  | [], d, g, _, h => h
  | t :: r, d, g, hl, h => by
    obtain ⟨⟨_, h1⟩, h2, _⟩ := mem_avail.mp hl.1
    have := depth_le up t
    have := level_len r (d + 1) _ hl.2 (by omega)
    rw [List.length_cons]
    omega
end
/-! ### below, as an order -/
section
variable {es : List Nat} (up : ∀ (k v : Nat), es[k]? = some v → v ≤ k)
include up
theorem isBelow_le {t x : Nat} (h : isBelow es t x = true) : t ≤ x := by
  refine Nat.le_of_not_lt fun c => ?_
  rw [isBelow_lt c] at h
  cases h
theorem isBelow_depth {t : Nat} : ∀ {x : Nat}, isBelow es t x = true → depth es t ≤ depth es x := fun {x} => by
  induction x using Nat.strongRecOn with
  | ind x ih =>
    intro h
    by_cases c : t < x
    · have hx : 0 < x := by omega
      have := ih (eld es x) (eld_lt up hx) (by rw [← isBelow_step up c]; exact h)
      rw [depth_step up hx]
      omega
    · have := isBelow_le up h
      have e : x = t := by omega
      rw [e]
      exact Nat.le_refl _
theorem isBelow_trans {t u : Nat} : ∀ {x : Nat}, isBelow es t u = true → isBelow es u x = true → isBelow es t x = true := fun {x} => by
  induction x using Nat.strongRecOn with
  | ind x ih =>
    intro h1 h2
    by_cases c : u < x
    · have h3 := isBelow_le up h1
      rw [isBelow_step up (show t < x by omega)]
      exact ih _ (eld_lt up (by omega)) h1 (by rw [← isBelow_step up c]; exact h2)
    · have := isBelow_le up h2
      have e : x = u := by omega
      rw [e]
      exact h1
/-- two things above one: the deeper is below the other -/
theorem isBelow_two {t u : Nat} : ∀ {x : Nat}, isBelow es t x = true → isBelow es u x = true → depth es t ≤ depth es u → isBelow es t u = true := fun {x} => by
  induction x using Nat.strongRecOn with
  | ind x ih =>
    intro h1 h2 hd
    by_cases c : u < x
    · by_cases c2 : t < x
      · exact ih _ (eld_lt up (by omega)) (by rw [← isBelow_step up c2]; exact h1) (by rw [← isBelow_step up c]; exact h2) hd
      · have := isBelow_le up h1
        have e : x = t := by omega
        subst e
        -- u is above t strictly: the depths
        have h3 := isBelow_depth up (t := u) (x := eld es x) (by rw [← isBelow_step up c]; exact h2)
        rw [depth_step up (show 0 < x by omega)] at hd
        omega
    · have := isBelow_le up h2
      have e : x = u := by omega
      subst e
      exact h1
/-- each thing has one above it at each lesser depth -/
theorem ancestor : ∀ {x d : Nat}, d ≤ depth es x → ∃ a, isBelow es a x = true ∧ depth es a = d ∧ a ≤ x := fun {x d} => by
  induction x using Nat.strongRecOn with
  | ind x ih =>
    intro h
    by_cases c : d = depth es x
    · exact ⟨x, isBelow_self, c.symm, Nat.le_refl _⟩
    · have hx : 0 < x := by
        refine Nat.pos_of_ne_zero fun e => ?_
        subst e
        have h0 : depth es 0 = 0 := rfl
        omega
      have hs := depth_step up hx
      obtain ⟨a, h1, h2, h3⟩ := ih (eld es x) (eld_lt up hx) (by omega)
      have hl := eld_lt up hx
      exact ⟨a, by rw [isBelow_step up (show a < x by omega)]; exact h1, h2, by omega⟩
end
/-! ### worths of sets of things -/
def wsum (ws : List Nat) (p : Nat → Bool) : Nat := ((List.range ws.length).map fun x => if p x then ws.getD x 0 else 0).sum
theorem sum_le : ∀ (l : List Nat) (f g : Nat → Nat), (∀ x ∈ l, f x ≤ g x) → (l.map f).sum ≤ (l.map g).sum
  | [], _, _, _ => Nat.le_refl _
  | a :: l, f, g, h => by
    rw [List.map_cons, List.map_cons, List.sum_cons, List.sum_cons]
    have h1 := h a List.mem_cons_self
    have h2 := sum_le l f g fun x hx => h x (List.mem_cons_of_mem _ hx)
    omega
theorem sum_add : ∀ (l : List Nat) (f g : Nat → Nat), (l.map fun x => f x + g x).sum = (l.map f).sum + (l.map g).sum
  | [], _, _ => rfl
  | a :: l, f, g => by
    rw [List.map_cons, List.map_cons, List.map_cons, List.sum_cons, List.sum_cons, List.sum_cons, sum_add l f g]
    omega
theorem sum_congr' {l : List Nat} {f g : Nat → Nat} (h : ∀ x ∈ l, f x = g x) : (l.map f).sum = (l.map g).sum := by
  rw [List.map_congr_left h]
theorem sum_filter (l : List Nat) (p : Nat → Bool) (f : Nat → Nat) : ((l.filter p).map f).sum = (l.map fun x => if p x then f x else 0).sum := by
  induction l with
  | nil => rfl
  | cons a l ih =>
    rw [List.filter_cons, List.map_cons, List.sum_cons, ← ih]
    cases h : p a with
    | true => simp
    | false => simp
theorem worth_wsum {es ws : List Nat} (hl : es.length + 1 = ws.length) (t : Nat) : worth es ws t = wsum ws (isBelow es t) := by
  unfold worth below wsum
  rw [hl]
  exact sum_filter _ _ _
theorem saved_wsum (ws b : List Nat) : saved ws b = wsum ws fun x => !decide (x ∈ b) := by
  unfold saved wsum
  exact sum_filter _ _ _
theorem wsum_mono {ws : List Nat} {p q : Nat → Bool} (h : ∀ x, x < ws.length → p x = true → q x = true) : wsum ws p ≤ wsum ws q := by
  unfold wsum
  refine sum_le _ _ _ fun x hx => ?_
  have hx := List.mem_range.mp hx
  cases hp : p x with
  | true => rw [h x hx hp]; exact Nat.le_refl _
  | false => exact Nat.zero_le _
theorem wsum_congr {ws : List Nat} {p q : Nat → Bool} (h : ∀ x, x < ws.length → p x = q x) : wsum ws p = wsum ws q := by
  unfold wsum
  exact sum_congr' fun x hx => by rw [h x (List.mem_range.mp hx)]
theorem wsum_or (ws : List Nat) {p q : Nat → Bool} (h : ∀ x, x < ws.length → p x = true → q x = true → False) : wsum ws (fun x => p x || q x) = wsum ws p + wsum ws q := by
  unfold wsum
  rw [← sum_add]
  refine sum_congr' fun x hx => ?_
  have hx := List.mem_range.mp hx
  have key : ∀ (a b : Bool) (v : Nat), (a = true → b = true → False) → (if (a || b) = true then v else 0) = (if a = true then v else 0) + (if b = true then v else 0) := by
    intro a b v hh
    cases a <;> cases b <;> first | exact (hh rfl rfl).elim | simp
  exact key (p x) (q x) (ws.getD x 0) (h x hx)
theorem wsum_or_le (ws : List Nat) (p q : Nat → Bool) : wsum ws (fun x => p x || q x) ≤ wsum ws p + wsum ws q := by
  unfold wsum
  rw [← sum_add]
  refine sum_le _ _ _ fun x hx => ?_
  have key : ∀ (a b : Bool) (v : Nat), (if (a || b) = true then v else 0) ≤ (if a = true then v else 0) + (if b = true then v else 0) := by
    intro a b v
    cases a <;> cases b <;> simp
  exact key (p x) (q x) (ws.getD x 0)
theorem wsum_false (ws : List Nat) : wsum ws (fun _ => false) = 0 := by
  unfold wsum
  induction (List.range ws.length) with
  | nil => rfl
  | cons a l ih => rw [List.map_cons, List.sum_cons, ih]; rfl
/-! ### the fire under a level plan -/
/-- below one of the things -/
def goneOf (es : List Nat) : List Nat → List Nat
  | [] => []
  | t :: r => below es t ++ goneOf es r
theorem mem_goneOf {es : List Nat} {x : Nat} : ∀ {l : List Nat}, x ∈ goneOf es l ↔ ∃ t ∈ l, x ∈ below es t
  | [] => by simp [goneOf]
  | a :: l => by
    rw [goneOf, List.mem_append, mem_goneOf]
    simp
theorem goneOf_snoc (es : List Nat) (t : Nat) : ∀ l : List Nat, goneOf es (l ++ [t]) = goneOf es l ++ below es t
  | [] => by simp [goneOf]
  | a :: l => by rw [List.cons_append, goneOf, goneOf, goneOf_snoc es t l, List.append_assoc]
section
variable {es ws : List Nat} (up : ∀ (k v : Nat), es[k]? = some v → v ≤ k)
/-- the same, not asked to end -/
def IsLv (es : List Nat) : Nat → List Nat → List Nat → Prop
  | _, _, [] => True
  | d, g, t :: r => t ∈ avail es d g ∧ IsLv es (d + 1) (g ++ below es t) r
theorem IsLevel.lv : ∀ {plan : List Nat} {d : Nat} {g : List Nat}, IsLevel es d g plan → IsLv es d g plan
  | [], _, _, _ => trivial
  | _ :: r, _, _, h => ⟨h.1, IsLevel.lv (plan := r) h.2⟩
theorem IsLv.take : ∀ {plan : List Nat} {d : Nat} {g : List Nat} (k : Nat), IsLv es d g plan → IsLv es d g (plan.take k)
  | _, _, _, 0, _ => trivial
  | [], _, _, _ + 1, _ => trivial
  | _ :: r, _, _, k + 1, h => ⟨h.1, IsLv.take (plan := r) k h.2⟩
/-- the k-th of a level plan -/
theorem level_get : ∀ {plan : List Nat} {d : Nat} {g : List Nat}, IsLv es d g plan → ∀ {k t : Nat}, plan[k]? = some t → t ∈ avail es (d + k) (g ++ goneOf es (plan.take k))
  | [], _, _, _, k, t, h => by cases k <;> cases h
  | a :: r, d, g, hl, 0, t, h => by
    cases h
    rw [List.take_zero]
    show a ∈ avail es (d + 0) (g ++ [])
    rw [List.append_nil]
    exact hl.1
  | a :: r, d, g, hl, k + 1, t, h => by
    have := level_get (plan := r) hl.2 (k := k) (t := t) h
    rw [List.take_succ_cons, goneOf, ← List.append_assoc, show d + (k + 1) = d + 1 + k by omega]
    exact this
theorem level_end : ∀ {plan : List Nat} {d : Nat} {g : List Nat}, IsLevel es d g plan → avail es (d + plan.length) (g ++ goneOf es plan) = []
  | [], d, g, h => by
    show avail es (d + 0) (g ++ []) = []
    rw [List.append_nil]
    exact h
  | a :: r, d, g, h => by
    have := level_end (plan := r) h.2
    rw [List.length_cons, goneOf, ← List.append_assoc, show d + (r.length + 1) = d + 1 + r.length by omega]
    exact this
def somes (plan : List Nat) : List (Option Int) := plan.map fun (n : Nat) => some (n : Int)
theorem somes_get {plan : List Nat} {k t : Nat} (h : plan[k]? = some t) : (somes plan)[k]? = some (some (t : Int)) := by
  unfold somes
  rw [List.getElem?_map, h]
  rfl
include up in
theorem below_eld {t x : Nat} (hx : t < x) : x ∈ below es t ↔ (x < es.length + 1 ∧ eld es x ∈ below es t) := by
  rw [mem_below, mem_below, isBelow_step up hx]
  have := eld_lt up (show 0 < x by omega)
  constructor
  · rintro ⟨a, b⟩; exact ⟨a, by omega, b⟩
  · rintro ⟨a, _, b⟩; exact ⟨a, b⟩
include up in
theorem gone_down {l : List Nat} {x : Nat} (hx : 0 < x) (hn : x < es.length + 1) (h : eld es x ∈ goneOf es l) : x ∈ goneOf es l := by
  obtain ⟨t, h1, h2⟩ := mem_goneOf.mp h
  have h3 := isBelow_le up (mem_below.mp h2).2
  have h4 := eld_lt up hx
  exact mem_goneOf.mpr ⟨t, h1, (below_eld up (show t < x by omega)).mpr ⟨hn, h2⟩⟩
theorem self_gone {l : List Nat} {t : Nat} (h : t ∈ l) (hn : t < es.length + 1) : t ∈ goneOf es l := mem_goneOf.mpr ⟨t, h, mem_below.mpr ⟨hn, isBelow_self⟩⟩
include up in
/-- one minute of a fire: from what burns at m to what burns at m + 1 -/
theorem burn_step {b s' : List Nat} {m : Nat} {l l' : List Nat} (hb : ∀ x, x ∈ b ↔ x < es.length + 1 ∧ depth es x ≤ m ∧ x ∉ goneOf es l) (hs : ∀ x, x ∈ s' ↔ x ∈ l') (hll : ∀ x, x ∈ l → x ∈ l') (hnew : ∀ x, x ∈ l' → x ∉ l → depth es x = m + 1) (hlt : ∀ x, x ∈ l' → x < es.length + 1) :
    ∀ x, x ∈ b ++ fresh es b s' ↔ x < es.length + 1 ∧ depth es x ≤ m + 1 ∧ x ∉ goneOf es l' := fun x => by
  rw [List.mem_append, hb, mem_fresh, hb, hb, hs]
  have new_deep : ∀ y, y ∈ goneOf es l' → y ∉ goneOf es l → m + 1 ≤ depth es y := fun y h1 h2 => by
    obtain ⟨t, ht, hy⟩ := mem_goneOf.mp h1
    have := isBelow_depth up (mem_below.mp hy).2
    have := hnew t ht fun h => h2 (mem_goneOf.mpr ⟨t, h, hy⟩)
    omega
  have sub : ∀ y, y ∈ goneOf es l → y ∈ goneOf es l' := fun y h => by
    obtain ⟨t, ht, hy⟩ := mem_goneOf.mp h
    exact mem_goneOf.mpr ⟨t, hll t ht, hy⟩
  constructor
  · rintro (⟨h1, h2, h3⟩ | ⟨⟨h1, h2⟩, ⟨h3, h4, h5⟩, h6, h7⟩)
    · exact ⟨h1, by omega, fun h => by have := new_deep x h h3; omega⟩
    · have hd := depth_step up (show 0 < x by omega)
      refine ⟨h2, by omega, fun h => ?_⟩
      obtain ⟨t, ht, hx⟩ := mem_goneOf.mp h
      have hle := isBelow_le up (mem_below.mp hx).2
      by_cases c : t = x
      · exact h7 (c ▸ ht)
      · have hq : eld es x ∈ goneOf es l' := mem_goneOf.mpr ⟨t, ht, ((below_eld up (show t < x by omega)).mp hx).2⟩
        have := new_deep _ hq h5
        omega
  · rintro ⟨h1, h2, h3⟩
    by_cases c : depth es x ≤ m
    · exact .inl ⟨h1, c, fun h => h3 (sub x h)⟩
    · right
      have hx : 0 < x := by
        refine Nat.pos_of_ne_zero fun e => ?_
        subst e
        have h0 : depth es 0 = 0 := rfl
        omega
      have hd := depth_step up hx
      have hl := eld_lt up hx
      refine ⟨⟨hx, h1⟩, ⟨by omega, by omega, fun h => h3 (sub x (gone_down up hx h1 h))⟩, fun h => c h.2.1, fun h => h3 (self_gone h h1)⟩
include up in
/-- the state of the fire under a level plan -/
theorem level_run {plan : List Nat} (hl : IsLv es 1 [] plan) : ∀ m, ∃ r b s, run es (somes plan) m = .ok (r, b, s) ∧ (∀ x, x ∈ b ↔ x < es.length + 1 ∧ depth es x ≤ m ∧ x ∉ goneOf es (plan.take m)) ∧ s = plan.take m
  | 0 => by
    refine ⟨[[0]], [0], [], rfl, fun x => ?_, by rw [List.take_zero]⟩
    rw [List.take_zero, List.mem_singleton]
    constructor
    · rintro rfl
      exact ⟨by omega, Nat.le_refl _, by simp [goneOf]⟩
    · rintro ⟨h1, h2, _⟩
      refine Nat.eq_zero_of_not_pos fun hx => ?_
      have := depth_pos up hx
      omega
  | m + 1 => by
    obtain ⟨r, b, s, h1, h2, h3⟩ := level_run hl m
    cases hp : plan[m]? with
    | none =>
      have hlen : plan.length ≤ m := List.getElem?_eq_none_iff.mp hp
      have hst : shutStep (es.length + 1) (somes plan)[m]? b s = .ok s := shut_behind (by unfold somes; rw [List.length_map]; exact hlen)
      have t1 : plan.take (m + 1) = plan.take m := by rw [List.take_of_length_le hlen, List.take_of_length_le (by omega)]
      refine ⟨_, _, _, run_step h1 hst, ?_, by rw [h3, t1]⟩
      rw [t1]
      exact burn_step up h2 (fun x => by rw [h3]) (fun x h => h) (fun x h1 h2 => absurd h1 h2) fun x hx => by
        obtain ⟨i, hi⟩ := List.getElem?_of_mem hx
        rw [List.getElem?_take] at hi
        split at hi
        · have := (mem_avail.mp (level_get hl hi)).1
          omega
        · cases hi
    | some t =>
      have hlt : m < plan.length := (List.getElem?_eq_some_iff.mp hp).1
      have ht := level_get hl hp
      rw [List.nil_append] at ht
      obtain ⟨⟨ht1, ht2⟩, ht3, ht4⟩ := mem_avail.mp ht
      have t1 : plan.take (m + 1) = plan.take m ++ [t] := by
        rw [List.take_succ, hp]
        rfl
      have nb : t ∉ b := fun h => by have := ((h2 t).mp h).2.1; omega
      have ns : t ∉ s := fun h => ht4 (by rw [h3] at h; exact self_gone h ht2)
      have hst : shutStep (es.length + 1) (somes plan)[m]? b s = .ok (s ++ [t]) := by
        rw [somes_get hp]
        show (if 0 ≤ (t : Int) ∧ (t : Int) < ((es.length + 1 : Nat) : Int) then (if (t : Int).toNat ∈ b ∨ (t : Int).toNat ∈ s then Except.error 2 else .ok (s ++ [(t : Int).toNat])) else .error 1) = _
        rw [if_pos ⟨by omega, by omega⟩, Int.toNat_natCast, if_neg (fun h => h.elim nb ns)]
      refine ⟨_, _, _, run_step h1 hst, ?_, by rw [h3, t1]⟩
      rw [t1]
      refine burn_step up h2 (fun x => by rw [h3]) (fun x h => List.mem_append_left _ h) (fun x hx hn => ?_) fun x hx => ?_
      · rcases List.mem_append.mp hx with hx | hx
        · exact absurd hx hn
        · rw [List.mem_singleton.mp hx]; omega
      · rcases List.mem_append.mp hx with hx | hx
        · obtain ⟨i, hi⟩ := List.getElem?_of_mem hx
          rw [List.getElem?_take] at hi
          split at hi
          · have := (mem_avail.mp (level_get hl hi)).1
            omega
          · cases hi
        · rw [List.mem_singleton.mp hx]; exact ht2
include up in
/-- the worths below the things of a level plan stand apart -/
theorem level_wsum (hlen : es.length + 1 = ws.length) : ∀ (plan : List Nat) (d : Nat) (g : List Nat), IsLevel es d g plan → (∀ x, 0 < x → x < es.length + 1 → eld es x ∈ g → x ∈ g) → planWorth es ws plan = wsum ws fun x => decide (x ∈ goneOf es plan)
  | [], d, g, _, _ => by
    have : (fun x => decide (x ∈ goneOf es [])) = fun _ => false := by funext x; simp [goneOf]
    rw [this, wsum_false]
    rfl
  | t :: r, d, g, h, hg => by
    obtain ⟨⟨h1, h2⟩, h3, h4⟩ := mem_avail.mp h.1
    have hg' : ∀ x, 0 < x → x < es.length + 1 → eld es x ∈ g ++ below es t → x ∈ g ++ below es t := fun x hx hn he => by
      rcases List.mem_append.mp he with he | he
      · exact List.mem_append_left _ (hg x hx hn he)
      · have h5 := isBelow_le up (mem_below.mp he).2
        have h6 := eld_lt up hx
        exact List.mem_append_right _ ((below_eld up (show t < x by omega)).mpr ⟨hn, he⟩)
    have ih := level_wsum hlen r (d + 1) _ h.2 hg'
    show worth es ws t + planWorth es ws r = _
    rw [ih, worth_wsum hlen]
    rw [← wsum_or ws (fun x hx h5 h6 => ?_)]
    · refine wsum_congr fun x hx => ?_
      have e : decide (x ∈ goneOf es (t :: r)) = (decide (x ∈ below es t) || decide (x ∈ goneOf es r)) := by
        rw [goneOf]
        by_cases c1 : x ∈ below es t
        · simp [c1]
        · simp [c1]
      rw [e]
      have e2 : decide (x ∈ below es t) = isBelow es t x := by
        cases hb : isBelow es t x with
        | true => exact decide_eq_true (mem_below.mpr ⟨by omega, hb⟩)
        | false => exact decide_eq_false fun h => by rw [(mem_below.mp h).2] at hb; cases hb
      rw [e2]
    · -- x below t and below a later one: then the later one is below t, and gone
      obtain ⟨u, hu, hxu⟩ := mem_goneOf.mp (of_decide_eq_true h6)
      obtain ⟨k, hk⟩ := List.getElem?_of_mem hu
      obtain ⟨⟨_, u2⟩, u3, u4⟩ := mem_avail.mp (level_get (IsLevel.lv h.2) hk)
      have := isBelow_two up h5 (mem_below.mp hxu).2 (by omega)
      exact u4 (List.mem_append_left _ (List.mem_append_right _ (mem_below.mpr ⟨u2, this⟩)))
include up in
/-- what a level plan saves -/
theorem level_saved (hlen : es.length + 1 = ws.length) {plan : List Nat} (hl : IsLevel es 1 [] plan) : ∃ r b s, fire es (somes plan) = .ok (r, b, s) ∧ saved ws b = planWorth es ws plan := by
  obtain ⟨r, b, s, h1, h2, _⟩ := level_run up hl.lv ((somes plan).length + (es.length + 1))
  refine ⟨r, b, s, h1, ?_⟩
  rw [saved_wsum, level_wsum up hlen plan 1 [] hl (fun x _ _ h => by cases h)]
  refine wsum_congr fun x hx => ?_
  have hd := depth_le up x
  have e1 : plan.take ((somes plan).length + (es.length + 1)) = plan := List.take_of_length_le (by unfold somes; rw [List.length_map]; omega)
  rw [e1] at h2
  by_cases c : x ∈ goneOf es plan
  · have : x ∉ b := fun h => ((h2 x).mp h).2.2 c
    simp [c, this]
  · have : x ∈ b := (h2 x).mpr ⟨by omega, by omega, c⟩
    simp [c, this]
end
end Fm
/-! The mathematics of all plans: none saves more than the best level plan. No program here. -/
namespace Fm
/-! ### what any plan's fire is -/
structure Burn (es : List Nat) (plan : List (Option Int)) (r : List (List Nat)) (b s : List Nat) (m : Nat) : Prop where
  dep : ∀ x, x ∈ b → depth es x ≤ m
  cl : ∀ t, 0 < t → t < es.length + 1 → eld es t ∈ b → depth es t ≤ m → t ∈ b ∨ t ∈ s
  row : ∀ k l, r[k]? = some l → ∀ x, x ∈ l → depth es x = k
  sh : ∀ u, u ∈ s → ∃ j, j < m ∧ plan[j]? = some (some (u : Int))
  un : ∀ x, x < es.length + 1 → depth es x ≤ m → x ∈ b ∨ ∃ u j, isBelow es u x = true ∧ plan[j]? = some (some (u : Int)) ∧ j + 1 ≤ depth es u
theorem shut_cases {n : Nat} {o : Option (Option Int)} {b s s' : List Nat} (h : shutStep n o b s = .ok s') : s' = s ∨ ∃ u : Nat, o = some (some (u : Int)) ∧ s' = s ++ [u] := by
  unfold shutStep at h
  split at h
  · rename_i z
    split at h
    · rename_i hz
      split at h
      · cases h
      · cases h
        exact .inr ⟨z.toNat, by rw [Int.toNat_of_nonneg hz.1], rfl⟩
    · cases h
  · cases h
    exact .inl rfl
section
variable {es ws : List Nat} (up : ∀ (k v : Nat), es[k]? = some v → v ≤ k)
include up in
theorem burn_run {plan : List (Option Int)} : ∀ {m : Nat} {r : List (List Nat)} {b s : List Nat}, run es plan m = .ok (r, b, s) → Burn es plan r b s m
  | 0, r, b, s, h => by
    cases h
    refine ⟨fun x hx => ?_, fun t h0 _ _ hd => ?_, fun k l hk x hx => ?_, fun u hu => (by cases hu), fun x hx hd => ?_⟩
    · rw [List.mem_singleton.mp hx]; exact Nat.le_refl _
    · have := depth_pos up h0
      omega
    · cases k with
      | zero => cases hk; rw [List.mem_singleton.mp hx]; rfl
      | succ k => cases hk
    · left
      refine List.mem_singleton.mpr (Nat.eq_zero_of_not_pos fun h0 => ?_)
      have := depth_pos up h0
      omega
  | m + 1, r, b, s, h => by
    rw [run] at h
    cases e : run es plan m with
    | error c => rw [e] at h; cases h
    | ok v =>
      obtain ⟨r0, b0, s0⟩ := v
      rw [e] at h
      simp only at h
      cases e2 : shutStep (es.length + 1) plan[m]? b0 s0 with
      | error c => rw [e2] at h; cases h
      | ok s1 =>
        rw [e2] at h
        cases h
        have B := burn_run e
        have hlen := (good_run e).len
        have sub : ∀ u, u ∈ s0 → u ∈ s := fun u hu => by
          rcases shut_cases e2 with h1 | ⟨v, _, h1⟩
          · rw [h1]; exact hu
          · rw [h1]; exact List.mem_append_left _ hu
        have fr : ∀ t, t ∈ fresh es b0 s → depth es t = m + 1 := fun t ht => by
          obtain ⟨⟨h1, h2⟩, h3, h4, h5⟩ := mem_fresh.mp ht
          have hd := depth_step up (show 0 < t by omega)
          have hp := B.dep _ h3
          by_cases c : depth es t ≤ m
          · rcases B.cl t (by omega) h2 h3 c with h6 | h6
            · exact absurd h6 h4
            · exact absurd (sub t h6) h5
          · omega
        have sh : ∀ u, u ∈ s → ∃ j, j < m + 1 ∧ plan[j]? = some (some (u : Int)) := fun u hu => by
          rcases shut_cases e2 with h1 | ⟨v, ho, h1⟩
          · rw [h1] at hu
            obtain ⟨j, h2, h3⟩ := B.sh u hu
            exact ⟨j, by omega, h3⟩
          · rw [h1] at hu
            rcases List.mem_append.mp hu with hu | hu
            · obtain ⟨j, h2, h3⟩ := B.sh u hu
              exact ⟨j, by omega, h3⟩
            · rw [List.mem_singleton.mp hu]
              exact ⟨m, by omega, ho⟩
        refine ⟨fun x hx => ?_, fun t h0 hn he hd => ?_, fun k l hk x hx => ?_, sh, fun x hx hd => ?_⟩
        · rcases List.mem_append.mp hx with hx | hx
          · have := B.dep x hx
            omega
          · rw [fr x hx]; exact Nat.le_refl _
        · have hs := depth_step up h0
          rcases List.mem_append.mp he with he | he
          · by_cases c : t ∈ b0
            · exact .inl (List.mem_append_left _ c)
            · by_cases c2 : t ∈ s
              · exact .inr c2
              · exact .inl (List.mem_append_right _ (mem_fresh.mpr ⟨⟨by omega, hn⟩, he, c, c2⟩))
          · have := fr _ he
            omega
        · rw [List.getElem?_append] at hk
          split at hk
          · exact B.row k l hk x hx
          · cases hk2 : k - r0.length with
            | zero =>
              rw [hk2] at hk
              cases hk
              rw [fr x hx]
              omega
            | succ j => rw [hk2] at hk; cases hk
        · by_cases c : depth es x ≤ m
          · rcases B.un x hx c with h1 | h1
            · exact .inl (List.mem_append_left _ h1)
            · exact .inr h1
          · have h0 : 0 < x := by
              refine Nat.pos_of_ne_zero fun e => ?_
              subst e
              have h0 : depth es 0 = 0 := rfl
              omega
            have hs := depth_step up h0
            have hl := eld_lt up h0
            rcases B.un (eld es x) (by omega) (by omega) with h1 | ⟨u, j, h1, h2, h3⟩
            · have nb : x ∉ b0 := fun h => c (B.dep x h)
              by_cases c2 : x ∈ s
              · obtain ⟨j, h2, h3⟩ := sh x c2
                exact .inr ⟨x, j, isBelow_self, h3, by omega⟩
              · exact .inl (List.mem_append_right _ (mem_fresh.mpr ⟨⟨by omega, hx⟩, h1, nb, c2⟩))
            · have := isBelow_le up h1
              exact .inr ⟨u, j, by rw [isBelow_step up (show u < x by omega)]; exact h1, h2, h3⟩
/-! ### the bound -/
def Down (es g : List Nat) : Prop := ∀ x, 0 < x → x < es.length + 1 → eld es x ∈ g → x ∈ g
include up in
theorem Down.app {g : List Nat} (hg : Down es g) (t : Nat) : Down es (g ++ below es t) := fun x hx hn he => by
  rcases List.mem_append.mp he with he | he
  · exact List.mem_append_left _ (hg x hx hn he)
  · have h5 := isBelow_le up (mem_below.mp he).2
    have h6 := eld_lt up hx
    exact List.mem_append_right _ ((below_eld up (show t < x by omega)).mpr ⟨hn, he⟩)
include up in
theorem Down.go {g : List Nat} (hg : Down es g) {a : Nat} (ha : a ∈ g) : ∀ {x : Nat}, x < es.length + 1 → isBelow es a x = true → x ∈ g := fun {x} => by
  induction x using Nat.strongRecOn with
  | ind x ih =>
    intro hx h
    by_cases c : a < x
    · have hl := eld_lt up (show 0 < x by omega)
      exact hg x (by omega) hx (ih _ hl (by omega) (by rw [← isBelow_step up c]; exact h))
    · have := isBelow_le up h
      have e : x = a := by omega
      rw [e]
      exact ha
include up in
theorem lb_bound (hlen : es.length + 1 = ws.length) (C : Nat → Nat → Prop) (hC : ∀ d t, C d t → depth es t = d ∧ t < es.length + 1) (hu : ∀ d t t', C d t → C d t' → t = t') : ∀ (n d : Nat) (g : List Nat) (p : Nat → Bool), 1 ≤ d → Down es g → es.length + 1 ≤ d + n →
    (∀ x, x < ws.length → p x = true → x ∉ g ∧ ∃ d' t, d ≤ d' ∧ C d' t ∧ isBelow es t x = true) → wsum ws p ≤ lb es ws n d g
  | 0, d, g, p, hd, hg, hn, hp => by
    rw [lb, ← wsum_false ws]
    refine wsum_mono fun x hx hpx => ?_
    obtain ⟨_, d', t, h1, h2, h3⟩ := hp x hx hpx
    have h4 := isBelow_le up h3
    have h5 := depth_le up t
    have h6 := (hC _ _ h2).1
    omega
  | n + 1, d, g, p, hd, hg, hn, hp => by
    have ih := lb_bound hlen C hC hu n
    have key : ∀ a, a ∈ avail es d g → (∀ t, C d t → t = a ∨ t ∈ g) → wsum ws p ≤ lb es ws (n + 1) d g := fun a ha hca => by
      refine Nat.le_trans ?_ (lb_ge (ws := ws) (n := n) ha)
      refine Nat.le_trans (wsum_mono (q := fun x => isBelow es a x || (p x && !isBelow es a x)) fun x hx hpx => ?_) (Nat.le_trans (wsum_or_le ws _ _) ?_)
      · cases isBelow es a x
        · rw [hpx]; rfl
        · rfl
      · rw [worth_wsum hlen]
        refine Nat.add_le_add_left (ih (d + 1) (g ++ below es a) _ (by omega) (hg.app up a) (by omega) fun x hx hq => ?_) _
        have hpx : p x = true := by
          cases e : p x with
          | true => rfl
          | false => rw [e] at hq; cases hq
        have hax : isBelow es a x = false := by
          cases e : isBelow es a x with
          | false => rfl
          | true => rw [e, hpx] at hq; cases hq
        obtain ⟨h1, d', t, h2, h3, h4⟩ := hp x hx hpx
        refine ⟨fun h => ?_, d', t, ?_, h3, h4⟩
        · rcases List.mem_append.mp h with h | h
          · exact h1 h
          · rw [(mem_below.mp h).2] at hax
            cases hax
        · by_cases c : d' = d
          · subst c
            rcases hca t h3 with h5 | h5
            · rw [← h5, h4] at hax; cases hax
            · exact absurd (hg.go up h5 (by omega) h4) h1
          · omega
    by_cases c : ∃ t, C d t ∧ t ∉ g ∧ t < es.length + 1
    · obtain ⟨t, h1, h2, h3⟩ := c
      have h4 := (hC _ _ h1).1
      have h5 : 0 < t := by
        refine Nat.pos_of_ne_zero fun e => ?_
        subst e
        have h0 : depth es 0 = 0 := rfl
        omega
      exact key t (mem_avail.mpr ⟨⟨h5, h3⟩, h4, h2⟩) fun t' ht' => .inl (hu d t' t ht' h1)
    · by_cases ha : avail es d g = []
      · refine Nat.le_trans (wsum_mono (q := fun _ => false) fun x hx hpx => ?_) (by rw [wsum_false]; exact Nat.zero_le _)
        obtain ⟨h1, d', t, h2, h3, h4⟩ := hp x hx hpx
        have h5 := (hC _ _ h3).1
        have h6 := isBelow_depth up h4
        obtain ⟨a, a1, a2, a3⟩ := ancestor up (x := x) (d := d) (by omega)
        have a4 : 0 < a := by
          refine Nat.pos_of_ne_zero fun e => ?_
          subst e
          have h0 : depth es 0 = 0 := rfl
          omega
        have a5 : a ∈ g := by
          by_cases c5 : a ∈ g
          · exact c5
          · have : a ∈ avail es d g := mem_avail.mpr ⟨⟨a4, by omega⟩, a2, c5⟩
            rw [ha] at this
            cases this
        exact absurd (hg.go up a5 (by omega) a1) h1
      · obtain ⟨a, ha⟩ := List.exists_mem_of_ne_nil _ ha
        refine key a ha fun t ht => ?_
        by_cases c2 : t ∈ g
        · exact .inr c2
        · exact absurd ⟨t, ht, c2, (hC _ _ ht).2⟩ c
include up in
/-- no plan saves more than the best -/
theorem fire_bound (hlen : es.length + 1 = ws.length) {plan : List (Option Int)} {r : List (List Nat)} {b s : List Nat} (h : fire es plan = .ok (r, b, s)) {n : Nat} (hn : es.length ≤ n) : saved ws b ≤ lb es ws n 1 [] := by
  have B := burn_run up h
  rw [saved_wsum]
  refine lb_bound up hlen (fun d t => ∃ u : Nat, plan[d - 1]? = some (some (u : Int)) ∧ isBelow es t u = true ∧ depth es t = d ∧ t < es.length + 1) (fun d t ⟨u, h1, h2, h3, h4⟩ => ⟨h3, h4⟩) (fun d t t' ⟨u, h1, h2, h3, h4⟩ ⟨u', h1', h2', h3', h4'⟩ => ?_) n 1 [] _ (Nat.le_refl _) (fun x _ _ h => by cases h) (by omega) fun x hx hp => ?_
  · rw [h1] at h1'
    injection h1' with h1'
    injection h1' with h1'
    have e : u = u' := by omega
    subst e
    have a1 := isBelow_le up (isBelow_two up h2 h2' (by omega))
    have a2 := isBelow_le up (isBelow_two up h2' h2 (by omega))
    omega
  · have nb : x ∉ b := of_decide_eq_false (by simpa using hp)
    have hd := depth_le up x
    rcases B.un x (by omega) (by omega) with h1 | ⟨u, j, h1, h2, h3⟩
    · exact absurd h1 nb
    · obtain ⟨a, a1, a2, a3⟩ := ancestor up (x := u) (d := j + 1) h3
      have := isBelow_le up h1
      exact ⟨by simp, j + 1, a, by omega, ⟨u, by rw [Nat.add_sub_cancel]; exact h2, a1, a2, by omega⟩, isBelow_trans up a1 h1⟩
/-! ### rows cut -/
theorem trim_split (r : List (List Nat)) : ∃ j, r = trim r ++ List.replicate j [] := by
  induction h : r.length generalizing r with
  | zero =>
    have : r = [] := List.length_eq_zero_iff.mp h
    subst this
    exact ⟨0, rfl⟩
  | succ n ih =>
    have hn : r ≠ [] := fun e => by rw [e] at h; cases h
    have hr := (List.dropLast_concat_getLast hn).symm
    by_cases c : r.getLast hn = []
    · rw [c] at hr
      obtain ⟨j, hj⟩ := ih r.dropLast (by rw [List.length_dropLast]; omega)
      refine ⟨j + 1, ?_⟩
      have e : trim r = trim r.dropLast := by
        conv => lhs; rw [hr]
        exact trim_snoc_nil _
      rw [e, List.replicate_succ', ← List.append_assoc, ← hj]
      exact hr
    · refine ⟨0, ?_⟩
      have e : trim r = r := by
        conv => lhs; rw [hr]
        rw [trim_snoc _ c]
        exact hr.symm
      rw [e]
      exact (List.append_nil _).symm
theorem trim_last {r : List (List Nat)} {x : List Nat} (h : (trim r).getLast? = some x) : x ≠ [] := by
  unfold trim at h
  rw [List.getLast?_reverse] at h
  intro e
  subst e
  have := List.head?_dropWhile_not (fun x : List Nat => x == []) r.reverse
  rw [h] at this
  simp at this
theorem trim_le {r : List (List Nat)} {L : Nat} (h : ∀ k l, L ≤ k → r[k]? = some l → l = []) : (trim r).length ≤ L := by
  refine Nat.le_of_not_lt fun c => ?_
  have hn : trim r ≠ [] := fun e => by rw [e] at c; cases c
  have hl := List.getLast?_eq_some_getLast hn
  have hi : (trim r)[(trim r).length - 1]? = some ((trim r).getLast hn) := by rw [← List.getLast?_eq_getElem?]; exact hl
  obtain ⟨j, hj⟩ := trim_split r
  refine trim_last hl (h ((trim r).length - 1) _ (by omega) ?_)
  have e : r[(trim r).length - 1]? = (trim r ++ List.replicate j [])[(trim r).length - 1]? := congrArg (fun z : List (List Nat) => z[(trim r).length - 1]?) hj
  rw [e, List.getElem?_append_left (by omega)]
  exact hi
theorem trim_ge {r : List (List Nat)} {k : Nat} {l : List Nat} (h : (trim r).length ≤ k) (hk : r[k]? = some l) : l = [] := by
  obtain ⟨j, hj⟩ := trim_split r
  rw [hj, List.getElem?_append_right h] at hk
  obtain ⟨h1, h2⟩ := List.getElem?_eq_some_iff.mp hk
  rw [List.getElem_replicate] at h2
  exact h2.symm
include up in
theorem trim_depth {plan : List (Option Int)} {r : List (List Nat)} {b s : List Nat} (h : fire es plan = .ok (r, b, s)) : (trim r).length ≤ es.length + 1 := by
  refine trim_le fun k l hk hl => ?_
  cases l with
  | nil => rfl
  | cons a t =>
    have h1 := (burn_run up h).row k _ hl a List.mem_cons_self
    have h2 := (good_run h).rlt _ (List.mem_of_getElem? hl) a List.mem_cons_self
    have h3 := depth_le up a
    omega
/-- a minute without shutting off behind a plan changes nothing -/
theorem run_none (plan : List (Option Int)) : ∀ m, run es (plan ++ [none]) m = run es plan m
  | 0 => rfl
  | m + 1 => by
    have e : ∀ b s, shutStep (es.length + 1) (plan ++ [none])[m]? b s = shutStep (es.length + 1) plan[m]? b s := fun b s => by
      by_cases c : m < plan.length
      · rw [List.getElem?_append_left c]
      · rw [List.getElem?_append_right (by omega), List.getElem?_eq_none (l := plan) (by omega)]
        cases m - plan.length <;> rfl
    rw [run, run, run_none plan m]
    cases run es plan m with
    | error c => rfl
    | ok v =>
      obtain ⟨r, b, s⟩ := v
      simp only
      rw [e]
theorem fire_none {plan : List (Option Int)} {r : List (List Nat)} {b s : List Nat} (h : fire es plan = .ok (r, b, s)) : fire es (plan ++ [none]) = .ok (r ++ [[]], b, s) := by
  unfold fire
  rw [run_none, List.length_append, show plan.length + [(none : Option Int)].length + (es.length + 1) = plan.length + (es.length + 1) + 1 by simp; omega]
  exact run_over h (by omega) (fire_over h) 1
def isOk {α : Type} : Except Nat α → Bool
  | .ok _ => true
  | .error _ => false
/-- the law's search through all plans -/
def af (es ws : List Nat) : Nat → List (Option Int) → Nat
  | 0, _ => 0
  | n + 1, plan => match fire es plan with
    | .error _ => 0
    | .ok (r, b, _) => if (trim r).length ≤ plan.length + 1 then saved ws b else
      max ((List.range' 1 es.length).foldl (fun acc (t : Nat) => if isOk (fire es (plan ++ [some (t : Int)])) = true then max acc (af es ws n (plan ++ [some (t : Int)])) else acc) (saved ws b)) (af es ws n (plan ++ [none]))
theorem foldif_ge (f : Nat → Bool) (v : Nat → Nat) : ∀ (l : List Nat) (a : Nat), a ≤ l.foldl (fun acc t => if f t = true then max acc (v t) else acc) a ∧ ∀ t ∈ l, f t = true → v t ≤ l.foldl (fun acc t => if f t = true then max acc (v t) else acc) a
  | [], a => ⟨Nat.le_refl _, fun t h => by cases h⟩
  | x :: l, a => by
    rw [List.foldl_cons]
    by_cases c : f x = true
    · rw [if_pos c]
      obtain ⟨h1, h2⟩ := foldif_ge f v l (max a (v x))
      refine ⟨by omega, fun t ht hf => ?_⟩
      rcases List.mem_cons.mp ht with rfl | ht
      · omega
      · exact h2 t ht hf
    · rw [if_neg c]
      obtain ⟨h1, h2⟩ := foldif_ge f v l a
      refine ⟨h1, fun t ht hf => ?_⟩
      rcases List.mem_cons.mp ht with rfl | ht
      · exact absurd hf c
      · exact h2 t ht hf
theorem foldif_le (f : Nat → Bool) (v : Nat → Nat) (U : Nat) : ∀ (l : List Nat) (a : Nat), a ≤ U → (∀ t ∈ l, v t ≤ U) → l.foldl (fun acc t => if f t = true then max acc (v t) else acc) a ≤ U
  | [], a, h, _ => h
  | x :: l, a, h, hv => by
    rw [List.foldl_cons]
    refine foldif_le f v U l _ ?_ fun t ht => hv t (List.mem_cons_of_mem _ ht)
    have := hv x List.mem_cons_self
    split <;> omega
theorem af_le {U : Nat} (hU : ∀ plan r b s, fire es plan = .ok (r, b, s) → saved ws b ≤ U) : ∀ n plan, af es ws n plan ≤ U
  | 0, _ => Nat.zero_le _
  | n + 1, plan => by
    rw [af]
    cases h : fire es plan with
    | error c => exact Nat.zero_le _
    | ok v =>
      obtain ⟨r, b, s⟩ := v
      simp only
      split
      · exact hU _ _ _ _ h
      · exact Nat.max_le.mpr ⟨foldif_le _ _ U _ _ (hU _ _ _ _ h) fun t _ => af_le hU n _, af_le hU n _⟩
theorem somes_snoc (l : List Nat) (t : Nat) : somes (l ++ [t]) = somes l ++ [some (t : Int)] := by
  unfold somes
  rw [List.map_append]
  rfl
theorem somes_len (l : List Nat) : (somes l).length = l.length := List.length_map _
include up in
/-- the law's search finds the level plan -/
theorem af_ge {L : List Nat} (hl : IsLevel es 1 [] L) {rL : List (List Nat)} {bL sL : List Nat} (hL : fire es (somes L) = .ok (rL, bL, sL)) : ∀ n k, k ≤ L.length → es.length + 1 ≤ k + n → saved ws bL ≤ af es ws n (somes (L.take k))
  | 0, k, hk, hn => by
    have := level_len up L 1 [] hl (by omega)
    omega
  | n + 1, k, hk, hn => by
    have hlv := IsLv.take k hl.lv
    have tlen : (L.take k).length = k := by rw [List.length_take]; omega
    have hlen := level_len up L 1 [] hl (by omega)
    obtain ⟨r, b, s, h1, h2, h3⟩ := level_run up hlv ((somes (L.take k)).length + (es.length + 1))
    have hf : fire es (somes (L.take k)) = .ok (r, b, s) := h1
    rw [af, hf]
    simp only
    rw [somes_len, tlen]
    by_cases c : (trim r).length ≤ k + 1
    · rw [if_pos c]
      -- the fire is over: the plan is whole
      by_cases ck : k < L.length
      · exfalso
        have hx : L[k]? = some L[k] := List.getElem?_eq_getElem ck
        have hav := level_get hl.lv hx
        rw [List.nil_append] at hav
        obtain ⟨⟨t1, t2⟩, t3, t4⟩ := mem_avail.mp hav
        -- at minute k
        obtain ⟨r0, b0, s0, g1, g2, g3⟩ := level_run up hlv k
        have e0 : (L.take k).take k = L.take k := List.take_of_length_le (by omega)
        rw [e0] at g2 g3
        have hst : shutStep (es.length + 1) (somes (L.take k))[k]? b0 s0 = .ok s0 := shut_behind (by rw [somes_len]; omega)
        have g4 := run_step g1 hst
        have hgood := good_run g1
        -- its next row is not empty
        have hd := depth_step up (show 0 < L[k] by omega)
        have hel := eld_lt up (show 0 < L[k] by omega)
        have hin : L[k] ∈ fresh es b0 s0 := mem_fresh.mpr ⟨⟨t1, t2⟩, (g2 _).mpr ⟨by omega, by omega, fun h => t4 (gone_down up t1 t2 h)⟩, fun h => by have := ((g2 _).mp h).2.1; omega, fun h => t4 (by rw [g3] at h; exact self_gone h t2)⟩
        -- the row stands in the whole fire
        obtain ⟨j, hj⟩ : ∃ j, (somes (L.take k)).length + (es.length + 1) = k + 1 + j := ⟨es.length, by rw [somes_len, tlen]; omega⟩
        have hrow : ∀ j, ∀ r' b' s', run es (somes (L.take k)) (k + 1 + j) = .ok (r', b', s') → r'[k + 1]? = some (fresh es b0 s0) := fun j => by
          induction j with
          | zero =>
            intro r' b' s' h
            rw [Nat.add_zero, g4] at h
            cases h
            rw [List.getElem?_append_right (by rw [hgood.len]; omega), hgood.len]
            simp
          | succ j ih =>
            intro r' b' s' h
            rw [Nat.add_succ, run] at h
            cases e : run es (somes (L.take k)) (k + 1 + j) with
            | error c => rw [e] at h; cases h
            | ok v =>
              obtain ⟨r1, b1, s1⟩ := v
              rw [e] at h
              simp only at h
              rw [shut_behind (by rw [somes_len]; omega)] at h
              cases h
              have := ih _ _ _ e
              rw [List.getElem?_append_left (by have := (good_run e).len; omega)]
              exact this
        rw [hj] at h1
        have := trim_ge c (hrow j _ _ _ h1)
        rw [this] at hin
        cases hin
      · have e : L.take k = L := List.take_of_length_le (by omega)
        rw [e, hL] at hf
        cases hf
        exact Nat.le_refl _
    · rw [if_neg c]
      by_cases ck : k < L.length
      · have hx : L[k]? = some L[k] := List.getElem?_eq_getElem ck
        obtain ⟨⟨t1, t2⟩, _, _⟩ := mem_avail.mp (level_get hl.lv hx)
        have e : L.take (k + 1) = L.take k ++ [L[k]] := by
          rw [List.take_succ, hx]
          rfl
        have ih := af_ge hl hL n (k + 1) (by omega) (by omega)
        obtain ⟨r', b', s', q1, _⟩ := level_run up (IsLv.take (k + 1) hl.lv) ((somes (L.take (k + 1))).length + (es.length + 1))
        have hf' : fire es (somes (L.take (k + 1))) = .ok (r', b', s') := q1
        rw [e, somes_snoc] at ih hf'
        have h4 := (foldif_ge (fun t => isOk (fire es (somes (L.take k) ++ [some (t : Int)]))) (fun t => af es ws n (somes (L.take k) ++ [some (t : Int)])) (List.range' 1 es.length) (saved ws b)).2 L[k] (List.mem_range'_1.mpr ⟨t1, by omega⟩) (by rw [hf']; rfl)
        exact Nat.le_trans ih (Nat.le_trans h4 (Nat.le_max_left _ _))
      · have e : L.take k = L := List.take_of_length_le (by omega)
        have hf2 := hf
        rw [e, hL] at hf2
        cases hf2
        have h4 := (foldif_ge (fun t => isOk (fire es (somes (L.take k) ++ [some (t : Int)]))) (fun t => af es ws n (somes (L.take k) ++ [some (t : Int)])) (List.range' 1 es.length) (saved ws bL)).1
        exact Nat.le_trans h4 (Nat.le_max_left _ _)
include up in
/-- all plans gone through: the greatest -/
theorem af_best (hlen : es.length + 1 = ws.length) {n m : Nat} (hn : es.length + 1 ≤ n) (hm : es.length ≤ m) : (bf es ws m 1 []).1 = (af es ws n [] : Int) := by
  obtain ⟨l1, l2⟩ := bf_level (ws := ws) up m 1 [] (by omega)
  obtain ⟨r, b, s, h1, h2⟩ := level_saved up hlen l1
  have a1 := af_ge (ws := ws) up l1 h1 n 0 (Nat.zero_le _) (by omega)
  have a2 := af_le (es := es) (ws := ws) (U := lb es ws m 1 []) (fun plan r b s h => fire_bound up hlen h hm) n []
  have a3 := bf_lb (es := es) (ws := ws) m 1 []
  rw [List.take_zero] at a1
  have e : somes [] = [] := rfl
  rw [e] at a1
  rw [h2] at a1
  omega
end
end Fm
/-! The mathematics of the greedy plan and the ceiling. No program here. -/
namespace Fm
/-- the first of the most worth -/
def pick (f : Nat → Nat) (l : List Nat) : Nat := l.foldl (fun b t => if f b < f t then t else b) (l.getD 0 0)
theorem pick_from (f : Nat → Nat) : ∀ (l : List Nat) (b r : Nat), r = l.foldl (fun b t => if f b < f t then t else b) b →
    (r = b ∧ ∀ t ∈ l, f t ≤ f b) ∨ (∃ (j : Nat), l[j]? = some r ∧ f b < f r ∧ (∀ t ∈ l, f t ≤ f r) ∧ ∀ (m t' : Nat), m < j → l[m]? = some t' → f t' < f r)
  | [], b, r, h => .inl ⟨h, fun t h => by cases h⟩
  | a :: l, b, r, h => by
    rw [List.foldl_cons] at h
    by_cases c : f b < f a
    · rw [if_pos c] at h
      rcases pick_from f l a r h with ⟨h1, h2⟩ | ⟨j, h1, h2, h3, h4⟩
      · right
        refine ⟨0, by rw [h1]; rfl, by rw [h1]; exact c, fun t ht => ?_, fun m t' hm => by omega⟩
        rcases List.mem_cons.mp ht with rfl | ht
        · rw [h1]; exact Nat.le_refl _
        · rw [h1]; exact h2 t ht
      · right
        refine ⟨j + 1, h1, by omega, fun t ht => ?_, fun m t' hm ht' => ?_⟩
        · rcases List.mem_cons.mp ht with rfl | ht
          · omega
          · exact h3 t ht
        · cases m with
          | zero => cases ht'; exact h2
          | succ m => exact h4 m t' (by omega) ht'
    · rw [if_neg c] at h
      rcases pick_from f l b r h with ⟨h1, h2⟩ | ⟨j, h1, h2, h3, h4⟩
      · left
        refine ⟨h1, fun t ht => ?_⟩
        rcases List.mem_cons.mp ht with rfl | ht
        · omega
        · exact h2 t ht
      · right
        refine ⟨j + 1, h1, h2, fun t ht => ?_, fun m t' hm ht' => ?_⟩
        · rcases List.mem_cons.mp ht with rfl | ht
          · omega
          · exact h3 t ht
        · cases m with
          | zero => cases ht'; omega
          | succ m => exact h4 m t' (by omega) ht'
theorem pick_first (f : Nat → Nat) {l : List Nat} (hl : l ≠ []) : ∃ (j : Nat), l[j]? = some (pick f l) ∧ (∀ t ∈ l, f t ≤ f (pick f l)) ∧ ∀ (m t' : Nat), m < j → l[m]? = some t' → f t' < f (pick f l) := by
  cases l with
  | nil => exact absurd rfl hl
  | cons a l =>
    rcases pick_from f (a :: l) a (pick f (a :: l)) rfl with ⟨h1, h2⟩ | ⟨j, h1, h2, h3, h4⟩
    · exact ⟨0, by rw [h1]; rfl, by rw [h1]; exact h2, fun m t' hm => by omega⟩
    · exact ⟨j, h1, h3, h4⟩
theorem pick_mem (f : Nat → Nat) {l : List Nat} (hl : l ≠ []) : pick f l ∈ l := by
  obtain ⟨j, h, _⟩ := pick_first f hl
  exact List.mem_of_getElem? h
/-- the greedy plan -/
def gr (es ws : List Nat) : Nat → Nat → List Nat → List Nat
  | 0, _, _ => []
  | n + 1, d, g => if avail es d g = [] then [] else pick (worth es ws) (avail es d g) :: gr es ws n (d + 1) (g ++ below es (pick (worth es ws) (avail es d g)))
section
variable {es ws : List Nat} (up : ∀ (k v : Nat), es[k]? = some v → v ≤ k)
include up in
theorem gr_level : ∀ (n d : Nat) (g : List Nat), es.length + 1 ≤ d + n → IsLevel es d g (gr es ws n d g)
  | 0, d, g, h => avail_deep up h g
  | n + 1, d, g, h => by
    rw [gr]
    by_cases c : avail es d g = []
    · rw [if_pos c]; exact c
    · rw [if_neg c]
      exact ⟨pick_mem _ c, gr_level n (d + 1) _ (by omega)⟩
/-- a level plan is worth no more than the best -/
theorem level_le_lb : ∀ (plan : List Nat) (n d : Nat) (g : List Nat), IsLevel es d g plan → plan.length ≤ n → planWorth es ws plan ≤ lb es ws n d g
  | [], n, d, g, _, _ => Nat.zero_le _
  | t :: r, 0, d, g, _, h => absurd h (Nat.not_succ_le_zero _)
  | t :: r, n + 1, d, g, hl, h => by
    have ih := level_le_lb r n (d + 1) _ hl.2 (Nat.le_of_succ_le_succ h)
    have h2 := lb_ge (ws := ws) (n := n) hl.1
    show worth es ws t + planWorth es ws r ≤ _
    omega
include up in
/-- what may be saved from here on, against the greedy plan -/
theorem gr_bound (hlen : es.length + 1 = ws.length) (C : Nat → Nat → Prop) (hC : ∀ d t, C d t → depth es t = d ∧ t < es.length + 1) (hu : ∀ d t t', C d t → C d t' → t = t') : ∀ (n d : Nat) (g : List Nat) (p : Nat → Bool), 1 ≤ d → Down es g → es.length + 1 ≤ d + n →
    (∀ x, x < ws.length → p x = true → x ∉ g ∧ ∃ d' t, d ≤ d' ∧ C d' t ∧ isBelow es t x = true) → wsum ws p ≤ 2 * planWorth es ws (gr es ws n d g)
  | 0, d, g, p, hd, hg, hn, hp => by
    refine Nat.le_trans (wsum_mono (q := fun _ => false) fun x hx hpx => ?_) (by rw [wsum_false]; exact Nat.zero_le _)
    obtain ⟨_, d', t, h1, h2, h3⟩ := hp x hx hpx
    have h4 := isBelow_le up h3
    have h5 := depth_le up t
    have h6 := (hC _ _ h2).1
    omega
  | n + 1, d, g, p, hd, hg, hn, hp => by
    have ih := gr_bound hlen C hC hu n
    by_cases ha : avail es d g = []
    · refine Nat.le_trans (wsum_mono (q := fun _ => false) fun x hx hpx => ?_) (by rw [wsum_false]; exact Nat.zero_le _)
      obtain ⟨h1, d', t, h2, h3, h4⟩ := hp x hx hpx
      have h5 := (hC _ _ h3).1
      have h6 := isBelow_depth up h4
      obtain ⟨a, a1, a2, a3⟩ := ancestor up (x := x) (d := d) (by omega)
      have a4 : 0 < a := by
        refine Nat.pos_of_ne_zero fun e => ?_
        subst e
        have h0 : depth es 0 = 0 := rfl
        omega
      have a5 : a ∈ g := by
        by_cases c5 : a ∈ g
        · exact c5
        · have : a ∈ avail es d g := mem_avail.mpr ⟨⟨a4, by omega⟩, a2, c5⟩
          rw [ha] at this
          cases this
      exact absurd (hg.go up a5 (by omega) a1) h1
    · obtain ⟨j, j1, j2, _⟩ := pick_first (worth es ws) ha
      rw [gr, if_neg ha]
      generalize pick (worth es ws) (avail es d g) = a at j1 j2 ⊢
      -- o: the other's thing of this depth, if it was to be had
      have key : ∀ o : Nat → Bool, wsum ws o ≤ worth es ws a → (∀ t x, C d t → isBelow es t x = true → x ∉ g → x < ws.length → o x = true) → wsum ws p ≤ 2 * planWorth es ws (a :: gr es ws n (d + 1) (g ++ below es a)) := fun o ho hco => by
        have h1 : wsum ws p ≤ wsum ws (fun x => isBelow es a x || (o x || (p x && !isBelow es a x && !o x))) := wsum_mono fun x hx hpx => by
          rw [hpx]
          cases isBelow es a x <;> cases o x <;> rfl
        have h2 := wsum_or_le ws (isBelow es a) (fun x => o x || (p x && !isBelow es a x && !o x))
        have h3 := wsum_or_le ws o (fun x => p x && !isBelow es a x && !o x)
        have h4 := ih (d + 1) (g ++ below es a) (fun x => p x && !isBelow es a x && !o x) (by omega) (hg.app up a) (by omega) fun x hx hq => ?_
        · have h5 := worth_wsum hlen a
          show _ ≤ 2 * (worth es ws a + planWorth es ws (gr es ws n (d + 1) (g ++ below es a)))
          omega
        · have hpx : p x = true := by
            cases e : p x with
            | true => rfl
            | false => rw [e] at hq; cases hq
          have hax : isBelow es a x = false := by
            cases e : isBelow es a x with
            | false => rfl
            | true => rw [e, hpx] at hq; cases hq
          have hox : o x = false := by
            cases e : o x with
            | false => rfl
            | true => rw [e, hpx, hax] at hq; cases hq
          obtain ⟨h1, d', t, h2, h3, h4⟩ := hp x hx hpx
          refine ⟨fun h => ?_, d', t, ?_, h3, h4⟩
          · rcases List.mem_append.mp h with h | h
            · exact h1 h
            · rw [(mem_below.mp h).2] at hax
              cases hax
          · by_cases c : d' = d
            · subst c
              rw [hco t x h3 h4 h1 hx] at hox
              cases hox
            · omega
      by_cases c : ∃ t, C d t ∧ t ∉ g
      · obtain ⟨t, h1, h2⟩ := c
        obtain ⟨h4, h3⟩ := hC _ _ h1
        have h5 : 0 < t := by
          refine Nat.pos_of_ne_zero fun e => ?_
          subst e
          have h0 : depth es 0 = 0 := rfl
          omega
        refine key (isBelow es t) ?_ fun t' x ht' hx _ _ => by rw [hu d t t' h1 ht']; exact hx
        rw [← worth_wsum hlen]
        exact j2 t (mem_avail.mpr ⟨⟨h5, h3⟩, h4, h2⟩)
      · refine key (fun _ => false) (by rw [wsum_false]; exact Nat.zero_le _) fun t x ht hx hng hxl => ?_
        have : t ∈ g := by
          by_cases c2 : t ∈ g
          · exact c2
          · exact absurd ⟨t, ht, c2⟩ c
        exact absurd (hg.go up this (by omega) hx) hng
include up in
/-- the greedy plan saves at least half of the best -/
theorem gr_half (hlen : es.length + 1 = ws.length) {n : Nat} (hn : es.length ≤ n) : lb es ws n 1 [] ≤ 2 * planWorth es ws (gr es ws n 1 []) := by
  obtain ⟨l1, l2⟩ := bf_level (ws := ws) up n 1 [] (by omega)
  have l3 := bf_lb (es := es) (ws := ws) n 1 []
  generalize (bf es ws n 1 []).2 = L at l1 l2
  have e : lb es ws n 1 [] = planWorth es ws L := by omega
  rw [e, level_wsum up hlen L 1 [] l1 (fun x _ _ h => by cases h)]
  refine gr_bound up hlen (fun d t => 1 ≤ d ∧ L[d - 1]? = some t) (fun d t ⟨h0, h⟩ => ?_) (fun d t t' ⟨_, h⟩ ⟨_, h'⟩ => by rw [h] at h'; exact Option.some.inj h') n 1 [] _ (Nat.le_refl _) (fun x _ _ h => by cases h) (by omega) fun x hx hp => ?_
  · obtain ⟨⟨_, h1⟩, h2, _⟩ := mem_avail.mp (level_get l1.lv h)
    exact ⟨by omega, h1⟩
  · obtain ⟨u, hu, hxu⟩ := mem_goneOf.mp (of_decide_eq_true hp)
    obtain ⟨k, hk⟩ := List.getElem?_of_mem hu
    exact ⟨by simp, k + 1, u, by omega, ⟨by omega, by rw [Nat.add_sub_cancel]; exact hk⟩, (mem_below.mp hxu).2⟩
/-! ### the ceiling -/
def md (es ws : List Nat) (d : Nat) : Nat := (avail es d []).foldl (fun b t => max b (worth es ws t)) 0
def tops (es ws : List Nat) (d n : Nat) : Nat := ((List.range' d n).map (md es ws)).sum
theorem tops_succ (d n : Nat) : tops es ws d (n + 1) = md es ws d + tops es ws (d + 1) n := by
  unfold tops
  rw [List.range'_succ, List.map_cons, List.sum_cons]
theorem tops_snoc (d n : Nat) : tops es ws d (n + 1) = tops es ws d n + md es ws (d + n) := by
  unfold tops
  rw [List.range'_concat, List.map_append, List.sum_append, Nat.one_mul]
  simp
theorem avail_sub {d t : Nat} {g : List Nat} (h : t ∈ avail es d g) : t ∈ avail es d [] := by
  obtain ⟨h1, h2, _⟩ := mem_avail.mp h
  exact mem_avail.mpr ⟨h1, h2, by simp⟩
theorem lb_tops : ∀ (n d : Nat) (g : List Nat), lb es ws n d g ≤ tops es ws d n
  | 0, d, g => Nat.zero_le _
  | n + 1, d, g => by
    rw [lb, tops_succ]
    rcases foldmax_of (avail es d g) (fun t => worth es ws t + lb es ws n (d + 1) (g ++ below es t)) 0 with h | ⟨t, ht, h⟩
    · rw [h]; exact Nat.zero_le _
    · rw [h]
      have h1 := (foldmax_ge (avail es d []) (worth es ws) 0).2 t (avail_sub ht)
      exact Nat.add_le_add h1 (lb_tops n (d + 1) _)
theorem md_nil {d : Nat} (h : avail es d [] = []) : md es ws d = 0 := by
  unfold md
  rw [h]
  rfl
include up in
/-- beyond an empty depth all are empty -/
theorem avail_beyond {d e : Nat} (hd : 1 ≤ d) (h : avail es d [] = []) (he : d ≤ e) : avail es e [] = [] := by
  cases c : avail es e [] with
  | nil => rfl
  | cons x r =>
    have hx : x ∈ avail es e [] := by rw [c]; exact List.mem_cons_self
    obtain ⟨⟨h1, h2⟩, h3, _⟩ := mem_avail.mp hx
    obtain ⟨a, a1, a2, a3⟩ := ancestor up (x := x) (d := d) (by omega)
    have a4 : 0 < a := by
      refine Nat.pos_of_ne_zero fun e => ?_
      subst e
      have h0 : depth es 0 = 0 := rfl
      omega
    have : a ∈ avail es d [] := mem_avail.mpr ⟨⟨a4, by omega⟩, a2, by simp⟩
    rw [h] at this
    cases this
include up in
theorem tops_end {k : Nat} (h : avail es (k + 1) [] = []) : ∀ n, tops es ws 1 (k + n) = tops es ws 1 k
  | 0 => rfl
  | n + 1 => by
    rw [← Nat.add_assoc, tops_snoc, tops_end h n, md_nil (avail_beyond up (d := k + 1) (by omega) h (by omega)), Nat.add_zero]
theorem md_is {d m : Nat} (h : m ∈ (avail es d []).map (worth es ws)) (h2 : ∀ y, y ∈ (avail es d []).map (worth es ws) → y ≤ m) : m = md es ws d := by
  obtain ⟨t, ht, rfl⟩ := List.mem_map.mp h
  have h3 := (foldmax_ge (avail es d []) (worth es ws) 0).2 t ht
  rcases foldmax_of (avail es d []) (worth es ws) 0 with h4 | ⟨u, hu, h4⟩
  · have : md es ws d = 0 := h4
    unfold md at this ⊢
    omega
  · have h5 := h2 _ (List.mem_map.mpr ⟨u, hu, rfl⟩)
    have : md es ws d = worth es ws u := h4
    unfold md at this ⊢
    omega
end
end Fm
/-! The ground of the proofs: a def's promise by its name (Has, HasM), what reads evaluate to (over Evl), lists of numbers. -/
namespace Fi
open PySem L2 Evl

/-! ### the built-in names that the text does not bind -/
structure Bi (mg : Str → Option Value) : Prop where
  len : mg "len" = none
  range : mg "range" = none
  list : mg "list" = none
  sum : mg "sum" = none
  max : mg "max" = none
  min : mg "min" = none
  isinstance : mg "isinstance" = none
  int : mg "int" = none
  bool : mg "bool" = none
  str : mg "str" = none
  tuple : mg "tuple" = none
  enumerate : mg "enumerate" = none
  ValueError : mg "ValueError" = none

/-! ### a def of the top, a method, by the promise -/
def Has (P : Program) (w : World) (K : PySem.W.Frag) (mg : Str → Option Value) (base : Heap) (CX : CXT) (x : Str) (ps : List Str) (k : Nat) (sp : Sp) : Prop :=
  ∃ f fd, mg x = some (.ref f) ∧ PySem.W.keepIn K (.ref f) = true ∧ Binds K fd ps [] ∧ FnOk P w K mg base CX k f fd ps sp
def HasM (P : Program) (w : World) (K : PySem.W.Frag) (mg : Str → Option Value) (base : Heap) (CX : CXT) (C : Addr) (m : Str) (ps : List Str) (k : Nat) (sp : Sp) : Prop :=
  ∃ f fd, Meth K C m f ∧ Binds K fd ps [] ∧ FnOk P w K mg base CX k f fd ps sp
section
variable {X : Cx} {CX : CXT} {k : Nat} {C : Addr} {ps : List Str} {sp : Sp} {E : XK} {x m : Str} {p pos apos : Pos} {e o : Expr} {es : List Expr} {ta : TE} {t : TA}
theorem Has.call (h : Has X.prog X.w X.K X.mg X.base CX x ps k sp) (hr : Room k X.A) (hg : Gl X x) (hx : Passes CX X E) (ha : PA X (e :: es) t) (hdb : (x == ("__debug__" : Str)) = false := by decide)
    (he : starEach (e :: es) X.env = (false, eval e X.env) :: starEach es X.env := by rfl) (hpl : (backTo pos (starEach es X.env)).any (·.1) = false := by rfl) :
    PE X (.Call (.Name x p) (e :: es) [] pos) (tCall sp [] E t) := by
  obtain ⟨f, fd, hm, hk, hb, F⟩ := h
  exact pe_call F hr hg hm hk hb .nil hx ha hdb he hpl
theorem HasM.call (h : HasM X.prog X.w X.K X.mg X.base CX C m ps k sp) (c : Cls X.K C) (ho : PE X o ta) (hr : Room k X.A) (hx : Passes CX X E) (ha : PA X (e :: es) t) {pl : Sem Bool}
    (hst : starEach (e :: es) X.env = (false, eval e X.env) :: starEach es X.env := by rfl) (hpl : (backTo pos (starEach es X.env)).any (·.1) = false := by rfl)
    (ht : eval (.Call (.Attribute o m apos) (e :: es) [] pos) X.env = (do let ov ← eval o X.env; standAt apos.atName; let (f, first) ← holding [ov] (getMethod ov m pl); callWith pos f first (backTo pos (starEach (e :: es) X.env)) (backToKw pos (keywordEach [] X.env))) := by rfl) :
    PE X (.Call (.Attribute o m apos) (e :: es) [] pos) (tMeth C m sp [] E ta t) := by
  obtain ⟨f, fd, hm, hb, F⟩ := h
  exact pe_meth ho c hm F hr hb .nil hx ha hst hpl ht
theorem HasM.call0 (h : HasM X.prog X.w X.K X.mg X.base CX C m ps k sp) (c : Cls X.K C) (ho : PE X o ta) (hr : Room k X.A) (hx : Passes CX X E) {pl : Sem Bool}
    (ht : eval (.Call (.Attribute o m apos) [] [] pos) X.env = (do let ov ← eval o X.env; standAt apos.atName; let (f, first) ← holding [ov] (getMethod ov m pl); callWith pos f first (backTo pos (starEach [] X.env)) (backToKw pos (keywordEach [] X.env))) := by rfl) :
    PE X (.Call (.Attribute o m apos) [] [] pos) (tMeth C m sp [] E ta tNil) := by
  obtain ⟨f, fd, hm, hb, F⟩ := h
  exact pe_meth0 ho c hm F hr hb .nil hx ht
end

/-! ### a def of the text as it stands behind the top -/
def At (K : PySem.W.Frag) (mg : Str → Option Value) (x : Str) (st : Stmt) (ps : List Str) : Prop := ∃ f fd, Fun K x x st f fd ∧ mg x = some (.ref f) ∧ Binds K fd ps []
def AtM (K : PySem.W.Frag) (C : Addr) (m qual : Str) (st : Stmt) (ps : List Str) : Prop := ∃ f fd, Fun K m qual st f fd ∧ Meth K C m f ∧ Binds K fd ps []
section
variable {P : Program} {w : World} {K : PySem.W.Frag} {mg : Str → Option Value} {base : Heap} {CX : CXT} {k : Nat} {C : Addr} {st : Stmt} {ps : List Str} {sp : Sp} {x m qual : Str}
theorem At.has (D : At K mg x st ps) (h : ∀ f fd, Fun K x x st f fd → FnOk P w K mg base CX k f fd ps sp) : Has P w K mg base CX x ps k sp := by
  obtain ⟨f, fd, F, hm, hb⟩ := D
  exact ⟨f, fd, hm, F.kp, hb, h f fd F⟩
theorem AtM.has (D : AtM K C m qual st ps) (h : ∀ f fd, Fun K m qual st f fd → FnOk P w K mg base CX k f fd ps sp) : HasM P w K mg base CX C m ps k sp := by
  obtain ⟨f, fd, F, hm, hb⟩ := D
  exact ⟨f, fd, hm, hb, h f fd F⟩
theorem Has.imp {sp' : Sp} (h : Has P w K mg base CX x ps k sp) (i : ∀ vs H Q E, sp' vs H Q E → sp vs H Q E) : Has P w K mg base CX x ps k sp' := by
  obtain ⟨f, fd, hm, hk, hb, F⟩ := h
  exact ⟨f, fd, hm, hk, hb, F.imp i⟩
theorem HasM.imp {sp' : Sp} (h : HasM P w K mg base CX C m ps k sp) (i : ∀ vs H Q E, sp' vs H Q E → sp vs H Q E) : HasM P w K mg base CX C m ps k sp' := by
  obtain ⟨f, fd, hm, hb, F⟩ := h
  exact ⟨f, fd, hm, hb, F.imp i⟩
end

/-! ### the facts that k_is finds, put together -/
section
variable {K : PySem.W.Frag} {mg : Str → Option Value} {h : Heap} {C f : Addr} {x m qual : Str} {st : Stmt} {ps : List Str} {oc : Value} {od an : Option Addr} {sl : Array (Option Value)} {kV dc pm cd ct : Value}
theorem at_mk (X : K.In h) (G : h.Ns mainGlobals mg) (a : PySem.W.nsIn K mainGlobals x = some (some (.ref f))) (l : K.lookup f = some ⟨oc, od, .func (PySem.W.fnOf x x (defArgs st) (defBody st) (defScope st) .none kV dc pm an cd ct), sl⟩) (c : PySem.W.codeIn K cd x = true) (k : PySem.W.keepIn K (.ref f) = true)
    (hb : ∀ (kV doc pm : Value) (an : Option Addr) (cdv ct : Value) (us : List Value), us.length = ps.length → bindArgs (PySem.W.fnOf x x (defArgs st) (defBody st) (defScope st) .none kV doc pm an cdv ct) ⟨us, []⟩ = pure (ps.zip us)) : At K mg x st ps :=
  ⟨f, _, fun_mk l c k, PySem.W.mg_of X G a, (fun_mk l c k).binds hb⟩
theorem atm_mk (a : PySem.W.findIn K (.ref C) m = some (some (.ref f))) (i : PySem.W.isFn K (.ref f) = true) (l : K.lookup f = some ⟨oc, od, .func (PySem.W.fnOf m qual (defArgs st) (defBody st) (defScope st) .none kV dc pm an cd ct), sl⟩) (c : PySem.W.codeIn K cd qual = true) (k : PySem.W.keepIn K (.ref f) = true)
    (hb : ∀ (kV doc pm : Value) (an : Option Addr) (cdv ct : Value) (us : List Value), us.length = ps.length → bindArgs (PySem.W.fnOf m qual (defArgs st) (defBody st) (defScope st) .none kV doc pm an cdv ct) ⟨us, []⟩ = pure (ps.zip us)) : AtM K C m qual st ps :=
  ⟨f, _, fun_mk l c k, ⟨a, i, k⟩, (fun_mk l c k).binds hb⟩
end

/-! ### a class made; own exceptions -/
def HasI (P : Program) (w : World) (K : PySem.W.Frag) (mg : Str → Option Value) (base : Heap) (CX : CXT) (C : Addr) (ps : List Str) (k : Nat) (sp : Sp) : Prop :=
  ∃ f fd, Mk K C f ∧ Binds K fd ps [] ∧ FnOk P w K mg base CX k f fd ps sp
def AtI (K : PySem.W.Frag) (C : Addr) (qual : Str) (st : Stmt) (ps : List Str) : Prop := ∃ f fd, Fun K "__init__" qual st f fd ∧ Mk K C f ∧ Binds K fd ps []
/-- what the text's top has left of an own exception class without an __init__ -/
structure Err (K : PySem.W.Frag) (mg : Str → Option Value) (x : Str) (C : Addr) : Prop where
  g : mg x = some (.ref C)
  q : PySem.W.excIn K C [.type "ValueError", .type "Exception", .type "BaseException", .type "object"] "ValueError.__new__" = true
  k : PySem.W.keepIn K (.ref C) = true
  b : PySem.W.subIn K (.ref C) (.type "BaseException") = some true
  t : PySem.W.typeIn K (.ref C) = some (.type "type")
section
variable {K : PySem.W.Frag} {mg : Str → Option Value} {h : Heap} {C f : Addr} {x qual : Str} {st : Stmt} {ps : List Str} {oc : Value} {od an : Option Addr} {sl : Array (Option Value)} {kV dc pm cd ct : Value}
theorem ati_mk (a : PySem.W.findIn K (.ref C) "__init__" = some (some (.ref f))) (i : PySem.W.isFn K (.ref f) = true) (l : K.lookup f = some ⟨oc, od, .func (PySem.W.fnOf "__init__" qual (defArgs st) (defBody st) (defScope st) .none kV dc pm an cd ct), sl⟩) (c : PySem.W.codeIn K cd qual = true) (k : PySem.W.keepIn K (.ref f) = true)
    (mk : PySem.W.makesIn K C = true) (kc : PySem.W.keepIn K (.ref C) = true)
    (hb : ∀ (kV doc pm : Value) (an : Option Addr) (cdv ct : Value) (us : List Value), us.length = ps.length → bindArgs (PySem.W.fnOf "__init__" qual (defArgs st) (defBody st) (defScope st) .none kV doc pm an cdv ct) ⟨us, []⟩ = pure (ps.zip us)) : AtI K C qual st ps :=
  ⟨f, _, fun_mk l c k, ⟨mk, a, i, kc⟩, (fun_mk l c k).binds hb⟩
theorem err_mk (X : K.In h) (G : h.Ns mainGlobals mg) (a : PySem.W.nsIn K mainGlobals x = some (some (.ref C))) (q : PySem.W.excIn K C [.type "ValueError", .type "Exception", .type "BaseException", .type "object"] "ValueError.__new__" = true) (k : PySem.W.keepIn K (.ref C) = true)
    (b : PySem.W.subIn K (.ref C) (.type "BaseException") = some true) (t : PySem.W.typeIn K (.ref C) = some (.type "type")) : Err K mg x C := ⟨PySem.W.mg_of X G a, q, k, b, t⟩
end
section
variable {P : Program} {w : World} {K : PySem.W.Frag} {mg : Str → Option Value} {base : Heap} {CX : CXT} {k : Nat} {C : Addr} {st : Stmt} {ps : List Str} {sp : Sp} {qual : Str}
theorem AtI.has (D : AtI K C qual st ps) (h : ∀ f fd, Fun K "__init__" qual st f fd → FnOk P w K mg base CX k f fd ps sp) : HasI P w K mg base CX C ps k sp := by
  obtain ⟨f, fd, F, hm, hb⟩ := D
  exact ⟨f, fd, hm, hb, h f fd F⟩
end
section
variable {X : Cx} {CX : CXT} {k j : Nat} {C : Addr} {ps : List Str} {sp : Sp} {E : XK} {x m : Str} {p p2 pos : Pos} {e : Expr} {es : List Expr} {t : TA}
theorem HasI.make (h : HasI X.prog X.w X.K X.mg X.base CX C ps k sp) (hr : Room (k + 1) X.A) (hg : Gl X x) (hm : X.mg x = some (.ref C)) (hx : Passes CX X E) (ha : PA X (e :: es) t) (hdb : (x == ("__debug__" : Str)) = false := by decide)
    (he : starEach (e :: es) X.env = (false, eval e X.env) :: starEach es X.env := by rfl) (hpl : (backTo pos (starEach es X.env)).any (·.1) = false := by rfl) : PE X (.Call (.Name x p) (e :: es) [] pos) (tMake C sp [] E t) := by
  obtain ⟨f, fd, M, hb, F⟩ := h
  exact pe_make M F hr hg hm hb .nil hx ha hdb he hpl
theorem Err.made (T : Err X.K X.mg x C) (hg : Gl X x) (hdb : (x == ("__debug__" : Str)) = false := by decide) : PMk X (.Call (.Name x p) [.Constant (.str m) j p2] [] pos) (fun _ H Q => Q (.ref C) none H) :=
  pmk_own PySem.F.excBase_ValueError T.q T.g T.k (raises_own T.b T.t) hg hdb
theorem pe_gint {i : Int} {tk : Tok} (hg : Gl X x) (h : X.mg x = some (.int i tk)) (hd : (x == ("__debug__" : Str)) = false := by decide) : PE X (.Name x pos) (tC (.int i)) := pe_glob hg h ⟨tk, rfl⟩ hd
theorem pe_gstr {i : Str} {tk : Tok} (hg : Gl X x) (h : X.mg x = some (.str i tk)) (hd : (x == ("__debug__" : Str)) = false := by decide) : PE X (.Name x pos) (tC (.str i)) := pe_glob hg h ⟨tk, rfl⟩ hd
theorem pe_gcls {C : Addr} (hg : Gl X x) (h : X.mg x = some (.ref C)) (hd : (x == ("__debug__" : Str)) = false := by decide) : PE X (.Name x pos) (tC (.ref C)) := pe_glob hg h rfl hd
end

theorem bi_mk {K : PySem.W.Frag} {mg : Str → Option Value} {h : Heap} (X : K.In h) (G : h.Ns mainGlobals mg) (z1 : PySem.W.nsIn K mainGlobals "len" = some none) (z2 : PySem.W.nsIn K mainGlobals "range" = some none) (z3 : PySem.W.nsIn K mainGlobals "list" = some none) (z4 : PySem.W.nsIn K mainGlobals "sum" = some none)
    (z5 : PySem.W.nsIn K mainGlobals "max" = some none) (z6 : PySem.W.nsIn K mainGlobals "min" = some none) (z7 : PySem.W.nsIn K mainGlobals "isinstance" = some none) (z8 : PySem.W.nsIn K mainGlobals "int" = some none) (z9 : PySem.W.nsIn K mainGlobals "bool" = some none) (z10 : PySem.W.nsIn K mainGlobals "str" = some none)
    (z11 : PySem.W.nsIn K mainGlobals "tuple" = some none) (z12 : PySem.W.nsIn K mainGlobals "enumerate" = some none) (z13 : PySem.W.nsIn K mainGlobals "ValueError" = some none) : Bi mg :=
  ⟨PySem.W.mg_none_of X G z1, PySem.W.mg_none_of X G z2, PySem.W.mg_none_of X G z3, PySem.W.mg_none_of X G z4, PySem.W.mg_none_of X G z5, PySem.W.mg_none_of X G z6, PySem.W.mg_none_of X G z7, PySem.W.mg_none_of X G z8, PySem.W.mg_none_of X G z9, PySem.W.mg_none_of X G z10, PySem.W.mg_none_of X G z11, PySem.W.mg_none_of X G z12, PySem.W.mg_none_of X G z13⟩

/-! ### rules with the written part named (within a comprehension's block it must not hang on the block) -/
section
variable {X : Cx} {K : PySem.W.Frag} {e : Expr} {f : Str} {pos : Pos} {ta : TE}
theorem ix_listK (hK : X.K = K := by rfl) : IxR X (rIxL K) := by subst hK; exact ix_list
theorem ix_tupK (hK : X.K = K := by rfl) : IxR X (rIxT K) := by subst hK; exact ix_tup
theorem sl_listK (hK : X.K = K := by rfl) : SlR X (rSlL K) := by subst hK; exact sl_list
theorem op_inK (hK : X.K = K := by rfl) : OpR X (compareOp .In) (rIn K false) := by subst hK; exact op_in_seq
theorem op_notInK (hK : X.K = K := by rfl) : OpR X (compareOp .NotIn) (rIn K true) := by subst hK; exact op_notIn_seq
theorem op_eqDK (hu : X.A.units + 64 < cLine) (hK : X.K = K := by rfl) : OpR X (compareOp .Eq) (rEqD K) := by subst hK; exact op_eqD hu
theorem op_neDK (hu : X.A.units + 64 < cLine) (hK : X.K = K := by rfl) : OpR X (compareOp .NotEq) (rNeD K) := by subst hK; exact op_neD hu
theorem call_lenK (hK : X.K = K := by rfl) : CallR X (.builtin "len") (rLenS K) := by subst hK; exact call_len_seq
theorem call_listK (hK : X.K = K := by rfl) : CallR X (.type "list") (rListS K) := by subst hK; exact call_list_of
theorem call_isiK1 (hK : X.K = K := by rfl) : CallR X (.builtin "isinstance") (rIsi K) := by subst hK; exact call_isi
theorem cr_sumK (hc : X.calm = true) (hK : X.K = K := by rfl) : CallR X (.builtin "sum") (rSum K) := by subst hK; exact cr_sum hc
theorem cr_maxK (hc : X.calm = true) (hK : X.K = K := by rfl) : CallR X (.builtin "max") (rMax K) := by subst hK; exact cr_max hc
theorem mt_indexK (hK : X.K = K := by rfl) : MtR X "list.index" (rIndex K) := by subst hK; exact mt_index
theorem pe_fldK (he : PE X e ta) (hb : attributeBase e f X.env (eval e X.env) = eval e X.env) (hK : X.K = K := by rfl) : PE X (.Attribute e f pos) (tFld K ta f) := by subst hK; exact pe_fld he hb
end

/-! ### more of what evaluates to what -/
section
variable {K : PySem.W.Frag} {σ : L2.St} {H H' : Hp} {ta tb te tc : TE} {t u : TT} {x y z v w' : V} {r r' : R2} {a C dx : Addr} {fs : List (Str × V)} {f m : Str}
theorem ev_fld (h : Ev te σ H (.ref a)) (ho : H a = some (.ins C dx fs)) (hc : Cls K C) (hn : NoAttr K C f) (hl : fs.lookup f = some v) : Ev (tFld K te f) σ H v := fun H1 e Q q =>
  h H1 e _ fun H2 e2 => ⟨a, C, dx, fs, v, rfl, e2 a _ (e a _ ho), hc, hn, hl, q H2 e2⟩
theorem ev_meth {sp : Sp} {vs : List V} {E : XK} {tA : TA} (h : Ev te σ H (.ref a)) (ho : H a = some (.ins C dx fs)) (hl : fs.lookup m = none) (hA : EvA tA σ H vs) (hs : SpV sp (.ref a :: vs) H z) : Ev (tMeth C m sp [] E te tA) σ H z := fun H1 e Q q =>
  h H1 e _ fun H2 e2 => ⟨a, dx, fs, rfl, e2 a _ (e a _ ho), hl, hA H2 (e.trans e2) _ fun H3 e3 => by
    rw [List.append_nil]
    exact hs H3 ((e.trans e2).trans e3) Q (fun H4 e4 => q H4 ((e2.trans e3).trans e4)) E⟩
theorem el_meth {sp : Sp} {vs xs : List V} {E : XK} {tA : TA} (h : Ev te σ H (.ref a)) (ho : H a = some (.ins C dx fs)) (hl : fs.lookup m = none) (hA : EvA tA σ H vs) (hs : SpL sp (.ref a :: vs) H xs) : EvL (tMeth C m sp [] E te tA) σ H xs := fun H1 e Q q =>
  h H1 e _ fun H2 e2 => ⟨a, dx, fs, rfl, e2 a _ (e a _ ho), hl, hA H2 (e.trans e2) _ fun H3 e3 => by
    rw [List.append_nil]
    exact hs H3 ((e.trans e2).trans e3) Q (fun p H4 hp e4 h4 => q p H4 (fresh_back (e2.trans e3) hp) ((e2.trans e3).trans e4) h4) E⟩
theorem ev_call0 {sp : Sp} {vs : List V} {E : XK} {tA : TA} (h : EvA tA σ H vs) (hs : SpV sp vs H z) : Ev (tCall sp [] E tA) σ H z := ev_call h (by rw [List.append_nil]; exact hs)
theorem el_call0 {sp : Sp} {vs xs : List V} {E : XK} {tA : TA} (h : EvA tA σ H vs) (hs : SpL sp vs H xs) : EvL (tCall sp [] E tA) σ H xs := el_call h (by rw [List.append_nil]; exact hs)
theorem ev_chain {k1 k2 : Bool} (ha : Ev ta σ H x) (hb : Ev tb σ H y) (hc : k1 = true → Ev tc σ H w') (h1 : RV r x y H (.bl k1)) (h2 : k1 = true → RV r' y w' H (.bl k2)) : Ev (tChain r r' ta tb tc) σ H (.bl (k1 && k2)) := fun H1 e Q q =>
  ha H1 e _ fun H2 e2 => hb H2 (e.trans e2) _ fun H3 e3 => h1 H3 ((e.trans e2).trans e3) _ fun H4 e4 => ⟨k1, rfl, by
    cases k1 with
    | true =>
      show tc σ H4 fun w1 H5 => r' y w1 H5 Q
      exact hc rfl H4 (((e.trans e2).trans e3).trans e4) _ fun H5 e5 => h2 rfl H5 ((((e.trans e2).trans e3).trans e4).trans e5) _ fun H6 e6 => q H6 ((((e2.trans e3).trans e4).trans e5).trans e6)
    | false =>
      show Q (.bl false) H4
      exact q H4 ((e2.trans e3).trans e4)⟩
/-- len of a list -/
theorem ev_lenS {p : Addr} {xs : List V} (ha : Ev ta σ H (.ref p)) (h : SqL K H p xs) : Ev (tCB (rLenS K) (tCons ta tNil)) σ H (.int (xs.length : Int)) := ev_len ha h
/-- list(x) of a list -/
theorem el_listS {p : Addr} {xs : List V} (ha : Ev ta σ H (.ref p)) (h : SqL K H p xs) : EvL (tCB (rListS K) (tCons ta tNil)) σ H xs := el_list ha h
/-- list(x) of a new list -/
theorem el_listN {xs : List V} (ha : EvL ta σ H xs) : EvL (tCB (rListS K) (tCons ta tNil)) σ H xs := fun H1 e Q q =>
  ha H1 e _ fun p H2 _ e2 h2 => ⟨p, xs, rfl, .inl (sq_of h2), fun l hl => q l _ (fresh_back e2 hl) (e2.trans (Ex.new hl)) upd_same⟩
/-- a new list handed to a built-in -/
theorem ev_cbL {rr : List V → Hp → VK → Prop} {xs : List V} (h : EvL ta σ H xs) (hr : ∀ p H1, H1 p = some (.lst xs) → Ex H H1 → RC rr [.ref p] H1 z) : Ev (tCB rr (tCons ta tNil)) σ H z := fun H1 e Q q =>
  h H1 e _ fun p H2 _ e2 hp => hr p H2 hp (e.trans e2) H2 (Ex.refl H2) Q fun H3 e3 => q H3 (e2.trans e3)
theorem ev_opIx {p : Addr} {xs : List V} {i : Int} (ha : Ev ta σ H (.ref p)) (hb : Ev tb σ H (.int i)) (h : SqL K H p xs) (hi : atI xs i = some v) : Ev (tOp (rIxL K) ta tb) σ H v := ev_op ha hb (rv_ixL h hi)
theorem ev_opIxT {p : Addr} {xs : List V} {i : Int} (ha : Ev ta σ H (.ref p)) (hb : Ev tb σ H (.int i)) (h : SqT K H p xs) (hi : atI xs i = some v) : Ev (tOp (rIxT K) ta tb) σ H v := ev_op ha hb (rv_ixT h hi)
/-- an item of a new list -/
theorem ev_opIxN {xs : List V} {i : Int} (ha : EvL ta σ H xs) (hb : Ev tb σ H (.int i)) (hi : atI xs i = some v) : Ev (tOp (rIxL K) ta tb) σ H v := ev_opL1 ha (fun H1 e => hb.mono e) fun p H1 h e => rv_ixL (sq_of h) hi

/-! anything that comes of a read, told of the heaps ahead and behind -/
def EvP (te : TE) (σ : L2.St) (H : Hp) (P : V → Hp → Prop) : Prop := ∀ H1, Ex H H1 → ∀ Q : VK, (∀ v H2, Ex H1 H2 → P v H2 → Q v H2) → te σ H1 Q
def SpP (sp : Sp) (vs : List V) (H : Hp) (P : V → Hp → Prop) : Prop := ∀ H1, Ex H H1 → ∀ Q : VK, (∀ v H2, Ex H1 H2 → P v H2 → Q v H2) → ∀ E : XK, sp vs H1 Q E
def RetP (P : V → Hp → Prop) (H : Hp) (Q : VK) : Prop := ∀ v H2, Ex H H2 → P v H2 → Q v H2
theorem ep_call0 {sp : Sp} {vs : List V} {P : V → Hp → Prop} {E : XK} {tA : TA} (h : EvA tA σ H vs) (hs : SpP sp vs H P) : EvP (tCall sp [] E tA) σ H P := fun H1 e Q q =>
  h H1 e _ fun H2 e2 => by
    rw [List.append_nil]
    exact hs H2 (e.trans e2) Q (fun v H3 e3 p => q v H3 (e2.trans e3) p) E
theorem ep_meth {sp : Sp} {vs : List V} {P : V → Hp → Prop} {E : XK} {tA : TA} (h : Ev te σ H (.ref a)) (ho : H a = some (.ins C dx fs)) (hl : fs.lookup m = none) (hA : EvA tA σ H vs) (hs : SpP sp (.ref a :: vs) H P) : EvP (tMeth C m sp [] E te tA) σ H P := fun H1 e Q q =>
  h H1 e _ fun H2 e2 => ⟨a, dx, fs, rfl, e2 a _ (e a _ ho), hl, hA H2 (e.trans e2) _ fun H3 e3 => by
    rw [List.append_nil]
    exact hs H3 ((e.trans e2).trans e3) Q (fun v H4 e4 h4 => q v H4 ((e2.trans e3).trans e4) h4) E⟩
theorem ep_make {sp : Sp} {vs : List V} {P : V → Hp → Prop} {E : XK} {tA : TA} (h : EvA tA σ H vs)
    (hs : ∀ H1, Ex H H1 → ∀ x dx, H1 x = none → H1 dx = none → dx ≠ x → ∀ Q : VK, (∀ H2, Ex H1 H2 → P (.ref x) H2 → Q (.ref x) H2) → ∀ E : XK, sp (.ref x :: vs) (upd (upd H1 dx (.own x)) x (.ins C dx [])) (fun v H2 => v = .non ∧ Q (.ref x) H2) E) :
    EvP (tMake C sp [] E tA) σ H P := fun H1 e Q q => h H1 e _ fun H2 e2 x dx hx hdx ne => by
  rw [List.append_nil]
  exact hs H2 (e.trans e2) x dx hx hdx ne Q (fun H3 e3 p => q _ H3 (e2.trans e3) p) E
variable {D : Ends} {tu tw tz : TS}
/-- a method that may raise, called as a statement -/
theorem q_methX {sp : Sp} {vs : List V} {E : XK} {tA : TA} (h : Ev te σ H (.ref a)) (ho : H a = some (.ins C dx fs)) (hl : fs.lookup m = none) (hA : EvA tA σ H vs) (k : ∀ H1, Ex H H1 → sp (.ref a :: vs) H1 (fun _ H2 => tz D σ H2) E) :
    tSeq (tDrop (tMeth C m sp [] E te tA)) tz D σ H := h H (Ex.refl H) _ fun H1 e1 => ⟨a, dx, fs, rfl, e1 a _ ho, hl, hA H1 e1 _ fun H2 e2 => by
  rw [List.append_nil]
  exact k H2 (e1.trans e2)⟩
/-- o.f = e -/
theorem q_fld {P : V → Hp → Prop} (h : EvP te σ H P) (k : ∀ v H1, Ex H H1 → P v H1 → ∃ dx fs, Ev ta σ H1 (.ref a) ∧ H1 a = some (.ins C dx fs) ∧ Cls K C ∧ NoAttr K C f ∧ fs.length < 1000 ∧ ∀ H2, Ex H1 H2 → tz D σ (upd H2 a (.ins C dx (putF f v fs)))) :
    tSeq (sFld K ta te f) tz D σ H := h H (Ex.refl H) _ fun v H1 e1 p => by
  obtain ⟨dx, fs, h2, h3, h4, h5, h6, h7⟩ := k v H1 e1 p
  exact h2 H1 (Ex.refl H1) _ fun H2 e2 => ⟨a, C, dx, fs, rfl, e2 a _ h3, h4, h5, h6, h7 H2 e2⟩
theorem s_fld {P : V → Hp → Prop} (h : EvP te σ H P) (k : ∀ v H1, Ex H H1 → P v H1 → ∃ dx fs, Ev ta σ H1 (.ref a) ∧ H1 a = some (.ins C dx fs) ∧ Cls K C ∧ NoAttr K C f ∧ fs.length < 1000 ∧ ∀ H2, Ex H1 H2 → D.nx σ (upd H2 a (.ins C dx (putF f v fs)))) :
    sFld K ta te f D σ H := q_fld (tz := fun D σ H => D.nx σ H) (D := D) h k
theorem s_clear {l : Addr} {xs : List V} (hl : H l = some (.lst xs)) (ha : Ev ta σ H (.ref l)) (k : ∀ H1, Ex H H1 → D.nx σ (upd H1 l (.lst []))) : tDrop (tBM0 K "list" rClear ta) D σ H := ha H (Ex.refl H) _ fun H1 e1 =>
  ⟨Or.inl ⟨rfl, xs, sq_of (e1 l _ hl)⟩, l, xs, rfl, rfl, e1 l _ hl, k H1 e1⟩
theorem q_clear {l : Addr} {xs : List V} (hl : H l = some (.lst xs)) (ha : Ev ta σ H (.ref l)) (k : ∀ H1, Ex H H1 → tz D σ (upd H1 l (.lst []))) : tSeq (tDrop (tBM0 K "list" rClear ta)) tz D σ H := s_clear (D := { D with nx := tz D }) hl ha k
theorem no {p : Prop} (h : false = true) : p := Bool.noConfusion h
theorem no' {p : Prop} (h : true = false) : p := Bool.noConfusion h
theorem EvL.p {xs : List V} (h : EvL te σ H xs) : EvP te σ H (fun v H2 => ∃ p, v = .ref p ∧ H p = none ∧ H2 p = some (.lst xs)) := fun H1 e Q q => h H1 e _ fun p H2 hp e2 h2 => q _ H2 e2 ⟨p, rfl, fresh_back e hp, h2⟩
/-- two new lists in one -/
theorem el_catNN {xs ys : List V} (ha : EvL ta σ H xs) (hb : EvL tb σ H ys) (hz : xs.length + ys.length ≤ 100000) : EvL (tOp rCat ta tb) σ H (xs ++ ys) := fun H1 e Q q =>
  ha H1 e _ fun p H2 hp e2 h2 => hb H2 (e.trans e2) _ fun p2 H3 hp2 e3 h3 => ⟨p, p2, xs, ys, rfl, rfl, e3 p _ h2, h3, sz_of hz, fun l hl => q l _ (fresh_back (e2.trans e3) hl) ((e2.trans e3).trans (Ex.new hl)) upd_same⟩
/-- a list that stands (tracked), a new one -/
theorem el_catVN {p : Addr} {xs ys : List V} (ha : Ev ta σ H (.ref p)) (h : H p = some (.lst xs)) (hb : EvL tb σ H ys) (hz : xs.length + ys.length ≤ 100000) : EvL (tOp rCat ta tb) σ H (xs ++ ys) := fun H1 e Q q =>
  ha H1 e _ fun H2 e2 => hb H2 (e.trans e2) _ fun p2 H3 hp2 e3 h3 => ⟨p, p2, xs, ys, rfl, rfl, e3 p _ (e2 p _ (e p _ h)), h3, sz_of hz, fun l hl => q l _ (fresh_back (e2.trans e3) hl) ((e2.trans e3).trans (Ex.new hl)) upd_same⟩
theorem s_asgP {i : Nat} {P : V → Hp → Prop} (h : EvP te σ H P) (k : ∀ v H1, Ex H H1 → P v H1 → D.nx (σ.set i (some v)) H1) : tAsg te (gName i) D σ H := h H (Ex.refl H) _ fun v H1 e p => k v H1 e p
theorem q_asgP {i : Nat} {P : V → Hp → Prop} (h : EvP te σ H P) (k : ∀ v H1, Ex H H1 → P v H1 → tz D (σ.set i (some v)) H1) : tSeq (tAsg te (gName i)) tz D σ H := s_asgP (D := { D with nx := tz D }) h k
theorem s_retP {P : V → Hp → Prop} (h : EvP te σ H P) (k : ∀ v H1, Ex H H1 → P v H1 → D.rt v H1) : tRet te D σ H := h H (Ex.refl H) _ k
end

/-! ### lists of numbers -/
def vi (l : List Nat) : List V := l.map fun (n : Nat) => V.int (n : Int)
theorem vi_nil : vi [] = [] := rfl
theorem vi_cons (n : Nat) (l : List Nat) : vi (n :: l) = V.int (n : Int) :: vi l := rfl
theorem vi_app (l m : List Nat) : vi (l ++ m) = vi l ++ vi m := List.map_append
theorem vi_len (l : List Nat) : (vi l).length = l.length := List.length_map _
theorem vi_ints (l : List Nat) : vi l = (l.map fun (n : Nat) => (n : Int)).map V.int := by
  unfold vi
  rw [List.map_map]
  rfl
theorem vi_get {l : List Nat} {i n : Nat} (h : l[i]? = some n) : (vi l)[i]? = some (V.int (n : Int)) := by
  unfold vi
  rw [List.getElem?_map, h]
  rfl
theorem vi_get_of {l : List Nat} {i : Nat} {x : V} (h : (vi l)[i]? = some x) : ∃ n, l[i]? = some n ∧ x = V.int (n : Int) := by
  unfold vi at h
  rw [List.getElem?_map] at h
  cases e : l[i]? with
  | none => rw [e] at h; cases h
  | some n => rw [e] at h; exact ⟨n, rfl, (Option.some.inj h).symm⟩
theorem vi_at {l : List Nat} {i : Int} {j n : Nat} (e : i = (j : Int)) (h : l[j]? = some n) : atI (vi l) i = some (V.int (n : Int)) := at_of e (vi_get h)
theorem vi_flat (l : List Nat) : (vi l).all flatV = true := by
  induction l with
  | nil => rfl
  | cons n r ih => rw [vi_cons, List.all_cons, ih]; rfl
theorem eqV_nat (n m : Nat) : eqV (V.int (n : Int)) (V.int (m : Int)) = decide (n = m) := by
  show (((n : Int) == (m : Int)) : Bool) = _
  by_cases h : n = m
  · subst h; simp
  · have : ¬ ((n : Int) = (m : Int)) := by omega
    simp [h, this]
theorem vi_in (l : List Nat) (n : Nat) : inV (V.int (n : Int)) (vi l) = decide (n ∈ l) := by
  unfold inV
  induction l with
  | nil => simp [vi]
  | cons m r ih =>
    rw [vi_cons, List.any_cons, ih, eqV_nat]
    by_cases h : n = m
    · subst h; simp
    · by_cases h2 : n ∈ r
      · simp [h2]
      · have h3 : ¬ m = n := fun e => h e.symm
        simp [h, h2, h3]
theorem vi_inj : ∀ {l m : List Nat}, vi l = vi m → l = m
  | [], [], _ => rfl
  | [], _ :: _, h => by simp [vi] at h
  | _ :: _, [], h => by simp [vi] at h
  | a :: l, b :: m, h => by
    rw [vi_cons, vi_cons] at h
    injection h with h1 h2
    injection h1 with h1
    have : a = b := by omega
    rw [this, vi_inj h2]
theorem sum_cast (l : List Nat) : (l.map fun (n : Nat) => (n : Int)).sum = ((l.sum : Nat) : Int) := by
  induction l with
  | nil => rfl
  | cons n r ih => rw [List.map_cons, List.sum_cons, List.sum_cons, ih]; omega
end Fi
/-! More readings: data compared, isinstance, min, tuples and comprehensions made. -/
namespace Fi
open PySem L2 Evl
/-! ### data as a whole -/
def dI (l : List Nat) : PyData := .list (l.map fun (n : Nat) => PyData.int (n : Int))
theorem dpAll_vi {K : PySem.W.Frag} {H : Hp} : ∀ l : List Nat, DpAll K H (vi l) (l.map fun (n : Nat) => PyData.int (n : Int))
  | [] => .nil
  | n :: l => .cons (.int _) (dpAll_vi l)
theorem dp_vi {K : PySem.W.Frag} {H : Hp} {p : Addr} {l : List Nat} (h : SqL K H p (vi l)) : Dp K H (.ref p) (dI l) := .lst h (dpAll_vi l)
theorem canAll_ints : ∀ l : List Nat, PyData.canLayAll0 (l.map fun (n : Nat) => PyData.int (n : Int)) = true
  | [] => by simp [PyData.canLayAll0]
  | n :: l => by simp [PyData.canLayAll0, PyData.canLay0, canAll_ints l]
theorem depthAll_ints : ∀ l : List Nat, PyData.depthAll (l.map fun (n : Nat) => PyData.int (n : Int)) = 0
  | [] => by simp [PyData.depthAll]
  | n :: l => by simp [PyData.depthAll, PyData.depth, depthAll_ints l]
theorem can_dI (l : List Nat) : PyData.canLay0 (dI l) = true := by simp [dI, PyData.canLay0, canAll_ints]
theorem depth_dI (l : List Nat) : PyData.depth (dI l) = 1 := by simp [dI, PyData.depth, depthAll_ints]
theorem shaped_dI (l : List Nat) : SeqAt.shaped (dI l) = true := by
  unfold SeqAt.shaped
  rw [can_dI, depth_dI]
  rfl
theorem eqvAll_ints : ∀ l m : List Nat, PyData.eqvAll (l.map fun (n : Nat) => PyData.int (n : Int)) (m.map fun (n : Nat) => PyData.int (n : Int)) = decide (l = m)
  | [], [] => by simp [PyData.eqvAll]
  | [], _ :: _ => by simp [PyData.eqvAll]
  | _ :: _, [] => by simp [PyData.eqvAll]
  | a :: l, b :: m => by
    rw [List.map_cons, List.map_cons, PyData.eqvAll, eqvAll_ints l m]
    have e : PyData.eqv (.int (a : Int)) (.int (b : Int)) = decide (a = b) := by
      rw [PyData.eqv]
      by_cases h : a = b
      · subst h; simp
      · have : ¬ ((a : Int) = (b : Int)) := by omega
        simp [h, this]
    rw [e]
    by_cases h : a = b
    · by_cases h2 : l = m
      · simp [h, h2]
      · simp [h, h2]
    · simp [h]
theorem eqv_dI (l m : List Nat) : PyData.eqv (dI l) (dI m) = decide (l = m) := by
  unfold dI
  rw [PyData.eqv, eqvAll_ints]
theorem eqv_dII (a b c d : List Nat) : PyData.eqv (.list [dI a, dI b]) (.list [dI c, dI d]) = (decide (a = c) && decide (b = d)) := by
  rw [PyData.eqv, PyData.eqvAll, PyData.eqvAll, PyData.eqvAll, eqv_dI, eqv_dI, Bool.and_true]
theorem shaped_dII (a b : List Nat) : SeqAt.shaped (.list [dI a, dI b]) = true := by
  unfold SeqAt.shaped
  simp [PyData.canLay0, PyData.canLayAll0, can_dI, PyData.depth, PyData.depthAll, depth_dI]
section
variable {K : PySem.W.Frag} {σ : L2.St} {H H' : Hp} {ta tb te : TE} {t : TT} {x y z v : V}
theorem rv_neD {d e : PyData} (hd : ∀ H1, Ex H H1 → Dp K H1 x d) (he : ∀ H1, Ex H H1 → Dp K H1 y e) (sd : SeqAt.shaped d = true) (se : SeqAt.shaped e = true) : RV (rNeD K) x y H (.bl (!PyData.eqv d e)) := fun H1 e1 Q q =>
  ⟨d, e, hd H1 e1, he H1 e1, sd, se, q H1 (Ex.refl H1)⟩
theorem rv_eqD {d e : PyData} (hd : ∀ H1, Ex H H1 → Dp K H1 x d) (he : ∀ H1, Ex H H1 → Dp K H1 y e) (sd : SeqAt.shaped d = true) (se : SeqAt.shaped e = true) : RV (rEqD K) x y H (.bl (PyData.eqv d e)) := fun H1 e1 Q q =>
  ⟨d, e, hd H1 e1, he H1 e1, sd, se, q H1 (Ex.refl H1)⟩
/-- two lists of numbers that stand -/
theorem rv_neI {p q : Addr} {l m : List Nat} (h1 : SqL K H p (vi l)) (h2 : SqL K H q (vi m)) : RV (rNeD K) (.ref p) (.ref q) H (.bl (!decide (l = m))) := by
  rw [← eqv_dI]
  exact rv_neD (fun H1 e => dp_vi (ex_l e h1)) (fun H1 e => dp_vi (ex_l e h2)) (shaped_dI l) (shaped_dI m)
theorem rv_eqI {p q : Addr} {l m : List Nat} (h1 : SqL K H p (vi l)) (h2 : SqL K H q (vi m)) : RV (rEqD K) (.ref p) (.ref q) H (.bl (decide (l = m))) := by
  rw [← eqv_dI]
  exact rv_eqD (fun H1 e => dp_vi (ex_l e h1)) (fun H1 e => dp_vi (ex_l e h2)) (shaped_dI l) (shaped_dI m)
/-- a list against the empty list, made on the way -/
theorem ev_neNil {p : Addr} {l : List Nat} (ha : Ev ta σ H (.ref p)) (h : SqL K H p (vi l)) : Ev (tOp (rNeD K) ta (tLst tNil)) σ H (.bl (!decide (l = []))) :=
  ev_opL ha (el_lst ea_nil (Nat.zero_le _)) fun q H1 hq e => rv_neI (ex_l e h) (sq_of (xs := vi []) hq)
theorem ev_eqNil {p : Addr} {l : List Nat} (ha : Ev ta σ H (.ref p)) (h : SqL K H p (vi l)) : Ev (tOp (rEqD K) ta (tLst tNil)) σ H (.bl (decide (l = []))) :=
  ev_opL ha (el_lst ea_nil (Nat.zero_le _)) fun q H1 hq e => rv_eqI (ex_l e h) (sq_of (xs := vi []) hq)
/-- a new list against the empty list -/
theorem ev_neNilN {l : List Nat} (ha : EvL ta σ H (vi l)) : Ev (tOp (rNeD K) ta (tLst tNil)) σ H (.bl (!decide (l = []))) :=
  ev_opLL ha (el_lst ea_nil (Nat.zero_le _)) fun p q H1 hp hq e => rv_neI (sq_of hp) (sq_of (xs := vi []) hq)
theorem ev_eqNilN {l : List Nat} (ha : EvL ta σ H (vi l)) : Ev (tOp (rEqD K) ta (tLst tNil)) σ H (.bl (decide (l = []))) :=
  ev_opLL ha (el_lst ea_nil (Nat.zero_le _)) fun p q H1 hp hq e => rv_eqI (sq_of hp) (sq_of (xs := vi []) hq)
/-! ### isinstance, min, max, sum by values -/
theorem rc_isi {c : V} {tt u : Value} {b : Bool} (hc : ClsV c u) (ht : ∀ H1, Ex H H1 → TyX K H1 x tt) (hk : PySem.W.kitOne K tt u = some b) : RC (rIsi K) [x, c] H (.bl b) := fun H1 e Q q => ⟨x, c, tt, u, b, rfl, hc, ht H1 e, hk, q H1 (Ex.refl H1)⟩
theorem ev_isiInt {i : Int} {b : Bool} {s : String} (h : Ev ta σ H (.int i)) (hk : kitB "int" s = some b) : Ev (tCB (rIsi K) (tCons ta (tCons (tC (.ty s)) tNil))) σ H (.bl b) :=
  ev_cb (ea_cons h (ea_cons ev_c ea_nil)) (rc_isi (.ty s) (fun _ _ => .base (.int i)) (kit_ty hk))
theorem ev_isiLst {p : Addr} {xs : List V} {b : Bool} {s : String} (h : Ev ta σ H (.ref p)) (hp : H p = some (.lst xs)) (hk : kitB "list" s = some b) : Ev (tCB (rIsi K) (tCons ta (tCons (tC (.ty s)) tNil))) σ H (.bl b) :=
  ev_cb (ea_cons h (ea_cons ev_c ea_nil)) (rc_isi (.ty s) (fun H1 e => .base (.lst (e p _ hp))) (kit_ty hk))
theorem ev_isiTup {p : Addr} {xs : List V} {b : Bool} {s : String} (h : Ev ta σ H (.ref p)) (hp : H p = some (.tup xs)) (hk : kitB "tuple" s = some b) : Ev (tCB (rIsi K) (tCons ta (tCons (tC (.ty s)) tNil))) σ H (.bl b) :=
  ev_cb (ea_cons h (ea_cons ev_c ea_nil)) (rc_isi (.ty s) (fun H1 e => .base (.tup (e p _ hp))) (kit_ty hk))
theorem rc_min2 {i j : Int} : RC (fun xs H Q => ∃ i j, xs = [.int i, .int j] ∧ Q (.int (if j < i then j else i)) H) [.int i, .int j] H (.int (if j < i then j else i)) := fun H1 _ _ q => ⟨i, j, rfl, q H1 (Ex.refl H1)⟩
theorem rc_max2 {i j : Int} : RC (fun xs H Q => ∃ i j, xs = [.int i, .int j] ∧ Q (.int (if j > i then j else i)) H) [.int i, .int j] H (.int (if j > i then j else i)) := fun H1 _ _ q => ⟨i, j, rfl, q H1 (Ex.refl H1)⟩
theorem rc_sum {p : Addr} {l : List Nat} (h : SqL K H p (vi l)) : RC (rSum K) [.ref p] H (.int ((l.sum : Nat) : Int)) := fun H1 e Q q => ⟨p, l.map fun (n : Nat) => (n : Int), rfl, by rw [← vi_ints]; exact ex_l e h, by rw [sum_cast]; exact q H1 (Ex.refl H1)⟩
/-- sum of a new list -/
theorem ev_sumN {l : List Nat} (h : EvL ta σ H (vi l)) : Ev (tCB (rSum K) (tCons ta tNil)) σ H (.int ((l.sum : Nat) : Int)) := ev_cbL h fun p H1 hp _ => rc_sum (sq_of hp)
/-! ### two new lists in a tuple, in a list -/
theorem ep_tupLL {xs ys : List V} (ha : EvL ta σ H xs) (hb : EvL tb σ H ys) : EvP (tTup (tCons ta (tCons tb tNil))) σ H (fun v H2 => ∃ t p q, v = .ref t ∧ H2 t = some (.tup [.ref p, .ref q]) ∧ H2 p = some (.lst xs) ∧ H2 q = some (.lst ys)) := fun H1 e Q k =>
  ha H1 e _ fun p H2 hp e2 h2 => hb H2 (e.trans e2) _ fun q H3 hq e3 h3 => ⟨by show 2 ≤ sizeLine; decide, fun t ht => k _ _ ((e2.trans e3).trans (Ex.new ht)) ⟨t, p, q, rfl, upd_same, Ex.new ht p _ (e3 p _ h2), Ex.new ht q _ h3⟩⟩
theorem ep_tupVL {ys : List V} (ha : Ev ta σ H x) (hb : EvL tb σ H ys) : EvP (tTup (tCons ta (tCons tb tNil))) σ H (fun v H2 => ∃ t q, v = .ref t ∧ H2 t = some (.tup [x, .ref q]) ∧ H2 q = some (.lst ys)) := fun H1 e Q k =>
  ha H1 e _ fun H2 e2 => hb H2 (e.trans e2) _ fun q H3 hq e3 h3 => ⟨by show 2 ≤ sizeLine; decide, fun t ht => k _ _ ((e2.trans e3).trans (Ex.new ht)) ⟨t, q, rfl, upd_same, Ex.new ht q _ h3⟩⟩
/-- two new lists in a new list; all three are new -/
theorem ep_lstLL {xs ys : List V} (ha : EvL ta σ H xs) (hb : EvL tb σ H ys) : EvP (tLst (tCons ta (tCons tb tNil))) σ H (fun v H2 => ∃ t p q, v = .ref t ∧ H t = none ∧ H p = none ∧ H q = none ∧ p ≠ q ∧ p ≠ t ∧ q ≠ t ∧ H2 t = some (.lst [.ref p, .ref q]) ∧ H2 p = some (.lst xs) ∧ H2 q = some (.lst ys)) := fun H1 e Q k =>
  ha H1 e _ fun p H2 hp e2 h2 => hb H2 (e.trans e2) _ fun q H3 hq e3 h3 => ⟨by show 2 ≤ sizeLine; decide, fun t ht =>
    k _ _ ((e2.trans e3).trans (Ex.new ht)) ⟨t, p, q, rfl, fresh_back ((e.trans e2).trans e3) ht, fresh_back e hp, fresh_back (e.trans e2) hq, ne_of_none h2 hq, ne_of_none (e3 p _ h2) ht, ne_of_none h3 ht, upd_same, Ex.new ht p _ (e3 p _ h2), Ex.new ht q _ h3⟩⟩
/-! ### comprehensions -/
theorem et_yes : EvT tYes σ H true := fun H1 _ _ q => q H1 (Ex.refl H1)
theorem given_all (n : Nat) (v : Nat → V) : given n (fun _ => true) v = (List.range n).map v := by
  unfold given
  rw [List.filter_eq_self.mpr (by simp)]
theorem given_vi {n : Nat} {g : Nat → Nat} {v : Nat → V} (h : ∀ i, i < n → v i = V.int ((g i : Nat) : Int)) : given n (fun _ => true) v = vi ((List.range n).map g) := by
  rw [given_all]
  unfold vi
  rw [List.map_map]
  exact List.map_congr_left fun i hi => h i (List.mem_range.mp hi)
theorem el_is {xs ys : List V} (h : EvL te σ H xs) (e : xs = ys) : EvL te σ H ys := e ▸ h
/-- [e for i in range(n)], whole numbers made -/
theorem el_lcR1v {tA : TA} {j : Nat} {vs : List Nat} {n : Nat} (g : Nat → Nat) (h : EvA tA σ H [.int (n : Int)]) (hn : n ≤ 40000) (hw : ∀ x, wipe ((wipe σ vs).set j (some x)) vs = wipe σ vs)
    (he : ∀ (i : Nat) H1, Ex H H1 → i < n → Ev te ((wipe σ vs).set j (some (.int (i : Int)))) H1 (.int ((g i : Nat) : Int))) : EvL (tLc (iRng1 tA) (gName j) tYes te vs) σ H (vi ((List.range n).map g)) := by
  have q := el_lcR1 (t := tYes) (te := te) (σ := σ) (H := H) (ta := tA) (j := j) (vs := vs) (n := (n : Int)) (fun _ => true) (fun i => V.int ((g i : Nat) : Int)) h ⟨by omega, by omega⟩ hw (fun _ _ _ _ => et_yes) (fun i H1 e hi _ => he i H1 e (by omega))
  rw [Int.toNat_natCast, given_vi fun i _ => rfl] at q
  exact q
theorem range_map_get (l : List Nat) (g : Nat → Nat) : (List.range l.length).map (fun i => g (l.getD i 0)) = l.map g := by
  refine List.ext_getElem ?_ fun i h1 h2 => ?_
  · simp
  · rw [List.length_map, List.length_range] at h1
    simp only [List.getElem_map, List.getElem_range]
    rw [List.getD_eq_getElem?_getD, List.getElem?_eq_getElem h1]
    rfl
/-- [e for n in l], l a list of numbers that stands, whole numbers made -/
theorem el_lcLv {a : Addr} {l : List Nat} {tl : TE} {j : Nat} {vs : List Nat} (g : Nat → Nat) (h : Ev tl σ H (.ref a)) (hx : SqL K H a (vi l)) (hz : l.length ≤ 40000) (hw : ∀ x, wipe ((wipe σ vs).set j (some x)) vs = wipe σ vs)
    (he : ∀ (n : Nat) H1, Ex H H1 → n ∈ l → Ev te ((wipe σ vs).set j (some (.int (n : Int)))) H1 (.int ((g n : Nat) : Int))) : EvL (tLc (iList K tl) (gName j) tYes te vs) σ H (vi (l.map g)) := by
  have q := el_lcL (t := tYes) (te := te) (K := K) (σ := σ) (H := H) (a := a) (xs := vi l) (tl := tl) (j := j) (vs := vs) (fun _ => true) (fun i => V.int ((g (l.getD i 0) : Nat) : Int)) h hx (by rw [vi_len]; exact hz) hw (fun _ _ _ _ _ => et_yes) (fun i x H1 e hi _ => by
    obtain ⟨n, hn, rfl⟩ := vi_get_of hi
    have e1 : l.getD i 0 = n := by rw [List.getD_eq_getElem?_getD, hn]; rfl
    show Ev te _ H1 (.int ((g (l.getD i 0) : Nat) : Int))
    rw [e1]
    exact he n H1 e (List.mem_of_getElem? hn))
  rw [vi_len, given_vi (g := fun i => g (l.getD i 0)) fun i _ => rfl, range_map_get] at q
  exact q
theorem el_lcNLv {l : List Nat} {tl : TE} {j : Nat} {vs : List Nat} (g : Nat → Nat) (h : EvL tl σ H (vi l)) (hz : l.length ≤ 40000) (hw : ∀ x, wipe ((wipe σ vs).set j (some x)) vs = wipe σ vs)
    (he : ∀ (n : Nat) H1, Ex H H1 → n ∈ l → Ev te ((wipe σ vs).set j (some (.int (n : Int)))) H1 (.int ((g n : Nat) : Int))) : EvL (tLc (iList K tl) (gName j) tYes te vs) σ H (vi (l.map g)) := by
  have q := el_lcNL (t := tYes) (te := te) (K := K) (σ := σ) (H := H) (xs := vi l) (tl := tl) (j := j) (vs := vs) (fun _ => true) (fun i => V.int ((g (l.getD i 0) : Nat) : Int)) h (by rw [vi_len]; exact hz) hw (fun _ _ _ _ _ => et_yes) (fun i x H1 e hi _ => by
    obtain ⟨n, hn, rfl⟩ := vi_get_of hi
    have e1 : l.getD i 0 = n := by rw [List.getD_eq_getElem?_getD, hn]; rfl
    show Ev te _ H1 (.int ((g (l.getD i 0) : Nat) : Int))
    rw [e1]
    exact he n H1 e (List.mem_of_getElem? hn))
  rw [vi_len, given_vi (g := fun i => g (l.getD i 0)) fun i _ => rfl, range_map_get] at q
  exact q
theorem filter_get (l : List Nat) (f : Nat → Bool) : ((List.range l.length).filter fun i => f (l.getD i 0)).map (fun i => l.getD i 0) = l.filter f := by
  have e : (List.range l.length).map (fun i => l.getD i 0) = l := by
    have := range_map_get l id
    rw [List.map_id] at this
    exact this
  conv => rhs; rw [← e]
  rw [List.filter_map]
  rfl
end
/-! ### a plot: a tuple of elders and worths -/
def PlotAt (H : Hp) (p : Addr) (es ws : List Nat) : Prop := ∃ pe pw, H p = some (.tup [.ref pe, .ref pw]) ∧ H pe = some (.lst (vi es)) ∧ H pw = some (.lst (vi ws))
theorem PlotAt.mono {H H' : Hp} {p : Addr} {es ws : List Nat} (h : PlotAt H p es ws) (e : Ex H H') : PlotAt H' p es ws := by
  obtain ⟨pe, pw, h1, h2, h3⟩ := h
  exact ⟨pe, pw, e _ _ h1, e _ _ h2, e _ _ h3⟩
theorem tup0 {K : PySem.W.Frag} {H : Hp} {p : Addr} {x y : V} (h : H p = some (.tup [x, y])) : SqT K H p [x, y] := st_of h
theorem dec_int {a b : Nat} : decide (V.int (a : Int) = V.int (b : Int)) = decide (a = b) := by
  by_cases h : a = b
  · subst h; simp
  · have h2 : ¬ (V.int (a : Int) = V.int (b : Int)) := fun e => h (by injection e with e; omega)
    rw [decide_eq_false h, decide_eq_false h2]
theorem getD_get {l : List Nat} {n : Nat} (h : n < l.length) : l[n]? = some (l.getD n 0) := by
  rw [List.getD_eq_getElem?_getD, List.getElem?_eq_getElem h]
  rfl
end Fi
/-! Rows: lists of lists; plans; readings for them. -/
namespace Fi
open PySem L2 Evl
def oV : Option Int → V
  | none => .non
  | some z => .int z
theorem oV_get {plan : List (Option Int)} {i : Nat} {o : Option Int} (h : plan[i]? = some o) : (plan.map oV)[i]? = some (oV o) := by
  rw [List.getElem?_map, h]
  rfl
theorem oV_some (l : List Nat) : (l.map fun (n : Nat) => some (n : Int)).map oV = vi l := by
  unfold vi
  rw [List.map_map]
  rfl
/-- the addresses rs hold the rows -/
def RowsL (H : Hp) : List Addr → List (List Nat) → Prop
  | [], [] => True
  | a :: as, r :: rs => H a = some (.lst (vi r)) ∧ RowsL H as rs
  | _, _ => False
theorem RowsL.len {H : Hp} : ∀ {rs : List Addr} {rows : List (List Nat)}, RowsL H rs rows → rs.length = rows.length
  | [], [], _ => rfl
  | _ :: _, _ :: _, h => by rw [List.length_cons, List.length_cons, RowsL.len h.2]
  | [], _ :: _, h => h.elim
  | _ :: _, [], h => h.elim
theorem RowsL.mono {H H' : Hp} : ∀ {rs : List Addr} {rows : List (List Nat)}, RowsL H rs rows → (∀ a o, a ∈ rs → H a = some o → H' a = some o) → RowsL H' rs rows
  | [], [], _, _ => trivial
  | a :: as, _ :: _, h, k => ⟨k a _ List.mem_cons_self h.1, RowsL.mono h.2 fun b o hb => k b o (List.mem_cons_of_mem _ hb)⟩
  | [], _ :: _, h, _ => h.elim
  | _ :: _, [], h, _ => h.elim
theorem RowsL.snoc {H : Hp} {a : Addr} {r : List Nat} (ha : H a = some (.lst (vi r))) : ∀ {rs : List Addr} {rows : List (List Nat)}, RowsL H rs rows → RowsL H (rs ++ [a]) (rows ++ [r])
  | [], [], _ => ⟨ha, trivial⟩
  | _ :: _, _ :: _, h => ⟨h.1, RowsL.snoc ha h.2⟩
  | [], _ :: _, h => h.elim
  | _ :: _, [], h => h.elim
theorem RowsL.get {H : Hp} : ∀ {rs : List Addr} {rows : List (List Nat)} {i : Nat} {r : List Nat}, RowsL H rs rows → rows[i]? = some r → ∃ a, rs[i]? = some a ∧ a ∈ rs ∧ H a = some (.lst (vi r))
  | [], [], i, _, _, h => by cases i <;> cases h
  | a :: as, r :: _, 0, _, h, e => by cases e; exact ⟨a, rfl, List.mem_cons_self, h.1⟩
  | a :: as, _ :: _, i + 1, r, h, e => by
    obtain ⟨b, h1, h2, h3⟩ := RowsL.get (i := i) (r := r) h.2 e
    exact ⟨b, h1, List.mem_cons_of_mem _ h2, h3⟩
  | [], _ :: _, _, _, h, _ => h.elim
  | _ :: _, [], _, _, h, _ => h.elim
theorem RowsL.drop {H : Hp} : ∀ {rs : List Addr} {rows : List (List Nat)}, RowsL H rs rows → RowsL H rs.dropLast rows.dropLast
  | [], [], _ => trivial
  | [a], [r], _ => trivial
  | a :: b :: as, r :: q :: rs, h => ⟨h.1, RowsL.drop (rs := b :: as) (rows := q :: rs) h.2⟩
  | [], _ :: _, h => h.elim
  | _ :: _, [], h => h.elim
  | [_], _ :: _ :: _, h => h.2.elim
  | _ :: _ :: _, [_], h => h.2.elim
theorem RowsL.mem {H : Hp} : ∀ {rs : List Addr} {rows : List (List Nat)} {a : Addr}, RowsL H rs rows → a ∈ rs → ∃ r, r ∈ rows ∧ H a = some (.lst (vi r))
  | [], [], _, _, h => by cases h
  | a :: as, r :: rs, b, h, e => by
    rcases List.mem_cons.mp e with rfl | e
    · exact ⟨r, List.mem_cons_self, h.1⟩
    · obtain ⟨q, h1, h2⟩ := RowsL.mem h.2 e
      exact ⟨q, List.mem_cons_of_mem _ h1, h2⟩
  | [], _ :: _, _, h, _ => h.elim
  | _ :: _, [], _, h, _ => h.elim
theorem last_idx {α : Type} {l : List α} {x : α} (h : l.getLast? = some x) : l[l.length - 1]? = some x := by
  rw [← List.getLast?_eq_getElem?]
  exact h
theorem refs_last {rs : List Addr} {a : Addr} (h : rs[rs.length - 1]? = some a) (hn : rs ≠ []) : atI (rs.map V.ref) (-1) = some (V.ref a) := by
  have hl : 0 < rs.length := List.length_pos_iff.mpr hn
  unfold atI ixN
  rw [List.length_map, if_neg (by decide), if_pos (by omega)]
  show (rs.map V.ref)[(-1 + (rs.length : Int)).toNat]? = _
  rw [show (-1 + (rs.length : Int)).toNat = rs.length - 1 by omega, List.getElem?_map, h]
  rfl
section
variable {K : PySem.W.Frag} {σ : L2.St} {H H' : Hp} {ta tb te : TE} {t : TT} {x y z v : V} {D : Ends} {tz : TS}
/-- [[..]]: a new list in a new list -/
theorem ep_lstL1 {xs : List V} (ha : EvL ta σ H xs) : EvP (tLst (tCons ta tNil)) σ H (fun v H2 => ∃ t p, v = .ref t ∧ H t = none ∧ H p = none ∧ p ≠ t ∧ H2 t = some (.lst [.ref p]) ∧ H2 p = some (.lst xs)) := fun H1 e Q k =>
  ha H1 e _ fun p H2 hp e2 h2 => ⟨by show 1 ≤ sizeLine; decide, fun t ht => k _ _ (e2.trans (Ex.new ht)) ⟨t, p, rfl, fresh_back (e.trans e2) ht, fresh_back e hp, ne_of_none h2 ht, upd_same, Ex.new ht p _ h2⟩⟩
/-- xs.extend(ys) -/
theorem s_ext {l b : Addr} {xs ys : List V} (hl : H l = some (.lst xs)) (hb : H b = some (.lst ys)) (ha : Ev ta σ H (.ref l)) (h : Ev te σ H (.ref b)) (hz : xs.length + ys.length ≤ 100000) (k : ∀ H1, Ex H H1 → D.nx σ (upd H1 l (.lst (xs ++ ys)))) :
    tDrop (tBM K "list" rExtend ta (tCons te tNil)) D σ H := ha H (Ex.refl H) _ fun H1 e1 =>
  ⟨Or.inl ⟨rfl, xs, sq_of (e1 l _ hl)⟩, h H1 e1 _ fun H2 e2 => ⟨l, b, xs, ys, rfl, rfl, e2 l _ (e1 l _ hl), e2 b _ (e1 b _ hb), sz_of hz, k H2 (e1.trans e2)⟩⟩
theorem q_ext {l b : Addr} {xs ys : List V} (hl : H l = some (.lst xs)) (hb : H b = some (.lst ys)) (ha : Ev ta σ H (.ref l)) (h : Ev te σ H (.ref b)) (hz : xs.length + ys.length ≤ 100000) (k : ∀ H1, Ex H H1 → tz D σ (upd H1 l (.lst (xs ++ ys)))) :
    tSeq (tDrop (tBM K "list" rExtend ta (tCons te tNil))) tz D σ H := s_ext (D := { D with nx := tz D }) hl hb ha h hz k
/-- xs.extend(a new list) -/
theorem s_extN {l : Addr} {xs ys : List V} (hl : H l = some (.lst xs)) (ha : Ev ta σ H (.ref l)) (h : EvL te σ H ys) (hz : xs.length + ys.length ≤ 100000) (k : ∀ H1, Ex H H1 → D.nx σ (upd H1 l (.lst (xs ++ ys)))) :
    tDrop (tBM K "list" rExtend ta (tCons te tNil)) D σ H := ha H (Ex.refl H) _ fun H1 e1 =>
  ⟨Or.inl ⟨rfl, xs, sq_of (e1 l _ hl)⟩, h H1 e1 _ fun b H2 hb e2 h2 => ⟨l, b, xs, ys, rfl, rfl, e2 l _ (e1 l _ hl), h2, sz_of hz, k H2 (e1.trans e2)⟩⟩
theorem q_extN {l : Addr} {xs ys : List V} (hl : H l = some (.lst xs)) (ha : Ev ta σ H (.ref l)) (h : EvL te σ H ys) (hz : xs.length + ys.length ≤ 100000) (k : ∀ H1, Ex H H1 → tz D σ (upd H1 l (.lst (xs ++ ys)))) :
    tSeq (tDrop (tBM K "list" rExtend ta (tCons te tNil))) tz D σ H := s_extN (D := { D with nx := tz D }) hl ha h hz k
/-- xs.pop() as a statement -/
theorem s_pop {l : Addr} {xs : List V} {y : V} (hl : H l = some (.lst xs)) (hy : xs[xs.length - 1]? = some y) (ha : Ev ta σ H (.ref l)) (k : ∀ H1, Ex H H1 → D.nx σ (upd H1 l (.lst xs.dropLast))) : tDrop (tBM0 K "list" rPop ta) D σ H := ha H (Ex.refl H) _ fun H1 e1 =>
  ⟨Or.inl ⟨rfl, xs, sq_of (e1 l _ hl)⟩, l, xs, y, rfl, rfl, e1 l _ hl, hy, k H1 e1⟩
/-- an item of a tuple that a read gives -/
theorem ep_ixT {P P' : V → Hp → Prop} {i : Int} (h : EvP te σ H P) (hb : Ev tb σ H (.int i)) (k : ∀ v H2 H3, Ex H H2 → Ex H2 H3 → P v H2 → ∃ t xs x, v = .ref t ∧ SqT K H3 t xs ∧ atI xs i = some x ∧ P' x H3) : EvP (tOp (rIxT K) te tb) σ H P' := fun H1 e Q q =>
  h H1 e _ fun v H2 e2 p => hb H2 (e.trans e2) _ fun H3 e3 => by
    obtain ⟨t, xs, x, rfl, h1, h2, h3⟩ := k v H2 H3 (e.trans e2) e3 p
    exact ⟨t, xs, i, x, rfl, rfl, h1, h2, q x H3 (e2.trans e3) h3⟩
theorem ev_opNotN (h : Ev ta σ H x) : Ev (tOp (fun x y H Q => y = .non ∧ Q (.bl (!decide (x = .non))) H) ta (tC .non)) σ H (.bl (!decide (x = .non))) := ev_op h ev_c fun H1 _ _ q => ⟨rfl, q H1 (Ex.refl H1)⟩
theorem ev_opIsN (h : Ev ta σ H x) : Ev (tOp (fun x y H Q => y = .non ∧ Q (.bl (decide (x = .non))) H) ta (tC .non)) σ H (.bl (decide (x = .non))) := ev_op h ev_c fun H1 _ _ q => ⟨rfl, q H1 (Ex.refl H1)⟩
/-- the last row against [] -/
theorem ev_neLast {l : Addr} {rs : List Addr} {rows : List (List Nat)} {r : List Nat} (ha : Ev ta σ H (.ref l)) (hb : Ev tb σ H (.int (-1))) (h : H l = some (.lst (rs.map V.ref))) (R : RowsL H rs rows) (hl : rows.getLast? = some r) : Ev (tOp (rNeD K) (tOp (rIxL K) ta tb) (tLst tNil)) σ H (.bl (!decide (r = []))) := by
  obtain ⟨a, h1, h2, h3⟩ := R.get (last_idx hl)
  rw [← R.len] at h1
  exact ev_neNil (ev_opIx ha hb (sq_of h) (refs_last h1 (fun e => by rw [e] at h2; cases h2))) (sq_of h3)
theorem ev_eqLast {l : Addr} {rs : List Addr} {rows : List (List Nat)} {r : List Nat} (ha : Ev ta σ H (.ref l)) (hb : Ev tb σ H (.int (-1))) (h : H l = some (.lst (rs.map V.ref))) (R : RowsL H rs rows) (hl : rows.getLast? = some r) : Ev (tOp (rEqD K) (tOp (rIxL K) ta tb) (tLst tNil)) σ H (.bl (decide (r = []))) := by
  obtain ⟨a, h1, h2, h3⟩ := R.get (last_idx hl)
  rw [← R.len] at h1
  exact ev_eqNil (ev_opIx ha hb (sq_of h) (refs_last h1 (fun e => by rw [e] at h2; cases h2))) (sq_of h3)
theorem rv_inI {neg : Bool} {p : Addr} {l : List Nat} {n : Nat} (h : SqL K H p (vi l)) : RV (rIn K neg) (.int (n : Int)) (.ref p) H (.bl (if neg then !decide (n ∈ l) else decide (n ∈ l))) := by
  have q := rv_inL (K := K) (neg := neg) (x := .int (n : Int)) h rfl (vi_flat l)
  rw [vi_in] at q
  exact q
theorem rv_isI {p : Addr} {l : List Nat} {n : Nat} (h : SqL K H p (vi l)) : RV (rIn K false) (.int (n : Int)) (.ref p) H (.bl (decide (n ∈ l))) := rv_inI h
theorem rv_niI {p : Addr} {l : List Nat} {n : Nat} (h : SqL K H p (vi l)) : RV (rIn K true) (.int (n : Int)) (.ref p) H (.bl (!decide (n ∈ l))) := rv_inI h
/-- [e for i in range(n) if t], whole numbers made -/
theorem el_lcR1f {tA : TA} {j : Nat} {vs : List Nat} {n : Nat} (f : Nat → Bool) (g : Nat → Nat) (h : EvA tA σ H [.int (n : Int)]) (hn : n ≤ 40000) (hw : ∀ x, wipe ((wipe σ vs).set j (some x)) vs = wipe σ vs)
    (ht : ∀ (i : Nat) H1, Ex H H1 → i < n → EvT t ((wipe σ vs).set j (some (.int (i : Int)))) H1 (f i)) (he : ∀ (i : Nat) H1, Ex H H1 → i < n → f i = true → Ev te ((wipe σ vs).set j (some (.int (i : Int)))) H1 (.int ((g i : Nat) : Int))) :
    EvL (tLc (iRng1 tA) (gName j) t te vs) σ H (vi (((List.range n).filter f).map g)) := by
  have q := el_lcR1 (t := t) (te := te) (σ := σ) (H := H) (ta := tA) (j := j) (vs := vs) (n := (n : Int)) f (fun i => V.int ((g i : Nat) : Int)) h ⟨by omega, by omega⟩ hw (fun i H1 e hi => ht i H1 e (by omega)) (fun i H1 e hi hf => he i H1 e (by omega) hf)
  rw [Int.toNat_natCast] at q
  unfold given at q
  unfold vi
  rw [List.map_map]
  exact q
/-- [n for n in l if t] -/
theorem el_lcLf {a : Addr} {l : List Nat} {tl : TE} {j : Nat} {vs : List Nat} (f : Nat → Bool) (h : Ev tl σ H (.ref a)) (hx : SqL K H a (vi l)) (hz : l.length ≤ 40000) (hw : ∀ x, wipe ((wipe σ vs).set j (some x)) vs = wipe σ vs)
    (ht : ∀ (n : Nat) H1, Ex H H1 → n ∈ l → EvT t ((wipe σ vs).set j (some (.int (n : Int)))) H1 (f n)) (he : ∀ (n : Nat) H1, Ex H H1 → n ∈ l → f n = true → Ev te ((wipe σ vs).set j (some (.int (n : Int)))) H1 (.int (n : Int))) : EvL (tLc (iList K tl) (gName j) t te vs) σ H (vi (l.filter f)) := by
  have q := el_lcL (t := t) (te := te) (K := K) (σ := σ) (H := H) (a := a) (xs := vi l) (tl := tl) (j := j) (vs := vs) (fun i => f (l.getD i 0)) (fun i => V.int ((l.getD i 0 : Nat) : Int)) h hx (by rw [vi_len]; exact hz) hw (fun i x H1 e hi => by
    obtain ⟨n, hn, rfl⟩ := vi_get_of hi
    have e1 : l.getD i 0 = n := by rw [List.getD_eq_getElem?_getD, hn]; rfl
    rw [e1]
    exact ht n H1 e (List.mem_of_getElem? hn)) (fun i x H1 e hi hf => by
    obtain ⟨n, hn, rfl⟩ := vi_get_of hi
    have e1 : l.getD i 0 = n := by rw [List.getD_eq_getElem?_getD, hn]; rfl
    show Ev te _ H1 (.int ((l.getD i 0 : Nat) : Int))
    rw [e1] at hf ⊢
    exact he n H1 e (List.mem_of_getElem? hn) hf)
  rw [vi_len] at q
  rw [← filter_get l f]
  unfold given at q
  unfold vi
  rw [List.map_map]
  exact q
end
/-- [n for n in range(a, b) if t] -/
theorem el_lcR2f {σ : L2.St} {H : Hp} {t : TT} {te : TE} {tA : TA} {j : Nat} {vs : List Nat} {lo n : Nat} (f : Nat → Bool) (h : EvA tA σ H [.int (lo : Int), .int ((lo + n : Nat) : Int)]) (hn : lo + n ≤ 40000) (hw : ∀ x, wipe ((wipe σ vs).set j (some x)) vs = wipe σ vs)
    (ht : ∀ (i : Nat) H1, Ex H H1 → i < n → EvT t ((wipe σ vs).set j (some (.int ((lo + i : Nat) : Int)))) H1 (f (lo + i))) (he : ∀ (i : Nat) H1, Ex H H1 → i < n → f (lo + i) = true → Ev te ((wipe σ vs).set j (some (.int ((lo + i : Nat) : Int)))) H1 (.int ((lo + i : Nat) : Int))) :
    EvL (tLc (iRng2 tA) (gName j) t te vs) σ H (vi ((List.range' lo n).filter f)) := fun H0 e Q q => h H0 e _ fun H1 e1 => ⟨(lo : Int), ((lo + n : Nat) : Int), rfl, ⟨by omega, by omega, by omega, by omega⟩, fun Dl hD => by
  rw [show (((lo + n : Nat) : Int) - (lo : Int)).toNat = n by omega]
  refine lc_range (lo := (lo : Int)) (n := n) (fun i H' => H1 Dl = none ∧ Ex H1 H' ∧ H' Dl = some (.lst (vi ((List.range' lo i).filter f)))) ⟨hD, Ex.new hD, upd_same⟩ (fun i H' hi p => ?_) (fun H' p => q Dl H' (fresh_back e1 p.1) (e1.trans p.2.1) p.2.2)
  obtain ⟨p1, p2, p3⟩ := p
  rw [show (lo : Int) + (i : Int) = ((lo + i : Nat) : Int) by omega]
  refine ⟨hw _, ht i H' ((e.trans e1).trans p2) hi H' (Ex.refl H') _ fun H3 e3 => ?_⟩
  have len : ((List.range' lo i).filter f).length ≤ i := by
    have := List.length_filter_le f (List.range' lo i)
    rw [List.length_range'] at this
    exact this
  cases hf : f (lo + i) with
  | true =>
    show te _ H3 fun y H4 => ∃ acc, H4 Dl = some (.lst acc) ∧ acc.length < sizeLine ∧ _
    refine he i H3 (((e.trans e1).trans p2).trans e3) hi hf H3 (Ex.refl H3) _ fun H4 e4 => ⟨_, e4 _ _ (e3 _ _ p3), sz_lt (by rw [vi_len]; omega), p1, Ex.mut ((p2.trans e3).trans e4) p1, ?_⟩
    rw [upd_same, List.range'_concat, List.filter_append, List.filter_cons, show lo + 1 * i = lo + i by omega, if_pos hf, vi_app]
    rfl
  | false =>
    show H1 Dl = none ∧ Ex H1 H3 ∧ _
    refine ⟨p1, p2.trans e3, ?_⟩
    rw [List.range'_concat, List.filter_append, List.filter_cons, show lo + 1 * i = lo + i by omega, if_neg (by rw [hf]; decide)]
    rw [List.filter_nil, List.append_nil]
    exact e3 _ _ p3⟩
theorem getLast_dropLast {α : Type} {l : List α} {x : α} (h : l.getLast? = some x) : l = l.dropLast ++ [x] := by
  have hn : l ≠ [] := fun e => by rw [e] at h; cases h
  have := List.dropLast_concat_getLast hn
  rw [List.getLast?_eq_some_getLast hn] at h
  rw [← Option.some.inj h]
  exact this.symm
end Fi
/-! A caught error that is kept: try: .. except X as n: m = n, the error tracked behind the try; isinstance of it. -/
namespace Fi
open PySem L2 Evl
/-- an error of the class cls, caught once, at a -/
def ExV (cls : Value) (a : Addr) : HO := .ext fun h => ∃ (oe : Obj) (vs : Array Value), h.get? a = some oe ∧ Zc cls none oe ∧ oe.data = .fields vs
theorem exV_ok {P : Program} {w : World} {H : Hp} {h : Heap} {a : Addr} {cls : Value} {oe : Obj} {vs : Array Value} (e : h.get? a = some oe) (z : Zc cls none oe) (d : oe.data = .fields vs) : ObjOk P w H h a (ExV cls a) :=
  ⟨⟨oe, vs, e, z, d⟩, ⟨oe, e⟩, fun _ _ ⟨o1, v1, q1, r1⟩ k => ⟨o1, v1, k o1 q1, r1⟩⟩
section
variable {X : Cx} {pins : List (Addr × Obj)} {σ : L2.St} {H : Hp} {s : Shared}
/-- an error that stands untracked is tracked -/
theorem exc_tracked {a : Addr} {oe : Obj} {vs : Array Value} {cls : Value} (S : Inv X pins σ H s) (hn0 : X.s_0.heap.get? a = none) (he : s.heap.get? a = some oe) (hz : Zc cls none oe) (hd : oe.data = .fields vs) (na : H a = none) (nL : a ≠ X.env.locals) (np : ∀ p ∈ X.pn ++ pins, p.1 ≠ a) :
    Inv X pins σ (upd H a (ExV cls a)) s := by
  have old : ∀ b ob, X.s_0.heap.get? b = some ob → b ≠ a := fun b ob q z => by rw [z, hn0] at q; cases q
  have some_ne : ∀ b ob, H b = some ob → b ≠ a := fun b ob q z => by rw [z, na] at q; cases q
  have U : Un X.fs X.ex X.H_0 (upd H a (ExV cls a)) X.s_0.heap s.heap :=
    { keep := S.base.keep
      slot := S.base.slot
      there := S.base.there
      free := fun b ob q1 q2 q3 => (upd_ne (old b ob q1)).trans (S.base.free b ob q1 q2 q3)
      tups := fun b xs q => (upd_ne (some_ne b _ (S.base.tups b xs q))).trans (S.base.tups b xs q)
      frzs := fun b ob u q => (upd_ne (some_ne b _ (S.base.frzs b ob u q))).trans (S.base.frzs b ob u q)
      tbls := fun b ps q => by
        obtain ⟨m, z⟩ := S.base.tbls b ps q
        exact ⟨m, (upd_ne (some_ne b _ z)).trans z⟩ }
  have cellNe : ∀ x c, X.env.cells.lookup x = some c → c ≠ a := fun x c q z => by
    obtain ⟨v, oc, h1, h2⟩ := S.cell x c q
    rw [z, he] at h1
    cases h1
    rw [hd] at h2
    cases h2
  have O : HOk X.prog X.w (upd H a (ExV cls a)) s.heap := fun b u q => by
    by_cases hb : b = a
    · subst hb
      rw [upd_same] at q
      cases q
      exact exV_ok he hz hd
    · rw [upd_ne hb] at q
      exact (S.hok b u q).stay (fun _ _ _ z => z) (fun c z => (upd_ne (some_ne c _ z)).trans z) fun c xs z => (upd_ne (some_ne c _ z)).trans z
  exact { ok := S.ok, os := S.os, bare := S.bare, base := U, loc := S.loc, cell := S.cell, free := (upd_ne nL.symm).trans S.free, freeC := fun x c q => (upd_ne (cellNe x c q)).trans (S.freeC x c q),
          pin := fun p hp => ⟨(S.pin p hp).1, (upd_ne (np p hp)).trans (S.pin p hp).2.1, (S.pin p hp).2.2⟩, hok := O, len := S.len }
end
/-- what 'except x as n: ..', n kept, wishes of an error of the body (slot i is n's) -/
def wV (K : PySem.W.Frag) (c : Value) (i : Nat) (ts : Addr → Value → TS) (D : Ends) : WX := fun cls d σ H =>
  d = none ∧ PySem.W.exmOne K cls c = some true ∧ ∀ a, H a = none → ts a cls { nx := fun σ' H' => D.nx (σ'.set i none) (upd H' a (ExV cls a)), rt := fun _ _ => False } (σ.set i (some (.ref a))) H
section
variable {X : Cx} {x n : Str} {c : Value} {i : Nat} {body suite : List Stmt} {b₀ : Stmt} {np pos pos' : Pos} {tb : WX → TS} {ts : Addr → Value → TS}
theorem ps_try_asV (hs : X.stack = X.env :: X.outer) (hf : X.env.frame = some X.env.locals) (hex : X.ex = []) (hN : X.N.Nodup) (hi : X.N[i]? = some n) (hln : X.env.kindOf n = some .local) (hc : Names X x c)
    (hb : ∀ (W : WX) (pn : List (Addr × Obj)) (xe : Value → Shared → Prop), Takes (X.tr pn xe) W → PassesOwn (model X.prog X.w) X.A X.env xe → PSs (X.tr pn xe) body (tb W))
    (hsu : ∀ (a : Addr) (oe : Obj) (cls : Value) (pn : List (Addr × Obj)), Zc cls none oe → (∃ vs, oe.data = .fields vs) → PSs (X.suite a ((a, oe) :: pn)) (b₀ :: suite) (ts a cls)) :
    PS X (.Try body [.ExceptHandler (some (.Name x np)) (some n) (b₀ :: suite) pos'] [] [] pos) (fun D σ H => tb (wV X.K c i ts D) D σ H) := by
  constructor
  intro pins s σ H D I h
  have ok := I.ok
  let M := model X.prog X.w
  let hds : List ExceptHandler := [.ExceptHandler (some (.Name x np)) (some n) (b₀ :: suite) pos']
  let catch_ : Value → Shared → Prop := fun e s₁ => wpAny M X.A (noteFrame e X.env) (fun _ s₂ => wpAny M X.A (setFlight e none) (fun _ s₃ => wpAny M X.A (handleBy e X.env hds) (SP X pins D) X.xe s₃) X.xe s₂) X.xe s₁
  have frames : X.A.frames = some (X.env :: X.outer) := ok.frames.trans (congrArg some hs)
  have taken : Takes (X.tr (X.pn ++ pins) catch_) (wV X.K c i ts D) := by
    rintro u s' ⟨a, B, sI, pinsI, σ', H', cls, d, rfl, J0, nb, up, sky, na, os, ag, rfl, hyes, hsuite⟩
    have J : Inv X pins σ' H' sI := J0.ofTry ok
    rw [show (X.tr (X.pn ++ pins) catch_).stack = X.env :: X.outer from hs] at sky
    refine Sky.land Zc.steady frames hf sky fun h3 fl3 up3 => ?_
    have J3 : Inv X pins σ' H' { s' with heap := h3 } := J.landed nb fl3.1 (up.trans up3) os ag
    obtain ⟨oe3, vs3, he3, hz3, hd3⟩ := fl3.there
    have away : a ∉ frs (X.env :: X.outer) := fun hm => by
      obtain ⟨_, o', e', hnf⟩ := fl3.2.2.1.mem hm
      rw [he3] at e'
      cases e'
      exact hnf _ hd3
    have nL : a ≠ X.env.locals := fun z => away (List.mem_filterMap.mpr ⟨X.env, .head _, hf.trans (congrArg some z.symm)⟩)
    have nF : a ∉ X.fs := fun hm => by
      obtain ⟨e, q1, q2⟩ := List.mem_filterMap.mp hm
      exact away (List.mem_filterMap.mpr ⟨e, .tail _ q1, q2⟩)
    -- the error stood nowhere ahead of the body's run
    have newI : sI.heap.get? a = none := by
      cases q : sI.heap.get? a with
      | none => rfl
      | some ob =>
        have z := nb a ob q (show a ∉ frs X.stack by rw [hs]; exact away)
        rw [fl3.2.1] at z
        cases z
    have new0 : X.s_0.heap.get? a = none := by
      cases q : X.s_0.heap.get? a with
      | none => rfl
      | some ob =>
        obtain ⟨o', z⟩ := J.base.there a ob q (by rw [hex]; exact List.not_mem_nil)
        rw [newI] at z
        cases z
    have apart : ∀ p ∈ X.pn ++ pins, p.1 ≠ a := fun p hp z => by
      have q := (J.pin p hp).1
      rw [z, newI] at q
      cases q
    have S3 := J3.suite he3 hd3 na nL nF
    refine wpAny_handleBy_cons (codeAny_handlers_test ?_) fun q => nomatch q
    have kind : PySem.W.Looks M h3 (typeOf (.ref a)) cls := fun A Q E s k q => wpAny_typeOf_ref (k _ _ he3) (hz3.1.symm ▸ q)
    have fits := PySem.W.exm_one (M := M) J3.kIn kind hyes
    have named : ∀ {Q : Value → Shared → Prop} {E : Value → Shared → Prop}, Q c { s' with heap := h3 } → wpAny M (X.A.mark (some (.ref a))) (eval (.Name x np) X.env) Q E { s' with heap := h3 } := by
      intro Q E q
      rcases hc with ⟨g1, g2, g3 | ⟨g3, g4, g5⟩⟩
      · exact ld_glob S3 g1 g3 q g2
      · exact ld_blt S3 g1 g3 g4 q g5 g2
    refine named (fits.here (codeAny_handlers_suite_as (HandSPX.lands_againZ fl3 fun h4 fl4 up4 => ?_)))
    have J4 : Inv X pins σ' H' { s' with heap := h4 } := J.landed nb fl4.1 ((up.trans up3).trans up4) os ag
    obtain ⟨oe4, vs4, he4, hz4, hd4⟩ := fl4.there
    have S4 := J4.suite he4 hd4 na nL nF
    refine @store_ok (X.suite a ((a, oe4) :: (X.pn ++ pins))) _ _ _ _ _ _ _ _ _ _ _ _ S4 hN hi (.inl hln) (show RelV (.ref a) (.ref a) from rfl) (fun s5 S5 => ?_) (.inr hln)
    have ran := (hsu a oe4 cls (X.pn ++ pins) hz4 ⟨vs4, hd4⟩).run [] s5 _ H' _ S5 (hsuite a na)
    refine wpAny_mono ran (fun f s6 out => ?_) fun _ _ z => z.elim
    cases f with
    | next =>
      obtain ⟨σ6, H6, S6, q6⟩ := out
      obtain ⟨p1, p2, _⟩ := S6.pin (a, oe4) (List.mem_append_left _ (.head _))
      have T6 := exc_tracked (S6.unsuite ok) new0 p1 hz4 hd4 p2 nL apart
      exact gone_ok T6 hN hi hln fun s7 J7 => ⟨_, _, J7, q6⟩
    | brk => obtain ⟨_, _, _, q6⟩ := out; exact q6.elim
    | cont => obtain ⟨_, _, _, q6⟩ := out; exact q6.elim
    | ret u => obtain ⟨_, _, _, _, _, q6⟩ := out; exact q6.elim
  refine wpAny_Try_except (wpAny_mono ((hb _ (X.pn ++ pins) catch_ taken PassesOwn.looking).run [] s σ H D (I.toTry _) h) (fun f s1 out => ?_) fun _ _ q => q)
  cases f with
  | next => obtain ⟨σ1, H1, J1, q⟩ := out; exact wpAny_execs_nil ⟨σ1, H1, J1.ofTry ok, q⟩
  | brk => obtain ⟨σ1, H1, J1, q⟩ := out; exact ⟨σ1, H1, J1.ofTry ok, q⟩
  | cont => obtain ⟨σ1, H1, J1, q⟩ := out; exact ⟨σ1, H1, J1.ofTry ok, q⟩
  | ret u => obtain ⟨v, σ1, H1, J1, r, q⟩ := out; exact ⟨v, σ1, H1, J1.ofTry ok, r, q⟩
/-- isinstance(e, c), e a kept error of the class at Dc -/
def rIsV (K : PySem.W.Frag) : List V → Hp → VK → Prop := fun xs H Q => ∃ (a Dc : Addr) (cc : V) (u : Value) (b : Bool), xs = [.ref a, cc] ∧ H a = some (ExV (.ref Dc) a) ∧ ExcC K Dc ∧ ClsV cc u ∧ PySem.W.kitOne K (.ref Dc) u = some b ∧ Q (.bl b) H
theorem call_isV {K : PySem.W.Frag} (hK : X.K = K := by rfl) : CallR X (.builtin "isinstance") (rIsV K) := by
  subst hK
  intro pins s σ H xs us Q I r h
  obtain ⟨a, Dc, cc, u, b, rfl, ha, C, hcu, e, q⟩ := h
  cases r with
  | cons rx rr =>
    cases rr with
    | cons rt rr =>
      cases rr
      cases rx
      have ec := hcu.eq rt
      subst ec
      obtain ⟨⟨oe, vs, hget, hz, hv⟩, _⟩ := I.hok a _ ha
      have J : PySem.W.InstAt s.heap a oe Dc none := by
        obtain ⟨oc, od, oda, osl⟩ := oe
        obtain ⟨z1, z2⟩ := hz
        simp only at z1 z2 hv
        subst z1 z2 hv
        exact ⟨hget, rfl, rfl, trivial⟩
      exact PySem.W.kia_one (PySem.W.handS_kitx_exc C.hg C.hk C.hs C.hd C.ha C.hn C.ht C.hm) I.kIn J e (fun z => nomatch z) fun tk => ⟨.bl b, H, I.tok _, rfl, q⟩
/-! ### list.count(True) of a list of truth values -/
theorem dpAll_bl {K : PySem.W.Frag} {H : Hp} : ∀ l : List Bool, DpAll K H (l.map V.bl) (l.map PyData.bool)
  | [] => .nil
  | b :: l => .cons (.bl b) (dpAll_bl l)
theorem plain_bl : ∀ l : List Bool, PyData.plainAll (l.map PyData.bool) = true
  | [] => by simp [PyData.plainAll]
  | b :: l => by simp [PyData.plainAll, PyData.plain, plain_bl l]
theorem depth_bl : ∀ l : List Bool, PyData.depthAll (l.map PyData.bool) = 0
  | [] => by simp [PyData.depthAll]
  | b :: l => by simp [PyData.depthAll, PyData.depth, depth_bl l]
theorem count_bl (l : List Bool) : (l.map PyData.bool).countP (fun y => PyData.eqv y (.bool true)) = l.countP id := by
  rw [List.countP_map]
  congr 1
  funext b
  cases b <;> simp [PyData.eqv]
def rCntB (K : PySem.W.Frag) : V → List V → Hp → VK → Prop := fun x xs H Q => ∃ (p : Addr) (bs : List Bool), x = .ref p ∧ xs = [.bl true] ∧ SqL K H p (bs.map V.bl) ∧ Q (.int ((bs.countP id : Nat) : Int)) H
theorem mt_countB {K : PySem.W.Frag} (hu : X.A.units + 64 < cLine) (hK : X.K = K := by rfl) : MtR X "list.count" (rCntB K) := by
  subst hK
  rintro pins s σ H x xs v us Q I rx rxs ⟨p, bs, rfl, rfl, hs, q⟩
  cases rx
  cases rxs with
  | cons ry rt =>
    cases rt
    cases ry
    obtain ⟨its, rv, ⟨ob, n, ho, hc, _, hd⟩, hlen⟩ := I.list hs
    obtain ⟨as, rd⟩ := Dp.readsAll I _ _ its (dpAll_bl bs) rv
    refine PySem.SeqAt.count_list_data (d := .bool true) (bs := _) ⟨ob, ho, hc, n, hd⟩ (by simpa using rd) (Reads.bool true) (plain_bl bs) (by simp [PyData.plain]) ?_ ⟨.int ((bs.countP id : Nat) : Int), H, I.tok _, ⟨s.toks, ?_⟩, q⟩
    · rw [depth_bl]
      simp [PyData.depth]
      omega
    · rw [count_bl]
end
/-! ### calls that may raise, the wish told at the caller's slots -/
section
variable {X : Cx} {CX : CXT} {k : Nat} {C f : Addr} {fd : FuncData} {ps : List Str} {sp : Sp} {E : L2.St → XK} {x m : Str} {p pos apos : Pos} {e o : Expr} {es : List Expr} {ta : TE} {t : TA}
def tMethE (C : Addr) (m : Str) (sp : Sp) (E : L2.St → XK) (ta : TE) (t : TA) : TE := fun σ H Q => ta σ H fun x H1 => ∃ a dx fs, x = .ref a ∧ H1 a = some (.ins C dx fs) ∧ fs.lookup m = none ∧ t σ H1 fun vs H2 => sp (x :: vs) H2 Q (E σ)
def tMakeE (C : Addr) (sp : Sp) (E : L2.St → XK) (t : TA) : TE := fun σ H Q => t σ H fun vs H1 => ∀ x dx, H1 x = none → H1 dx = none → dx ≠ x → sp (.ref x :: vs) (upd (upd H1 dx (.own x)) x (.ins C dx [])) (fun v H2 => v = .non ∧ Q (.ref x) H2) (E σ)
theorem Has.callS (h : Has X.prog X.w X.K X.mg X.base CX x ps k sp) (hr : Room k X.A) (hg : Gl X x) (hx : ∀ σ, PassesAt CX X σ (E σ)) (ha : PA X (e :: es) t) (hdb : (x == ("__debug__" : Str)) = false := by decide)
    (he : starEach (e :: es) X.env = (false, eval e X.env) :: starEach es X.env := by rfl) (hpl : (backTo pos (starEach es X.env)).any (·.1) = false := by rfl) : PE X (.Call (.Name x p) (e :: es) [] pos) (tCallS sp E t) := by
  obtain ⟨f, fd, hm, hk, hb, F⟩ := h
  exact pe_callS F hr hg hm hk hb hx ha hdb he hpl
theorem HasM.callS (h : HasM X.prog X.w X.K X.mg X.base CX C m ps k sp) (c : Cls X.K C) (ho : PE X o ta) (hr : Room k X.A) (hx : ∀ σ, PassesAt CX X σ (E σ)) (ha : PA X (e :: es) t) {pl : Sem Bool}
    (hst : starEach (e :: es) X.env = (false, eval e X.env) :: starEach es X.env := by rfl) (hpl : (backTo pos (starEach es X.env)).any (·.1) = false := by rfl)
    (ht : eval (.Call (.Attribute o m apos) (e :: es) [] pos) X.env = (do let ov ← eval o X.env; standAt apos.atName; let (f, first) ← holding [ov] (getMethod ov m pl); callWith pos f first (backTo pos (starEach (e :: es) X.env)) (backToKw pos (keywordEach [] X.env))) := by rfl) : PE X (.Call (.Attribute o m apos) (e :: es) [] pos) (tMethE C m sp E ta t) := by
  obtain ⟨f, fd, hm, hb, F⟩ := h
  constructor
  intro pins s σ H Q I q
  have first := ho.run pins s σ H _ I q
  refine PySem.W.methodCall_KW (pl := pl) (wpAny_mono first (fun u s1 out => ?_) fun _ _ z => z) ht
  obtain ⟨y, H1, I1, ry, a, dx, fs, rfl, ea, hl, q1⟩ := out
  have eu : u = Value.ref a := ry
  subst eu
  have args := ha.run pos pins s1 σ H1 _ I1 q1
  exact getmeth_ok I1 ea c hm hl (PySem.W.callWith_K (first := [.ref a]) (h₀ := X.base) I.ok.mod.kin hm.kp (wpAny_mono args (fun us s2 out => by
    obtain ⟨vs, H2, I2, r, q2⟩ := out
    exact ⟨I2.kIn, run_fnS (us := .ref a :: us) (vs := .ref a :: vs) F hr hb (hx σ) I2 (.cons rfl r) q2⟩) fun _ _ z => z) hst hpl)
theorem HasI.makeS (h : HasI X.prog X.w X.K X.mg X.base CX C ps k sp) (hr : Room (k + 1) X.A) (hg : Gl X x) (hm : X.mg x = some (.ref C)) (hx : ∀ σ, PassesAt CX X σ (E σ)) (ha : PA X (e :: es) t) (hdb : (x == ("__debug__" : Str)) = false := by decide)
    (he : starEach (e :: es) X.env = (false, eval e X.env) :: starEach es X.env := by rfl) (hpl : (backTo pos (starEach es X.env)).any (·.1) = false := by rfl) : PE X (.Call (.Name x p) (e :: es) [] pos) (tMakeE C sp E t) := by
  obtain ⟨f, fd, M, hb, F⟩ := h
  constructor
  intro pins s σ H Q I q
  have args := ha.run pos pins s σ H _ I q
  refine wpAny_Call_Name_kw (ld_glob I hg hm (PySem.W.callWith_K (h₀ := X.base) I.ok.mod.kin M.kp (wpAny_mono args (fun us s1 out => ?_) fun _ _ z => z) he hpl) hdb)
  obtain ⟨vs, H1, I1, r, q1⟩ := out
  refine ⟨I1.kIn, ?_⟩
  have sz := I1.hok
  have want := q1 (s1.heap.objs.size + 1) s1.heap.objs.size (sz.fresh (Nat.le_succ _)) (sz.fresh (Nat.le_refl _)) (Nat.ne_of_lt (Nat.lt_succ_self _))
  have I2 := Inv.made (C := C) I1
  have r2 : Vals (V.ref (s1.heap.objs.size + 1) :: vs) (Value.ref (s1.heap.objs.size + 1) :: us) := .cons rfl r
  have len : (Value.ref (s1.heap.objs.size + 1) :: us).length = ps.length := r2.length.symm.trans (F.len _ _ _ _ want)
  have b2 := hb _ (Value.ref (s1.heap.objs.size + 1) :: us) I2.kIn (by rw [List.append_nil]; exact len)
  rw [List.append_nil] at b2
  have ran := F.run _ X.stack _ _ ⟨Value.ref (s1.heap.objs.size + 1) :: us, []⟩ (Value.ref (s1.heap.objs.size + 1) :: us) _ _ (E σ) (hr.make C us []) (I2.env0.make C us []) b2 r2 want
  refine wpAny_call (make_map (f := f) I1.kIn M.makes M.init (beq_iff_eq.mp M.fn) (codeAny_mono ran fun res s' out => ?_))
  cases res with
  | error e1 => exact hx σ pins _ _ e1 s' I2 out
  | ok fl =>
    cases fl with
    | ret u =>
      obtain ⟨v, H', I3, rv, ev, q3⟩ := I2.after out
      subst ev
      exact ⟨rv, .ref (s1.heap.objs.size + 1), H', I3, rfl, q3⟩
    | next => exact out.elim
    | brk => exact out.elim
    | cont => exact out.elim
end
end Fi
/-! max(xs, default=d), whole numbers; xs.index(max(xs)). -/
namespace Fi
open PySem L2 Evl
theorem holdAll_ints {h : Heap} : ∀ {its : List Value} {ns : List Int}, PyProof.Rows.IntsAre its ns → PySem.W.HoldAll h its ns
  | _, _, .nil => PySem.W.HoldAll.nil
  | _, _, .cons z t hr => PySem.W.HoldAll.cons ⟨_, .int _ _⟩ (holdAll_ints hr)
theorem maxOf_int : ∀ (xs : List Int) (x : Int), PySem.W.maxOf x xs ∈ x :: xs ∧ ∀ y, y ∈ x :: xs → y ≤ PySem.W.maxOf x xs
  | [], x => ⟨List.mem_cons_self, fun y h => by rw [List.mem_singleton.mp h]; exact Int.le_refl _⟩
  | a :: xs, x => by
    have e : PySem.W.maxOf x (a :: xs) = PySem.W.maxOf (if x < a then a else x) xs := by
      unfold PySem.W.maxOf
      rw [List.foldl_cons]
      congr 1
      show (if decide (x < a) = true then a else x) = _
      by_cases c : x < a
      · rw [if_pos c, if_pos (decide_eq_true c)]
      · rw [if_neg c, if_neg (by rw [decide_eq_false c]; decide)]
    rw [e]
    obtain ⟨h1, h2⟩ := maxOf_int xs (if x < a then a else x)
    have hx : x ≤ (if x < a then a else x) := by split <;> omega
    have ha : a ≤ (if x < a then a else x) := by split <;> omega
    have hm := h2 _ List.mem_cons_self
    refine ⟨?_, fun y hy => ?_⟩
    · rcases List.mem_cons.mp h1 with h | h
      · rw [h]
        split
        · exact List.mem_cons_of_mem _ List.mem_cons_self
        · exact List.mem_cons_self
      · exact List.mem_cons_of_mem _ (List.mem_cons_of_mem _ h)
    · rcases List.mem_cons.mp hy with rfl | hy
      · exact Int.le_trans hx hm
      · rcases List.mem_cons.mp hy with rfl | hy
        · exact Int.le_trans ha hm
        · exact h2 y (List.mem_cons_of_mem _ hy)
section
variable {X : Cx}
def rMaxDef (K : PySem.W.Frag) : List V → List V → Hp → VK → Prop := fun vs zs H Q => ∃ (a : Addr) (ns : List Int) (d : Int), vs = [V.ref a] ∧ zs = [V.int d] ∧ SqL K H a (ns.map V.int) ∧ (ns = [] → Q (.int d) H) ∧ ∀ m, m ∈ ns → (∀ y, y ∈ ns → y ≤ m) → Q (.int m) H
theorem cr_maxDef {K : PySem.W.Frag} (hc : X.calm = true) (hu : X.A.units + 64 < cLine) (hK : X.K = K := by rfl) : CallRK X (.builtin "max") [Str.ofString "default"] (rMaxDef K) := by
  subst hK
  intro pins s σ H vs zs us ws Q I r rz h
  obtain ⟨a, ns, d, rfl, rfl, hs, q0, q1⟩ := h
  obtain ⟨its, rv, hl, _⟩ := I.list hs
  rw [Vals.ref1 r]
  obtain ⟨w1, rfl, e1⟩ := vals1 rz
  obtain ⟨t, rfl⟩ := e1
  have hi := rv.ints
  refine PySem.W.max_list_datum_default (α := Int) (xs := ns) (I.ok.hd hc) hl.isList (holdAll_ints hi) (by show X.A.units + 1 + 0 < cLine; omega) (fun e h' tk hk => ⟨.int d, H, I.kept hk, ⟨_, rfl⟩, q0 e⟩) fun y ys i v h' tk e hv hh hk => ?_
  obtain ⟨k1, k2⟩ := maxOf_int ys y
  subst e
  have hv2 : ∃ t, v = .int (PySem.W.maxOf y ys) t := by
    obtain ⟨as, hr⟩ := hh
    cases hr with
    | int _ t => exact ⟨t, rfl⟩
  obtain ⟨t2, rfl⟩ := hv2
  exact ⟨.int _, H, I.kept hk, ⟨_, rfl⟩, q1 _ k1 k2⟩
end
end Fi
namespace Fi
open PySem L2 Evl
def top (i : Nat) : Stmt := PySem.Challenge.pw_firetree_k06_whole_greedy_and_ceiling.main.body.getD i (.Pass ⟨0, 0, 0, 0⟩)
abbrev s_at_depth : Stmt := top 1
abbrev n_at_depth : List Str := ["tree", "depth", "gone", "thing"]
abbrev p_at_depth : List Str := ["tree", "depth", "gone"]
theorem sc_at_depth : FnScope n_at_depth p_at_depth (defScope s_at_depth) := ⟨rfl, rfl, rfl, by decide +kernel, rfl, by decide +kernel, by decide +kernel⟩
theorem bd_at_depth : ∀ (kV doc pm : Value) (an : Option Addr) (cdv ct : Value) (us : List Value), us.length = p_at_depth.length → bindArgs (PySem.W.fnOf "at_depth" "at_depth" (defArgs s_at_depth) (defBody s_at_depth) (defScope s_at_depth) .none kV doc pm an cdv ct) ⟨us, []⟩ = pure (p_at_depth.zip us) := fun _ _ _ _ _ _ us hl => match us, hl with | [_, _, _], _ => rfl
abbrev s_best_from : Stmt := top 2
abbrev n_best_from : List Str := ["tree", "depth", "gone", "some", "best", "thing", "further", "worth"]
abbrev p_best_from : List Str := ["tree", "depth", "gone"]
theorem sc_best_from : FnScope n_best_from p_best_from (defScope s_best_from) := ⟨rfl, rfl, rfl, by decide +kernel, rfl, by decide +kernel, by decide +kernel⟩
theorem bd_best_from : ∀ (kV doc pm : Value) (an : Option Addr) (cdv ct : Value) (us : List Value), us.length = p_best_from.length → bindArgs (PySem.W.fnOf "best_from" "best_from" (defArgs s_best_from) (defBody s_best_from) (defScope s_best_from) .none kV doc pm an cdv ct) ⟨us, []⟩ = pure (p_best_from.zip us) := fun _ _ _ _ _ _ us hl => match us, hl with | [_, _, _], _ => rfl
abbrev s_greatest : Stmt := top 3
abbrev n_greatest : List Str := ["tree"]
abbrev p_greatest : List Str := ["tree"]
theorem sc_greatest : FnScope n_greatest p_greatest (defScope s_greatest) := ⟨rfl, rfl, rfl, by decide +kernel, rfl, by decide +kernel, by decide +kernel⟩
theorem bd_greatest : ∀ (kV doc pm : Value) (an : Option Addr) (cdv ct : Value) (us : List Value), us.length = p_greatest.length → bindArgs (PySem.W.fnOf "greatest" "greatest" (defArgs s_greatest) (defBody s_greatest) (defScope s_greatest) .none kV doc pm an cdv ct) ⟨us, []⟩ = pure (p_greatest.zip us) := fun _ _ _ _ _ _ us hl => match us, hl with | [_], _ => rfl
abbrev s_greedy : Stmt := top 4
abbrev n_greedy : List Str := ["tree", "plan", "gone", "total", "some", "best", "thing"]
abbrev p_greedy : List Str := ["tree"]
theorem sc_greedy : FnScope n_greedy p_greedy (defScope s_greedy) := ⟨rfl, rfl, rfl, by decide +kernel, rfl, by decide +kernel, by decide +kernel⟩
theorem bd_greedy : ∀ (kV doc pm : Value) (an : Option Addr) (cdv ct : Value) (us : List Value), us.length = p_greedy.length → bindArgs (PySem.W.fnOf "greedy" "greedy" (defArgs s_greedy) (defBody s_greedy) (defScope s_greedy) .none kV doc pm an cdv ct) ⟨us, []⟩ = pure (p_greedy.zip us) := fun _ _ _ _ _ _ us hl => match us, hl with | [_], _ => rfl
abbrev s_ceiling : Stmt := top 5
abbrev n_ceiling : List Str := ["tree", "total", "some", "depth", "thing"]
abbrev p_ceiling : List Str := ["tree"]
theorem sc_ceiling : FnScope n_ceiling p_ceiling (defScope s_ceiling) := ⟨rfl, rfl, rfl, by decide +kernel, rfl, by decide +kernel, by decide +kernel⟩
theorem bd_ceiling : ∀ (kV doc pm : Value) (an : Option Addr) (cdv ct : Value) (us : List Value), us.length = p_ceiling.length → bindArgs (PySem.W.fnOf "ceiling" "ceiling" (defArgs s_ceiling) (defBody s_ceiling) (defScope s_ceiling) .none kV doc pm an cdv ct) ⟨us, []⟩ = pure (p_ceiling.zip us) := fun _ _ _ _ _ _ us hl => match us, hl with | [_], _ => rfl
abbrev s_spread : Stmt := top 12
abbrev n_spread : List Str := ["tree", "plan", "minutes", "burning", "shut", "now", "fresh", "thing"]
abbrev p_spread : List Str := ["tree", "plan"]
theorem sc_spread : FnScope n_spread p_spread (defScope s_spread) := ⟨rfl, rfl, rfl, by decide +kernel, rfl, by decide +kernel, by decide +kernel⟩
theorem bd_spread : ∀ (kV doc pm : Value) (an : Option Addr) (cdv ct : Value) (us : List Value), us.length = p_spread.length → bindArgs (PySem.W.fnOf "spread" "spread" (defArgs s_spread) (defBody s_spread) (defScope s_spread) .none kV doc pm an cdv ct) ⟨us, []⟩ = pure (p_spread.zip us) := fun _ _ _ _ _ _ us hl => match us, hl with | [_, _], _ => rfl
abbrev s_saved : Stmt := top 13
abbrev n_saved : List Str := ["tree", "plan", "burning", "thing"]
abbrev p_saved : List Str := ["tree", "plan"]
theorem sc_saved : FnScope n_saved p_saved (defScope s_saved) := ⟨rfl, rfl, rfl, by decide +kernel, rfl, by decide +kernel, by decide +kernel⟩
theorem bd_saved : ∀ (kV doc pm : Value) (an : Option Addr) (cdv ct : Value) (us : List Value), us.length = p_saved.length → bindArgs (PySem.W.fnOf "saved" "saved" (defArgs s_saved) (defBody s_saved) (defScope s_saved) .none kV doc pm an cdv ct) ⟨us, []⟩ = pure (p_saved.zip us) := fun _ _ _ _ _ _ us hl => match us, hl with | [_, _], _ => rfl
abbrev s_Tree___init__ : Stmt := inClass (top 17) 0
abbrev n_Tree___init__ : List Str := ["self", "elders", "worths", "k", "worth"]
abbrev p_Tree___init__ : List Str := ["self", "elders", "worths"]
theorem sc_Tree___init__ : FnScope n_Tree___init__ p_Tree___init__ (defScope s_Tree___init__) := ⟨rfl, rfl, rfl, by decide +kernel, rfl, by decide +kernel, by decide +kernel⟩
theorem bd_Tree___init__ : ∀ (kV doc pm : Value) (an : Option Addr) (cdv ct : Value) (us : List Value), us.length = p_Tree___init__.length → bindArgs (PySem.W.fnOf "__init__" "Tree.__init__" (defArgs s_Tree___init__) (defBody s_Tree___init__) (defScope s_Tree___init__) .none kV doc pm an cdv ct) ⟨us, []⟩ = pure (p_Tree___init__.zip us) := fun _ _ _ _ _ _ us hl => match us, hl with | [_, _, _], _ => rfl
abbrev s_Tree_elders : Stmt := inClass (top 17) 1
abbrev n_Tree_elders : List Str := ["self"]
abbrev p_Tree_elders : List Str := ["self"]
theorem sc_Tree_elders : FnScope n_Tree_elders p_Tree_elders (defScope s_Tree_elders) := ⟨rfl, rfl, rfl, by decide +kernel, rfl, by decide +kernel, by decide +kernel⟩
theorem bd_Tree_elders : ∀ (kV doc pm : Value) (an : Option Addr) (cdv ct : Value) (us : List Value), us.length = p_Tree_elders.length → bindArgs (PySem.W.fnOf "elders" "Tree.elders" (defArgs s_Tree_elders) (defBody s_Tree_elders) (defScope s_Tree_elders) .none kV doc pm an cdv ct) ⟨us, []⟩ = pure (p_Tree_elders.zip us) := fun _ _ _ _ _ _ us hl => match us, hl with | [_], _ => rfl
abbrev s_Tree_worths : Stmt := inClass (top 17) 2
abbrev n_Tree_worths : List Str := ["self"]
abbrev p_Tree_worths : List Str := ["self"]
theorem sc_Tree_worths : FnScope n_Tree_worths p_Tree_worths (defScope s_Tree_worths) := ⟨rfl, rfl, rfl, by decide +kernel, rfl, by decide +kernel, by decide +kernel⟩
theorem bd_Tree_worths : ∀ (kV doc pm : Value) (an : Option Addr) (cdv ct : Value) (us : List Value), us.length = p_Tree_worths.length → bindArgs (PySem.W.fnOf "worths" "Tree.worths" (defArgs s_Tree_worths) (defBody s_Tree_worths) (defScope s_Tree_worths) .none kV doc pm an cdv ct) ⟨us, []⟩ = pure (p_Tree_worths.zip us) := fun _ _ _ _ _ _ us hl => match us, hl with | [_], _ => rfl
abbrev s_Tree_things : Stmt := inClass (top 17) 3
abbrev n_Tree_things : List Str := ["self"]
abbrev p_Tree_things : List Str := ["self"]
theorem sc_Tree_things : FnScope n_Tree_things p_Tree_things (defScope s_Tree_things) := ⟨rfl, rfl, rfl, by decide +kernel, rfl, by decide +kernel, by decide +kernel⟩
theorem bd_Tree_things : ∀ (kV doc pm : Value) (an : Option Addr) (cdv ct : Value) (us : List Value), us.length = p_Tree_things.length → bindArgs (PySem.W.fnOf "things" "Tree.things" (defArgs s_Tree_things) (defBody s_Tree_things) (defScope s_Tree_things) .none kV doc pm an cdv ct) ⟨us, []⟩ = pure (p_Tree_things.zip us) := fun _ _ _ _ _ _ us hl => match us, hl with | [_], _ => rfl
abbrev s_Tree_see_thing : Stmt := inClass (top 17) 4
abbrev n_Tree_see_thing : List Str := ["self", "thing"]
abbrev p_Tree_see_thing : List Str := ["self", "thing"]
theorem sc_Tree_see_thing : FnScope n_Tree_see_thing p_Tree_see_thing (defScope s_Tree_see_thing) := ⟨rfl, rfl, rfl, by decide +kernel, rfl, by decide +kernel, by decide +kernel⟩
theorem bd_Tree_see_thing : ∀ (kV doc pm : Value) (an : Option Addr) (cdv ct : Value) (us : List Value), us.length = p_Tree_see_thing.length → bindArgs (PySem.W.fnOf "see_thing" "Tree.see_thing" (defArgs s_Tree_see_thing) (defBody s_Tree_see_thing) (defScope s_Tree_see_thing) .none kV doc pm an cdv ct) ⟨us, []⟩ = pure (p_Tree_see_thing.zip us) := fun _ _ _ _ _ _ us hl => match us, hl with | [_, _], _ => rfl
abbrev s_Tree_depth : Stmt := inClass (top 17) 5
abbrev n_Tree_depth : List Str := ["self", "thing", "steps"]
abbrev p_Tree_depth : List Str := ["self", "thing"]
theorem sc_Tree_depth : FnScope n_Tree_depth p_Tree_depth (defScope s_Tree_depth) := ⟨rfl, rfl, rfl, by decide +kernel, rfl, by decide +kernel, by decide +kernel⟩
theorem bd_Tree_depth : ∀ (kV doc pm : Value) (an : Option Addr) (cdv ct : Value) (us : List Value), us.length = p_Tree_depth.length → bindArgs (PySem.W.fnOf "depth" "Tree.depth" (defArgs s_Tree_depth) (defBody s_Tree_depth) (defScope s_Tree_depth) .none kV doc pm an cdv ct) ⟨us, []⟩ = pure (p_Tree_depth.zip us) := fun _ _ _ _ _ _ us hl => match us, hl with | [_, _], _ => rfl
abbrev s_Tree_below : Stmt := inClass (top 17) 6
abbrev n_Tree_below : List Str := ["self", "thing", "found", "other"]
abbrev p_Tree_below : List Str := ["self", "thing"]
theorem sc_Tree_below : FnScope n_Tree_below p_Tree_below (defScope s_Tree_below) := ⟨rfl, rfl, rfl, by decide +kernel, rfl, by decide +kernel, by decide +kernel⟩
theorem bd_Tree_below : ∀ (kV doc pm : Value) (an : Option Addr) (cdv ct : Value) (us : List Value), us.length = p_Tree_below.length → bindArgs (PySem.W.fnOf "below" "Tree.below" (defArgs s_Tree_below) (defBody s_Tree_below) (defScope s_Tree_below) .none kV doc pm an cdv ct) ⟨us, []⟩ = pure (p_Tree_below.zip us) := fun _ _ _ _ _ _ us hl => match us, hl with | [_, _], _ => rfl
abbrev s_Tree_worth_below : Stmt := inClass (top 17) 7
abbrev n_Tree_worth_below : List Str := ["self", "thing", "other"]
abbrev p_Tree_worth_below : List Str := ["self", "thing"]
theorem sc_Tree_worth_below : FnScope n_Tree_worth_below p_Tree_worth_below (defScope s_Tree_worth_below) := ⟨rfl, rfl, rfl, by decide +kernel, rfl, by decide +kernel, by decide +kernel⟩
theorem bd_Tree_worth_below : ∀ (kV doc pm : Value) (an : Option Addr) (cdv ct : Value) (us : List Value), us.length = p_Tree_worth_below.length → bindArgs (PySem.W.fnOf "worth_below" "Tree.worth_below" (defArgs s_Tree_worth_below) (defBody s_Tree_worth_below) (defScope s_Tree_worth_below) .none kV doc pm an cdv ct) ⟨us, []⟩ = pure (p_Tree_worth_below.zip us) := fun _ _ _ _ _ _ us hl => match us, hl with | [_, _], _ => rfl
abbrev s__law_cell_at : Stmt := top 19
abbrev n__law_cell_at : List Str := ["script", "k"]
abbrev p__law_cell_at : List Str := ["script", "k"]
theorem sc__law_cell_at : FnScope n__law_cell_at p__law_cell_at (defScope s__law_cell_at) := ⟨rfl, rfl, rfl, by decide +kernel, rfl, by decide +kernel, by decide +kernel⟩
theorem bd__law_cell_at : ∀ (kV doc pm : Value) (an : Option Addr) (cdv ct : Value) (us : List Value), us.length = p__law_cell_at.length → bindArgs (PySem.W.fnOf "_law_cell_at" "_law_cell_at" (defArgs s__law_cell_at) (defBody s__law_cell_at) (defScope s__law_cell_at) .none kV doc pm an cdv ct) ⟨us, []⟩ = pure (p__law_cell_at.zip us) := fun _ _ _ _ _ _ us hl => match us, hl with | [_, _], _ => rfl
abbrev s__law_draw : Stmt := top 20
abbrev n__law_draw : List Str := ["script", "k"]
abbrev p__law_draw : List Str := ["script", "k"]
theorem sc__law_draw : FnScope n__law_draw p__law_draw (defScope s__law_draw) := ⟨rfl, rfl, rfl, by decide +kernel, rfl, by decide +kernel, by decide +kernel⟩
theorem bd__law_draw : ∀ (kV doc pm : Value) (an : Option Addr) (cdv ct : Value) (us : List Value), us.length = p__law_draw.length → bindArgs (PySem.W.fnOf "_law_draw" "_law_draw" (defArgs s__law_draw) (defBody s__law_draw) (defScope s__law_draw) .none kV doc pm an cdv ct) ⟨us, []⟩ = pure (p__law_draw.zip us) := fun _ _ _ _ _ _ us hl => match us, hl with | [_, _], _ => rfl
abbrev s__law_whole : Stmt := top 21
abbrev n__law_whole : List Str := ["found"]
abbrev p__law_whole : List Str := ["found"]
theorem sc__law_whole : FnScope n__law_whole p__law_whole (defScope s__law_whole) := ⟨rfl, rfl, rfl, by decide +kernel, rfl, by decide +kernel, by decide +kernel⟩
theorem bd__law_whole : ∀ (kV doc pm : Value) (an : Option Addr) (cdv ct : Value) (us : List Value), us.length = p__law_whole.length → bindArgs (PySem.W.fnOf "_law_whole" "_law_whole" (defArgs s__law_whole) (defBody s__law_whole) (defScope s__law_whole) .none kV doc pm an cdv ct) ⟨us, []⟩ = pure (p__law_whole.zip us) := fun _ _ _ _ _ _ us hl => match us, hl with | [_], _ => rfl
abbrev s__law_elders : Stmt := top 22
abbrev n__law_elders : List Str := ["script", "things", "elders", "way", "k", "cell"]
abbrev p__law_elders : List Str := ["script", "things"]
theorem sc__law_elders : FnScope n__law_elders p__law_elders (defScope s__law_elders) := ⟨rfl, rfl, rfl, by decide +kernel, rfl, by decide +kernel, by decide +kernel⟩
theorem bd__law_elders : ∀ (kV doc pm : Value) (an : Option Addr) (cdv ct : Value) (us : List Value), us.length = p__law_elders.length → bindArgs (PySem.W.fnOf "_law_elders" "_law_elders" (defArgs s__law_elders) (defBody s__law_elders) (defScope s__law_elders) .none kV doc pm an cdv ct) ⟨us, []⟩ = pure (p__law_elders.zip us) := fun _ _ _ _ _ _ us hl => match us, hl with | [_, _], _ => rfl
abbrev s__law_tree : Stmt := top 23
abbrev n__law_tree : List Str := ["script", "most", "things", "top", "k"]
abbrev p__law_tree : List Str := ["script", "most"]
theorem sc__law_tree : FnScope n__law_tree p__law_tree (defScope s__law_tree) := ⟨rfl, rfl, rfl, by decide +kernel, rfl, by decide +kernel, by decide +kernel⟩
theorem bd__law_tree : ∀ (kV doc pm : Value) (an : Option Addr) (cdv ct : Value) (us : List Value), us.length = p__law_tree.length → bindArgs (PySem.W.fnOf "_law_tree" "_law_tree" (defArgs s__law_tree) (defBody s__law_tree) (defScope s__law_tree) .none kV doc pm an cdv ct) ⟨us, []⟩ = pure (p__law_tree.zip us) := fun _ _ _ _ _ _ us hl => match us, hl with | [_, _], _ => rfl
abbrev s__law_depth : Stmt := top 24
abbrev n__law_depth : List Str := ["elders", "thing", "steps"]
abbrev p__law_depth : List Str := ["elders", "thing"]
theorem sc__law_depth : FnScope n__law_depth p__law_depth (defScope s__law_depth) := ⟨rfl, rfl, rfl, by decide +kernel, rfl, by decide +kernel, by decide +kernel⟩
theorem bd__law_depth : ∀ (kV doc pm : Value) (an : Option Addr) (cdv ct : Value) (us : List Value), us.length = p__law_depth.length → bindArgs (PySem.W.fnOf "_law_depth" "_law_depth" (defArgs s__law_depth) (defBody s__law_depth) (defScope s__law_depth) .none kV doc pm an cdv ct) ⟨us, []⟩ = pure (p__law_depth.zip us) := fun _ _ _ _ _ _ us hl => match us, hl with | [_, _], _ => rfl
abbrev s__law_below : Stmt := top 25
abbrev n__law_below : List Str := ["elders", "thing", "found", "other", "here"]
abbrev p__law_below : List Str := ["elders", "thing"]
theorem sc__law_below : FnScope n__law_below p__law_below (defScope s__law_below) := ⟨rfl, rfl, rfl, by decide +kernel, rfl, by decide +kernel, by decide +kernel⟩
theorem bd__law_below : ∀ (kV doc pm : Value) (an : Option Addr) (cdv ct : Value) (us : List Value), us.length = p__law_below.length → bindArgs (PySem.W.fnOf "_law_below" "_law_below" (defArgs s__law_below) (defBody s__law_below) (defScope s__law_below) .none kV doc pm an cdv ct) ⟨us, []⟩ = pure (p__law_below.zip us) := fun _ _ _ _ _ _ us hl => match us, hl with | [_, _], _ => rfl
abbrev s__law_worth : Stmt := top 26
abbrev n__law_worth : List Str := ["plot", "thing", "other"]
abbrev p__law_worth : List Str := ["plot", "thing"]
theorem sc__law_worth : FnScope n__law_worth p__law_worth (defScope s__law_worth) := ⟨rfl, rfl, rfl, by decide +kernel, rfl, by decide +kernel, by decide +kernel⟩
theorem bd__law_worth : ∀ (kV doc pm : Value) (an : Option Addr) (cdv ct : Value) (us : List Value), us.length = p__law_worth.length → bindArgs (PySem.W.fnOf "_law_worth" "_law_worth" (defArgs s__law_worth) (defBody s__law_worth) (defScope s__law_worth) .none kV doc pm an cdv ct) ⟨us, []⟩ = pure (p__law_worth.zip us) := fun _ _ _ _ _ _ us hl => match us, hl with | [_, _], _ => rfl
abbrev s__law_free : Stmt := top 27
abbrev n__law_free : List Str := ["elders", "depth", "gone", "found", "thing"]
abbrev p__law_free : List Str := ["elders", "depth", "gone"]
theorem sc__law_free : FnScope n__law_free p__law_free (defScope s__law_free) := ⟨rfl, rfl, rfl, by decide +kernel, rfl, by decide +kernel, by decide +kernel⟩
theorem bd__law_free : ∀ (kV doc pm : Value) (an : Option Addr) (cdv ct : Value) (us : List Value), us.length = p__law_free.length → bindArgs (PySem.W.fnOf "_law_free" "_law_free" (defArgs s__law_free) (defBody s__law_free) (defScope s__law_free) .none kV doc pm an cdv ct) ⟨us, []⟩ = pure (p__law_free.zip us) := fun _ _ _ _ _ _ us hl => match us, hl with | [_, _, _], _ => rfl
abbrev s__law_level_plan : Stmt := top 28
abbrev n__law_level_plan : List Str := ["elders", "plan", "gone", "k"]
abbrev p__law_level_plan : List Str := ["elders", "plan"]
theorem sc__law_level_plan : FnScope n__law_level_plan p__law_level_plan (defScope s__law_level_plan) := ⟨rfl, rfl, rfl, by decide +kernel, rfl, by decide +kernel, by decide +kernel⟩
theorem bd__law_level_plan : ∀ (kV doc pm : Value) (an : Option Addr) (cdv ct : Value) (us : List Value), us.length = p__law_level_plan.length → bindArgs (PySem.W.fnOf "_law_level_plan" "_law_level_plan" (defArgs s__law_level_plan) (defBody s__law_level_plan) (defScope s__law_level_plan) .none kV doc pm an cdv ct) ⟨us, []⟩ = pure (p__law_level_plan.zip us) := fun _ _ _ _ _ _ us hl => match us, hl with | [_, _], _ => rfl
abbrev s__law_best : Stmt := top 29
abbrev n__law_best : List Str := ["plot", "depth", "gone", "best", "thing"]
abbrev p__law_best : List Str := ["plot", "depth", "gone"]
theorem sc__law_best : FnScope n__law_best p__law_best (defScope s__law_best) := ⟨rfl, rfl, rfl, by decide +kernel, rfl, by decide +kernel, by decide +kernel⟩
theorem bd__law_best : ∀ (kV doc pm : Value) (an : Option Addr) (cdv ct : Value) (us : List Value), us.length = p__law_best.length → bindArgs (PySem.W.fnOf "_law_best" "_law_best" (defArgs s__law_best) (defBody s__law_best) (defScope s__law_best) .none kV doc pm an cdv ct) ⟨us, []⟩ = pure (p__law_best.zip us) := fun _ _ _ _ _ _ us hl => match us, hl with | [_, _, _], _ => rfl
abbrev s__law_numbers : Stmt := top 30
abbrev n__law_numbers : List Str := ["found", "due", "number"]
abbrev p__law_numbers : List Str := ["found", "due"]
theorem sc__law_numbers : FnScope n__law_numbers p__law_numbers (defScope s__law_numbers) := ⟨rfl, rfl, rfl, by decide +kernel, rfl, by decide +kernel, by decide +kernel⟩
theorem bd__law_numbers : ∀ (kV doc pm : Value) (an : Option Addr) (cdv ct : Value) (us : List Value), us.length = p__law_numbers.length → bindArgs (PySem.W.fnOf "_law_numbers" "_law_numbers" (defArgs s__law_numbers) (defBody s__law_numbers) (defScope s__law_numbers) .none kV doc pm an cdv ct) ⟨us, []⟩ = pure (p__law_numbers.zip us) := fun _ _ _ _ _ _ us hl => match us, hl with | [_, _], _ => rfl
abbrev s__law_greedy : Stmt := top 31
abbrev n__law_greedy : List Str := ["plot", "plan", "gone", "some", "worths", "thing"]
abbrev p__law_greedy : List Str := ["plot"]
theorem sc__law_greedy : FnScope n__law_greedy p__law_greedy (defScope s__law_greedy) := ⟨rfl, rfl, rfl, by decide +kernel, rfl, by decide +kernel, by decide +kernel⟩
theorem bd__law_greedy : ∀ (kV doc pm : Value) (an : Option Addr) (cdv ct : Value) (us : List Value), us.length = p__law_greedy.length → bindArgs (PySem.W.fnOf "_law_greedy" "_law_greedy" (defArgs s__law_greedy) (defBody s__law_greedy) (defScope s__law_greedy) .none kV doc pm an cdv ct) ⟨us, []⟩ = pure (p__law_greedy.zip us) := fun _ _ _ _ _ _ us hl => match us, hl with | [_], _ => rfl
abbrev s_law : Stmt := top 32
abbrev n_law : List Str := ["script", "plot", "tree", "plan", "worth", "turn", "found", "best", "top", "depth", "some", "told", "thing"]
abbrev p_law : List Str := ["script"]
theorem sc_law : FnScope n_law p_law (defScope s_law) := ⟨rfl, rfl, rfl, by decide +kernel, rfl, by decide +kernel, by decide +kernel⟩
theorem bd_law : ∀ (kV doc pm : Value) (an : Option Addr) (cdv ct : Value) (us : List Value), us.length = p_law.length → bindArgs (PySem.W.fnOf "law" "law" (defArgs s_law) (defBody s_law) (defScope s_law) .none kV doc pm an cdv ct) ⟨us, []⟩ = pure (p_law.zip us) := fun _ _ _ _ _ _ us hl => match us, hl with | [_], _ => rfl
end Fi
/-! The law's draws and its tree. -/
namespace Fi
open PySem L2 Evl
section
variable {P : Program} {w : World} {K : PySem.W.Frag} {mg : Str → Option Value} {base : Heap}
/-! ### _law_cell_at -/
def spCell (K : PySem.W.Frag) : Sp := fun vs H Q _ => ∃ (a : Addr) (ns : List Int) (k : Int), vs = [.ref a, .int k] ∧ SqL K H a (ns.map V.int) ∧ 0 ≤ k ∧ RetV (.int (ns.getD k.toNat 0)) H Q
theorem has_cell (B : Bi mg) (D : At K mg "_law_cell_at" s__law_cell_at p__law_cell_at) : Has P w K mg base CX0 "_law_cell_at" p__law_cell_at 1 (spCell K) := D.has fun f fd F => by
  refine F.ok sc__law_cell_at (fun vs H Q E h => ?_) (fun cdv A outer s H vs Q E hr h => ?_)
  · obtain ⟨a, ns, k, rfl, _⟩ := h
    rfl
  · obtain ⟨a, ns, k, rfl, hS, hk, q⟩ := h
    refine ⟨_, (pss_cons (ps_if (pt_cmpR op_lt (pv 1) (pe_callB (call_lenK (K := K)) (by rfl) B.len PySem.boot_len (pa_cons (pv 0) pa_nil)) (nomark _)) (pss_one (ps_ret (pe_ix (ix_listK (K := K)) (pv 0) (pv 1) (fun _ _ => rfl)))) pss_nil)
      (pss_one (ps_ret pe_int))), ?_⟩
    refine q_when (et_test (ev_op (ev_var rfl) (ev_lenS (ev_var rfl) hS) rv_I0)) (fun hb H1 e1 => ?_) (fun hb H1 e1 => ?_)
    · have hlt : k < ((ns.map V.int).length : Int) := of_decide_eq_true hb
      rw [List.length_map] at hlt
      have hx : atI (ns.map V.int) k = some (V.int (ns.getD k.toNat 0)) := at_of (j := k.toNat) (by omega) (by
        rw [List.getElem?_map, List.getD_eq_getElem?_getD, List.getElem?_eq_getElem (by omega)]; rfl)
      exact s_ret (ev_opIx (ev_var rfl) (ev_var rfl) (ex_l e1 hS) hx) fun H2 e2 => q H2 (e1.trans e2)
    · have hlt : ¬ k < ((ns.map V.int).length : Int) := of_decide_eq_false hb
      rw [List.length_map] at hlt
      have hx : ns.getD k.toNat 0 = 0 := by
        rw [List.getD_eq_getElem?_getD, List.getElem?_eq_none (by omega)]; rfl
      rw [hx] at q
      exact s_ret ev_c fun H2 e2 => q H2 (e1.trans e2)
theorem spv_cell {H : Hp} {a : Addr} {ns : List Int} {k : Int} (hS : SqL K H a (ns.map V.int)) (hk : 0 ≤ k) : SpV (spCell K) [.ref a, .int k] H (.int (ns.getD k.toNat 0)) := fun H1 e Q q E => ⟨a, ns, k, rfl, ex_l e hS, hk, q⟩
/-! ### _law_draw -/
def spDraw (K : PySem.W.Frag) : Sp := fun vs H Q _ => ∃ (a : Addr) (ns : List Int) (k : Int), vs = [.ref a, .int k] ∧ SqL K H a (ns.map V.int) ∧ 0 ≤ k ∧ k ≤ 1000 ∧ RetV (.int (Fm.draw ns k)) H Q
theorem has_draw (D : At K mg "_law_draw" s__law_draw p__law_draw) (h_law_cell_at : Has P w K mg base CX0 "_law_cell_at" p__law_cell_at 1 (spCell K)) : Has P w K mg base CX0 "_law_draw" p__law_draw 2 (spDraw K) := D.has fun f fd F => by
  refine F.ok sc__law_draw (fun vs H Q E h => ?_) (fun cdv A outer s H vs Q E hr h => ?_)
  · obtain ⟨a, ns, k, rfl, _⟩ := h
    rfl
  · obtain ⟨a, ns, k, rfl, hS, hk, hk2, q⟩ := h
    refine ⟨_, (pss_one (ps_ret (pe_op op_mod (pe_op op_mul (pe_op op_add (h_law_cell_at.call (hr.mono (by decide)) (by rfl) pass0 (pa_cons (pv 0) (pa_cons (pe_op op_mod (pv 1) pe_int) pa_nil))) (pe_op op_mul pe_int (pv 1))) (pe_op op_add pe_int (pe_op op_mul pe_int (pv 1)))) pe_int))), ?_⟩
    refine s_ret (ev_op (ev_op (ev_op (ev_call0 (ea_cons (ev_var rfl) (ea_cons (ev_op (ev_var rfl) ev_c (rv_I (by decide))) ea_nil)) (spv_cell hS (Int.emod_nonneg _ (by decide)))) (ev_op ev_c (ev_var rfl) (rv_I (.inl (by decide)))) rv_I0)
      (ev_op ev_c (ev_op ev_c (ev_var rfl) (rv_I (.inl (by decide)))) rv_I0) (rv_I (.inr ⟨by omega, by omega⟩))) ev_c (rv_I (by decide))) fun H1 e1 => q H1 e1
theorem spv_draw {H : Hp} {a : Addr} {ns : List Int} {k : Int} (hS : SqL K H a (ns.map V.int)) (hk : 0 ≤ k) (hk2 : k ≤ 1000) : SpV (spDraw K) [.ref a, .int k] H (.int (Fm.draw ns k)) := fun H1 e Q q E => ⟨a, ns, k, rfl, ex_l e hS, hk, hk2, q⟩
/-! ### _law_elders -/
def spElders (K : PySem.W.Frag) : Sp := fun vs H Q _ => ∃ (a : Addr) (ns : List Int) (n : Nat), vs = [.ref a, .int (n : Int)] ∧ SqL K H a (ns.map V.int) ∧ 1 ≤ n ∧ n ≤ 14 ∧ RetL (vi (Fm.elders ns (n - 1))) H Q
theorem way4 {w a b c d : Int} (h0 : 0 ≤ w) (h1 : w < 4) : atI [V.int a, V.int b, V.int c, V.int d] w = some (V.int (if w = 0 then a else if w = 1 then b else if w = 2 then c else d)) := by
  have : w = 0 ∨ w = 1 ∨ w = 2 ∨ w = 3 := by omega
  rcases this with rfl | rfl | rfl | rfl <;> rfl
theorem has_elders (B : Bi mg) (D : At K mg "_law_elders" s__law_elders p__law_elders) (h_law_draw : Has P w K mg base CX0 "_law_draw" p__law_draw 2 (spDraw K)) : Has P w K mg base CX0 "_law_elders" p__law_elders 3 (spElders K) := D.has fun f fd F => by
  refine F.ok sc__law_elders (fun vs H Q E h => ?_) (fun cdv A outer s H vs Q E hr h => ?_)
  · obtain ⟨a, ns, k, rfl, _⟩ := h
    rfl
  · obtain ⟨a, ns, n, rfl, hS, hn, hn2, q⟩ := h
    refine ⟨_, (pss_cons (ps_set (i := 2) sc__law_elders.nd rfl (Or.inl rfl) (pe_lst pa_nil))
      (pss_cons (ps_set (i := 3) sc__law_elders.nd rfl (Or.inl rfl) (pe_op op_mod (h_law_draw.call (hr.mono (by decide)) (by rfl) pass0 (pa_cons (pv 0) (pa_cons pe_int pa_nil))) pe_int))
      (pss_cons (ps_for PassesOwn.never rfl (pi_range1 (by rfl) B.range (pa_cons (pe_op op_sub (pv 1) pe_int) pa_nil)) (pg_name (i := 4) sc__law_elders.nd rfl (Or.inl rfl)) (pss_cons (ps_set (i := 5) sc__law_elders.nd rfl (Or.inl rfl) (h_law_draw.call (hr.mono (by decide)) (by rfl) pass0 (pa_cons (pv 0) (pa_cons (pe_op op_add pe_int (pv 4)) pa_nil))))
        (pss_one (ps_expr (pe_bm PySem.F.plainAttrs_list PySem.F.slot_list_append PySem.F.type_list_append mt_append (pv 2) (pa_cons (pe_ix (ix_listK (K := K)) (pe_lst (pa_cons (pe_op op_mod (pv 5) (pe_op op_add (pv 4) pe_int)) (pa_cons (pe_op op_sub (pv 4) (pe_op op_fdiv (pe_op op_mod (pv 5) (pe_op op_add (pv 4) pe_int)) pe_int)) (pa_cons (pe_op op_mod (pv 5) (pe_callB (call_min2 rfl) (by rfl) B.min (by decide +kernel) (pa_cons (pe_op op_add (pv 4) pe_int) (pa_cons pe_int pa_nil)))) (pa_cons (pe_op op_fdiv (pe_op op_add (pv 4) (pe_op op_mod (pv 5) pe_int)) pe_int) pa_nil))))) (pv 3) (fun _ _ => rfl)) pa_nil))))))
      (pss_one (ps_ret (pv 2)))))), ?_⟩
    -- elders = []; way = ..
    refine q_asgL (el_lst ea_nil (Nat.zero_le _)) fun l H1 hl e1 h1 => ?_
    refine q_asg (ev_op (ev_call0 (ea_cons (ev_var rfl) (ea_cons ev_c ea_nil)) (spv_draw (ex_l e1 hS) (by decide) (by decide))) ev_c (rv_I (by decide))) fun H2 e2 => ?_
    have w0 : 0 ≤ Fm.draw ns 2 % 4 := Int.emod_nonneg _ (by decide)
    have w1 : Fm.draw ns 2 % 4 < 4 := Int.emod_lt_of_pos _ (by decide)
    refine q_forR1 (n := (n : Int) - 1) (ea_cons (ev_op (ev_var rfl) ev_c rv_I0) ea_nil) ⟨by omega, by omega⟩
      (fun i σ' H' => ∃ v1 v2, σ' = [some (.ref a), some (.int (n : Int)), some (.ref l), some (.int (Fm.draw ns 2 % 4)), v1, v2] ∧ Ex H H' ∧ H' l = some (.lst (vi (Fm.elders ns i))))
      (fun H3 e3 => ⟨none, none, rfl, (e1.trans e2).trans e3, e3 _ _ (e2 _ _ h1)⟩) ?_ ?_
    · rintro i σ' H' hi ⟨v1, v2, rfl, e, hL⟩
      -- cell = ..
      refine q_asg (v := .int (Fm.draw ns (10 + (i : Int)))) (ev_call0 (ea_cons (ev_var rfl) (ea_cons (ev_op ev_c (ev_var rfl) rv_I0) ea_nil)) (spv_draw (ex_l e hS) (by omega) (by omega))) fun H4 e4 => ?_
      refine s_app (v := .int ((Fm.elderAt (Fm.draw ns 2 % 4) (i : Int) (Fm.draw ns (10 + (i : Int)))).toNat : Nat)) (e4 _ _ hL) (ev_var rfl) ?_ (by rw [vi_len, Fm.elders_len]; omega) fun H5 e5 => ?_
      · rw [Int.toNat_of_nonneg (Fm.elderAt_lo (by omega))]
        refine ev_is (ev_opIxN (el_lst (ea_cons (ev_op (ev_var rfl) (ev_op (ev_var rfl) ev_c rv_I0) (rv_I (by show (0 : Int) < (i : Int) + 1; omega))) (ea_cons (ev_op (ev_var rfl) (ev_op (ev_op (ev_var rfl) (ev_op (ev_var rfl) ev_c rv_I0) (rv_I (by show (0 : Int) < (i : Int) + 1; omega))) ev_c (rv_I ⟨by decide, by decide⟩)) rv_I0)
          (ea_cons (ev_op (ev_var rfl) (ev_cb (ea_cons (ev_op (ev_var rfl) ev_c rv_I0) (ea_cons ev_c ea_nil)) rc_min2) (rv_I (by show (0 : Int) < if (3 : Int) < (i : Int) + 1 then 3 else (i : Int) + 1; split <;> omega))) (ea_cons (ev_op (ev_op (ev_var rfl) (ev_op (ev_var rfl) ev_c (rv_I (by decide))) rv_I0) ev_c (rv_I ⟨by decide, by decide⟩)) ea_nil)))) (by show 4 ≤ 100000; decide)) (ev_var rfl) (way4 w0 w1)) ?_
        rfl
      · refine ⟨_, _, rfl, Ex.mut ((e.trans e4).trans e5) hl, ?_⟩
        rw [upd_same, Fm.elders_succ, vi_app]
        rfl
    · rintro σ' H' ⟨v1, v2, rfl, e, hL⟩
      have en : ((n : Int) - 1).toNat = n - 1 := by omega
      rw [en] at hL
      exact s_ret (ev_var rfl) fun H3 e3 => q l H3 hl (e.trans e3) (e3 _ _ hL)
theorem spl_elders {H : Hp} {a : Addr} {ns : List Int} {n : Nat} (hS : SqL K H a (ns.map V.int)) (h1 : 1 ≤ n) (h2 : n ≤ 14) : SpL (spElders K) [.ref a, .int (n : Int)] H (vi (Fm.elders ns (n - 1))) := fun H1 e Q q E => ⟨a, ns, n, rfl, ex_l e hS, h1, h2, q⟩
/-! ### _law_tree -/
def spPlot (K : PySem.W.Frag) : Sp := fun vs H Q _ => ∃ (a : Addr) (ns : List Int) (most : Nat), vs = [.ref a, .int (most : Int)] ∧ SqL K H a (ns.map V.int) ∧ 1 ≤ most ∧ most ≤ 14 ∧
  RetP (fun v H2 => ∃ p, v = .ref p ∧ PlotAt H2 p (Fm.elders ns (Fm.count ns most - 1)) (Fm.worths ns (Fm.count ns most))) H Q
theorem top3 {w a b c : Int} (h0 : 0 ≤ w) (h1 : w < 3) : atI [V.int a, V.int b, V.int c] w = some (V.int (if w = 0 then a else if w = 1 then b else c)) := by
  have : w = 0 ∨ w = 1 ∨ w = 2 := by omega
  rcases this with rfl | rfl | rfl <;> rfl
theorem has_plot (B : Bi mg) (D : At K mg "_law_tree" s__law_tree p__law_tree) (h_law_draw : Has P w K mg base CX0 "_law_draw" p__law_draw 2 (spDraw K)) (h_law_elders : Has P w K mg base CX0 "_law_elders" p__law_elders 3 (spElders K)) :
    Has P w K mg base CX0 "_law_tree" p__law_tree 4 (spPlot K) := D.has fun f fd F => by
  refine F.ok sc__law_tree (fun vs H Q E h => ?_) (fun cdv A outer s H vs Q E hr h => ?_)
  · obtain ⟨a, ns, k, rfl, _⟩ := h
    rfl
  · obtain ⟨a, ns, most, rfl, hS, hn, hn2, q⟩ := h
    refine ⟨_, (pss_cons (ps_set (i := 2) sc__law_tree.nd rfl (Or.inl rfl) (pe_op op_add pe_int (pe_op op_mod (h_law_draw.call (hr.mono (by decide)) (by rfl) pass0 (pa_cons (pv 0) (pa_cons pe_int pa_nil))) (pv 1))))
      (pss_cons (ps_set (i := 3) sc__law_tree.nd rfl (Or.inr rfl) (pe_ix (ix_listK (K := K)) (pe_lst (pa_cons pe_int (pa_cons pe_int (pa_cons pe_int pa_nil)))) (pe_op op_mod (h_law_draw.call (hr.mono (by decide)) (by rfl) pass0 (pa_cons (pv 0) (pa_cons pe_int pa_nil))) pe_int) (fun _ _ => rfl)))
      (pss_one (ps_ret (pe_tup (pa_cons (h_law_elders.call (hr.mono (by decide)) (by rfl) pass0 (pa_cons (pv 0) (pa_cons (pv 2) pa_nil))) (pa_cons (pe_lc (own := [("k", 4)]) (g := gName 4) rfl sc__law_tree.nd (pi_range1 (by rfl) B.range (pa_cons (pv 2) pa_nil)) (blkOk_by (own := [("k", 4)]) (N := n__law_tree) (sc := defScope s__law_tree) (by decide +kernel)) (fun _ _ _ _ _ => pg_name (i := 4) sc__law_tree.nd rfl (Or.inl rfl)) (fun _ _ _ _ _ => pts_nil) (fun _ _ _ _ _ => (pe_op op_mod (h_law_draw.call (hr.mono (by decide)) (by rfl) pass0 (pa_cons (pv 0) (pa_cons (pe_op op_add pe_int (pv 4)) pa_nil))) (pv 3)))) pa_nil))))))), ?_⟩
    have c1 := Fm.count_lo ns (most := (most : Int)) (by omega)
    have c2 := Fm.count_hi ns (most := (most : Int)) (by omega)
    refine q_asg (v := .int (Fm.count ns most : Int)) (ev_is (ev_op ev_c (ev_op (ev_call0 (ea_cons (ev_var rfl) (ea_cons ev_c ea_nil)) (spv_draw hS (by decide) (by decide))) (ev_var rfl) (rv_I (by show (0 : Int) < (most : Int); omega))) rv_I0) (by rw [Fm.count_eq ns (by omega)])) fun H1 e1 => ?_
    refine q_asg (v := .int (Fm.topOf ns)) (ev_is (ev_opIxN (el_lst (ea_cons ev_c (ea_cons ev_c (ea_cons ev_c ea_nil))) (by show 3 ≤ 100000; decide)) (ev_op (ev_call0 (ea_cons (ev_var rfl) (ea_cons ev_c ea_nil)) (spv_draw (ex_l e1 hS) (by decide) (by decide))) ev_c (rv_I (by decide)))
      (top3 (Int.emod_nonneg _ (by decide)) (Int.emod_lt_of_pos _ (by decide)))) rfl) fun H2 e2 => ?_
    refine s_retP (ep_tupLL (el_call0 (ea_cons (ev_var rfl) (ea_cons (ev_var rfl) ea_nil)) (spl_elders (ex_l (e1.trans e2) hS) c1 (by omega)))
      (el_lcR1v (n := Fm.count ns most) (fun k => (Fm.draw ns (30 + (k : Int)) % Fm.topOf ns).toNat) (ea_cons (ev_var rfl) ea_nil) (by omega) (fun x => rfl) fun i H3 e3 hi => ?_)) fun v H3 e3 ⟨t, p1, p2, ev, ht, h1, h2⟩ => ?_
    · rw [Int.toNat_of_nonneg (Int.emod_nonneg _ (by have := Fm.topOf_pos ns; omega))]
      exact ev_op (ev_call0 (ea_cons (ev_var rfl) (ea_cons (ev_op ev_c (ev_var rfl) rv_I0) ea_nil)) (spv_draw (ex_l ((e1.trans e2).trans e3) hS) (by omega) (by omega))) (ev_var rfl) (rv_I (Fm.topOf_pos ns))
    · exact q v H3 ((e1.trans e2).trans e3) ⟨t, ev, p1, p2, ht, h1, h2⟩
theorem spp_plot {H : Hp} {a : Addr} {ns : List Int} {most : Nat} (hS : SqL K H a (ns.map V.int)) (h1 : 1 ≤ most) (h2 : most ≤ 14) :
    SpP (spPlot K) [.ref a, .int (most : Int)] H (fun v H2 => ∃ p, v = .ref p ∧ PlotAt H2 p (Fm.elders ns (Fm.count ns most - 1)) (Fm.worths ns (Fm.count ns most))) := fun H1 e Q q E => ⟨a, ns, most, rfl, ex_l e hS, h1, h2, q⟩
/-- some tree of at most so many things -/
theorem spp_some {H : Hp} {a : Addr} {ns : List Int} {most : Nat} (hS : SqL K H a (ns.map V.int)) (h1 : 1 ≤ most) (h2 : most ≤ 14) :
    SpP (spPlot K) [.ref a, .int (most : Int)] H (fun v H2 => ∃ p es ws, v = .ref p ∧ PlotAt H2 p es ws ∧ Fm.OkT es ws ∧ ws.length ≤ most) := fun H1 e Q q E => ⟨a, ns, most, rfl, ex_l e hS, h1, h2, fun v H2 e2 ⟨p, ev, hp⟩ => by
  have c1 := Fm.count_lo ns (most := (most : Int)) (by omega)
  have c2 := Fm.count_hi ns (most := (most : Int)) (by omega)
  exact q v H2 e2 ⟨p, _, _, ev, hp, Fm.ok_drawn ns c1 (by omega), by rw [Fm.worths_len]; omega⟩⟩
/-! ### _law_whole, of a whole number -/
def spWhole : Sp := fun vs H Q _ => ∃ (i : Int), vs = [.int i] ∧ RetV (.bl true) H Q
theorem spv_whole {H : Hp} {i : Int} : SpV spWhole [.int i] H (.bl true) := fun H1 e Q q E => ⟨i, rfl, q⟩
/-! ### _law_numbers, of two lists of whole numbers -/
def spNumbers (K : PySem.W.Frag) : Sp := fun vs H Q _ => ∃ (p q : Addr) (l m : List Nat), vs = [.ref p, .ref q] ∧ H p = some (.lst (vi l)) ∧ SqL K H q (vi m) ∧ l.length ≤ 1000 ∧ RetV (.bl (decide (l = m))) H Q
theorem spv_numbers {H : Hp} {p q : Addr} {l m : List Nat} (h1 : H p = some (.lst (vi l))) (h2 : SqL K H q (vi m)) (hl : l.length ≤ 1000) : SpV (spNumbers K) [.ref p, .ref q] H (.bl (decide (l = m))) := fun H1 e Q k E => ⟨p, q, l, m, rfl, e _ _ h1, ex_l e h2, hl, k⟩
end
end Fi
/-! The law's own depth, below and worth. -/
namespace Fi
open PySem L2 Evl
section
variable {P : Program} {w : World} {K : PySem.W.Frag} {mg : Str → Option Value} {base : Heap}
/-! ### _law_depth -/
def spLDepth (K : PySem.W.Frag) : Sp := fun vs H Q _ => ∃ (p : Addr) (es : List Nat) (t : Nat), vs = [.ref p, .int (t : Int)] ∧ SqL K H p (vi es) ∧ (∀ (k v : Nat), es[k]? = some v → v ≤ k) ∧ t ≤ es.length ∧ RetV (.int (Fm.depth es t : Int)) H Q
theorem spv_ldepth {H : Hp} {p : Addr} {es : List Nat} {t : Nat} (h : SqL K H p (vi es)) (up : ∀ (k v : Nat), es[k]? = some v → v ≤ k) (ht : t ≤ es.length) : SpV (spLDepth K) [.ref p, .int (t : Int)] H (.int (Fm.depth es t : Int)) := fun H1 e Q q E => ⟨p, es, t, rfl, ex_l e h, up, ht, q⟩
theorem has_ldepth (D : At K mg "_law_depth" s__law_depth p__law_depth) : Has P w K mg base CX0 "_law_depth" p__law_depth 1 (spLDepth K) := D.has fun f fd F => by
  refine F.ok sc__law_depth (fun vs H Q E h => ?_) (fun cdv A outer s H vs Q E hr h => ?_)
  · obtain ⟨p, es, t, rfl, _⟩ := h
    rfl
  · obtain ⟨p, es, t, rfl, hp, up, ht, q⟩ := h
    refine ⟨_, (pss_cons (ps_set (i := 2) sc__law_depth.nd rfl (Or.inl rfl) pe_int)
      (pss_cons (ps_while PassesOwn.never (pt_cmpR op_gt (pv 1) pe_int (nomark _)) (pss_cons (ps_set (i := 1) sc__law_depth.nd rfl (Or.inl rfl) (pe_ix (ix_listK (K := K)) (pv 0) (pe_op op_sub (pv 1) pe_int) (fun _ _ => rfl)))
        (pss_one (ps_set (i := 2) sc__law_depth.nd rfl (Or.inl rfl) (pe_op op_add (pv 2) pe_int)))))
      (pss_one (ps_ret (pv 2))))), ?_⟩
    refine q_asg ev_c fun H1 e1 => ?_
    refine q_while (fun m σ' H' => ∃ (t' s' : Nat), σ' = [some (.ref p), some (.int (t' : Int)), some (.int (s' : Int))] ∧ Ex H H' ∧ s' + Fm.depth es t' = Fm.depth es t ∧ t' ≤ es.length ∧ m = t') t ⟨t, 0, rfl, e1, Nat.zero_add _, ht, rfl⟩ ?_
    rintro m σ' H' ⟨t', s', rfl, e, hd, hl, rfl⟩
    refine ⟨decide ((0 : Int) < (m : Int)), et_test (ev_op (ev_var rfl) ev_c rv_I0), fun hb H2 e2 => ⟨fun σ2 H2 => ∃ m', m' < m ∧ _, fun _ _ h => h, ?_⟩, fun hb H2 e2 => ?_⟩
    · have hpos : 0 < m := by have := of_decide_eq_true hb; omega
      have hlt := Fm.eld_lt up hpos
      refine q_asg (v := .int (Fm.eld es m : Int)) (ev_opIx (ev_var rfl) (ev_op (ev_var rfl) ev_c rv_I0) (ex_l (e.trans e2) hp) (vi_at (j := m - 1) (by omega) (Fm.eld_get hpos (by omega)))) fun H3 e3 => ?_
      refine s_asg (ev_op (ev_var rfl) ev_c rv_I0) fun H4 e4 => ⟨Fm.eld es m, hlt, Fm.eld es m, s' + 1, ?_, ((e.trans e2).trans e3).trans e4, ?_, by omega, rfl⟩
      · rfl
      · have := Fm.depth_step up hpos
        omega
    · have hz : m = 0 := by have := of_decide_eq_false hb; omega
      subst hz
      have hd0 : Fm.depth es t = s' := by rw [← hd]; rfl
      rw [hd0] at q
      exact s_ret (ev_var rfl) fun H3 e3 => q H3 ((e.trans e2).trans e3)
/-! ### _law_below -/
def spLBelow (K : PySem.W.Frag) : Sp := fun vs H Q _ => ∃ (p : Addr) (es : List Nat) (t : Nat), vs = [.ref p, .int (t : Int)] ∧ SqL K H p (vi es) ∧ (∀ (k v : Nat), es[k]? = some v → v ≤ k) ∧ es.length ≤ 20 ∧ RetL (vi (Fm.below es t)) H Q
theorem spl_lbelow {H : Hp} {p : Addr} {es : List Nat} {t : Nat} (h : SqL K H p (vi es)) (up : ∀ (k v : Nat), es[k]? = some v → v ≤ k) (hl : es.length ≤ 20) : SpL (spLBelow K) [.ref p, .int (t : Int)] H (vi (Fm.below es t)) := fun H1 e Q q E => ⟨p, es, t, rfl, ex_l e h, up, hl, q⟩
theorem has_lbelow (B : Bi mg) (D : At K mg "_law_below" s__law_below p__law_below) : Has P w K mg base CX0 "_law_below" p__law_below 1 (spLBelow K) := D.has fun f fd F => by
  refine F.ok sc__law_below (fun vs H Q E h => ?_) (fun cdv A outer s H vs Q E hr h => ?_)
  · obtain ⟨p, es, t, rfl, _⟩ := h
    rfl
  · obtain ⟨p, es, t, rfl, hp, up, hl, q⟩ := h
    refine ⟨_, (pss_cons (ps_set (i := 2) sc__law_below.nd rfl (Or.inl rfl) (pe_lst pa_nil))
      (pss_cons (ps_for PassesOwn.never rfl (pi_range1 (by rfl) B.range (pa_cons (pe_op op_add (pe_callB (call_lenK (K := K)) (by rfl) B.len PySem.boot_len (pa_cons (pv 0) pa_nil)) pe_int) pa_nil)) (pg_name (i := 3) sc__law_below.nd rfl (Or.inl rfl)) (pss_cons (ps_set (i := 4) sc__law_below.nd rfl (Or.inl rfl) (pv 3))
        (pss_cons (ps_while PassesOwn.never (pt_cmpR op_gt (pv 4) (pv 1) (nomark _)) (pss_one (ps_set (i := 4) sc__law_below.nd rfl (Or.inl rfl) (pe_ix (ix_listK (K := K)) (pv 0) (pe_op op_sub (pv 4) pe_int) (fun _ _ => rfl)))))
        (pss_one (ps_if (pt_cmpR op_eq (pv 4) (pv 1) (nomark _)) (pss_one (ps_expr (pe_bm PySem.F.plainAttrs_list PySem.F.slot_list_append PySem.F.type_list_append mt_append (pv 2) (pa_cons (pv 3) pa_nil)))) pss_nil)))))
      (pss_one (ps_ret (pv 2))))), ?_⟩
    refine q_asgL (el_lst ea_nil (Nat.zero_le _)) fun l H1 hln e1 h1 => ?_
    refine q_forR1 (n := ((es.length + 1 : Nat) : Int)) (ea_cons (ev_is (ev_op (ev_lenS (ev_var rfl) (ex_l e1 hp)) ev_c rv_I0) (by rw [vi_len]; rfl)) ea_nil) ⟨by omega, by omega⟩
      (fun i σ' H' => ∃ v1 v2, σ' = [some (.ref p), some (.int (t : Int)), some (.ref l), v1, v2] ∧ Ex H H' ∧ H' l = some (.lst (vi (Fm.belowTo es t i)))) (fun H2 e2 => ⟨none, none, rfl, e1.trans e2, e2 _ _ h1⟩) ?_ ?_
    · rintro i σ' H' hi ⟨v1, v2, rfl, e, hL⟩
      refine q_asg (v := .int (i : Int)) (ev_var rfl) fun H2 e2 => ?_
      refine q_while (fun m σ' H3 => ∃ (h : Nat), σ' = [some (.ref p), some (.int (t : Int)), some (.ref l), some (.int (i : Int)), some (.int (h : Int))] ∧ Ex H2 H3 ∧ Fm.climb es t h = Fm.climb es t i ∧ h ≤ es.length ∧ m = h) i ⟨i, rfl, Ex.refl _, rfl, by omega, rfl⟩ ?_
      rintro m σ' H3 ⟨h, rfl, e3, hc, hle, rfl⟩
      refine ⟨decide ((t : Int) < (m : Int)), et_test (ev_op (ev_var rfl) (ev_var rfl) rv_I0), fun hb H4 e4 => ⟨fun σ2 H2 => ∃ m', m' < m ∧ _, fun _ _ h => h, ?_⟩, fun hb H4 e4 => ?_⟩
      · have hlt : t < m := by have := of_decide_eq_true hb; omega
        have hlt2 := Fm.eld_lt up (t := m) (by omega)
        refine s_asg (v := .int (Fm.eld es m : Int)) (ev_opIx (ev_var rfl) (ev_op (ev_var rfl) ev_c rv_I0) (ex_l (((e.trans e2).trans e3).trans e4) hp) (vi_at (j := m - 1) (by omega) (Fm.eld_get (by omega) (by omega)))) fun H5 e5 => ?_
        exact ⟨Fm.eld es m, hlt2, Fm.eld es m, rfl, (e3.trans e4).trans e5, by rw [← Fm.climb_step up hlt]; exact hc, by omega, rfl⟩
      · have hlt : ¬ t < m := by have := of_decide_eq_false hb; omega
        have hm : Fm.climb es t i = m := by rw [← hc, Fm.climb_end hlt]
        have hB : Fm.isBelow es t i = decide (m = t) := by unfold Fm.isBelow; rw [hm]; rfl
        have e5 := ((e.trans e2).trans e3).trans e4
        have hL4 := e4 _ _ (e3 _ _ (e2 _ _ hL))
        refine s_when (et_test (ev_op (ev_var rfl) (ev_var rfl) (rv_eq rfl))) (fun hb2 H6 e6 => ?_) (fun hb2 H6 e6 => ?_)
        · rw [dec_int, ← hB] at hb2
          refine s_app (e6 _ _ hL4) (ev_var rfl) (ev_var rfl) (by rw [vi_len]; have := Fm.belowTo_len es t i; omega) fun H7 e7 => ⟨_, _, rfl, Ex.mut ((e5.trans e6).trans e7) hln, ?_⟩
          rw [upd_same, Fm.belowTo_succ, if_pos hb2, vi_app]
          rfl
        · rw [dec_int, ← hB] at hb2
          refine ⟨_, _, rfl, e5.trans e6, ?_⟩
          rw [Fm.belowTo_succ, if_neg (by rw [hb2]; decide)]
          exact e6 _ _ hL4
    · rintro σ' H' ⟨v1, v2, rfl, e, hL⟩
      rw [Int.toNat_natCast, Fm.belowTo_end] at hL
      exact s_ret (ev_var rfl) fun H3 e3 => q l H3 hln (e.trans e3) (e3 _ _ hL)
/-! ### _law_worth -/
def spLWorth (K : PySem.W.Frag) : Sp := fun vs H Q _ => ∃ (p : Addr) (es ws : List Nat) (t : Nat), vs = [.ref p, .int (t : Int)] ∧ PlotAt H p es ws ∧ Fm.OkT es ws ∧ RetV (.int (Fm.worth es ws t : Int)) H Q
theorem spv_lworth {H : Hp} {p : Addr} {es ws : List Nat} {t : Nat} (h : PlotAt H p es ws) (o : Fm.OkT es ws) : SpV (spLWorth K) [.ref p, .int (t : Int)] H (.int (Fm.worth es ws t : Int)) := fun H1 e Q q E => ⟨p, es, ws, t, rfl, h.mono e, o, q⟩
theorem has_lworth (B : Bi mg) (D : At K mg "_law_worth" s__law_worth p__law_worth) (h_law_below : Has P w K mg base CX0 "_law_below" p__law_below 1 (spLBelow K)) : Has P w K mg base CX0 "_law_worth" p__law_worth 2 (spLWorth K) := D.has fun f fd F => by
  refine F.ok sc__law_worth (fun vs H Q E h => ?_) (fun cdv A outer s H vs Q E hr h => ?_)
  · obtain ⟨p, es, ws, t, rfl, _⟩ := h
    rfl
  · obtain ⟨p, es, ws, t, rfl, hP, o, q⟩ := h
    obtain ⟨pe, pw, h1, h2, h3⟩ := id hP
    have ol := o.len
    have om := o.most
    refine ⟨_, (pss_one (ps_ret (pe_callB (cr_sumK (K := K) rfl) (by rfl) B.sum (by decide +kernel) (pa_cons (pe_lc (own := [("other", 2)]) (g := gName 2) rfl sc__law_worth.nd (pi_list (h_law_below.call (hr.mono (by decide)) (by rfl) pass0 (pa_cons (pe_ix (ix_tupK (K := K)) (pv 0) pe_int (fun _ _ => rfl)) (pa_cons (pv 1) pa_nil)))) (blkOk_by (own := [("other", 2)]) (N := n__law_worth) (sc := defScope s__law_worth) (by decide +kernel)) (fun _ _ _ _ _ => pg_name (i := 2) sc__law_worth.nd rfl (Or.inl rfl)) (fun _ _ _ _ _ => pts_nil) (fun _ _ _ _ _ => (pe_ix (ix_listK (K := K)) (pe_ix (ix_tupK (K := K)) (pv 0) pe_int (fun _ _ => rfl)) (pv 2) (fun _ _ => rfl)))) pa_nil)))), ?_⟩
    refine s_ret (ev_sumN (el_lcNLv (l := Fm.below es t) (fun o => ws.getD o 0) (el_call0 (ea_cons (ev_opIxT (ev_var rfl) ev_c (st_of h1) rfl) (ea_cons (ev_var rfl) ea_nil)) (spl_lbelow (sq_of h2) o.up (by omega))) (by have := Fm.below_len es t; omega) (fun x => rfl) fun n H1 e1 hn => ?_)) q
    have hn2 := (Fm.mem_below.mp hn).1
    exact ev_opIx (ev_opIxT (ev_var rfl) ev_c (st_of (e1 _ _ h1)) rfl) (ev_var rfl) (sq_of (e1 _ _ h3)) (vi_at rfl (getD_get (by omega)))
end
end Fi
/-! _law_whole, _law_numbers. -/
namespace Fi
open PySem L2 Evl
section
variable {P : Program} {w : World} {K : PySem.W.Frag} {mg : Str → Option Value} {base : Heap}
theorem has_whole (B : Bi mg) (D : At K mg "_law_whole" s__law_whole p__law_whole) : Has P w K mg base CX0 "_law_whole" p__law_whole 1 spWhole := D.has fun f fd F => by
  refine F.ok sc__law_whole (fun vs H Q E h => ?_) (fun cdv A outer s H vs Q E hr h => ?_)
  · obtain ⟨i, rfl, _⟩ := h
    rfl
  · obtain ⟨i, rfl, q⟩ := h
    refine ⟨_, (pss_one (ps_ret (pe_and (pe_callB (call_isiK1 (K := K)) (by rfl) B.isinstance (by decide +kernel) (pa_cons (pv 0) (pa_cons (pe_bltn (v := .ty "int") (u := .type "int") (by rfl) B.int (by decide +kernel) rfl) pa_nil))) (pe_one (pe_not (pe_callB (call_isiK1 (K := K)) (by rfl) B.isinstance (by decide +kernel) (pa_cons (pv 0) (pa_cons (pe_bltn (v := .ty "bool") (u := .type "bool") (by rfl) B.bool (by decide +kernel) rfl) pa_nil)))))))), ?_⟩
    exact s_ret (ev_andV (a := true) (b := true) (ev_isiInt (ev_var rfl) (by decide +kernel)) fun _ => ev_notV (a := false) (ev_isiInt (ev_var rfl) (by decide +kernel))) q
theorem has_numbers (B : Bi mg) (D : At K mg "_law_numbers" s__law_numbers p__law_numbers) (h_law_whole : Has P w K mg base CX0 "_law_whole" p__law_whole 1 spWhole) : Has P w K mg base CX0 "_law_numbers" p__law_numbers 2 (spNumbers K) := D.has fun f fd F => by
  refine F.ok sc__law_numbers (fun vs H Q E h => ?_) (fun cdv A outer s H vs Q E hr h => ?_)
  · obtain ⟨p, q, l, m, rfl, _⟩ := h
    rfl
  · obtain ⟨p, q, l, m, rfl, hp, hq, hl, k⟩ := h
    refine ⟨_, (pss_cons (ps_if (PW.pt (pw_or (pt_not (pt_val (pe_callB (call_isiK1 (K := K)) (by rfl) B.isinstance (by decide +kernel) (pa_cons (pv 0) (pa_cons (pe_bltn (v := .ty "list") (u := .type "list") (by rfl) B.list (by decide +kernel) rfl) pa_nil))))) (pw_or1 (pt_cmpR (op_neDK (K := K) hr.units) (pv 0) (pv 1) (nomark _))))) (pss_one (ps_ret pe_bl)) pss_nil)
      (pss_one (ps_ret (pe_cmpR (op_notInK (K := K)) pe_bl (pe_lc (own := [("number", 2)]) (g := gName 2) rfl sc__law_numbers.nd (pi_list (pv 0)) (blkOk_by (own := [("number", 2)]) (N := n__law_numbers) (sc := defScope s__law_numbers) (by decide +kernel)) (fun _ _ _ _ _ => pg_name (i := 2) sc__law_numbers.nd rfl (Or.inl rfl)) (fun _ _ _ _ _ => pts_nil) (fun _ _ _ _ _ => (h_law_whole.call (hr.mono (by decide)) (by rfl) pass0 (pa_cons (pv 2) pa_nil)))) (by with_unfolding_all rfl))))), ?_⟩
    refine q_when (et_or (et_not (et_B (ev_isiLst (b := true) (ev_var rfl) hp (by decide +kernel)))) fun _ => et_test (ev_op (ev_var rfl) (ev_var rfl) (rv_neI (sq_of hp) hq))) (fun hb H1 e1 => ?_) (fun hb H1 e1 => ?_)
    · have hne : decide (l = m) = false := by
        cases hd : decide (l = m) with
        | false => rfl
        | true => rw [hd] at hb; cases hb
      rw [hne] at k
      exact s_ret ev_c fun H2 e2 => k H2 (e1.trans e2)
    · have heq : decide (l = m) = true := by
        cases hd : decide (l = m) with
        | true => rfl
        | false => rw [hd] at hb; cases hb
      rw [heq] at k
      refine s_ret ?_ fun H2 e2 => k H2 (e1.trans e2)
      refine ev_is (ev_opL (xs := given (vi l).length (fun _ => true) (fun _ => .bl true)) ev_c (el_lcL (fun _ => true) (fun _ => .bl true) (ev_var rfl) (sq_of (e1 _ _ hp)) (by rw [vi_len]; omega) (fun x => rfl) (fun _ _ _ _ _ => et_yes) fun i x H2 e2 hi _ => ?_) fun r H2 hr2 e2 => rv_niL (sq_of hr2) rfl ?_) ?_
      · obtain ⟨n, hn, rfl⟩ := vi_get_of hi
        exact ev_call0 (ea_cons (ev_var rfl) ea_nil) spv_whole
      · rw [given_all]
        simp [flatV]
      · rw [given_all]
        congr 1
        have : inV (.bl false) ((List.range (vi l).length).map fun _ => V.bl true) = false := by
          unfold inV
          rw [List.any_eq_false]
          intro x hx
          obtain ⟨i, _, rfl⟩ := List.mem_map.mp hx
          decide
        rw [this]
        rfl
theorem nums_true {K : PySem.W.Frag} {σ : L2.St} {H : Hp} {E : XK} {ta tb : TE} {p q : Addr} {l : List Nat} (ha : Ev ta σ H (.ref p)) (hb : Ev tb σ H (.ref q)) (h1 : H p = some (.lst (vi l))) (h2 : SqL K H q (vi l)) (hl : l.length ≤ 1000) : Ev (tCall (spNumbers K) [] E (tCons ta (tCons tb tNil))) σ H (.bl true) :=
  ev_is (ev_call0 (ea_cons ha (ea_cons hb ea_nil)) (spv_numbers h1 h2 hl)) (by rw [decide_eq_true rfl])
theorem nums_trueN {K : PySem.W.Frag} {σ : L2.St} {H : Hp} {E : XK} {ta tb : TE} {p : Addr} {l : List Nat} (ha : Ev ta σ H (.ref p)) (hb : EvL tb σ H (vi l)) (h1 : H p = some (.lst (vi l))) (hl : l.length ≤ 1000) : Ev (tCall (spNumbers K) [] E (tCons ta (tCons tb tNil))) σ H (.bl true) := fun H1 e Q q =>
  ha H1 e _ fun H2 e2 => hb H2 (e.trans e2) _ fun p2 H3 hp2 e3 h3 => by
    have h := spv_numbers (K := K) (e3 _ _ (e2 _ _ (e _ _ h1))) (sq_of h3) hl H3 (Ex.refl _) Q (fun H4 e4 => by rw [decide_eq_true rfl]; exact q H4 ((e2.trans e3).trans e4)) E
    exact h
theorem nums_trueNN {K : PySem.W.Frag} {σ : L2.St} {H : Hp} {E : XK} {ta tb : TE} {l : List Nat} (ha : EvL ta σ H (vi l)) (hb : EvL tb σ H (vi l)) (hl : l.length ≤ 1000) : Ev (tCall (spNumbers K) [] E (tCons ta (tCons tb tNil))) σ H (.bl true) := fun H1 e Q q =>
  ha H1 e _ fun p H2 hp e2 h2 => hb H2 (e.trans e2) _ fun p2 H3 hp2 e3 h3 => by
    have h := spv_numbers (K := K) (e3 _ _ h2) (sq_of h3) hl H3 (Ex.refl _) Q (fun H4 e4 => by rw [decide_eq_true rfl]; exact q H4 ((e2.trans e3).trans e4)) E
    exact h
end
end Fi
/-! The class Tree: what each method promises. -/
namespace Fi
open PySem L2 Evl
/-! ### lists of whole numbers of any sign, against the empty list -/
theorem dpAll_z {K : PySem.W.Frag} {H : Hp} : ∀ l : List Int, DpAll K H (l.map V.int) (l.map PyData.int)
  | [] => .nil
  | n :: l => .cons (.int _) (dpAll_z l)
theorem canAll_z : ∀ l : List Int, PyData.canLayAll0 (l.map PyData.int) = true
  | [] => by simp [PyData.canLayAll0]
  | n :: l => by simp [PyData.canLayAll0, PyData.canLay0, canAll_z l]
theorem depthAll_z : ∀ l : List Int, PyData.depthAll (l.map PyData.int) = 0
  | [] => by simp [PyData.depthAll]
  | n :: l => by simp [PyData.depthAll, PyData.depth, depthAll_z l]
theorem shaped_z (l : List Int) : SeqAt.shaped (.list (l.map PyData.int)) = true := by
  unfold SeqAt.shaped
  simp [PyData.canLay0, canAll_z, PyData.depth, depthAll_z]
theorem eqv_zNil (l : List Int) : PyData.eqv (.list (l.map PyData.int)) (.list ([].map PyData.int)) = decide (l = []) := by
  cases l with
  | nil => simp [PyData.eqv, PyData.eqvAll]
  | cons a r => simp [PyData.eqv, PyData.eqvAll]
theorem ev_neNilZ {K : PySem.W.Frag} {σ : L2.St} {H : Hp} {ta : TE} {l : List Int} (ha : EvL ta σ H (l.map V.int)) : Ev (tOp (rNeD K) ta (tLst tNil)) σ H (.bl (!decide (l = []))) :=
  ev_opLL ha (el_lst ea_nil (Nat.zero_le _)) fun p q H1 hp hq e => by
    rw [← eqv_zNil]
    exact rv_neD (fun H2 e2 => .lst (ex_l e2 (sq_of hp)) (dpAll_z l)) (fun H2 e2 => .lst (ex_l e2 (sq_of (xs := ([] : List Int).map V.int) hq)) (dpAll_z [])) (shaped_z l) (shaped_z [])
theorem zget {l : List Int} {i : Nat} {x : V} (h : (l.map V.int)[i]? = some x) : ∃ z, l[i]? = some z ∧ x = V.int z := by
  rw [List.getElem?_map] at h
  cases e : l[i]? with
  | none => rw [e] at h; cases h
  | some n => rw [e] at h; exact ⟨n, rfl, (Option.some.inj h).symm⟩
theorem zgetD {l : List Int} {i : Nat} (h : i < l.length) : l[i]? = some (l.getD i 0) := by
  rw [List.getD_eq_getElem?_getD, List.getElem?_eq_getElem h]
  rfl
theorem zat {l : List Int} {i : Int} {j : Nat} (e : i = (j : Int)) (h : j < l.length) : atI (l.map V.int) i = some (V.int (l.getD j 0)) := at_of e (by rw [List.getElem?_map, zgetD h]; rfl)
theorem zfilter (l : List Int) (f : Int → Bool) : given l.length (fun i => f (l.getD i 0)) (fun i => V.int (l.getD i 0)) = (l.filter f).map V.int := by
  have e : (List.range l.length).map (fun i => l.getD i 0) = l := by
    refine List.ext_getElem (by simp) fun i h1 h2 => ?_
    rw [List.length_map, List.length_range] at h1
    simp only [List.getElem_map, List.getElem_range]
    rw [List.getD_eq_getElem?_getD, List.getElem?_eq_getElem h1]
    rfl
  have e2 : l.filter f = ((List.range l.length).filter (fun i => f (l.getD i 0))).map (fun i => l.getD i 0) := by
    conv => lhs; rw [← e]
    rw [List.filter_map]
    rfl
  unfold given
  rw [e2, List.map_map]
  rfl
/-! ### the attributes -/
theorem kaw : ¬ (("above" : Str) = "worth") := by decide +kernel
def flds (a w : Addr) : List (Str × V) := putF "worth" (.ref w) (putF "above" (.ref a) [])
theorem flds_above (a w : Addr) : (flds a w).lookup ("above" : Str) = some (.ref a) := by
  unfold flds
  rw [lookup_putF, if_neg kaw, lookup_putF, if_pos rfl]
theorem flds_worth (a w : Addr) : (flds a w).lookup ("worth" : Str) = some (.ref w) := by
  unfold flds
  rw [lookup_putF, if_pos rfl]
theorem flds_no (a w : Addr) {m : Str} (h1 : ¬ m = "above") (h2 : ¬ m = "worth") : (flds a w).lookup m = none := by
  unfold flds
  rw [lookup_putF, if_neg h2, lookup_putF, if_neg h1]
  rfl
/-- a tree stands at p -/
structure TreeAt (C : Addr) (H : Hp) (p : Addr) (es ws : List Nat) : Prop where
  at_ : ∃ dx a w, H p = some (.ins C dx (flds a w)) ∧ H a = some (.lst (V.int (-1) :: vi es)) ∧ H w = some (.lst (vi ws))
  ok : Fm.OkT es ws
theorem TreeAt.mono {C : Addr} {H H' : Hp} {p : Addr} {es ws : List Nat} (T : TreeAt C H p es ws) (e : Ex H H') : TreeAt C H' p es ws := by
  obtain ⟨⟨dx, a, w, h1, h2, h3⟩, o⟩ := T
  exact ⟨⟨dx, a, w, e _ _ h1, e _ _ h2, e _ _ h3⟩, o⟩
/-- elders and worths that make a tree -/
def Right (le lw : List Int) : Prop := 1 ≤ lw.length ∧ lw.length ≤ 14 ∧ le.length + 1 = lw.length ∧ (∀ k, k < le.length → 0 ≤ le.getD k 0 ∧ le.getD k 0 ≤ (k : Int)) ∧ ∀ z ∈ lw, 0 ≤ z ∧ z ≤ 1000
theorem vi_int (l : List Nat) : vi l = (l.map fun (n : Nat) => (n : Int)).map V.int := vi_ints l
theorem right_of {es ws : List Nat} (o : Fm.OkT es ws) : Right (es.map fun (n : Nat) => (n : Int)) (ws.map fun (n : Nat) => (n : Int)) := by
  have := o.len
  refine ⟨by rw [List.length_map]; omega, by rw [List.length_map]; exact o.most, by rw [List.length_map, List.length_map]; exact o.len, fun k hk => ?_, fun z hz => ?_⟩
  · rw [List.length_map] at hk
    rw [List.getD_eq_getElem?_getD, List.getElem?_map]
    have h := o.up k es[k] (List.getElem?_eq_getElem hk)
    rw [List.getElem?_eq_getElem hk]
    show 0 ≤ ((es[k] : Nat) : Int) ∧ ((es[k] : Nat) : Int) ≤ (k : Int)
    omega
  · obtain ⟨n, hn, rfl⟩ := List.mem_map.mp hz
    have := o.wt n hn
    omega
/-- what stands of the text for the class -/
structure TreeT (K : PySem.W.Frag) (mg : Str → Option Value) (C : Addr) : Prop where
  cl : Cls K C
  nA : NoAttr K C "above"
  nW : NoAttr K C "worth"
  g : mg "Tree" = some (.ref C)
section
variable {P : Program} {w : World} {K : PySem.W.Frag} {mg : Str → Option Value} {base : Heap} {C cBad cNo : Addr}
/-! ### __init__ -/
def spInit (K : PySem.W.Frag) (C cBad : Addr) : Sp := fun vs H Q E => ∃ (p dx pe pw : Addr) (le lw : List Int), vs = [.ref p, .ref pe, .ref pw] ∧ H p = some (.ins C dx []) ∧ SqL K H pe (le.map V.int) ∧ SqL K H pw (lw.map V.int) ∧ le.length ≤ 1000 ∧ lw.length ≤ 1000 ∧
  (Right le lw → ∀ a u H2, H a = none → H u = none → (∀ b o, b ≠ p → H b = some o → H2 b = some o) → H2 p = some (.ins C dx (flds a u)) → H2 a = some (.lst (V.int (-1) :: le.map V.int)) → H2 u = some (.lst (lw.map V.int)) → Q .non H2) ∧
  (¬ Right le lw → ∀ H2, Ex H H2 → E (.ref cBad) none H2)
theorem has_init (B : Bi mg) (T : TreeT K mg C) {t1 t2 : Tok} (c_MOST : mg "MOST" = some (.int 14 t1)) (c_WORTHS : mg "WORTHS" = some (.int 1000 t2)) (e_BadTree : Err K mg "BadTree" cBad) (D : AtI K C "Tree.__init__" s_Tree___init__ p_Tree___init__) :
    HasI P w K mg base (L2.CX P w) C p_Tree___init__ 1 (spInit K C cBad) := D.has fun f fd F => by
  refine F.okX sc_Tree___init__ (fun vs H Q E h => ?_) (fun cdv A outer s H vs Q E hr h => ?_)
  · obtain ⟨p, dx, pe, pw, le, lw, rfl, _⟩ := h
    rfl
  · obtain ⟨p, dx, pe, pw, le, lw, rfl, hp, he, hw, h1, h2, kQ, kE⟩ := h
    refine ⟨_, (pss_cons (ps_if (PW.pt (pw_or (pt_not (pt_chain op_le op_le pe_int (pe_callB (call_lenK (K := K)) (by rfl) B.len PySem.boot_len (pa_cons (pv 2) pa_nil)) (pe_gint (by rfl) c_MOST))) (pw_or1 (pt_cmpR op_ne (pe_callB (call_lenK (K := K)) (by rfl) B.len PySem.boot_len (pa_cons (pv 1) pa_nil)) (pe_op op_sub (pe_callB (call_lenK (K := K)) (by rfl) B.len PySem.boot_len (pa_cons (pv 2) pa_nil)) pe_int) (nomark _))))) (pss_one (ps_raise rfl (takes_of rfl rfl rfl rfl) (e_BadTree.made (by rfl)))) pss_nil)
      (pss_cons (ps_for (passes_of rfl) rfl (pi_range1 (by rfl) B.range (pa_cons (pe_callB (call_lenK (K := K)) (by rfl) B.len PySem.boot_len (pa_cons (pv 1) pa_nil)) pa_nil)) (pg_name (i := 3) sc_Tree___init__.nd rfl (Or.inl rfl)) (pss_one (ps_if (pt_not (pt_chain op_le op_le pe_int (pe_ix (ix_listK (K := K)) (pv 1) (pv 3) (fun _ _ => rfl)) (pv 3))) (pss_one (ps_raise rfl (takes_of rfl rfl rfl rfl) (e_BadTree.made (by rfl)))) pss_nil)))
      (pss_cons (ps_if (pt_cmpR (op_neDK (K := K) hr.units) (pe_lc (own := [("worth", 4)]) (g := gName 4) rfl sc_Tree___init__.nd (pi_list (pv 2)) (blkOk_by (own := [("worth", 4)]) (N := n_Tree___init__) (sc := defScope s_Tree___init__) (by decide +kernel)) (fun _ _ _ _ _ => pg_name (i := 4) sc_Tree___init__.nd rfl (Or.inl rfl)) (fun _ _ _ _ _ => pts_one (pt_not (pt_chain op_le op_le pe_int (pv 4) (pe_gint (by rfl) c_WORTHS)))) (fun _ _ _ _ _ => (pv 4))) (pe_lst pa_nil) (nomark _)) (pss_one (ps_raise rfl (takes_of rfl rfl rfl rfl) (e_BadTree.made (by rfl)))) pss_nil)
      (pss_cons (ps_fld (pv 0) (pe_op op_cat (pe_lst (pa_cons (pe_un un_neg pe_int) pa_nil)) (pe_callTy (call_listK (K := K)) (by rfl) B.list (by decide +kernel) (pa_cons (pv 1) pa_nil))) rfl)
      (pss_one (ps_fld (pv 0) (pe_callTy (call_listK (K := K)) (by rfl) B.list (by decide +kernel) (pa_cons (pv 2) pa_nil)) rfl)))))), ?_⟩
    have lE : (le.map V.int).length = le.length := List.length_map _
    have lW : (lw.map V.int).length = lw.length := List.length_map _
    refine q_when (b := (!(decide ((1 : Int) ≤ (lw.length : Int)) && decide ((lw.length : Int) ≤ 14))) || !decide (V.int (le.length : Int) = V.int ((lw.length : Int) - 1)))
      (et_or (et_not (et_test (ev_chain ev_c (ev_is (ev_lenS (ev_var rfl) hw) (by rw [lW])) (fun _ => ev_c) rv_I0 (fun _ => rv_I0)))) fun _ => et_test (ev_op (ev_is (ev_lenS (ev_var rfl) he) (by rw [lE])) (ev_op (ev_is (ev_lenS (ev_var rfl) hw) (by rw [lW])) ev_c rv_I0) (rv_ne rfl))) (fun hb H1 e1 => ?_) (fun hb H1 e1 => ?_)
    · -- raise
      refine kE (fun R => ?_) H1 e1
      obtain ⟨r1, r2, r3, _⟩ := R
      have x1 : decide ((1 : Int) ≤ (lw.length : Int)) = true := decide_eq_true (by omega)
      have x2 : decide ((lw.length : Int) ≤ 14) = true := decide_eq_true (by omega)
      have x3 : decide (V.int (le.length : Int) = V.int ((lw.length : Int) - 1)) = true := decide_eq_true (by congr 1; omega)
      rw [x1, x2, x3] at hb
      cases hb
    · have x : (1 ≤ lw.length ∧ lw.length ≤ 14) ∧ le.length + 1 = lw.length := by
        simp only [Bool.or_eq_false_iff, Bool.not_eq_false', Bool.and_eq_true, decide_eq_true_eq] at hb
        obtain ⟨⟨a1, a2⟩, a3⟩ := hb
        injection a3 with a3
        omega
      -- for k in range(len(elders))
      refine q_forR1 (n := (le.length : Int)) (ea_cons (ev_is (ev_lenS (ev_var rfl) (ex_l e1 he)) (by rw [lE])) ea_nil) ⟨by omega, by omega⟩
        (fun i σ' H' => ∃ v, σ' = [some (.ref p), some (.ref pe), some (.ref pw), v, none] ∧ Ex H H' ∧ ∀ k, k < i → 0 ≤ le.getD k 0 ∧ le.getD k 0 ≤ (k : Int)) (fun H2 e2 => ⟨none, rfl, e1.trans e2, fun k hk => absurd hk (Nat.not_lt_zero _)⟩) ?_ ?_
      · rintro i σ' H' hi ⟨v, rfl, e, hu⟩
        have hx := zat (l := le) (i := (i : Int)) (j := i) rfl (by omega)
        refine s_when (b := !(decide ((0 : Int) ≤ le.getD i 0) && decide (le.getD i 0 ≤ (i : Int)))) (et_not (et_test (ev_chain ev_c (ev_opIx (ev_var rfl) (ev_var rfl) (ex_l e he) hx) (fun _ => ev_var rfl) rv_I0 (fun _ => rv_I0)))) (fun hb2 H2 e2 => ?_) (fun hb2 H2 e2 => ?_)
        · refine kE (fun R => ?_) H2 (e.trans e2)
          obtain ⟨_, _, _, r4, _⟩ := R
          obtain ⟨y1, y2⟩ := r4 i (by omega)
          rw [decide_eq_true y1, decide_eq_true y2] at hb2
          cases hb2
        · simp only [Bool.not_eq_false', Bool.and_eq_true, decide_eq_true_eq] at hb2
          refine ⟨_, rfl, e.trans e2, fun k hk => ?_⟩
          by_cases hki : k = i
          · rw [hki]; exact hb2
          · exact hu k (by omega)
      · rintro σ' H' ⟨v, rfl, e, hu⟩
        rw [Int.toNat_natCast] at hu
        -- the worths
        refine q_when (b := !decide (lw.filter (fun z => !(decide ((0 : Int) ≤ z) && decide (z ≤ 1000))) = [])) (et_test (ev_neNilZ (el_is (el_lcL (fun i => !(decide ((0 : Int) ≤ lw.getD i 0) && decide (lw.getD i 0 ≤ 1000))) (fun i => V.int (lw.getD i 0)) (ev_var rfl) (ex_l e hw) (by rw [lW]; omega) (fun x => rfl) (fun i x H2 e2 hi => ?_) (fun i x H2 e2 hi _ => ?_))
          (by rw [lW]; exact zfilter lw fun z => !(decide ((0 : Int) ≤ z) && decide (z ≤ 1000)))))) (fun hb2 H2 e2 => ?_) (fun hb2 H2 e2 => ?_)
        · obtain ⟨z, hz, rfl⟩ := zget hi
          have ez : lw.getD i 0 = z := by rw [List.getD_eq_getElem?_getD, hz]; rfl
          rw [ez]
          exact et_not (et_test (ev_chain ev_c (ev_var rfl) (fun _ => ev_c) rv_I0 (fun _ => rv_I0)))
        · obtain ⟨z, hz, rfl⟩ := zget hi
          have ez : lw.getD i 0 = z := by rw [List.getD_eq_getElem?_getD, hz]; rfl
          show Ev _ _ _ (V.int (lw.getD i 0))
          rw [ez]
          exact ev_var rfl
        · refine kE (fun R => ?_) H2 (e.trans e2)
          obtain ⟨_, _, _, _, r5⟩ := R
          have : lw.filter (fun z => !(decide ((0 : Int) ≤ z) && decide (z ≤ 1000))) = [] := by
            rw [List.filter_eq_nil_iff]
            intro z hz
            obtain ⟨y1, y2⟩ := r5 z hz
            rw [decide_eq_true y1, decide_eq_true y2]
            decide
          rw [decide_eq_true this] at hb2
          cases hb2
        · have hnil : lw.filter (fun z => !(decide ((0 : Int) ≤ z) && decide (z ≤ 1000))) = [] := by
            cases hd : decide (lw.filter (fun z => !(decide ((0 : Int) ≤ z) && decide (z ≤ 1000))) = []) with
            | true => exact of_decide_eq_true hd
            | false => rw [hd] at hb2; cases hb2
          have R : Right le lw := ⟨x.1.1, x.1.2, x.2, hu, fun z hz => by
            have := List.filter_eq_nil_iff.mp hnil z hz
            simp only [Bool.not_eq_true', Bool.not_eq_false, Bool.and_eq_true, decide_eq_true_eq] at this
            exact this⟩
          have E2 := e.trans e2
          -- self.above = [-1] + list(elders)
          refine q_fld (EvL.p (el_catNN (xs := [V.int (-1)]) (ys := le.map V.int) (el_lst (ea_cons (ev_un ev_c ru_neg) ea_nil) (by show 1 ≤ 100000; decide)) (el_listS (ev_var rfl) (ex_l E2 he)) (by show 1 + _ ≤ _; rw [lE]; omega))) fun v1 H3 e3 ⟨a, ev, ha, hA⟩ => ⟨dx, [], ev_var rfl, e3 _ _ (E2 _ _ hp), T.cl, T.nA, by show 0 < 1000; decide, fun H4 e4 => ?_⟩
          subst ev
          have E4 := (E2.trans e3).trans e4
          have npa : p ≠ a := ne_of_none (E2 _ _ hp) ha
          have npe : SqL K (upd H4 p (.ins C dx (putF "above" (.ref a) []))) pw (lw.map V.int) := by
            rcases ex_l E4 hw with (h | ⟨o, h⟩) | h
            · exact .inl (.inl (by rw [upd_ne]; exact h; intro z; rw [z] at h; rw [E4 _ _ hp] at h; cases h))
            · exact .inl (.inr ⟨o, by rw [upd_ne]; exact h; intro z; rw [z] at h; rw [E4 _ _ hp] at h; cases h⟩)
            · exact .inr h
          -- self.worth = list(worths)
          refine s_fld (EvL.p (el_listS (ev_var rfl) npe)) fun v2 H5 e5 ⟨u, ev2, hu2, hU⟩ => ⟨dx, putF "above" (.ref a) [], ev_var rfl, e5 _ _ upd_same, T.cl, T.nW, by show 1 < 1000; decide, fun H6 e6 => ?_⟩
          subst ev2
          have npu : p ≠ u := ne_of_none upd_same hu2
          have hA6 : H6 a = some (.lst (V.int (-1) :: le.map V.int)) := e6 _ _ (e5 _ _ (by rw [upd_ne npa.symm]; exact e4 _ _ hA))
          have fa : H a = none := fresh_back E2 ha
          have fu : H u = none := by
            have q : H4 u = none := by rw [upd_ne npu.symm] at hu2; exact hu2
            exact fresh_back E4 q
          refine kQ R a u _ fa fu (fun b o hb hbo => ?_) upd_same (by rw [upd_ne npa.symm]; exact hA6) (by rw [upd_ne npu.symm]; exact e6 _ _ hU)
          rw [upd_ne hb]
          exact e6 _ _ (e5 _ _ (by rw [upd_ne hb]; exact E4 _ _ hbo))
/-- a Tree that was made beside H: nothing of it stood there -/
def TreeNew (C : Addr) (H H2 : Hp) (v : V) (es ws : List Nat) : Prop := ∃ x dx a u, v = .ref x ∧ H x = none ∧ H a = none ∧ H u = none ∧ H2 x = some (.ins C dx (flds a u)) ∧ H2 a = some (.lst (V.int (-1) :: vi es)) ∧ H2 u = some (.lst (vi ws))
theorem spp_tree {H : Hp} {pe pw : Addr} {es ws : List Nat} (he : SqL K H pe (vi es)) (hw : SqL K H pw (vi ws)) (o : Fm.OkT es ws) : ∀ H1, Ex H H1 → ∀ x dx, H1 x = none → H1 dx = none → dx ≠ x → ∀ Q : VK, (∀ H2, Ex H1 H2 → TreeNew C H H2 (.ref x) es ws → Q (.ref x) H2) → ∀ E : XK,
    spInit K C cBad (.ref x :: [.ref pe, .ref pw]) (upd (upd H1 dx (.own x)) x (.ins C dx [])) (fun v H2 => v = .non ∧ Q (.ref x) H2) E := fun H1 e x dx hx hdx ne Q q E => by
  have e0 : Ex H1 (upd (upd H1 dx (.own x)) x (.ins C dx [])) := fun b ob hb => by
    rw [upd_ne (ne_of_none hb hx), upd_ne (ne_of_none hb hdx)]
    exact hb
  have ol := o.len
  have om := o.most
  refine ⟨x, dx, pe, pw, es.map fun (n : Nat) => (n : Int), ws.map fun (n : Nat) => (n : Int), rfl, upd_same, by rw [← vi_int]; exact ex_l (e.trans e0) he, by rw [← vi_int]; exact ex_l (e.trans e0) hw, by rw [List.length_map]; omega, by rw [List.length_map]; omega,
    fun _ a u H2 ha hu k hp hA hU => ⟨rfl, q H2 (fun b ob hb => k b ob (ne_of_none hb hx) (e0 b ob hb)) ⟨x, dx, a, u, rfl, fresh_back e hx, fresh_back (e.trans e0) ha, fresh_back (e.trans e0) hu, hp, by rw [vi_int]; exact hA, by rw [vi_int]; exact hU⟩⟩, fun h => absurd (right_of o) h⟩
theorem TreeNew.at {H H2 : Hp} {v : V} {es ws : List Nat} (h : TreeNew C H H2 v es ws) (o : Fm.OkT es ws) : ∃ x, v = .ref x ∧ TreeAt C H2 x es ws := by
  obtain ⟨x, dx, a, u, rfl, _, _, _, h1, h2, h3⟩ := h
  exact ⟨x, rfl, ⟨dx, a, u, h1, h2, h3⟩, o⟩
/-! ### elders, worths, things -/
def spElders1 (C : Addr) : Sp := fun vs H Q _ => ∃ (p : Addr) (es ws : List Nat), vs = [.ref p] ∧ TreeAt C H p es ws ∧ RetL (vi es) H Q
def spWorths1 (C : Addr) : Sp := fun vs H Q _ => ∃ (p : Addr) (es ws : List Nat), vs = [.ref p] ∧ TreeAt C H p es ws ∧ RetL (vi ws) H Q
def spThings (C : Addr) : Sp := fun vs H Q _ => ∃ (p : Addr) (es ws : List Nat), vs = [.ref p] ∧ TreeAt C H p es ws ∧ RetV (.int (ws.length : Int)) H Q
theorem spl_elders1 {H : Hp} {p : Addr} {es ws : List Nat} (h : TreeAt C H p es ws) : SpL (spElders1 C) [.ref p] H (vi es) := fun H1 e Q q E => ⟨p, es, ws, rfl, h.mono e, q⟩
theorem spl_worths1 {H : Hp} {p : Addr} {es ws : List Nat} (h : TreeAt C H p es ws) : SpL (spWorths1 C) [.ref p] H (vi ws) := fun H1 e Q q E => ⟨p, es, ws, rfl, h.mono e, q⟩
theorem spv_things {H : Hp} {p : Addr} {es ws : List Nat} (h : TreeAt C H p es ws) : SpV (spThings C) [.ref p] H (.int (ws.length : Int)) := fun H1 e Q q E => ⟨p, es, ws, rfl, h.mono e, q⟩
theorem has_elders1 (B : Bi mg) (T : TreeT K mg C) (D : AtM K C "elders" "Tree.elders" s_Tree_elders p_Tree_elders) : HasM P w K mg base CX0 C "elders" p_Tree_elders 1 (spElders1 C) := D.has fun f fd F => by
  refine F.ok sc_Tree_elders (fun vs H Q E h => ?_) (fun cdv A outer s H vs Q E hr h => ?_)
  · obtain ⟨p, es, ws, rfl, _⟩ := h
    rfl
  · obtain ⟨p, es, ws, rfl, ⟨⟨dx, a, u, h1, h2, h3⟩, o⟩, q⟩ := h
    refine ⟨_, (pss_one (ps_ret (pe_callTy (call_listK (K := K)) (by rfl) B.list (by decide +kernel) (pa_cons (pe_slice (sl_listK (K := K)) (pe_fldK (K := K) (pv 0) rfl) (po_some pe_int) po_none) pa_nil)))), ?_⟩
    exact s_retL (el_listN (el_is (el_sl (ev_fld (ev_var rfl) h1 T.cl T.nA (flds_above a u)) (eo_some ev_c) eo_none (sq_of h2)) (by
      unfold cutV
      show (List.drop 1 (V.int (-1) :: vi es)).take _ = _
      exact List.take_of_length_le (by simp [HT.sIx, List.length_drop])))) q
theorem has_worths1 (B : Bi mg) (T : TreeT K mg C) (D : AtM K C "worths" "Tree.worths" s_Tree_worths p_Tree_worths) : HasM P w K mg base CX0 C "worths" p_Tree_worths 1 (spWorths1 C) := D.has fun f fd F => by
  refine F.ok sc_Tree_worths (fun vs H Q E h => ?_) (fun cdv A outer s H vs Q E hr h => ?_)
  · obtain ⟨p, es, ws, rfl, _⟩ := h
    rfl
  · obtain ⟨p, es, ws, rfl, ⟨⟨dx, a, u, h1, h2, h3⟩, o⟩, q⟩ := h
    refine ⟨_, (pss_one (ps_ret (pe_callTy (call_listK (K := K)) (by rfl) B.list (by decide +kernel) (pa_cons (pe_fldK (K := K) (pv 0) rfl) pa_nil)))), ?_⟩
    exact s_retL (el_listS (ev_fld (ev_var rfl) h1 T.cl T.nW (flds_worth a u)) (sq_of h3)) q
theorem has_things (B : Bi mg) (T : TreeT K mg C) (D : AtM K C "things" "Tree.things" s_Tree_things p_Tree_things) : HasM P w K mg base CX0 C "things" p_Tree_things 1 (spThings C) := D.has fun f fd F => by
  refine F.ok sc_Tree_things (fun vs H Q E h => ?_) (fun cdv A outer s H vs Q E hr h => ?_)
  · obtain ⟨p, es, ws, rfl, _⟩ := h
    rfl
  · obtain ⟨p, es, ws, rfl, ⟨⟨dx, a, u, h1, h2, h3⟩, o⟩, q⟩ := h
    refine ⟨_, (pss_one (ps_ret (pe_callB (call_lenK (K := K)) (by rfl) B.len PySem.boot_len (pa_cons (pe_fldK (K := K) (pv 0) rfl) pa_nil)))), ?_⟩
    exact s_ret (ev_is (ev_lenS (ev_fld (ev_var rfl) h1 T.cl T.nW (flds_worth a u)) (sq_of h3)) (by rw [vi_len])) q
end
end Fi
/-! Tree.see_thing. -/
namespace Fi
open PySem L2 Evl
section
variable {P : Program} {w : World} {K : PySem.W.Frag} {mg : Str → Option Value} {base : Heap} {C cBad cNo : Addr}
/-- a thing of a tree, or NoThing -/
def Seen (cNo : Addr) (ws : List Nat) (t : Int) (H : Hp) (E : XK) (yes : Prop) : Prop := (0 ≤ t ∧ t < (ws.length : Int) → yes) ∧ (¬ (0 ≤ t ∧ t < (ws.length : Int)) → ∀ H2, Ex H H2 → E (.ref cNo) none H2)
theorem Seen.of {cNo : Addr} {ws : List Nat} {t : Nat} {H : Hp} {E : XK} {yes : Prop} (h : t < ws.length) (y : yes) : Seen cNo ws (t : Int) H E yes := ⟨fun _ => y, fun n => absurd ⟨by omega, by omega⟩ n⟩
def spSee (C cNo : Addr) : Sp := fun vs H Q E => ∃ (p : Addr) (es ws : List Nat) (t : Int), vs = [.ref p, .int t] ∧ TreeAt C H p es ws ∧ Seen cNo ws t H E (RetV .non H Q)
theorem has_see (B : Bi mg) (T : TreeT K mg C) (e_NoThing : Err K mg "NoThing" cNo) (D : AtM K C "see_thing" "Tree.see_thing" s_Tree_see_thing p_Tree_see_thing) : HasM P w K mg base (L2.CX P w) C "see_thing" p_Tree_see_thing 1 (spSee C cNo) := D.has fun f fd F => by
  refine F.okX sc_Tree_see_thing (fun vs H Q E h => ?_) (fun cdv A outer s H vs Q E hr h => ?_)
  · obtain ⟨p, es, ws, t, rfl, _⟩ := h
    rfl
  · obtain ⟨p, es, ws, t, rfl, ⟨⟨dx, a, u, h1, h2, h3⟩, o⟩, k1, k2⟩ := h
    refine ⟨_, (pss_one (ps_if (pt_not (pt_chain op_le op_lt pe_int (pv 1) (pe_callB (call_lenK (K := K)) (by rfl) B.len PySem.boot_len (pa_cons (pe_fldK (K := K) (pv 0) rfl) pa_nil)))) (pss_one (ps_raise rfl (takes_of rfl rfl rfl rfl) (e_NoThing.made (by rfl)))) pss_nil)), ?_⟩
    refine s_when (b := !(decide ((0 : Int) ≤ t) && decide (t < (ws.length : Int)))) (et_not (et_test (ev_chain ev_c (ev_var rfl) (fun _ => ev_is (ev_lenS (ev_fld (ev_var rfl) h1 T.cl T.nW (flds_worth a u)) (sq_of h3)) (by rw [vi_len])) rv_I0 (fun _ => rv_I0)))) (fun hb H1 e1 => ?_) (fun hb H1 e1 => ?_)
    · exact k2 (fun ⟨y1, y2⟩ => by rw [decide_eq_true y1, decide_eq_true y2] at hb; cases hb) H1 e1
    · simp only [Bool.not_eq_false', Bool.and_eq_true, decide_eq_true_eq] at hb
      exact k1 hb H1 e1
end
end Fi
/-! Tree: see_thing, depth, below, worth_below. -/
namespace Fi
open PySem L2 Evl
section
variable {P : Program} {w : World} {K : PySem.W.Frag} {mg : Str → Option Value} {base : Heap} {C cBad cNo : Addr}
/-! ### depth -/
def spDepth (C cNo : Addr) : Sp := fun vs H Q E => ∃ (p : Addr) (es ws : List Nat) (t : Int), vs = [.ref p, .int t] ∧ TreeAt C H p es ws ∧ Seen cNo ws t H E (RetV (.int (Fm.depth es t.toNat : Int)) H Q)
theorem spv_depth {H : Hp} {p : Addr} {es ws : List Nat} {t : Nat} (h : TreeAt C H p es ws) (ht : t < ws.length) : SpV (spDepth C cNo) [.ref p, .int (t : Int)] H (.int (Fm.depth es t : Int)) := fun H1 e Q q E => ⟨p, es, ws, t, rfl, h.mono e, .of ht q⟩
theorem aget {es : List Nat} {j n : Nat} (h : 0 < j) (e : es[j - 1]? = some n) : (V.int (-1) :: vi es)[j]? = some (V.int (n : Int)) := by
  obtain ⟨k, rfl⟩ : ∃ k, j = k + 1 := ⟨j - 1, by omega⟩
  rw [List.getElem?_cons_succ]
  exact vi_get e
theorem has_depth (T : TreeT K mg C) (hM_see_thing : HasM P w K mg base (L2.CX P w) C "see_thing" p_Tree_see_thing 1 (spSee C cNo)) (D : AtM K C "depth" "Tree.depth" s_Tree_depth p_Tree_depth) :
    HasM P w K mg base (L2.CX P w) C "depth" p_Tree_depth 2 (spDepth C cNo) := D.has fun f fd F => by
  refine F.okX sc_Tree_depth (fun vs H Q E h => ?_) (fun cdv A outer s H vs Q E hr h => ?_)
  · obtain ⟨p, es, ws, t, rfl, _⟩ := h
    rfl
  · obtain ⟨p, es, ws, t, rfl, TA, k1, k2⟩ := h
    obtain ⟨⟨dx, a, u, h1, h2, h3⟩, o⟩ := id TA
    have up := o.up
    have ol := o.len
    refine ⟨_, (pss_cons (ps_expr (hM_see_thing.call T.cl (pv 0) (hr.mono (by decide)) (passes_call (takes_of rfl rfl rfl rfl) fun _ _ _ _ h => h) (pa_cons (pv 1) pa_nil)))
      (pss_cons (ps_set (i := 2) sc_Tree_depth.nd rfl (Or.inl rfl) pe_int)
      (pss_cons (ps_while (passes_of rfl) (pt_cmpR op_ne (pv 1) pe_int (nomark _)) (pss_cons (ps_set (i := 1) sc_Tree_depth.nd rfl (Or.inl rfl) (pe_ix (ix_listK (K := K)) (pe_fldK (K := K) (pv 0) rfl) (pv 1) (fun _ _ => rfl)))
        (pss_one (ps_set (i := 2) sc_Tree_depth.nd rfl (Or.inl rfl) (pe_op op_add (pv 2) pe_int)))))
      (pss_one (ps_ret (pv 2)))))), ?_⟩
    refine q_methX (ev_var rfl) h1 (flds_no a u (by decide +kernel) (by decide +kernel)) (ea_cons (ev_var rfl) ea_nil) fun H1 e1 => ⟨p, es, ws, t, rfl, TA.mono e1, fun hv H2 e2 => ?_, fun hv H2 e2 => k2 hv H2 (e1.trans e2)⟩
    have q := k1 hv
    obtain ⟨n, rfl⟩ : ∃ n : Nat, t = (n : Int) := ⟨t.toNat, by omega⟩
    rw [Int.toNat_natCast] at q
    refine q_asg ev_c fun H3 e3 => ?_
    refine q_while (fun m σ' H' => ∃ (t' s' : Nat), σ' = [some (.ref p), some (.int (t' : Int)), some (.int (s' : Int))] ∧ Ex H H' ∧ s' + Fm.depth es t' = Fm.depth es n ∧ t' ≤ es.length ∧ m = t') n ⟨n, 0, rfl, (e1.trans e2).trans e3, Nat.zero_add _, by omega, rfl⟩ ?_
    rintro m σ' H' ⟨t', s', rfl, e, hd, hl, rfl⟩
    refine ⟨!decide (V.int (m : Int) = V.int ((0 : Nat) : Int)), et_test (ev_op (ev_var rfl) ev_c (rv_ne rfl)), fun hb H4 e4 => ⟨fun σ2 H2 => ∃ m', m' < m ∧ _, fun _ _ h => h, ?_⟩, fun hb H4 e4 => ?_⟩
    · rw [dec_int] at hb
      have hpos : 0 < m := by
        simp only [Bool.not_eq_true', decide_eq_false_iff_not] at hb
        omega
      have hlt := Fm.eld_lt up hpos
      refine q_asg (v := .int (Fm.eld es m : Int)) (ev_opIx (ev_fld (ev_var rfl) (e4 _ _ (e _ _ h1)) T.cl T.nA (flds_above a u)) (ev_var rfl) (sq_of (e4 _ _ (e _ _ h2))) (at_of (j := m) rfl (aget hpos (Fm.eld_get hpos (by omega))))) fun H5 e5 => ?_
      exact s_asg (ev_op (ev_var rfl) ev_c rv_I0) fun H6 e6 => ⟨Fm.eld es m, hlt, Fm.eld es m, s' + 1, rfl, ((e.trans e4).trans e5).trans e6, by have := Fm.depth_step up hpos; omega, by omega, rfl⟩
    · rw [dec_int] at hb
      have hz : m = 0 := by
        simp only [Bool.not_eq_false', decide_eq_true_eq] at hb
        exact hb
      subst hz
      have hd0 : Fm.depth es n = s' := by rw [← hd]; rfl
      rw [hd0] at q
      exact s_ret (ev_var rfl) fun H5 e5 => q H5 ((e.trans e4).trans e5)
/-! ### below -/
def spBelow (C cNo : Addr) : Sp := fun vs H Q E => ∃ (p : Addr) (es ws : List Nat) (t : Int), vs = [.ref p, .int t] ∧ TreeAt C H p es ws ∧ Seen cNo ws t H E (RetL (vi (Fm.below es t.toNat)) H Q)
theorem spl_below {H : Hp} {p : Addr} {es ws : List Nat} {t : Nat} (h : TreeAt C H p es ws) (ht : t < ws.length) : SpL (spBelow C cNo) [.ref p, .int (t : Int)] H (vi (Fm.below es t)) := fun H1 e Q q E => ⟨p, es, ws, t, rfl, h.mono e, .of ht q⟩
theorem has_below (B : Bi mg) (T : TreeT K mg C) (hM_see_thing : HasM P w K mg base (L2.CX P w) C "see_thing" p_Tree_see_thing 1 (spSee C cNo)) (D : AtM K C "below" "Tree.below" s_Tree_below p_Tree_below) :
    HasM P w K mg base (L2.CX P w) C "below" p_Tree_below 2 (spBelow C cNo) := D.has fun f fd F => by
  refine F.okX sc_Tree_below (fun vs H Q E h => ?_) (fun cdv A outer s H vs Q E hr h => ?_)
  · obtain ⟨p, es, ws, t, rfl, _⟩ := h
    rfl
  · obtain ⟨p, es, ws, t, rfl, TA, k1, k2⟩ := h
    obtain ⟨⟨dx, a, u, h1, h2, h3⟩, o⟩ := id TA
    have up := o.up
    have ol := o.len
    have om := o.most
    refine ⟨_, (pss_cons (ps_expr (hM_see_thing.call T.cl (pv 0) (hr.mono (by decide)) (passes_call (takes_of rfl rfl rfl rfl) fun _ _ _ _ h => h) (pa_cons (pv 1) pa_nil)))
      (pss_cons (ps_set (i := 2) sc_Tree_below.nd rfl (Or.inl rfl) (pe_lst (pa_cons (pv 1) pa_nil)))
      (pss_cons (ps_for (passes_of rfl) rfl (pi_range2 (by rfl) B.range (pa_cons (pe_op op_add (pv 1) pe_int) (pa_cons (pe_callB (call_lenK (K := K)) (by rfl) B.len PySem.boot_len (pa_cons (pe_fldK (K := K) (pv 0) rfl) pa_nil)) pa_nil))) (pg_name (i := 3) sc_Tree_below.nd rfl (Or.inl rfl)) (pss_one (ps_if (pt_cmpR (op_inK (K := K)) (pe_ix (ix_listK (K := K)) (pe_fldK (K := K) (pv 0) rfl) (pv 3) (fun _ _ => rfl)) (pv 2) (by with_unfolding_all rfl)) (pss_one (ps_expr (pe_bm PySem.F.plainAttrs_list PySem.F.slot_list_append PySem.F.type_list_append mt_append (pv 2) (pa_cons (pv 3) pa_nil)))) pss_nil)))
      (pss_one (ps_ret (pv 2)))))), ?_⟩
    refine q_methX (ev_var rfl) h1 (flds_no a u (by decide +kernel) (by decide +kernel)) (ea_cons (ev_var rfl) ea_nil) fun H1 e1 => ⟨p, es, ws, t, rfl, TA.mono e1, fun hv H2 e2 => ?_, fun hv H2 e2 => k2 hv H2 (e1.trans e2)⟩
    have q := k1 hv
    obtain ⟨n, rfl⟩ : ∃ n : Nat, t = (n : Int) := ⟨t.toNat, by omega⟩
    rw [Int.toNat_natCast] at q
    have E2 := e1.trans e2
    refine q_asgL (xs := vi [n]) (el_lst (ea_cons (ev_var rfl) ea_nil) (by show 1 ≤ 100000; decide)) fun l H3 hln e3 hl => ?_
    have hlH : H l = none := fresh_back E2 hln
    refine q_forR2 (lo := (n : Int) + 1) (n := (ws.length : Int)) (ea_cons (ev_op (ev_var rfl) ev_c rv_I0) (ea_cons (ev_is (ev_lenS (ev_fld (ev_var rfl) (e3 _ _ (E2 _ _ h1)) T.cl T.nW (flds_worth a u)) (sq_of (e3 _ _ (E2 _ _ h3)))) (by rw [vi_len])) ea_nil)) ⟨by omega, by omega, by omega, by omega⟩
      (fun i σ' H' => ∃ v, σ' = [some (.ref p), some (.int (n : Int)), some (.ref l), v] ∧ Ex H H' ∧ H' l = some (.lst (vi (Fm.belowTo es n (n + 1 + i))))) (fun H4 e4 => ⟨none, rfl, (E2.trans e3).trans e4, by rw [Nat.add_zero, Fm.belowTo_start]; exact e4 _ _ hl⟩) ?_ ?_
    · rintro i σ' H' hi ⟨v, rfl, e, hL⟩
      have hx : (V.int (-1) :: vi es)[n + 1 + i]? = some (V.int (Fm.eld es (n + 1 + i) : Int)) := aget (by omega) (Fm.eld_get (by omega) (by omega))
      have hin : decide (Fm.eld es (n + 1 + i) ∈ Fm.belowTo es n (n + 1 + i)) = Fm.isBelow es n (n + 1 + i) := by
        rw [Fm.isBelow_step up (show n < n + 1 + i by omega)]
        have hlt := Fm.eld_lt up (t := n + 1 + i) (by omega)
        cases hb : Fm.isBelow es n (Fm.eld es (n + 1 + i)) with
        | true => exact decide_eq_true (Fm.mem_belowTo.mpr ⟨hlt, hb⟩)
        | false => exact decide_eq_false fun h => by rw [(Fm.mem_belowTo.mp h).2] at hb; cases hb
      refine s_when (b := Fm.isBelow es n (n + 1 + i)) (et_test (ev_is (ev_op (ev_opIx (ev_fld (ev_var rfl) (e _ _ h1) T.cl T.nA (flds_above a u)) (ev_var rfl) (sq_of (e _ _ h2)) (at_of (j := n + 1 + i) (by omega) hx)) (ev_var rfl) (rv_isL (sq_of hL) rfl (vi_flat _))) (by rw [vi_in, hin]))) (fun hb H4 e4 => ?_) (fun hb H4 e4 => ?_)
      · refine s_app (v := .int ((n + 1 + i : Nat) : Int)) (e4 _ _ hL) (ev_var rfl) (ev_is (ev_var rfl) (by congr 1)) (by rw [vi_len]; have := Fm.belowTo_len es n (n + 1 + i); omega) fun H5 e5 => ⟨_, rfl, Ex.mut ((e.trans e4).trans e5) hlH, ?_⟩
        rw [upd_same, show n + 1 + (i + 1) = (n + 1 + i) + 1 from rfl, Fm.belowTo_succ, if_pos hb, vi_app]
        rfl
      · refine ⟨_, rfl, e.trans e4, ?_⟩
        rw [show n + 1 + (i + 1) = (n + 1 + i) + 1 from rfl, Fm.belowTo_succ, if_neg (by rw [hb]; decide)]
        exact e4 _ _ hL
    · rintro σ' H' ⟨v, rfl, e, hL⟩
      rw [show n + 1 + ((ws.length : Int) - ((n : Int) + 1)).toNat = es.length + 1 by omega, Fm.belowTo_end] at hL
      exact s_ret (ev_var rfl) fun H4 e4 => q l H4 hlH (e.trans e4) (e4 _ _ hL)
/-! ### worth_below -/
def spWorthB (C cNo : Addr) : Sp := fun vs H Q E => ∃ (p : Addr) (es ws : List Nat) (t : Int), vs = [.ref p, .int t] ∧ TreeAt C H p es ws ∧ Seen cNo ws t H E (RetV (.int (Fm.worth es ws t.toNat : Int)) H Q)
theorem spv_worthB {H : Hp} {p : Addr} {es ws : List Nat} {t : Nat} (h : TreeAt C H p es ws) (ht : t < ws.length) : SpV (spWorthB C cNo) [.ref p, .int (t : Int)] H (.int (Fm.worth es ws t : Int)) := fun H1 e Q q E => ⟨p, es, ws, t, rfl, h.mono e, .of ht q⟩
theorem has_worthB (B : Bi mg) (T : TreeT K mg C) (hM_below : HasM P w K mg base (L2.CX P w) C "below" p_Tree_below 2 (spBelow C cNo)) (D : AtM K C "worth_below" "Tree.worth_below" s_Tree_worth_below p_Tree_worth_below) :
    HasM P w K mg base (L2.CX P w) C "worth_below" p_Tree_worth_below 3 (spWorthB C cNo) := D.has fun f fd F => by
  refine F.okX sc_Tree_worth_below (fun vs H Q E h => ?_) (fun cdv A outer s H vs Q E hr h => ?_)
  · obtain ⟨p, es, ws, t, rfl, _⟩ := h
    rfl
  · obtain ⟨p, es, ws, t, rfl, TA, k1, k2⟩ := h
    obtain ⟨⟨dx, a, u, h1, h2, h3⟩, o⟩ := id TA
    have ol := o.len
    have om := o.most
    refine ⟨_, (pss_one (ps_ret (pe_callB (cr_sumK (K := K) rfl) (by rfl) B.sum (by decide +kernel) (pa_cons (pe_lc (own := [("other", 2)]) (g := gName 2) rfl sc_Tree_worth_below.nd (pi_list (hM_below.call T.cl (pv 0) (hr.mono (by decide)) (passes_call (takes_of rfl rfl rfl rfl) fun _ _ _ _ h => h) (pa_cons (pv 1) pa_nil))) (blkOk_by (own := [("other", 2)]) (N := n_Tree_worth_below) (sc := defScope s_Tree_worth_below) (by decide +kernel)) (fun _ _ _ _ _ => pg_name (i := 2) sc_Tree_worth_below.nd rfl (Or.inl rfl)) (fun _ _ _ _ _ => pts_nil) (fun _ _ _ _ _ => (pe_ix (ix_listK (K := K)) (pe_fldK (K := K) (pv 0) rfl) (pv 2) (fun _ _ => rfl)))) pa_nil)))), ?_⟩
    by_cases hv : 0 ≤ t ∧ t < (ws.length : Int)
    · have q := k1 hv
      obtain ⟨n, rfl⟩ : ∃ n : Nat, t = (n : Int) := ⟨t.toNat, by omega⟩
      rw [Int.toNat_natCast] at q
      refine s_ret (ev_sumN (el_lcNLv (l := Fm.below es n) (fun o => ws.getD o 0) (el_meth (ev_var rfl) h1 (flds_no a u (by decide +kernel) (by decide +kernel)) (ea_cons (ev_var rfl) ea_nil) (spl_below TA (by omega))) (by have := Fm.below_len es n; omega) (fun x => rfl) fun m H1 e1 hm => ?_)) q
      have hm2 := (Fm.mem_below.mp hm).1
      exact ev_opIx (ev_fld (ev_var rfl) (e1 _ _ h1) T.cl T.nW (flds_worth a u)) (ev_var rfl) (sq_of (e1 _ _ h3)) (vi_at rfl (getD_get (by omega)))
    · exact ⟨_, rfl, p, dx, _, rfl, h1, flds_no a u (by decide +kernel) (by decide +kernel), _, rfl, p, es, ws, t, rfl, TA, fun h => absurd h hv, fun _ H2 e2 => k2 hv H2 e2⟩
end
end Fi
/-! Tree.see_thing; fires.spread. -/
namespace Fi
open PySem L2 Evl
section
variable {P : Program} {w : World} {K : PySem.W.Frag} {mg : Str → Option Value} {base : Heap} {C cNo cPlan : Addr}
/-- what a fire leaves: rows at lm, beside H -/
def RowsNew (H H2 : Hp) (lm : Addr) (rows : List (List Nat)) : Prop := ∃ rs : List Addr, H lm = none ∧ (∀ a, a ∈ rs → H a = none ∧ a ≠ lm) ∧ H2 lm = some (.lst (rs.map V.ref)) ∧ RowsL H2 rs rows
def spSpread (K : PySem.W.Frag) (C cNo cPlan : Addr) : Sp := fun vs H Q E => ∃ (p pl : Addr) (es ws : List Nat) (plan : List (Option Int)), vs = [.ref p, .ref pl] ∧ TreeAt C H p es ws ∧ SqL K H pl (plan.map oV) ∧ plan.length ≤ 1000 ∧
  (∀ r b s, Fm.fire es plan = .ok (r, b, s) → RetP (fun v H2 => ∃ t lm lb r', v = .ref t ∧ H2 t = some (.tup [.ref lm, .ref lb]) ∧ RowsNew H H2 lm r' ∧ Fm.trim r' = Fm.trim r ∧ r'[0]? = some [0] ∧ H2 lb = some (.lst (vi b)) ∧ H lb = none) H Q) ∧
  (∀ c, Fm.fire es plan = .error c → ∀ H2, Ex H H2 → E (.ref (if c = 1 then cNo else cPlan)) none H2)
theorem bool_or_false {a b : Bool} (h : (a || b) = false) : a = false ∧ b = false := by
  cases a <;> cases b <;> first | exact ⟨rfl, rfl⟩ | cases h
theorem has_spread (B : Bi mg) (T : TreeT K mg C) (e_BadPlan : Err K mg "BadPlan" cPlan) (hM_see_thing : HasM P w K mg base (L2.CX P w) C "see_thing" p_Tree_see_thing 1 (spSee C cNo)) (hM_things : HasM P w K mg base CX0 C "things" p_Tree_things 1 (spThings C))
    (D : At K mg "spread" s_spread p_spread) : Has P w K mg base (L2.CX P w) "spread" p_spread 2 (spSpread K C cNo cPlan) := D.has fun f fd F => by
  refine F.okX sc_spread (fun vs H Q E h => ?_) (fun cdv A outer s H vs Q E hr h => ?_)
  · obtain ⟨p, pl, es, ws, plan, rfl, _⟩ := h
    rfl
  · obtain ⟨p, pl, es, ws, plan, rfl, TA, hpl, hlen, kQ, kE⟩ := h
    obtain ⟨⟨dx, a, u, h1, h2, h3⟩, o⟩ := id TA
    have ol := o.len
    have om := o.most
    have pS : Passes (L2.CX P w) (cxOf (L2.CX P w) P w K mg base n_spread "spread" (defScope s_spread) f cdv A outer s H E) E := passes_call (takes_of rfl rfl rfl rfl) fun _ _ _ _ h => h
    refine ⟨_, (pss_cons (ps_set (i := 2) sc_spread.nd rfl (Or.inl rfl) (pe_lst (pa_cons (pe_lst (pa_cons pe_int pa_nil)) pa_nil)))
      (pss_cons (ps_set (i := 3) sc_spread.nd rfl (Or.inl rfl) (pe_lst (pa_cons pe_int pa_nil)))
      (pss_cons (ps_set (i := 4) sc_spread.nd rfl (Or.inl rfl) (pe_lst pa_nil))
      (pss_cons (ps_set (i := 5) sc_spread.nd rfl (Or.inl rfl) pe_int)
      (pss_cons (ps_while (passes_of rfl) (PW.pt (pw_or (pt_cmpR (op_neDK (K := K) hr.units) (pe_ix (ix_listK (K := K)) (pv 2) (pe_un un_neg pe_int) (fun _ _ => rfl)) (pe_lst pa_nil) (nomark _)) (pw_or1 (pt_cmpR op_lt (pv 5) (pe_callB (call_lenK (K := K)) (by rfl) B.len PySem.boot_len (pa_cons (pv 1) pa_nil)) (nomark _))))) (pss_cut (ps_if (PW.pt (pw_and (pt_cmpR op_lt (pv 5) (pe_callB (call_lenK (K := K)) (by rfl) B.len PySem.boot_len (pa_cons (pv 1) pa_nil)) (nomark _)) (pw_and1 (pt_cmpR op_notN (pe_ix (ix_listK (K := K)) (pv 1) (pv 5) (fun _ _ => rfl)) pe_non (nomark _))))) (pss_cons (ps_expr (hM_see_thing.call T.cl (pv 0) (hr.mono (by decide)) (by first | exact pass0 | exact pS) (pa_cons (pe_ix (ix_listK (K := K)) (pv 1) (pv 5) (fun _ _ => rfl)) pa_nil)))
          (pss_cons (ps_if (PW.pt (pw_or (pt_cmpR (op_inK (K := K)) (pe_ix (ix_listK (K := K)) (pv 1) (pv 5) (fun _ _ => rfl)) (pv 3) (by with_unfolding_all rfl)) (pw_or1 (pt_cmpR (op_inK (K := K)) (pe_ix (ix_listK (K := K)) (pv 1) (pv 5) (fun _ _ => rfl)) (pv 4) (by with_unfolding_all rfl))))) (pss_one (ps_raise rfl (takes_of rfl rfl rfl rfl) (e_BadPlan.made (by rfl)))) pss_nil)
          (pss_one (ps_expr (pe_bm PySem.F.plainAttrs_list PySem.F.slot_list_append PySem.F.type_list_append mt_append (pv 4) (pa_cons (pe_ix (ix_listK (K := K)) (pv 1) (pv 5) (fun _ _ => rfl)) pa_nil)))))) pss_nil)
        (pss_cons (ps_set (i := 6) sc_spread.nd rfl (Or.inl rfl) (pe_lst pa_nil))
        (pss_cons (ps_for (passes_of rfl) rfl (pi_range2 (by rfl) B.range (pa_cons pe_int (pa_cons (hM_things.call0 T.cl (pv 0) (hr.mono (by decide)) (by first | exact pass0 | exact pS)) pa_nil))) (pg_name (i := 7) sc_spread.nd rfl (Or.inl rfl)) (pss_one (ps_if (PW.pt (pw_and (pt_cmpR (op_inK (K := K)) (pe_ix (ix_listK (K := K)) (pe_fldK (K := K) (pv 0) rfl) (pv 7) (fun _ _ => rfl)) (pv 3) (by with_unfolding_all rfl)) (pw_and (pt_cmpR (op_notInK (K := K)) (pv 7) (pv 3) (by with_unfolding_all rfl)) (pw_and1 (pt_cmpR (op_notInK (K := K)) (pv 7) (pv 4) (by with_unfolding_all rfl)))))) (pss_one (ps_expr (pe_bm PySem.F.plainAttrs_list PySem.F.slot_list_append PySem.F.type_list_append mt_append (pv 6) (pa_cons (pv 7) pa_nil)))) pss_nil)))
        (pss_cons (ps_expr (pe_bm PySem.F.plainAttrs_list PySem.F.slot_list_extend PySem.F.type_list_extend mt_extend (pv 3) (pa_cons (pv 6) pa_nil)))
        (pss_cons (ps_expr (pe_bm PySem.F.plainAttrs_list PySem.F.slot_list_append PySem.F.type_list_append mt_append (pv 2) (pa_cons (pv 6) pa_nil)))
        (pss_one (ps_set (i := 5) sc_spread.nd rfl (Or.inl rfl) (pe_op op_add (pv 5) pe_int)))))))))
      (pss_one (ps_ret (pe_tup (pa_cons (pv 2) (pa_cons (pv 3) pa_nil)))))))))), ?_⟩
    -- minutes = [[0]]; burning = [0]; shut = []; now = 0
    refine q_asgP (ep_lstL1 (xs := vi [0]) (el_lst (ea_cons ev_c ea_nil) (by show 1 ≤ 100000; decide))) fun v H1 e1 ⟨lm, r0, ev, nm, nr0, nmr, hm, hr0⟩ => ?_
    subst ev
    refine q_asgL (xs := vi [0]) (el_lst (ea_cons ev_c ea_nil) (by show 1 ≤ 100000; decide)) fun lb H2 nb e2 hb => ?_
    refine q_asgL (el_lst ea_nil (Nat.zero_le _)) fun ls H3 ns e3 hs => ?_
    refine q_asg ev_c fun H4 e4 => ?_
    have e12 := e1.trans e2
    have e24 := (e2.trans e3).trans e4
    have nbH : H lb = none := fresh_back e1 nb
    have nsH : H ls = none := fresh_back e12 ns
    have lb_lm : lb ≠ lm := (ne_of_none hm nb).symm
    have ls_lm : ls ≠ lm := (ne_of_none (e2 _ _ hm) ns).symm
    have ls_lb : ls ≠ lb := (ne_of_none hb ns).symm
    have r0_lb : r0 ≠ lb := ne_of_none hr0 nb
    have r0_ls : r0 ≠ ls := ne_of_none (e2 _ _ hr0) ns
    refine q_while (fun m σ' H' => ∃ (now : Nat) (r : List (List Nat)) (b s : List Nat) (rs : List Addr) (v6 v7 : Option V), σ' = [some (.ref p), some (.ref pl), some (.ref lm), some (.ref lb), some (.ref ls), some (.int (now : Int)), v6, v7] ∧ Ex H H' ∧ Fm.run es plan now = .ok (r, b, s) ∧ (now ≤ plan.length ∨ r.getLast? ≠ some [] ∨ plan.length ≤ now) ∧ now ≤ plan.length + es.length + 2 ∧
        H' lm = some (.lst (rs.map V.ref)) ∧ RowsL H' rs r ∧ H' lb = some (.lst (vi b)) ∧ H' ls = some (.lst (vi s)) ∧ (∀ c, c ∈ rs → H c = none ∧ c ≠ lm ∧ c ≠ lb ∧ c ≠ ls) ∧ m = 2 * (es.length + 1 - b.length) + (plan.length - now) + (if r.getLast? = some [] then 0 else 1))
      (2 * (es.length + 1 - 1) + (plan.length - 0) + 1) ⟨0, [[0]], [0], [], [r0], none, none, rfl, (e12.trans e3).trans e4, rfl, .inl (Nat.zero_le _), by omega, e24 _ _ hm, ⟨e24 _ _ hr0, trivial⟩, e4 _ _ (e3 _ _ hb), e4 _ _ hs, fun c hc => by rw [List.mem_singleton.mp hc]; exact ⟨nr0, nmr, r0_lb, r0_ls⟩, by simp⟩ ?_
    rintro m σ' H' ⟨now, r, b, s, rs, v6, v7, rfl, e, hrun, _, hnow, hm, hR, hb, hs, hrs, rfl⟩
    obtain ⟨x, hx⟩ := Fm.last_row hrun
    have g := Fm.good_run hrun
    have gb := g.blen
    refine ⟨!decide (x = []) || decide ((now : Int) < (plan.length : Int)), et_or (et_test (ev_neLast (ev_var rfl) (ev_un ev_c ru_neg) hm hR hx)) fun _ => et_test (ev_op (ev_var rfl) (ev_is (ev_lenS (ev_var rfl) (ex_l e hpl)) (by rw [List.length_map])) rv_I0), fun hbt H5 e5 => ⟨fun σ2 H2 => ∃ m', m' < _ ∧ _, fun _ _ h => h, ?_⟩, fun hbt H5 e5 => ?_⟩
    · have E5 := e.trans e5
      -- the shutting off
      refine q_cut (M := fun σ' H6 => ∃ s', σ' = [some (.ref p), some (.ref pl), some (.ref lm), some (.ref lb), some (.ref ls), some (.int (now : Int)), v6, v7] ∧ Fm.shutStep (es.length + 1) plan[now]? b s = .ok s' ∧ Ex H H6 ∧ H6 lm = some (.lst (rs.map V.ref)) ∧ RowsL H6 rs r ∧ H6 lb = some (.lst (vi b)) ∧ H6 ls = some (.lst (vi s'))) ?_ ?_
      · have tail : ∀ H6, Ex H5 H6 → Fm.shutStep (es.length + 1) plan[now]? b s = .ok s → ∃ s', [some (.ref p), some (.ref pl), some (.ref lm), some (.ref lb), some (.ref ls), some (.int (now : Int)), v6, v7] = [some (.ref p), some (.ref pl), some (.ref lm), some (.ref lb), some (.ref ls), some (.int (now : Int)), v6, v7] ∧ Fm.shutStep (es.length + 1) plan[now]? b s = .ok s' ∧ Ex H H6 ∧ H6 lm = some (.lst (rs.map V.ref)) ∧ RowsL H6 rs r ∧ H6 lb = some (.lst (vi b)) ∧ H6 ls = some (.lst (vi s')) := fun H6 e6 hs' =>
          have e56 := e5.trans e6
          ⟨s, rfl, hs', e.trans e56, e56 _ _ hm, hR.mono fun a o _ h => e56 _ _ h, e56 _ _ hb, e56 _ _ hs⟩
        cases hp : plan[now]? with
        | none =>
          have hge : plan.length ≤ now := List.getElem?_eq_none_iff.mp hp
          refine s_when (b := false) (et_is (et_and (a := decide ((now : Int) < (plan.length : Int))) (b := false) (et_test (ev_op (ev_var rfl) (ev_is (ev_lenS (ev_var rfl) (ex_l E5 hpl)) (by rw [List.length_map])) rv_I0)) fun hc => absurd (of_decide_eq_true hc) (by omega)) (by simp)) (fun h => no h) fun _ H6 e6 => ?_
          have q := tail H6 e6 (Fm.shut_behind hge)
          rw [hp] at q
          exact q
        | some ov =>
          have hlt : now < plan.length := (List.getElem?_eq_some_iff.mp hp).1
          have hat : atI (plan.map oV) (now : Int) = some (oV ov) := at_of (j := now) rfl (oV_get hp)
          have hd : decide ((now : Int) < (plan.length : Int)) = true := decide_eq_true (by omega)
          cases ov with
          | none =>
            refine s_when (b := false) (et_is (et_and (et_test (ev_op (ev_var rfl) (ev_is (ev_lenS (ev_var rfl) (ex_l E5 hpl)) (by rw [List.length_map])) rv_I0)) fun _ => et_test (ev_opNotN (ev_opIx (ev_var rfl) (ev_var rfl) (ex_l E5 hpl) hat))) (by rw [hd]; rfl)) (fun h => no h) fun _ H6 e6 => ?_
            have q := tail H6 e6 (by rw [hp]; rfl)
            rw [hp] at q
            exact q
          | some z =>
            refine s_when (b := true) (et_is (et_and (et_test (ev_op (ev_var rfl) (ev_is (ev_lenS (ev_var rfl) (ex_l E5 hpl)) (by rw [List.length_map])) rv_I0)) fun _ => et_test (ev_opNotN (ev_opIx (ev_var rfl) (ev_var rfl) (ex_l E5 hpl) hat))) (by rw [hd]; rfl)) (fun _ H6 e6 => ?_) fun h => no' h
            have E6 := E5.trans e6
            have e56 := e5.trans e6
            refine q_methX (ev_var rfl) (E6 _ _ h1) (flds_no a u (by decide +kernel) (by decide +kernel)) (ea_cons (ev_opIx (ev_var rfl) (ev_var rfl) (ex_l E6 hpl) hat) ea_nil) fun H7 e7 => ⟨p, es, ws, z, rfl, TA.mono (E6.trans e7), fun hv H8 e8 => ?_, fun hv H8 e8 => ?_⟩
            · -- it is a thing
              have E8 := (E6.trans e7).trans e8
              have e58 := (e56.trans e7).trans e8
              obtain ⟨n, rfl⟩ : ∃ n : Nat, z = (n : Int) := ⟨z.toNat, by omega⟩
              have hst : Fm.shutStep (es.length + 1) (some (some (n : Int))) b s = if n ∈ b ∨ n ∈ s then .error 2 else .ok (s ++ [n]) := by
                show (if 0 ≤ (n : Int) ∧ (n : Int) < ((es.length + 1 : Nat) : Int) then (if (n : Int).toNat ∈ b ∨ (n : Int).toNat ∈ s then Except.error 2 else .ok (s ++ [(n : Int).toNat])) else .error 1) = _
                rw [if_pos ⟨by omega, by omega⟩, Int.toNat_natCast]
              refine q_when (et_or (et_test (ev_op (ev_opIx (ev_var rfl) (ev_var rfl) (ex_l E8 hpl) hat) (ev_var rfl) (rv_isI (sq_of (e58 _ _ hb))))) fun _ => et_test (ev_op (ev_opIx (ev_var rfl) (ev_var rfl) (ex_l E8 hpl) hat) (ev_var rfl) (rv_isI (sq_of (e58 _ _ hs))))) (fun hbt2 H9 e9 => ?_) (fun hbt2 H9 e9 => ?_)
              · have hin : n ∈ b ∨ n ∈ s := by simpa using hbt2
                have herr : Fm.shutStep (es.length + 1) plan[now]? b s = .error 2 := by rw [hp, hst, if_pos hin]
                exact kE 2 (Fm.run_fire_error (Fm.run_fail hrun herr) (by omega)) H9 (E8.trans e9)
              · obtain ⟨y1, y2⟩ := bool_or_false hbt2
                have hin : ¬ (n ∈ b ∨ n ∈ s) := fun h => by
                  rcases h with h | h
                  · exact of_decide_eq_false y1 h
                  · exact of_decide_eq_false y2 h
                have e59 := e58.trans e9
                have hsl := g.sln
                refine s_app (e59 _ _ hs) (ev_var rfl) (ev_opIx (ev_var rfl) (ev_var rfl) (ex_l (E8.trans e9) hpl) hat) (by rw [vi_len]; omega) fun H10 e10 => ?_
                have e510 := e59.trans e10
                refine ⟨s ++ [n], rfl, by rw [hst, if_neg hin], Ex.mut ((E8.trans e9).trans e10) nsH, ?_, ?_, ?_, ?_⟩
                · rw [upd_ne ls_lm.symm]; exact e510 _ _ hm
                · exact hR.mono fun c ob hc h => by rw [upd_ne (hrs c hc).2.2.2]; exact e510 _ _ h
                · rw [upd_ne ls_lb.symm]; exact e510 _ _ hb
                · rw [upd_same, vi_app]; rfl
            · -- no thing
              have herr : Fm.shutStep (es.length + 1) plan[now]? b s = .error 1 := by
                rw [hp]
                show (if 0 ≤ z ∧ z < ((es.length + 1 : Nat) : Int) then _ else Except.error 1) = _
                exact if_neg (by rw [ol]; exact hv)
              exact kE 1 (Fm.run_fire_error (Fm.run_fail hrun herr) (by omega)) H8 ((E6.trans e7).trans e8)
      · rintro σ6 H6 ⟨s', rfl, hst, E6, hm6, hR6, hb6, hs6⟩
        have hrun' := Fm.run_step hrun hst
        have g' := Fm.good_run hrun'
        have gb' := g'.blen
        -- fresh = []
        refine q_asgL (el_lst ea_nil (Nat.zero_le _)) fun lf H7 nf e7 hf => ?_
        have nfH : H lf = none := fresh_back E6 nf
        have E7 := E6.trans e7
        have lf_lm : lf ≠ lm := (ne_of_none hm6 nf).symm
        have lf_lb : lf ≠ lb := (ne_of_none hb6 nf).symm
        have lf_ls : lf ≠ ls := (ne_of_none hs6 nf).symm
        refine q_forR2 (lo := 1) (n := (ws.length : Int)) (ea_cons ev_c (ea_cons (ev_meth (ev_var rfl) (E7 _ _ h1) (flds_no a u (by decide +kernel) (by decide +kernel)) ea_nil (spv_things (TA.mono E7))) ea_nil)) ⟨by omega, by omega, by omega, by omega⟩
          (fun i σ' H' => ∃ v7, σ' = [some (.ref p), some (.ref pl), some (.ref lm), some (.ref lb), some (.ref ls), some (.int (now : Int)), some (.ref lf), v7] ∧ Ex H6 H' ∧ H' lf = some (.lst (vi (Fm.freshTo es b s' i)))) (fun H8 e8 => ⟨v7, rfl, e7.trans e8, e8 _ _ hf⟩) ?_ ?_
        · rintro i σ' H' hi ⟨w7, rfl, e6, hL⟩
          have hx2 : (V.int (-1) :: vi es)[i + 1]? = some (V.int (Fm.eld es (i + 1) : Int)) := by
            rw [List.getElem?_cons_succ]
            exact vi_get (Fm.eld_get (t := i + 1) (by omega) (by omega))
          have ei : (1 : Int) + (i : Int) = ((i + 1 : Nat) : Int) := by omega
          rw [ei]
          have EE := E6.trans e6
          refine s_when (et_and (et_test (ev_op (ev_opIx (ev_fld (ev_var rfl) (EE _ _ h1) T.cl T.nA (flds_above a u)) (ev_var rfl) (sq_of (EE _ _ h2)) (at_of (j := i + 1) rfl hx2)) (ev_var rfl) (rv_isI (sq_of (e6 _ _ hb6))))) fun _ => et_and (et_test (ev_op (ev_var rfl) (ev_var rfl) (rv_niI (sq_of (e6 _ _ hb6))))) fun _ => et_test (ev_op (ev_var rfl) (ev_var rfl) (rv_niI (sq_of (e6 _ _ hs6))))) (fun hb7 H8 e8 => ?_) (fun hb7 H8 e8 => ?_)
          · refine s_app (e8 _ _ hL) (ev_var rfl) (ev_var rfl) (by rw [vi_len]; have := Fm.freshTo_len es b s' i; omega) fun H9 e9 => ⟨_, rfl, Ex.mut ((e6.trans e8).trans e9) nf, ?_⟩
            rw [upd_same, Fm.freshTo_succ, if_pos (by rw [Bool.and_assoc]; exact hb7), vi_app]
            rfl
          · refine ⟨_, rfl, e6.trans e8, ?_⟩
            rw [Fm.freshTo_succ, if_neg (by rw [Bool.and_assoc, hb7]; decide)]
            exact e8 _ _ hL
        · rintro σ' H' ⟨w7, rfl, e6, hL⟩
          rw [show ((ws.length : Int) - 1).toNat = es.length by omega] at hL
          have hL : H' lf = some (.lst (vi (Fm.fresh es b s'))) := hL
          have fl := Fm.freshTo_len es b s' es.length
          have fl : (Fm.fresh es b s').length ≤ es.length := fl
          have EE := E6.trans e6
          -- burning.extend(fresh)
          refine q_ext (e6 _ _ hb6) hL (ev_var rfl) (ev_var rfl) (by rw [vi_len, vi_len]; omega) fun H8 e8 => ?_
          have k8 : ∀ c ob, c ≠ lb → H' c = some ob → (upd H8 lb (.lst (vi b ++ vi (Fm.fresh es b s')))) c = some ob := fun c ob hc h => by rw [upd_ne hc]; exact e8 _ _ h
          have hb8 : (upd H8 lb (.lst (vi b ++ vi (Fm.fresh es b s')))) lb = some (.lst (vi (b ++ Fm.fresh es b s'))) := by rw [upd_same, vi_app]
          have E8 : Ex H (upd H8 lb (.lst (vi b ++ vi (Fm.fresh es b s')))) := Ex.mut (EE.trans e8) nbH
          generalize upd H8 lb (.lst (vi b ++ vi (Fm.fresh es b s'))) = H9 at k8 hb8 E8
          -- minutes.append(fresh)
          have rl : rs.length = now + 1 := by rw [hR.len, g.len]
          refine q_app (k8 _ _ lb_lm.symm (e6 _ _ hm6)) (ev_var rfl) (ev_var rfl) (by rw [List.length_map]; omega) fun H10 e10 => ?_
          have k10 : ∀ c ob, c ≠ lm → H9 c = some ob → (upd H10 lm (.lst (rs.map V.ref ++ [.ref lf]))) c = some ob := fun c ob hc h => by rw [upd_ne hc]; exact e10 _ _ h
          have hm10 : (upd H10 lm (.lst (rs.map V.ref ++ [.ref lf]))) lm = some (.lst ((rs ++ [lf]).map V.ref)) := by rw [upd_same, List.map_append]; rfl
          have E10 : Ex H (upd H10 lm (.lst (rs.map V.ref ++ [.ref lf]))) := Ex.mut (E8.trans e10) nm
          generalize upd H10 lm (.lst (rs.map V.ref ++ [.ref lf])) = H11 at k10 hm10 E10
          refine s_asg (v := .int ((now + 1 : Nat) : Int)) (ev_op (ev_var rfl) ev_c rv_I0) fun H12 e12 => ?_
          have hgl : (r ++ [Fm.fresh es b s']).getLast? = some (Fm.fresh es b s') := by rw [List.getLast?_append]; rfl
          have hlt : plan.length ≤ now → x ≠ [] := fun hn => by
            have : decide ((now : Int) < (plan.length : Int)) = false := decide_eq_false (by omega)
            rw [this, Bool.or_false] at hbt
            simpa using hbt
          refine ⟨_, ?_, now + 1, r ++ [Fm.fresh es b s'], b ++ Fm.fresh es b s', s', rs ++ [lf], _, _, rfl, E10.trans e12, hrun', ?_, ?_, e12 _ _ hm10, ?_, e12 _ _ (k10 _ _ lb_lm hb8), e12 _ _ (k10 _ _ ls_lm (k8 _ _ ls_lb (e6 _ _ hs6))), ?_, rfl⟩
          · rw [hgl, hx]
            rw [List.length_append] at gb' ⊢
            by_cases hf0 : Fm.fresh es b s' = []
            · rw [hf0, if_pos rfl]
              simp only [List.length_nil, Nat.add_zero]
              by_cases hn : plan.length ≤ now
              · rw [if_neg (fun e => hlt hn (Option.some.inj e))]
                omega
              · omega
            · have : 0 < (Fm.fresh es b s').length := List.length_pos_iff.mpr hf0
              split <;> split <;> omega
          · by_cases hn : plan.length ≤ now + 1
            · exact .inr (.inr hn)
            · exact .inl (by omega)
          · by_cases hn : plan.length ≤ now
            · -- the fire is not over: fewer than all things burn
              have hbnd : now < plan.length + (es.length + 1) := by
                refine Nat.lt_of_not_le fun hge => ?_
                obtain ⟨k, hk⟩ : ∃ k, now = plan.length + k := ⟨now - plan.length, by omega⟩
                obtain ⟨j, hj⟩ : ∃ j, k = j + 1 := ⟨k - 1, by omega⟩
                have hr2 := hrun
                rw [hk] at hr2
                rcases Fm.over_or hr2 with h0 | h0
                · subst hj
                  -- the state ahead of the last minute
                  cases e0 : Fm.run es plan (plan.length + j) with
                  | error c =>
                    have := Fm.run_error e0 1
                    rw [show plan.length + j + 1 = now by omega, hrun] at this
                    cases this
                  | ok v =>
                    obtain ⟨ra, ba, sa⟩ := v
                    have hstep := Fm.run_step e0 (Fm.shut_behind (by omega))
                    rw [show plan.length + j + 1 = now by omega, hrun] at hstep
                    cases hstep
                    have hxx : Fm.fresh es ba s = x := by
                      rw [List.getLast?_append] at hx
                      exact Option.some.inj hx
                    rcases Fm.over_or e0 with h4 | h4
                    · exact hlt hn (by rw [← hxx, h4])
                    · have g0 := (Fm.good_run e0).blen
                      have : x ≠ [] := hlt hn
                      have : 0 < x.length := List.length_pos_iff.mpr this
                      rw [List.length_append, hxx] at gb
                      omega
                · omega
              omega
            · omega
          · refine RowsL.snoc ?_ (hR6.mono fun c ob hc h => e12 _ _ (k10 _ _ (hrs c hc).2.1 (k8 _ _ (hrs c hc).2.2.1 (e6 _ _ h))))
            exact e12 _ _ (k10 _ _ lf_lm (k8 _ _ lf_lb hL))
          · intro c hc
            rcases List.mem_append.mp hc with hc | hc
            · exact hrs c hc
            · rw [List.mem_singleton.mp hc]
              exact ⟨nfH, lf_lm, lf_lb, lf_ls⟩
    · -- the end
      obtain ⟨y1, y2⟩ := bool_or_false hbt
      have hx0 : x = [] := by simpa using y1
      have hn : plan.length ≤ now := by have := of_decide_eq_false y2; omega
      subst hx0
      obtain ⟨r1, hfire, htr⟩ := Fm.run_fire hrun hn hx
      have E5 := e.trans e5
      refine s_retU (eu_tup (ea_cons (ev_var rfl) (ea_cons (ev_var rfl) ea_nil)) (by show 2 ≤ 100000; decide)) fun t H6 nt e6 ht => ?_
      have e56 := e5.trans e6
      refine kQ r1 b s hfire _ H6 (E5.trans e6) ⟨t, lm, lb, r, rfl, ht, ⟨rs, nm, fun c hc => ⟨(hrs c hc).1, (hrs c hc).2.1⟩, e56 _ _ hm, hR.mono fun c ob _ h => e56 _ _ h⟩, htr.symm, g.head, e56 _ _ hb, nbH⟩
theorem spp_spread {H : Hp} {p pl : Addr} {es ws : List Nat} {plan : List (Option Int)} {r : List (List Nat)} {b s : List Nat} (h : TreeAt C H p es ws) (hp : SqL K H pl (plan.map oV)) (hl : plan.length ≤ 1000) (hf : Fm.fire es plan = .ok (r, b, s)) :
    SpP (spSpread K C cNo cPlan) [.ref p, .ref pl] H (fun v H2 => ∃ t lm lb r', v = .ref t ∧ H2 t = some (.tup [.ref lm, .ref lb]) ∧ RowsNew H H2 lm r' ∧ Fm.trim r' = Fm.trim r ∧ r'[0]? = some [0] ∧ H2 lb = some (.lst (vi b)) ∧ H lb = none) := fun H1 e Q q E =>
  ⟨p, pl, es, ws, plan, rfl, h.mono e, ex_l e hp, hl, fun r1 b1 s1 hf1 v H2 e2 ⟨t, lm, lb, r', ev, ht, ⟨rs, nm, nrs, hm, hR⟩, htr, h0, hb, nb⟩ => by
    rw [hf] at hf1
    cases hf1
    exact q v H2 e2 ⟨t, lm, lb, r', ev, ht, ⟨rs, fresh_back e nm, fun a ha => ⟨fresh_back e (nrs a ha).1, (nrs a ha).2⟩, hm, hR⟩, htr, h0, hb, fresh_back e nb⟩,
   fun c hc => by rw [hf] at hc; cases hc⟩
end
end Fi
/-! fires.saved. -/
namespace Fi
open PySem L2 Evl
section
variable {P : Program} {w : World} {K : PySem.W.Frag} {mg : Str → Option Value} {base : Heap} {C cNo cPlan : Addr}
def spSaved (K : PySem.W.Frag) (C cNo cPlan : Addr) : Sp := fun vs H Q E => ∃ (p pl : Addr) (es ws : List Nat) (plan : List (Option Int)), vs = [.ref p, .ref pl] ∧ TreeAt C H p es ws ∧ SqL K H pl (plan.map oV) ∧ plan.length ≤ 1000 ∧
  (∀ r b s, Fm.fire es plan = .ok (r, b, s) → RetV (.int (Fm.saved ws b : Int)) H Q) ∧
  (∀ c, Fm.fire es plan = .error c → ∀ H2, Ex H H2 → E (.ref (if c = 1 then cNo else cPlan)) none H2)
theorem spv_saved {H : Hp} {p pl : Addr} {es ws : List Nat} {plan : List (Option Int)} {r : List (List Nat)} {b s : List Nat} (h : TreeAt C H p es ws) (hp : SqL K H pl (plan.map oV)) (hl : plan.length ≤ 1000) (hf : Fm.fire es plan = .ok (r, b, s)) :
    SpV (spSaved K C cNo cPlan) [.ref p, .ref pl] H (.int (Fm.saved ws b : Int)) := fun H1 e Q q E =>
  ⟨p, pl, es, ws, plan, rfl, h.mono e, ex_l e hp, hl, fun r1 b1 s1 hf1 => by rw [hf] at hf1; cases hf1; exact q, fun c hc => by rw [hf] at hc; cases hc⟩
theorem has_saved (B : Bi mg) (T : TreeT K mg C) (hspread : Has P w K mg base (L2.CX P w) "spread" p_spread 2 (spSpread K C cNo cPlan)) (hM_things : HasM P w K mg base CX0 C "things" p_Tree_things 1 (spThings C))
    (D : At K mg "saved" s_saved p_saved) : Has P w K mg base (L2.CX P w) "saved" p_saved 3 (spSaved K C cNo cPlan) := D.has fun f fd F => by
  refine F.okX sc_saved (fun vs H Q E h => ?_) (fun cdv A outer s H vs Q E hr h => ?_)
  · obtain ⟨p, pl, es, ws, plan, rfl, _⟩ := h
    rfl
  · obtain ⟨p, pl, es, ws, plan, rfl, TA, hpl, hlen, kQ, kE⟩ := h
    obtain ⟨⟨dx, a, u, h1, h2, h3⟩, o⟩ := id TA
    have om := o.most
    have pS : Passes (L2.CX P w) (cxOf (L2.CX P w) P w K mg base n_saved "saved" (defScope s_saved) f cdv A outer s H E) E := passes_call (takes_of rfl rfl rfl rfl) fun _ _ _ _ h => h
    refine ⟨_, (pss_cons (ps_set (i := 2) sc_saved.nd rfl (Or.inr rfl) (pe_ix (ix_tupK (K := K)) (hspread.call (hr.mono (by decide)) (by rfl) (by first | exact pass0 | exact pS) (pa_cons (pv 0) (pa_cons (pv 1) pa_nil))) pe_int (fun _ _ => rfl)))
      (pss_one (ps_ret (pe_callB (cr_sumK (K := K) rfl) (by rfl) B.sum (by decide +kernel) (pa_cons (pe_lc (own := [("thing", 3)]) (g := gName 3) rfl sc_saved.nd (pi_range1 (by rfl) B.range (pa_cons (hM_things.call0 T.cl (pv 0) (hr.mono (by decide)) (by first | exact pass0 | exact pS)) pa_nil)) (blkOk_by (own := [("thing", 3)]) (N := n_saved) (sc := defScope s_saved) (by decide +kernel)) (fun _ _ _ _ _ => pg_name (i := 3) sc_saved.nd rfl (Or.inl rfl)) (fun _ _ _ _ _ => pts_one (pt_cmpR (op_notInK (K := K)) (pv 3) (pv 2) (by with_unfolding_all rfl))) (fun _ _ _ _ _ => (pe_ix (ix_listK (K := K)) (pe_fldK (K := K) (pv 0) rfl) (pv 3) (fun _ _ => rfl)))) pa_nil))))), ?_⟩
    cases hf : Fm.fire es plan with
    | error c => exact ⟨_, rfl, _, rfl, p, pl, es, ws, plan, rfl, TA, hpl, hlen, fun r b s h => (by rw [hf] at h; cases h), fun c' hc' H2 e2 => kE c' hc' H2 e2⟩
    | ok v =>
      obtain ⟨r, b, sh⟩ := v
      refine q_asgP (ep_ixT (P' := fun v H2 => ∃ lb, v = .ref lb ∧ H2 lb = some (.lst (vi b))) (ep_call0 (ea_cons (ev_var rfl) (ea_cons (ev_var rfl) ea_nil)) (spp_spread TA hpl hlen hf)) ev_c fun v H2 H3 e2 e3 ⟨t, lm, lb, r', ev, ht, _, _, _, hb, _⟩ => ⟨t, _, .ref lb, ev, st_of (e3 _ _ ht), rfl, lb, rfl, e3 _ _ hb⟩) fun v H1 e1 ⟨lb, ev, hb⟩ => ?_
      subst ev
      refine s_ret (ev_sumN (el_lcR1f (n := ws.length) (fun t => !decide (t ∈ b)) (fun t => ws.getD t 0) (ea_cons (ev_meth (ev_var rfl) (e1 _ _ h1) (flds_no a u (by decide +kernel) (by decide +kernel)) ea_nil (spv_things (TA.mono e1))) ea_nil) (by omega) (fun x => rfl) (fun i H2 e2 hi => ?_) (fun i H2 e2 hi _ => ?_))) fun H2 e2 => kQ r b sh hf H2 (e1.trans e2)
      · exact et_test (ev_op (ev_var rfl) (ev_var rfl) (rv_niI (sq_of (e2 _ _ hb))))
      · have E2 := e1.trans e2
        exact ev_opIx (ev_fld (ev_var rfl) (E2 _ _ h1) T.cl T.nW (flds_worth a u)) (ev_var rfl) (sq_of (E2 _ _ h3)) (vi_at rfl (by rw [List.getD_eq_getElem?_getD, List.getElem?_eq_getElem hi]; rfl))
end
end Fi
/-! plans.at_depth, best_from, greatest. -/
namespace Fi
open PySem L2 Evl
section
variable {K : PySem.W.Frag} {σ : L2.St} {H : Hp} {ta tb tc te : TE} {x y v : V} {sp : Sp} {E : XK}
/-- a new list, one that stands (tracked) -/
theorem el_catNV {q : Addr} {xs ys : List V} (ha : EvL ta σ H xs) (hb : Ev tb σ H (.ref q)) (h : H q = some (.lst ys)) (hz : xs.length + ys.length ≤ 100000) : EvL (tOp rCat ta tb) σ H (xs ++ ys) := fun H1 e Q k =>
  ha H1 e _ fun p H2 hp e2 h2 => hb H2 (e.trans e2) _ fun H3 e3 => ⟨p, q, xs, ys, rfl, rfl, e3 p _ h2, e3 q _ (e2 q _ (e q _ h)), sz_of hz, fun l hl => k l _ (fresh_back (e2.trans e3) hl) ((e2.trans e3).trans (Ex.new hl)) upd_same⟩
/-- a value and a new list in a new tuple -/
theorem ep_tupVLn {ys : List V} (ha : Ev ta σ H x) (hb : EvL tb σ H ys) : EvP (tTup (tCons ta (tCons tb tNil))) σ H (fun v H2 => ∃ t q, v = .ref t ∧ H q = none ∧ H2 t = some (.tup [x, .ref q]) ∧ H2 q = some (.lst ys)) := fun H1 e Q k =>
  ha H1 e _ fun H2 e2 => hb H2 (e.trans e2) _ fun q H3 hq e3 h3 => ⟨by show 2 ≤ sizeLine; decide, fun t ht => k _ _ ((e2.trans e3).trans (Ex.new ht)) ⟨t, q, rfl, fresh_back (e.trans e2) hq, upd_same, Ex.new ht q _ h3⟩⟩
theorem SpP.imp {vs : List V} {P P' : V → Hp → Prop} (h : SpP sp vs H P) (i : ∀ v H2, P v H2 → P' v H2) : SpP sp vs H P' := fun H1 e Q q E => h H1 e Q (fun v H2 e2 p => q v H2 e2 (i v H2 p)) E
/-- a call of three, the third a new list -/
theorem ep_call3L {xs : List V} {P : V → Hp → Prop} (ha : Ev ta σ H x) (hb : Ev tb σ H y) (hc : EvL tc σ H xs) (hs : ∀ p H1, H1 p = some (.lst xs) → Ex H H1 → SpP sp [x, y, .ref p] H1 P) : EvP (tCall sp [] E (tCons ta (tCons tb (tCons tc tNil)))) σ H P := fun H1 e Q q =>
  ha H1 e _ fun H2 e2 => hb H2 (e.trans e2) _ fun H3 e3 => hc H3 ((e.trans e2).trans e3) _ fun p H4 hp e4 h4 => hs p H4 h4 (((e.trans e2).trans e3).trans e4) H4 (Ex.refl _) Q (fun v H5 e5 pp => q v H5 (((e2.trans e3).trans e4).trans e5) pp) E
/-- the same, a value -/
theorem ev_call3L {xs : List V} {z : V} (ha : Ev ta σ H x) (hb : Ev tb σ H y) (hc : EvL tc σ H xs) (hs : ∀ p H1, H1 p = some (.lst xs) → Ex H H1 → SpV sp [x, y, .ref p] H1 z) : Ev (tCall sp [] E (tCons ta (tCons tb (tCons tc tNil)))) σ H z := fun H1 e Q q =>
  ha H1 e _ fun H2 e2 => hb H2 (e.trans e2) _ fun H3 e3 => hc H3 ((e.trans e2).trans e3) _ fun p H4 hp e4 h4 => hs p H4 h4 (((e.trans e2).trans e3).trans e4) H4 (Ex.refl _) Q (fun H5 e5 => q H5 (((e2.trans e3).trans e4).trans e5)) E
/-- the same, a new list -/
theorem el_call3L {xs ys : List V} (ha : Ev ta σ H x) (hb : Ev tb σ H y) (hc : EvL tc σ H xs) (hs : ∀ p H1, H1 p = some (.lst xs) → Ex H H1 → SpL sp [x, y, .ref p] H1 ys) : EvL (tCall sp [] E (tCons ta (tCons tb (tCons tc tNil)))) σ H ys := fun H1 e Q q =>
  ha H1 e _ fun H2 e2 => hb H2 (e.trans e2) _ fun H3 e3 => hc H3 ((e.trans e2).trans e3) _ fun p H4 hp e4 h4 => hs p H4 h4 (((e.trans e2).trans e3).trans e4) H4 (Ex.refl _) Q (fun l H5 hl e5 h5 => q l H5 (fresh_back ((e2.trans e3).trans e4) hl) (((e2.trans e3).trans e4).trans e5) h5) E
/-- a call of two, the second a new list -/
theorem ev_call2L {xs : List V} {z : V} (ha : Ev ta σ H x) (hb : EvL tb σ H xs) (hs : ∀ p H1, H1 p = some (.lst xs) → Ex H H1 → SpV sp [x, .ref p] H1 z) : Ev (tCall sp [] E (tCons ta (tCons tb tNil))) σ H z := fun H1 e Q q =>
  ha H1 e _ fun H2 e2 => hb H2 (e.trans e2) _ fun p H3 hp e3 h3 => hs p H3 h3 ((e.trans e2).trans e3) H3 (Ex.refl _) Q (fun H5 e5 => q H5 ((e2.trans e3).trans e5)) E
theorem ev_lenT {p : Addr} {xs : List V} (ha : Ev ta σ H (.ref p)) (h : SqT K H p xs) : Ev (tCB (rLenS K) (tCons ta tNil)) σ H (.int (xs.length : Int)) := fun H1 e Q q =>
  ha H1 e _ fun H2 e2 => ⟨p, xs, rfl, Or.inr (ex_t (e.trans e2) h), q H2 e2⟩
/-- a class made of two new lists -/
theorem ep_makeLL {C : Addr} {P : V → Hp → Prop} {xs ys : List V} (ha : EvL ta σ H xs) (hb : EvL tb σ H ys)
    (hs : ∀ q1 q2 H2, H2 q1 = some (.lst xs) → H2 q2 = some (.lst ys) → Ex H H2 → ∀ H1, Ex H2 H1 → ∀ x dx, H1 x = none → H1 dx = none → dx ≠ x → ∀ Q : VK, (∀ H3, Ex H1 H3 → P (.ref x) H3 → Q (.ref x) H3) → ∀ E : XK, sp (.ref x :: [.ref q1, .ref q2]) (upd (upd H1 dx (.own x)) x (.ins C dx [])) (fun v H3 => v = .non ∧ Q (.ref x) H3) E) :
    EvP (tMake C sp [] E (tCons ta (tCons tb tNil))) σ H P := fun H1 e Q q => ha H1 e _ fun q1 H2 _ e2 h2 => hb H2 (e.trans e2) _ fun q2 H3 _ e3 h3 x dx hx hdx ne =>
  hs q1 q2 H3 (e3 _ _ h2) h3 ((e.trans e2).trans e3) H3 (Ex.refl _) x dx hx hdx ne Q (fun H4 e4 p => q _ H4 ((e2.trans e3).trans e4) p) E
end
theorem TreeNew.back {C : Addr} {es ws : List Nat} {H0 H1 H2 : Hp} {v : V} (e : Ex H0 H1) (h : TreeNew C H1 H2 v es ws) : TreeNew C H0 H2 v es ws := by
  obtain ⟨x, dx, a, u, ev, n1, n2, n3, d⟩ := h
  exact ⟨x, dx, a, u, ev, fresh_back e n1, fresh_back e n2, fresh_back e n3, d⟩
section
variable {P : Program} {w : World} {K : PySem.W.Frag} {mg : Str → Option Value} {base : Heap} {C cNo : Addr}
/-! ### at_depth -/
def spAtD (K : PySem.W.Frag) (C : Addr) : Sp := fun vs H Q _ => ∃ (p g : Addr) (es ws : List Nat) (d : Nat) (gone : List Nat), vs = [.ref p, .int (d : Int), .ref g] ∧ TreeAt C H p es ws ∧ SqL K H g (vi gone) ∧ RetL (vi (Fm.avail es d gone)) H Q
theorem spl_atD {H : Hp} {p g : Addr} {es ws : List Nat} {d : Nat} {gone : List Nat} (h : TreeAt C H p es ws) (hg : SqL K H g (vi gone)) : SpL (spAtD K C) [.ref p, .int (d : Int), .ref g] H (vi (Fm.avail es d gone)) := fun H1 e Q q E => ⟨p, g, es, ws, d, gone, rfl, h.mono e, ex_l e hg, q⟩
theorem has_atD (B : Bi mg) (T : TreeT K mg C) (hM_depth : HasM P w K mg base (L2.CX P w) C "depth" p_Tree_depth 2 (spDepth C cNo)) (hM_things : HasM P w K mg base CX0 C "things" p_Tree_things 1 (spThings C))
    (D : At K mg "at_depth" s_at_depth p_at_depth) : Has P w K mg base CX0 "at_depth" p_at_depth 3 (spAtD K C) := D.has fun f fd F => by
  refine F.ok sc_at_depth (fun vs H Q E h => ?_) (fun cdv A outer s H vs Q E hr h => ?_)
  · obtain ⟨p, g, es, ws, d, gone, rfl, _⟩ := h
    rfl
  · obtain ⟨p, g, es, ws, d, gone, rfl, TA, hg, q⟩ := h
    obtain ⟨⟨dx, a, u, h1, h2, h3⟩, o⟩ := id TA
    have ol := o.len
    have om := o.most
    refine ⟨_, (pss_one (ps_ret (pe_lc (own := [("thing", 3)]) (g := gName 3) rfl sc_at_depth.nd (pi_range2 (by rfl) B.range (pa_cons pe_int (pa_cons (hM_things.call0 T.cl (pv 0) (hr.mono (by decide)) (by first | exact pass0 | exact passL)) pa_nil))) (blkOk_by (own := [("thing", 3)]) (N := n_at_depth) (sc := defScope s_at_depth) (by decide +kernel)) (fun _ _ _ _ _ => pg_name (i := 3) sc_at_depth.nd rfl (Or.inl rfl)) (fun _ _ _ _ _ => pts_one (PW.pt (pw_and (pt_cmpR op_eq (hM_depth.call T.cl (pv 0) (hr.mono (by decide)) (by first | exact pass0 | exact passL) (pa_cons (pv 3) pa_nil)) (pv 1) (nomark _)) (pw_and1 (pt_cmpR (op_notInK (K := K)) (pv 3) (pv 2) (by with_unfolding_all rfl)))))) (fun _ _ _ _ _ => (pv 3))))), ?_⟩
    refine s_retL (el_lcR2f (lo := 1) (n := es.length) (fun t => decide (Fm.depth es t = d) && !decide (t ∈ gone)) (ea_cons ev_c (ea_cons (ev_is (ev_meth (ev_var rfl) h1 (flds_no a u (by decide +kernel) (by decide +kernel)) ea_nil (spv_things TA)) (by congr 1; omega)) ea_nil)) (by omega) (fun x => rfl)
      (fun i H1 e1 hi => ?_) (fun i H1 e1 hi _ => ev_var rfl)) q
    refine et_is (et_and (et_test (ev_op (ev_meth (ev_var rfl) (e1 _ _ h1) (flds_no a u (by decide +kernel) (by decide +kernel)) (ea_cons (ev_var rfl) ea_nil) (spv_depth (cNo := cNo) (TA.mono e1) (by omega))) (ev_var rfl) (rv_eq rfl))) fun _ => et_test (ev_op (ev_var rfl) (ev_var rfl) (rv_niI (ex_l e1 hg)))) ?_
    rw [dec_int]
/-! ### best_from -/
/-- a pair of a worth and a plan, the plan new -/
def BestNew (H : Hp) (b : Int × List Nat) (v : V) (H2 : Hp) : Prop := ∃ t l, v = .ref t ∧ H l = none ∧ H2 t = some (.tup [.int b.1, .ref l]) ∧ H2 l = some (.lst (vi b.2))
theorem BestNew.back {H H1 H2 : Hp} {b : Int × List Nat} {v : V} (e : Ex H H1) (h : BestNew H1 b v H2) : BestNew H b v H2 := by
  obtain ⟨t, l, ev, n, h1, h2⟩ := h
  exact ⟨t, l, ev, fresh_back e n, h1, h2⟩
def spBest (C : Addr) (n : Nat) : Sp := fun vs H Q _ => ∃ (p g : Addr) (es ws : List Nat) (d : Nat) (gone : List Nat), vs = [.ref p, .int (d : Int), .ref g] ∧ TreeAt C H p es ws ∧ H g = some (.lst (vi gone)) ∧ gone.length ≤ 20 * d ∧ d ≤ es.length + 1 ∧ es.length + 2 ≤ d + n ∧
  RetP (BestNew H (Fm.bf es ws n d gone)) H Q
theorem spp_best {H : Hp} {p g : Addr} {es ws : List Nat} {n d : Nat} {gone : List Nat} (h : TreeAt C H p es ws) (hg : H g = some (.lst (vi gone))) (hl : gone.length ≤ 20 * d) (hd : d ≤ es.length + 1) (hn : es.length + 2 ≤ d + n) :
    SpP (spBest C n) [.ref p, .int (d : Int), .ref g] H (BestNew H (Fm.bf es ws n d gone)) := fun H1 e Q q E => ⟨p, g, es, ws, d, gone, rfl, h.mono e, e _ _ hg, hl, hd, hn, fun v H2 e2 b => q v H2 e2 (b.back e)⟩
theorem has_best (B : Bi mg) (T : TreeT K mg C) (hat_depth : Has P w K mg base CX0 "at_depth" p_at_depth 3 (spAtD K C)) (hM_below : HasM P w K mg base (L2.CX P w) C "below" p_Tree_below 2 (spBelow C cNo)) (hM_worth_below : HasM P w K mg base (L2.CX P w) C "worth_below" p_Tree_worth_below 3 (spWorthB C cNo))
    (D : At K mg "best_from" s_best_from p_best_from) : ∀ n, Has P w K mg base CX0 "best_from" p_best_from (4 + n) (spBest C n)
  | 0 => D.has fun f fd F => by
    refine F.ok sc_best_from (fun vs H Q E h => ?_) (fun cdv A outer s H vs Q E hr h => ?_)
    · obtain ⟨p, g, es, ws, d, gone, rfl, _⟩ := h
      rfl
    · obtain ⟨p, g, es, ws, d, gone, rfl, TA, hg, hl, hd, hn, q⟩ := h
      omega
  | n + 1 => D.has fun f fd F => by
    have hbest_from := has_best B T hat_depth hM_below hM_worth_below D n
    refine F.ok sc_best_from (fun vs H Q E h => ?_) (fun cdv A outer s H vs Q E hr h => ?_)
    · obtain ⟨p, g, es, ws, d, gone, rfl, _⟩ := h
      rfl
    · obtain ⟨p, g, es, ws, d, gone, rfl, TA, hg, hl, hd, hn, q⟩ := h
      obtain ⟨⟨dx, a, u, h1, h2, h3⟩, o⟩ := id TA
      have ol := o.len
      have om := o.most
      refine ⟨_, (pss_cons (ps_set (i := 3) sc_best_from.nd rfl (Or.inl rfl) (hat_depth.call (hr.mono (by show _ ≤ 4 + n; omega)) (by rfl) pass0 (pa_cons (pv 0) (pa_cons (pv 1) (pa_cons (pv 2) pa_nil)))))
      (pss_cons (ps_if (pt_cmpR (op_eqDK (K := K) hr.units) (pv 3) (pe_lst pa_nil) (nomark _)) (pss_one (ps_ret (pe_tup (pa_cons pe_int (pa_cons (pe_lst pa_nil) pa_nil))))) pss_nil)
      (pss_cons (ps_set (i := 4) sc_best_from.nd rfl (Or.inl rfl) (pe_tup (pa_cons (pe_un un_neg pe_int) (pa_cons (pe_lst pa_nil) pa_nil))))
      (pss_cons (ps_for PassesOwn.never rfl (pi_list (pv 3)) (pg_name (i := 5) sc_best_from.nd rfl (Or.inl rfl)) (pss_cons (ps_set (i := 6) sc_best_from.nd rfl (Or.inl rfl) (hbest_from.call (hr.mono (by show _ ≤ 4 + n; omega)) (by rfl) pass0 (pa_cons (pv 0) (pa_cons (pe_op op_add (pv 1) pe_int) (pa_cons (pe_op op_cat (pv 2) (hM_below.call T.cl (pv 0) (hr.mono (by show _ ≤ 4 + n; omega)) passL (pa_cons (pv 5) pa_nil))) pa_nil)))))
        (pss_cons (ps_set (i := 7) sc_best_from.nd rfl (Or.inl rfl) (pe_op op_add (hM_worth_below.call T.cl (pv 0) (hr.mono (by show _ ≤ 4 + n; omega)) passL (pa_cons (pv 5) pa_nil)) (pe_ix (ix_tupK (K := K)) (pv 6) pe_int (fun _ _ => rfl))))
        (pss_one (ps_if (pt_cmpR op_gt (pv 7) (pe_ix (ix_tupK (K := K)) (pv 4) pe_int (fun _ _ => rfl)) (nomark _)) (pss_one (ps_set (i := 4) sc_best_from.nd rfl (Or.inl rfl) (pe_tup (pa_cons (pv 7) (pa_cons (pe_op op_cat (pe_lst (pa_cons (pv 5) pa_nil)) (pe_ix (ix_tupK (K := K)) (pv 6) pe_int (fun _ _ => rfl))) pa_nil))))) pss_nil)))))
      (pss_one (ps_ret (pv 4))))))), ?_⟩
      refine q_asgL (el_call0 (ea_cons (ev_var rfl) (ea_cons (ev_var rfl) (ea_cons (ev_var rfl) ea_nil))) (spl_atD TA (sq_of hg))) fun ls H1 nls e1 hs => ?_
      refine q_when (et_test (ev_eqNil (ev_var rfl) (sq_of hs))) (fun hb H2 e2 => ?_) (fun hb H2 e2 => ?_)
      · have hb := of_decide_eq_true hb
        refine s_retP (ep_tupVLn ev_c (el_lst ea_nil (Nat.zero_le _))) fun v H3 e3 ⟨t, l, ev, nl, ht, hl2⟩ => q v H3 ((e1.trans e2).trans e3) ⟨t, l, ev, fresh_back (e1.trans e2) nl, ?_, ?_⟩
        · rw [Fm.bf, if_pos hb]
          exact ht
        · rw [Fm.bf, if_pos hb]
          exact hl2
      · have hb := of_decide_eq_false hb
        have hdl : d ≤ es.length := by
          refine Nat.le_of_not_lt fun c => hb (Fm.avail_deep o.up (by omega) _)
        have e12 := e1.trans e2
        refine q_asgP (ep_tupVLn (ev_un ev_c ru_neg) (el_lst ea_nil (Nat.zero_le _))) fun v H3 e3 ⟨t, l, ev, nl, ht, hl2⟩ => ?_
        subst ev
        have e13 := e12.trans e3
        refine q_forLn (xs := vi (Fm.avail es d gone)) (ev_var rfl) (sq_of (e3 _ _ (e2 _ _ hs))) (fun i σ' H' => ∃ (tb lb : Addr) (v5 v6 v7 : Option V) (b : Int × List Nat), σ' = [some (.ref p), some (.int (d : Int)), some (.ref g), some (.ref ls), some (.ref tb), v5, v6, v7] ∧ Ex H3 H' ∧ H lb = none ∧ H' tb = some (.tup [.int b.1, .ref lb]) ∧ H' lb = some (.lst (vi b.2)) ∧
            b = ((Fm.avail es d gone).take i).foldl (fun best t => Fm.better best t (Fm.worth es ws t) (Fm.bf es ws n (d + 1) (gone ++ Fm.below es t))) (-1, []))
          (fun H4 e4 => ⟨t, l, none, none, none, (-1, []), rfl, e4, fresh_back e12 nl, e4 _ _ ht, e4 _ _ hl2, rfl⟩) (fun i σ' H' _ ⟨_, _, _, _, _, _, _, e, _⟩ => sq_of (e _ _ (e3 _ _ (e2 _ _ hs)))) ?_ ?_
        · rintro i x σ' H' hi ⟨tb, lb, v5, v6, v7, b, rfl, e4, nlb, htb, hlb, hfold⟩
          obtain ⟨m, hm, rfl⟩ := vi_get_of hi
          have hmem : m ∈ Fm.avail es d gone := List.mem_of_getElem? hm
          obtain ⟨⟨hm1, hm2⟩, hm3, hm4⟩ := Fm.mem_avail.mp hmem
          have E4 := e13.trans e4
          have bl := Fm.below_len es m
          have lev := Fm.bf_level (es := es) (ws := ws) o.up n (d + 1) (gone ++ Fm.below es m) (by omega)
          have llen := Fm.level_len o.up _ _ _ lev.1 (by omega)
          refine q_asgP (P := BestNew H (Fm.bf es ws n (d + 1) (gone ++ Fm.below es m))) (ep_call3L (x := .ref p) (y := .int ((d + 1 : Nat) : Int)) (xs := vi (gone ++ Fm.below es m)) (ev_var rfl) (ev_op (ev_var rfl) ev_c rv_I0) (el_is (el_catVN (ev_var rfl) (E4 _ _ hg) (el_meth (ev_var rfl) (E4 _ _ h1) (flds_no a u (by decide +kernel) (by decide +kernel)) (ea_cons (ev_var rfl) ea_nil) (spl_below (TA.mono E4) (by omega))) (by rw [vi_len, vi_len]; omega)) (vi_app _ _).symm)
            fun pg H5 hpg e5 => (spp_best (n := n) (TA.mono (E4.trans e5)) hpg (by rw [List.length_append]; omega) (by omega) (by omega)).imp fun v H6 b6 => b6.back (E4.trans e5)) fun v H5 e5 ⟨tf, lf, ev, nlf, htf, hlf⟩ => ?_
          subst ev
          have E5 := E4.trans e5
          refine q_asg (v := .int ((Fm.worth es ws m : Int) + (Fm.bf es ws n (d + 1) (gone ++ Fm.below es m)).1)) (ev_op (ev_meth (ev_var rfl) (E5 _ _ h1) (flds_no a u (by decide +kernel) (by decide +kernel)) (ea_cons (ev_var rfl) ea_nil) (spv_worthB (TA.mono E5) (by omega))) (ev_opIxT (ev_var rfl) ev_c (st_of htf) rfl) rv_I0) fun H6 e6 => ?_
          have htk : (Fm.avail es d gone).take (i + 1) = (Fm.avail es d gone).take i ++ [m] := by
            rw [List.take_succ, hm]
            rfl
          refine s_when (b := decide (b.1 < (Fm.worth es ws m : Int) + (Fm.bf es ws n (d + 1) (gone ++ Fm.below es m)).1)) (et_test (ev_op (ev_var rfl) (ev_opIxT (ev_var rfl) ev_c (st_of (e6 _ _ (e5 _ _ htb))) rfl) rv_I0)) (fun hc H7 e7 => ?_) (fun hc H7 e7 => ?_)
          · refine s_asgP (ep_tupVLn (ev_var rfl) (el_catNV (xs := vi [m]) (el_lst (ea_cons (ev_var rfl) ea_nil) (by show 1 ≤ 100000; decide)) (ev_opIxT (ev_var rfl) ev_c (st_of (e7 _ _ (e6 _ _ htf))) rfl) (e7 _ _ (e6 _ _ hlf)) (by rw [vi_len, vi_len]; show 1 + _ ≤ _; omega))) fun v H8 e8 ⟨tn, ln, ev, nln, htn, hln⟩ => ?_
            subst ev
            refine ⟨tn, ln, _, _, _, ((Fm.worth es ws m : Int) + (Fm.bf es ws n (d + 1) (gone ++ Fm.below es m)).1, m :: (Fm.bf es ws n (d + 1) (gone ++ Fm.below es m)).2), rfl, ((((e4.trans e5).trans e6).trans e7).trans e8), fresh_back (((E4.trans e5).trans e6).trans e7) nln, htn, hln, ?_⟩
            rw [htk, List.foldl_append, ← hfold]
            exact (if_pos (of_decide_eq_true hc)).symm
          · have e47 := (e5.trans e6).trans e7
            refine ⟨tb, lb, _, _, _, b, rfl, e4.trans e47, nlb, e47 _ _ htb, e47 _ _ hlb, ?_⟩
            rw [htk, List.foldl_append, ← hfold]
            exact (if_neg (of_decide_eq_false hc)).symm
        · rintro σ' H' ⟨tb, lb, v5, v6, v7, b, rfl, e4, nlb, htb, hlb, hfold⟩
          have hbf : Fm.bf es ws (n + 1) d gone = b := by
            rw [Fm.bf, if_neg hb, hfold, vi_len, List.take_length]
          refine s_ret (ev_var rfl) fun H5 e5 => q _ H5 ((e13.trans e4).trans e5) ⟨tb, lb, rfl, nlb, ?_, ?_⟩
          · rw [hbf]; exact e5 _ _ htb
          · rw [hbf]; exact e5 _ _ hlb
/-! ### greatest -/
def spGreat (C : Addr) : Sp := fun vs H Q _ => ∃ (p : Addr) (es ws : List Nat), vs = [.ref p] ∧ TreeAt C H p es ws ∧ RetP (BestNew H (Fm.bf es ws 14 1 [])) H Q
theorem spp_great {H : Hp} {p : Addr} {es ws : List Nat} (h : TreeAt C H p es ws) : SpP (spGreat C) [.ref p] H (BestNew H (Fm.bf es ws 14 1 [])) := fun H1 e Q q E => ⟨p, es, ws, rfl, h.mono e, fun v H2 e2 b => q v H2 e2 (b.back e)⟩
theorem has_great (B : Bi mg) (T : TreeT K mg C) (hbest_from : Has P w K mg base CX0 "best_from" p_best_from 18 (spBest C 14)) (D : At K mg "greatest" s_greatest p_greatest) : Has P w K mg base CX0 "greatest" p_greatest 19 (spGreat C) := D.has fun f fd F => by
  refine F.ok sc_greatest (fun vs H Q E h => ?_) (fun cdv A outer s H vs Q E hr h => ?_)
  · obtain ⟨p, es, ws, rfl, _⟩ := h
    rfl
  · obtain ⟨p, es, ws, rfl, TA, q⟩ := h
    have ol := TA.2.len
    have om := TA.2.most
    refine ⟨_, (pss_one (ps_ret (hbest_from.call (hr.mono (by decide)) (by rfl) pass0 (pa_cons (pv 0) (pa_cons pe_int (pa_cons (pe_lst pa_nil) pa_nil)))))), ?_⟩
    exact s_retP (P := BestNew H (Fm.bf es ws 14 1 [])) (ep_call3L (y := .int ((1 : Nat) : Int)) (xs := vi []) (ev_var rfl) ev_c (el_lst ea_nil (Nat.zero_le _)) fun pg H5 hpg e5 => (spp_best (n := 14) (TA.mono e5) hpg (by simp) (by omega) (by omega)).imp fun v H6 b6 => b6.back e5) fun v H2 e2 b => q v H2 e2 b
end
end Fi
/-! _law_free. -/
namespace Fi
open PySem L2 Evl
section
variable {P : Program} {w : World} {K : PySem.W.Frag} {mg : Str → Option Value} {base : Heap}
def spFree (K : PySem.W.Frag) : Sp := fun vs H Q _ => ∃ (p g : Addr) (es : List Nat) (d : Nat) (gone : List Nat), vs = [.ref p, .int (d : Int), .ref g] ∧ SqL K H p (vi es) ∧ (∀ (k v : Nat), es[k]? = some v → v ≤ k) ∧ es.length ≤ 13 ∧ SqL K H g (vi gone) ∧ RetL (vi (Fm.avail es d gone)) H Q
theorem spl_free {H : Hp} {p g : Addr} {es : List Nat} {d : Nat} {gone : List Nat} (h : SqL K H p (vi es)) (up : ∀ (k v : Nat), es[k]? = some v → v ≤ k) (h13 : es.length ≤ 13) (hg : SqL K H g (vi gone)) : SpL (spFree K) [.ref p, .int (d : Int), .ref g] H (vi (Fm.avail es d gone)) :=
  fun H1 e Q q E => ⟨p, g, es, d, gone, rfl, ex_l e h, up, h13, ex_l e hg, q⟩
theorem has_free (B : Bi mg) (h_law_depth : Has P w K mg base CX0 "_law_depth" p__law_depth 1 (spLDepth K)) (D : At K mg "_law_free" s__law_free p__law_free) : Has P w K mg base CX0 "_law_free" p__law_free 2 (spFree K) := D.has fun f fd F => by
  refine F.ok sc__law_free (fun vs H Q E h => ?_) (fun cdv A outer s H vs Q E hr h => ?_)
  · obtain ⟨p, g, es, d, gone, rfl, _⟩ := h
    rfl
  · obtain ⟨p, g, es, d, gone, rfl, he, up, h13, hg, q⟩ := h
    refine ⟨_, (pss_cons (ps_set (i := 3) sc__law_free.nd rfl (Or.inl rfl) (pe_lst pa_nil))
      (pss_cons (ps_for PassesOwn.never rfl (pi_range2 (by rfl) B.range (pa_cons pe_int (pa_cons (pe_op op_add (pe_callB (call_lenK (K := K)) (by rfl) B.len PySem.boot_len (pa_cons (pv 0) pa_nil)) pe_int) pa_nil))) (pg_name (i := 4) sc__law_free.nd rfl (Or.inl rfl)) (pss_one (ps_if (PW.pt (pw_and (pt_cmpR op_eq (h_law_depth.call (hr.mono (by decide)) (by rfl) pass0 (pa_cons (pv 0) (pa_cons (pv 4) pa_nil))) (pv 1) (nomark _)) (pw_and1 (pt_cmpR (op_notInK (K := K)) (pv 4) (pv 2) (by with_unfolding_all rfl))))) (pss_one (ps_expr (pe_bm PySem.F.plainAttrs_list PySem.F.slot_list_append PySem.F.type_list_append mt_append (pv 3) (pa_cons (pv 4) pa_nil)))) pss_nil)))
      (pss_one (ps_ret (pv 3))))), ?_⟩
    refine q_asgL (el_lst ea_nil (Nat.zero_le _)) fun l H1 nl e1 hl => ?_
    refine q_forR2 (lo := 1) (n := ((es.length + 1 : Nat) : Int)) (ea_cons ev_c (ea_cons (ev_is (ev_op (ev_lenS (ev_var rfl) (ex_l e1 he)) ev_c rv_I0) (by rw [vi_len]; congr 1)) ea_nil)) ⟨by omega, by omega, by omega, by omega⟩
      (fun i σ' H' => ∃ v4, σ' = [some (.ref p), some (.int (d : Int)), some (.ref g), some (.ref l), v4] ∧ Ex H H' ∧ H' l = some (.lst (vi (Fm.availTo es d gone i)))) (fun H2 e2 => ⟨none, rfl, e1.trans e2, e2 _ _ hl⟩) ?_ ?_
    · rintro i σ' H' hi ⟨v4, rfl, e, hL⟩
      rw [show (1 : Int) + (i : Int) = ((i + 1 : Nat) : Int) by omega]
      refine s_when (b := decide (Fm.depth es (i + 1) = d) && !decide (i + 1 ∈ gone)) (et_is (et_and (et_test (ev_op (ev_call0 (ea_cons (ev_var rfl) (ea_cons (ev_var rfl) ea_nil)) (spv_ldepth (ex_l e he) up (by omega))) (ev_var rfl) (rv_eq rfl))) fun _ => et_test (ev_op (ev_var rfl) (ev_var rfl) (rv_niI (ex_l e hg)))) (by rw [dec_int])) (fun hb H2 e2 => ?_) (fun hb H2 e2 => ?_)
      · refine s_app (e2 _ _ hL) (ev_var rfl) (ev_var rfl) (by rw [vi_len]; have := Fm.availTo_len es d gone i; omega) fun H3 e3 => ⟨_, rfl, Ex.mut ((e.trans e2).trans e3) nl, ?_⟩
        rw [upd_same, Fm.availTo_succ, if_pos hb, vi_app]
        rfl
      · refine ⟨_, rfl, e.trans e2, ?_⟩
        rw [Fm.availTo_succ, if_neg (by rw [hb]; decide)]
        exact e2 _ _ hL
    · rintro σ' H' ⟨v4, rfl, e, hL⟩
      refine s_ret (ev_var rfl) fun H2 e2 => q l H2 nl (e.trans e2) ?_
      have : (((es.length + 1 : Nat) : Int) - 1).toNat = es.length := by omega
      rw [this] at hL
      exact e2 _ _ hL
end
end Fi
/-! plans.greedy, plans.ceiling. -/
namespace Fm
theorem planWorth_snoc (es ws pl : List Nat) (t : Nat) : planWorth es ws (pl ++ [t]) = planWorth es ws pl + worth es ws t := by
  unfold planWorth
  rw [List.map_append, List.sum_append]
  simp
theorem gr_done {es ws : List Nat} {d : Nat} {g : List Nat} (h : avail es d g = []) : ∀ n, gr es ws n d g = []
  | 0 => rfl
  | n + 1 => by rw [gr, if_pos h]
theorem goneOf_len {es : List Nat} {n : Nat} : ∀ {l : List Nat}, l.length ≤ n → (goneOf es l).length ≤ (es.length + 1) * n
  | [], _ => Nat.zero_le _
  | a :: l, h => by
    cases n with
    | zero => cases h
    | succ n =>
      rw [goneOf, List.length_append]
      have h1 := below_len es a
      have h2 := goneOf_len (es := es) (n := n) (l := l) (Nat.le_of_succ_le_succ h)
      rw [Nat.mul_succ]
      omega
end Fm
namespace Fi
open PySem L2 Evl
theorem rc_maxN {K : PySem.W.Frag} {H : Hp} {p : Addr} {l : List Nat} {m : Nat} (h : SqL K H p (vi l)) (hne : l ≠ []) (h1 : ∀ x, x ∈ l → (∀ y, y ∈ l → y ≤ x) → x = m) : RC (rMax K) [.ref p] H (.int (m : Int)) := fun H1 e Q q =>
  ⟨p, l.map fun (n : Nat) => (n : Int), rfl, by rw [← vi_ints]; exact ex_l e h, by rw [List.length_map]; exact List.length_pos_iff.mpr hne, fun z hz hy => by
    obtain ⟨x, hx, rfl⟩ := List.mem_map.mp hz
    have := h1 x hx fun y hyl => by
      have := hy _ (List.mem_map.mpr ⟨y, hyl, rfl⟩)
      omega
    rw [this]
    exact q H1 (Ex.refl H1)⟩
section
variable {P : Program} {w : World} {K : PySem.W.Frag} {mg : Str → Option Value} {base : Heap} {C cNo : Addr}
/-! ### greedy -/
def spGreedy (C : Addr) : Sp := fun vs H Q _ => ∃ (p : Addr) (es ws : List Nat), vs = [.ref p] ∧ TreeAt C H p es ws ∧ RetP (BestNew H ((Fm.planWorth es ws (Fm.gr es ws 14 1 []) : Int), Fm.gr es ws 14 1 [])) H Q
theorem spp_greedy {H : Hp} {p : Addr} {es ws : List Nat} (h : TreeAt C H p es ws) : SpP (spGreedy C) [.ref p] H (BestNew H ((Fm.planWorth es ws (Fm.gr es ws 14 1 []) : Int), Fm.gr es ws 14 1 [])) := fun H1 e Q q E => ⟨p, es, ws, rfl, h.mono e, fun v H2 e2 b => q v H2 e2 (b.back e)⟩
theorem has_greedy (B : Bi mg) (T : TreeT K mg C) (hat_depth : Has P w K mg base CX0 "at_depth" p_at_depth 3 (spAtD K C)) (hM_below : HasM P w K mg base (L2.CX P w) C "below" p_Tree_below 2 (spBelow C cNo)) (hM_worth_below : HasM P w K mg base (L2.CX P w) C "worth_below" p_Tree_worth_below 3 (spWorthB C cNo))
    (D : At K mg "greedy" s_greedy p_greedy) : Has P w K mg base CX0 "greedy" p_greedy 4 (spGreedy C) := D.has fun f fd F => by
  refine F.ok sc_greedy (fun vs H Q E h => ?_) (fun cdv A outer s H vs Q E hr h => ?_)
  · obtain ⟨p, es, ws, rfl, _⟩ := h
    rfl
  · obtain ⟨p, es, ws, rfl, TA, q⟩ := h
    obtain ⟨⟨dx, a, u, h1, h2, h3⟩, o⟩ := id TA
    have ol := o.len
    have om := o.most
    refine ⟨_, (pss_cons (ps_set (i := 1) sc_greedy.nd rfl (Or.inl rfl) (pe_lst pa_nil))
      (pss_cons (ps_set (i := 2) sc_greedy.nd rfl (Or.inl rfl) (pe_lst pa_nil))
      (pss_cons (ps_set (i := 3) sc_greedy.nd rfl (Or.inl rfl) pe_int)
      (pss_cons (ps_set (i := 4) sc_greedy.nd rfl (Or.inl rfl) (hat_depth.call (hr.mono (by decide)) (by rfl) pass0 (pa_cons (pv 0) (pa_cons pe_int (pa_cons (pv 2) pa_nil)))))
      (pss_cons (ps_while PassesOwn.never (pt_cmpR (op_neDK (K := K) hr.units) (pv 4) (pe_lst pa_nil) (nomark _)) (pss_cons (ps_set (i := 5) sc_greedy.nd rfl (Or.inl rfl) (pe_ix (ix_listK (K := K)) (pv 4) pe_int (fun _ _ => rfl)))
        (pss_cons (ps_for PassesOwn.never rfl (pi_list (pv 4)) (pg_name (i := 6) sc_greedy.nd rfl (Or.inl rfl)) (pss_one (ps_if (pt_cmpR op_gt (hM_worth_below.call T.cl (pv 0) (hr.mono (by decide)) passL (pa_cons (pv 6) pa_nil)) (hM_worth_below.call T.cl (pv 0) (hr.mono (by decide)) passL (pa_cons (pv 5) pa_nil)) (nomark _)) (pss_one (ps_set (i := 5) sc_greedy.nd rfl (Or.inl rfl) (pv 6))) pss_nil)))
        (pss_cons (ps_expr (pe_bm PySem.F.plainAttrs_list PySem.F.slot_list_append PySem.F.type_list_append mt_append (pv 1) (pa_cons (pv 5) pa_nil)))
        (pss_cons (ps_expr (pe_bm PySem.F.plainAttrs_list PySem.F.slot_list_extend PySem.F.type_list_extend mt_extend (pv 2) (pa_cons (hM_below.call T.cl (pv 0) (hr.mono (by decide)) passL (pa_cons (pv 5) pa_nil)) pa_nil)))
        (pss_cons (ps_set (i := 3) sc_greedy.nd rfl (Or.inl rfl) (pe_op op_add (pv 3) (hM_worth_below.call T.cl (pv 0) (hr.mono (by decide)) passL (pa_cons (pv 5) pa_nil))))
        (pss_one (ps_set (i := 4) sc_greedy.nd rfl (Or.inl rfl) (hat_depth.call (hr.mono (by decide)) (by rfl) pass0 (pa_cons (pv 0) (pa_cons (pe_op op_add (pe_callB (call_lenK (K := K)) (by rfl) B.len PySem.boot_len (pa_cons (pv 1) pa_nil)) pe_int) (pa_cons (pv 2) pa_nil))))))))))))
      (pss_one (ps_ret (pe_tup (pa_cons (pv 3) (pa_cons (pv 1) pa_nil)))))))))), ?_⟩
    refine q_asgL (xs := vi []) (el_lst ea_nil (Nat.zero_le _)) fun lp H1 nlp e1 hlp => ?_
    refine q_asgL (xs := vi []) (el_lst ea_nil (Nat.zero_le _)) fun lg H2 nlg e2 hlg => ?_
    refine q_asg (v := .int ((0 : Nat) : Int)) ev_c fun H3 e3 => ?_
    have ne : lp ≠ lg := ne_of_none hlp nlg
    have nlgH : H lg = none := fresh_back e1 nlg
    have e23 := e2.trans e3
    refine q_asgL (xs := vi (Fm.avail es 1 [])) (el_call0 (vs := [.ref p, .int ((1 : Nat) : Int), .ref lg]) (ea_cons (ev_var rfl) (ea_cons ev_c (ea_cons (ev_var rfl) ea_nil))) (spl_atD (TA.mono (e1.trans e23)) (sq_of (xs := vi []) (e3 _ _ hlg)))) fun ls H4 nls e4 hs => ?_
    refine q_while (fun m σ' H' => ∃ (pl : List Nat) (ls : Addr) (v5 v6 : Option V), σ' = [some (.ref p), some (.ref lp), some (.ref lg), some (.int (Fm.planWorth es ws pl : Int)), some (.ref ls), v5, v6] ∧ Ex H H' ∧ H' lp = some (.lst (vi pl)) ∧ H' lg = some (.lst (vi (Fm.goneOf es pl))) ∧ H' ls = some (.lst (vi (Fm.avail es (pl.length + 1) (Fm.goneOf es pl)))) ∧
        pl ++ Fm.gr es ws m (pl.length + 1) (Fm.goneOf es pl) = Fm.gr es ws 14 1 [] ∧ pl.length ≤ es.length ∧ es.length ≤ pl.length + m) 14 ⟨[], ls, none, none, rfl, (e1.trans e23).trans e4, e4 _ _ (e23 _ _ hlp), e4 _ _ (e3 _ _ hlg), hs, rfl, Nat.zero_le _, by show es.length ≤ 0 + 14; omega⟩ ?_
    rintro m σ' H' ⟨pl, ls, v5, v6, rfl, e, hlp, hlg, hs, hgr, hl1, hl2⟩
    refine ⟨_, et_test (ev_neNil (ev_var rfl) (sq_of hs)), fun hb H5 e5 => ⟨fun σ2 H2 => ∃ m', m' < m ∧ _, fun _ _ h => h, ?_⟩, fun hb H5 e5 => ?_⟩
    · have hne : Fm.avail es (pl.length + 1) (Fm.goneOf es pl) ≠ [] := by
        intro h
        rw [h] at hb
        cases hb
      have hdl : pl.length + 1 ≤ es.length := Nat.le_of_not_lt fun c => hne (Fm.avail_deep o.up (by omega) _)
      obtain ⟨m, rfl⟩ : ∃ k, m = k + 1 := ⟨m - 1, by omega⟩
      rw [Fm.gr, if_neg hne] at hgr
      have hpick : Fm.pick (Fm.worth es ws) (Fm.avail es (pl.length + 1) (Fm.goneOf es pl)) = (Fm.avail es (pl.length + 1) (Fm.goneOf es pl)).foldl (fun b t => if Fm.worth es ws b < Fm.worth es ws t then t else b) ((Fm.avail es (pl.length + 1) (Fm.goneOf es pl)).getD 0 0) := rfl
      have hpm := Fm.pick_mem (Fm.worth es ws) hne
      have hin : ∀ t ∈ Fm.avail es (pl.length + 1) (Fm.goneOf es pl), t < ws.length := fun t ht => by have := (Fm.mem_avail.mp ht).1; omega
      generalize Fm.avail es (pl.length + 1) (Fm.goneOf es pl) = av at *
      have hpos : 0 < av.length := List.length_pos_iff.mpr hne
      have E5 := e.trans e5
      refine q_asg (v := .int ((av.getD 0 0 : Nat) : Int)) (ev_opIx (ev_var rfl) ev_c (sq_of (e5 _ _ hs)) (vi_at (j := 0) rfl (getD_get hpos))) fun H6 e6 => ?_
      have E6 := E5.trans e6
      refine q_forLn (xs := vi av) (ev_var rfl) (sq_of (e6 _ _ (e5 _ _ hs))) (fun i σ' H' => ∃ (b : Nat) (v6 : Option V), σ' = [some (.ref p), some (.ref lp), some (.ref lg), some (.int (Fm.planWorth es ws pl : Int)), some (.ref ls), some (.int (b : Int)), v6] ∧ Ex H6 H' ∧ b = (av.take i).foldl (fun b t => if Fm.worth es ws b < Fm.worth es ws t then t else b) (av.getD 0 0) ∧ b ∈ av)
        (fun H7 e7 => ⟨_, _, rfl, e7, rfl, List.mem_of_getElem? (getD_get hpos)⟩) (fun i σ' H' _ ⟨_, _, _, k, _⟩ => sq_of (k _ _ (e6 _ _ (e5 _ _ hs)))) ?_ ?_
      · rintro i x σ' H7 hi ⟨b, v6, rfl, e7, hbf, hbm⟩
        obtain ⟨t, ht, rfl⟩ := vi_get_of hi
        have htm := List.mem_of_getElem? ht
        have E7 := E6.trans e7
        have htk : av.take (i + 1) = av.take i ++ [t] := by
          rw [List.take_succ, ht]
          rfl
        refine s_when (b := decide ((Fm.worth es ws b : Int) < (Fm.worth es ws t : Int))) (et_test (ev_op (ev_meth (ev_var rfl) (E7 _ _ h1) (flds_no a u (by decide +kernel) (by decide +kernel)) (ea_cons (ev_var rfl) ea_nil) (spv_worthB (TA.mono E7) (hin t htm))) (ev_meth (ev_var rfl) (E7 _ _ h1) (flds_no a u (by decide +kernel) (by decide +kernel)) (ea_cons (ev_var rfl) ea_nil) (spv_worthB (TA.mono E7) (hin b hbm))) rv_I0)) (fun hc H8 e8 => ?_) (fun hc H8 e8 => ?_)
        · have hc := of_decide_eq_true hc
          refine s_asg (ev_var rfl) fun H9 e9 => ⟨t, _, rfl, (e7.trans e8).trans e9, ?_, htm⟩
          rw [htk, List.foldl_append, ← hbf]
          exact (if_pos (by omega)).symm
        · have hc := of_decide_eq_false hc
          refine ⟨b, _, rfl, e7.trans e8, ?_, hbm⟩
          rw [htk, List.foldl_append, ← hbf]
          exact (if_neg (by omega)).symm
      · rintro σ' H7 ⟨b, v6, rfl, e7, hbf, hbm⟩
        rw [vi_len, List.take_length, ← hpick] at hbf
        subst hbf
        generalize Fm.pick (Fm.worth es ws) av = t at *
        have htl := hin t hpm
        have E7 := E6.trans e7
        have k7 : ∀ b ob, H' b = some ob → H7 b = some ob := fun b ob h => e7 _ _ (e6 _ _ (e5 _ _ h))
        refine q_app (v := .int (t : Int)) (k7 _ _ hlp) (ev_var rfl) (ev_var rfl) (by rw [vi_len]; omega) fun H8 e8 => ?_
        have E8 : Ex H (upd H8 lp (.lst (vi pl ++ [.int (t : Int)]))) := Ex.mut (E7.trans e8) nlp
        have hlp8 : (upd H8 lp (.lst (vi pl ++ [.int (t : Int)]))) lp = some (.lst (vi (pl ++ [t]))) := by rw [upd_same, vi_app]; rfl
        have hlg8 : (upd H8 lp (.lst (vi pl ++ [.int (t : Int)]))) lg = some (.lst (vi (Fm.goneOf es pl))) := by rw [upd_ne ne.symm]; exact e8 _ _ (k7 _ _ hlg)
        generalize upd H8 lp (.lst (vi pl ++ [.int (t : Int)])) = H9 at E8 hlp8 hlg8
        have gl := Fm.goneOf_len (es := es) (n := 14) (l := pl) (by omega)
        have bl := Fm.below_len es t
        have g14 : (es.length + 1) * 14 ≤ 14 * 14 := Nat.mul_le_mul (by omega) (Nat.le_refl _)
        refine q_extN hlg8 (ev_var rfl) (el_meth (ev_var rfl) (E8 _ _ h1) (flds_no a u (by decide +kernel) (by decide +kernel)) (ea_cons (ev_var rfl) ea_nil) (spl_below (TA.mono E8) htl)) (by rw [vi_len, vi_len]; omega) fun H10 e10 => ?_
        have E11 : Ex H (upd H10 lg (.lst (vi (Fm.goneOf es pl) ++ vi (Fm.below es t)))) := Ex.mut (E8.trans e10) nlgH
        have hlp11 : (upd H10 lg (.lst (vi (Fm.goneOf es pl) ++ vi (Fm.below es t)))) lp = some (.lst (vi (pl ++ [t]))) := by rw [upd_ne ne]; exact e10 _ _ hlp8
        have hlg11 : (upd H10 lg (.lst (vi (Fm.goneOf es pl) ++ vi (Fm.below es t)))) lg = some (.lst (vi (Fm.goneOf es (pl ++ [t])))) := by rw [upd_same, Fm.goneOf_snoc, vi_app]
        generalize upd H10 lg (.lst (vi (Fm.goneOf es pl) ++ vi (Fm.below es t))) = H11 at E11 hlp11 hlg11
        refine q_asg (v := .int (Fm.planWorth es ws (pl ++ [t]) : Int)) (ev_is (ev_op (ev_var rfl) (ev_meth (ev_var rfl) (E11 _ _ h1) (flds_no a u (by decide +kernel) (by decide +kernel)) (ea_cons (ev_var rfl) ea_nil) (spv_worthB (TA.mono E11) htl)) rv_I0) (by rw [Fm.planWorth_snoc]; rfl)) fun H12 e12 => ?_
        have E12 := E11.trans e12
        refine s_asgL (xs := vi (Fm.avail es ((pl ++ [t]).length + 1) (Fm.goneOf es (pl ++ [t])))) (el_call0 (vs := [.ref p, .int (((pl ++ [t]).length + 1 : Nat) : Int), .ref lg]) (ea_cons (ev_var rfl) (ea_cons (ev_is (ev_op (ev_lenS (ev_var rfl) (sq_of (e12 _ _ hlp11))) ev_c rv_I0) (by rw [vi_len]; rfl)) (ea_cons (ev_var rfl) ea_nil))) (spl_atD (TA.mono E12) (sq_of (e12 _ _ hlg11)))) fun ls2 H13 nls2 e13 hs2 => ?_
        refine ⟨m, Nat.lt_succ_self m, pl ++ [t], ls2, _, _, rfl, E12.trans e13, e13 _ _ (e12 _ _ hlp11), e13 _ _ (e12 _ _ hlg11), hs2, ?_, by rw [List.length_append]; exact hdl, by rw [List.length_append]; show _ ≤ _ + 1 + _; omega⟩
        rw [← hgr, Fm.goneOf_snoc, List.append_assoc, List.length_append]
        rfl
    · have hnil : Fm.avail es (pl.length + 1) (Fm.goneOf es pl) = [] := by
        cases hd : decide (Fm.avail es (pl.length + 1) (Fm.goneOf es pl) = []) with
        | true => exact of_decide_eq_true hd
        | false => rw [hd] at hb; cases hb
      rw [Fm.gr_done hnil, List.append_nil] at hgr
      rw [← hgr] at q
      refine s_retU (eu_tup (ea_cons (ev_var rfl) (ea_cons (ev_var rfl) ea_nil)) (by show 2 ≤ 100000; decide)) fun t H6 nt e6 ht => q _ H6 ((e.trans e5).trans e6) ⟨t, lp, rfl, nlp, ht, e6 _ _ (e5 _ _ hlp)⟩
/-! ### ceiling -/
def spCeil (C : Addr) : Sp := fun vs H Q _ => ∃ (p : Addr) (es ws : List Nat), vs = [.ref p] ∧ TreeAt C H p es ws ∧ RetV (.int (Fm.tops es ws 1 14 : Int)) H Q
theorem spv_ceil {H : Hp} {p : Addr} {es ws : List Nat} (h : TreeAt C H p es ws) : SpV (spCeil C) [.ref p] H (.int (Fm.tops es ws 1 14 : Int)) := fun H1 e Q q E => ⟨p, es, ws, rfl, h.mono e, q⟩
theorem has_ceil (B : Bi mg) (T : TreeT K mg C) (hat_depth : Has P w K mg base CX0 "at_depth" p_at_depth 3 (spAtD K C)) (hM_worth_below : HasM P w K mg base (L2.CX P w) C "worth_below" p_Tree_worth_below 3 (spWorthB C cNo))
    (D : At K mg "ceiling" s_ceiling p_ceiling) : Has P w K mg base CX0 "ceiling" p_ceiling 4 (spCeil C) := D.has fun f fd F => by
  refine F.ok sc_ceiling (fun vs H Q E h => ?_) (fun cdv A outer s H vs Q E hr h => ?_)
  · obtain ⟨p, es, ws, rfl, _⟩ := h
    rfl
  · obtain ⟨p, es, ws, rfl, TA, q⟩ := h
    obtain ⟨⟨dx, a, u, h1, h2, h3⟩, o⟩ := id TA
    have ol := o.len
    have om := o.most
    refine ⟨_, (pss_cons (ps_set (i := 1) sc_ceiling.nd rfl (Or.inl rfl) pe_int)
      (pss_cons (ps_set (i := 2) sc_ceiling.nd rfl (Or.inl rfl) (hat_depth.call (hr.mono (by decide)) (by rfl) pass0 (pa_cons (pv 0) (pa_cons pe_int (pa_cons (pe_lst pa_nil) pa_nil)))))
      (pss_cons (ps_set (i := 3) sc_ceiling.nd rfl (Or.inl rfl) pe_int)
      (pss_cons (ps_while PassesOwn.never (pt_cmpR (op_neDK (K := K) hr.units) (pv 2) (pe_lst pa_nil) (nomark _)) (pss_cons (ps_set (i := 1) sc_ceiling.nd rfl (Or.inl rfl) (pe_op op_add (pv 1) (pe_callB (cr_maxK (K := K) rfl) (by rfl) B.max (by decide +kernel) (pa_cons (pe_lc (own := [("thing", 4)]) (g := gName 4) rfl sc_ceiling.nd (pi_list (pv 2)) (blkOk_by (own := [("thing", 4)]) (N := n_ceiling) (sc := defScope s_ceiling) (by decide +kernel)) (fun _ _ _ _ _ => pg_name (i := 4) sc_ceiling.nd rfl (Or.inl rfl)) (fun _ _ _ _ _ => pts_nil) (fun _ _ _ _ _ => (hM_worth_below.call T.cl (pv 0) (hr.mono (by decide)) passL (pa_cons (pv 4) pa_nil)))) pa_nil))))
        (pss_cons (ps_set (i := 3) sc_ceiling.nd rfl (Or.inl rfl) (pe_op op_add (pv 3) pe_int))
        (pss_one (ps_set (i := 2) sc_ceiling.nd rfl (Or.inl rfl) (hat_depth.call (hr.mono (by decide)) (by rfl) pass0 (pa_cons (pv 0) (pa_cons (pv 3) (pa_cons (pe_lst pa_nil) pa_nil)))))))))
      (pss_one (ps_ret (pv 1))))))), ?_⟩
    refine q_asg (v := .int ((0 : Nat) : Int)) ev_c fun H1 e1 => ?_
    refine q_asgL (xs := vi (Fm.avail es 1 [])) (el_call3L (y := .int ((1 : Nat) : Int)) (xs := vi []) (ev_var rfl) ev_c (el_lst ea_nil (Nat.zero_le _)) fun pg H5 hpg e5 => spl_atD (TA.mono (e1.trans e5)) (sq_of hpg)) fun ls H2 nls e2 hs => ?_
    refine q_asg (v := .int ((0 + 1 : Nat) : Int)) ev_c fun H3 e3 => ?_
    refine q_while (fun m σ' H' => ∃ (k : Nat) (ls : Addr), σ' = [some (.ref p), some (.int (Fm.tops es ws 1 k : Int)), some (.ref ls), some (.int ((k + 1 : Nat) : Int)), none] ∧ Ex H H' ∧ H' ls = some (.lst (vi (Fm.avail es (k + 1) []))) ∧ k ≤ es.length ∧ k + m = es.length) es.length ⟨0, ls, rfl, (e1.trans e2).trans e3, e3 _ _ hs, Nat.zero_le _, Nat.zero_add _⟩ ?_
    rintro m σ' H' ⟨k, ls, rfl, e, hs, hk, hkm⟩
    refine ⟨_, et_test (ev_neNil (ev_var rfl) (sq_of hs)), fun hb H5 e5 => ⟨fun σ2 H2 => ∃ m', m' < m ∧ _, fun _ _ h => h, ?_⟩, fun hb H5 e5 => ?_⟩
    · have hne : Fm.avail es (k + 1) [] ≠ [] := by
        intro h
        rw [h] at hb
        cases hb
      have hdl : k + 1 ≤ es.length := Nat.le_of_not_lt fun c => hne (Fm.avail_deep o.up (by omega) _)
      have hlen := Fm.avail_len es (k + 1) []
      have E5 := e.trans e5
      refine q_asg (v := .int (Fm.tops es ws 1 (k + 1) : Int)) (ev_is (ev_op (ev_var rfl) (ev_cbL (el_lcLv (l := Fm.avail es (k + 1) []) (Fm.worth es ws) (ev_var rfl) (sq_of (e5 _ _ hs)) (by omega) (fun x => rfl) fun t H6 e6 ht => ?_) fun pm H6 hpm e6 => rc_maxN (m := Fm.md es ws (k + 1)) (sq_of hpm) (by intro h; exact hne (List.map_eq_nil_iff.mp h)) fun x hx hy => Fm.md_is hx hy) rv_I0) (by rw [Fm.tops_snoc, Nat.add_comm 1 k]; rfl)) fun H6 e6 => ?_
      · exact ev_meth (ev_var rfl) (e6 _ _ (E5 _ _ h1)) (flds_no a u (by decide +kernel) (by decide +kernel)) (ea_cons (ev_var rfl) ea_nil) (spv_worthB (TA.mono (E5.trans e6)) (by have := (Fm.mem_avail.mp ht).1; omega))
      · refine q_asg (v := .int ((k + 1 + 1 : Nat) : Int)) (ev_op (ev_var rfl) ev_c rv_I0) fun H7 e7 => ?_
        have E7 := (E5.trans e6).trans e7
        refine s_asgL (xs := vi (Fm.avail es (k + 1 + 1) [])) (el_call3L (xs := vi []) (ev_var rfl) (ev_var rfl) (el_lst ea_nil (Nat.zero_le _)) fun pg H8 hpg e8 => spl_atD (TA.mono (E7.trans e8)) (sq_of hpg)) fun ls2 H8 nls2 e8 hs2 => ⟨m - 1, by omega, k + 1, ls2, rfl, E7.trans e8, hs2, hdl, by omega⟩
    · have hnil : Fm.avail es (k + 1) [] = [] := by
        cases hd : decide (Fm.avail es (k + 1) [] = []) with
        | true => exact of_decide_eq_true hd
        | false => rw [hd] at hb; cases hb
      have ht := Fm.tops_end (ws := ws) o.up hnil (14 - k)
      rw [show k + (14 - k) = 14 by omega] at ht
      rw [ht] at q
      exact s_ret (ev_var rfl) fun H6 e6 => q H6 ((e.trans e5).trans e6)
end
end Fi
/-! _law_greedy. -/
namespace Fi
open PySem L2 Evl
section
variable {K : PySem.W.Frag} {σ : L2.St} {H : Hp} {ta tb te : TE} {x y z : V}
/-- xs.index(max(xs)): the first of the greatest -/
theorem ev_idxMax {p : Addr} {l : List Nat} {j m : Nat} (ha : Ev ta σ H (.ref p)) (hb : Ev tb σ H (.ref p)) (h : SqL K H p (vi l)) (hj : l[j]? = some m) (hmax : ∀ y ∈ l, y ≤ m) (hfirst : ∀ (i y : Nat), i < j → l[i]? = some y → y ≠ m) :
    Ev (tBM K "list" (rIndex K) ta (tCons (tCB (rMax K) (tCons tb tNil)) tNil)) σ H (.int (j : Int)) := fun H1 e Q q =>
  ha H1 e _ fun H2 e2 => ⟨Or.inl ⟨rfl, _, ex_l (e.trans e2) h⟩, (ev_cb (ea_cons hb ea_nil) (rc_maxN (m := m) h (fun hn => by rw [hn] at hj; cases hj) fun x hx hy => Nat.le_antisymm (hmax x hx) (hy m (List.mem_of_getElem? hj)))) H2 (e.trans e2) _ fun H3 e3 =>
    ⟨p, vi l, .int (m : Int), j, .int (m : Int), rfl, rfl, ex_l ((e.trans e2).trans e3) h, rfl, vi_flat l, vi_get hj, by rw [eqV_nat]; exact decide_eq_true rfl, fun i z' hi hz => by
      obtain ⟨y, hy, rfl⟩ := vi_get_of hz
      rw [eqV_nat]
      exact decide_eq_false (hfirst i y hi hy), q H3 (e2.trans e3)⟩⟩
theorem vi_last {l : List Nat} {n : Nat} : atI (vi (l ++ [n])) (-1) = some (V.int (n : Int)) := by
  have hl : (vi (l ++ [n])).length = l.length + 1 := by rw [vi_len, List.length_append]; rfl
  unfold atI ixN
  rw [hl, if_neg (by decide), if_pos (by omega)]
  show (vi (l ++ [n]))[(-1 + ((l.length + 1 : Nat) : Int)).toNat]? = _
  rw [show (-1 + ((l.length + 1 : Nat) : Int)).toNat = l.length by omega]
  exact vi_get (by rw [List.getElem?_append_right (Nat.le_refl _), Nat.sub_self]; rfl)
end
section
variable {P : Program} {w : World} {K : PySem.W.Frag} {mg : Str → Option Value} {base : Heap}
def spLGreedy (K : PySem.W.Frag) : Sp := fun vs H Q _ => ∃ (p : Addr) (es ws : List Nat), vs = [.ref p] ∧ PlotAt H p es ws ∧ Fm.OkT es ws ∧ RetL (vi (Fm.gr es ws 14 1 [])) H Q
theorem spl_lgreedy {H : Hp} {p : Addr} {es ws : List Nat} (h : PlotAt H p es ws) (o : Fm.OkT es ws) : SpL (spLGreedy K) [.ref p] H (vi (Fm.gr es ws 14 1 [])) := fun H1 e Q q E => ⟨p, es, ws, rfl, h.mono e, o, q⟩
theorem has_lgreedy (B : Bi mg) (h_law_free : Has P w K mg base CX0 "_law_free" p__law_free 2 (spFree K)) (h_law_below : Has P w K mg base CX0 "_law_below" p__law_below 1 (spLBelow K)) (h_law_worth : Has P w K mg base CX0 "_law_worth" p__law_worth 2 (spLWorth K))
    (D : At K mg "_law_greedy" s__law_greedy p__law_greedy) : Has P w K mg base CX0 "_law_greedy" p__law_greedy 3 (spLGreedy K) := D.has fun f fd F => by
  refine F.ok sc__law_greedy (fun vs H Q E h => ?_) (fun cdv A outer s H vs Q E hr h => ?_)
  · obtain ⟨p, es, ws, rfl, _⟩ := h
    rfl
  · obtain ⟨p, es, ws, rfl, hP, o, q⟩ := h
    obtain ⟨pe, pw, hp, hpe, hpw⟩ := id hP
    have ol := o.len
    have om := o.most
    refine ⟨_, (pss_cons (ps_set (i := 1) sc__law_greedy.nd rfl (Or.inl rfl) (pe_lst pa_nil))
      (pss_cons (ps_set (i := 2) sc__law_greedy.nd rfl (Or.inl rfl) (pe_lst pa_nil))
      (pss_cons (ps_set (i := 3) sc__law_greedy.nd rfl (Or.inl rfl) (h_law_free.call (hr.mono (by decide)) (by rfl) pass0 (pa_cons (pe_ix (ix_tupK (K := K)) (pv 0) pe_int (fun _ _ => rfl)) (pa_cons pe_int (pa_cons (pv 2) pa_nil)))))
      (pss_cons (ps_while PassesOwn.never (pt_cmpR (op_neDK (K := K) hr.units) (pv 3) (pe_lst pa_nil) (nomark _)) (pss_cons (ps_setLc (i := 4) (own := [("thing", 5)]) (g := gName 5) rfl sc__law_greedy.nd rfl rfl (sw_true rfl rfl rfl (by decide +kernel)) (pi_list (pv 3)) (blkOk_by (own := [("thing", 5)]) (N := n__law_greedy) (sc := defScope s__law_greedy) (by decide +kernel)) (fun _ _ _ _ _ => pg_name (i := 5) sc__law_greedy.nd rfl (Or.inl rfl)) (fun _ _ _ _ _ => pts_nil) (fun _ _ _ _ _ => (h_law_worth.call (hr.mono (by decide)) (by rfl) pass0 (pa_cons (pv 0) (pa_cons (pv 5) pa_nil)))))
        (pss_cons (ps_expr (pe_bm PySem.F.plainAttrs_list PySem.F.slot_list_append PySem.F.type_list_append mt_append (pv 1) (pa_cons (pe_ix (ix_listK (K := K)) (pv 3) (pe_bm PySem.F.plainAttrs_list PySem.F.slot_list_index PySem.F.type_list_index (mt_indexK (K := K)) (pv 4) (pa_cons (pe_callB (cr_maxK (K := K) rfl) (by rfl) B.max (by decide +kernel) (pa_cons (pv 4) pa_nil)) pa_nil)) (fun _ _ => rfl)) pa_nil)))
        (pss_cons (ps_set (i := 2) sc__law_greedy.nd rfl (Or.inl rfl) (pe_op op_cat (pv 2) (h_law_below.call (hr.mono (by decide)) (by rfl) pass0 (pa_cons (pe_ix (ix_tupK (K := K)) (pv 0) pe_int (fun _ _ => rfl)) (pa_cons (pe_ix (ix_listK (K := K)) (pv 1) (pe_un un_neg pe_int) (fun _ _ => rfl)) pa_nil)))))
        (pss_one (ps_set (i := 3) sc__law_greedy.nd rfl (Or.inl rfl) (h_law_free.call (hr.mono (by decide)) (by rfl) pass0 (pa_cons (pe_ix (ix_tupK (K := K)) (pv 0) pe_int (fun _ _ => rfl)) (pa_cons (pe_op op_add (pe_callB (call_lenK (K := K)) (by rfl) B.len PySem.boot_len (pa_cons (pv 1) pa_nil)) pe_int) (pa_cons (pv 2) pa_nil))))))))))
      (pss_one (ps_ret (pv 1))))))), ?_⟩
    refine q_asgL (xs := vi []) (el_lst ea_nil (Nat.zero_le _)) fun lp H1 nlp e1 hlp => ?_
    refine q_asgL (xs := vi []) (el_lst ea_nil (Nat.zero_le _)) fun lg H2 nlg e2 hlg => ?_
    have e12 := e1.trans e2
    refine q_asgL (xs := vi (Fm.avail es 1 [])) (el_call0 (vs := [.ref pe, .int ((1 : Nat) : Int), .ref lg]) (ea_cons (ev_opIxT (ev_var rfl) ev_c (st_of (e12 _ _ hp)) rfl) (ea_cons ev_c (ea_cons (ev_var rfl) ea_nil))) (spl_free (sq_of (e12 _ _ hpe)) o.up (by omega) (sq_of hlg))) fun ls H4 nls e4 hs => ?_
    refine q_while (fun m σ' H' => ∃ (pl : List Nat) (lg ls : Addr) (v4 : Option V), σ' = [some (.ref p), some (.ref lp), some (.ref lg), some (.ref ls), v4, none] ∧ Ex H H' ∧ H' lp = some (.lst (vi pl)) ∧ (lp ≠ lg ∧ lp ≠ ls) ∧ H' lg = some (.lst (vi (Fm.goneOf es pl))) ∧ H' ls = some (.lst (vi (Fm.avail es (pl.length + 1) (Fm.goneOf es pl)))) ∧
        pl ++ Fm.gr es ws m (pl.length + 1) (Fm.goneOf es pl) = Fm.gr es ws 14 1 [] ∧ pl.length ≤ es.length ∧ es.length ≤ pl.length + m) 14 ⟨[], lg, ls, none, rfl, e12.trans e4, e4 _ _ (e2 _ _ hlp), ⟨ne_of_none hlp nlg, ne_of_none (e2 _ _ hlp) nls⟩, e4 _ _ hlg, hs, rfl, Nat.zero_le _, by show es.length ≤ 0 + 14; omega⟩ ?_
    rintro m σ' H' ⟨pl, lg, ls, v4, rfl, e, hlp, ⟨n1, n2⟩, hlg, hs, hgr, hl1, hl2⟩
    refine ⟨_, et_test (ev_neNil (ev_var rfl) (sq_of hs)), fun hb H5 e5 => ⟨fun σ2 H2 => ∃ m', m' < m ∧ _, fun _ _ h => h, ?_⟩, fun hb H5 e5 => ?_⟩
    · have hne : Fm.avail es (pl.length + 1) (Fm.goneOf es pl) ≠ [] := by
        intro h
        rw [h] at hb
        cases hb
      have hdl : pl.length + 1 ≤ es.length := Nat.le_of_not_lt fun c => hne (Fm.avail_deep o.up (by omega) _)
      obtain ⟨m, rfl⟩ : ∃ k, m = k + 1 := ⟨m - 1, by omega⟩
      rw [Fm.gr, if_neg hne] at hgr
      obtain ⟨j, j1, j2, j3⟩ := Fm.pick_first (Fm.worth es ws) hne
      have hal := Fm.avail_len es (pl.length + 1) (Fm.goneOf es pl)
      generalize Fm.pick (Fm.worth es ws) (Fm.avail es (pl.length + 1) (Fm.goneOf es pl)) = t at *
      generalize Fm.avail es (pl.length + 1) (Fm.goneOf es pl) = av at *
      have E5 := e.trans e5
      refine q_asgL (el_lcLv (l := av) (Fm.worth es ws) (ev_var rfl) (sq_of (e5 _ _ hs)) (by omega) (fun x => rfl) fun n H6 e6 hn => ev_call0 (ea_cons (ev_var rfl) (ea_cons (ev_var rfl) ea_nil)) (spv_lworth (hP.mono (E5.trans e6)) o)) fun lw H6 nlw e6 hw => ?_
      have E6 := E5.trans e6
      refine q_app (v := .int (t : Int)) (e6 _ _ (e5 _ _ hlp)) (ev_var rfl) (ev_opIx (ev_var rfl) (ev_idxMax (j := j) (m := Fm.worth es ws t) (ev_var rfl) (ev_var rfl) (sq_of hw) (by rw [List.getElem?_map, j1]; rfl) (fun y hy => by obtain ⟨u, hu, rfl⟩ := List.mem_map.mp hy; exact j2 u hu) (fun i y hi hy => by
        rw [List.getElem?_map] at hy
        cases hu : av[i]? with
        | none => rw [hu] at hy; cases hy
        | some u =>
          rw [hu] at hy
          cases hy
          exact Nat.ne_of_lt (j3 i u hi hu))) (sq_of (e6 _ _ (e5 _ _ hs))) (vi_at rfl j1)) (by rw [vi_len]; omega) fun H7 e7 => ?_
      have E8 : Ex H (upd H7 lp (.lst (vi pl ++ [.int (t : Int)]))) := Ex.mut (E6.trans e7) nlp
      have hlp8 : (upd H7 lp (.lst (vi pl ++ [.int (t : Int)]))) lp = some (.lst (vi (pl ++ [t]))) := by rw [upd_same, vi_app]; rfl
      have hlg8 : (upd H7 lp (.lst (vi pl ++ [.int (t : Int)]))) lg = some (.lst (vi (Fm.goneOf es pl))) := by rw [upd_ne n1.symm]; exact e7 _ _ (e6 _ _ (e5 _ _ hlg))
      generalize upd H7 lp (.lst (vi pl ++ [.int (t : Int)])) = H8 at E8 hlp8 hlg8
      have gl := Fm.goneOf_len (es := es) (n := 14) (l := pl) (by omega)
      have bl := Fm.below_len es t
      have g14 : (es.length + 1) * 14 ≤ 14 * 14 := Nat.mul_le_mul (by omega) (Nat.le_refl _)
      refine q_asgL (xs := vi (Fm.goneOf es (pl ++ [t]))) (el_is (el_catVN (ev_var rfl) hlg8 (el_call0 (ea_cons (ev_opIxT (ev_var rfl) ev_c (st_of (E8 _ _ hp)) rfl) (ea_cons (ev_opIx (ev_var rfl) (ev_un ev_c ru_neg) (sq_of hlp8) vi_last) ea_nil)) (spl_lbelow (sq_of (E8 _ _ hpe)) o.up (by omega))) (by rw [vi_len, vi_len]; omega)) (by rw [Fm.goneOf_snoc, vi_app])) fun lg2 H9 nlg2 e9 hlg9 => ?_
      have E9 := E8.trans e9
      refine s_asgL (xs := vi (Fm.avail es ((pl ++ [t]).length + 1) (Fm.goneOf es (pl ++ [t])))) (el_call0 (vs := [.ref pe, .int (((pl ++ [t]).length + 1 : Nat) : Int), .ref lg2]) (ea_cons (ev_opIxT (ev_var rfl) ev_c (st_of (E9 _ _ hp)) rfl) (ea_cons (ev_is (ev_op (ev_lenS (ev_var rfl) (sq_of (e9 _ _ hlp8))) ev_c rv_I0) (by rw [vi_len]; rfl)) (ea_cons (ev_var rfl) ea_nil))) (spl_free (sq_of (E9 _ _ hpe)) o.up (by omega) (sq_of hlg9))) fun ls2 H10 nls2 e10 hs2 => ?_
      refine ⟨m, Nat.lt_succ_self m, pl ++ [t], lg2, ls2, _, rfl, E9.trans e10, e10 _ _ (e9 _ _ hlp8), ⟨ne_of_none hlp8 nlg2, ne_of_none (e9 _ _ hlp8) nls2⟩, e10 _ _ hlg9, hs2, ?_, by rw [List.length_append]; exact hdl, by rw [List.length_append]; show _ ≤ _ + 1 + _; omega⟩
      rw [← hgr, Fm.goneOf_snoc, List.append_assoc, List.length_append]
      rfl
    · have hnil : Fm.avail es (pl.length + 1) (Fm.goneOf es pl) = [] := by
        cases hd : decide (Fm.avail es (pl.length + 1) (Fm.goneOf es pl) = []) with
        | true => exact of_decide_eq_true hd
        | false => rw [hd] at hb; cases hb
      rw [Fm.gr_done hnil, List.append_nil] at hgr
      rw [← hgr] at q
      exact s_ret (ev_var rfl) fun H6 e6 => q lp H6 nlp ((e.trans e5).trans e6) (e6 _ _ (e5 _ _ hlp))
end
end Fi
/-! The law of the greedy plan and the ceiling. -/
namespace Fi
open PySem L2 Evl
section
variable {K : PySem.W.Frag} {σ : L2.St} {H : Hp} {ta tb te : TE} {x y z : V}
theorem ev_ixP {P : V → Hp → Prop} {i : Int} (h : EvP te σ H P) (k : ∀ v H2, P v H2 → ∃ t xs, v = .ref t ∧ H2 t = some (.tup xs) ∧ atI xs i = some z) : Ev (tOp (rIxT K) te (tC (.int i))) σ H z := fun H1 e Q q =>
  h H1 e _ fun v H2 e2 p => by
    obtain ⟨t, xs, rfl, h1, h2⟩ := k v H2 p
    exact ⟨t, xs, i, z, rfl, rfl, st_of h1, h2, q H2 e2⟩
/-- max(a new list, default=0) -/
theorem ev_maxDef {l : List Nat} {m : Nat} (h : EvL ta σ H (vi l)) (h0 : l = [] → m = 0) (h1 : ∀ x, x ∈ l → (∀ y, y ∈ l → y ≤ x) → x = m) : Ev (tCKw (rMaxDef K) (tCons ta tNil) (tCons (tC (.int 0)) tNil)) σ H (.int (m : Int)) := fun H1 e Q q =>
  h H1 e _ fun p H2 hp e2 h2 => ⟨p, l.map fun (n : Nat) => (n : Int), 0, rfl, rfl, by rw [← vi_ints]; exact sq_of h2, fun hn => by
    have := h0 (List.map_eq_nil_iff.mp hn)
    subst this
    exact q H2 e2, fun z hz hy => by
    obtain ⟨x, hx, rfl⟩ := List.mem_map.mp hz
    have := h1 x hx fun y hyl => by
      have := hy _ (List.mem_map.mpr ⟨y, hyl, rfl⟩)
      omega
    rw [this]
    exact q H2 e2⟩
end
section
variable {P : Program} {w : World} {K : PySem.W.Frag} {mg : Str → Option Value} {base : Heap} {C cBad cNo cPlan : Addr}
def spLaw (K : PySem.W.Frag) : Sp := fun vs H Q _ => ∃ (a : Addr) (ns : List Int), vs = [.ref a] ∧ SqL K H a (ns.map V.int) ∧ ns.length ≤ 63 ∧ ∀ H', Q (.bl true) H'
theorem ok_law (B : Bi mg) (T : TreeT K mg C) (hgreatest : Has P w K mg base CX0 "greatest" p_greatest 19 (spGreat C)) (hgreedy : Has P w K mg base CX0 "greedy" p_greedy 4 (spGreedy C)) (hceiling : Has P w K mg base CX0 "ceiling" p_ceiling 4 (spCeil C)) (hsaved : Has P w K mg base (L2.CX P w) "saved" p_saved 3 (spSaved K C cNo cPlan)) (hI_Tree : HasI P w K mg base (L2.CX P w) C p_Tree___init__ 1 (spInit K C cBad))
    (h_law_tree : Has P w K mg base CX0 "_law_tree" p__law_tree 4 (spPlot K)) (h_law_whole : Has P w K mg base CX0 "_law_whole" p__law_whole 1 spWhole) (h_law_worth : Has P w K mg base CX0 "_law_worth" p__law_worth 2 (spLWorth K)) (h_law_free : Has P w K mg base CX0 "_law_free" p__law_free 2 (spFree K))
    (h_law_greedy : Has P w K mg base CX0 "_law_greedy" p__law_greedy 3 (spLGreedy K)) (h_law_numbers : Has P w K mg base CX0 "_law_numbers" p__law_numbers 2 (spNumbers K)) :
    ∀ f fd, Fun K "law" "law" s_law f fd → FnOk P w K mg base CX0 20 f fd p_law (spLaw K) := fun f fd F => by
  refine F.ok sc_law (fun vs H Q E h => ?_) (fun cdv A outer s H vs Q E hr h => ?_)
  · obtain ⟨a, ns, rfl, _⟩ := h
    rfl
  · obtain ⟨sa, ns, rfl, hS, _, q⟩ := h
    refine ⟨_, (pss_cons (ps_set (i := 1) sc_law.nd rfl (Or.inr rfl) (h_law_tree.call (hr.mono (by decide)) (by rfl) pass0 (pa_cons (pv 0) (pa_cons pe_int pa_nil))))
      (pss_cons (ps_set (i := 2) sc_law.nd rfl (Or.inl rfl) (hI_Tree.make (hr.mono (by decide)) (by rfl) T.g passL (pa_cons (pe_callTy (call_listK (K := K)) (by rfl) B.list (by decide +kernel) (pa_cons (pe_ix (ix_tupK (K := K)) (pv 1) pe_int (fun _ _ => rfl)) pa_nil)) (pa_cons (pe_callTy (call_listK (K := K)) (by rfl) B.list (by decide +kernel) (pa_cons (pe_ix (ix_tupK (K := K)) (pv 1) pe_int (fun _ _ => rfl)) pa_nil)) pa_nil))))
      (pss_cons (ps_set (i := 3) sc_law.nd rfl (Or.inl rfl) (h_law_greedy.call (hr.mono (by decide)) (by rfl) pass0 (pa_cons (pv 1) pa_nil)))
      (pss_cons (ps_set (i := 4) sc_law.nd rfl (Or.inl rfl) (pe_callB (cr_sumK (K := K) rfl) (by rfl) B.sum (by decide +kernel) (pa_cons (pe_lc (own := [("thing", 12)]) (g := gName 12) rfl sc_law.nd (pi_list (pv 3)) (blkOk_by (own := [("thing", 12)]) (N := n_law) (sc := defScope s_law) (by decide +kernel)) (fun _ _ _ _ _ => pg_name (i := 12) sc_law.nd rfl (Or.inl rfl)) (fun _ _ _ _ _ => pts_nil) (fun _ _ _ _ _ => (h_law_worth.call (hr.mono (by decide)) (by rfl) pass0 (pa_cons (pv 1) (pa_cons (pv 12) pa_nil))))) pa_nil)))
      (pss_cons (ps_for PassesOwn.never rfl (pi_range1 (by rfl) B.range (pa_cons pe_int pa_nil)) (pg_name (i := 5) sc_law.nd rfl (Or.inl rfl)) (pss_cons (ps_set (i := 6) sc_law.nd rfl (Or.inl rfl) (hgreedy.call (hr.mono (by decide)) (by rfl) pass0 (pa_cons (pv 2) pa_nil)))
        (pss_cons (ps_if (PW.pt (pw_or (pt_not (pt_val (pe_callB (call_isiK1 (K := K)) (by rfl) B.isinstance (by decide +kernel) (pa_cons (pv 6) (pa_cons (pe_bltn (v := .ty "tuple") (u := .type "tuple") (by rfl) B.tuple (by decide +kernel) rfl) pa_nil))))) (pw_or (pt_cmpR op_ne (pe_callB (call_lenK (K := K)) (by rfl) B.len PySem.boot_len (pa_cons (pv 6) pa_nil)) pe_int (nomark _)) (pw_or (pt_not (pt_val (h_law_whole.call (hr.mono (by decide)) (by rfl) pass0 (pa_cons (pe_ix (ix_tupK (K := K)) (pv 6) pe_int (fun _ _ => rfl)) pa_nil)))) (pw_or1 (pt_cmpR op_ne (pe_ix (ix_tupK (K := K)) (pv 6) pe_int (fun _ _ => rfl)) (pv 4) (nomark _))))))) (pss_one (ps_ret pe_bl)) pss_nil)
        (pss_cons (ps_if (PW.pt (pw_or (pt_not (pt_val (h_law_numbers.call (hr.mono (by decide)) (by rfl) pass0 (pa_cons (pe_ix (ix_tupK (K := K)) (pv 6) pe_int (fun _ _ => rfl)) (pa_cons (pv 3) pa_nil))))) (pw_or1 (pt_cmpR op_ne (hsaved.call (hr.mono (by decide)) (by rfl) (by first | exact pass0 | exact passL) (pa_cons (pv 2) (pa_cons (pe_callTy (call_listK (K := K)) (by rfl) B.list (by decide +kernel) (pa_cons (pv 3) pa_nil)) pa_nil))) (pv 4) (nomark _))))) (pss_one (ps_ret pe_bl)) pss_nil)
        (pss_one (ps_expr (pe_bm PySem.F.plainAttrs_list PySem.F.slot_list_append PySem.F.type_list_append mt_append (pe_ix (ix_tupK (K := K)) (pv 6) pe_int (fun _ _ => rfl)) (pa_cons pe_int pa_nil))))))))
      (pss_cons (ps_set (i := 7) sc_law.nd rfl (Or.inl rfl) (pe_ix (ix_tupK (K := K)) (hgreatest.call (hr.mono (by decide)) (by rfl) pass0 (pa_cons (pv 2) pa_nil)) pe_int (fun _ _ => rfl)))
      (pss_cons (ps_set (i := 8) sc_law.nd rfl (Or.inl rfl) pe_int)
      (pss_cons (ps_for PassesOwn.never rfl (pi_range2 (by rfl) B.range (pa_cons pe_int (pa_cons (pe_callB (call_lenK (K := K)) (by rfl) B.len PySem.boot_len (pa_cons (pe_ix (ix_tupK (K := K)) (pv 1) pe_int (fun _ _ => rfl)) pa_nil)) pa_nil))) (pg_name (i := 9) sc_law.nd rfl (Or.inl rfl)) (pss_cons (ps_set (i := 10) sc_law.nd rfl (Or.inl rfl) (h_law_free.call (hr.mono (by decide)) (by rfl) pass0 (pa_cons (pe_ix (ix_tupK (K := K)) (pv 1) pe_int (fun _ _ => rfl)) (pa_cons (pv 9) (pa_cons (pe_lst pa_nil) pa_nil)))))
        (pss_one (ps_set (i := 8) sc_law.nd rfl (Or.inl rfl) (pe_op op_add (pv 8) (pe_callBK (cr_maxDef (K := K) rfl hr.units) (by rfl) B.max (by decide +kernel) (pa_cons (pe_lc (own := [("thing", 12)]) (g := gName 12) rfl sc_law.nd (pi_list (pv 10)) (blkOk_by (own := [("thing", 12)]) (N := n_law) (sc := defScope s_law) (by decide +kernel)) (fun _ _ _ _ _ => pg_name (i := 12) sc_law.nd rfl (Or.inl rfl)) (fun _ _ _ _ _ => pts_nil) (fun _ _ _ _ _ => (h_law_worth.call (hr.mono (by decide)) (by rfl) pass0 (pa_cons (pv 1) (pa_cons (pv 12) pa_nil))))) pa_nil) (pk_cons pe_int pk_nil)))))))
      (pss_cons (ps_set (i := 11) sc_law.nd rfl (Or.inl rfl) (hceiling.call (hr.mono (by decide)) (by rfl) pass0 (pa_cons (pv 2) pa_nil)))
      (pss_one (ps_ret (pe_and (h_law_whole.call (hr.mono (by decide)) (by rfl) pass0 (pa_cons (pv 11) pa_nil)) (pe_and (pe_cmpR op_eq (pv 11) (pv 8) (nomark _)) (pe_and (pe_chain op_le op_le (pv 4) (pv 7) (pe_op op_mul pe_int (pv 4))) (pe_one (pe_cmpR op_le (pv 7) (pv 8) (nomark _))))))))))))))))), ?_⟩
    refine q_asgP (ep_call0 (ea_cons (ev_var rfl) (ea_cons ev_c ea_nil)) (spp_some (most := 14) hS (by decide) (by decide))) fun v H1 e1 ⟨p, es, ws, ev, hP, o, _⟩ => ?_
    subst ev
    obtain ⟨pe, pw, hp, hpe, hpw⟩ := id hP
    have ol := o.len
    have om := o.most
    -- tree
    refine q_asgP (ep_makeLL (P := fun v H3 => TreeNew C H1 H3 v es ws) (el_listS (ev_opIxT (ev_var rfl) ev_c (st_of hp) rfl) (sq_of hpe)) (el_listS (ev_opIxT (ev_var rfl) ev_c (st_of hp) rfl) (sq_of hpw)) fun q1 q2 H2 hq1 hq2 e2 => fun H3 e3 x dx hx hdx ne Q' q' E' => spp_tree (sq_of hq1) (sq_of hq2) o H3 e3 x dx hx hdx ne Q' (fun H4 e4 t4 => q' H4 e4 (t4.back e2)) E') fun v H3 e3 tn => ?_
    obtain ⟨x, ev, TA⟩ := tn.at o
    subst ev
    have hP3 := hP.mono e3
    -- what is right
    have lev := Fm.gr_level (es := es) (ws := ws) o.up 14 1 [] (by omega)
    have glen := Fm.level_len o.up _ _ _ lev (by omega)
    obtain ⟨r, b, sh, hf, hsv⟩ := Fm.level_saved o.up ol lev
    have b1 := Fm.level_le_lb (ws := ws) _ 14 1 [] lev (by omega)
    have b2 := Fm.gr_half (ws := ws) o.up ol (n := 14) (by omega)
    have b3 := Fm.lb_tops (es := es) (ws := ws) 14 1 []
    have b4 := Fm.bf_lb (es := es) (ws := ws) 14 1 []
    have hgin : ∀ t ∈ Fm.gr es ws 14 1 [], t < ws.length := fun t ht => by
      obtain ⟨k, hk⟩ := List.getElem?_of_mem ht
      have := (Fm.mem_avail.mp (Fm.level_get lev.lv hk)).1
      omega
    have htops : Fm.tops es ws 1 14 = Fm.tops es ws 1 es.length := by
      have h := Fm.tops_end (ws := ws) o.up (k := es.length) (Fm.avail_deep o.up (Nat.le_refl _) _) (14 - es.length)
      rw [show es.length + (14 - es.length) = 14 by omega] at h
      exact h
    generalize hgr : Fm.gr es ws 14 1 [] = G at *
    -- plan
    refine q_asgL (xs := vi G) (el_is (el_call0 (ea_cons (ev_var rfl) ea_nil) (spl_lgreedy hP3 o)) (by rw [hgr])) fun lp H4 nlp e4 hlp => ?_
    have hP4 := hP3.mono e4
    refine q_asg (v := .int (Fm.planWorth es ws G : Int)) (ev_is (ev_sumN (el_lcLv (l := G) (Fm.worth es ws) (ev_var rfl) (sq_of hlp) (by omega) (fun x => rfl) fun t H5 e5 ht => ev_call0 (ea_cons (ev_var rfl) (ea_cons (ev_var rfl) ea_nil)) (spv_lworth (hP4.mono e5) o))) rfl) fun H5 e5 => ?_
    have e35 := e4.trans e5
    have hlp5 := e5 _ _ hlp
    have hS5 := ex_l ((e1.trans e3).trans e35) hS
    refine q_forR1 (n := 2) (ea_cons ev_c ea_nil) ⟨by decide, by decide⟩ (fun i σ' H' => ∃ v5 v6, σ' = [some (.ref sa), some (.ref p), some (.ref x), some (.ref lp), some (.int (Fm.planWorth es ws G : Int)), v5, v6, none, none, none, none, none, none] ∧ Ex H5 H') (fun H6 e6 => ⟨_, _, rfl, e6⟩) ?_ ?_
    · rintro i σ' H6 hi ⟨v5, v6, rfl, e6⟩
      refine q_asgP (ep_call0 (ea_cons (ev_var rfl) ea_nil) (spp_greedy (TA.mono (e35.trans e6)))) fun v H7 e7 ⟨t, l, ev, nl, ht, hl⟩ => ?_
      subst ev
      rw [hgr] at ht hl
      dsimp only at ht hl
      have e57 := e6.trans e7
      have e37 := e35.trans e57
      have hz : (Fm.somes G).length ≤ 1000 := by unfold Fm.somes; rw [List.length_map]; omega
      refine q_when (b := false) (et_or (a := false) (b := false) (et_not (a := true) (et_B (ev_isiTup (b := true) (ev_var rfl) ht (by decide +kernel)))) fun _ => et_or (a := false) (b := false) (et_test (ev_is (ev_op (ev_lenT (ev_var rfl) (st_of ht)) ev_c (rv_ne rfl)) (by rfl))) fun _ => et_or (a := false) (b := false) (et_not (a := true) (et_B (ev_call0 (ea_cons (ev_opIxT (ev_var rfl) ev_c (st_of ht) rfl) ea_nil) spv_whole)))
        fun _ => et_test (ev_is (ev_op (ev_opIxT (ev_var rfl) ev_c (st_of ht) rfl) (ev_var rfl) (rv_ne rfl)) (by simp))) (fun hb => no hb) fun _ H8 e8 => ?_
      have e58 := e57.trans e8
      have e38 := e37.trans e8
      refine q_when (b := false) (et_or (a := false) (b := false) (et_not (a := true) (et_B (nums_true (ev_opIxT (ev_var rfl) ev_c (st_of (e8 _ _ ht)) rfl) (ev_var rfl) (e8 _ _ hl) (sq_of (e58 _ _ hlp5)) (by omega))))
        fun _ => et_test (ev_is (ev_op (x := .int ((Fm.saved ws b : Nat) : Int)) (ev_call2L (x := .ref x) (xs := vi G) (ev_var rfl) (el_listS (ev_var rfl) (sq_of (e58 _ _ hlp5))) fun pg H9 hpg e9 => spv_saved (plan := Fm.somes G) (TA.mono (e38.trans e9)) (sq_of (by rw [hpg]; exact congrArg some (congrArg HO.lst (oV_some G).symm))) hz hf) (ev_var rfl) (rv_ne rfl)) (by rw [hsv]; simp))) (fun hb => no hb) fun _ H9 e9 => ?_
      refine s_app (e9 _ _ (e8 _ _ hl)) (ev_opIxT (ev_var rfl) ev_c (st_of (e9 _ _ (e8 _ _ ht))) rfl) ev_c (by rw [vi_len]; omega) fun H10 e10 => ⟨_, _, rfl, ?_⟩
      intro a ob ha
      rw [upd_ne (ne_of_none (e6 _ _ ha) nl)]
      exact e10 _ _ (e9 _ _ (e58 _ _ ha))
    · rintro σ' H6 ⟨v5, v6, rfl, e6⟩
      have e36 := e35.trans e6
      refine q_asg (v := .int (Fm.lb es ws 14 1 [] : Int)) (ev_ixP (ep_call0 (ea_cons (ev_var rfl) ea_nil) (spp_great (TA.mono e36))) fun v H2 ⟨t, l, ev, _, h1, _⟩ => ⟨t, _, ev, h1, by rw [← b4]; rfl⟩) fun H7 e7 => ?_
      refine q_asg (v := .int ((0 : Nat) : Int)) ev_c fun H8 e8 => ?_
      have e38 := (e36.trans e7).trans e8
      have hP8 := hP3.mono e38
      have hp8 := e38 _ _ (e3 _ _ hp)
      have hpe8 := e38 _ _ (e3 _ _ hpe)
      have hpw8 := e38 _ _ (e3 _ _ hpw)
      refine q_forR2 (lo := 1) (n := (ws.length : Int)) (ea_cons ev_c (ea_cons (ev_is (ev_lenS (ev_opIxT (ev_var rfl) ev_c (st_of hp8) rfl) (sq_of hpw8)) (by rw [vi_len])) ea_nil)) ⟨by omega, by omega, by omega, by omega⟩
        (fun i σ' H' => ∃ v9 v10, σ' = [some (.ref sa), some (.ref p), some (.ref x), some (.ref lp), some (.int (Fm.planWorth es ws G : Int)), v5, v6, some (.int (Fm.lb es ws 14 1 [] : Int)), some (.int (Fm.tops es ws 1 i : Int)), v9, v10, none, none] ∧ Ex H8 H') (fun H9 e9 => ⟨_, _, rfl, e9⟩) ?_ ?_
      · rintro i σ' H9 hi ⟨v9, v10, rfl, e9⟩
        rw [show (1 : Int) + (i : Int) = ((1 + i : Nat) : Int) by omega]
        have hal := Fm.avail_len es (1 + i) []
        refine q_asgL (xs := vi (Fm.avail es (1 + i) [])) (el_call3L (xs := vi []) (ev_opIxT (ev_var rfl) ev_c (st_of (e9 _ _ hp8)) rfl) (ev_var rfl) (el_lst ea_nil (Nat.zero_le _)) fun pg H10 hpg e10 => spl_free (sq_of (e10 _ _ (e9 _ _ hpe8))) o.up (by omega) (sq_of hpg)) fun ls H10 nls e10 hs => ?_
        refine s_asg (v := .int (Fm.tops es ws 1 (i + 1) : Int)) (ev_is (ev_op (ev_var rfl) (ev_maxDef (m := Fm.md es ws (1 + i)) (el_lcLv (l := Fm.avail es (1 + i) []) (Fm.worth es ws) (ev_var rfl) (sq_of hs) (by omega) (fun x => rfl) fun t H11 e11 ht => ev_call0 (ea_cons (ev_var rfl) (ea_cons (ev_var rfl) ea_nil)) (spv_lworth (hP8.mono ((e9.trans e10).trans e11)) o)) (fun h => Fm.md_nil (List.map_eq_nil_iff.mp h)) fun x hx hy => Fm.md_is hx hy) rv_I0) (by rw [Fm.tops_snoc]; rfl)) fun H11 e11 => ⟨_, _, rfl, (e9.trans e10).trans e11⟩
      · rintro σ' H9 ⟨v9, v10, rfl, e9⟩
        have hi : ((ws.length : Int) - 1).toNat = es.length := by omega
        rw [hi, ← htops]
        refine q_asg (v := .int (Fm.tops es ws 1 14 : Int)) (ev_call0 (ea_cons (ev_var rfl) ea_nil) (spv_ceil (TA.mono (e38.trans e9)))) fun H10 e10 => ?_
        refine s_ret (v := .bl true) (ev_andV (a := true) (b := true) (ev_call0 (ea_cons (ev_var rfl) ea_nil) spv_whole) fun _ => ev_andV (a := true) (b := true) (ev_is (ev_op (ev_var rfl) (ev_var rfl) (rv_eq rfl)) (by simp)) fun _ => ev_andV (a := true) (b := true) (ev_is (ev_chain (k1 := decide ((Fm.planWorth es ws G : Int) ≤ (Fm.lb es ws 14 1 [] : Int))) (k2 := decide ((Fm.lb es ws 14 1 [] : Int) ≤ 2 * (Fm.planWorth es ws G : Int))) (ev_var rfl) (ev_var rfl) (fun _ => ev_op ev_c (ev_var rfl) (rv_I (Or.inl ⟨by decide, by decide⟩))) rv_I0 fun _ => rv_I0) (by rw [decide_eq_true (by omega), decide_eq_true (by omega)]; rfl))
          fun _ => ev_is (ev_op (ev_var rfl) (ev_var rfl) rv_I0) (by exact congrArg V.bl (decide_eq_true (by omega)))) fun H11 e11 => q H11
theorem chain (B : Bi mg) (T : TreeT K mg C) {t1 t2 : Tok} (cM : mg "MOST" = some (.int 14 t1)) (cW : mg "WORTHS" = some (.int 1000 t2)) (eB : Err K mg "BadTree" cBad) (eN : Err K mg "NoThing" cNo) (eP : Err K mg "BadPlan" cPlan)
    (D1 : At K mg "at_depth" s_at_depth p_at_depth) (D2 : At K mg "best_from" s_best_from p_best_from) (D3 : At K mg "greatest" s_greatest p_greatest) (D3b : At K mg "greedy" s_greedy p_greedy) (D3c : At K mg "ceiling" s_ceiling p_ceiling) (D4 : At K mg "spread" s_spread p_spread) (D5 : At K mg "saved" s_saved p_saved)
    (D6 : AtI K C "Tree.__init__" s_Tree___init__ p_Tree___init__) (D7 : AtM K C "things" "Tree.things" s_Tree_things p_Tree_things) (D8 : AtM K C "see_thing" "Tree.see_thing" s_Tree_see_thing p_Tree_see_thing) (D9 : AtM K C "depth" "Tree.depth" s_Tree_depth p_Tree_depth) (D10 : AtM K C "below" "Tree.below" s_Tree_below p_Tree_below) (D11 : AtM K C "worth_below" "Tree.worth_below" s_Tree_worth_below p_Tree_worth_below)
    (D12 : At K mg "_law_cell_at" s__law_cell_at p__law_cell_at) (D13 : At K mg "_law_draw" s__law_draw p__law_draw) (D14 : At K mg "_law_whole" s__law_whole p__law_whole) (D15 : At K mg "_law_elders" s__law_elders p__law_elders) (D16 : At K mg "_law_tree" s__law_tree p__law_tree)
    (D17 : At K mg "_law_depth" s__law_depth p__law_depth) (D18 : At K mg "_law_below" s__law_below p__law_below) (D19 : At K mg "_law_worth" s__law_worth p__law_worth) (D22 : At K mg "_law_free" s__law_free p__law_free)
    (D25 : At K mg "_law_numbers" s__law_numbers p__law_numbers) (D26 : At K mg "_law_greedy" s__law_greedy p__law_greedy) : ∀ f fd, Fun K "law" "law" s_law f fd → FnOk P w K mg base CX0 20 f fd p_law (spLaw K) := by
  have c := has_cell (P := P) (w := w) (base := base) B D12
  have d := has_draw D13 c
  have el := has_elders B D15 d
  have pl := has_plot B D16 d el
  have wh := has_whole (P := P) (w := w) (base := base) B D14
  have nu := has_numbers (P := P) (w := w) (base := base) B D25 wh
  have ld := has_ldepth (P := P) (w := w) (base := base) D17
  have lb := has_lbelow (P := P) (w := w) (base := base) B D18
  have lw := has_lworth B D19 lb
  have fr := has_free B ld D22
  have lg := has_lgreedy B fr lb lw D26
  have ini := has_init (P := P) (w := w) (base := base) B T cM cW eB D6
  have th := has_things (P := P) (w := w) (base := base) B T D7
  have see := has_see (P := P) (w := w) (base := base) B T eN D8
  have de := has_depth T see D9
  have be := has_below B T see D10
  have wb := has_worthB B T be D11
  have sp := has_spread (cPlan := cPlan) B T eP see th D4
  have sv := has_saved B T sp th D5
  have ad := has_atD B T de th D1
  have gr := has_great B T (has_best B T ad be wb D2 14) D3
  have gd := has_greedy B T ad be wb D3b
  have ce := has_ceil B T ad wb D3c
  exact ok_law B T gr gd ce sv ini pl wh lw fr lg nu
end
end Fi
namespace Fi
open PySem L2 Evl
theorem all_mk {l : PySem.W.OpenLaw} {w : World} {K : PySem.W.Frag} {h : Heap} {mg : Str → Option Value} {fa : Addr} (X : K.In h) (G : h.Ns mainGlobals mg) (hfa : mg "law" = some (.ref fa))
    {C : Addr}
    {tk0 : Tok}
    {tk1 : Tok}
    {E_BadTree : Addr}
    {E_NoThing : Addr}
    {E_BadPlan : Addr}
    {f0 : Addr} {od0 an0 : Option Addr} {sl0 : Array (Option Value)} {oc0 kV0 dc0 pm0 cd0 ct0 : Value}
    {f1 : Addr} {od1 an1 : Option Addr} {sl1 : Array (Option Value)} {oc1 kV1 dc1 pm1 cd1 ct1 : Value}
    {f2 : Addr} {od2 an2 : Option Addr} {sl2 : Array (Option Value)} {oc2 kV2 dc2 pm2 cd2 ct2 : Value}
    {f3 : Addr} {od3 an3 : Option Addr} {sl3 : Array (Option Value)} {oc3 kV3 dc3 pm3 cd3 ct3 : Value}
    {f4 : Addr} {od4 an4 : Option Addr} {sl4 : Array (Option Value)} {oc4 kV4 dc4 pm4 cd4 ct4 : Value}
    {f5 : Addr} {od5 an5 : Option Addr} {sl5 : Array (Option Value)} {oc5 kV5 dc5 pm5 cd5 ct5 : Value}
    {f6 : Addr} {od6 an6 : Option Addr} {sl6 : Array (Option Value)} {oc6 kV6 dc6 pm6 cd6 ct6 : Value}
    {f7 : Addr} {od7 an7 : Option Addr} {sl7 : Array (Option Value)} {oc7 kV7 dc7 pm7 cd7 ct7 : Value}
    {f10 : Addr} {od10 an10 : Option Addr} {sl10 : Array (Option Value)} {oc10 kV10 dc10 pm10 cd10 ct10 : Value}
    {f11 : Addr} {od11 an11 : Option Addr} {sl11 : Array (Option Value)} {oc11 kV11 dc11 pm11 cd11 ct11 : Value}
    {f12 : Addr} {od12 an12 : Option Addr} {sl12 : Array (Option Value)} {oc12 kV12 dc12 pm12 cd12 ct12 : Value}
    {f13 : Addr} {od13 an13 : Option Addr} {sl13 : Array (Option Value)} {oc13 kV13 dc13 pm13 cd13 ct13 : Value}
    {f14 : Addr} {od14 an14 : Option Addr} {sl14 : Array (Option Value)} {oc14 kV14 dc14 pm14 cd14 ct14 : Value}
    {f15 : Addr} {od15 an15 : Option Addr} {sl15 : Array (Option Value)} {oc15 kV15 dc15 pm15 cd15 ct15 : Value}
    {f16 : Addr} {od16 an16 : Option Addr} {sl16 : Array (Option Value)} {oc16 kV16 dc16 pm16 cd16 ct16 : Value}
    {f17 : Addr} {od17 an17 : Option Addr} {sl17 : Array (Option Value)} {oc17 kV17 dc17 pm17 cd17 ct17 : Value}
    {f18 : Addr} {od18 an18 : Option Addr} {sl18 : Array (Option Value)} {oc18 kV18 dc18 pm18 cd18 ct18 : Value}
    {f19 : Addr} {od19 an19 : Option Addr} {sl19 : Array (Option Value)} {oc19 kV19 dc19 pm19 cd19 ct19 : Value}
    {f20 : Addr} {od20 an20 : Option Addr} {sl20 : Array (Option Value)} {oc20 kV20 dc20 pm20 cd20 ct20 : Value}
    {f21 : Addr} {od21 an21 : Option Addr} {sl21 : Array (Option Value)} {oc21 kV21 dc21 pm21 cd21 ct21 : Value}
    {f22 : Addr} {od22 an22 : Option Addr} {sl22 : Array (Option Value)} {oc22 kV22 dc22 pm22 cd22 ct22 : Value}
    {f23 : Addr} {od23 an23 : Option Addr} {sl23 : Array (Option Value)} {oc23 kV23 dc23 pm23 cd23 ct23 : Value}
    {f26 : Addr} {od26 an26 : Option Addr} {sl26 : Array (Option Value)} {oc26 kV26 dc26 pm26 cd26 ct26 : Value}
    {f27 : Addr} {od27 an27 : Option Addr} {sl27 : Array (Option Value)} {oc27 kV27 dc27 pm27 cd27 ct27 : Value}
    {f28 : Addr} {od28 an28 : Option Addr} {sl28 : Array (Option Value)} {oc28 kV28 dc28 pm28 cd28 ct28 : Value}
    (z1 : PySem.W.nsIn K mainGlobals "len" = some none)
    (z2 : PySem.W.nsIn K mainGlobals "range" = some none)
    (z3 : PySem.W.nsIn K mainGlobals "list" = some none)
    (z4 : PySem.W.nsIn K mainGlobals "sum" = some none)
    (z5 : PySem.W.nsIn K mainGlobals "max" = some none)
    (z6 : PySem.W.nsIn K mainGlobals "min" = some none)
    (z7 : PySem.W.nsIn K mainGlobals "isinstance" = some none)
    (z8 : PySem.W.nsIn K mainGlobals "int" = some none)
    (z9 : PySem.W.nsIn K mainGlobals "bool" = some none)
    (z10 : PySem.W.nsIn K mainGlobals "str" = some none)
    (z11 : PySem.W.nsIn K mainGlobals "tuple" = some none)
    (z12 : PySem.W.nsIn K mainGlobals "enumerate" = some none)
    (z13 : PySem.W.nsIn K mainGlobals "ValueError" = some none)
    (aC : PySem.W.nsIn K mainGlobals "Tree" = some (some (.ref C)))
    (pg : PySem.W.plainGet K C Str.empty = true)
    (hd : PySem.W.hasDictIn K C = true)
    (po : PySem.W.plainOver K C = true)
    (sa : PySem.W.findIn K (.ref C) "__setattr__" = some (some (.builtin "object.__setattr__")))
    (mk : PySem.W.makesIn K C = true)
    (kc : PySem.W.keepIn K (.ref C) = true)
    (nA : PySem.W.findIn K (.ref C) "above" = some none)
    (nW : PySem.W.findIn K (.ref C) "worth" = some none)
    (k_MOST : PySem.W.nsIn K mainGlobals "MOST" = some (some (.int 14 tk0)))
    (k_WORTHS : PySem.W.nsIn K mainGlobals "WORTHS" = some (some (.int 1000 tk1)))
    (ea_BadTree : PySem.W.nsIn K mainGlobals "BadTree" = some (some (.ref E_BadTree)))
    (eq_BadTree : PySem.W.excIn K E_BadTree [.type "ValueError", .type "Exception", .type "BaseException", .type "object"] "ValueError.__new__" = true)
    (ek_BadTree : PySem.W.keepIn K (.ref E_BadTree) = true)
    (eb_BadTree : PySem.W.subIn K (.ref E_BadTree) (.type "BaseException") = some true)
    (et_BadTree : PySem.W.typeIn K (.ref E_BadTree) = some (.type "type"))
    (ea_NoThing : PySem.W.nsIn K mainGlobals "NoThing" = some (some (.ref E_NoThing)))
    (eq_NoThing : PySem.W.excIn K E_NoThing [.type "ValueError", .type "Exception", .type "BaseException", .type "object"] "ValueError.__new__" = true)
    (ek_NoThing : PySem.W.keepIn K (.ref E_NoThing) = true)
    (eb_NoThing : PySem.W.subIn K (.ref E_NoThing) (.type "BaseException") = some true)
    (et_NoThing : PySem.W.typeIn K (.ref E_NoThing) = some (.type "type"))
    (ea_BadPlan : PySem.W.nsIn K mainGlobals "BadPlan" = some (some (.ref E_BadPlan)))
    (eq_BadPlan : PySem.W.excIn K E_BadPlan [.type "ValueError", .type "Exception", .type "BaseException", .type "object"] "ValueError.__new__" = true)
    (ek_BadPlan : PySem.W.keepIn K (.ref E_BadPlan) = true)
    (eb_BadPlan : PySem.W.subIn K (.ref E_BadPlan) (.type "BaseException") = some true)
    (et_BadPlan : PySem.W.typeIn K (.ref E_BadPlan) = some (.type "type"))
    (a0 : PySem.W.nsIn K mainGlobals "at_depth" = some (some (.ref f0)))
    (l0 : K.lookup f0 = some ⟨oc0, od0, .func (PySem.W.fnOf "at_depth" "at_depth" (defArgs s_at_depth) (defBody s_at_depth) (defScope s_at_depth) .none kV0 dc0 pm0 an0 cd0 ct0), sl0⟩)
    (c0 : PySem.W.codeIn K cd0 "at_depth" = true)
    (k0 : PySem.W.keepIn K (.ref f0) = true)
    (a1 : PySem.W.nsIn K mainGlobals "best_from" = some (some (.ref f1)))
    (l1 : K.lookup f1 = some ⟨oc1, od1, .func (PySem.W.fnOf "best_from" "best_from" (defArgs s_best_from) (defBody s_best_from) (defScope s_best_from) .none kV1 dc1 pm1 an1 cd1 ct1), sl1⟩)
    (c1 : PySem.W.codeIn K cd1 "best_from" = true)
    (k1 : PySem.W.keepIn K (.ref f1) = true)
    (a2 : PySem.W.nsIn K mainGlobals "greatest" = some (some (.ref f2)))
    (l2 : K.lookup f2 = some ⟨oc2, od2, .func (PySem.W.fnOf "greatest" "greatest" (defArgs s_greatest) (defBody s_greatest) (defScope s_greatest) .none kV2 dc2 pm2 an2 cd2 ct2), sl2⟩)
    (c2 : PySem.W.codeIn K cd2 "greatest" = true)
    (k2 : PySem.W.keepIn K (.ref f2) = true)
    (a3 : PySem.W.nsIn K mainGlobals "greedy" = some (some (.ref f3)))
    (l3 : K.lookup f3 = some ⟨oc3, od3, .func (PySem.W.fnOf "greedy" "greedy" (defArgs s_greedy) (defBody s_greedy) (defScope s_greedy) .none kV3 dc3 pm3 an3 cd3 ct3), sl3⟩)
    (c3 : PySem.W.codeIn K cd3 "greedy" = true)
    (k3 : PySem.W.keepIn K (.ref f3) = true)
    (a4 : PySem.W.nsIn K mainGlobals "ceiling" = some (some (.ref f4)))
    (l4 : K.lookup f4 = some ⟨oc4, od4, .func (PySem.W.fnOf "ceiling" "ceiling" (defArgs s_ceiling) (defBody s_ceiling) (defScope s_ceiling) .none kV4 dc4 pm4 an4 cd4 ct4), sl4⟩)
    (c4 : PySem.W.codeIn K cd4 "ceiling" = true)
    (k4 : PySem.W.keepIn K (.ref f4) = true)
    (a5 : PySem.W.nsIn K mainGlobals "spread" = some (some (.ref f5)))
    (l5 : K.lookup f5 = some ⟨oc5, od5, .func (PySem.W.fnOf "spread" "spread" (defArgs s_spread) (defBody s_spread) (defScope s_spread) .none kV5 dc5 pm5 an5 cd5 ct5), sl5⟩)
    (c5 : PySem.W.codeIn K cd5 "spread" = true)
    (k5 : PySem.W.keepIn K (.ref f5) = true)
    (a6 : PySem.W.nsIn K mainGlobals "saved" = some (some (.ref f6)))
    (l6 : K.lookup f6 = some ⟨oc6, od6, .func (PySem.W.fnOf "saved" "saved" (defArgs s_saved) (defBody s_saved) (defScope s_saved) .none kV6 dc6 pm6 an6 cd6 ct6), sl6⟩)
    (c6 : PySem.W.codeIn K cd6 "saved" = true)
    (k6 : PySem.W.keepIn K (.ref f6) = true)
    (a7 : PySem.W.findIn K (.ref C) "__init__" = some (some (.ref f7)))
    (i7 : PySem.W.isFn K (.ref f7) = true)
    (l7 : K.lookup f7 = some ⟨oc7, od7, .func (PySem.W.fnOf "__init__" "Tree.__init__" (defArgs s_Tree___init__) (defBody s_Tree___init__) (defScope s_Tree___init__) .none kV7 dc7 pm7 an7 cd7 ct7), sl7⟩)
    (c7 : PySem.W.codeIn K cd7 "Tree.__init__" = true)
    (k7 : PySem.W.keepIn K (.ref f7) = true)
    (a10 : PySem.W.findIn K (.ref C) "things" = some (some (.ref f10)))
    (i10 : PySem.W.isFn K (.ref f10) = true)
    (l10 : K.lookup f10 = some ⟨oc10, od10, .func (PySem.W.fnOf "things" "Tree.things" (defArgs s_Tree_things) (defBody s_Tree_things) (defScope s_Tree_things) .none kV10 dc10 pm10 an10 cd10 ct10), sl10⟩)
    (c10 : PySem.W.codeIn K cd10 "Tree.things" = true)
    (k10 : PySem.W.keepIn K (.ref f10) = true)
    (a11 : PySem.W.findIn K (.ref C) "see_thing" = some (some (.ref f11)))
    (i11 : PySem.W.isFn K (.ref f11) = true)
    (l11 : K.lookup f11 = some ⟨oc11, od11, .func (PySem.W.fnOf "see_thing" "Tree.see_thing" (defArgs s_Tree_see_thing) (defBody s_Tree_see_thing) (defScope s_Tree_see_thing) .none kV11 dc11 pm11 an11 cd11 ct11), sl11⟩)
    (c11 : PySem.W.codeIn K cd11 "Tree.see_thing" = true)
    (k11 : PySem.W.keepIn K (.ref f11) = true)
    (a12 : PySem.W.findIn K (.ref C) "depth" = some (some (.ref f12)))
    (i12 : PySem.W.isFn K (.ref f12) = true)
    (l12 : K.lookup f12 = some ⟨oc12, od12, .func (PySem.W.fnOf "depth" "Tree.depth" (defArgs s_Tree_depth) (defBody s_Tree_depth) (defScope s_Tree_depth) .none kV12 dc12 pm12 an12 cd12 ct12), sl12⟩)
    (c12 : PySem.W.codeIn K cd12 "Tree.depth" = true)
    (k12 : PySem.W.keepIn K (.ref f12) = true)
    (a13 : PySem.W.findIn K (.ref C) "below" = some (some (.ref f13)))
    (i13 : PySem.W.isFn K (.ref f13) = true)
    (l13 : K.lookup f13 = some ⟨oc13, od13, .func (PySem.W.fnOf "below" "Tree.below" (defArgs s_Tree_below) (defBody s_Tree_below) (defScope s_Tree_below) .none kV13 dc13 pm13 an13 cd13 ct13), sl13⟩)
    (c13 : PySem.W.codeIn K cd13 "Tree.below" = true)
    (k13 : PySem.W.keepIn K (.ref f13) = true)
    (a14 : PySem.W.findIn K (.ref C) "worth_below" = some (some (.ref f14)))
    (i14 : PySem.W.isFn K (.ref f14) = true)
    (l14 : K.lookup f14 = some ⟨oc14, od14, .func (PySem.W.fnOf "worth_below" "Tree.worth_below" (defArgs s_Tree_worth_below) (defBody s_Tree_worth_below) (defScope s_Tree_worth_below) .none kV14 dc14 pm14 an14 cd14 ct14), sl14⟩)
    (c14 : PySem.W.codeIn K cd14 "Tree.worth_below" = true)
    (k14 : PySem.W.keepIn K (.ref f14) = true)
    (a15 : PySem.W.nsIn K mainGlobals "_law_cell_at" = some (some (.ref f15)))
    (l15 : K.lookup f15 = some ⟨oc15, od15, .func (PySem.W.fnOf "_law_cell_at" "_law_cell_at" (defArgs s__law_cell_at) (defBody s__law_cell_at) (defScope s__law_cell_at) .none kV15 dc15 pm15 an15 cd15 ct15), sl15⟩)
    (c15 : PySem.W.codeIn K cd15 "_law_cell_at" = true)
    (k15 : PySem.W.keepIn K (.ref f15) = true)
    (a16 : PySem.W.nsIn K mainGlobals "_law_draw" = some (some (.ref f16)))
    (l16 : K.lookup f16 = some ⟨oc16, od16, .func (PySem.W.fnOf "_law_draw" "_law_draw" (defArgs s__law_draw) (defBody s__law_draw) (defScope s__law_draw) .none kV16 dc16 pm16 an16 cd16 ct16), sl16⟩)
    (c16 : PySem.W.codeIn K cd16 "_law_draw" = true)
    (k16 : PySem.W.keepIn K (.ref f16) = true)
    (a17 : PySem.W.nsIn K mainGlobals "_law_whole" = some (some (.ref f17)))
    (l17 : K.lookup f17 = some ⟨oc17, od17, .func (PySem.W.fnOf "_law_whole" "_law_whole" (defArgs s__law_whole) (defBody s__law_whole) (defScope s__law_whole) .none kV17 dc17 pm17 an17 cd17 ct17), sl17⟩)
    (c17 : PySem.W.codeIn K cd17 "_law_whole" = true)
    (k17 : PySem.W.keepIn K (.ref f17) = true)
    (a18 : PySem.W.nsIn K mainGlobals "_law_elders" = some (some (.ref f18)))
    (l18 : K.lookup f18 = some ⟨oc18, od18, .func (PySem.W.fnOf "_law_elders" "_law_elders" (defArgs s__law_elders) (defBody s__law_elders) (defScope s__law_elders) .none kV18 dc18 pm18 an18 cd18 ct18), sl18⟩)
    (c18 : PySem.W.codeIn K cd18 "_law_elders" = true)
    (k18 : PySem.W.keepIn K (.ref f18) = true)
    (a19 : PySem.W.nsIn K mainGlobals "_law_tree" = some (some (.ref f19)))
    (l19 : K.lookup f19 = some ⟨oc19, od19, .func (PySem.W.fnOf "_law_tree" "_law_tree" (defArgs s__law_tree) (defBody s__law_tree) (defScope s__law_tree) .none kV19 dc19 pm19 an19 cd19 ct19), sl19⟩)
    (c19 : PySem.W.codeIn K cd19 "_law_tree" = true)
    (k19 : PySem.W.keepIn K (.ref f19) = true)
    (a20 : PySem.W.nsIn K mainGlobals "_law_depth" = some (some (.ref f20)))
    (l20 : K.lookup f20 = some ⟨oc20, od20, .func (PySem.W.fnOf "_law_depth" "_law_depth" (defArgs s__law_depth) (defBody s__law_depth) (defScope s__law_depth) .none kV20 dc20 pm20 an20 cd20 ct20), sl20⟩)
    (c20 : PySem.W.codeIn K cd20 "_law_depth" = true)
    (k20 : PySem.W.keepIn K (.ref f20) = true)
    (a21 : PySem.W.nsIn K mainGlobals "_law_below" = some (some (.ref f21)))
    (l21 : K.lookup f21 = some ⟨oc21, od21, .func (PySem.W.fnOf "_law_below" "_law_below" (defArgs s__law_below) (defBody s__law_below) (defScope s__law_below) .none kV21 dc21 pm21 an21 cd21 ct21), sl21⟩)
    (c21 : PySem.W.codeIn K cd21 "_law_below" = true)
    (k21 : PySem.W.keepIn K (.ref f21) = true)
    (a22 : PySem.W.nsIn K mainGlobals "_law_worth" = some (some (.ref f22)))
    (l22 : K.lookup f22 = some ⟨oc22, od22, .func (PySem.W.fnOf "_law_worth" "_law_worth" (defArgs s__law_worth) (defBody s__law_worth) (defScope s__law_worth) .none kV22 dc22 pm22 an22 cd22 ct22), sl22⟩)
    (c22 : PySem.W.codeIn K cd22 "_law_worth" = true)
    (k22 : PySem.W.keepIn K (.ref f22) = true)
    (a23 : PySem.W.nsIn K mainGlobals "_law_free" = some (some (.ref f23)))
    (l23 : K.lookup f23 = some ⟨oc23, od23, .func (PySem.W.fnOf "_law_free" "_law_free" (defArgs s__law_free) (defBody s__law_free) (defScope s__law_free) .none kV23 dc23 pm23 an23 cd23 ct23), sl23⟩)
    (c23 : PySem.W.codeIn K cd23 "_law_free" = true)
    (k23 : PySem.W.keepIn K (.ref f23) = true)
    (a26 : PySem.W.nsIn K mainGlobals "_law_numbers" = some (some (.ref f26)))
    (l26 : K.lookup f26 = some ⟨oc26, od26, .func (PySem.W.fnOf "_law_numbers" "_law_numbers" (defArgs s__law_numbers) (defBody s__law_numbers) (defScope s__law_numbers) .none kV26 dc26 pm26 an26 cd26 ct26), sl26⟩)
    (c26 : PySem.W.codeIn K cd26 "_law_numbers" = true)
    (k26 : PySem.W.keepIn K (.ref f26) = true)
    (a27 : PySem.W.nsIn K mainGlobals "_law_greedy" = some (some (.ref f27)))
    (l27 : K.lookup f27 = some ⟨oc27, od27, .func (PySem.W.fnOf "_law_greedy" "_law_greedy" (defArgs s__law_greedy) (defBody s__law_greedy) (defScope s__law_greedy) .none kV27 dc27 pm27 an27 cd27 ct27), sl27⟩)
    (c27 : PySem.W.codeIn K cd27 "_law_greedy" = true)
    (k27 : PySem.W.keepIn K (.ref f27) = true)
    (a28 : PySem.W.nsIn K mainGlobals "law" = some (some (.ref f28)))
    (l28 : K.lookup f28 = some ⟨oc28, od28, .func (PySem.W.fnOf "law" "law" (defArgs s_law) (defBody s_law) (defScope s_law) .none kV28 dc28 pm28 an28 cd28 ct28), sl28⟩)
    (c28 : PySem.W.codeIn K cd28 "law" = true)
    (k28 : PySem.W.keepIn K (.ref f28) = true)
    : ∃ fd : FuncData, (∀ (s : Shared) (v : Value), BindsTo s fd ⟨[v], []⟩ [("script", v)]) ∧ ∀ base : Heap, K.In base → base.Ns mainGlobals mg → FnOk l.prog w K mg base CX0 20 fa fd ["script"] (spLaw K) := by
  have e := hfa.symm.trans (PySem.W.mg_of X G a28)
  cases e
  exact ⟨PySem.W.fnOf "law" "law" (defArgs s_law) (defBody s_law) (defScope s_law) .none kV28 dc28 pm28 an28 cd28 ct28, fun s v => .of_eq rfl, fun base _ _ => chain (bi_mk X G z1 z2 z3 z4 z5 z6 z7 z8 z9 z10 z11 z12 z13) ⟨⟨pg, hd, po, sa⟩, nA, nW, PySem.W.mg_of X G aC⟩ (PySem.W.mg_of X G k_MOST) (PySem.W.mg_of X G k_WORTHS) (err_mk X G ea_BadTree eq_BadTree ek_BadTree eb_BadTree et_BadTree) (err_mk X G ea_NoThing eq_NoThing ek_NoThing eb_NoThing et_NoThing) (err_mk X G ea_BadPlan eq_BadPlan ek_BadPlan eb_BadPlan et_BadPlan) (at_mk X G a0 l0 c0 k0 bd_at_depth) (at_mk X G a1 l1 c1 k1 bd_best_from) (at_mk X G a2 l2 c2 k2 bd_greatest) (at_mk X G a3 l3 c3 k3 bd_greedy) (at_mk X G a4 l4 c4 k4 bd_ceiling) (at_mk X G a5 l5 c5 k5 bd_spread) (at_mk X G a6 l6 c6 k6 bd_saved) (ati_mk a7 i7 l7 c7 k7 mk kc bd_Tree___init__) (atm_mk a10 i10 l10 c10 k10 bd_Tree_things) (atm_mk a11 i11 l11 c11 k11 bd_Tree_see_thing) (atm_mk a12 i12 l12 c12 k12 bd_Tree_depth) (atm_mk a13 i13 l13 c13 k13 bd_Tree_below) (atm_mk a14 i14 l14 c14 k14 bd_Tree_worth_below) (at_mk X G a15 l15 c15 k15 bd__law_cell_at) (at_mk X G a16 l16 c16 k16 bd__law_draw) (at_mk X G a17 l17 c17 k17 bd__law_whole) (at_mk X G a18 l18 c18 k18 bd__law_elders) (at_mk X G a19 l19 c19 k19 bd__law_tree) (at_mk X G a20 l20 c20 k20 bd__law_depth) (at_mk X G a21 l21 c21 k21 bd__law_below) (at_mk X G a22 l22 c22 k22 bd__law_worth) (at_mk X G a23 l23 c23 k23 bd__law_free) (at_mk X G a26 l26 c26 k26 bd__law_numbers) (at_mk X G a27 l27 c27 k27 bd__law_greedy) _ _ (fun_mk l28 c28 k28)⟩
theorem walk {l : PySem.W.OpenLaw} {q : Program} {loose : List Str} {XP : (Str → Option Value) → Heap → Prop} {YP : World → Heap → Prop} {d : DefRec} {K : Params → PySem.W.Frag} (hn : l.most = some 63) (hdf : d.params.defaults = [])
    (hY : ∀ (w : World) (h : Heap), YP w h → (K w.params).In h)
    (F : ∀ (w : World) (mg : Str → Option Value) (fa : Addr) (h : Heap), (K w.params).In h → h.Ns mainGlobals mg → mg d.name = some (.ref fa) →
      ∃ fd : FuncData, (∀ (s : Shared) (u : Value), BindsTo s fd ⟨[u], []⟩ [("script", u)]) ∧ ∀ base : Heap, (K w.params).In base → base.Ns mainGlobals mg → FnOk l.prog w (K w.params) mg base CX0 20 fa fd ["script"] (spLaw (K w.params))) :
    PySem.W.WalkO q loose XP YP l.row.toRowW d [] (fun f vs => PySem.call f vs) :=
  L2.walk_of (n := 63) (k := 20) (x := "script") (CX := fun _ => CX0) (sp := fun w => spLaw (K w.params)) hn (by decide) hdf ⟨rfl, by decide, by decide⟩ hY F (fun _ _ a ns hl _ hS => ⟨a, ns, rfl, hS, hl, fun _ => rfl⟩) fun _ _ _ _ _ z => z
end Fi
open PySem PySem.W PyProof.Rows
set_option maxRecDepth 100000 in
set_option maxHeartbeats 0 in
theorem PySem.Challenge.cw_firetree_k06_whole_greedy_and_ceiling_holds : PySem.Challenge.rw_firetree_k06_whole_greedy_and_ceiling.Holds := by
  w_on; o_law; k_head; (case hw => w_witness2)
  k_fill
  refine Fi.walk (l := PySem.Challenge.rw_firetree_k06_whole_greedy_and_ceiling) rfl rfl (fun w h Y => PySem.W.kIn_of Y) ?F
  case F =>
    intro w mg fa h KX G hmg
    refine' Fi.all_mk KX G hmg ?z1 ?z2 ?z3 ?z4 ?z5 ?z6 ?z7 ?z8 ?z9 ?z10 ?z11 ?z12 ?z13 ?aC ?pg ?hd ?po ?sa ?mk ?kc ?nA ?nW ?k_MOST ?k_WORTHS ?ea_BadTree ?eq_BadTree ?ek_BadTree ?eb_BadTree ?et_BadTree ?ea_NoThing ?eq_NoThing ?ek_NoThing ?eb_NoThing ?et_NoThing ?ea_BadPlan ?eq_BadPlan ?ek_BadPlan ?eb_BadPlan ?et_BadPlan ?a0 ?l0 ?c0 ?k0 ?a1 ?l1 ?c1 ?k1 ?a2 ?l2 ?c2 ?k2 ?a3 ?l3 ?c3 ?k3 ?a4 ?l4 ?c4 ?k4 ?a5 ?l5 ?c5 ?k5 ?a6 ?l6 ?c6 ?k6 ?a7 ?i7 ?l7 ?c7 ?k7 ?a10 ?i10 ?l10 ?c10 ?k10 ?a11 ?i11 ?l11 ?c11 ?k11 ?a12 ?i12 ?l12 ?c12 ?k12 ?a13 ?i13 ?l13 ?c13 ?k13 ?a14 ?i14 ?l14 ?c14 ?k14 ?a15 ?l15 ?c15 ?k15 ?a16 ?l16 ?c16 ?k16 ?a17 ?l17 ?c17 ?k17 ?a18 ?l18 ?c18 ?k18 ?a19 ?l19 ?c19 ?k19 ?a20 ?l20 ?c20 ?k20 ?a21 ?l21 ?c21 ?k21 ?a22 ?l22 ?c22 ?k22 ?a23 ?l23 ?c23 ?k23 ?a26 ?l26 ?c26 ?k26 ?a27 ?l27 ?c27 ?k27 ?a28 ?l28 ?c28 ?k28
    (case z1 => k_is)
    (case z2 => k_is)
    (case z3 => k_is)
    (case z4 => k_is)
    (case z5 => k_is)
    (case z6 => k_is)
    (case z7 => k_is)
    (case z8 => k_is)
    (case z9 => k_is)
    (case z10 => k_is)
    (case z11 => k_is)
    (case z12 => k_is)
    (case z13 => k_is)
    (case aC => k_is)
    (case pg => k_is)
    (case hd => k_is)
    (case po => k_is)
    (case sa => k_is)
    (case mk => k_is)
    (case kc => k_is)
    (case nA => k_is)
    (case nW => k_is)
    (case k_MOST => k_is)
    (case k_WORTHS => k_is)
    (case ea_BadTree => k_is)
    (case eq_BadTree => k_exc)
    (case ek_BadTree => k_is)
    (case eb_BadTree => k_is)
    (case et_BadTree => k_is)
    (case ea_NoThing => k_is)
    (case eq_NoThing => k_exc)
    (case ek_NoThing => k_is)
    (case eb_NoThing => k_is)
    (case et_NoThing => k_is)
    (case ea_BadPlan => k_is)
    (case eq_BadPlan => k_exc)
    (case ek_BadPlan => k_is)
    (case eb_BadPlan => k_is)
    (case et_BadPlan => k_is)
    (case a0 => k_is)
    (case l0 => k_is)
    (case c0 => k_is)
    (case k0 => k_is)
    (case a1 => k_is)
    (case l1 => k_is)
    (case c1 => k_is)
    (case k1 => k_is)
    (case a2 => k_is)
    (case l2 => k_is)
    (case c2 => k_is)
    (case k2 => k_is)
    (case a3 => k_is)
    (case l3 => k_is)
    (case c3 => k_is)
    (case k3 => k_is)
    (case a4 => k_is)
    (case l4 => k_is)
    (case c4 => k_is)
    (case k4 => k_is)
    (case a5 => k_is)
    (case l5 => k_is)
    (case c5 => k_is)
    (case k5 => k_is)
    (case a6 => k_is)
    (case l6 => k_is)
    (case c6 => k_is)
    (case k6 => k_is)
    (case a7 => k_is)
    (case i7 => k_is)
    (case l7 => k_is)
    (case c7 => k_is)
    (case k7 => k_is)
    (case a10 => k_is)
    (case i10 => k_is)
    (case l10 => k_is)
    (case c10 => k_is)
    (case k10 => k_is)
    (case a11 => k_is)
    (case i11 => k_is)
    (case l11 => k_is)
    (case c11 => k_is)
    (case k11 => k_is)
    (case a12 => k_is)
    (case i12 => k_is)
    (case l12 => k_is)
    (case c12 => k_is)
    (case k12 => k_is)
    (case a13 => k_is)
    (case i13 => k_is)
    (case l13 => k_is)
    (case c13 => k_is)
    (case k13 => k_is)
    (case a14 => k_is)
    (case i14 => k_is)
    (case l14 => k_is)
    (case c14 => k_is)
    (case k14 => k_is)
    (case a15 => k_is)
    (case l15 => k_is)
    (case c15 => k_is)
    (case k15 => k_is)
    (case a16 => k_is)
    (case l16 => k_is)
    (case c16 => k_is)
    (case k16 => k_is)
    (case a17 => k_is)
    (case l17 => k_is)
    (case c17 => k_is)
    (case k17 => k_is)
    (case a18 => k_is)
    (case l18 => k_is)
    (case c18 => k_is)
    (case k18 => k_is)
    (case a19 => k_is)
    (case l19 => k_is)
    (case c19 => k_is)
    (case k19 => k_is)
    (case a20 => k_is)
    (case l20 => k_is)
    (case c20 => k_is)
    (case k20 => k_is)
    (case a21 => k_is)
    (case l21 => k_is)
    (case c21 => k_is)
    (case k21 => k_is)
    (case a22 => k_is)
    (case l22 => k_is)
    (case c22 => k_is)
    (case k22 => k_is)
    (case a23 => k_is)
    (case l23 => k_is)
    (case c23 => k_is)
    (case k23 => k_is)
    (case a26 => k_is)
    (case l26 => k_is)
    (case c26 => k_is)
    (case k26 => k_is)
    (case a27 => k_is)
    (case l27 => k_is)
    (case c27 => k_is)
    (case k27 => k_is)
    (case a28 => k_is)
    (case l28 => k_is)
    (case c28 => k_is)
    (case k28 => k_is)
#print axioms PySem.Challenge.cw_firetree_k06_whole_greedy_and_ceiling_holds
