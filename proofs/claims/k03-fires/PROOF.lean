import PyProof.Rows.All
import Wide.All
import OpenK.AllK
import Wide.FinOn
import HandS.ForMost
import HandS.ForExc
import HandS.IsInst
import HandS.Evl
import HandS.ExcIs
import KE.DataFind
import PySem.Challenge.RW_firetree_k03_fires
set_option Elab.async false
set_option linter.all false
set_option maxRecDepth 100000
set_option maxHeartbeats 4000000
/-! The mathematics: trees as lists of elders and worths. No program here. -/
namespace Fm
def draw (ns : List Int) (k : Int) : Int := (ns.getD (k % 61).toNat 0 + 7919 * k) * (48271 + 2 * k) % 2147483647
theorem draw_lo (ns : List Int) (k : Int) : 0 ≤ draw ns k := Int.emod_nonneg _ (by decide)
theorem draw_hi (ns : List Int) (k : Int) : draw ns k < 2147483647 := Int.emod_lt_of_pos _ (by decide)
/-- an elder by the four ways -/
def elderAt (way k cell : Int) : Int :=
  if way = 0 then cell % (k + 1) else if way = 1 then k - cell % (k + 1) / 2 else if way = 2 then cell % (if 3 < k + 1 then 3 else k + 1) else (k + cell % 2) / 2
theorem elderAt_lo {way k cell : Int} (hk : 0 ≤ k) : 0 ≤ elderAt way k cell := by
  have h1 := Int.emod_nonneg cell (show k + 1 ≠ 0 by omega)
  have h2 := Int.emod_lt_of_pos cell (show 0 < k + 1 by omega)
  unfold elderAt
  split
  · exact h1
  · split
    · omega
    · split
      · split
        · omega
        · exact Int.emod_nonneg cell (show k + 1 ≠ 0 by omega)
      · omega
theorem elderAt_hi {way k cell : Int} (hk : 0 ≤ k) : elderAt way k cell ≤ k := by
  have h1 := Int.emod_nonneg cell (show k + 1 ≠ 0 by omega)
  have h2 := Int.emod_lt_of_pos cell (show 0 < k + 1 by omega)
  unfold elderAt
  split
  · omega
  · split
    · omega
    · split
      · split
        · omega
        · omega
      · omega
/-- the elders of m + 1 things, drawn -/
def elders (ns : List Int) (m : Nat) : List Nat := (List.range m).map fun (k : Nat) => (elderAt (draw ns 2 % 4) (k : Int) (draw ns (10 + (k : Int)))).toNat
def topOf (ns : List Int) : Int := if draw ns 3 % 3 = 0 then 10 else if draw ns 3 % 3 = 1 then 2 else 1001
def worths (ns : List Int) (n : Nat) : List Nat := (List.range n).map fun (k : Nat) => (draw ns (30 + (k : Int)) % topOf ns).toNat
def count (ns : List Int) (most : Int) : Nat := (1 + draw ns 1 % most).toNat
theorem count_lo (ns : List Int) {most : Int} (h : 1 ≤ most) : 1 ≤ count ns most := by
  have := Int.emod_nonneg (draw ns 1) (show most ≠ 0 by omega)
  unfold count
  omega
theorem count_hi (ns : List Int) {most : Int} (h : 1 ≤ most) : (count ns most : Int) ≤ most := by
  have := Int.emod_nonneg (draw ns 1) (show most ≠ 0 by omega)
  have := Int.emod_lt_of_pos (draw ns 1) (show 0 < most by omega)
  unfold count
  omega
theorem count_eq (ns : List Int) {most : Int} (h : 1 ≤ most) : 1 + draw ns 1 % most = (count ns most : Int) := by
  have := Int.emod_nonneg (draw ns 1) (show most ≠ 0 by omega)
  unfold count
  omega
theorem elders_len (ns : List Int) (m : Nat) : (elders ns m).length = m := by simp [elders]
theorem worths_len (ns : List Int) (m : Nat) : (worths ns m).length = m := by simp [worths]
theorem elders_succ (ns : List Int) (m : Nat) : elders ns (m + 1) = elders ns m ++ [(elderAt (draw ns 2 % 4) (m : Int) (draw ns (10 + (m : Int)))).toNat] := by
  unfold elders
  rw [List.range_succ, List.map_append]
  rfl
theorem topOf_pos (ns : List Int) : 0 < topOf ns := by
  unfold topOf
  split
  · decide
  · split <;> decide
theorem topOf_le (ns : List Int) : topOf ns ≤ 1001 := by
  unfold topOf
  split
  · decide
  · split <;> decide
structure OkT (es ws : List Nat) : Prop where
  len : es.length + 1 = ws.length
  most : ws.length ≤ 14
  up : ∀ (k v : Nat), es[k]? = some v → v ≤ k
  wt : ∀ v ∈ ws, v ≤ 1000
theorem ok_drawn (ns : List Int) {n : Nat} (h : 1 ≤ n) (h2 : n ≤ 14) : OkT (elders ns (n - 1)) (worths ns n) where
  len := by rw [elders_len, worths_len]; omega
  most := by rw [worths_len]; exact h2
  up := fun k v e => by
    unfold elders at e
    rw [List.getElem?_map] at e
    cases q : (List.range (n - 1))[k]? with
    | none => rw [q] at e; cases e
    | some j =>
      rw [q] at e
      obtain ⟨h3, h4⟩ := List.getElem?_eq_some_iff.mp q
      rw [List.getElem_range] at h4
      subst h4
      have e2 : (elderAt (draw ns 2 % 4) (k : Int) (draw ns (10 + (k : Int)))).toNat = v := Option.some.inj e
      have h5 := elderAt_hi (way := draw ns 2 % 4) (cell := draw ns (10 + (k : Int))) (show (0 : Int) ≤ (k : Int) by omega)
      omega
  wt := fun v e => by
    unfold worths at e
    obtain ⟨k, _, rfl⟩ := List.mem_map.mp e
    have h5 := Int.emod_lt_of_pos (draw ns (30 + (k : Int))) (topOf_pos ns)
    have h6 := topOf_le ns
    omega
theorem OkT.pos {es ws : List Nat} (o : OkT es ws) : 0 < ws.length := by have := o.len; omega
/-- the elder of a thing that is not the first -/
def eld (es : List Nat) (t : Nat) : Nat := es.getD (t - 1) 0
theorem eld_lt {es : List Nat} (up : ∀ (k v : Nat), es[k]? = some v → v ≤ k) {t : Nat} (h : 0 < t) : eld es t < t := by
  unfold eld
  rw [List.getD_eq_getElem?_getD]
  cases e : es[t - 1]? with
  | none => exact h
  | some v =>
    have := up _ _ e
    show v < t
    omega
theorem eld_get {es : List Nat} {t : Nat} (h : 0 < t) (h2 : t < es.length + 1) : es[t - 1]? = some (eld es t) := by
  unfold eld
  rw [List.getD_eq_getElem?_getD, List.getElem?_eq_getElem (by omega)]
  rfl
/-! ### depth -/
def depF (es : List Nat) : Nat → Nat → Nat
  | 0, _ => 0
  | f + 1, t => if t = 0 then 0 else depF es f (eld es t) + 1
def depth (es : List Nat) (t : Nat) : Nat := depF es t t
section
variable {es : List Nat} (up : ∀ (k v : Nat), es[k]? = some v → v ≤ k)
include up
theorem depF_fuel : ∀ (f g t : Nat), t ≤ f → t ≤ g → depF es f t = depF es g t
  | 0, 0, t, _, _ => rfl
  | 0, g + 1, t, h, _ => by
    have : t = 0 := by omega
    subst this
    rfl
  | f + 1, 0, t, _, h => by
    have : t = 0 := by omega
    subst this
    rfl
  | f + 1, g + 1, t, h1, h2 => by
    unfold depF
    by_cases h : t = 0
    · rw [if_pos h, if_pos h]
    · rw [if_neg h, if_neg h]
      have := eld_lt up (t := t) (by omega)
      rw [depF_fuel f g (eld es t) (by omega) (by omega)]
theorem depth_zero : depth es 0 = 0 := rfl
theorem depth_step {t : Nat} (h : 0 < t) : depth es t = depth es (eld es t) + 1 := by
  have hl := eld_lt up h
  unfold depth
  obtain ⟨n, rfl⟩ : ∃ n, t = n + 1 := ⟨t - 1, by omega⟩
  rw [show depF es (n + 1) (n + 1) = depF es n (eld es (n + 1)) + 1 from by rw [depF, if_neg (by omega)]]
  rw [depF_fuel up n (eld es (n + 1)) (eld es (n + 1)) (by omega) (Nat.le_refl _)]
theorem depth_le (t : Nat) : depth es t ≤ t := by
  induction t using Nat.strongRecOn with
  | ind t ih =>
    by_cases h : t = 0
    · subst h; exact Nat.le_refl _
    · have hl := eld_lt up (t := t) (by omega)
      have := ih _ hl
      rw [depth_step up (by omega)]
      omega
theorem depth_pos {t : Nat} (h : 0 < t) : 0 < depth es t := by
  rw [depth_step up h]
  omega
end
/-! ### below -/
def climbF (es : List Nat) (t : Nat) : Nat → Nat → Nat
  | 0, h => h
  | f + 1, h => if t < h then climbF es t f (eld es h) else h
def climb (es : List Nat) (t h : Nat) : Nat := climbF es t h h
def isBelow (es : List Nat) (t o : Nat) : Bool := climb es t o == t
def below (es : List Nat) (t : Nat) : List Nat := (List.range (es.length + 1)).filter (isBelow es t)
def worth (es ws : List Nat) (t : Nat) : Nat := ((below es t).map fun o => ws.getD o 0).sum
section
variable {es : List Nat} (up : ∀ (k v : Nat), es[k]? = some v → v ≤ k)
include up
theorem climbF_fuel (t : Nat) : ∀ (f g h : Nat), h ≤ f → h ≤ g → climbF es t f h = climbF es t g h
  | 0, 0, h, _, _ => rfl
  | 0, g + 1, h, h1, _ => by
    have : h = 0 := by omega
    subst this
    rw [climbF, climbF, if_neg (by omega)]
  | f + 1, 0, h, _, h1 => by
    have : h = 0 := by omega
    subst this
    rw [climbF, climbF, if_neg (by omega)]
  | f + 1, g + 1, h, h1, h2 => by
    rw [climbF, climbF]
    by_cases c : t < h
    · rw [if_pos c, if_pos c]
      have := eld_lt up (t := h) (by omega)
      exact climbF_fuel t f g (eld es h) (by omega) (by omega)
    · rw [if_neg c, if_neg c]
theorem climb_step {t h : Nat} (c : t < h) : climb es t h = climb es t (eld es h) := by
  have hl := eld_lt up (t := h) (by omega)
  unfold climb
  obtain ⟨n, rfl⟩ : ∃ n, h = n + 1 := ⟨h - 1, by omega⟩
  rw [climbF, if_pos c]
  exact climbF_fuel up t n (eld es (n + 1)) (eld es (n + 1)) (by omega) (Nat.le_refl _)
omit up in
theorem climb_end {t h : Nat} (c : ¬ t < h) : climb es t h = h := by
  unfold climb
  cases h with
  | zero => rfl
  | succ n => rw [climbF, if_neg c]
theorem isBelow_step {t o : Nat} (c : t < o) : isBelow es t o = isBelow es t (eld es o) := by
  unfold isBelow
  rw [climb_step up c]
omit up in
theorem isBelow_self {t : Nat} : isBelow es t t = true := by
  unfold isBelow
  rw [climb_end (Nat.lt_irrefl t)]
  exact beq_self_eq_true t
omit up in
theorem isBelow_lt {t o : Nat} (c : o < t) : isBelow es t o = false := by
  unfold isBelow
  rw [climb_end (by omega)]
  exact beq_eq_false_iff_ne.mpr (by omega)
end
theorem mem_below {es : List Nat} {t o : Nat} : o ∈ below es t ↔ o < es.length + 1 ∧ isBelow es t o = true := by
  unfold below
  rw [List.mem_filter, List.mem_range]
theorem below_len (es : List Nat) (t : Nat) : (below es t).length ≤ es.length + 1 := by
  have := List.length_filter_le (isBelow es t) (List.range (es.length + 1))
  rw [List.length_range] at this
  exact this
/-- what the program's loop has found ahead of m -/
def belowTo (es : List Nat) (t m : Nat) : List Nat := (List.range m).filter (isBelow es t)
theorem belowTo_start {es : List Nat} (t : Nat) : belowTo es t (t + 1) = [t] := by
  unfold belowTo
  rw [List.range_succ, List.filter_append]
  have h : (List.range t).filter (isBelow es t) = [] := by
    rw [List.filter_eq_nil_iff]
    intro a ha
    rw [isBelow_lt (List.mem_range.mp ha)]
    decide
  rw [h, List.filter_cons, if_pos isBelow_self]
  rfl
theorem belowTo_succ {es : List Nat} (t m : Nat) : belowTo es t (m + 1) = if isBelow es t m = true then belowTo es t m ++ [m] else belowTo es t m := by
  unfold belowTo
  rw [List.range_succ, List.filter_append, List.filter_cons]
  by_cases h : isBelow es t m = true
  · rw [if_pos h, if_pos h]; rfl
  · rw [if_neg h, if_neg h]; exact List.append_nil _
theorem belowTo_end {es : List Nat} (t : Nat) : belowTo es t (es.length + 1) = below es t := rfl
theorem mem_belowTo {es : List Nat} {t m o : Nat} : o ∈ belowTo es t m ↔ o < m ∧ isBelow es t o = true := by
  unfold belowTo
  rw [List.mem_filter, List.mem_range]
theorem belowTo_len (es : List Nat) (t m : Nat) : (belowTo es t m).length ≤ m := by
  have := List.length_filter_le (isBelow es t) (List.range m)
  rw [List.length_range] at this
  exact this
end Fm
/-! The mathematics of fires. No program here. -/
namespace Fm
theorem nodup_len : ∀ (n : Nat) (l : List Nat), l.Nodup → (∀ x ∈ l, x < n) → l.length ≤ n
  | 0, l, _, h => by
    cases l with
    | nil => exact Nat.le_refl _
    | cons a r => exact absurd (h a List.mem_cons_self) (Nat.not_lt_zero _)
  | n + 1, l, nd, h => by
    by_cases hn : n ∈ l
    · have e := List.length_erase_of_mem hn
      have ih := nodup_len n (l.erase n) (nd.erase n) fun x hx => by
        have h1 := (nd.mem_erase_iff.mp hx)
        have h2 := h x h1.2
        have h3 := h1.1
        omega
      have : 0 < l.length := List.length_pos_of_mem hn
      omega
    · have ih := nodup_len n l nd fun x hx => by
        have h2 := h x hx
        have h3 : x ≠ n := fun e => hn (e ▸ hx)
        omega
      omega
/-- what catches fire in a minute -/
def fresh (es b s : List Nat) : List Nat := (List.range' 1 es.length).filter fun t => decide (eld es t ∈ b) && !decide (t ∈ b) && !decide (t ∈ s)
theorem mem_fresh {es b s : List Nat} {t : Nat} : t ∈ fresh es b s ↔ (1 ≤ t ∧ t < es.length + 1) ∧ eld es t ∈ b ∧ t ∉ b ∧ t ∉ s := by
  unfold fresh
  rw [List.mem_filter, List.mem_range'_1]
  simp only [Bool.and_eq_true, decide_eq_true_eq, Bool.not_eq_true', decide_eq_false_iff_not]
  constructor
  · rintro ⟨⟨a1, a2⟩, ⟨a3, a4⟩, a5⟩; exact ⟨⟨a1, by omega⟩, a3, a4, a5⟩
  · rintro ⟨⟨a1, a2⟩, a3, a4, a5⟩; exact ⟨⟨a1, by omega⟩, ⟨a3, a4⟩, a5⟩
theorem fresh_nodup (es b s : List Nat) : (fresh es b s).Nodup := (by exact List.Nodup.sublist List.filter_sublist List.nodup_range')
/-- what the loop over the things has found ahead of thing m + 1 -/
def freshTo (es b s : List Nat) (m : Nat) : List Nat := (List.range' 1 m).filter fun t => decide (eld es t ∈ b) && !decide (t ∈ b) && !decide (t ∈ s)
theorem freshTo_succ (es b s : List Nat) (m : Nat) : freshTo es b s (m + 1) = if (decide (eld es (m + 1) ∈ b) && !decide (m + 1 ∈ b) && !decide (m + 1 ∈ s)) = true then freshTo es b s m ++ [m + 1] else freshTo es b s m := by
  unfold freshTo
  rw [List.range'_concat, List.filter_append, List.filter_cons, show 1 + 1 * m = m + 1 by omega]
  by_cases h : (decide (eld es (m + 1) ∈ b) && !decide (m + 1 ∈ b) && !decide (m + 1 ∈ s)) = true
  · rw [if_pos h, if_pos h]; rfl
  · rw [if_neg h, if_neg h]; exact List.append_nil _
theorem freshTo_len (es b s : List Nat) (m : Nat) : (freshTo es b s m).length ≤ m := by
  have := List.length_filter_le (fun t => decide (eld es t ∈ b) && !decide (t ∈ b) && !decide (t ∈ s)) (List.range' 1 m)
  rw [List.length_range'] at this
  exact this
/-- the shutting off of a minute: a fault (1: no thing, 2: it burns, or is shut off), or what is shut off -/
def shutStep (n : Nat) (o : Option (Option Int)) (b s : List Nat) : Except Nat (List Nat) :=
  match o with
  | some (some z) => if 0 ≤ z ∧ z < (n : Int) then (if z.toNat ∈ b ∨ z.toNat ∈ s then .error 2 else .ok (s ++ [z.toNat])) else .error 1
  | _ => .ok s
/-- so many minutes -/
def run (es : List Nat) (plan : List (Option Int)) : Nat → Except Nat (List (List Nat) × List Nat × List Nat)
  | 0 => .ok ([[0]], [0], [])
  | m + 1 => match run es plan m with
    | .error c => .error c
    | .ok (r, b, s) => match shutStep (es.length + 1) plan[m]? b s with
      | .error c => .error c
      | .ok s' => .ok (r ++ [fresh es b s'], b ++ fresh es b s', s')
theorem run_step {es : List Nat} {plan : List (Option Int)} {m : Nat} {r : List (List Nat)} {b s s' : List Nat} (h : run es plan m = .ok (r, b, s)) (h2 : shutStep (es.length + 1) plan[m]? b s = .ok s') :
    run es plan (m + 1) = .ok (r ++ [fresh es b s'], b ++ fresh es b s', s') := by
  rw [run, h]
  simp only
  rw [h2]
theorem run_fail {es : List Nat} {plan : List (Option Int)} {m c : Nat} {r : List (List Nat)} {b s : List Nat} (h : run es plan m = .ok (r, b, s)) (h2 : shutStep (es.length + 1) plan[m]? b s = .error c) : run es plan (m + 1) = .error c := by
  rw [run, h]
  simp only
  rw [h2]
theorem run_error {es : List Nat} {plan : List (Option Int)} {m c : Nat} (h : run es plan m = .error c) : ∀ k, run es plan (m + k) = .error c
  | 0 => h
  | k + 1 => by
    rw [Nat.add_succ, run, run_error h k]
/-- what holds of every state -/
structure Good (es : List Nat) (r : List (List Nat)) (b s : List Nat) (m : Nat) : Prop where
  len : r.length = m + 1
  nd : b.Nodup
  lt : ∀ x ∈ b, x < es.length + 1
  root : 0 ∈ b
  slt : ∀ x ∈ s, x < es.length + 1
  sum : b.length = (r.map List.length).sum
  head : r[0]? = some [0]
  rlt : ∀ row ∈ r, ∀ x ∈ row, x < es.length + 1
  rln : ∀ row ∈ r, row.length ≤ es.length + 1
  sln : s.length ≤ m
theorem shut_slt {n : Nat} {o : Option (Option Int)} {b s s' : List Nat} (h : shutStep n o b s = .ok s') (hs : ∀ x ∈ s, x < n) : ∀ x ∈ s', x < n := by
  unfold shutStep at h
  split at h
  · split at h
    · split at h
      · cases h
      · cases h
        intro x hx
        rcases List.mem_append.mp hx with hx | hx
        · exact hs x hx
        · have := List.mem_singleton.mp hx
          omega
    · cases h
  · cases h
    exact hs
theorem shut_len {n : Nat} {o : Option (Option Int)} {b s s' : List Nat} (h : shutStep n o b s = .ok s') : s'.length ≤ s.length + 1 := by
  unfold shutStep at h
  split at h
  · split at h
    · split at h
      · cases h
      · cases h
        rw [List.length_append]
        exact Nat.le_refl _
    · cases h
  · cases h
    exact Nat.le_succ _
theorem good_zero (es : List Nat) : Good es [[0]] [0] [] 0 := ⟨rfl, by simp, by simp, by simp, by simp, rfl, rfl, by simp, by simp, Nat.le_refl _⟩
theorem good_step {es : List Nat} {r : List (List Nat)} {b s s' : List Nat} {m : Nat} (g : Good es r b s m) (hs : ∀ x ∈ s', x < es.length + 1) (hl : s'.length ≤ s.length + 1) : Good es (r ++ [fresh es b s']) (b ++ fresh es b s') s' (m + 1) where
  len := by rw [List.length_append, g.len]; rfl
  nd := List.nodup_append.mpr ⟨g.nd, fresh_nodup es b s', fun a ha c hc e => (mem_fresh.mp hc).2.2.1 (e ▸ ha)⟩
  lt := fun x hx => by
    rcases List.mem_append.mp hx with hx | hx
    · exact g.lt x hx
    · exact (mem_fresh.mp hx).1.2
  root := List.mem_append_left _ g.root
  slt := hs
  sum := by simp [g.sum]
  head := by
    have := g.head
    rw [List.getElem?_append_left (by rw [g.len]; omega)]
    exact this
  rlt := fun row hrow x hx => by
    rcases List.mem_append.mp hrow with hrow | hrow
    · exact g.rlt row hrow x hx
    · rw [List.mem_singleton.mp hrow] at hx
      exact (mem_fresh.mp hx).1.2
  rln := fun row hrow => by
    rcases List.mem_append.mp hrow with hrow | hrow
    · exact g.rln row hrow
    · rw [List.mem_singleton.mp hrow]
      exact nodup_len _ _ (fresh_nodup es b s') fun x hx => (mem_fresh.mp hx).1.2
  sln := by have := g.sln; omega
theorem good_run {es : List Nat} {plan : List (Option Int)} : ∀ {m : Nat} {r : List (List Nat)} {b s : List Nat}, run es plan m = .ok (r, b, s) → Good es r b s m
  | 0, r, b, s, h => by
    cases h
    exact good_zero es
  | m + 1, r, b, s, h => by
    rw [run] at h
    cases e : run es plan m with
    | error c => rw [e] at h; cases h
    | ok v =>
      obtain ⟨r0, b0, s0⟩ := v
      rw [e] at h
      simp only at h
      cases e2 : shutStep (es.length + 1) plan[m]? b0 s0 with
      | error c => rw [e2] at h; cases h
      | ok s1 =>
        rw [e2] at h
        cases h
        have g := good_run e
        exact good_step g (shut_slt e2 g.slt) (shut_len e2)
theorem Good.blen {es : List Nat} {r : List (List Nat)} {b s : List Nat} {m : Nat} (g : Good es r b s m) : b.length ≤ es.length + 1 := nodup_len _ b g.nd g.lt
/-- behind the plan nothing is shut off -/
theorem shut_behind {n : Nat} {plan : List (Option Int)} {m : Nat} {b s : List Nat} (h : plan.length ≤ m) : shutStep n plan[m]? b s = .ok s := by
  rw [List.getElem?_eq_none h]
  rfl
/-- the fire is over: nothing more happens -/
theorem run_over {es : List Nat} {plan : List (Option Int)} {m : Nat} {r : List (List Nat)} {b s : List Nat} (h : run es plan m = .ok (r, b, s)) (hm : plan.length ≤ m) (hf : fresh es b s = []) : ∀ k, run es plan (m + k) = .ok (r ++ List.replicate k [], b, s)
  | 0 => by rw [List.replicate_zero, List.append_nil]; exact h
  | k + 1 => by
    have ih := run_over h hm hf k
    rw [Nat.add_succ, run_step ih (shut_behind (by omega)), hf, List.append_nil, List.append_assoc, List.replicate_succ']
/-- if the last minute brought nothing, the fire is over -/
theorem over_of {es : List Nat} {plan : List (Option Int)} {m : Nat} {r : List (List Nat)} {b s : List Nat} (h : run es plan m = .ok (r, b, s)) (hl : r.getLast? = some []) : fresh es b s = [] := by
  cases m with
  | zero => cases h; cases hl
  | succ m =>
    rw [run] at h
    cases e : run es plan m with
    | error c => rw [e] at h; cases h
    | ok v =>
      obtain ⟨r0, b0, s0⟩ := v
      rw [e] at h
      simp only at h
      cases e2 : shutStep (es.length + 1) plan[m]? b0 s0 with
      | error c => rw [e2] at h; cases h
      | ok s1 =>
        rw [e2] at h
        cases h
        rw [List.getLast?_append] at hl
        have hf : fresh es b0 s = [] := by simpa using hl
        rw [hf, List.append_nil]
        exact hf
/-- the last row, where there is one ahead of it -/
theorem last_row {es : List Nat} {plan : List (Option Int)} {m : Nat} {r : List (List Nat)} {b s : List Nat} (h : run es plan m = .ok (r, b, s)) : ∃ x, r.getLast? = some x := by
  have g := good_run h
  have : r ≠ [] := fun e => by have := g.len; rw [e] at this; cases this
  exact ⟨_, List.getLast?_eq_some_getLast this⟩
/-- either over by the minute plan.length + j, or j things more burn -/
theorem over_or {es : List Nat} {plan : List (Option Int)} : ∀ {j : Nat} {r : List (List Nat)} {b s : List Nat}, run es plan (plan.length + j) = .ok (r, b, s) → fresh es b s = [] ∨ j < b.length
  | 0, r, b, s, h => .inr (List.length_pos_of_mem (good_run h).root)
  | j + 1, r, b, s, h => by
    have h0 := h
    rw [Nat.add_succ, run] at h
    cases e : run es plan (plan.length + j) with
    | error c => rw [e] at h; cases h
    | ok v =>
      obtain ⟨r0, b0, s0⟩ := v
      rw [e] at h
      simp only at h
      rw [shut_behind (by omega)] at h
      cases h
      rcases over_or e with h1 | h1
      · left
        rw [h1, List.append_nil]
        exact h1
      · by_cases hf : fresh es b0 s = []
        · left
          rw [hf, List.append_nil]
          exact hf
        · right
          rw [List.length_append]
          have : 0 < (fresh es b0 s).length := List.length_pos_iff.mpr hf
          omega
/-- the whole fire -/
def fire (es : List Nat) (plan : List (Option Int)) : Except Nat (List (List Nat) × List Nat × List Nat) := run es plan (plan.length + (es.length + 1))
theorem fire_over {es : List Nat} {plan : List (Option Int)} {r : List (List Nat)} {b s : List Nat} (h : fire es plan = .ok (r, b, s)) : fresh es b s = [] := by
  rcases over_or h with h1 | h1
  · exact h1
  · have := (good_run h).blen
    omega
/-! ### rows without the empty ones behind -/
def trim (l : List (List Nat)) : List (List Nat) := (l.reverse.dropWhile fun x => x == []).reverse
theorem trim_snoc_nil (l : List (List Nat)) : trim (l ++ [[]]) = trim l := by
  unfold trim
  rw [List.reverse_append, List.reverse_singleton, List.singleton_append, List.dropWhile_cons, if_pos (show (([] : List Nat) == []) = true from rfl)]
theorem trim_snoc {x : List Nat} (l : List (List Nat)) (h : x ≠ []) : trim (l ++ [x]) = l ++ [x] := by
  unfold trim
  rw [List.reverse_append, List.reverse_singleton, List.singleton_append, List.dropWhile_cons, if_neg (by simpa using h)]
  rw [List.reverse_cons, List.reverse_reverse]
theorem trim_rep (l : List (List Nat)) : ∀ k, trim (l ++ List.replicate k []) = trim l
  | 0 => by rw [List.replicate_zero, List.append_nil]
  | k + 1 => by rw [List.replicate_succ', ← List.append_assoc, trim_snoc_nil, trim_rep l k]
theorem dropWhile_nil {α : Type} {p : α → Bool} : ∀ {l : List α}, l.dropWhile p = [] → ∀ x ∈ l, p x = true
  | [], _, x, hx => by cases hx
  | a :: r, h, x, hx => by
    rw [List.dropWhile_cons] at h
    by_cases ha : p a = true
    · rw [if_pos ha] at h
      rcases List.mem_cons.mp hx with e | e
      · rw [e]; exact ha
      · exact dropWhile_nil h x e
    · rw [if_neg ha] at h; cases h
theorem trim_ne {l : List (List Nat)} (h : l[0]? = some [0]) : trim l ≠ [] := by
  cases l with
  | nil => cases h
  | cons a r =>
    have ha : a = [0] := Option.some.inj h
    subst ha
    unfold trim
    rw [List.reverse_cons]
    intro e
    have e2 := congrArg List.reverse e
    rw [List.reverse_reverse, List.reverse_nil] at e2
    have h3 := dropWhile_nil e2
    have := h3 [0] (by simp)
    cases this
/-- the program's fire, at whatever minute it stops -/
theorem run_fire {es : List Nat} {plan : List (Option Int)} {m : Nat} {r : List (List Nat)} {b s : List Nat} (h : run es plan m = .ok (r, b, s)) (hm : plan.length ≤ m) (hl : r.getLast? = some []) : ∃ r', fire es plan = .ok (r', b, s) ∧ trim r' = trim r := by
  have hf := over_of h hl
  by_cases c : m ≤ plan.length + (es.length + 1)
  · obtain ⟨k, hk⟩ : ∃ k, plan.length + (es.length + 1) = m + k := ⟨_, (Nat.add_sub_cancel' c).symm⟩
    refine ⟨r ++ List.replicate k [], ?_, trim_rep r k⟩
    unfold fire
    rw [hk]
    exact run_over h hm hf k
  · obtain ⟨k, hk⟩ : ∃ k, m = plan.length + (es.length + 1) + k := ⟨_, (Nat.add_sub_cancel' (by omega)).symm⟩
    cases e : fire es plan with
    | error c => 
      have := run_error e k
      rw [← hk, h] at this
      cases this
    | ok v =>
      obtain ⟨r', b', s'⟩ := v
      have := run_over e (by omega) (fire_over e) k
      rw [← hk, h] at this
      cases this
      exact ⟨r', rfl, (trim_rep r' k).symm⟩
theorem run_fire_error {es : List Nat} {plan : List (Option Int)} {m c : Nat} (h : run es plan m = .error c) (hm : m ≤ plan.length) : fire es plan = .error c := by
  obtain ⟨k, hk⟩ : ∃ k, plan.length + (es.length + 1) = m + k := ⟨_, (Nat.add_sub_cancel' (by omega)).symm⟩
  unfold fire
  rw [hk]
  exact run_error h k
/-- what a plan saves: the worths of what never burns -/
def saved (ws b : List Nat) : Nat := (((List.range ws.length).filter fun t => !decide (t ∈ b)).map fun t => ws.getD t 0).sum
theorem saved_congr {ws b c : List Nat} (h : ∀ x, x ∈ b ↔ x ∈ c) : saved ws b = saved ws c := by
  unfold saved
  congr 2
  exact List.filter_congr fun x _ => by rw [decide_eq_decide.mpr (h x)]
end Fm
/-! The ground of the proofs: a def's promise by its name (Has, HasM), what reads evaluate to (over Evl), lists of numbers. -/
namespace Fi
open PySem L2 Evl

/-! ### the built-in names that the text does not bind -/
structure Bi (mg : Str → Option Value) : Prop where
  len : mg "len" = none
  range : mg "range" = none
  list : mg "list" = none
  sum : mg "sum" = none
  max : mg "max" = none
  min : mg "min" = none
  isinstance : mg "isinstance" = none
  int : mg "int" = none
  bool : mg "bool" = none
  str : mg "str" = none
  tuple : mg "tuple" = none
  enumerate : mg "enumerate" = none
  ValueError : mg "ValueError" = none

/-! ### a def of the top, a method, by the promise -/
def Has (P : Program) (w : World) (K : PySem.W.Frag) (mg : Str → Option Value) (base : Heap) (CX : CXT) (x : Str) (ps : List Str) (k : Nat) (sp : Sp) : Prop :=
  ∃ f fd, mg x = some (.ref f) ∧ PySem.W.keepIn K (.ref f) = true ∧ Binds K fd ps [] ∧ FnOk P w K mg base CX k f fd ps sp
def HasM (P : Program) (w : World) (K : PySem.W.Frag) (mg : Str → Option Value) (base : Heap) (CX : CXT) (C : Addr) (m : Str) (ps : List Str) (k : Nat) (sp : Sp) : Prop :=
  ∃ f fd, Meth K C m f ∧ Binds K fd ps [] ∧ FnOk P w K mg base CX k f fd ps sp
section
variable {X : Cx} {CX : CXT} {k : Nat} {C : Addr} {ps : List Str} {sp : Sp} {E : XK} {x m : Str} {p pos apos : Pos} {e o : Expr} {es : List Expr} {ta : TE} {t : TA}
theorem Has.call (h : Has X.prog X.w X.K X.mg X.base CX x ps k sp) (hr : Room k X.A) (hg : Gl X x) (hx : Passes CX X E) (ha : PA X (e :: es) t) (hdb : (x == ("__debug__" : Str)) = false := by decide)
    (he : starEach (e :: es) X.env = (false, eval e X.env) :: starEach es X.env := by rfl) (hpl : (backTo pos (starEach es X.env)).any (·.1) = false := by rfl) :
    PE X (.Call (.Name x p) (e :: es) [] pos) (tCall sp [] E t) := by
  obtain ⟨f, fd, hm, hk, hb, F⟩ := h
  exact pe_call F hr hg hm hk hb .nil hx ha hdb he hpl
theorem HasM.call (h : HasM X.prog X.w X.K X.mg X.base CX C m ps k sp) (c : Cls X.K C) (ho : PE X o ta) (hr : Room k X.A) (hx : Passes CX X E) (ha : PA X (e :: es) t) {pl : Sem Bool}
    (hst : starEach (e :: es) X.env = (false, eval e X.env) :: starEach es X.env := by rfl) (hpl : (backTo pos (starEach es X.env)).any (·.1) = false := by rfl)
    (ht : eval (.Call (.Attribute o m apos) (e :: es) [] pos) X.env = (do let ov ← eval o X.env; standAt apos.atName; let (f, first) ← holding [ov] (getMethod ov m pl); callWith pos f first (backTo pos (starEach (e :: es) X.env)) (backToKw pos (keywordEach [] X.env))) := by rfl) :
    PE X (.Call (.Attribute o m apos) (e :: es) [] pos) (tMeth C m sp [] E ta t) := by
  obtain ⟨f, fd, hm, hb, F⟩ := h
  exact pe_meth ho c hm F hr hb .nil hx ha hst hpl ht
theorem HasM.call0 (h : HasM X.prog X.w X.K X.mg X.base CX C m ps k sp) (c : Cls X.K C) (ho : PE X o ta) (hr : Room k X.A) (hx : Passes CX X E) {pl : Sem Bool}
    (ht : eval (.Call (.Attribute o m apos) [] [] pos) X.env = (do let ov ← eval o X.env; standAt apos.atName; let (f, first) ← holding [ov] (getMethod ov m pl); callWith pos f first (backTo pos (starEach [] X.env)) (backToKw pos (keywordEach [] X.env))) := by rfl) :
    PE X (.Call (.Attribute o m apos) [] [] pos) (tMeth C m sp [] E ta tNil) := by
  obtain ⟨f, fd, hm, hb, F⟩ := h
  exact pe_meth0 ho c hm F hr hb .nil hx ht
end

/-! ### a def of the text as it stands behind the top -/
def At (K : PySem.W.Frag) (mg : Str → Option Value) (x : Str) (st : Stmt) (ps : List Str) : Prop := ∃ f fd, Fun K x x st f fd ∧ mg x = some (.ref f) ∧ Binds K fd ps []
def AtM (K : PySem.W.Frag) (C : Addr) (m qual : Str) (st : Stmt) (ps : List Str) : Prop := ∃ f fd, Fun K m qual st f fd ∧ Meth K C m f ∧ Binds K fd ps []
section
variable {P : Program} {w : World} {K : PySem.W.Frag} {mg : Str → Option Value} {base : Heap} {CX : CXT} {k : Nat} {C : Addr} {st : Stmt} {ps : List Str} {sp : Sp} {x m qual : Str}
theorem At.has (D : At K mg x st ps) (h : ∀ f fd, Fun K x x st f fd → FnOk P w K mg base CX k f fd ps sp) : Has P w K mg base CX x ps k sp := by
  obtain ⟨f, fd, F, hm, hb⟩ := D
  exact ⟨f, fd, hm, F.kp, hb, h f fd F⟩
theorem AtM.has (D : AtM K C m qual st ps) (h : ∀ f fd, Fun K m qual st f fd → FnOk P w K mg base CX k f fd ps sp) : HasM P w K mg base CX C m ps k sp := by
  obtain ⟨f, fd, F, hm, hb⟩ := D
  exact ⟨f, fd, hm, hb, h f fd F⟩
theorem Has.imp {sp' : Sp} (h : Has P w K mg base CX x ps k sp) (i : ∀ vs H Q E, sp' vs H Q E → sp vs H Q E) : Has P w K mg base CX x ps k sp' := by
  obtain ⟨f, fd, hm, hk, hb, F⟩ := h
  exact ⟨f, fd, hm, hk, hb, F.imp i⟩
theorem HasM.imp {sp' : Sp} (h : HasM P w K mg base CX C m ps k sp) (i : ∀ vs H Q E, sp' vs H Q E → sp vs H Q E) : HasM P w K mg base CX C m ps k sp' := by
  obtain ⟨f, fd, hm, hb, F⟩ := h
  exact ⟨f, fd, hm, hb, F.imp i⟩
end

/-! ### the facts that k_is finds, put together -/
section
variable {K : PySem.W.Frag} {mg : Str → Option Value} {h : Heap} {C f : Addr} {x m qual : Str} {st : Stmt} {ps : List Str} {oc : Value} {od an : Option Addr} {sl : Array (Option Value)} {kV dc pm cd ct : Value}
theorem at_mk (X : K.In h) (G : h.Ns mainGlobals mg) (a : PySem.W.nsIn K mainGlobals x = some (some (.ref f))) (l : K.lookup f = some ⟨oc, od, .func (PySem.W.fnOf x x (defArgs st) (defBody st) (defScope st) .none kV dc pm an cd ct), sl⟩) (c : PySem.W.codeIn K cd x = true) (k : PySem.W.keepIn K (.ref f) = true)
    (hb : ∀ (kV doc pm : Value) (an : Option Addr) (cdv ct : Value) (us : List Value), us.length = ps.length → bindArgs (PySem.W.fnOf x x (defArgs st) (defBody st) (defScope st) .none kV doc pm an cdv ct) ⟨us, []⟩ = pure (ps.zip us)) : At K mg x st ps :=
  ⟨f, _, fun_mk l c k, PySem.W.mg_of X G a, (fun_mk l c k).binds hb⟩
theorem atm_mk (a : PySem.W.findIn K (.ref C) m = some (some (.ref f))) (i : PySem.W.isFn K (.ref f) = true) (l : K.lookup f = some ⟨oc, od, .func (PySem.W.fnOf m qual (defArgs st) (defBody st) (defScope st) .none kV dc pm an cd ct), sl⟩) (c : PySem.W.codeIn K cd qual = true) (k : PySem.W.keepIn K (.ref f) = true)
    (hb : ∀ (kV doc pm : Value) (an : Option Addr) (cdv ct : Value) (us : List Value), us.length = ps.length → bindArgs (PySem.W.fnOf m qual (defArgs st) (defBody st) (defScope st) .none kV doc pm an cdv ct) ⟨us, []⟩ = pure (ps.zip us)) : AtM K C m qual st ps :=
  ⟨f, _, fun_mk l c k, ⟨a, i, k⟩, (fun_mk l c k).binds hb⟩
end

/-! ### a class made; own exceptions -/
def HasI (P : Program) (w : World) (K : PySem.W.Frag) (mg : Str → Option Value) (base : Heap) (CX : CXT) (C : Addr) (ps : List Str) (k : Nat) (sp : Sp) : Prop :=
  ∃ f fd, Mk K C f ∧ Binds K fd ps [] ∧ FnOk P w K mg base CX k f fd ps sp
def AtI (K : PySem.W.Frag) (C : Addr) (qual : Str) (st : Stmt) (ps : List Str) : Prop := ∃ f fd, Fun K "__init__" qual st f fd ∧ Mk K C f ∧ Binds K fd ps []
/-- what the text's top has left of an own exception class without an __init__ -/
structure Err (K : PySem.W.Frag) (mg : Str → Option Value) (x : Str) (C : Addr) : Prop where
  g : mg x = some (.ref C)
  q : PySem.W.excIn K C [.type "ValueError", .type "Exception", .type "BaseException", .type "object"] "ValueError.__new__" = true
  k : PySem.W.keepIn K (.ref C) = true
  b : PySem.W.subIn K (.ref C) (.type "BaseException") = some true
  t : PySem.W.typeIn K (.ref C) = some (.type "type")
section
variable {K : PySem.W.Frag} {mg : Str → Option Value} {h : Heap} {C f : Addr} {x qual : Str} {st : Stmt} {ps : List Str} {oc : Value} {od an : Option Addr} {sl : Array (Option Value)} {kV dc pm cd ct : Value}
theorem ati_mk (a : PySem.W.findIn K (.ref C) "__init__" = some (some (.ref f))) (i : PySem.W.isFn K (.ref f) = true) (l : K.lookup f = some ⟨oc, od, .func (PySem.W.fnOf "__init__" qual (defArgs st) (defBody st) (defScope st) .none kV dc pm an cd ct), sl⟩) (c : PySem.W.codeIn K cd qual = true) (k : PySem.W.keepIn K (.ref f) = true)
    (mk : PySem.W.makesIn K C = true) (kc : PySem.W.keepIn K (.ref C) = true)
    (hb : ∀ (kV doc pm : Value) (an : Option Addr) (cdv ct : Value) (us : List Value), us.length = ps.length → bindArgs (PySem.W.fnOf "__init__" qual (defArgs st) (defBody st) (defScope st) .none kV doc pm an cdv ct) ⟨us, []⟩ = pure (ps.zip us)) : AtI K C qual st ps :=
  ⟨f, _, fun_mk l c k, ⟨mk, a, i, kc⟩, (fun_mk l c k).binds hb⟩
theorem err_mk (X : K.In h) (G : h.Ns mainGlobals mg) (a : PySem.W.nsIn K mainGlobals x = some (some (.ref C))) (q : PySem.W.excIn K C [.type "ValueError", .type "Exception", .type "BaseException", .type "object"] "ValueError.__new__" = true) (k : PySem.W.keepIn K (.ref C) = true)
    (b : PySem.W.subIn K (.ref C) (.type "BaseException") = some true) (t : PySem.W.typeIn K (.ref C) = some (.type "type")) : Err K mg x C := ⟨PySem.W.mg_of X G a, q, k, b, t⟩
end
section
variable {P : Program} {w : World} {K : PySem.W.Frag} {mg : Str → Option Value} {base : Heap} {CX : CXT} {k : Nat} {C : Addr} {st : Stmt} {ps : List Str} {sp : Sp} {qual : Str}
theorem AtI.has (D : AtI K C qual st ps) (h : ∀ f fd, Fun K "__init__" qual st f fd → FnOk P w K mg base CX k f fd ps sp) : HasI P w K mg base CX C ps k sp := by
  obtain ⟨f, fd, F, hm, hb⟩ := D
  exact ⟨f, fd, hm, hb, h f fd F⟩
end
section
variable {X : Cx} {CX : CXT} {k j : Nat} {C : Addr} {ps : List Str} {sp : Sp} {E : XK} {x m : Str} {p p2 pos : Pos} {e : Expr} {es : List Expr} {t : TA}
theorem HasI.make (h : HasI X.prog X.w X.K X.mg X.base CX C ps k sp) (hr : Room (k + 1) X.A) (hg : Gl X x) (hm : X.mg x = some (.ref C)) (hx : Passes CX X E) (ha : PA X (e :: es) t) (hdb : (x == ("__debug__" : Str)) = false := by decide)
    (he : starEach (e :: es) X.env = (false, eval e X.env) :: starEach es X.env := by rfl) (hpl : (backTo pos (starEach es X.env)).any (·.1) = false := by rfl) : PE X (.Call (.Name x p) (e :: es) [] pos) (tMake C sp [] E t) := by
  obtain ⟨f, fd, M, hb, F⟩ := h
  exact pe_make M F hr hg hm hb .nil hx ha hdb he hpl
theorem Err.made (T : Err X.K X.mg x C) (hg : Gl X x) (hdb : (x == ("__debug__" : Str)) = false := by decide) : PMk X (.Call (.Name x p) [.Constant (.str m) j p2] [] pos) (fun _ H Q => Q (.ref C) none H) :=
  pmk_own PySem.F.excBase_ValueError T.q T.g T.k (raises_own T.b T.t) hg hdb
theorem pe_gint {i : Int} {tk : Tok} (hg : Gl X x) (h : X.mg x = some (.int i tk)) (hd : (x == ("__debug__" : Str)) = false := by decide) : PE X (.Name x pos) (tC (.int i)) := pe_glob hg h ⟨tk, rfl⟩ hd
theorem pe_gstr {i : Str} {tk : Tok} (hg : Gl X x) (h : X.mg x = some (.str i tk)) (hd : (x == ("__debug__" : Str)) = false := by decide) : PE X (.Name x pos) (tC (.str i)) := pe_glob hg h ⟨tk, rfl⟩ hd
theorem pe_gcls {C : Addr} (hg : Gl X x) (h : X.mg x = some (.ref C)) (hd : (x == ("__debug__" : Str)) = false := by decide) : PE X (.Name x pos) (tC (.ref C)) := pe_glob hg h rfl hd
end

theorem bi_mk {K : PySem.W.Frag} {mg : Str → Option Value} {h : Heap} (X : K.In h) (G : h.Ns mainGlobals mg) (z1 : PySem.W.nsIn K mainGlobals "len" = some none) (z2 : PySem.W.nsIn K mainGlobals "range" = some none) (z3 : PySem.W.nsIn K mainGlobals "list" = some none) (z4 : PySem.W.nsIn K mainGlobals "sum" = some none)
    (z5 : PySem.W.nsIn K mainGlobals "max" = some none) (z6 : PySem.W.nsIn K mainGlobals "min" = some none) (z7 : PySem.W.nsIn K mainGlobals "isinstance" = some none) (z8 : PySem.W.nsIn K mainGlobals "int" = some none) (z9 : PySem.W.nsIn K mainGlobals "bool" = some none) (z10 : PySem.W.nsIn K mainGlobals "str" = some none)
    (z11 : PySem.W.nsIn K mainGlobals "tuple" = some none) (z12 : PySem.W.nsIn K mainGlobals "enumerate" = some none) (z13 : PySem.W.nsIn K mainGlobals "ValueError" = some none) : Bi mg :=
  ⟨PySem.W.mg_none_of X G z1, PySem.W.mg_none_of X G z2, PySem.W.mg_none_of X G z3, PySem.W.mg_none_of X G z4, PySem.W.mg_none_of X G z5, PySem.W.mg_none_of X G z6, PySem.W.mg_none_of X G z7, PySem.W.mg_none_of X G z8, PySem.W.mg_none_of X G z9, PySem.W.mg_none_of X G z10, PySem.W.mg_none_of X G z11, PySem.W.mg_none_of X G z12, PySem.W.mg_none_of X G z13⟩

/-! ### rules with the written part named (within a comprehension's block it must not hang on the block) -/
section
variable {X : Cx} {K : PySem.W.Frag} {e : Expr} {f : Str} {pos : Pos} {ta : TE}
theorem ix_listK (hK : X.K = K := by rfl) : IxR X (rIxL K) := by subst hK; exact ix_list
theorem ix_tupK (hK : X.K = K := by rfl) : IxR X (rIxT K) := by subst hK; exact ix_tup
theorem sl_listK (hK : X.K = K := by rfl) : SlR X (rSlL K) := by subst hK; exact sl_list
theorem op_inK (hK : X.K = K := by rfl) : OpR X (compareOp .In) (rIn K false) := by subst hK; exact op_in_seq
theorem op_notInK (hK : X.K = K := by rfl) : OpR X (compareOp .NotIn) (rIn K true) := by subst hK; exact op_notIn_seq
theorem op_eqDK (hu : X.A.units + 64 < cLine) (hK : X.K = K := by rfl) : OpR X (compareOp .Eq) (rEqD K) := by subst hK; exact op_eqD hu
theorem op_neDK (hu : X.A.units + 64 < cLine) (hK : X.K = K := by rfl) : OpR X (compareOp .NotEq) (rNeD K) := by subst hK; exact op_neD hu
theorem call_lenK (hK : X.K = K := by rfl) : CallR X (.builtin "len") (rLenS K) := by subst hK; exact call_len_seq
theorem call_listK (hK : X.K = K := by rfl) : CallR X (.type "list") (rListS K) := by subst hK; exact call_list_of
theorem call_isiK1 (hK : X.K = K := by rfl) : CallR X (.builtin "isinstance") (rIsi K) := by subst hK; exact call_isi
theorem cr_sumK (hc : X.calm = true) (hK : X.K = K := by rfl) : CallR X (.builtin "sum") (rSum K) := by subst hK; exact cr_sum hc
theorem cr_maxK (hc : X.calm = true) (hK : X.K = K := by rfl) : CallR X (.builtin "max") (rMax K) := by subst hK; exact cr_max hc
theorem mt_indexK (hK : X.K = K := by rfl) : MtR X "list.index" (rIndex K) := by subst hK; exact mt_index
theorem pe_fldK (he : PE X e ta) (hb : attributeBase e f X.env (eval e X.env) = eval e X.env) (hK : X.K = K := by rfl) : PE X (.Attribute e f pos) (tFld K ta f) := by subst hK; exact pe_fld he hb
end

/-! ### more of what evaluates to what -/
section
variable {K : PySem.W.Frag} {σ : L2.St} {H H' : Hp} {ta tb te tc : TE} {t u : TT} {x y z v w' : V} {r r' : R2} {a C dx : Addr} {fs : List (Str × V)} {f m : Str}
theorem ev_fld (h : Ev te σ H (.ref a)) (ho : H a = some (.ins C dx fs)) (hc : Cls K C) (hn : NoAttr K C f) (hl : fs.lookup f = some v) : Ev (tFld K te f) σ H v := fun H1 e Q q =>
  h H1 e _ fun H2 e2 => ⟨a, C, dx, fs, v, rfl, e2 a _ (e a _ ho), hc, hn, hl, q H2 e2⟩
theorem ev_meth {sp : Sp} {vs : List V} {E : XK} {tA : TA} (h : Ev te σ H (.ref a)) (ho : H a = some (.ins C dx fs)) (hl : fs.lookup m = none) (hA : EvA tA σ H vs) (hs : SpV sp (.ref a :: vs) H z) : Ev (tMeth C m sp [] E te tA) σ H z := fun H1 e Q q =>
  h H1 e _ fun H2 e2 => ⟨a, dx, fs, rfl, e2 a _ (e a _ ho), hl, hA H2 (e.trans e2) _ fun H3 e3 => by
    rw [List.append_nil]
    exact hs H3 ((e.trans e2).trans e3) Q (fun H4 e4 => q H4 ((e2.trans e3).trans e4)) E⟩
theorem el_meth {sp : Sp} {vs xs : List V} {E : XK} {tA : TA} (h : Ev te σ H (.ref a)) (ho : H a = some (.ins C dx fs)) (hl : fs.lookup m = none) (hA : EvA tA σ H vs) (hs : SpL sp (.ref a :: vs) H xs) : EvL (tMeth C m sp [] E te tA) σ H xs := fun H1 e Q q =>
  h H1 e _ fun H2 e2 => ⟨a, dx, fs, rfl, e2 a _ (e a _ ho), hl, hA H2 (e.trans e2) _ fun H3 e3 => by
    rw [List.append_nil]
    exact hs H3 ((e.trans e2).trans e3) Q (fun p H4 hp e4 h4 => q p H4 (fresh_back (e2.trans e3) hp) ((e2.trans e3).trans e4) h4) E⟩
theorem ev_call0 {sp : Sp} {vs : List V} {E : XK} {tA : TA} (h : EvA tA σ H vs) (hs : SpV sp vs H z) : Ev (tCall sp [] E tA) σ H z := ev_call h (by rw [List.append_nil]; exact hs)
theorem el_call0 {sp : Sp} {vs xs : List V} {E : XK} {tA : TA} (h : EvA tA σ H vs) (hs : SpL sp vs H xs) : EvL (tCall sp [] E tA) σ H xs := el_call h (by rw [List.append_nil]; exact hs)
theorem ev_chain {k1 k2 : Bool} (ha : Ev ta σ H x) (hb : Ev tb σ H y) (hc : k1 = true → Ev tc σ H w') (h1 : RV r x y H (.bl k1)) (h2 : k1 = true → RV r' y w' H (.bl k2)) : Ev (tChain r r' ta tb tc) σ H (.bl (k1 && k2)) := fun H1 e Q q =>
  ha H1 e _ fun H2 e2 => hb H2 (e.trans e2) _ fun H3 e3 => h1 H3 ((e.trans e2).trans e3) _ fun H4 e4 => ⟨k1, rfl, by
    cases k1 with
    | true =>
      show tc σ H4 fun w1 H5 => r' y w1 H5 Q
      exact hc rfl H4 (((e.trans e2).trans e3).trans e4) _ fun H5 e5 => h2 rfl H5 ((((e.trans e2).trans e3).trans e4).trans e5) _ fun H6 e6 => q H6 ((((e2.trans e3).trans e4).trans e5).trans e6)
    | false =>
      show Q (.bl false) H4
      exact q H4 ((e2.trans e3).trans e4)⟩
/-- len of a list -/
theorem ev_lenS {p : Addr} {xs : List V} (ha : Ev ta σ H (.ref p)) (h : SqL K H p xs) : Ev (tCB (rLenS K) (tCons ta tNil)) σ H (.int (xs.length : Int)) := ev_len ha h
/-- list(x) of a list -/
theorem el_listS {p : Addr} {xs : List V} (ha : Ev ta σ H (.ref p)) (h : SqL K H p xs) : EvL (tCB (rListS K) (tCons ta tNil)) σ H xs := el_list ha h
/-- list(x) of a new list -/
theorem el_listN {xs : List V} (ha : EvL ta σ H xs) : EvL (tCB (rListS K) (tCons ta tNil)) σ H xs := fun H1 e Q q =>
  ha H1 e _ fun p H2 _ e2 h2 => ⟨p, xs, rfl, .inl (sq_of h2), fun l hl => q l _ (fresh_back e2 hl) (e2.trans (Ex.new hl)) upd_same⟩
/-- a new list handed to a built-in -/
theorem ev_cbL {rr : List V → Hp → VK → Prop} {xs : List V} (h : EvL ta σ H xs) (hr : ∀ p H1, H1 p = some (.lst xs) → Ex H H1 → RC rr [.ref p] H1 z) : Ev (tCB rr (tCons ta tNil)) σ H z := fun H1 e Q q =>
  h H1 e _ fun p H2 _ e2 hp => hr p H2 hp (e.trans e2) H2 (Ex.refl H2) Q fun H3 e3 => q H3 (e2.trans e3)
theorem ev_opIx {p : Addr} {xs : List V} {i : Int} (ha : Ev ta σ H (.ref p)) (hb : Ev tb σ H (.int i)) (h : SqL K H p xs) (hi : atI xs i = some v) : Ev (tOp (rIxL K) ta tb) σ H v := ev_op ha hb (rv_ixL h hi)
theorem ev_opIxT {p : Addr} {xs : List V} {i : Int} (ha : Ev ta σ H (.ref p)) (hb : Ev tb σ H (.int i)) (h : SqT K H p xs) (hi : atI xs i = some v) : Ev (tOp (rIxT K) ta tb) σ H v := ev_op ha hb (rv_ixT h hi)
/-- an item of a new list -/
theorem ev_opIxN {xs : List V} {i : Int} (ha : EvL ta σ H xs) (hb : Ev tb σ H (.int i)) (hi : atI xs i = some v) : Ev (tOp (rIxL K) ta tb) σ H v := ev_opL1 ha (fun H1 e => hb.mono e) fun p H1 h e => rv_ixL (sq_of h) hi

/-! anything that comes of a read, told of the heaps ahead and behind -/
def EvP (te : TE) (σ : L2.St) (H : Hp) (P : V → Hp → Prop) : Prop := ∀ H1, Ex H H1 → ∀ Q : VK, (∀ v H2, Ex H1 H2 → P v H2 → Q v H2) → te σ H1 Q
def SpP (sp : Sp) (vs : List V) (H : Hp) (P : V → Hp → Prop) : Prop := ∀ H1, Ex H H1 → ∀ Q : VK, (∀ v H2, Ex H1 H2 → P v H2 → Q v H2) → ∀ E : XK, sp vs H1 Q E
def RetP (P : V → Hp → Prop) (H : Hp) (Q : VK) : Prop := ∀ v H2, Ex H H2 → P v H2 → Q v H2
theorem ep_call0 {sp : Sp} {vs : List V} {P : V → Hp → Prop} {E : XK} {tA : TA} (h : EvA tA σ H vs) (hs : SpP sp vs H P) : EvP (tCall sp [] E tA) σ H P := fun H1 e Q q =>
  h H1 e _ fun H2 e2 => by
    rw [List.append_nil]
    exact hs H2 (e.trans e2) Q (fun v H3 e3 p => q v H3 (e2.trans e3) p) E
theorem ep_meth {sp : Sp} {vs : List V} {P : V → Hp → Prop} {E : XK} {tA : TA} (h : Ev te σ H (.ref a)) (ho : H a = some (.ins C dx fs)) (hl : fs.lookup m = none) (hA : EvA tA σ H vs) (hs : SpP sp (.ref a :: vs) H P) : EvP (tMeth C m sp [] E te tA) σ H P := fun H1 e Q q =>
  h H1 e _ fun H2 e2 => ⟨a, dx, fs, rfl, e2 a _ (e a _ ho), hl, hA H2 (e.trans e2) _ fun H3 e3 => by
    rw [List.append_nil]
    exact hs H3 ((e.trans e2).trans e3) Q (fun v H4 e4 h4 => q v H4 ((e2.trans e3).trans e4) h4) E⟩
theorem ep_make {sp : Sp} {vs : List V} {P : V → Hp → Prop} {E : XK} {tA : TA} (h : EvA tA σ H vs)
    (hs : ∀ H1, Ex H H1 → ∀ x dx, H1 x = none → H1 dx = none → dx ≠ x → ∀ Q : VK, (∀ H2, Ex H1 H2 → P (.ref x) H2 → Q (.ref x) H2) → ∀ E : XK, sp (.ref x :: vs) (upd (upd H1 dx (.own x)) x (.ins C dx [])) (fun v H2 => v = .non ∧ Q (.ref x) H2) E) :
    EvP (tMake C sp [] E tA) σ H P := fun H1 e Q q => h H1 e _ fun H2 e2 x dx hx hdx ne => by
  rw [List.append_nil]
  exact hs H2 (e.trans e2) x dx hx hdx ne Q (fun H3 e3 p => q _ H3 (e2.trans e3) p) E
variable {D : Ends} {tu tw tz : TS}
/-- a method that may raise, called as a statement -/
theorem q_methX {sp : Sp} {vs : List V} {E : XK} {tA : TA} (h : Ev te σ H (.ref a)) (ho : H a = some (.ins C dx fs)) (hl : fs.lookup m = none) (hA : EvA tA σ H vs) (k : ∀ H1, Ex H H1 → sp (.ref a :: vs) H1 (fun _ H2 => tz D σ H2) E) :
    tSeq (tDrop (tMeth C m sp [] E te tA)) tz D σ H := h H (Ex.refl H) _ fun H1 e1 => ⟨a, dx, fs, rfl, e1 a _ ho, hl, hA H1 e1 _ fun H2 e2 => by
  rw [List.append_nil]
  exact k H2 (e1.trans e2)⟩
/-- o.f = e -/
theorem q_fld {P : V → Hp → Prop} (h : EvP te σ H P) (k : ∀ v H1, Ex H H1 → P v H1 → ∃ dx fs, Ev ta σ H1 (.ref a) ∧ H1 a = some (.ins C dx fs) ∧ Cls K C ∧ NoAttr K C f ∧ fs.length < 1000 ∧ ∀ H2, Ex H1 H2 → tz D σ (upd H2 a (.ins C dx (putF f v fs)))) :
    tSeq (sFld K ta te f) tz D σ H := h H (Ex.refl H) _ fun v H1 e1 p => by
  obtain ⟨dx, fs, h2, h3, h4, h5, h6, h7⟩ := k v H1 e1 p
  exact h2 H1 (Ex.refl H1) _ fun H2 e2 => ⟨a, C, dx, fs, rfl, e2 a _ h3, h4, h5, h6, h7 H2 e2⟩
theorem s_fld {P : V → Hp → Prop} (h : EvP te σ H P) (k : ∀ v H1, Ex H H1 → P v H1 → ∃ dx fs, Ev ta σ H1 (.ref a) ∧ H1 a = some (.ins C dx fs) ∧ Cls K C ∧ NoAttr K C f ∧ fs.length < 1000 ∧ ∀ H2, Ex H1 H2 → D.nx σ (upd H2 a (.ins C dx (putF f v fs)))) :
    sFld K ta te f D σ H := q_fld (tz := fun D σ H => D.nx σ H) (D := D) h k
theorem s_clear {l : Addr} {xs : List V} (hl : H l = some (.lst xs)) (ha : Ev ta σ H (.ref l)) (k : ∀ H1, Ex H H1 → D.nx σ (upd H1 l (.lst []))) : tDrop (tBM0 K "list" rClear ta) D σ H := ha H (Ex.refl H) _ fun H1 e1 =>
  ⟨Or.inl ⟨rfl, xs, sq_of (e1 l _ hl)⟩, l, xs, rfl, rfl, e1 l _ hl, k H1 e1⟩
theorem q_clear {l : Addr} {xs : List V} (hl : H l = some (.lst xs)) (ha : Ev ta σ H (.ref l)) (k : ∀ H1, Ex H H1 → tz D σ (upd H1 l (.lst []))) : tSeq (tDrop (tBM0 K "list" rClear ta)) tz D σ H := s_clear (D := { D with nx := tz D }) hl ha k
theorem no {p : Prop} (h : false = true) : p := Bool.noConfusion h
theorem no' {p : Prop} (h : true = false) : p := Bool.noConfusion h
theorem EvL.p {xs : List V} (h : EvL te σ H xs) : EvP te σ H (fun v H2 => ∃ p, v = .ref p ∧ H p = none ∧ H2 p = some (.lst xs)) := fun H1 e Q q => h H1 e _ fun p H2 hp e2 h2 => q _ H2 e2 ⟨p, rfl, fresh_back e hp, h2⟩
/-- two new lists in one -/
theorem el_catNN {xs ys : List V} (ha : EvL ta σ H xs) (hb : EvL tb σ H ys) (hz : xs.length + ys.length ≤ 100000) : EvL (tOp rCat ta tb) σ H (xs ++ ys) := fun H1 e Q q =>
  ha H1 e _ fun p H2 hp e2 h2 => hb H2 (e.trans e2) _ fun p2 H3 hp2 e3 h3 => ⟨p, p2, xs, ys, rfl, rfl, e3 p _ h2, h3, sz_of hz, fun l hl => q l _ (fresh_back (e2.trans e3) hl) ((e2.trans e3).trans (Ex.new hl)) upd_same⟩
/-- a list that stands (tracked), a new one -/
theorem el_catVN {p : Addr} {xs ys : List V} (ha : Ev ta σ H (.ref p)) (h : H p = some (.lst xs)) (hb : EvL tb σ H ys) (hz : xs.length + ys.length ≤ 100000) : EvL (tOp rCat ta tb) σ H (xs ++ ys) := fun H1 e Q q =>
  ha H1 e _ fun H2 e2 => hb H2 (e.trans e2) _ fun p2 H3 hp2 e3 h3 => ⟨p, p2, xs, ys, rfl, rfl, e3 p _ (e2 p _ (e p _ h)), h3, sz_of hz, fun l hl => q l _ (fresh_back (e2.trans e3) hl) ((e2.trans e3).trans (Ex.new hl)) upd_same⟩
theorem s_asgP {i : Nat} {P : V → Hp → Prop} (h : EvP te σ H P) (k : ∀ v H1, Ex H H1 → P v H1 → D.nx (σ.set i (some v)) H1) : tAsg te (gName i) D σ H := h H (Ex.refl H) _ fun v H1 e p => k v H1 e p
theorem q_asgP {i : Nat} {P : V → Hp → Prop} (h : EvP te σ H P) (k : ∀ v H1, Ex H H1 → P v H1 → tz D (σ.set i (some v)) H1) : tSeq (tAsg te (gName i)) tz D σ H := s_asgP (D := { D with nx := tz D }) h k
theorem s_retP {P : V → Hp → Prop} (h : EvP te σ H P) (k : ∀ v H1, Ex H H1 → P v H1 → D.rt v H1) : tRet te D σ H := h H (Ex.refl H) _ k
end

/-! ### lists of numbers -/
def vi (l : List Nat) : List V := l.map fun (n : Nat) => V.int (n : Int)
theorem vi_nil : vi [] = [] := rfl
theorem vi_cons (n : Nat) (l : List Nat) : vi (n :: l) = V.int (n : Int) :: vi l := rfl
theorem vi_app (l m : List Nat) : vi (l ++ m) = vi l ++ vi m := List.map_append
theorem vi_len (l : List Nat) : (vi l).length = l.length := List.length_map _
theorem vi_ints (l : List Nat) : vi l = (l.map fun (n : Nat) => (n : Int)).map V.int := by
  unfold vi
  rw [List.map_map]
  rfl
theorem vi_get {l : List Nat} {i n : Nat} (h : l[i]? = some n) : (vi l)[i]? = some (V.int (n : Int)) := by
  unfold vi
  rw [List.getElem?_map, h]
  rfl
theorem vi_get_of {l : List Nat} {i : Nat} {x : V} (h : (vi l)[i]? = some x) : ∃ n, l[i]? = some n ∧ x = V.int (n : Int) := by
  unfold vi at h
  rw [List.getElem?_map] at h
  cases e : l[i]? with
  | none => rw [e] at h; cases h
  | some n => rw [e] at h; exact ⟨n, rfl, (Option.some.inj h).symm⟩
theorem vi_at {l : List Nat} {i : Int} {j n : Nat} (e : i = (j : Int)) (h : l[j]? = some n) : atI (vi l) i = some (V.int (n : Int)) := at_of e (vi_get h)
theorem vi_flat (l : List Nat) : (vi l).all flatV = true := by
  induction l with
  | nil => rfl
  | cons n r ih => rw [vi_cons, List.all_cons, ih]; rfl
theorem eqV_nat (n m : Nat) : eqV (V.int (n : Int)) (V.int (m : Int)) = decide (n = m) := by
  show (((n : Int) == (m : Int)) : Bool) = _
  by_cases h : n = m
  · subst h; simp
  · have : ¬ ((n : Int) = (m : Int)) := by omega
    simp [h, this]
theorem vi_in (l : List Nat) (n : Nat) : inV (V.int (n : Int)) (vi l) = decide (n ∈ l) := by
  unfold inV
  induction l with
  | nil => simp [vi]
  | cons m r ih =>
    rw [vi_cons, List.any_cons, ih, eqV_nat]
    by_cases h : n = m
    · subst h; simp
    · by_cases h2 : n ∈ r
      · simp [h2]
      · have h3 : ¬ m = n := fun e => h e.symm
        simp [h, h2, h3]
theorem vi_inj : ∀ {l m : List Nat}, vi l = vi m → l = m
  | [], [], _ => rfl
  | [], _ :: _, h => by simp [vi] at h
  | _ :: _, [], h => by simp [vi] at h
  | a :: l, b :: m, h => by
    rw [vi_cons, vi_cons] at h
    injection h with h1 h2
    injection h1 with h1
    have : a = b := by omega
    rw [this, vi_inj h2]
theorem sum_cast (l : List Nat) : (l.map fun (n : Nat) => (n : Int)).sum = ((l.sum : Nat) : Int) := by
  induction l with
  | nil => rfl
  | cons n r ih => rw [List.map_cons, List.sum_cons, List.sum_cons, ih]; omega
end Fi
/-! More readings: data compared, isinstance, min, tuples and comprehensions made. -/
namespace Fi
open PySem L2 Evl
/-! ### data as a whole -/
def dI (l : List Nat) : PyData := .list (l.map fun (n : Nat) => PyData.int (n : Int))
theorem dpAll_vi {K : PySem.W.Frag} {H : Hp} : ∀ l : List Nat, DpAll K H (vi l) (l.map fun (n : Nat) => PyData.int (n : Int))
  | [] => .nil
  | n :: l => .cons (.int _) (dpAll_vi l)
theorem dp_vi {K : PySem.W.Frag} {H : Hp} {p : Addr} {l : List Nat} (h : SqL K H p (vi l)) : Dp K H (.ref p) (dI l) := .lst h (dpAll_vi l)
theorem canAll_ints : ∀ l : List Nat, PyData.canLayAll0 (l.map fun (n : Nat) => PyData.int (n : Int)) = true
  | [] => by simp [PyData.canLayAll0]
  | n :: l => by simp [PyData.canLayAll0, PyData.canLay0, canAll_ints l]
theorem depthAll_ints : ∀ l : List Nat, PyData.depthAll (l.map fun (n : Nat) => PyData.int (n : Int)) = 0
  | [] => by simp [PyData.depthAll]
  | n :: l => by simp [PyData.depthAll, PyData.depth, depthAll_ints l]
theorem can_dI (l : List Nat) : PyData.canLay0 (dI l) = true := by simp [dI, PyData.canLay0, canAll_ints]
theorem depth_dI (l : List Nat) : PyData.depth (dI l) = 1 := by simp [dI, PyData.depth, depthAll_ints]
theorem shaped_dI (l : List Nat) : SeqAt.shaped (dI l) = true := by
  unfold SeqAt.shaped
  rw [can_dI, depth_dI]
  rfl
theorem eqvAll_ints : ∀ l m : List Nat, PyData.eqvAll (l.map fun (n : Nat) => PyData.int (n : Int)) (m.map fun (n : Nat) => PyData.int (n : Int)) = decide (l = m)
  | [], [] => by simp [PyData.eqvAll]
  | [], _ :: _ => by simp [PyData.eqvAll]
  | _ :: _, [] => by simp [PyData.eqvAll]
  | a :: l, b :: m => by
    rw [List.map_cons, List.map_cons, PyData.eqvAll, eqvAll_ints l m]
    have e : PyData.eqv (.int (a : Int)) (.int (b : Int)) = decide (a = b) := by
      rw [PyData.eqv]
      by_cases h : a = b
      · subst h; simp
      · have : ¬ ((a : Int) = (b : Int)) := by omega
        simp [h, this]
    rw [e]
    by_cases h : a = b
    · by_cases h2 : l = m
      · simp [h, h2]
      · simp [h, h2]
    · simp [h]
theorem eqv_dI (l m : List Nat) : PyData.eqv (dI l) (dI m) = decide (l = m) := by
  unfold dI
  rw [PyData.eqv, eqvAll_ints]
theorem eqv_dII (a b c d : List Nat) : PyData.eqv (.list [dI a, dI b]) (.list [dI c, dI d]) = (decide (a = c) && decide (b = d)) := by
  rw [PyData.eqv, PyData.eqvAll, PyData.eqvAll, PyData.eqvAll, eqv_dI, eqv_dI, Bool.and_true]
theorem shaped_dII (a b : List Nat) : SeqAt.shaped (.list [dI a, dI b]) = true := by
  unfold SeqAt.shaped
  simp [PyData.canLay0, PyData.canLayAll0, can_dI, PyData.depth, PyData.depthAll, depth_dI]
section
variable {K : PySem.W.Frag} {σ : L2.St} {H H' : Hp} {ta tb te : TE} {t : TT} {x y z v : V}
theorem rv_neD {d e : PyData} (hd : ∀ H1, Ex H H1 → Dp K H1 x d) (he : ∀ H1, Ex H H1 → Dp K H1 y e) (sd : SeqAt.shaped d = true) (se : SeqAt.shaped e = true) : RV (rNeD K) x y H (.bl (!PyData.eqv d e)) := fun H1 e1 Q q =>
  ⟨d, e, hd H1 e1, he H1 e1, sd, se, q H1 (Ex.refl H1)⟩
theorem rv_eqD {d e : PyData} (hd : ∀ H1, Ex H H1 → Dp K H1 x d) (he : ∀ H1, Ex H H1 → Dp K H1 y e) (sd : SeqAt.shaped d = true) (se : SeqAt.shaped e = true) : RV (rEqD K) x y H (.bl (PyData.eqv d e)) := fun H1 e1 Q q =>
  ⟨d, e, hd H1 e1, he H1 e1, sd, se, q H1 (Ex.refl H1)⟩
/-- two lists of numbers that stand -/
theorem rv_neI {p q : Addr} {l m : List Nat} (h1 : SqL K H p (vi l)) (h2 : SqL K H q (vi m)) : RV (rNeD K) (.ref p) (.ref q) H (.bl (!decide (l = m))) := by
  rw [← eqv_dI]
  exact rv_neD (fun H1 e => dp_vi (ex_l e h1)) (fun H1 e => dp_vi (ex_l e h2)) (shaped_dI l) (shaped_dI m)
theorem rv_eqI {p q : Addr} {l m : List Nat} (h1 : SqL K H p (vi l)) (h2 : SqL K H q (vi m)) : RV (rEqD K) (.ref p) (.ref q) H (.bl (decide (l = m))) := by
  rw [← eqv_dI]
  exact rv_eqD (fun H1 e => dp_vi (ex_l e h1)) (fun H1 e => dp_vi (ex_l e h2)) (shaped_dI l) (shaped_dI m)
/-- a list against the empty list, made on the way -/
theorem ev_neNil {p : Addr} {l : List Nat} (ha : Ev ta σ H (.ref p)) (h : SqL K H p (vi l)) : Ev (tOp (rNeD K) ta (tLst tNil)) σ H (.bl (!decide (l = []))) :=
  ev_opL ha (el_lst ea_nil (Nat.zero_le _)) fun q H1 hq e => rv_neI (ex_l e h) (sq_of (xs := vi []) hq)
theorem ev_eqNil {p : Addr} {l : List Nat} (ha : Ev ta σ H (.ref p)) (h : SqL K H p (vi l)) : Ev (tOp (rEqD K) ta (tLst tNil)) σ H (.bl (decide (l = []))) :=
  ev_opL ha (el_lst ea_nil (Nat.zero_le _)) fun q H1 hq e => rv_eqI (ex_l e h) (sq_of (xs := vi []) hq)
/-- a new list against the empty list -/
theorem ev_neNilN {l : List Nat} (ha : EvL ta σ H (vi l)) : Ev (tOp (rNeD K) ta (tLst tNil)) σ H (.bl (!decide (l = []))) :=
  ev_opLL ha (el_lst ea_nil (Nat.zero_le _)) fun p q H1 hp hq e => rv_neI (sq_of hp) (sq_of (xs := vi []) hq)
theorem ev_eqNilN {l : List Nat} (ha : EvL ta σ H (vi l)) : Ev (tOp (rEqD K) ta (tLst tNil)) σ H (.bl (decide (l = []))) :=
  ev_opLL ha (el_lst ea_nil (Nat.zero_le _)) fun p q H1 hp hq e => rv_eqI (sq_of hp) (sq_of (xs := vi []) hq)
/-! ### isinstance, min, max, sum by values -/
theorem rc_isi {c : V} {tt u : Value} {b : Bool} (hc : ClsV c u) (ht : ∀ H1, Ex H H1 → TyX K H1 x tt) (hk : PySem.W.kitOne K tt u = some b) : RC (rIsi K) [x, c] H (.bl b) := fun H1 e Q q => ⟨x, c, tt, u, b, rfl, hc, ht H1 e, hk, q H1 (Ex.refl H1)⟩
theorem ev_isiInt {i : Int} {b : Bool} {s : String} (h : Ev ta σ H (.int i)) (hk : kitB "int" s = some b) : Ev (tCB (rIsi K) (tCons ta (tCons (tC (.ty s)) tNil))) σ H (.bl b) :=
  ev_cb (ea_cons h (ea_cons ev_c ea_nil)) (rc_isi (.ty s) (fun _ _ => .base (.int i)) (kit_ty hk))
theorem ev_isiLst {p : Addr} {xs : List V} {b : Bool} {s : String} (h : Ev ta σ H (.ref p)) (hp : H p = some (.lst xs)) (hk : kitB "list" s = some b) : Ev (tCB (rIsi K) (tCons ta (tCons (tC (.ty s)) tNil))) σ H (.bl b) :=
  ev_cb (ea_cons h (ea_cons ev_c ea_nil)) (rc_isi (.ty s) (fun H1 e => .base (.lst (e p _ hp))) (kit_ty hk))
theorem ev_isiTup {p : Addr} {xs : List V} {b : Bool} {s : String} (h : Ev ta σ H (.ref p)) (hp : H p = some (.tup xs)) (hk : kitB "tuple" s = some b) : Ev (tCB (rIsi K) (tCons ta (tCons (tC (.ty s)) tNil))) σ H (.bl b) :=
  ev_cb (ea_cons h (ea_cons ev_c ea_nil)) (rc_isi (.ty s) (fun H1 e => .base (.tup (e p _ hp))) (kit_ty hk))
theorem rc_min2 {i j : Int} : RC (fun xs H Q => ∃ i j, xs = [.int i, .int j] ∧ Q (.int (if j < i then j else i)) H) [.int i, .int j] H (.int (if j < i then j else i)) := fun H1 _ _ q => ⟨i, j, rfl, q H1 (Ex.refl H1)⟩
theorem rc_max2 {i j : Int} : RC (fun xs H Q => ∃ i j, xs = [.int i, .int j] ∧ Q (.int (if j > i then j else i)) H) [.int i, .int j] H (.int (if j > i then j else i)) := fun H1 _ _ q => ⟨i, j, rfl, q H1 (Ex.refl H1)⟩
theorem rc_sum {p : Addr} {l : List Nat} (h : SqL K H p (vi l)) : RC (rSum K) [.ref p] H (.int ((l.sum : Nat) : Int)) := fun H1 e Q q => ⟨p, l.map fun (n : Nat) => (n : Int), rfl, by rw [← vi_ints]; exact ex_l e h, by rw [sum_cast]; exact q H1 (Ex.refl H1)⟩
/-- sum of a new list -/
theorem ev_sumN {l : List Nat} (h : EvL ta σ H (vi l)) : Ev (tCB (rSum K) (tCons ta tNil)) σ H (.int ((l.sum : Nat) : Int)) := ev_cbL h fun p H1 hp _ => rc_sum (sq_of hp)
/-! ### two new lists in a tuple, in a list -/
theorem ep_tupLL {xs ys : List V} (ha : EvL ta σ H xs) (hb : EvL tb σ H ys) : EvP (tTup (tCons ta (tCons tb tNil))) σ H (fun v H2 => ∃ t p q, v = .ref t ∧ H2 t = some (.tup [.ref p, .ref q]) ∧ H2 p = some (.lst xs) ∧ H2 q = some (.lst ys)) := fun H1 e Q k =>
  ha H1 e _ fun p H2 hp e2 h2 => hb H2 (e.trans e2) _ fun q H3 hq e3 h3 => ⟨by show 2 ≤ sizeLine; decide, fun t ht => k _ _ ((e2.trans e3).trans (Ex.new ht)) ⟨t, p, q, rfl, upd_same, Ex.new ht p _ (e3 p _ h2), Ex.new ht q _ h3⟩⟩
theorem ep_tupVL {ys : List V} (ha : Ev ta σ H x) (hb : EvL tb σ H ys) : EvP (tTup (tCons ta (tCons tb tNil))) σ H (fun v H2 => ∃ t q, v = .ref t ∧ H2 t = some (.tup [x, .ref q]) ∧ H2 q = some (.lst ys)) := fun H1 e Q k =>
  ha H1 e _ fun H2 e2 => hb H2 (e.trans e2) _ fun q H3 hq e3 h3 => ⟨by show 2 ≤ sizeLine; decide, fun t ht => k _ _ ((e2.trans e3).trans (Ex.new ht)) ⟨t, q, rfl, upd_same, Ex.new ht q _ h3⟩⟩
/-- two new lists in a new list; all three are new -/
theorem ep_lstLL {xs ys : List V} (ha : EvL ta σ H xs) (hb : EvL tb σ H ys) : EvP (tLst (tCons ta (tCons tb tNil))) σ H (fun v H2 => ∃ t p q, v = .ref t ∧ H t = none ∧ H p = none ∧ H q = none ∧ p ≠ q ∧ p ≠ t ∧ q ≠ t ∧ H2 t = some (.lst [.ref p, .ref q]) ∧ H2 p = some (.lst xs) ∧ H2 q = some (.lst ys)) := fun H1 e Q k =>
  ha H1 e _ fun p H2 hp e2 h2 => hb H2 (e.trans e2) _ fun q H3 hq e3 h3 => ⟨by show 2 ≤ sizeLine; decide, fun t ht =>
    k _ _ ((e2.trans e3).trans (Ex.new ht)) ⟨t, p, q, rfl, fresh_back ((e.trans e2).trans e3) ht, fresh_back e hp, fresh_back (e.trans e2) hq, ne_of_none h2 hq, ne_of_none (e3 p _ h2) ht, ne_of_none h3 ht, upd_same, Ex.new ht p _ (e3 p _ h2), Ex.new ht q _ h3⟩⟩
/-! ### comprehensions -/
theorem et_yes : EvT tYes σ H true := fun H1 _ _ q => q H1 (Ex.refl H1)
theorem given_all (n : Nat) (v : Nat → V) : given n (fun _ => true) v = (List.range n).map v := by
  unfold given
  rw [List.filter_eq_self.mpr (by simp)]
theorem given_vi {n : Nat} {g : Nat → Nat} {v : Nat → V} (h : ∀ i, i < n → v i = V.int ((g i : Nat) : Int)) : given n (fun _ => true) v = vi ((List.range n).map g) := by
  rw [given_all]
  unfold vi
  rw [List.map_map]
  exact List.map_congr_left fun i hi => h i (List.mem_range.mp hi)
theorem el_is {xs ys : List V} (h : EvL te σ H xs) (e : xs = ys) : EvL te σ H ys := e ▸ h
/-- [e for i in range(n)], whole numbers made -/
theorem el_lcR1v {tA : TA} {j : Nat} {vs : List Nat} {n : Nat} (g : Nat → Nat) (h : EvA tA σ H [.int (n : Int)]) (hn : n ≤ 40000) (hw : ∀ x, wipe ((wipe σ vs).set j (some x)) vs = wipe σ vs)
    (he : ∀ (i : Nat) H1, Ex H H1 → i < n → Ev te ((wipe σ vs).set j (some (.int (i : Int)))) H1 (.int ((g i : Nat) : Int))) : EvL (tLc (iRng1 tA) (gName j) tYes te vs) σ H (vi ((List.range n).map g)) := by
  have q := el_lcR1 (t := tYes) (te := te) (σ := σ) (H := H) (ta := tA) (j := j) (vs := vs) (n := (n : Int)) (fun _ => true) (fun i => V.int ((g i : Nat) : Int)) h ⟨by omega, by omega⟩ hw (fun _ _ _ _ => et_yes) (fun i H1 e hi _ => he i H1 e (by omega))
  rw [Int.toNat_natCast, given_vi fun i _ => rfl] at q
  exact q
theorem range_map_get (l : List Nat) (g : Nat → Nat) : (List.range l.length).map (fun i => g (l.getD i 0)) = l.map g := by
  refine List.ext_getElem ?_ fun i h1 h2 => ?_
  · simp
  · rw [List.length_map, List.length_range] at h1
    simp only [List.getElem_map, List.getElem_range]
    rw [List.getD_eq_getElem?_getD, List.getElem?_eq_getElem h1]
    rfl
/-- [e for n in l], l a list of numbers that stands, whole numbers made -/
theorem el_lcLv {a : Addr} {l : List Nat} {tl : TE} {j : Nat} {vs : List Nat} (g : Nat → Nat) (h : Ev tl σ H (.ref a)) (hx : SqL K H a (vi l)) (hz : l.length ≤ 40000) (hw : ∀ x, wipe ((wipe σ vs).set j (some x)) vs = wipe σ vs)
    (he : ∀ (n : Nat) H1, Ex H H1 → n ∈ l → Ev te ((wipe σ vs).set j (some (.int (n : Int)))) H1 (.int ((g n : Nat) : Int))) : EvL (tLc (iList K tl) (gName j) tYes te vs) σ H (vi (l.map g)) := by
  have q := el_lcL (t := tYes) (te := te) (K := K) (σ := σ) (H := H) (a := a) (xs := vi l) (tl := tl) (j := j) (vs := vs) (fun _ => true) (fun i => V.int ((g (l.getD i 0) : Nat) : Int)) h hx (by rw [vi_len]; exact hz) hw (fun _ _ _ _ _ => et_yes) (fun i x H1 e hi _ => by
    obtain ⟨n, hn, rfl⟩ := vi_get_of hi
    have e1 : l.getD i 0 = n := by rw [List.getD_eq_getElem?_getD, hn]; rfl
    show Ev te _ H1 (.int ((g (l.getD i 0) : Nat) : Int))
    rw [e1]
    exact he n H1 e (List.mem_of_getElem? hn))
  rw [vi_len, given_vi (g := fun i => g (l.getD i 0)) fun i _ => rfl, range_map_get] at q
  exact q
theorem el_lcNLv {l : List Nat} {tl : TE} {j : Nat} {vs : List Nat} (g : Nat → Nat) (h : EvL tl σ H (vi l)) (hz : l.length ≤ 40000) (hw : ∀ x, wipe ((wipe σ vs).set j (some x)) vs = wipe σ vs)
    (he : ∀ (n : Nat) H1, Ex H H1 → n ∈ l → Ev te ((wipe σ vs).set j (some (.int (n : Int)))) H1 (.int ((g n : Nat) : Int))) : EvL (tLc (iList K tl) (gName j) tYes te vs) σ H (vi (l.map g)) := by
  have q := el_lcNL (t := tYes) (te := te) (K := K) (σ := σ) (H := H) (xs := vi l) (tl := tl) (j := j) (vs := vs) (fun _ => true) (fun i => V.int ((g (l.getD i 0) : Nat) : Int)) h (by rw [vi_len]; exact hz) hw (fun _ _ _ _ _ => et_yes) (fun i x H1 e hi _ => by
    obtain ⟨n, hn, rfl⟩ := vi_get_of hi
    have e1 : l.getD i 0 = n := by rw [List.getD_eq_getElem?_getD, hn]; rfl
    show Ev te _ H1 (.int ((g (l.getD i 0) : Nat) : Int))
    rw [e1]
    exact he n H1 e (List.mem_of_getElem? hn))
  rw [vi_len, given_vi (g := fun i => g (l.getD i 0)) fun i _ => rfl, range_map_get] at q
  exact q
theorem filter_get (l : List Nat) (f : Nat → Bool) : ((List.range l.length).filter fun i => f (l.getD i 0)).map (fun i => l.getD i 0) = l.filter f := by
  have e : (List.range l.length).map (fun i => l.getD i 0) = l := by
    have := range_map_get l id
    rw [List.map_id] at this
    exact this
  conv => rhs; rw [← e]
  rw [List.filter_map]
  rfl
end
/-! ### a plot: a tuple of elders and worths -/
def PlotAt (H : Hp) (p : Addr) (es ws : List Nat) : Prop := ∃ pe pw, H p = some (.tup [.ref pe, .ref pw]) ∧ H pe = some (.lst (vi es)) ∧ H pw = some (.lst (vi ws))
theorem PlotAt.mono {H H' : Hp} {p : Addr} {es ws : List Nat} (h : PlotAt H p es ws) (e : Ex H H') : PlotAt H' p es ws := by
  obtain ⟨pe, pw, h1, h2, h3⟩ := h
  exact ⟨pe, pw, e _ _ h1, e _ _ h2, e _ _ h3⟩
theorem tup0 {K : PySem.W.Frag} {H : Hp} {p : Addr} {x y : V} (h : H p = some (.tup [x, y])) : SqT K H p [x, y] := st_of h
end Fi
/-! Rows: lists of lists; plans; readings for them. -/
namespace Fi
open PySem L2 Evl
def oV : Option Int → V
  | none => .non
  | some z => .int z
theorem oV_get {plan : List (Option Int)} {i : Nat} {o : Option Int} (h : plan[i]? = some o) : (plan.map oV)[i]? = some (oV o) := by
  rw [List.getElem?_map, h]
  rfl
theorem oV_some (l : List Nat) : (l.map fun (n : Nat) => some (n : Int)).map oV = vi l := by
  unfold vi
  rw [List.map_map]
  rfl
/-- the addresses rs hold the rows -/
def RowsL (H : Hp) : List Addr → List (List Nat) → Prop
  | [], [] => True
  | a :: as, r :: rs => H a = some (.lst (vi r)) ∧ RowsL H as rs
  | _, _ => False
theorem RowsL.len {H : Hp} : ∀ {rs : List Addr} {rows : List (List Nat)}, RowsL H rs rows → rs.length = rows.length
  | [], [], _ => rfl
  | _ :: _, _ :: _, h => by rw [List.length_cons, List.length_cons, RowsL.len h.2]
  | [], _ :: _, h => h.elim
  | _ :: _, [], h => h.elim
theorem RowsL.mono {H H' : Hp} : ∀ {rs : List Addr} {rows : List (List Nat)}, RowsL H rs rows → (∀ a o, a ∈ rs → H a = some o → H' a = some o) → RowsL H' rs rows
  | [], [], _, _ => trivial
  | a :: as, _ :: _, h, k => ⟨k a _ List.mem_cons_self h.1, RowsL.mono h.2 fun b o hb => k b o (List.mem_cons_of_mem _ hb)⟩
  | [], _ :: _, h, _ => h.elim
  | _ :: _, [], h, _ => h.elim
theorem RowsL.snoc {H : Hp} {a : Addr} {r : List Nat} (ha : H a = some (.lst (vi r))) : ∀ {rs : List Addr} {rows : List (List Nat)}, RowsL H rs rows → RowsL H (rs ++ [a]) (rows ++ [r])
  | [], [], _ => ⟨ha, trivial⟩
  | _ :: _, _ :: _, h => ⟨h.1, RowsL.snoc ha h.2⟩
  | [], _ :: _, h => h.elim
  | _ :: _, [], h => h.elim
theorem RowsL.get {H : Hp} : ∀ {rs : List Addr} {rows : List (List Nat)} {i : Nat} {r : List Nat}, RowsL H rs rows → rows[i]? = some r → ∃ a, rs[i]? = some a ∧ a ∈ rs ∧ H a = some (.lst (vi r))
  | [], [], i, _, _, h => by cases i <;> cases h
  | a :: as, r :: _, 0, _, h, e => by cases e; exact ⟨a, rfl, List.mem_cons_self, h.1⟩
  | a :: as, _ :: _, i + 1, r, h, e => by
    obtain ⟨b, h1, h2, h3⟩ := RowsL.get (i := i) (r := r) h.2 e
    exact ⟨b, h1, List.mem_cons_of_mem _ h2, h3⟩
  | [], _ :: _, _, _, h, _ => h.elim
  | _ :: _, [], _, _, h, _ => h.elim
theorem RowsL.drop {H : Hp} : ∀ {rs : List Addr} {rows : List (List Nat)}, RowsL H rs rows → RowsL H rs.dropLast rows.dropLast
  | [], [], _ => trivial
  | [a], [r], _ => trivial
  | a :: b :: as, r :: q :: rs, h => ⟨h.1, RowsL.drop (rs := b :: as) (rows := q :: rs) h.2⟩
  | [], _ :: _, h => h.elim
  | _ :: _, [], h => h.elim
  | [_], _ :: _ :: _, h => h.2.elim
  | _ :: _ :: _, [_], h => h.2.elim
theorem RowsL.mem {H : Hp} : ∀ {rs : List Addr} {rows : List (List Nat)} {a : Addr}, RowsL H rs rows → a ∈ rs → ∃ r, r ∈ rows ∧ H a = some (.lst (vi r))
  | [], [], _, _, h => by cases h
  | a :: as, r :: rs, b, h, e => by
    rcases List.mem_cons.mp e with rfl | e
    · exact ⟨r, List.mem_cons_self, h.1⟩
    · obtain ⟨q, h1, h2⟩ := RowsL.mem h.2 e
      exact ⟨q, List.mem_cons_of_mem _ h1, h2⟩
  | [], _ :: _, _, h, _ => h.elim
  | _ :: _, [], _, h, _ => h.elim
theorem last_idx {α : Type} {l : List α} {x : α} (h : l.getLast? = some x) : l[l.length - 1]? = some x := by
  rw [← List.getLast?_eq_getElem?]
  exact h
theorem refs_last {rs : List Addr} {a : Addr} (h : rs[rs.length - 1]? = some a) (hn : rs ≠ []) : atI (rs.map V.ref) (-1) = some (V.ref a) := by
  have hl : 0 < rs.length := List.length_pos_iff.mpr hn
  unfold atI ixN
  rw [List.length_map, if_neg (by decide), if_pos (by omega)]
  show (rs.map V.ref)[(-1 + (rs.length : Int)).toNat]? = _
  rw [show (-1 + (rs.length : Int)).toNat = rs.length - 1 by omega, List.getElem?_map, h]
  rfl
section
variable {K : PySem.W.Frag} {σ : L2.St} {H H' : Hp} {ta tb te : TE} {t : TT} {x y z v : V} {D : Ends} {tz : TS}
/-- [[..]]: a new list in a new list -/
theorem ep_lstL1 {xs : List V} (ha : EvL ta σ H xs) : EvP (tLst (tCons ta tNil)) σ H (fun v H2 => ∃ t p, v = .ref t ∧ H t = none ∧ H p = none ∧ p ≠ t ∧ H2 t = some (.lst [.ref p]) ∧ H2 p = some (.lst xs)) := fun H1 e Q k =>
  ha H1 e _ fun p H2 hp e2 h2 => ⟨by show 1 ≤ sizeLine; decide, fun t ht => k _ _ (e2.trans (Ex.new ht)) ⟨t, p, rfl, fresh_back (e.trans e2) ht, fresh_back e hp, ne_of_none h2 ht, upd_same, Ex.new ht p _ h2⟩⟩
/-- xs.extend(ys) -/
theorem s_ext {l b : Addr} {xs ys : List V} (hl : H l = some (.lst xs)) (hb : H b = some (.lst ys)) (ha : Ev ta σ H (.ref l)) (h : Ev te σ H (.ref b)) (hz : xs.length + ys.length ≤ 100000) (k : ∀ H1, Ex H H1 → D.nx σ (upd H1 l (.lst (xs ++ ys)))) :
    tDrop (tBM K "list" rExtend ta (tCons te tNil)) D σ H := ha H (Ex.refl H) _ fun H1 e1 =>
  ⟨Or.inl ⟨rfl, xs, sq_of (e1 l _ hl)⟩, h H1 e1 _ fun H2 e2 => ⟨l, b, xs, ys, rfl, rfl, e2 l _ (e1 l _ hl), e2 b _ (e1 b _ hb), sz_of hz, k H2 (e1.trans e2)⟩⟩
theorem q_ext {l b : Addr} {xs ys : List V} (hl : H l = some (.lst xs)) (hb : H b = some (.lst ys)) (ha : Ev ta σ H (.ref l)) (h : Ev te σ H (.ref b)) (hz : xs.length + ys.length ≤ 100000) (k : ∀ H1, Ex H H1 → tz D σ (upd H1 l (.lst (xs ++ ys)))) :
    tSeq (tDrop (tBM K "list" rExtend ta (tCons te tNil))) tz D σ H := s_ext (D := { D with nx := tz D }) hl hb ha h hz k
/-- xs.extend(a new list) -/
theorem s_extN {l : Addr} {xs ys : List V} (hl : H l = some (.lst xs)) (ha : Ev ta σ H (.ref l)) (h : EvL te σ H ys) (hz : xs.length + ys.length ≤ 100000) (k : ∀ H1, Ex H H1 → D.nx σ (upd H1 l (.lst (xs ++ ys)))) :
    tDrop (tBM K "list" rExtend ta (tCons te tNil)) D σ H := ha H (Ex.refl H) _ fun H1 e1 =>
  ⟨Or.inl ⟨rfl, xs, sq_of (e1 l _ hl)⟩, h H1 e1 _ fun b H2 hb e2 h2 => ⟨l, b, xs, ys, rfl, rfl, e2 l _ (e1 l _ hl), h2, sz_of hz, k H2 (e1.trans e2)⟩⟩
theorem q_extN {l : Addr} {xs ys : List V} (hl : H l = some (.lst xs)) (ha : Ev ta σ H (.ref l)) (h : EvL te σ H ys) (hz : xs.length + ys.length ≤ 100000) (k : ∀ H1, Ex H H1 → tz D σ (upd H1 l (.lst (xs ++ ys)))) :
    tSeq (tDrop (tBM K "list" rExtend ta (tCons te tNil))) tz D σ H := s_extN (D := { D with nx := tz D }) hl ha h hz k
/-- xs.pop() as a statement -/
theorem s_pop {l : Addr} {xs : List V} {y : V} (hl : H l = some (.lst xs)) (hy : xs[xs.length - 1]? = some y) (ha : Ev ta σ H (.ref l)) (k : ∀ H1, Ex H H1 → D.nx σ (upd H1 l (.lst xs.dropLast))) : tDrop (tBM0 K "list" rPop ta) D σ H := ha H (Ex.refl H) _ fun H1 e1 =>
  ⟨Or.inl ⟨rfl, xs, sq_of (e1 l _ hl)⟩, l, xs, y, rfl, rfl, e1 l _ hl, hy, k H1 e1⟩
/-- an item of a tuple that a read gives -/
theorem ep_ixT {P P' : V → Hp → Prop} {i : Int} (h : EvP te σ H P) (hb : Ev tb σ H (.int i)) (k : ∀ v H2 H3, Ex H H2 → Ex H2 H3 → P v H2 → ∃ t xs x, v = .ref t ∧ SqT K H3 t xs ∧ atI xs i = some x ∧ P' x H3) : EvP (tOp (rIxT K) te tb) σ H P' := fun H1 e Q q =>
  h H1 e _ fun v H2 e2 p => hb H2 (e.trans e2) _ fun H3 e3 => by
    obtain ⟨t, xs, x, rfl, h1, h2, h3⟩ := k v H2 H3 (e.trans e2) e3 p
    exact ⟨t, xs, i, x, rfl, rfl, h1, h2, q x H3 (e2.trans e3) h3⟩
theorem ev_opNotN (h : Ev ta σ H x) : Ev (tOp (fun x y H Q => y = .non ∧ Q (.bl (!decide (x = .non))) H) ta (tC .non)) σ H (.bl (!decide (x = .non))) := ev_op h ev_c fun H1 _ _ q => ⟨rfl, q H1 (Ex.refl H1)⟩
theorem ev_opIsN (h : Ev ta σ H x) : Ev (tOp (fun x y H Q => y = .non ∧ Q (.bl (decide (x = .non))) H) ta (tC .non)) σ H (.bl (decide (x = .non))) := ev_op h ev_c fun H1 _ _ q => ⟨rfl, q H1 (Ex.refl H1)⟩
/-- the last row against [] -/
theorem ev_neLast {l : Addr} {rs : List Addr} {rows : List (List Nat)} {r : List Nat} (ha : Ev ta σ H (.ref l)) (hb : Ev tb σ H (.int (-1))) (h : H l = some (.lst (rs.map V.ref))) (R : RowsL H rs rows) (hl : rows.getLast? = some r) : Ev (tOp (rNeD K) (tOp (rIxL K) ta tb) (tLst tNil)) σ H (.bl (!decide (r = []))) := by
  obtain ⟨a, h1, h2, h3⟩ := R.get (last_idx hl)
  rw [← R.len] at h1
  exact ev_neNil (ev_opIx ha hb (sq_of h) (refs_last h1 (fun e => by rw [e] at h2; cases h2))) (sq_of h3)
theorem ev_eqLast {l : Addr} {rs : List Addr} {rows : List (List Nat)} {r : List Nat} (ha : Ev ta σ H (.ref l)) (hb : Ev tb σ H (.int (-1))) (h : H l = some (.lst (rs.map V.ref))) (R : RowsL H rs rows) (hl : rows.getLast? = some r) : Ev (tOp (rEqD K) (tOp (rIxL K) ta tb) (tLst tNil)) σ H (.bl (decide (r = []))) := by
  obtain ⟨a, h1, h2, h3⟩ := R.get (last_idx hl)
  rw [← R.len] at h1
  exact ev_eqNil (ev_opIx ha hb (sq_of h) (refs_last h1 (fun e => by rw [e] at h2; cases h2))) (sq_of h3)
theorem rv_inI {neg : Bool} {p : Addr} {l : List Nat} {n : Nat} (h : SqL K H p (vi l)) : RV (rIn K neg) (.int (n : Int)) (.ref p) H (.bl (if neg then !decide (n ∈ l) else decide (n ∈ l))) := by
  have q := rv_inL (K := K) (neg := neg) (x := .int (n : Int)) h rfl (vi_flat l)
  rw [vi_in] at q
  exact q
theorem rv_isI {p : Addr} {l : List Nat} {n : Nat} (h : SqL K H p (vi l)) : RV (rIn K false) (.int (n : Int)) (.ref p) H (.bl (decide (n ∈ l))) := rv_inI h
theorem rv_niI {p : Addr} {l : List Nat} {n : Nat} (h : SqL K H p (vi l)) : RV (rIn K true) (.int (n : Int)) (.ref p) H (.bl (!decide (n ∈ l))) := rv_inI h
/-- [e for i in range(n) if t], whole numbers made -/
theorem el_lcR1f {tA : TA} {j : Nat} {vs : List Nat} {n : Nat} (f : Nat → Bool) (g : Nat → Nat) (h : EvA tA σ H [.int (n : Int)]) (hn : n ≤ 40000) (hw : ∀ x, wipe ((wipe σ vs).set j (some x)) vs = wipe σ vs)
    (ht : ∀ (i : Nat) H1, Ex H H1 → i < n → EvT t ((wipe σ vs).set j (some (.int (i : Int)))) H1 (f i)) (he : ∀ (i : Nat) H1, Ex H H1 → i < n → f i = true → Ev te ((wipe σ vs).set j (some (.int (i : Int)))) H1 (.int ((g i : Nat) : Int))) :
    EvL (tLc (iRng1 tA) (gName j) t te vs) σ H (vi (((List.range n).filter f).map g)) := by
  have q := el_lcR1 (t := t) (te := te) (σ := σ) (H := H) (ta := tA) (j := j) (vs := vs) (n := (n : Int)) f (fun i => V.int ((g i : Nat) : Int)) h ⟨by omega, by omega⟩ hw (fun i H1 e hi => ht i H1 e (by omega)) (fun i H1 e hi hf => he i H1 e (by omega) hf)
  rw [Int.toNat_natCast] at q
  unfold given at q
  unfold vi
  rw [List.map_map]
  exact q
/-- [n for n in l if t] -/
theorem el_lcLf {a : Addr} {l : List Nat} {tl : TE} {j : Nat} {vs : List Nat} (f : Nat → Bool) (h : Ev tl σ H (.ref a)) (hx : SqL K H a (vi l)) (hz : l.length ≤ 40000) (hw : ∀ x, wipe ((wipe σ vs).set j (some x)) vs = wipe σ vs)
    (ht : ∀ (n : Nat) H1, Ex H H1 → n ∈ l → EvT t ((wipe σ vs).set j (some (.int (n : Int)))) H1 (f n)) (he : ∀ (n : Nat) H1, Ex H H1 → n ∈ l → f n = true → Ev te ((wipe σ vs).set j (some (.int (n : Int)))) H1 (.int (n : Int))) : EvL (tLc (iList K tl) (gName j) t te vs) σ H (vi (l.filter f)) := by
  have q := el_lcL (t := t) (te := te) (K := K) (σ := σ) (H := H) (a := a) (xs := vi l) (tl := tl) (j := j) (vs := vs) (fun i => f (l.getD i 0)) (fun i => V.int ((l.getD i 0 : Nat) : Int)) h hx (by rw [vi_len]; exact hz) hw (fun i x H1 e hi => by
    obtain ⟨n, hn, rfl⟩ := vi_get_of hi
    have e1 : l.getD i 0 = n := by rw [List.getD_eq_getElem?_getD, hn]; rfl
    rw [e1]
    exact ht n H1 e (List.mem_of_getElem? hn)) (fun i x H1 e hi hf => by
    obtain ⟨n, hn, rfl⟩ := vi_get_of hi
    have e1 : l.getD i 0 = n := by rw [List.getD_eq_getElem?_getD, hn]; rfl
    show Ev te _ H1 (.int ((l.getD i 0 : Nat) : Int))
    rw [e1] at hf ⊢
    exact he n H1 e (List.mem_of_getElem? hn) hf)
  rw [vi_len] at q
  rw [← filter_get l f]
  unfold given at q
  unfold vi
  rw [List.map_map]
  exact q
end
end Fi
/-! A caught error that is kept: try: .. except X as n: m = n, the error tracked behind the try; isinstance of it. -/
namespace Fi
open PySem L2 Evl
/-- an error of the class cls, caught once, at a -/
def ExV (cls : Value) (a : Addr) : HO := .ext fun h => ∃ (oe : Obj) (vs : Array Value), h.get? a = some oe ∧ Zc cls none oe ∧ oe.data = .fields vs
theorem exV_ok {P : Program} {w : World} {H : Hp} {h : Heap} {a : Addr} {cls : Value} {oe : Obj} {vs : Array Value} (e : h.get? a = some oe) (z : Zc cls none oe) (d : oe.data = .fields vs) : ObjOk P w H h a (ExV cls a) :=
  ⟨⟨oe, vs, e, z, d⟩, ⟨oe, e⟩, fun _ _ ⟨o1, v1, q1, r1⟩ k => ⟨o1, v1, k o1 q1, r1⟩⟩
section
variable {X : Cx} {pins : List (Addr × Obj)} {σ : L2.St} {H : Hp} {s : Shared}
/-- an error that stands untracked is tracked -/
theorem exc_tracked {a : Addr} {oe : Obj} {vs : Array Value} {cls : Value} (S : Inv X pins σ H s) (hn0 : X.s_0.heap.get? a = none) (he : s.heap.get? a = some oe) (hz : Zc cls none oe) (hd : oe.data = .fields vs) (na : H a = none) (nL : a ≠ X.env.locals) (np : ∀ p ∈ X.pn ++ pins, p.1 ≠ a) :
    Inv X pins σ (upd H a (ExV cls a)) s := by
  have old : ∀ b ob, X.s_0.heap.get? b = some ob → b ≠ a := fun b ob q z => by rw [z, hn0] at q; cases q
  have some_ne : ∀ b ob, H b = some ob → b ≠ a := fun b ob q z => by rw [z, na] at q; cases q
  have U : Un X.fs X.ex X.H_0 (upd H a (ExV cls a)) X.s_0.heap s.heap :=
    { keep := S.base.keep
      slot := S.base.slot
      there := S.base.there
      free := fun b ob q1 q2 q3 => (upd_ne (old b ob q1)).trans (S.base.free b ob q1 q2 q3)
      tups := fun b xs q => (upd_ne (some_ne b _ (S.base.tups b xs q))).trans (S.base.tups b xs q)
      frzs := fun b ob u q => (upd_ne (some_ne b _ (S.base.frzs b ob u q))).trans (S.base.frzs b ob u q)
      tbls := fun b ps q => by
        obtain ⟨m, z⟩ := S.base.tbls b ps q
        exact ⟨m, (upd_ne (some_ne b _ z)).trans z⟩ }
  have cellNe : ∀ x c, X.env.cells.lookup x = some c → c ≠ a := fun x c q z => by
    obtain ⟨v, oc, h1, h2⟩ := S.cell x c q
    rw [z, he] at h1
    cases h1
    rw [hd] at h2
    cases h2
  have O : HOk X.prog X.w (upd H a (ExV cls a)) s.heap := fun b u q => by
    by_cases hb : b = a
    · subst hb
      rw [upd_same] at q
      cases q
      exact exV_ok he hz hd
    · rw [upd_ne hb] at q
      exact (S.hok b u q).stay (fun _ _ _ z => z) (fun c z => (upd_ne (some_ne c _ z)).trans z) fun c xs z => (upd_ne (some_ne c _ z)).trans z
  exact { ok := S.ok, os := S.os, bare := S.bare, base := U, loc := S.loc, cell := S.cell, free := (upd_ne nL.symm).trans S.free, freeC := fun x c q => (upd_ne (cellNe x c q)).trans (S.freeC x c q),
          pin := fun p hp => ⟨(S.pin p hp).1, (upd_ne (np p hp)).trans (S.pin p hp).2.1, (S.pin p hp).2.2⟩, hok := O, len := S.len }
end
/-- what 'except x as n: ..', n kept, wishes of an error of the body (slot i is n's) -/
def wV (K : PySem.W.Frag) (c : Value) (i : Nat) (ts : Addr → Value → TS) (D : Ends) : WX := fun cls d σ H =>
  d = none ∧ PySem.W.exmOne K cls c = some true ∧ ∀ a, H a = none → ts a cls { nx := fun σ' H' => D.nx (σ'.set i none) (upd H' a (ExV cls a)), rt := fun _ _ => False } (σ.set i (some (.ref a))) H
section
variable {X : Cx} {x n : Str} {c : Value} {i : Nat} {body suite : List Stmt} {b₀ : Stmt} {np pos pos' : Pos} {tb : WX → TS} {ts : Addr → Value → TS}
theorem ps_try_asV (hs : X.stack = X.env :: X.outer) (hf : X.env.frame = some X.env.locals) (hex : X.ex = []) (hN : X.N.Nodup) (hi : X.N[i]? = some n) (hln : X.env.kindOf n = some .local) (hc : Names X x c)
    (hb : ∀ (W : WX) (pn : List (Addr × Obj)) (xe : Value → Shared → Prop), Takes (X.tr pn xe) W → PassesOwn (model X.prog X.w) X.A X.env xe → PSs (X.tr pn xe) body (tb W))
    (hsu : ∀ (a : Addr) (oe : Obj) (cls : Value) (pn : List (Addr × Obj)), Zc cls none oe → (∃ vs, oe.data = .fields vs) → PSs (X.suite a ((a, oe) :: pn)) (b₀ :: suite) (ts a cls)) :
    PS X (.Try body [.ExceptHandler (some (.Name x np)) (some n) (b₀ :: suite) pos'] [] [] pos) (fun D σ H => tb (wV X.K c i ts D) D σ H) := by
  constructor
  intro pins s σ H D I h
  have ok := I.ok
  let M := model X.prog X.w
  let hds : List ExceptHandler := [.ExceptHandler (some (.Name x np)) (some n) (b₀ :: suite) pos']
  let catch_ : Value → Shared → Prop := fun e s₁ => wpAny M X.A (noteFrame e X.env) (fun _ s₂ => wpAny M X.A (setFlight e none) (fun _ s₃ => wpAny M X.A (handleBy e X.env hds) (SP X pins D) X.xe s₃) X.xe s₂) X.xe s₁
  have frames : X.A.frames = some (X.env :: X.outer) := ok.frames.trans (congrArg some hs)
  have taken : Takes (X.tr (X.pn ++ pins) catch_) (wV X.K c i ts D) := by
    rintro u s' ⟨a, B, sI, pinsI, σ', H', cls, d, rfl, J0, nb, up, sky, na, os, ag, rfl, hyes, hsuite⟩
    have J : Inv X pins σ' H' sI := J0.ofTry ok
    rw [show (X.tr (X.pn ++ pins) catch_).stack = X.env :: X.outer from hs] at sky
    refine Sky.land Zc.steady frames hf sky fun h3 fl3 up3 => ?_
    have J3 : Inv X pins σ' H' { s' with heap := h3 } := J.landed nb fl3.1 (up.trans up3) os ag
    obtain ⟨oe3, vs3, he3, hz3, hd3⟩ := fl3.there
    have away : a ∉ frs (X.env :: X.outer) := fun hm => by
      obtain ⟨_, o', e', hnf⟩ := fl3.2.2.1.mem hm
      rw [he3] at e'
      cases e'
      exact hnf _ hd3
    have nL : a ≠ X.env.locals := fun z => away (List.mem_filterMap.mpr ⟨X.env, .head _, hf.trans (congrArg some z.symm)⟩)
    have nF : a ∉ X.fs := fun hm => by
      obtain ⟨e, q1, q2⟩ := List.mem_filterMap.mp hm
      exact away (List.mem_filterMap.mpr ⟨e, .tail _ q1, q2⟩)
    -- the error stood nowhere ahead of the body's run
    have newI : sI.heap.get? a = none := by
      cases q : sI.heap.get? a with
      | none => rfl
      | some ob =>
        have z := nb a ob q (show a ∉ frs X.stack by rw [hs]; exact away)
        rw [fl3.2.1] at z
        cases z
    have new0 : X.s_0.heap.get? a = none := by
      cases q : X.s_0.heap.get? a with
      | none => rfl
      | some ob =>
        obtain ⟨o', z⟩ := J.base.there a ob q (by rw [hex]; exact List.not_mem_nil)
        rw [newI] at z
        cases z
    have apart : ∀ p ∈ X.pn ++ pins, p.1 ≠ a := fun p hp z => by
      have q := (J.pin p hp).1
      rw [z, newI] at q
      cases q
    have S3 := J3.suite he3 hd3 na nL nF
    refine wpAny_handleBy_cons (codeAny_handlers_test ?_) fun q => nomatch q
    have kind : PySem.W.Looks M h3 (typeOf (.ref a)) cls := fun A Q E s k q => wpAny_typeOf_ref (k _ _ he3) (hz3.1.symm ▸ q)
    have fits := PySem.W.exm_one (M := M) J3.kIn kind hyes
    have named : ∀ {Q : Value → Shared → Prop} {E : Value → Shared → Prop}, Q c { s' with heap := h3 } → wpAny M (X.A.mark (some (.ref a))) (eval (.Name x np) X.env) Q E { s' with heap := h3 } := by
      intro Q E q
      rcases hc with ⟨g1, g2, g3 | ⟨g3, g4, g5⟩⟩
      · exact ld_glob S3 g1 g3 q g2
      · exact ld_blt S3 g1 g3 g4 q g5 g2
    refine named (fits.here (codeAny_handlers_suite_as (HandSPX.lands_againZ fl3 fun h4 fl4 up4 => ?_)))
    have J4 : Inv X pins σ' H' { s' with heap := h4 } := J.landed nb fl4.1 ((up.trans up3).trans up4) os ag
    obtain ⟨oe4, vs4, he4, hz4, hd4⟩ := fl4.there
    have S4 := J4.suite he4 hd4 na nL nF
    refine @store_ok (X.suite a ((a, oe4) :: (X.pn ++ pins))) _ _ _ _ _ _ _ _ _ _ _ _ S4 hN hi (.inl hln) (show RelV (.ref a) (.ref a) from rfl) (fun s5 S5 => ?_) (.inr hln)
    have ran := (hsu a oe4 cls (X.pn ++ pins) hz4 ⟨vs4, hd4⟩).run [] s5 _ H' _ S5 (hsuite a na)
    refine wpAny_mono ran (fun f s6 out => ?_) fun _ _ z => z.elim
    cases f with
    | next =>
      obtain ⟨σ6, H6, S6, q6⟩ := out
      obtain ⟨p1, p2, _⟩ := S6.pin (a, oe4) (List.mem_append_left _ (.head _))
      have T6 := exc_tracked (S6.unsuite ok) new0 p1 hz4 hd4 p2 nL apart
      exact gone_ok T6 hN hi hln fun s7 J7 => ⟨_, _, J7, q6⟩
    | brk => obtain ⟨_, _, _, q6⟩ := out; exact q6.elim
    | cont => obtain ⟨_, _, _, q6⟩ := out; exact q6.elim
    | ret u => obtain ⟨_, _, _, _, _, q6⟩ := out; exact q6.elim
  refine wpAny_Try_except (wpAny_mono ((hb _ (X.pn ++ pins) catch_ taken PassesOwn.looking).run [] s σ H D (I.toTry _) h) (fun f s1 out => ?_) fun _ _ q => q)
  cases f with
  | next => obtain ⟨σ1, H1, J1, q⟩ := out; exact wpAny_execs_nil ⟨σ1, H1, J1.ofTry ok, q⟩
  | brk => obtain ⟨σ1, H1, J1, q⟩ := out; exact ⟨σ1, H1, J1.ofTry ok, q⟩
  | cont => obtain ⟨σ1, H1, J1, q⟩ := out; exact ⟨σ1, H1, J1.ofTry ok, q⟩
  | ret u => obtain ⟨v, σ1, H1, J1, r, q⟩ := out; exact ⟨v, σ1, H1, J1.ofTry ok, r, q⟩
/-- isinstance(e, c), e a kept error of the class at Dc -/
def rIsV (K : PySem.W.Frag) : List V → Hp → VK → Prop := fun xs H Q => ∃ (a Dc : Addr) (cc : V) (u : Value) (b : Bool), xs = [.ref a, cc] ∧ H a = some (ExV (.ref Dc) a) ∧ ExcC K Dc ∧ ClsV cc u ∧ PySem.W.kitOne K (.ref Dc) u = some b ∧ Q (.bl b) H
theorem call_isV {K : PySem.W.Frag} (hK : X.K = K := by rfl) : CallR X (.builtin "isinstance") (rIsV K) := by
  subst hK
  intro pins s σ H xs us Q I r h
  obtain ⟨a, Dc, cc, u, b, rfl, ha, C, hcu, e, q⟩ := h
  cases r with
  | cons rx rr =>
    cases rr with
    | cons rt rr =>
      cases rr
      cases rx
      have ec := hcu.eq rt
      subst ec
      obtain ⟨⟨oe, vs, hget, hz, hv⟩, _⟩ := I.hok a _ ha
      have J : PySem.W.InstAt s.heap a oe Dc none := by
        obtain ⟨oc, od, oda, osl⟩ := oe
        obtain ⟨z1, z2⟩ := hz
        simp only at z1 z2 hv
        subst z1 z2 hv
        exact ⟨hget, rfl, rfl, trivial⟩
      exact PySem.W.kia_one (PySem.W.handS_kitx_exc C.hg C.hk C.hs C.hd C.ha C.hn C.ht C.hm) I.kIn J e (fun z => nomatch z) fun tk => ⟨.bl b, H, I.tok _, rfl, q⟩
/-! ### list.count(True) of a list of truth values -/
theorem dpAll_bl {K : PySem.W.Frag} {H : Hp} : ∀ l : List Bool, DpAll K H (l.map V.bl) (l.map PyData.bool)
  | [] => .nil
  | b :: l => .cons (.bl b) (dpAll_bl l)
theorem plain_bl : ∀ l : List Bool, PyData.plainAll (l.map PyData.bool) = true
  | [] => by simp [PyData.plainAll]
  | b :: l => by simp [PyData.plainAll, PyData.plain, plain_bl l]
theorem depth_bl : ∀ l : List Bool, PyData.depthAll (l.map PyData.bool) = 0
  | [] => by simp [PyData.depthAll]
  | b :: l => by simp [PyData.depthAll, PyData.depth, depth_bl l]
theorem count_bl (l : List Bool) : (l.map PyData.bool).countP (fun y => PyData.eqv y (.bool true)) = l.countP id := by
  rw [List.countP_map]
  congr 1
  funext b
  cases b <;> simp [PyData.eqv]
def rCntB (K : PySem.W.Frag) : V → List V → Hp → VK → Prop := fun x xs H Q => ∃ (p : Addr) (bs : List Bool), x = .ref p ∧ xs = [.bl true] ∧ SqL K H p (bs.map V.bl) ∧ Q (.int ((bs.countP id : Nat) : Int)) H
theorem mt_countB {K : PySem.W.Frag} (hu : X.A.units + 64 < cLine) (hK : X.K = K := by rfl) : MtR X "list.count" (rCntB K) := by
  subst hK
  rintro pins s σ H x xs v us Q I rx rxs ⟨p, bs, rfl, rfl, hs, q⟩
  cases rx
  cases rxs with
  | cons ry rt =>
    cases rt
    cases ry
    obtain ⟨its, rv, ⟨ob, n, ho, hc, _, hd⟩, hlen⟩ := I.list hs
    obtain ⟨as, rd⟩ := Dp.readsAll I _ _ its (dpAll_bl bs) rv
    refine PySem.SeqAt.count_list_data (d := .bool true) (bs := _) ⟨ob, ho, hc, n, hd⟩ (by simpa using rd) (Reads.bool true) (plain_bl bs) (by simp [PyData.plain]) ?_ ⟨.int ((bs.countP id : Nat) : Int), H, I.tok _, ⟨s.toks, ?_⟩, q⟩
    · rw [depth_bl]
      simp [PyData.depth]
      omega
    · rw [count_bl]
end
/-! ### calls that may raise, the wish told at the caller's slots -/
section
variable {X : Cx} {CX : CXT} {k : Nat} {C f : Addr} {fd : FuncData} {ps : List Str} {sp : Sp} {E : L2.St → XK} {x m : Str} {p pos apos : Pos} {e o : Expr} {es : List Expr} {ta : TE} {t : TA}
def tMethE (C : Addr) (m : Str) (sp : Sp) (E : L2.St → XK) (ta : TE) (t : TA) : TE := fun σ H Q => ta σ H fun x H1 => ∃ a dx fs, x = .ref a ∧ H1 a = some (.ins C dx fs) ∧ fs.lookup m = none ∧ t σ H1 fun vs H2 => sp (x :: vs) H2 Q (E σ)
def tMakeE (C : Addr) (sp : Sp) (E : L2.St → XK) (t : TA) : TE := fun σ H Q => t σ H fun vs H1 => ∀ x dx, H1 x = none → H1 dx = none → dx ≠ x → sp (.ref x :: vs) (upd (upd H1 dx (.own x)) x (.ins C dx [])) (fun v H2 => v = .non ∧ Q (.ref x) H2) (E σ)
theorem Has.callS (h : Has X.prog X.w X.K X.mg X.base CX x ps k sp) (hr : Room k X.A) (hg : Gl X x) (hx : ∀ σ, PassesAt CX X σ (E σ)) (ha : PA X (e :: es) t) (hdb : (x == ("__debug__" : Str)) = false := by decide)
    (he : starEach (e :: es) X.env = (false, eval e X.env) :: starEach es X.env := by rfl) (hpl : (backTo pos (starEach es X.env)).any (·.1) = false := by rfl) : PE X (.Call (.Name x p) (e :: es) [] pos) (tCallS sp E t) := by
  obtain ⟨f, fd, hm, hk, hb, F⟩ := h
  exact pe_callS F hr hg hm hk hb hx ha hdb he hpl
theorem HasM.callS (h : HasM X.prog X.w X.K X.mg X.base CX C m ps k sp) (c : Cls X.K C) (ho : PE X o ta) (hr : Room k X.A) (hx : ∀ σ, PassesAt CX X σ (E σ)) (ha : PA X (e :: es) t) {pl : Sem Bool}
    (hst : starEach (e :: es) X.env = (false, eval e X.env) :: starEach es X.env := by rfl) (hpl : (backTo pos (starEach es X.env)).any (·.1) = false := by rfl)
    (ht : eval (.Call (.Attribute o m apos) (e :: es) [] pos) X.env = (do let ov ← eval o X.env; standAt apos.atName; let (f, first) ← holding [ov] (getMethod ov m pl); callWith pos f first (backTo pos (starEach (e :: es) X.env)) (backToKw pos (keywordEach [] X.env))) := by rfl) : PE X (.Call (.Attribute o m apos) (e :: es) [] pos) (tMethE C m sp E ta t) := by
  obtain ⟨f, fd, hm, hb, F⟩ := h
  constructor
  intro pins s σ H Q I q
  have first := ho.run pins s σ H _ I q
  refine PySem.W.methodCall_KW (pl := pl) (wpAny_mono first (fun u s1 out => ?_) fun _ _ z => z) ht
  obtain ⟨y, H1, I1, ry, a, dx, fs, rfl, ea, hl, q1⟩ := out
  have eu : u = Value.ref a := ry
  subst eu
  have args := ha.run pos pins s1 σ H1 _ I1 q1
  exact getmeth_ok I1 ea c hm hl (PySem.W.callWith_K (first := [.ref a]) (h₀ := X.base) I.ok.mod.kin hm.kp (wpAny_mono args (fun us s2 out => by
    obtain ⟨vs, H2, I2, r, q2⟩ := out
    exact ⟨I2.kIn, run_fnS (us := .ref a :: us) (vs := .ref a :: vs) F hr hb (hx σ) I2 (.cons rfl r) q2⟩) fun _ _ z => z) hst hpl)
theorem HasI.makeS (h : HasI X.prog X.w X.K X.mg X.base CX C ps k sp) (hr : Room (k + 1) X.A) (hg : Gl X x) (hm : X.mg x = some (.ref C)) (hx : ∀ σ, PassesAt CX X σ (E σ)) (ha : PA X (e :: es) t) (hdb : (x == ("__debug__" : Str)) = false := by decide)
    (he : starEach (e :: es) X.env = (false, eval e X.env) :: starEach es X.env := by rfl) (hpl : (backTo pos (starEach es X.env)).any (·.1) = false := by rfl) : PE X (.Call (.Name x p) (e :: es) [] pos) (tMakeE C sp E t) := by
  obtain ⟨f, fd, M, hb, F⟩ := h
  constructor
  intro pins s σ H Q I q
  have args := ha.run pos pins s σ H _ I q
  refine wpAny_Call_Name_kw (ld_glob I hg hm (PySem.W.callWith_K (h₀ := X.base) I.ok.mod.kin M.kp (wpAny_mono args (fun us s1 out => ?_) fun _ _ z => z) he hpl) hdb)
  obtain ⟨vs, H1, I1, r, q1⟩ := out
  refine ⟨I1.kIn, ?_⟩
  have sz := I1.hok
  have want := q1 (s1.heap.objs.size + 1) s1.heap.objs.size (sz.fresh (Nat.le_succ _)) (sz.fresh (Nat.le_refl _)) (Nat.ne_of_lt (Nat.lt_succ_self _))
  have I2 := Inv.made (C := C) I1
  have r2 : Vals (V.ref (s1.heap.objs.size + 1) :: vs) (Value.ref (s1.heap.objs.size + 1) :: us) := .cons rfl r
  have len : (Value.ref (s1.heap.objs.size + 1) :: us).length = ps.length := r2.length.symm.trans (F.len _ _ _ _ want)
  have b2 := hb _ (Value.ref (s1.heap.objs.size + 1) :: us) I2.kIn (by rw [List.append_nil]; exact len)
  rw [List.append_nil] at b2
  have ran := F.run _ X.stack _ _ ⟨Value.ref (s1.heap.objs.size + 1) :: us, []⟩ (Value.ref (s1.heap.objs.size + 1) :: us) _ _ (E σ) (hr.make C us []) (I2.env0.make C us []) b2 r2 want
  refine wpAny_call (make_map (f := f) I1.kIn M.makes M.init (beq_iff_eq.mp M.fn) (codeAny_mono ran fun res s' out => ?_))
  cases res with
  | error e1 => exact hx σ pins _ _ e1 s' I2 out
  | ok fl =>
    cases fl with
    | ret u =>
      obtain ⟨v, H', I3, rv, ev, q3⟩ := I2.after out
      subst ev
      exact ⟨rv, .ref (s1.heap.objs.size + 1), H', I3, rfl, q3⟩
    | next => exact out.elim
    | brk => exact out.elim
    | cont => exact out.elim
end
end Fi
namespace Fi
open PySem L2 Evl
def top (i : Nat) : Stmt := PySem.Challenge.pw_firetree_k03_fires.main.body.getD i (.Pass ⟨0, 0, 0, 0⟩)
abbrev s__wall : Stmt := top 0
abbrev n__wall : List Str := ["k"]
abbrev p__wall : List Str := ["k"]
theorem sc__wall : FnScope n__wall p__wall (defScope s__wall) := ⟨rfl, rfl, rfl, by decide +kernel, rfl, by decide +kernel, by decide +kernel⟩
theorem bd__wall : ∀ (kV doc pm : Value) (an : Option Addr) (cdv ct : Value) (us : List Value), us.length = p__wall.length → bindArgs (PySem.W.fnOf "_wall" "_wall" (defArgs s__wall) (defBody s__wall) (defScope s__wall) .none kV doc pm an cdv ct) ⟨us, []⟩ = pure (p__wall.zip us) := fun _ _ _ _ _ _ us hl => match us, hl with | [_], _ => rfl
abbrev s_spread : Stmt := top 8
abbrev n_spread : List Str := ["tree", "plan", "minutes", "burning", "shut", "now", "fresh", "thing"]
abbrev p_spread : List Str := ["tree", "plan"]
theorem sc_spread : FnScope n_spread p_spread (defScope s_spread) := ⟨rfl, rfl, rfl, by decide +kernel, rfl, by decide +kernel, by decide +kernel⟩
theorem bd_spread : ∀ (kV doc pm : Value) (an : Option Addr) (cdv ct : Value) (us : List Value), us.length = p_spread.length → bindArgs (PySem.W.fnOf "spread" "spread" (defArgs s_spread) (defBody s_spread) (defScope s_spread) .none kV doc pm an cdv ct) ⟨us, []⟩ = pure (p_spread.zip us) := fun _ _ _ _ _ _ us hl => match us, hl with | [_, _], _ => rfl
abbrev s_burnt : Stmt := top 9
abbrev n_burnt : List Str := ["tree", "plan", "found"]
abbrev p_burnt : List Str := ["tree", "plan"]
theorem sc_burnt : FnScope n_burnt p_burnt (defScope s_burnt) := ⟨rfl, rfl, rfl, by decide +kernel, rfl, by decide +kernel, by decide +kernel⟩
theorem bd_burnt : ∀ (kV doc pm : Value) (an : Option Addr) (cdv ct : Value) (us : List Value), us.length = p_burnt.length → bindArgs (PySem.W.fnOf "burnt" "burnt" (defArgs s_burnt) (defBody s_burnt) (defScope s_burnt) .none kV doc pm an cdv ct) ⟨us, []⟩ = pure (p_burnt.zip us) := fun _ _ _ _ _ _ us hl => match us, hl with | [_, _], _ => rfl
abbrev s_saved : Stmt := top 10
abbrev n_saved : List Str := ["tree", "plan", "burning", "thing"]
abbrev p_saved : List Str := ["tree", "plan"]
theorem sc_saved : FnScope n_saved p_saved (defScope s_saved) := ⟨rfl, rfl, rfl, by decide +kernel, rfl, by decide +kernel, by decide +kernel⟩
theorem bd_saved : ∀ (kV doc pm : Value) (an : Option Addr) (cdv ct : Value) (us : List Value), us.length = p_saved.length → bindArgs (PySem.W.fnOf "saved" "saved" (defArgs s_saved) (defBody s_saved) (defScope s_saved) .none kV doc pm an cdv ct) ⟨us, []⟩ = pure (p_saved.zip us) := fun _ _ _ _ _ _ us hl => match us, hl with | [_, _], _ => rfl
abbrev s_Tree___init__ : Stmt := inClass (top 14) 0
abbrev n_Tree___init__ : List Str := ["self", "elders", "worths", "k", "worth"]
abbrev p_Tree___init__ : List Str := ["self", "elders", "worths"]
theorem sc_Tree___init__ : FnScope n_Tree___init__ p_Tree___init__ (defScope s_Tree___init__) := ⟨rfl, rfl, rfl, by decide +kernel, rfl, by decide +kernel, by decide +kernel⟩
theorem bd_Tree___init__ : ∀ (kV doc pm : Value) (an : Option Addr) (cdv ct : Value) (us : List Value), us.length = p_Tree___init__.length → bindArgs (PySem.W.fnOf "__init__" "Tree.__init__" (defArgs s_Tree___init__) (defBody s_Tree___init__) (defScope s_Tree___init__) .none kV doc pm an cdv ct) ⟨us, []⟩ = pure (p_Tree___init__.zip us) := fun _ _ _ _ _ _ us hl => match us, hl with | [_, _, _], _ => rfl
abbrev s_Tree_elders : Stmt := inClass (top 14) 1
abbrev n_Tree_elders : List Str := ["self"]
abbrev p_Tree_elders : List Str := ["self"]
theorem sc_Tree_elders : FnScope n_Tree_elders p_Tree_elders (defScope s_Tree_elders) := ⟨rfl, rfl, rfl, by decide +kernel, rfl, by decide +kernel, by decide +kernel⟩
theorem bd_Tree_elders : ∀ (kV doc pm : Value) (an : Option Addr) (cdv ct : Value) (us : List Value), us.length = p_Tree_elders.length → bindArgs (PySem.W.fnOf "elders" "Tree.elders" (defArgs s_Tree_elders) (defBody s_Tree_elders) (defScope s_Tree_elders) .none kV doc pm an cdv ct) ⟨us, []⟩ = pure (p_Tree_elders.zip us) := fun _ _ _ _ _ _ us hl => match us, hl with | [_], _ => rfl
abbrev s_Tree_worths : Stmt := inClass (top 14) 2
abbrev n_Tree_worths : List Str := ["self"]
abbrev p_Tree_worths : List Str := ["self"]
theorem sc_Tree_worths : FnScope n_Tree_worths p_Tree_worths (defScope s_Tree_worths) := ⟨rfl, rfl, rfl, by decide +kernel, rfl, by decide +kernel, by decide +kernel⟩
theorem bd_Tree_worths : ∀ (kV doc pm : Value) (an : Option Addr) (cdv ct : Value) (us : List Value), us.length = p_Tree_worths.length → bindArgs (PySem.W.fnOf "worths" "Tree.worths" (defArgs s_Tree_worths) (defBody s_Tree_worths) (defScope s_Tree_worths) .none kV doc pm an cdv ct) ⟨us, []⟩ = pure (p_Tree_worths.zip us) := fun _ _ _ _ _ _ us hl => match us, hl with | [_], _ => rfl
abbrev s_Tree_things : Stmt := inClass (top 14) 3
abbrev n_Tree_things : List Str := ["self"]
abbrev p_Tree_things : List Str := ["self"]
theorem sc_Tree_things : FnScope n_Tree_things p_Tree_things (defScope s_Tree_things) := ⟨rfl, rfl, rfl, by decide +kernel, rfl, by decide +kernel, by decide +kernel⟩
theorem bd_Tree_things : ∀ (kV doc pm : Value) (an : Option Addr) (cdv ct : Value) (us : List Value), us.length = p_Tree_things.length → bindArgs (PySem.W.fnOf "things" "Tree.things" (defArgs s_Tree_things) (defBody s_Tree_things) (defScope s_Tree_things) .none kV doc pm an cdv ct) ⟨us, []⟩ = pure (p_Tree_things.zip us) := fun _ _ _ _ _ _ us hl => match us, hl with | [_], _ => rfl
abbrev s_Tree_see_thing : Stmt := inClass (top 14) 4
abbrev n_Tree_see_thing : List Str := ["self", "thing"]
abbrev p_Tree_see_thing : List Str := ["self", "thing"]
theorem sc_Tree_see_thing : FnScope n_Tree_see_thing p_Tree_see_thing (defScope s_Tree_see_thing) := ⟨rfl, rfl, rfl, by decide +kernel, rfl, by decide +kernel, by decide +kernel⟩
theorem bd_Tree_see_thing : ∀ (kV doc pm : Value) (an : Option Addr) (cdv ct : Value) (us : List Value), us.length = p_Tree_see_thing.length → bindArgs (PySem.W.fnOf "see_thing" "Tree.see_thing" (defArgs s_Tree_see_thing) (defBody s_Tree_see_thing) (defScope s_Tree_see_thing) .none kV doc pm an cdv ct) ⟨us, []⟩ = pure (p_Tree_see_thing.zip us) := fun _ _ _ _ _ _ us hl => match us, hl with | [_, _], _ => rfl
abbrev s_Tree_depth : Stmt := inClass (top 14) 5
abbrev n_Tree_depth : List Str := ["self", "thing"]
abbrev p_Tree_depth : List Str := ["self", "thing"]
theorem sc_Tree_depth : FnScope n_Tree_depth p_Tree_depth (defScope s_Tree_depth) := ⟨rfl, rfl, rfl, by decide +kernel, rfl, by decide +kernel, by decide +kernel⟩
theorem bd_Tree_depth : ∀ (kV doc pm : Value) (an : Option Addr) (cdv ct : Value) (us : List Value), us.length = p_Tree_depth.length → bindArgs (PySem.W.fnOf "depth" "Tree.depth" (defArgs s_Tree_depth) (defBody s_Tree_depth) (defScope s_Tree_depth) .none kV doc pm an cdv ct) ⟨us, []⟩ = pure (p_Tree_depth.zip us) := fun _ _ _ _ _ _ us hl => match us, hl with | [_, _], _ => rfl
abbrev s_Tree_below : Stmt := inClass (top 14) 6
abbrev n_Tree_below : List Str := ["self", "thing"]
abbrev p_Tree_below : List Str := ["self", "thing"]
theorem sc_Tree_below : FnScope n_Tree_below p_Tree_below (defScope s_Tree_below) := ⟨rfl, rfl, rfl, by decide +kernel, rfl, by decide +kernel, by decide +kernel⟩
theorem bd_Tree_below : ∀ (kV doc pm : Value) (an : Option Addr) (cdv ct : Value) (us : List Value), us.length = p_Tree_below.length → bindArgs (PySem.W.fnOf "below" "Tree.below" (defArgs s_Tree_below) (defBody s_Tree_below) (defScope s_Tree_below) .none kV doc pm an cdv ct) ⟨us, []⟩ = pure (p_Tree_below.zip us) := fun _ _ _ _ _ _ us hl => match us, hl with | [_, _], _ => rfl
abbrev s_Tree_worth_below : Stmt := inClass (top 14) 7
abbrev n_Tree_worth_below : List Str := ["self", "thing"]
abbrev p_Tree_worth_below : List Str := ["self", "thing"]
theorem sc_Tree_worth_below : FnScope n_Tree_worth_below p_Tree_worth_below (defScope s_Tree_worth_below) := ⟨rfl, rfl, rfl, by decide +kernel, rfl, by decide +kernel, by decide +kernel⟩
theorem bd_Tree_worth_below : ∀ (kV doc pm : Value) (an : Option Addr) (cdv ct : Value) (us : List Value), us.length = p_Tree_worth_below.length → bindArgs (PySem.W.fnOf "worth_below" "Tree.worth_below" (defArgs s_Tree_worth_below) (defBody s_Tree_worth_below) (defScope s_Tree_worth_below) .none kV doc pm an cdv ct) ⟨us, []⟩ = pure (p_Tree_worth_below.zip us) := fun _ _ _ _ _ _ us hl => match us, hl with | [_, _], _ => rfl
abbrev s__law_cell_at : Stmt := top 16
abbrev n__law_cell_at : List Str := ["script", "k"]
abbrev p__law_cell_at : List Str := ["script", "k"]
theorem sc__law_cell_at : FnScope n__law_cell_at p__law_cell_at (defScope s__law_cell_at) := ⟨rfl, rfl, rfl, by decide +kernel, rfl, by decide +kernel, by decide +kernel⟩
theorem bd__law_cell_at : ∀ (kV doc pm : Value) (an : Option Addr) (cdv ct : Value) (us : List Value), us.length = p__law_cell_at.length → bindArgs (PySem.W.fnOf "_law_cell_at" "_law_cell_at" (defArgs s__law_cell_at) (defBody s__law_cell_at) (defScope s__law_cell_at) .none kV doc pm an cdv ct) ⟨us, []⟩ = pure (p__law_cell_at.zip us) := fun _ _ _ _ _ _ us hl => match us, hl with | [_, _], _ => rfl
abbrev s__law_draw : Stmt := top 17
abbrev n__law_draw : List Str := ["script", "k"]
abbrev p__law_draw : List Str := ["script", "k"]
theorem sc__law_draw : FnScope n__law_draw p__law_draw (defScope s__law_draw) := ⟨rfl, rfl, rfl, by decide +kernel, rfl, by decide +kernel, by decide +kernel⟩
theorem bd__law_draw : ∀ (kV doc pm : Value) (an : Option Addr) (cdv ct : Value) (us : List Value), us.length = p__law_draw.length → bindArgs (PySem.W.fnOf "_law_draw" "_law_draw" (defArgs s__law_draw) (defBody s__law_draw) (defScope s__law_draw) .none kV doc pm an cdv ct) ⟨us, []⟩ = pure (p__law_draw.zip us) := fun _ _ _ _ _ _ us hl => match us, hl with | [_, _], _ => rfl
abbrev s__law_whole : Stmt := top 18
abbrev n__law_whole : List Str := ["found"]
abbrev p__law_whole : List Str := ["found"]
theorem sc__law_whole : FnScope n__law_whole p__law_whole (defScope s__law_whole) := ⟨rfl, rfl, rfl, by decide +kernel, rfl, by decide +kernel, by decide +kernel⟩
theorem bd__law_whole : ∀ (kV doc pm : Value) (an : Option Addr) (cdv ct : Value) (us : List Value), us.length = p__law_whole.length → bindArgs (PySem.W.fnOf "_law_whole" "_law_whole" (defArgs s__law_whole) (defBody s__law_whole) (defScope s__law_whole) .none kV doc pm an cdv ct) ⟨us, []⟩ = pure (p__law_whole.zip us) := fun _ _ _ _ _ _ us hl => match us, hl with | [_], _ => rfl
abbrev s__law_elders : Stmt := top 19
abbrev n__law_elders : List Str := ["script", "things", "elders", "way", "k", "cell"]
abbrev p__law_elders : List Str := ["script", "things"]
theorem sc__law_elders : FnScope n__law_elders p__law_elders (defScope s__law_elders) := ⟨rfl, rfl, rfl, by decide +kernel, rfl, by decide +kernel, by decide +kernel⟩
theorem bd__law_elders : ∀ (kV doc pm : Value) (an : Option Addr) (cdv ct : Value) (us : List Value), us.length = p__law_elders.length → bindArgs (PySem.W.fnOf "_law_elders" "_law_elders" (defArgs s__law_elders) (defBody s__law_elders) (defScope s__law_elders) .none kV doc pm an cdv ct) ⟨us, []⟩ = pure (p__law_elders.zip us) := fun _ _ _ _ _ _ us hl => match us, hl with | [_, _], _ => rfl
abbrev s__law_tree : Stmt := top 20
abbrev n__law_tree : List Str := ["script", "most", "things", "top", "k"]
abbrev p__law_tree : List Str := ["script", "most"]
theorem sc__law_tree : FnScope n__law_tree p__law_tree (defScope s__law_tree) := ⟨rfl, rfl, rfl, by decide +kernel, rfl, by decide +kernel, by decide +kernel⟩
theorem bd__law_tree : ∀ (kV doc pm : Value) (an : Option Addr) (cdv ct : Value) (us : List Value), us.length = p__law_tree.length → bindArgs (PySem.W.fnOf "_law_tree" "_law_tree" (defArgs s__law_tree) (defBody s__law_tree) (defScope s__law_tree) .none kV doc pm an cdv ct) ⟨us, []⟩ = pure (p__law_tree.zip us) := fun _ _ _ _ _ _ us hl => match us, hl with | [_, _], _ => rfl
abbrev s__law_depth : Stmt := top 21
abbrev n__law_depth : List Str := ["elders", "thing", "steps"]
abbrev p__law_depth : List Str := ["elders", "thing"]
theorem sc__law_depth : FnScope n__law_depth p__law_depth (defScope s__law_depth) := ⟨rfl, rfl, rfl, by decide +kernel, rfl, by decide +kernel, by decide +kernel⟩
theorem bd__law_depth : ∀ (kV doc pm : Value) (an : Option Addr) (cdv ct : Value) (us : List Value), us.length = p__law_depth.length → bindArgs (PySem.W.fnOf "_law_depth" "_law_depth" (defArgs s__law_depth) (defBody s__law_depth) (defScope s__law_depth) .none kV doc pm an cdv ct) ⟨us, []⟩ = pure (p__law_depth.zip us) := fun _ _ _ _ _ _ us hl => match us, hl with | [_, _], _ => rfl
abbrev s__law_below : Stmt := top 22
abbrev n__law_below : List Str := ["elders", "thing", "found", "other", "here"]
abbrev p__law_below : List Str := ["elders", "thing"]
theorem sc__law_below : FnScope n__law_below p__law_below (defScope s__law_below) := ⟨rfl, rfl, rfl, by decide +kernel, rfl, by decide +kernel, by decide +kernel⟩
theorem bd__law_below : ∀ (kV doc pm : Value) (an : Option Addr) (cdv ct : Value) (us : List Value), us.length = p__law_below.length → bindArgs (PySem.W.fnOf "_law_below" "_law_below" (defArgs s__law_below) (defBody s__law_below) (defScope s__law_below) .none kV doc pm an cdv ct) ⟨us, []⟩ = pure (p__law_below.zip us) := fun _ _ _ _ _ _ us hl => match us, hl with | [_, _], _ => rfl
abbrev s__law_worth : Stmt := top 23
abbrev n__law_worth : List Str := ["plot", "thing", "other"]
abbrev p__law_worth : List Str := ["plot", "thing"]
theorem sc__law_worth : FnScope n__law_worth p__law_worth (defScope s__law_worth) := ⟨rfl, rfl, rfl, by decide +kernel, rfl, by decide +kernel, by decide +kernel⟩
theorem bd__law_worth : ∀ (kV doc pm : Value) (an : Option Addr) (cdv ct : Value) (us : List Value), us.length = p__law_worth.length → bindArgs (PySem.W.fnOf "_law_worth" "_law_worth" (defArgs s__law_worth) (defBody s__law_worth) (defScope s__law_worth) .none kV doc pm an cdv ct) ⟨us, []⟩ = pure (p__law_worth.zip us) := fun _ _ _ _ _ _ us hl => match us, hl with | [_, _], _ => rfl
abbrev s__law_fire : Stmt := top 24
abbrev n__law_fire : List Str := ["elders", "plan", "burning", "shut", "rows", "now", "ahead", "thing"]
abbrev p__law_fire : List Str := ["elders", "plan"]
theorem sc__law_fire : FnScope n__law_fire p__law_fire (defScope s__law_fire) := ⟨rfl, rfl, rfl, by decide +kernel, rfl, by decide +kernel, by decide +kernel⟩
theorem bd__law_fire : ∀ (kV doc pm : Value) (an : Option Addr) (cdv ct : Value) (us : List Value), us.length = p__law_fire.length → bindArgs (PySem.W.fnOf "_law_fire" "_law_fire" (defArgs s__law_fire) (defBody s__law_fire) (defScope s__law_fire) .none kV doc pm an cdv ct) ⟨us, []⟩ = pure (p__law_fire.zip us) := fun _ _ _ _ _ _ us hl => match us, hl with | [_, _], _ => rfl
abbrev s__law_saved : Stmt := top 25
abbrev n__law_saved : List Str := ["plot", "plan", "burning", "thing"]
abbrev p__law_saved : List Str := ["plot", "plan"]
theorem sc__law_saved : FnScope n__law_saved p__law_saved (defScope s__law_saved) := ⟨rfl, rfl, rfl, by decide +kernel, rfl, by decide +kernel, by decide +kernel⟩
theorem bd__law_saved : ∀ (kV doc pm : Value) (an : Option Addr) (cdv ct : Value) (us : List Value), us.length = p__law_saved.length → bindArgs (PySem.W.fnOf "_law_saved" "_law_saved" (defArgs s__law_saved) (defBody s__law_saved) (defScope s__law_saved) .none kV doc pm an cdv ct) ⟨us, []⟩ = pure (p__law_saved.zip us) := fun _ _ _ _ _ _ us hl => match us, hl with | [_, _], _ => rfl
abbrev s__law_numbers : Stmt := top 26
abbrev n__law_numbers : List Str := ["found", "due", "number"]
abbrev p__law_numbers : List Str := ["found", "due"]
theorem sc__law_numbers : FnScope n__law_numbers p__law_numbers (defScope s__law_numbers) := ⟨rfl, rfl, rfl, by decide +kernel, rfl, by decide +kernel, by decide +kernel⟩
theorem bd__law_numbers : ∀ (kV doc pm : Value) (an : Option Addr) (cdv ct : Value) (us : List Value), us.length = p__law_numbers.length → bindArgs (PySem.W.fnOf "_law_numbers" "_law_numbers" (defArgs s__law_numbers) (defBody s__law_numbers) (defScope s__law_numbers) .none kV doc pm an cdv ct) ⟨us, []⟩ = pure (p__law_numbers.zip us) := fun _ _ _ _ _ _ us hl => match us, hl with | [_, _], _ => rfl
abbrev s__law_alone : Stmt := top 27
abbrev n__law_alone : List Str := ["e", "found"]
abbrev p__law_alone : List Str := ["e"]
theorem sc__law_alone : FnScope n__law_alone p__law_alone (defScope s__law_alone) := ⟨rfl, rfl, rfl, by decide +kernel, rfl, by decide +kernel, by decide +kernel⟩
theorem bd__law_alone : ∀ (kV doc pm : Value) (an : Option Addr) (cdv ct : Value) (us : List Value), us.length = p__law_alone.length → bindArgs (PySem.W.fnOf "_law_alone" "_law_alone" (defArgs s__law_alone) (defBody s__law_alone) (defScope s__law_alone) .none kV doc pm an cdv ct) ⟨us, []⟩ = pure (p__law_alone.zip us) := fun _ _ _ _ _ _ us hl => match us, hl with | [_], _ => rfl
abbrev s__law_plan : Stmt := top 28
abbrev n__law_plan : List Str := ["script", "elders", "plan", "k", "cell", "some", "one", "thing"]
abbrev p__law_plan : List Str := ["script", "elders"]
theorem sc__law_plan : FnScope n__law_plan p__law_plan (defScope s__law_plan) := ⟨rfl, rfl, rfl, by decide +kernel, rfl, by decide +kernel, by decide +kernel⟩
theorem bd__law_plan : ∀ (kV doc pm : Value) (an : Option Addr) (cdv ct : Value) (us : List Value), us.length = p__law_plan.length → bindArgs (PySem.W.fnOf "_law_plan" "_law_plan" (defArgs s__law_plan) (defBody s__law_plan) (defScope s__law_plan) .none kV doc pm an cdv ct) ⟨us, []⟩ = pure (p__law_plan.zip us) := fun _ _ _ _ _ _ us hl => match us, hl with | [_, _], _ => rfl
abbrev s__law_tried : Stmt := top 29
abbrev n__law_tried : List Str := ["call", "tree", "plan", "found", "e"]
abbrev p__law_tried : List Str := ["call", "tree", "plan"]
theorem sc__law_tried : FnScope n__law_tried p__law_tried (defScope s__law_tried) := ⟨rfl, rfl, rfl, by decide +kernel, rfl, by decide +kernel, by decide +kernel⟩
theorem bd__law_tried : ∀ (kV doc pm : Value) (an : Option Addr) (cdv ct : Value) (us : List Value), us.length = p__law_tried.length → bindArgs (PySem.W.fnOf "_law_tried" "_law_tried" (defArgs s__law_tried) (defBody s__law_tried) (defScope s__law_tried) .none kV doc pm an cdv ct) ⟨us, []⟩ = pure (p__law_tried.zip us) := fun _ _ _ _ _ _ us hl => match us, hl with | [_, _, _], _ => rfl
abbrev s__law_rows_right : Stmt := top 30
abbrev n__law_rows_right : List Str := ["found", "due", "k"]
abbrev p__law_rows_right : List Str := ["found", "due"]
theorem sc__law_rows_right : FnScope n__law_rows_right p__law_rows_right (defScope s__law_rows_right) := ⟨rfl, rfl, rfl, by decide +kernel, rfl, by decide +kernel, by decide +kernel⟩
theorem bd__law_rows_right : ∀ (kV doc pm : Value) (an : Option Addr) (cdv ct : Value) (us : List Value), us.length = p__law_rows_right.length → bindArgs (PySem.W.fnOf "_law_rows_right" "_law_rows_right" (defArgs s__law_rows_right) (defBody s__law_rows_right) (defScope s__law_rows_right) .none kV doc pm an cdv ct) ⟨us, []⟩ = pure (p__law_rows_right.zip us) := fun _ _ _ _ _ _ us hl => match us, hl with | [_, _], _ => rfl
abbrev s__law_right : Stmt := top 31
abbrev n__law_right : List Str := ["plot", "tree", "plan", "handed", "due", "rows", "worth", "row"]
abbrev p__law_right : List Str := ["plot", "tree", "plan"]
theorem sc__law_right : FnScope n__law_right p__law_right (defScope s__law_right) := ⟨rfl, rfl, rfl, by decide +kernel, rfl, by decide +kernel, by decide +kernel⟩
theorem bd__law_right : ∀ (kV doc pm : Value) (an : Option Addr) (cdv ct : Value) (us : List Value), us.length = p__law_right.length → bindArgs (PySem.W.fnOf "_law_right" "_law_right" (defArgs s__law_right) (defBody s__law_right) (defScope s__law_right) .none kV doc pm an cdv ct) ⟨us, []⟩ = pure (p__law_right.zip us) := fun _ _ _ _ _ _ us hl => match us, hl with | [_, _, _], _ => rfl
abbrev s_law : Stmt := top 32
abbrev n_law : List Str := ["script", "plots", "handed", "trees", "pair", "plan", "turn", "k", "plot"]
abbrev p_law : List Str := ["script"]
theorem sc_law : FnScope n_law p_law (defScope s_law) := ⟨rfl, rfl, rfl, by decide +kernel, rfl, by decide +kernel, by decide +kernel⟩
theorem bd_law : ∀ (kV doc pm : Value) (an : Option Addr) (cdv ct : Value) (us : List Value), us.length = p_law.length → bindArgs (PySem.W.fnOf "law" "law" (defArgs s_law) (defBody s_law) (defScope s_law) .none kV doc pm an cdv ct) ⟨us, []⟩ = pure (p_law.zip us) := fun _ _ _ _ _ _ us hl => match us, hl with | [_], _ => rfl
end Fi
/-! The law's draws and its tree. -/
namespace Fi
open PySem L2 Evl
section
variable {P : Program} {w : World} {K : PySem.W.Frag} {mg : Str → Option Value} {base : Heap}
/-! ### _law_cell_at -/
def spCell (K : PySem.W.Frag) : Sp := fun vs H Q _ => ∃ (a : Addr) (ns : List Int) (k : Int), vs = [.ref a, .int k] ∧ SqL K H a (ns.map V.int) ∧ 0 ≤ k ∧ RetV (.int (ns.getD k.toNat 0)) H Q
theorem has_cell (B : Bi mg) (D : At K mg "_law_cell_at" s__law_cell_at p__law_cell_at) : Has P w K mg base CX0 "_law_cell_at" p__law_cell_at 1 (spCell K) := D.has fun f fd F => by
  refine F.ok sc__law_cell_at (fun vs H Q E h => ?_) (fun cdv A outer s H vs Q E hr h => ?_)
  · obtain ⟨a, ns, k, rfl, _⟩ := h
    rfl
  · obtain ⟨a, ns, k, rfl, hS, hk, q⟩ := h
    refine ⟨_, (pss_cons (ps_if (pt_cmpR op_lt (pv 1) (pe_callB (call_lenK (K := K)) (by rfl) B.len PySem.boot_len (pa_cons (pv 0) pa_nil)) (nomark _)) (pss_one (ps_ret (pe_ix (ix_listK (K := K)) (pv 0) (pv 1) (fun _ _ => rfl)))) pss_nil)
      (pss_one (ps_ret pe_int))), ?_⟩
    refine q_when (et_test (ev_op (ev_var rfl) (ev_lenS (ev_var rfl) hS) rv_I0)) (fun hb H1 e1 => ?_) (fun hb H1 e1 => ?_)
    · have hlt : k < ((ns.map V.int).length : Int) := of_decide_eq_true hb
      rw [List.length_map] at hlt
      have hx : atI (ns.map V.int) k = some (V.int (ns.getD k.toNat 0)) := at_of (j := k.toNat) (by omega) (by
        rw [List.getElem?_map, List.getD_eq_getElem?_getD, List.getElem?_eq_getElem (by omega)]; rfl)
      exact s_ret (ev_opIx (ev_var rfl) (ev_var rfl) (ex_l e1 hS) hx) fun H2 e2 => q H2 (e1.trans e2)
    · have hlt : ¬ k < ((ns.map V.int).length : Int) := of_decide_eq_false hb
      rw [List.length_map] at hlt
      have hx : ns.getD k.toNat 0 = 0 := by
        rw [List.getD_eq_getElem?_getD, List.getElem?_eq_none (by omega)]; rfl
      rw [hx] at q
      exact s_ret ev_c fun H2 e2 => q H2 (e1.trans e2)
theorem spv_cell {H : Hp} {a : Addr} {ns : List Int} {k : Int} (hS : SqL K H a (ns.map V.int)) (hk : 0 ≤ k) : SpV (spCell K) [.ref a, .int k] H (.int (ns.getD k.toNat 0)) := fun H1 e Q q E => ⟨a, ns, k, rfl, ex_l e hS, hk, q⟩
/-! ### _law_draw -/
def spDraw (K : PySem.W.Frag) : Sp := fun vs H Q _ => ∃ (a : Addr) (ns : List Int) (k : Int), vs = [.ref a, .int k] ∧ SqL K H a (ns.map V.int) ∧ 0 ≤ k ∧ k ≤ 1000 ∧ RetV (.int (Fm.draw ns k)) H Q
theorem has_draw (D : At K mg "_law_draw" s__law_draw p__law_draw) (h_law_cell_at : Has P w K mg base CX0 "_law_cell_at" p__law_cell_at 1 (spCell K)) : Has P w K mg base CX0 "_law_draw" p__law_draw 2 (spDraw K) := D.has fun f fd F => by
  refine F.ok sc__law_draw (fun vs H Q E h => ?_) (fun cdv A outer s H vs Q E hr h => ?_)
  · obtain ⟨a, ns, k, rfl, _⟩ := h
    rfl
  · obtain ⟨a, ns, k, rfl, hS, hk, hk2, q⟩ := h
    refine ⟨_, (pss_one (ps_ret (pe_op op_mod (pe_op op_mul (pe_op op_add (h_law_cell_at.call (hr.mono (by decide)) (by rfl) pass0 (pa_cons (pv 0) (pa_cons (pe_op op_mod (pv 1) pe_int) pa_nil))) (pe_op op_mul pe_int (pv 1))) (pe_op op_add pe_int (pe_op op_mul pe_int (pv 1)))) pe_int))), ?_⟩
    refine s_ret (ev_op (ev_op (ev_op (ev_call0 (ea_cons (ev_var rfl) (ea_cons (ev_op (ev_var rfl) ev_c (rv_I (by decide))) ea_nil)) (spv_cell hS (Int.emod_nonneg _ (by decide)))) (ev_op ev_c (ev_var rfl) (rv_I (.inl (by decide)))) rv_I0)
      (ev_op ev_c (ev_op ev_c (ev_var rfl) (rv_I (.inl (by decide)))) rv_I0) (rv_I (.inr ⟨by omega, by omega⟩))) ev_c (rv_I (by decide))) fun H1 e1 => q H1 e1
theorem spv_draw {H : Hp} {a : Addr} {ns : List Int} {k : Int} (hS : SqL K H a (ns.map V.int)) (hk : 0 ≤ k) (hk2 : k ≤ 1000) : SpV (spDraw K) [.ref a, .int k] H (.int (Fm.draw ns k)) := fun H1 e Q q E => ⟨a, ns, k, rfl, ex_l e hS, hk, hk2, q⟩
/-! ### _law_elders -/
def spElders (K : PySem.W.Frag) : Sp := fun vs H Q _ => ∃ (a : Addr) (ns : List Int) (n : Nat), vs = [.ref a, .int (n : Int)] ∧ SqL K H a (ns.map V.int) ∧ 1 ≤ n ∧ n ≤ 14 ∧ RetL (vi (Fm.elders ns (n - 1))) H Q
theorem way4 {w a b c d : Int} (h0 : 0 ≤ w) (h1 : w < 4) : atI [V.int a, V.int b, V.int c, V.int d] w = some (V.int (if w = 0 then a else if w = 1 then b else if w = 2 then c else d)) := by
  have : w = 0 ∨ w = 1 ∨ w = 2 ∨ w = 3 := by omega
  rcases this with rfl | rfl | rfl | rfl <;> rfl
theorem has_elders (B : Bi mg) (D : At K mg "_law_elders" s__law_elders p__law_elders) (h_law_draw : Has P w K mg base CX0 "_law_draw" p__law_draw 2 (spDraw K)) : Has P w K mg base CX0 "_law_elders" p__law_elders 3 (spElders K) := D.has fun f fd F => by
  refine F.ok sc__law_elders (fun vs H Q E h => ?_) (fun cdv A outer s H vs Q E hr h => ?_)
  · obtain ⟨a, ns, k, rfl, _⟩ := h
    rfl
  · obtain ⟨a, ns, n, rfl, hS, hn, hn2, q⟩ := h
    refine ⟨_, (pss_cons (ps_set (i := 2) sc__law_elders.nd rfl (Or.inl rfl) (pe_lst pa_nil))
      (pss_cons (ps_set (i := 3) sc__law_elders.nd rfl (Or.inl rfl) (pe_op op_mod (h_law_draw.call (hr.mono (by decide)) (by rfl) pass0 (pa_cons (pv 0) (pa_cons pe_int pa_nil))) pe_int))
      (pss_cons (ps_for PassesOwn.never rfl (pi_range1 (by rfl) B.range (pa_cons (pe_op op_sub (pv 1) pe_int) pa_nil)) (pg_name (i := 4) sc__law_elders.nd rfl (Or.inl rfl)) (pss_cons (ps_set (i := 5) sc__law_elders.nd rfl (Or.inl rfl) (h_law_draw.call (hr.mono (by decide)) (by rfl) pass0 (pa_cons (pv 0) (pa_cons (pe_op op_add pe_int (pv 4)) pa_nil))))
        (pss_one (ps_expr (pe_bm PySem.F.plainAttrs_list PySem.F.slot_list_append PySem.F.type_list_append mt_append (pv 2) (pa_cons (pe_ix (ix_listK (K := K)) (pe_lst (pa_cons (pe_op op_mod (pv 5) (pe_op op_add (pv 4) pe_int)) (pa_cons (pe_op op_sub (pv 4) (pe_op op_fdiv (pe_op op_mod (pv 5) (pe_op op_add (pv 4) pe_int)) pe_int)) (pa_cons (pe_op op_mod (pv 5) (pe_callB (call_min2 rfl) (by rfl) B.min (by decide +kernel) (pa_cons (pe_op op_add (pv 4) pe_int) (pa_cons pe_int pa_nil)))) (pa_cons (pe_op op_fdiv (pe_op op_add (pv 4) (pe_op op_mod (pv 5) pe_int)) pe_int) pa_nil))))) (pv 3) (fun _ _ => rfl)) pa_nil))))))
      (pss_one (ps_ret (pv 2)))))), ?_⟩
    -- elders = []; way = ..
    refine q_asgL (el_lst ea_nil (Nat.zero_le _)) fun l H1 hl e1 h1 => ?_
    refine q_asg (ev_op (ev_call0 (ea_cons (ev_var rfl) (ea_cons ev_c ea_nil)) (spv_draw (ex_l e1 hS) (by decide) (by decide))) ev_c (rv_I (by decide))) fun H2 e2 => ?_
    have w0 : 0 ≤ Fm.draw ns 2 % 4 := Int.emod_nonneg _ (by decide)
    have w1 : Fm.draw ns 2 % 4 < 4 := Int.emod_lt_of_pos _ (by decide)
    refine q_forR1 (n := (n : Int) - 1) (ea_cons (ev_op (ev_var rfl) ev_c rv_I0) ea_nil) ⟨by omega, by omega⟩
      (fun i σ' H' => ∃ v1 v2, σ' = [some (.ref a), some (.int (n : Int)), some (.ref l), some (.int (Fm.draw ns 2 % 4)), v1, v2] ∧ Ex H H' ∧ H' l = some (.lst (vi (Fm.elders ns i))))
      (fun H3 e3 => ⟨none, none, rfl, (e1.trans e2).trans e3, e3 _ _ (e2 _ _ h1)⟩) ?_ ?_
    · rintro i σ' H' hi ⟨v1, v2, rfl, e, hL⟩
      -- cell = ..
      refine q_asg (v := .int (Fm.draw ns (10 + (i : Int)))) (ev_call0 (ea_cons (ev_var rfl) (ea_cons (ev_op ev_c (ev_var rfl) rv_I0) ea_nil)) (spv_draw (ex_l e hS) (by omega) (by omega))) fun H4 e4 => ?_
      refine s_app (v := .int ((Fm.elderAt (Fm.draw ns 2 % 4) (i : Int) (Fm.draw ns (10 + (i : Int)))).toNat : Nat)) (e4 _ _ hL) (ev_var rfl) ?_ (by rw [vi_len, Fm.elders_len]; omega) fun H5 e5 => ?_
      · rw [Int.toNat_of_nonneg (Fm.elderAt_lo (by omega))]
        refine ev_is (ev_opIxN (el_lst (ea_cons (ev_op (ev_var rfl) (ev_op (ev_var rfl) ev_c rv_I0) (rv_I (by show (0 : Int) < (i : Int) + 1; omega))) (ea_cons (ev_op (ev_var rfl) (ev_op (ev_op (ev_var rfl) (ev_op (ev_var rfl) ev_c rv_I0) (rv_I (by show (0 : Int) < (i : Int) + 1; omega))) ev_c (rv_I ⟨by decide, by decide⟩)) rv_I0)
          (ea_cons (ev_op (ev_var rfl) (ev_cb (ea_cons (ev_op (ev_var rfl) ev_c rv_I0) (ea_cons ev_c ea_nil)) rc_min2) (rv_I (by show (0 : Int) < if (3 : Int) < (i : Int) + 1 then 3 else (i : Int) + 1; split <;> omega))) (ea_cons (ev_op (ev_op (ev_var rfl) (ev_op (ev_var rfl) ev_c (rv_I (by decide))) rv_I0) ev_c (rv_I ⟨by decide, by decide⟩)) ea_nil)))) (by show 4 ≤ 100000; decide)) (ev_var rfl) (way4 w0 w1)) ?_
        rfl
      · refine ⟨_, _, rfl, Ex.mut ((e.trans e4).trans e5) hl, ?_⟩
        rw [upd_same, Fm.elders_succ, vi_app]
        rfl
    · rintro σ' H' ⟨v1, v2, rfl, e, hL⟩
      have en : ((n : Int) - 1).toNat = n - 1 := by omega
      rw [en] at hL
      exact s_ret (ev_var rfl) fun H3 e3 => q l H3 hl (e.trans e3) (e3 _ _ hL)
theorem spl_elders {H : Hp} {a : Addr} {ns : List Int} {n : Nat} (hS : SqL K H a (ns.map V.int)) (h1 : 1 ≤ n) (h2 : n ≤ 14) : SpL (spElders K) [.ref a, .int (n : Int)] H (vi (Fm.elders ns (n - 1))) := fun H1 e Q q E => ⟨a, ns, n, rfl, ex_l e hS, h1, h2, q⟩
/-! ### _law_tree -/
def spPlot (K : PySem.W.Frag) : Sp := fun vs H Q _ => ∃ (a : Addr) (ns : List Int) (most : Nat), vs = [.ref a, .int (most : Int)] ∧ SqL K H a (ns.map V.int) ∧ 1 ≤ most ∧ most ≤ 14 ∧
  RetP (fun v H2 => ∃ p, v = .ref p ∧ PlotAt H2 p (Fm.elders ns (Fm.count ns most - 1)) (Fm.worths ns (Fm.count ns most))) H Q
theorem top3 {w a b c : Int} (h0 : 0 ≤ w) (h1 : w < 3) : atI [V.int a, V.int b, V.int c] w = some (V.int (if w = 0 then a else if w = 1 then b else c)) := by
  have : w = 0 ∨ w = 1 ∨ w = 2 := by omega
  rcases this with rfl | rfl | rfl <;> rfl
theorem has_plot (B : Bi mg) (D : At K mg "_law_tree" s__law_tree p__law_tree) (h_law_draw : Has P w K mg base CX0 "_law_draw" p__law_draw 2 (spDraw K)) (h_law_elders : Has P w K mg base CX0 "_law_elders" p__law_elders 3 (spElders K)) :
    Has P w K mg base CX0 "_law_tree" p__law_tree 4 (spPlot K) := D.has fun f fd F => by
  refine F.ok sc__law_tree (fun vs H Q E h => ?_) (fun cdv A outer s H vs Q E hr h => ?_)
  · obtain ⟨a, ns, k, rfl, _⟩ := h
    rfl
  · obtain ⟨a, ns, most, rfl, hS, hn, hn2, q⟩ := h
    refine ⟨_, (pss_cons (ps_set (i := 2) sc__law_tree.nd rfl (Or.inl rfl) (pe_op op_add pe_int (pe_op op_mod (h_law_draw.call (hr.mono (by decide)) (by rfl) pass0 (pa_cons (pv 0) (pa_cons pe_int pa_nil))) (pv 1))))
      (pss_cons (ps_set (i := 3) sc__law_tree.nd rfl (Or.inr rfl) (pe_ix (ix_listK (K := K)) (pe_lst (pa_cons pe_int (pa_cons pe_int (pa_cons pe_int pa_nil)))) (pe_op op_mod (h_law_draw.call (hr.mono (by decide)) (by rfl) pass0 (pa_cons (pv 0) (pa_cons pe_int pa_nil))) pe_int) (fun _ _ => rfl)))
      (pss_one (ps_ret (pe_tup (pa_cons (h_law_elders.call (hr.mono (by decide)) (by rfl) pass0 (pa_cons (pv 0) (pa_cons (pv 2) pa_nil))) (pa_cons (pe_lc (own := [("k", 4)]) (g := gName 4) rfl sc__law_tree.nd (pi_range1 (by rfl) B.range (pa_cons (pv 2) pa_nil)) (blkOk_by (own := [("k", 4)]) (N := n__law_tree) (sc := defScope s__law_tree) (by decide +kernel)) (fun _ _ _ _ _ => pg_name (i := 4) sc__law_tree.nd rfl (Or.inl rfl)) (fun _ _ _ _ _ => pts_nil) (fun _ _ _ _ _ => (pe_op op_mod (h_law_draw.call (hr.mono (by decide)) (by rfl) pass0 (pa_cons (pv 0) (pa_cons (pe_op op_add pe_int (pv 4)) pa_nil))) (pv 3)))) pa_nil))))))), ?_⟩
    have c1 := Fm.count_lo ns (most := (most : Int)) (by omega)
    have c2 := Fm.count_hi ns (most := (most : Int)) (by omega)
    refine q_asg (v := .int (Fm.count ns most : Int)) (ev_is (ev_op ev_c (ev_op (ev_call0 (ea_cons (ev_var rfl) (ea_cons ev_c ea_nil)) (spv_draw hS (by decide) (by decide))) (ev_var rfl) (rv_I (by show (0 : Int) < (most : Int); omega))) rv_I0) (by rw [Fm.count_eq ns (by omega)])) fun H1 e1 => ?_
    refine q_asg (v := .int (Fm.topOf ns)) (ev_is (ev_opIxN (el_lst (ea_cons ev_c (ea_cons ev_c (ea_cons ev_c ea_nil))) (by show 3 ≤ 100000; decide)) (ev_op (ev_call0 (ea_cons (ev_var rfl) (ea_cons ev_c ea_nil)) (spv_draw (ex_l e1 hS) (by decide) (by decide))) ev_c (rv_I (by decide)))
      (top3 (Int.emod_nonneg _ (by decide)) (Int.emod_lt_of_pos _ (by decide)))) rfl) fun H2 e2 => ?_
    refine s_retP (ep_tupLL (el_call0 (ea_cons (ev_var rfl) (ea_cons (ev_var rfl) ea_nil)) (spl_elders (ex_l (e1.trans e2) hS) c1 (by omega)))
      (el_lcR1v (n := Fm.count ns most) (fun k => (Fm.draw ns (30 + (k : Int)) % Fm.topOf ns).toNat) (ea_cons (ev_var rfl) ea_nil) (by omega) (fun x => rfl) fun i H3 e3 hi => ?_)) fun v H3 e3 ⟨t, p1, p2, ev, ht, h1, h2⟩ => ?_
    · rw [Int.toNat_of_nonneg (Int.emod_nonneg _ (by have := Fm.topOf_pos ns; omega))]
      exact ev_op (ev_call0 (ea_cons (ev_var rfl) (ea_cons (ev_op ev_c (ev_var rfl) rv_I0) ea_nil)) (spv_draw (ex_l ((e1.trans e2).trans e3) hS) (by omega) (by omega))) (ev_var rfl) (rv_I (Fm.topOf_pos ns))
    · exact q v H3 ((e1.trans e2).trans e3) ⟨t, ev, p1, p2, ht, h1, h2⟩
theorem spp_plot {H : Hp} {a : Addr} {ns : List Int} {most : Nat} (hS : SqL K H a (ns.map V.int)) (h1 : 1 ≤ most) (h2 : most ≤ 14) :
    SpP (spPlot K) [.ref a, .int (most : Int)] H (fun v H2 => ∃ p, v = .ref p ∧ PlotAt H2 p (Fm.elders ns (Fm.count ns most - 1)) (Fm.worths ns (Fm.count ns most))) := fun H1 e Q q E => ⟨a, ns, most, rfl, ex_l e hS, h1, h2, q⟩
/-- some tree of at most so many things -/
theorem spp_some {H : Hp} {a : Addr} {ns : List Int} {most : Nat} (hS : SqL K H a (ns.map V.int)) (h1 : 1 ≤ most) (h2 : most ≤ 14) :
    SpP (spPlot K) [.ref a, .int (most : Int)] H (fun v H2 => ∃ p es ws, v = .ref p ∧ PlotAt H2 p es ws ∧ Fm.OkT es ws ∧ ws.length ≤ most) := fun H1 e Q q E => ⟨a, ns, most, rfl, ex_l e hS, h1, h2, fun v H2 e2 ⟨p, ev, hp⟩ => by
  have c1 := Fm.count_lo ns (most := (most : Int)) (by omega)
  have c2 := Fm.count_hi ns (most := (most : Int)) (by omega)
  exact q v H2 e2 ⟨p, _, _, ev, hp, Fm.ok_drawn ns c1 (by omega), by rw [Fm.worths_len]; omega⟩⟩
/-! ### _law_whole, of a whole number -/
def spWhole : Sp := fun vs H Q _ => ∃ (i : Int), vs = [.int i] ∧ RetV (.bl true) H Q
theorem spv_whole {H : Hp} {i : Int} : SpV spWhole [.int i] H (.bl true) := fun H1 e Q q E => ⟨i, rfl, q⟩
/-! ### _law_numbers, of two lists of whole numbers -/
def spNumbers (K : PySem.W.Frag) : Sp := fun vs H Q _ => ∃ (p q : Addr) (l m : List Nat), vs = [.ref p, .ref q] ∧ H p = some (.lst (vi l)) ∧ SqL K H q (vi m) ∧ l.length ≤ 1000 ∧ RetV (.bl (decide (l = m))) H Q
theorem spv_numbers {H : Hp} {p q : Addr} {l m : List Nat} (h1 : H p = some (.lst (vi l))) (h2 : SqL K H q (vi m)) (hl : l.length ≤ 1000) : SpV (spNumbers K) [.ref p, .ref q] H (.bl (decide (l = m))) := fun H1 e Q k E => ⟨p, q, l, m, rfl, e _ _ h1, ex_l e h2, hl, k⟩
end
end Fi
/-! _law_whole, _law_numbers. -/
namespace Fi
open PySem L2 Evl
section
variable {P : Program} {w : World} {K : PySem.W.Frag} {mg : Str → Option Value} {base : Heap}
theorem has_whole (B : Bi mg) (D : At K mg "_law_whole" s__law_whole p__law_whole) : Has P w K mg base CX0 "_law_whole" p__law_whole 1 spWhole := D.has fun f fd F => by
  refine F.ok sc__law_whole (fun vs H Q E h => ?_) (fun cdv A outer s H vs Q E hr h => ?_)
  · obtain ⟨i, rfl, _⟩ := h
    rfl
  · obtain ⟨i, rfl, q⟩ := h
    refine ⟨_, (pss_one (ps_ret (pe_and (pe_callB (call_isiK1 (K := K)) (by rfl) B.isinstance (by decide +kernel) (pa_cons (pv 0) (pa_cons (pe_bltn (v := .ty "int") (u := .type "int") (by rfl) B.int (by decide +kernel) rfl) pa_nil))) (pe_one (pe_not (pe_callB (call_isiK1 (K := K)) (by rfl) B.isinstance (by decide +kernel) (pa_cons (pv 0) (pa_cons (pe_bltn (v := .ty "bool") (u := .type "bool") (by rfl) B.bool (by decide +kernel) rfl) pa_nil)))))))), ?_⟩
    exact s_ret (ev_andV (a := true) (b := true) (ev_isiInt (ev_var rfl) (by decide +kernel)) fun _ => ev_notV (a := false) (ev_isiInt (ev_var rfl) (by decide +kernel))) q
theorem has_numbers (B : Bi mg) (D : At K mg "_law_numbers" s__law_numbers p__law_numbers) (h_law_whole : Has P w K mg base CX0 "_law_whole" p__law_whole 1 spWhole) : Has P w K mg base CX0 "_law_numbers" p__law_numbers 2 (spNumbers K) := D.has fun f fd F => by
  refine F.ok sc__law_numbers (fun vs H Q E h => ?_) (fun cdv A outer s H vs Q E hr h => ?_)
  · obtain ⟨p, q, l, m, rfl, _⟩ := h
    rfl
  · obtain ⟨p, q, l, m, rfl, hp, hq, hl, k⟩ := h
    refine ⟨_, (pss_cons (ps_if (PW.pt (pw_or (pt_not (pt_val (pe_callB (call_isiK1 (K := K)) (by rfl) B.isinstance (by decide +kernel) (pa_cons (pv 0) (pa_cons (pe_bltn (v := .ty "list") (u := .type "list") (by rfl) B.list (by decide +kernel) rfl) pa_nil))))) (pw_or1 (pt_cmpR (op_neDK (K := K) hr.units) (pv 0) (pv 1) (nomark _))))) (pss_one (ps_ret pe_bl)) pss_nil)
      (pss_one (ps_ret (pe_cmpR (op_notInK (K := K)) pe_bl (pe_lc (own := [("number", 2)]) (g := gName 2) rfl sc__law_numbers.nd (pi_list (pv 0)) (blkOk_by (own := [("number", 2)]) (N := n__law_numbers) (sc := defScope s__law_numbers) (by decide +kernel)) (fun _ _ _ _ _ => pg_name (i := 2) sc__law_numbers.nd rfl (Or.inl rfl)) (fun _ _ _ _ _ => pts_nil) (fun _ _ _ _ _ => (h_law_whole.call (hr.mono (by decide)) (by rfl) pass0 (pa_cons (pv 2) pa_nil)))) (by with_unfolding_all rfl))))), ?_⟩
    refine q_when (et_or (et_not (et_B (ev_isiLst (b := true) (ev_var rfl) hp (by decide +kernel)))) fun _ => et_test (ev_op (ev_var rfl) (ev_var rfl) (rv_neI (sq_of hp) hq))) (fun hb H1 e1 => ?_) (fun hb H1 e1 => ?_)
    · have hne : decide (l = m) = false := by
        cases hd : decide (l = m) with
        | false => rfl
        | true => rw [hd] at hb; cases hb
      rw [hne] at k
      exact s_ret ev_c fun H2 e2 => k H2 (e1.trans e2)
    · have heq : decide (l = m) = true := by
        cases hd : decide (l = m) with
        | true => rfl
        | false => rw [hd] at hb; cases hb
      rw [heq] at k
      refine s_ret ?_ fun H2 e2 => k H2 (e1.trans e2)
      refine ev_is (ev_opL (xs := given (vi l).length (fun _ => true) (fun _ => .bl true)) ev_c (el_lcL (fun _ => true) (fun _ => .bl true) (ev_var rfl) (sq_of (e1 _ _ hp)) (by rw [vi_len]; omega) (fun x => rfl) (fun _ _ _ _ _ => et_yes) fun i x H2 e2 hi _ => ?_) fun r H2 hr2 e2 => rv_niL (sq_of hr2) rfl ?_) ?_
      · obtain ⟨n, hn, rfl⟩ := vi_get_of hi
        exact ev_call0 (ea_cons (ev_var rfl) ea_nil) spv_whole
      · rw [given_all]
        simp [flatV]
      · rw [given_all]
        congr 1
        have : inV (.bl false) ((List.range (vi l).length).map fun _ => V.bl true) = false := by
          unfold inV
          rw [List.any_eq_false]
          intro x hx
          obtain ⟨i, _, rfl⟩ := List.mem_map.mp hx
          decide
        rw [this]
        rfl
theorem nums_true {K : PySem.W.Frag} {σ : L2.St} {H : Hp} {E : XK} {ta tb : TE} {p q : Addr} {l : List Nat} (ha : Ev ta σ H (.ref p)) (hb : Ev tb σ H (.ref q)) (h1 : H p = some (.lst (vi l))) (h2 : SqL K H q (vi l)) (hl : l.length ≤ 1000) : Ev (tCall (spNumbers K) [] E (tCons ta (tCons tb tNil))) σ H (.bl true) :=
  ev_is (ev_call0 (ea_cons ha (ea_cons hb ea_nil)) (spv_numbers h1 h2 hl)) (by rw [decide_eq_true rfl])
theorem nums_trueN {K : PySem.W.Frag} {σ : L2.St} {H : Hp} {E : XK} {ta tb : TE} {p : Addr} {l : List Nat} (ha : Ev ta σ H (.ref p)) (hb : EvL tb σ H (vi l)) (h1 : H p = some (.lst (vi l))) (hl : l.length ≤ 1000) : Ev (tCall (spNumbers K) [] E (tCons ta (tCons tb tNil))) σ H (.bl true) := fun H1 e Q q =>
  ha H1 e _ fun H2 e2 => hb H2 (e.trans e2) _ fun p2 H3 hp2 e3 h3 => by
    have h := spv_numbers (K := K) (e3 _ _ (e2 _ _ (e _ _ h1))) (sq_of h3) hl H3 (Ex.refl _) Q (fun H4 e4 => by rw [decide_eq_true rfl]; exact q H4 ((e2.trans e3).trans e4)) E
    exact h
theorem nums_trueNN {K : PySem.W.Frag} {σ : L2.St} {H : Hp} {E : XK} {ta tb : TE} {l : List Nat} (ha : EvL ta σ H (vi l)) (hb : EvL tb σ H (vi l)) (hl : l.length ≤ 1000) : Ev (tCall (spNumbers K) [] E (tCons ta (tCons tb tNil))) σ H (.bl true) := fun H1 e Q q =>
  ha H1 e _ fun p H2 hp e2 h2 => hb H2 (e.trans e2) _ fun p2 H3 hp2 e3 h3 => by
    have h := spv_numbers (K := K) (e3 _ _ h2) (sq_of h3) hl H3 (Ex.refl _) Q (fun H4 e4 => by rw [decide_eq_true rfl]; exact q H4 ((e2.trans e3).trans e4)) E
    exact h
end
end Fi
/-! The law's own depth, below and worth. -/
namespace Fi
open PySem L2 Evl
theorem dec_int {a b : Nat} : decide (V.int (a : Int) = V.int (b : Int)) = decide (a = b) := by
  by_cases h : a = b
  · subst h; simp
  · have h2 : ¬ (V.int (a : Int) = V.int (b : Int)) := fun e => h (by injection e with e; omega)
    rw [decide_eq_false h, decide_eq_false h2]
section
variable {P : Program} {w : World} {K : PySem.W.Frag} {mg : Str → Option Value} {base : Heap}
/-! ### _law_depth -/
def spLDepth (K : PySem.W.Frag) : Sp := fun vs H Q _ => ∃ (p : Addr) (es : List Nat) (t : Nat), vs = [.ref p, .int (t : Int)] ∧ SqL K H p (vi es) ∧ (∀ (k v : Nat), es[k]? = some v → v ≤ k) ∧ t ≤ es.length ∧ RetV (.int (Fm.depth es t : Int)) H Q
theorem spv_ldepth {H : Hp} {p : Addr} {es : List Nat} {t : Nat} (h : SqL K H p (vi es)) (up : ∀ (k v : Nat), es[k]? = some v → v ≤ k) (ht : t ≤ es.length) : SpV (spLDepth K) [.ref p, .int (t : Int)] H (.int (Fm.depth es t : Int)) := fun H1 e Q q E => ⟨p, es, t, rfl, ex_l e h, up, ht, q⟩
theorem has_ldepth (D : At K mg "_law_depth" s__law_depth p__law_depth) : Has P w K mg base CX0 "_law_depth" p__law_depth 1 (spLDepth K) := D.has fun f fd F => by
  refine F.ok sc__law_depth (fun vs H Q E h => ?_) (fun cdv A outer s H vs Q E hr h => ?_)
  · obtain ⟨p, es, t, rfl, _⟩ := h
    rfl
  · obtain ⟨p, es, t, rfl, hp, up, ht, q⟩ := h
    refine ⟨_, (pss_cons (ps_set (i := 2) sc__law_depth.nd rfl (Or.inl rfl) pe_int)
      (pss_cons (ps_while PassesOwn.never (pt_cmpR op_gt (pv 1) pe_int (nomark _)) (pss_cons (ps_set (i := 1) sc__law_depth.nd rfl (Or.inl rfl) (pe_ix (ix_listK (K := K)) (pv 0) (pe_op op_sub (pv 1) pe_int) (fun _ _ => rfl)))
        (pss_one (ps_set (i := 2) sc__law_depth.nd rfl (Or.inl rfl) (pe_op op_add (pv 2) pe_int)))))
      (pss_one (ps_ret (pv 2))))), ?_⟩
    refine q_asg ev_c fun H1 e1 => ?_
    refine q_while (fun m σ' H' => ∃ (t' s' : Nat), σ' = [some (.ref p), some (.int (t' : Int)), some (.int (s' : Int))] ∧ Ex H H' ∧ s' + Fm.depth es t' = Fm.depth es t ∧ t' ≤ es.length ∧ m = t') t ⟨t, 0, rfl, e1, Nat.zero_add _, ht, rfl⟩ ?_
    rintro m σ' H' ⟨t', s', rfl, e, hd, hl, rfl⟩
    refine ⟨decide ((0 : Int) < (m : Int)), et_test (ev_op (ev_var rfl) ev_c rv_I0), fun hb H2 e2 => ⟨fun σ2 H2 => ∃ m', m' < m ∧ _, fun _ _ h => h, ?_⟩, fun hb H2 e2 => ?_⟩
    · have hpos : 0 < m := by have := of_decide_eq_true hb; omega
      have hlt := Fm.eld_lt up hpos
      refine q_asg (v := .int (Fm.eld es m : Int)) (ev_opIx (ev_var rfl) (ev_op (ev_var rfl) ev_c rv_I0) (ex_l (e.trans e2) hp) (vi_at (j := m - 1) (by omega) (Fm.eld_get hpos (by omega)))) fun H3 e3 => ?_
      refine s_asg (ev_op (ev_var rfl) ev_c rv_I0) fun H4 e4 => ⟨Fm.eld es m, hlt, Fm.eld es m, s' + 1, ?_, ((e.trans e2).trans e3).trans e4, ?_, by omega, rfl⟩
      · rfl
      · have := Fm.depth_step up hpos
        omega
    · have hz : m = 0 := by have := of_decide_eq_false hb; omega
      subst hz
      have hd0 : Fm.depth es t = s' := by rw [← hd]; rfl
      rw [hd0] at q
      exact s_ret (ev_var rfl) fun H3 e3 => q H3 ((e.trans e2).trans e3)
/-! ### _law_below -/
def spLBelow (K : PySem.W.Frag) : Sp := fun vs H Q _ => ∃ (p : Addr) (es : List Nat) (t : Nat), vs = [.ref p, .int (t : Int)] ∧ SqL K H p (vi es) ∧ (∀ (k v : Nat), es[k]? = some v → v ≤ k) ∧ es.length ≤ 20 ∧ RetL (vi (Fm.below es t)) H Q
theorem spl_lbelow {H : Hp} {p : Addr} {es : List Nat} {t : Nat} (h : SqL K H p (vi es)) (up : ∀ (k v : Nat), es[k]? = some v → v ≤ k) (hl : es.length ≤ 20) : SpL (spLBelow K) [.ref p, .int (t : Int)] H (vi (Fm.below es t)) := fun H1 e Q q E => ⟨p, es, t, rfl, ex_l e h, up, hl, q⟩
theorem has_lbelow (B : Bi mg) (D : At K mg "_law_below" s__law_below p__law_below) : Has P w K mg base CX0 "_law_below" p__law_below 1 (spLBelow K) := D.has fun f fd F => by
  refine F.ok sc__law_below (fun vs H Q E h => ?_) (fun cdv A outer s H vs Q E hr h => ?_)
  · obtain ⟨p, es, t, rfl, _⟩ := h
    rfl
  · obtain ⟨p, es, t, rfl, hp, up, hl, q⟩ := h
    refine ⟨_, (pss_cons (ps_set (i := 2) sc__law_below.nd rfl (Or.inl rfl) (pe_lst pa_nil))
      (pss_cons (ps_for PassesOwn.never rfl (pi_range1 (by rfl) B.range (pa_cons (pe_op op_add (pe_callB (call_lenK (K := K)) (by rfl) B.len PySem.boot_len (pa_cons (pv 0) pa_nil)) pe_int) pa_nil)) (pg_name (i := 3) sc__law_below.nd rfl (Or.inl rfl)) (pss_cons (ps_set (i := 4) sc__law_below.nd rfl (Or.inl rfl) (pv 3))
        (pss_cons (ps_while PassesOwn.never (pt_cmpR op_gt (pv 4) (pv 1) (nomark _)) (pss_one (ps_set (i := 4) sc__law_below.nd rfl (Or.inl rfl) (pe_ix (ix_listK (K := K)) (pv 0) (pe_op op_sub (pv 4) pe_int) (fun _ _ => rfl)))))
        (pss_one (ps_if (pt_cmpR op_eq (pv 4) (pv 1) (nomark _)) (pss_one (ps_expr (pe_bm PySem.F.plainAttrs_list PySem.F.slot_list_append PySem.F.type_list_append mt_append (pv 2) (pa_cons (pv 3) pa_nil)))) pss_nil)))))
      (pss_one (ps_ret (pv 2))))), ?_⟩
    refine q_asgL (el_lst ea_nil (Nat.zero_le _)) fun l H1 hln e1 h1 => ?_
    refine q_forR1 (n := ((es.length + 1 : Nat) : Int)) (ea_cons (ev_is (ev_op (ev_lenS (ev_var rfl) (ex_l e1 hp)) ev_c rv_I0) (by rw [vi_len]; rfl)) ea_nil) ⟨by omega, by omega⟩
      (fun i σ' H' => ∃ v1 v2, σ' = [some (.ref p), some (.int (t : Int)), some (.ref l), v1, v2] ∧ Ex H H' ∧ H' l = some (.lst (vi (Fm.belowTo es t i)))) (fun H2 e2 => ⟨none, none, rfl, e1.trans e2, e2 _ _ h1⟩) ?_ ?_
    · rintro i σ' H' hi ⟨v1, v2, rfl, e, hL⟩
      refine q_asg (v := .int (i : Int)) (ev_var rfl) fun H2 e2 => ?_
      refine q_while (fun m σ' H3 => ∃ (h : Nat), σ' = [some (.ref p), some (.int (t : Int)), some (.ref l), some (.int (i : Int)), some (.int (h : Int))] ∧ Ex H2 H3 ∧ Fm.climb es t h = Fm.climb es t i ∧ h ≤ es.length ∧ m = h) i ⟨i, rfl, Ex.refl _, rfl, by omega, rfl⟩ ?_
      rintro m σ' H3 ⟨h, rfl, e3, hc, hle, rfl⟩
      refine ⟨decide ((t : Int) < (m : Int)), et_test (ev_op (ev_var rfl) (ev_var rfl) rv_I0), fun hb H4 e4 => ⟨fun σ2 H2 => ∃ m', m' < m ∧ _, fun _ _ h => h, ?_⟩, fun hb H4 e4 => ?_⟩
      · have hlt : t < m := by have := of_decide_eq_true hb; omega
        have hlt2 := Fm.eld_lt up (t := m) (by omega)
        refine s_asg (v := .int (Fm.eld es m : Int)) (ev_opIx (ev_var rfl) (ev_op (ev_var rfl) ev_c rv_I0) (ex_l (((e.trans e2).trans e3).trans e4) hp) (vi_at (j := m - 1) (by omega) (Fm.eld_get (by omega) (by omega)))) fun H5 e5 => ?_
        exact ⟨Fm.eld es m, hlt2, Fm.eld es m, rfl, (e3.trans e4).trans e5, by rw [← Fm.climb_step up hlt]; exact hc, by omega, rfl⟩
      · have hlt : ¬ t < m := by have := of_decide_eq_false hb; omega
        have hm : Fm.climb es t i = m := by rw [← hc, Fm.climb_end hlt]
        have hB : Fm.isBelow es t i = decide (m = t) := by unfold Fm.isBelow; rw [hm]; rfl
        have e5 := ((e.trans e2).trans e3).trans e4
        have hL4 := e4 _ _ (e3 _ _ (e2 _ _ hL))
        refine s_when (et_test (ev_op (ev_var rfl) (ev_var rfl) (rv_eq rfl))) (fun hb2 H6 e6 => ?_) (fun hb2 H6 e6 => ?_)
        · rw [dec_int, ← hB] at hb2
          refine s_app (e6 _ _ hL4) (ev_var rfl) (ev_var rfl) (by rw [vi_len]; have := Fm.belowTo_len es t i; omega) fun H7 e7 => ⟨_, _, rfl, Ex.mut ((e5.trans e6).trans e7) hln, ?_⟩
          rw [upd_same, Fm.belowTo_succ, if_pos hb2, vi_app]
          rfl
        · rw [dec_int, ← hB] at hb2
          refine ⟨_, _, rfl, e5.trans e6, ?_⟩
          rw [Fm.belowTo_succ, if_neg (by rw [hb2]; decide)]
          exact e6 _ _ hL4
    · rintro σ' H' ⟨v1, v2, rfl, e, hL⟩
      rw [Int.toNat_natCast, Fm.belowTo_end] at hL
      exact s_ret (ev_var rfl) fun H3 e3 => q l H3 hln (e.trans e3) (e3 _ _ hL)
/-! ### _law_worth -/
def spLWorth (K : PySem.W.Frag) : Sp := fun vs H Q _ => ∃ (p : Addr) (es ws : List Nat) (t : Nat), vs = [.ref p, .int (t : Int)] ∧ PlotAt H p es ws ∧ Fm.OkT es ws ∧ RetV (.int (Fm.worth es ws t : Int)) H Q
theorem spv_lworth {H : Hp} {p : Addr} {es ws : List Nat} {t : Nat} (h : PlotAt H p es ws) (o : Fm.OkT es ws) : SpV (spLWorth K) [.ref p, .int (t : Int)] H (.int (Fm.worth es ws t : Int)) := fun H1 e Q q E => ⟨p, es, ws, t, rfl, h.mono e, o, q⟩
theorem getD_get {l : List Nat} {n : Nat} (h : n < l.length) : l[n]? = some (l.getD n 0) := by
  rw [List.getD_eq_getElem?_getD, List.getElem?_eq_getElem h]
  rfl
theorem has_lworth (B : Bi mg) (D : At K mg "_law_worth" s__law_worth p__law_worth) (h_law_below : Has P w K mg base CX0 "_law_below" p__law_below 1 (spLBelow K)) : Has P w K mg base CX0 "_law_worth" p__law_worth 2 (spLWorth K) := D.has fun f fd F => by
  refine F.ok sc__law_worth (fun vs H Q E h => ?_) (fun cdv A outer s H vs Q E hr h => ?_)
  · obtain ⟨p, es, ws, t, rfl, _⟩ := h
    rfl
  · obtain ⟨p, es, ws, t, rfl, hP, o, q⟩ := h
    obtain ⟨pe, pw, h1, h2, h3⟩ := id hP
    have ol := o.len
    have om := o.most
    refine ⟨_, (pss_one (ps_ret (pe_callB (cr_sumK (K := K) rfl) (by rfl) B.sum (by decide +kernel) (pa_cons (pe_lc (own := [("other", 2)]) (g := gName 2) rfl sc__law_worth.nd (pi_list (h_law_below.call (hr.mono (by decide)) (by rfl) pass0 (pa_cons (pe_ix (ix_tupK (K := K)) (pv 0) pe_int (fun _ _ => rfl)) (pa_cons (pv 1) pa_nil)))) (blkOk_by (own := [("other", 2)]) (N := n__law_worth) (sc := defScope s__law_worth) (by decide +kernel)) (fun _ _ _ _ _ => pg_name (i := 2) sc__law_worth.nd rfl (Or.inl rfl)) (fun _ _ _ _ _ => pts_nil) (fun _ _ _ _ _ => (pe_ix (ix_listK (K := K)) (pe_ix (ix_tupK (K := K)) (pv 0) pe_int (fun _ _ => rfl)) (pv 2) (fun _ _ => rfl)))) pa_nil)))), ?_⟩
    refine s_ret (ev_sumN (el_lcNLv (l := Fm.below es t) (fun o => ws.getD o 0) (el_call0 (ea_cons (ev_opIxT (ev_var rfl) ev_c (st_of h1) rfl) (ea_cons (ev_var rfl) ea_nil)) (spl_lbelow (sq_of h2) o.up (by omega))) (by have := Fm.below_len es t; omega) (fun x => rfl) fun n H1 e1 hn => ?_)) q
    have hn2 := (Fm.mem_below.mp hn).1
    exact ev_opIx (ev_opIxT (ev_var rfl) ev_c (st_of (e1 _ _ h1)) rfl) (ev_var rfl) (sq_of (e1 _ _ h3)) (vi_at rfl (getD_get (by omega)))
end
end Fi
/-! The class Tree: what each method promises. -/
namespace Fi
open PySem L2 Evl
/-! ### lists of whole numbers of any sign, against the empty list -/
theorem dpAll_z {K : PySem.W.Frag} {H : Hp} : ∀ l : List Int, DpAll K H (l.map V.int) (l.map PyData.int)
  | [] => .nil
  | n :: l => .cons (.int _) (dpAll_z l)
theorem canAll_z : ∀ l : List Int, PyData.canLayAll0 (l.map PyData.int) = true
  | [] => by simp [PyData.canLayAll0]
  | n :: l => by simp [PyData.canLayAll0, PyData.canLay0, canAll_z l]
theorem depthAll_z : ∀ l : List Int, PyData.depthAll (l.map PyData.int) = 0
  | [] => by simp [PyData.depthAll]
  | n :: l => by simp [PyData.depthAll, PyData.depth, depthAll_z l]
theorem shaped_z (l : List Int) : SeqAt.shaped (.list (l.map PyData.int)) = true := by
  unfold SeqAt.shaped
  simp [PyData.canLay0, canAll_z, PyData.depth, depthAll_z]
theorem eqv_zNil (l : List Int) : PyData.eqv (.list (l.map PyData.int)) (.list ([].map PyData.int)) = decide (l = []) := by
  cases l with
  | nil => simp [PyData.eqv, PyData.eqvAll]
  | cons a r => simp [PyData.eqv, PyData.eqvAll]
theorem ev_neNilZ {K : PySem.W.Frag} {σ : L2.St} {H : Hp} {ta : TE} {l : List Int} (ha : EvL ta σ H (l.map V.int)) : Ev (tOp (rNeD K) ta (tLst tNil)) σ H (.bl (!decide (l = []))) :=
  ev_opLL ha (el_lst ea_nil (Nat.zero_le _)) fun p q H1 hp hq e => by
    rw [← eqv_zNil]
    exact rv_neD (fun H2 e2 => .lst (ex_l e2 (sq_of hp)) (dpAll_z l)) (fun H2 e2 => .lst (ex_l e2 (sq_of (xs := ([] : List Int).map V.int) hq)) (dpAll_z [])) (shaped_z l) (shaped_z [])
theorem zget {l : List Int} {i : Nat} {x : V} (h : (l.map V.int)[i]? = some x) : ∃ z, l[i]? = some z ∧ x = V.int z := by
  rw [List.getElem?_map] at h
  cases e : l[i]? with
  | none => rw [e] at h; cases h
  | some n => rw [e] at h; exact ⟨n, rfl, (Option.some.inj h).symm⟩
theorem zgetD {l : List Int} {i : Nat} (h : i < l.length) : l[i]? = some (l.getD i 0) := by
  rw [List.getD_eq_getElem?_getD, List.getElem?_eq_getElem h]
  rfl
theorem zat {l : List Int} {i : Int} {j : Nat} (e : i = (j : Int)) (h : j < l.length) : atI (l.map V.int) i = some (V.int (l.getD j 0)) := at_of e (by rw [List.getElem?_map, zgetD h]; rfl)
theorem zfilter (l : List Int) (f : Int → Bool) : given l.length (fun i => f (l.getD i 0)) (fun i => V.int (l.getD i 0)) = (l.filter f).map V.int := by
  have e : (List.range l.length).map (fun i => l.getD i 0) = l := by
    refine List.ext_getElem (by simp) fun i h1 h2 => ?_
    rw [List.length_map, List.length_range] at h1
    simp only [List.getElem_map, List.getElem_range]
    rw [List.getD_eq_getElem?_getD, List.getElem?_eq_getElem h1]
    rfl
  have e2 : l.filter f = ((List.range l.length).filter (fun i => f (l.getD i 0))).map (fun i => l.getD i 0) := by
    conv => lhs; rw [← e]
    rw [List.filter_map]
    rfl
  unfold given
  rw [e2, List.map_map]
  rfl
/-! ### the attributes -/
theorem kaw : ¬ (("above" : Str) = "worth") := by decide +kernel
def flds (a w : Addr) : List (Str × V) := putF "worth" (.ref w) (putF "above" (.ref a) [])
theorem flds_above (a w : Addr) : (flds a w).lookup ("above" : Str) = some (.ref a) := by
  unfold flds
  rw [lookup_putF, if_neg kaw, lookup_putF, if_pos rfl]
theorem flds_worth (a w : Addr) : (flds a w).lookup ("worth" : Str) = some (.ref w) := by
  unfold flds
  rw [lookup_putF, if_pos rfl]
theorem flds_no (a w : Addr) {m : Str} (h1 : ¬ m = "above") (h2 : ¬ m = "worth") : (flds a w).lookup m = none := by
  unfold flds
  rw [lookup_putF, if_neg h2, lookup_putF, if_neg h1]
  rfl
/-- a tree stands at p -/
structure TreeAt (C : Addr) (H : Hp) (p : Addr) (es ws : List Nat) : Prop where
  at_ : ∃ dx a w, H p = some (.ins C dx (flds a w)) ∧ H a = some (.lst (V.int (-1) :: vi es)) ∧ H w = some (.lst (vi ws))
  ok : Fm.OkT es ws
theorem TreeAt.mono {C : Addr} {H H' : Hp} {p : Addr} {es ws : List Nat} (T : TreeAt C H p es ws) (e : Ex H H') : TreeAt C H' p es ws := by
  obtain ⟨⟨dx, a, w, h1, h2, h3⟩, o⟩ := T
  exact ⟨⟨dx, a, w, e _ _ h1, e _ _ h2, e _ _ h3⟩, o⟩
/-- elders and worths that make a tree -/
def Right (le lw : List Int) : Prop := 1 ≤ lw.length ∧ lw.length ≤ 14 ∧ le.length + 1 = lw.length ∧ (∀ k, k < le.length → 0 ≤ le.getD k 0 ∧ le.getD k 0 ≤ (k : Int)) ∧ ∀ z ∈ lw, 0 ≤ z ∧ z ≤ 1000
theorem vi_int (l : List Nat) : vi l = (l.map fun (n : Nat) => (n : Int)).map V.int := vi_ints l
theorem right_of {es ws : List Nat} (o : Fm.OkT es ws) : Right (es.map fun (n : Nat) => (n : Int)) (ws.map fun (n : Nat) => (n : Int)) := by
  have := o.len
  refine ⟨by rw [List.length_map]; omega, by rw [List.length_map]; exact o.most, by rw [List.length_map, List.length_map]; exact o.len, fun k hk => ?_, fun z hz => ?_⟩
  · rw [List.length_map] at hk
    rw [List.getD_eq_getElem?_getD, List.getElem?_map]
    have h := o.up k es[k] (List.getElem?_eq_getElem hk)
    rw [List.getElem?_eq_getElem hk]
    show 0 ≤ ((es[k] : Nat) : Int) ∧ ((es[k] : Nat) : Int) ≤ (k : Int)
    omega
  · obtain ⟨n, hn, rfl⟩ := List.mem_map.mp hz
    have := o.wt n hn
    omega
/-- what stands of the text for the class -/
structure TreeT (K : PySem.W.Frag) (mg : Str → Option Value) (C : Addr) : Prop where
  cl : Cls K C
  nA : NoAttr K C "above"
  nW : NoAttr K C "worth"
  g : mg "Tree" = some (.ref C)
section
variable {P : Program} {w : World} {K : PySem.W.Frag} {mg : Str → Option Value} {base : Heap} {C cBad cNo : Addr}
/-! ### __init__ -/
def spInit (K : PySem.W.Frag) (C cBad : Addr) : Sp := fun vs H Q E => ∃ (p dx pe pw : Addr) (le lw : List Int), vs = [.ref p, .ref pe, .ref pw] ∧ H p = some (.ins C dx []) ∧ SqL K H pe (le.map V.int) ∧ SqL K H pw (lw.map V.int) ∧ le.length ≤ 1000 ∧ lw.length ≤ 1000 ∧
  (Right le lw → ∀ a u H2, H a = none → H u = none → (∀ b o, b ≠ p → H b = some o → H2 b = some o) → H2 p = some (.ins C dx (flds a u)) → H2 a = some (.lst (V.int (-1) :: le.map V.int)) → H2 u = some (.lst (lw.map V.int)) → Q .non H2) ∧
  (¬ Right le lw → ∀ H2, Ex H H2 → E (.ref cBad) none H2)
theorem has_init (B : Bi mg) (T : TreeT K mg C) {t1 t2 : Tok} (c_MOST : mg "MOST" = some (.int 14 t1)) (c_WORTHS : mg "WORTHS" = some (.int 1000 t2)) (e_BadTree : Err K mg "BadTree" cBad) (D : AtI K C "Tree.__init__" s_Tree___init__ p_Tree___init__) :
    HasI P w K mg base (L2.CX P w) C p_Tree___init__ 1 (spInit K C cBad) := D.has fun f fd F => by
  refine F.okX sc_Tree___init__ (fun vs H Q E h => ?_) (fun cdv A outer s H vs Q E hr h => ?_)
  · obtain ⟨p, dx, pe, pw, le, lw, rfl, _⟩ := h
    rfl
  · obtain ⟨p, dx, pe, pw, le, lw, rfl, hp, he, hw, h1, h2, kQ, kE⟩ := h
    refine ⟨_, (pss_cons (ps_if (PW.pt (pw_or (pt_not (pt_chain op_le op_le pe_int (pe_callB (call_lenK (K := K)) (by rfl) B.len PySem.boot_len (pa_cons (pv 2) pa_nil)) (pe_gint (by rfl) c_MOST))) (pw_or1 (pt_cmpR op_ne (pe_callB (call_lenK (K := K)) (by rfl) B.len PySem.boot_len (pa_cons (pv 1) pa_nil)) (pe_op op_sub (pe_callB (call_lenK (K := K)) (by rfl) B.len PySem.boot_len (pa_cons (pv 2) pa_nil)) pe_int) (nomark _))))) (pss_one (ps_raise rfl (takes_of rfl rfl rfl rfl) (e_BadTree.made (by rfl)))) pss_nil)
      (pss_cons (ps_for (passes_of rfl) rfl (pi_range1 (by rfl) B.range (pa_cons (pe_callB (call_lenK (K := K)) (by rfl) B.len PySem.boot_len (pa_cons (pv 1) pa_nil)) pa_nil)) (pg_name (i := 3) sc_Tree___init__.nd rfl (Or.inl rfl)) (pss_one (ps_if (pt_not (pt_chain op_le op_le pe_int (pe_ix (ix_listK (K := K)) (pv 1) (pv 3) (fun _ _ => rfl)) (pv 3))) (pss_one (ps_raise rfl (takes_of rfl rfl rfl rfl) (e_BadTree.made (by rfl)))) pss_nil)))
      (pss_cons (ps_if (pt_cmpR (op_neDK (K := K) hr.units) (pe_lc (own := [("worth", 4)]) (g := gName 4) rfl sc_Tree___init__.nd (pi_list (pv 2)) (blkOk_by (own := [("worth", 4)]) (N := n_Tree___init__) (sc := defScope s_Tree___init__) (by decide +kernel)) (fun _ _ _ _ _ => pg_name (i := 4) sc_Tree___init__.nd rfl (Or.inl rfl)) (fun _ _ _ _ _ => pts_one (pt_not (pt_chain op_le op_le pe_int (pv 4) (pe_gint (by rfl) c_WORTHS)))) (fun _ _ _ _ _ => (pv 4))) (pe_lst pa_nil) (nomark _)) (pss_one (ps_raise rfl (takes_of rfl rfl rfl rfl) (e_BadTree.made (by rfl)))) pss_nil)
      (pss_cons (ps_fld (pv 0) (pe_op op_cat (pe_lst (pa_cons (pe_un un_neg pe_int) pa_nil)) (pe_callTy (call_listK (K := K)) (by rfl) B.list (by decide +kernel) (pa_cons (pv 1) pa_nil))) rfl)
      (pss_one (ps_fld (pv 0) (pe_callTy (call_listK (K := K)) (by rfl) B.list (by decide +kernel) (pa_cons (pv 2) pa_nil)) rfl)))))), ?_⟩
    have lE : (le.map V.int).length = le.length := List.length_map _
    have lW : (lw.map V.int).length = lw.length := List.length_map _
    refine q_when (b := (!(decide ((1 : Int) ≤ (lw.length : Int)) && decide ((lw.length : Int) ≤ 14))) || !decide (V.int (le.length : Int) = V.int ((lw.length : Int) - 1)))
      (et_or (et_not (et_test (ev_chain ev_c (ev_is (ev_lenS (ev_var rfl) hw) (by rw [lW])) (fun _ => ev_c) rv_I0 (fun _ => rv_I0)))) fun _ => et_test (ev_op (ev_is (ev_lenS (ev_var rfl) he) (by rw [lE])) (ev_op (ev_is (ev_lenS (ev_var rfl) hw) (by rw [lW])) ev_c rv_I0) (rv_ne rfl))) (fun hb H1 e1 => ?_) (fun hb H1 e1 => ?_)
    · -- raise
      refine kE (fun R => ?_) H1 e1
      obtain ⟨r1, r2, r3, _⟩ := R
      have x1 : decide ((1 : Int) ≤ (lw.length : Int)) = true := decide_eq_true (by omega)
      have x2 : decide ((lw.length : Int) ≤ 14) = true := decide_eq_true (by omega)
      have x3 : decide (V.int (le.length : Int) = V.int ((lw.length : Int) - 1)) = true := decide_eq_true (by congr 1; omega)
      rw [x1, x2, x3] at hb
      cases hb
    · have x : (1 ≤ lw.length ∧ lw.length ≤ 14) ∧ le.length + 1 = lw.length := by
        simp only [Bool.or_eq_false_iff, Bool.not_eq_false', Bool.and_eq_true, decide_eq_true_eq] at hb
        obtain ⟨⟨a1, a2⟩, a3⟩ := hb
        injection a3 with a3
        omega
      -- for k in range(len(elders))
      refine q_forR1 (n := (le.length : Int)) (ea_cons (ev_is (ev_lenS (ev_var rfl) (ex_l e1 he)) (by rw [lE])) ea_nil) ⟨by omega, by omega⟩
        (fun i σ' H' => ∃ v, σ' = [some (.ref p), some (.ref pe), some (.ref pw), v, none] ∧ Ex H H' ∧ ∀ k, k < i → 0 ≤ le.getD k 0 ∧ le.getD k 0 ≤ (k : Int)) (fun H2 e2 => ⟨none, rfl, e1.trans e2, fun k hk => absurd hk (Nat.not_lt_zero _)⟩) ?_ ?_
      · rintro i σ' H' hi ⟨v, rfl, e, hu⟩
        have hx := zat (l := le) (i := (i : Int)) (j := i) rfl (by omega)
        refine s_when (b := !(decide ((0 : Int) ≤ le.getD i 0) && decide (le.getD i 0 ≤ (i : Int)))) (et_not (et_test (ev_chain ev_c (ev_opIx (ev_var rfl) (ev_var rfl) (ex_l e he) hx) (fun _ => ev_var rfl) rv_I0 (fun _ => rv_I0)))) (fun hb2 H2 e2 => ?_) (fun hb2 H2 e2 => ?_)
        · refine kE (fun R => ?_) H2 (e.trans e2)
          obtain ⟨_, _, _, r4, _⟩ := R
          obtain ⟨y1, y2⟩ := r4 i (by omega)
          rw [decide_eq_true y1, decide_eq_true y2] at hb2
          cases hb2
        · simp only [Bool.not_eq_false', Bool.and_eq_true, decide_eq_true_eq] at hb2
          refine ⟨_, rfl, e.trans e2, fun k hk => ?_⟩
          by_cases hki : k = i
          · rw [hki]; exact hb2
          · exact hu k (by omega)
      · rintro σ' H' ⟨v, rfl, e, hu⟩
        rw [Int.toNat_natCast] at hu
        -- the worths
        refine q_when (b := !decide (lw.filter (fun z => !(decide ((0 : Int) ≤ z) && decide (z ≤ 1000))) = [])) (et_test (ev_neNilZ (el_is (el_lcL (fun i => !(decide ((0 : Int) ≤ lw.getD i 0) && decide (lw.getD i 0 ≤ 1000))) (fun i => V.int (lw.getD i 0)) (ev_var rfl) (ex_l e hw) (by rw [lW]; omega) (fun x => rfl) (fun i x H2 e2 hi => ?_) (fun i x H2 e2 hi _ => ?_))
          (by rw [lW]; exact zfilter lw fun z => !(decide ((0 : Int) ≤ z) && decide (z ≤ 1000)))))) (fun hb2 H2 e2 => ?_) (fun hb2 H2 e2 => ?_)
        · obtain ⟨z, hz, rfl⟩ := zget hi
          have ez : lw.getD i 0 = z := by rw [List.getD_eq_getElem?_getD, hz]; rfl
          rw [ez]
          exact et_not (et_test (ev_chain ev_c (ev_var rfl) (fun _ => ev_c) rv_I0 (fun _ => rv_I0)))
        · obtain ⟨z, hz, rfl⟩ := zget hi
          have ez : lw.getD i 0 = z := by rw [List.getD_eq_getElem?_getD, hz]; rfl
          show Ev _ _ _ (V.int (lw.getD i 0))
          rw [ez]
          exact ev_var rfl
        · refine kE (fun R => ?_) H2 (e.trans e2)
          obtain ⟨_, _, _, _, r5⟩ := R
          have : lw.filter (fun z => !(decide ((0 : Int) ≤ z) && decide (z ≤ 1000))) = [] := by
            rw [List.filter_eq_nil_iff]
            intro z hz
            obtain ⟨y1, y2⟩ := r5 z hz
            rw [decide_eq_true y1, decide_eq_true y2]
            decide
          rw [decide_eq_true this] at hb2
          cases hb2
        · have hnil : lw.filter (fun z => !(decide ((0 : Int) ≤ z) && decide (z ≤ 1000))) = [] := by
            cases hd : decide (lw.filter (fun z => !(decide ((0 : Int) ≤ z) && decide (z ≤ 1000))) = []) with
            | true => exact of_decide_eq_true hd
            | false => rw [hd] at hb2; cases hb2
          have R : Right le lw := ⟨x.1.1, x.1.2, x.2, hu, fun z hz => by
            have := List.filter_eq_nil_iff.mp hnil z hz
            simp only [Bool.not_eq_true', Bool.not_eq_false, Bool.and_eq_true, decide_eq_true_eq] at this
            exact this⟩
          have E2 := e.trans e2
          -- self.above = [-1] + list(elders)
          refine q_fld (EvL.p (el_catNN (xs := [V.int (-1)]) (ys := le.map V.int) (el_lst (ea_cons (ev_un ev_c ru_neg) ea_nil) (by show 1 ≤ 100000; decide)) (el_listS (ev_var rfl) (ex_l E2 he)) (by show 1 + _ ≤ _; rw [lE]; omega))) fun v1 H3 e3 ⟨a, ev, ha, hA⟩ => ⟨dx, [], ev_var rfl, e3 _ _ (E2 _ _ hp), T.cl, T.nA, by show 0 < 1000; decide, fun H4 e4 => ?_⟩
          subst ev
          have E4 := (E2.trans e3).trans e4
          have npa : p ≠ a := ne_of_none (E2 _ _ hp) ha
          have npe : SqL K (upd H4 p (.ins C dx (putF "above" (.ref a) []))) pw (lw.map V.int) := by
            rcases ex_l E4 hw with (h | ⟨o, h⟩) | h
            · exact .inl (.inl (by rw [upd_ne]; exact h; intro z; rw [z] at h; rw [E4 _ _ hp] at h; cases h))
            · exact .inl (.inr ⟨o, by rw [upd_ne]; exact h; intro z; rw [z] at h; rw [E4 _ _ hp] at h; cases h⟩)
            · exact .inr h
          -- self.worth = list(worths)
          refine s_fld (EvL.p (el_listS (ev_var rfl) npe)) fun v2 H5 e5 ⟨u, ev2, hu2, hU⟩ => ⟨dx, putF "above" (.ref a) [], ev_var rfl, e5 _ _ upd_same, T.cl, T.nW, by show 1 < 1000; decide, fun H6 e6 => ?_⟩
          subst ev2
          have npu : p ≠ u := ne_of_none upd_same hu2
          have hA6 : H6 a = some (.lst (V.int (-1) :: le.map V.int)) := e6 _ _ (e5 _ _ (by rw [upd_ne npa.symm]; exact e4 _ _ hA))
          have fa : H a = none := fresh_back E2 ha
          have fu : H u = none := by
            have q : H4 u = none := by rw [upd_ne npu.symm] at hu2; exact hu2
            exact fresh_back E4 q
          refine kQ R a u _ fa fu (fun b o hb hbo => ?_) upd_same (by rw [upd_ne npa.symm]; exact hA6) (by rw [upd_ne npu.symm]; exact e6 _ _ hU)
          rw [upd_ne hb]
          exact e6 _ _ (e5 _ _ (by rw [upd_ne hb]; exact E4 _ _ hbo))
/-- a Tree that was made beside H: nothing of it stood there -/
def TreeNew (C : Addr) (H H2 : Hp) (v : V) (es ws : List Nat) : Prop := ∃ x dx a u, v = .ref x ∧ H x = none ∧ H a = none ∧ H u = none ∧ H2 x = some (.ins C dx (flds a u)) ∧ H2 a = some (.lst (V.int (-1) :: vi es)) ∧ H2 u = some (.lst (vi ws))
theorem spp_tree {H : Hp} {pe pw : Addr} {es ws : List Nat} (he : SqL K H pe (vi es)) (hw : SqL K H pw (vi ws)) (o : Fm.OkT es ws) : ∀ H1, Ex H H1 → ∀ x dx, H1 x = none → H1 dx = none → dx ≠ x → ∀ Q : VK, (∀ H2, Ex H1 H2 → TreeNew C H H2 (.ref x) es ws → Q (.ref x) H2) → ∀ E : XK,
    spInit K C cBad (.ref x :: [.ref pe, .ref pw]) (upd (upd H1 dx (.own x)) x (.ins C dx [])) (fun v H2 => v = .non ∧ Q (.ref x) H2) E := fun H1 e x dx hx hdx ne Q q E => by
  have e0 : Ex H1 (upd (upd H1 dx (.own x)) x (.ins C dx [])) := fun b ob hb => by
    rw [upd_ne (ne_of_none hb hx), upd_ne (ne_of_none hb hdx)]
    exact hb
  have ol := o.len
  have om := o.most
  refine ⟨x, dx, pe, pw, es.map fun (n : Nat) => (n : Int), ws.map fun (n : Nat) => (n : Int), rfl, upd_same, by rw [← vi_int]; exact ex_l (e.trans e0) he, by rw [← vi_int]; exact ex_l (e.trans e0) hw, by rw [List.length_map]; omega, by rw [List.length_map]; omega,
    fun _ a u H2 ha hu k hp hA hU => ⟨rfl, q H2 (fun b ob hb => k b ob (ne_of_none hb hx) (e0 b ob hb)) ⟨x, dx, a, u, rfl, fresh_back e hx, fresh_back (e.trans e0) ha, fresh_back (e.trans e0) hu, hp, by rw [vi_int]; exact hA, by rw [vi_int]; exact hU⟩⟩, fun h => absurd (right_of o) h⟩
theorem TreeNew.at {H H2 : Hp} {v : V} {es ws : List Nat} (h : TreeNew C H H2 v es ws) (o : Fm.OkT es ws) : ∃ x, v = .ref x ∧ TreeAt C H2 x es ws := by
  obtain ⟨x, dx, a, u, rfl, _, _, _, h1, h2, h3⟩ := h
  exact ⟨x, rfl, ⟨dx, a, u, h1, h2, h3⟩, o⟩
/-! ### elders, worths, things -/
def spElders1 (C : Addr) : Sp := fun vs H Q _ => ∃ (p : Addr) (es ws : List Nat), vs = [.ref p] ∧ TreeAt C H p es ws ∧ RetL (vi es) H Q
def spWorths1 (C : Addr) : Sp := fun vs H Q _ => ∃ (p : Addr) (es ws : List Nat), vs = [.ref p] ∧ TreeAt C H p es ws ∧ RetL (vi ws) H Q
def spThings (C : Addr) : Sp := fun vs H Q _ => ∃ (p : Addr) (es ws : List Nat), vs = [.ref p] ∧ TreeAt C H p es ws ∧ RetV (.int (ws.length : Int)) H Q
theorem spl_elders1 {H : Hp} {p : Addr} {es ws : List Nat} (h : TreeAt C H p es ws) : SpL (spElders1 C) [.ref p] H (vi es) := fun H1 e Q q E => ⟨p, es, ws, rfl, h.mono e, q⟩
theorem spl_worths1 {H : Hp} {p : Addr} {es ws : List Nat} (h : TreeAt C H p es ws) : SpL (spWorths1 C) [.ref p] H (vi ws) := fun H1 e Q q E => ⟨p, es, ws, rfl, h.mono e, q⟩
theorem spv_things {H : Hp} {p : Addr} {es ws : List Nat} (h : TreeAt C H p es ws) : SpV (spThings C) [.ref p] H (.int (ws.length : Int)) := fun H1 e Q q E => ⟨p, es, ws, rfl, h.mono e, q⟩
theorem has_elders1 (B : Bi mg) (T : TreeT K mg C) (D : AtM K C "elders" "Tree.elders" s_Tree_elders p_Tree_elders) : HasM P w K mg base CX0 C "elders" p_Tree_elders 1 (spElders1 C) := D.has fun f fd F => by
  refine F.ok sc_Tree_elders (fun vs H Q E h => ?_) (fun cdv A outer s H vs Q E hr h => ?_)
  · obtain ⟨p, es, ws, rfl, _⟩ := h
    rfl
  · obtain ⟨p, es, ws, rfl, ⟨⟨dx, a, u, h1, h2, h3⟩, o⟩, q⟩ := h
    refine ⟨_, (pss_one (ps_ret (pe_callTy (call_listK (K := K)) (by rfl) B.list (by decide +kernel) (pa_cons (pe_slice (sl_listK (K := K)) (pe_fldK (K := K) (pv 0) rfl) (po_some pe_int) po_none) pa_nil)))), ?_⟩
    exact s_retL (el_listN (el_is (el_sl (ev_fld (ev_var rfl) h1 T.cl T.nA (flds_above a u)) (eo_some ev_c) eo_none (sq_of h2)) (by
      unfold cutV
      show (List.drop 1 (V.int (-1) :: vi es)).take _ = _
      exact List.take_of_length_le (by simp [HT.sIx, List.length_drop])))) q
theorem has_worths1 (B : Bi mg) (T : TreeT K mg C) (D : AtM K C "worths" "Tree.worths" s_Tree_worths p_Tree_worths) : HasM P w K mg base CX0 C "worths" p_Tree_worths 1 (spWorths1 C) := D.has fun f fd F => by
  refine F.ok sc_Tree_worths (fun vs H Q E h => ?_) (fun cdv A outer s H vs Q E hr h => ?_)
  · obtain ⟨p, es, ws, rfl, _⟩ := h
    rfl
  · obtain ⟨p, es, ws, rfl, ⟨⟨dx, a, u, h1, h2, h3⟩, o⟩, q⟩ := h
    refine ⟨_, (pss_one (ps_ret (pe_callTy (call_listK (K := K)) (by rfl) B.list (by decide +kernel) (pa_cons (pe_fldK (K := K) (pv 0) rfl) pa_nil)))), ?_⟩
    exact s_retL (el_listS (ev_fld (ev_var rfl) h1 T.cl T.nW (flds_worth a u)) (sq_of h3)) q
theorem has_things (B : Bi mg) (T : TreeT K mg C) (D : AtM K C "things" "Tree.things" s_Tree_things p_Tree_things) : HasM P w K mg base CX0 C "things" p_Tree_things 1 (spThings C) := D.has fun f fd F => by
  refine F.ok sc_Tree_things (fun vs H Q E h => ?_) (fun cdv A outer s H vs Q E hr h => ?_)
  · obtain ⟨p, es, ws, rfl, _⟩ := h
    rfl
  · obtain ⟨p, es, ws, rfl, ⟨⟨dx, a, u, h1, h2, h3⟩, o⟩, q⟩ := h
    refine ⟨_, (pss_one (ps_ret (pe_callB (call_lenK (K := K)) (by rfl) B.len PySem.boot_len (pa_cons (pe_fldK (K := K) (pv 0) rfl) pa_nil)))), ?_⟩
    exact s_ret (ev_is (ev_lenS (ev_fld (ev_var rfl) h1 T.cl T.nW (flds_worth a u)) (sq_of h3)) (by rw [vi_len])) q
end
end Fi
/-! Tree.see_thing. -/
namespace Fi
open PySem L2 Evl
section
variable {P : Program} {w : World} {K : PySem.W.Frag} {mg : Str → Option Value} {base : Heap} {C cBad cNo : Addr}
/-- a thing of a tree, or NoThing -/
def Seen (cNo : Addr) (ws : List Nat) (t : Int) (H : Hp) (E : XK) (yes : Prop) : Prop := (0 ≤ t ∧ t < (ws.length : Int) → yes) ∧ (¬ (0 ≤ t ∧ t < (ws.length : Int)) → ∀ H2, Ex H H2 → E (.ref cNo) none H2)
theorem Seen.of {cNo : Addr} {ws : List Nat} {t : Nat} {H : Hp} {E : XK} {yes : Prop} (h : t < ws.length) (y : yes) : Seen cNo ws (t : Int) H E yes := ⟨fun _ => y, fun n => absurd ⟨by omega, by omega⟩ n⟩
def spSee (C cNo : Addr) : Sp := fun vs H Q E => ∃ (p : Addr) (es ws : List Nat) (t : Int), vs = [.ref p, .int t] ∧ TreeAt C H p es ws ∧ Seen cNo ws t H E (RetV .non H Q)
theorem has_see (B : Bi mg) (T : TreeT K mg C) (e_NoThing : Err K mg "NoThing" cNo) (D : AtM K C "see_thing" "Tree.see_thing" s_Tree_see_thing p_Tree_see_thing) : HasM P w K mg base (L2.CX P w) C "see_thing" p_Tree_see_thing 1 (spSee C cNo) := D.has fun f fd F => by
  refine F.okX sc_Tree_see_thing (fun vs H Q E h => ?_) (fun cdv A outer s H vs Q E hr h => ?_)
  · obtain ⟨p, es, ws, t, rfl, _⟩ := h
    rfl
  · obtain ⟨p, es, ws, t, rfl, ⟨⟨dx, a, u, h1, h2, h3⟩, o⟩, k1, k2⟩ := h
    refine ⟨_, (pss_one (ps_if (pt_not (pt_chain op_le op_lt pe_int (pv 1) (pe_callB (call_lenK (K := K)) (by rfl) B.len PySem.boot_len (pa_cons (pe_fldK (K := K) (pv 0) rfl) pa_nil)))) (pss_one (ps_raise rfl (takes_of rfl rfl rfl rfl) (e_NoThing.made (by rfl)))) pss_nil)), ?_⟩
    refine s_when (b := !(decide ((0 : Int) ≤ t) && decide (t < (ws.length : Int)))) (et_not (et_test (ev_chain ev_c (ev_var rfl) (fun _ => ev_is (ev_lenS (ev_fld (ev_var rfl) h1 T.cl T.nW (flds_worth a u)) (sq_of h3)) (by rw [vi_len])) rv_I0 (fun _ => rv_I0)))) (fun hb H1 e1 => ?_) (fun hb H1 e1 => ?_)
    · exact k2 (fun ⟨y1, y2⟩ => by rw [decide_eq_true y1, decide_eq_true y2] at hb; cases hb) H1 e1
    · simp only [Bool.not_eq_false', Bool.and_eq_true, decide_eq_true_eq] at hb
      exact k1 hb H1 e1
end
end Fi
/-! Tree.see_thing; fires.spread. -/
namespace Fi
open PySem L2 Evl
section
variable {P : Program} {w : World} {K : PySem.W.Frag} {mg : Str → Option Value} {base : Heap} {C cNo cPlan : Addr}
/-- what a fire leaves: rows at lm, beside H -/
def RowsNew (H H2 : Hp) (lm : Addr) (rows : List (List Nat)) : Prop := ∃ rs : List Addr, H lm = none ∧ (∀ a, a ∈ rs → H a = none ∧ a ≠ lm) ∧ H2 lm = some (.lst (rs.map V.ref)) ∧ RowsL H2 rs rows
def spSpread (K : PySem.W.Frag) (C cNo cPlan : Addr) : Sp := fun vs H Q E => ∃ (p pl : Addr) (es ws : List Nat) (plan : List (Option Int)), vs = [.ref p, .ref pl] ∧ TreeAt C H p es ws ∧ SqL K H pl (plan.map oV) ∧ plan.length ≤ 1000 ∧
  (∀ r b s, Fm.fire es plan = .ok (r, b, s) → RetP (fun v H2 => ∃ t lm lb r', v = .ref t ∧ H2 t = some (.tup [.ref lm, .ref lb]) ∧ RowsNew H H2 lm r' ∧ Fm.trim r' = Fm.trim r ∧ r'[0]? = some [0] ∧ H2 lb = some (.lst (vi b)) ∧ H lb = none) H Q) ∧
  (∀ c, Fm.fire es plan = .error c → ∀ H2, Ex H H2 → E (.ref (if c = 1 then cNo else cPlan)) none H2)
theorem bool_or_false {a b : Bool} (h : (a || b) = false) : a = false ∧ b = false := by
  cases a <;> cases b <;> first | exact ⟨rfl, rfl⟩ | cases h
theorem has_spread (B : Bi mg) (T : TreeT K mg C) (e_BadPlan : Err K mg "BadPlan" cPlan) (hM_see_thing : HasM P w K mg base (L2.CX P w) C "see_thing" p_Tree_see_thing 1 (spSee C cNo)) (hM_things : HasM P w K mg base CX0 C "things" p_Tree_things 1 (spThings C))
    (D : At K mg "spread" s_spread p_spread) : Has P w K mg base (L2.CX P w) "spread" p_spread 2 (spSpread K C cNo cPlan) := D.has fun f fd F => by
  refine F.okX sc_spread (fun vs H Q E h => ?_) (fun cdv A outer s H vs Q E hr h => ?_)
  · obtain ⟨p, pl, es, ws, plan, rfl, _⟩ := h
    rfl
  · obtain ⟨p, pl, es, ws, plan, rfl, TA, hpl, hlen, kQ, kE⟩ := h
    obtain ⟨⟨dx, a, u, h1, h2, h3⟩, o⟩ := id TA
    have ol := o.len
    have om := o.most
    have pS : Passes (L2.CX P w) (cxOf (L2.CX P w) P w K mg base n_spread "spread" (defScope s_spread) f cdv A outer s H E) E := passes_call (takes_of rfl rfl rfl rfl) fun _ _ _ _ h => h
    refine ⟨_, (pss_cons (ps_set (i := 2) sc_spread.nd rfl (Or.inl rfl) (pe_lst (pa_cons (pe_lst (pa_cons pe_int pa_nil)) pa_nil)))
      (pss_cons (ps_set (i := 3) sc_spread.nd rfl (Or.inl rfl) (pe_lst (pa_cons pe_int pa_nil)))
      (pss_cons (ps_set (i := 4) sc_spread.nd rfl (Or.inl rfl) (pe_lst pa_nil))
      (pss_cons (ps_set (i := 5) sc_spread.nd rfl (Or.inl rfl) pe_int)
      (pss_cons (ps_while (passes_of rfl) (PW.pt (pw_or (pt_cmpR (op_neDK (K := K) hr.units) (pe_ix (ix_listK (K := K)) (pv 2) (pe_un un_neg pe_int) (fun _ _ => rfl)) (pe_lst pa_nil) (nomark _)) (pw_or1 (pt_cmpR op_lt (pv 5) (pe_callB (call_lenK (K := K)) (by rfl) B.len PySem.boot_len (pa_cons (pv 1) pa_nil)) (nomark _))))) (pss_cut (ps_if (PW.pt (pw_and (pt_cmpR op_lt (pv 5) (pe_callB (call_lenK (K := K)) (by rfl) B.len PySem.boot_len (pa_cons (pv 1) pa_nil)) (nomark _)) (pw_and1 (pt_cmpR op_notN (pe_ix (ix_listK (K := K)) (pv 1) (pv 5) (fun _ _ => rfl)) pe_non (nomark _))))) (pss_cons (ps_expr (hM_see_thing.call T.cl (pv 0) (hr.mono (by decide)) (by first | exact pass0 | exact pS) (pa_cons (pe_ix (ix_listK (K := K)) (pv 1) (pv 5) (fun _ _ => rfl)) pa_nil)))
          (pss_cons (ps_if (PW.pt (pw_or (pt_cmpR (op_inK (K := K)) (pe_ix (ix_listK (K := K)) (pv 1) (pv 5) (fun _ _ => rfl)) (pv 3) (by with_unfolding_all rfl)) (pw_or1 (pt_cmpR (op_inK (K := K)) (pe_ix (ix_listK (K := K)) (pv 1) (pv 5) (fun _ _ => rfl)) (pv 4) (by with_unfolding_all rfl))))) (pss_one (ps_raise rfl (takes_of rfl rfl rfl rfl) (e_BadPlan.made (by rfl)))) pss_nil)
          (pss_one (ps_expr (pe_bm PySem.F.plainAttrs_list PySem.F.slot_list_append PySem.F.type_list_append mt_append (pv 4) (pa_cons (pe_ix (ix_listK (K := K)) (pv 1) (pv 5) (fun _ _ => rfl)) pa_nil)))))) pss_nil)
        (pss_cons (ps_set (i := 6) sc_spread.nd rfl (Or.inl rfl) (pe_lst pa_nil))
        (pss_cons (ps_for (passes_of rfl) rfl (pi_range2 (by rfl) B.range (pa_cons pe_int (pa_cons (hM_things.call0 T.cl (pv 0) (hr.mono (by decide)) (by first | exact pass0 | exact pS)) pa_nil))) (pg_name (i := 7) sc_spread.nd rfl (Or.inl rfl)) (pss_one (ps_if (PW.pt (pw_and (pt_cmpR (op_inK (K := K)) (pe_ix (ix_listK (K := K)) (pe_fldK (K := K) (pv 0) rfl) (pv 7) (fun _ _ => rfl)) (pv 3) (by with_unfolding_all rfl)) (pw_and (pt_cmpR (op_notInK (K := K)) (pv 7) (pv 3) (by with_unfolding_all rfl)) (pw_and1 (pt_cmpR (op_notInK (K := K)) (pv 7) (pv 4) (by with_unfolding_all rfl)))))) (pss_one (ps_expr (pe_bm PySem.F.plainAttrs_list PySem.F.slot_list_append PySem.F.type_list_append mt_append (pv 6) (pa_cons (pv 7) pa_nil)))) pss_nil)))
        (pss_cons (ps_expr (pe_bm PySem.F.plainAttrs_list PySem.F.slot_list_extend PySem.F.type_list_extend mt_extend (pv 3) (pa_cons (pv 6) pa_nil)))
        (pss_cons (ps_expr (pe_bm PySem.F.plainAttrs_list PySem.F.slot_list_append PySem.F.type_list_append mt_append (pv 2) (pa_cons (pv 6) pa_nil)))
        (pss_one (ps_set (i := 5) sc_spread.nd rfl (Or.inl rfl) (pe_op op_add (pv 5) pe_int)))))))))
      (pss_one (ps_ret (pe_tup (pa_cons (pv 2) (pa_cons (pv 3) pa_nil)))))))))), ?_⟩
    -- minutes = [[0]]; burning = [0]; shut = []; now = 0
    refine q_asgP (ep_lstL1 (xs := vi [0]) (el_lst (ea_cons ev_c ea_nil) (by show 1 ≤ 100000; decide))) fun v H1 e1 ⟨lm, r0, ev, nm, nr0, nmr, hm, hr0⟩ => ?_
    subst ev
    refine q_asgL (xs := vi [0]) (el_lst (ea_cons ev_c ea_nil) (by show 1 ≤ 100000; decide)) fun lb H2 nb e2 hb => ?_
    refine q_asgL (el_lst ea_nil (Nat.zero_le _)) fun ls H3 ns e3 hs => ?_
    refine q_asg ev_c fun H4 e4 => ?_
    have e12 := e1.trans e2
    have e24 := (e2.trans e3).trans e4
    have nbH : H lb = none := fresh_back e1 nb
    have nsH : H ls = none := fresh_back e12 ns
    have lb_lm : lb ≠ lm := (ne_of_none hm nb).symm
    have ls_lm : ls ≠ lm := (ne_of_none (e2 _ _ hm) ns).symm
    have ls_lb : ls ≠ lb := (ne_of_none hb ns).symm
    have r0_lb : r0 ≠ lb := ne_of_none hr0 nb
    have r0_ls : r0 ≠ ls := ne_of_none (e2 _ _ hr0) ns
    refine q_while (fun m σ' H' => ∃ (now : Nat) (r : List (List Nat)) (b s : List Nat) (rs : List Addr) (v6 v7 : Option V), σ' = [some (.ref p), some (.ref pl), some (.ref lm), some (.ref lb), some (.ref ls), some (.int (now : Int)), v6, v7] ∧ Ex H H' ∧ Fm.run es plan now = .ok (r, b, s) ∧ (now ≤ plan.length ∨ r.getLast? ≠ some [] ∨ plan.length ≤ now) ∧ now ≤ plan.length + es.length + 2 ∧
        H' lm = some (.lst (rs.map V.ref)) ∧ RowsL H' rs r ∧ H' lb = some (.lst (vi b)) ∧ H' ls = some (.lst (vi s)) ∧ (∀ c, c ∈ rs → H c = none ∧ c ≠ lm ∧ c ≠ lb ∧ c ≠ ls) ∧ m = 2 * (es.length + 1 - b.length) + (plan.length - now) + (if r.getLast? = some [] then 0 else 1))
      (2 * (es.length + 1 - 1) + (plan.length - 0) + 1) ⟨0, [[0]], [0], [], [r0], none, none, rfl, (e12.trans e3).trans e4, rfl, .inl (Nat.zero_le _), by omega, e24 _ _ hm, ⟨e24 _ _ hr0, trivial⟩, e4 _ _ (e3 _ _ hb), e4 _ _ hs, fun c hc => by rw [List.mem_singleton.mp hc]; exact ⟨nr0, nmr, r0_lb, r0_ls⟩, by simp⟩ ?_
    rintro m σ' H' ⟨now, r, b, s, rs, v6, v7, rfl, e, hrun, _, hnow, hm, hR, hb, hs, hrs, rfl⟩
    obtain ⟨x, hx⟩ := Fm.last_row hrun
    have g := Fm.good_run hrun
    have gb := g.blen
    refine ⟨!decide (x = []) || decide ((now : Int) < (plan.length : Int)), et_or (et_test (ev_neLast (ev_var rfl) (ev_un ev_c ru_neg) hm hR hx)) fun _ => et_test (ev_op (ev_var rfl) (ev_is (ev_lenS (ev_var rfl) (ex_l e hpl)) (by rw [List.length_map])) rv_I0), fun hbt H5 e5 => ⟨fun σ2 H2 => ∃ m', m' < _ ∧ _, fun _ _ h => h, ?_⟩, fun hbt H5 e5 => ?_⟩
    · have E5 := e.trans e5
      -- the shutting off
      refine q_cut (M := fun σ' H6 => ∃ s', σ' = [some (.ref p), some (.ref pl), some (.ref lm), some (.ref lb), some (.ref ls), some (.int (now : Int)), v6, v7] ∧ Fm.shutStep (es.length + 1) plan[now]? b s = .ok s' ∧ Ex H H6 ∧ H6 lm = some (.lst (rs.map V.ref)) ∧ RowsL H6 rs r ∧ H6 lb = some (.lst (vi b)) ∧ H6 ls = some (.lst (vi s'))) ?_ ?_
      · have tail : ∀ H6, Ex H5 H6 → Fm.shutStep (es.length + 1) plan[now]? b s = .ok s → ∃ s', [some (.ref p), some (.ref pl), some (.ref lm), some (.ref lb), some (.ref ls), some (.int (now : Int)), v6, v7] = [some (.ref p), some (.ref pl), some (.ref lm), some (.ref lb), some (.ref ls), some (.int (now : Int)), v6, v7] ∧ Fm.shutStep (es.length + 1) plan[now]? b s = .ok s' ∧ Ex H H6 ∧ H6 lm = some (.lst (rs.map V.ref)) ∧ RowsL H6 rs r ∧ H6 lb = some (.lst (vi b)) ∧ H6 ls = some (.lst (vi s')) := fun H6 e6 hs' =>
          have e56 := e5.trans e6
          ⟨s, rfl, hs', e.trans e56, e56 _ _ hm, hR.mono fun a o _ h => e56 _ _ h, e56 _ _ hb, e56 _ _ hs⟩
        cases hp : plan[now]? with
        | none =>
          have hge : plan.length ≤ now := List.getElem?_eq_none_iff.mp hp
          refine s_when (b := false) (et_is (et_and (a := decide ((now : Int) < (plan.length : Int))) (b := false) (et_test (ev_op (ev_var rfl) (ev_is (ev_lenS (ev_var rfl) (ex_l E5 hpl)) (by rw [List.length_map])) rv_I0)) fun hc => absurd (of_decide_eq_true hc) (by omega)) (by simp)) (fun h => no h) fun _ H6 e6 => ?_
          have q := tail H6 e6 (Fm.shut_behind hge)
          rw [hp] at q
          exact q
        | some ov =>
          have hlt : now < plan.length := (List.getElem?_eq_some_iff.mp hp).1
          have hat : atI (plan.map oV) (now : Int) = some (oV ov) := at_of (j := now) rfl (oV_get hp)
          have hd : decide ((now : Int) < (plan.length : Int)) = true := decide_eq_true (by omega)
          cases ov with
          | none =>
            refine s_when (b := false) (et_is (et_and (et_test (ev_op (ev_var rfl) (ev_is (ev_lenS (ev_var rfl) (ex_l E5 hpl)) (by rw [List.length_map])) rv_I0)) fun _ => et_test (ev_opNotN (ev_opIx (ev_var rfl) (ev_var rfl) (ex_l E5 hpl) hat))) (by rw [hd]; rfl)) (fun h => no h) fun _ H6 e6 => ?_
            have q := tail H6 e6 (by rw [hp]; rfl)
            rw [hp] at q
            exact q
          | some z =>
            refine s_when (b := true) (et_is (et_and (et_test (ev_op (ev_var rfl) (ev_is (ev_lenS (ev_var rfl) (ex_l E5 hpl)) (by rw [List.length_map])) rv_I0)) fun _ => et_test (ev_opNotN (ev_opIx (ev_var rfl) (ev_var rfl) (ex_l E5 hpl) hat))) (by rw [hd]; rfl)) (fun _ H6 e6 => ?_) fun h => no' h
            have E6 := E5.trans e6
            have e56 := e5.trans e6
            refine q_methX (ev_var rfl) (E6 _ _ h1) (flds_no a u (by decide +kernel) (by decide +kernel)) (ea_cons (ev_opIx (ev_var rfl) (ev_var rfl) (ex_l E6 hpl) hat) ea_nil) fun H7 e7 => ⟨p, es, ws, z, rfl, TA.mono (E6.trans e7), fun hv H8 e8 => ?_, fun hv H8 e8 => ?_⟩
            · -- it is a thing
              have E8 := (E6.trans e7).trans e8
              have e58 := (e56.trans e7).trans e8
              obtain ⟨n, rfl⟩ : ∃ n : Nat, z = (n : Int) := ⟨z.toNat, by omega⟩
              have hst : Fm.shutStep (es.length + 1) (some (some (n : Int))) b s = if n ∈ b ∨ n ∈ s then .error 2 else .ok (s ++ [n]) := by
                show (if 0 ≤ (n : Int) ∧ (n : Int) < ((es.length + 1 : Nat) : Int) then (if (n : Int).toNat ∈ b ∨ (n : Int).toNat ∈ s then Except.error 2 else .ok (s ++ [(n : Int).toNat])) else .error 1) = _
                rw [if_pos ⟨by omega, by omega⟩, Int.toNat_natCast]
              refine q_when (et_or (et_test (ev_op (ev_opIx (ev_var rfl) (ev_var rfl) (ex_l E8 hpl) hat) (ev_var rfl) (rv_isI (sq_of (e58 _ _ hb))))) fun _ => et_test (ev_op (ev_opIx (ev_var rfl) (ev_var rfl) (ex_l E8 hpl) hat) (ev_var rfl) (rv_isI (sq_of (e58 _ _ hs))))) (fun hbt2 H9 e9 => ?_) (fun hbt2 H9 e9 => ?_)
              · have hin : n ∈ b ∨ n ∈ s := by simpa using hbt2
                have herr : Fm.shutStep (es.length + 1) plan[now]? b s = .error 2 := by rw [hp, hst, if_pos hin]
                exact kE 2 (Fm.run_fire_error (Fm.run_fail hrun herr) (by omega)) H9 (E8.trans e9)
              · obtain ⟨y1, y2⟩ := bool_or_false hbt2
                have hin : ¬ (n ∈ b ∨ n ∈ s) := fun h => by
                  rcases h with h | h
                  · exact of_decide_eq_false y1 h
                  · exact of_decide_eq_false y2 h
                have e59 := e58.trans e9
                have hsl := g.sln
                refine s_app (e59 _ _ hs) (ev_var rfl) (ev_opIx (ev_var rfl) (ev_var rfl) (ex_l (E8.trans e9) hpl) hat) (by rw [vi_len]; omega) fun H10 e10 => ?_
                have e510 := e59.trans e10
                refine ⟨s ++ [n], rfl, by rw [hst, if_neg hin], Ex.mut ((E8.trans e9).trans e10) nsH, ?_, ?_, ?_, ?_⟩
                · rw [upd_ne ls_lm.symm]; exact e510 _ _ hm
                · exact hR.mono fun c ob hc h => by rw [upd_ne (hrs c hc).2.2.2]; exact e510 _ _ h
                · rw [upd_ne ls_lb.symm]; exact e510 _ _ hb
                · rw [upd_same, vi_app]; rfl
            · -- no thing
              have herr : Fm.shutStep (es.length + 1) plan[now]? b s = .error 1 := by
                rw [hp]
                show (if 0 ≤ z ∧ z < ((es.length + 1 : Nat) : Int) then _ else Except.error 1) = _
                exact if_neg (by rw [ol]; exact hv)
              exact kE 1 (Fm.run_fire_error (Fm.run_fail hrun herr) (by omega)) H8 ((E6.trans e7).trans e8)
      · rintro σ6 H6 ⟨s', rfl, hst, E6, hm6, hR6, hb6, hs6⟩
        have hrun' := Fm.run_step hrun hst
        have g' := Fm.good_run hrun'
        have gb' := g'.blen
        -- fresh = []
        refine q_asgL (el_lst ea_nil (Nat.zero_le _)) fun lf H7 nf e7 hf => ?_
        have nfH : H lf = none := fresh_back E6 nf
        have E7 := E6.trans e7
        have lf_lm : lf ≠ lm := (ne_of_none hm6 nf).symm
        have lf_lb : lf ≠ lb := (ne_of_none hb6 nf).symm
        have lf_ls : lf ≠ ls := (ne_of_none hs6 nf).symm
        refine q_forR2 (lo := 1) (n := (ws.length : Int)) (ea_cons ev_c (ea_cons (ev_meth (ev_var rfl) (E7 _ _ h1) (flds_no a u (by decide +kernel) (by decide +kernel)) ea_nil (spv_things (TA.mono E7))) ea_nil)) ⟨by omega, by omega, by omega, by omega⟩
          (fun i σ' H' => ∃ v7, σ' = [some (.ref p), some (.ref pl), some (.ref lm), some (.ref lb), some (.ref ls), some (.int (now : Int)), some (.ref lf), v7] ∧ Ex H6 H' ∧ H' lf = some (.lst (vi (Fm.freshTo es b s' i)))) (fun H8 e8 => ⟨v7, rfl, e7.trans e8, e8 _ _ hf⟩) ?_ ?_
        · rintro i σ' H' hi ⟨w7, rfl, e6, hL⟩
          have hx2 : (V.int (-1) :: vi es)[i + 1]? = some (V.int (Fm.eld es (i + 1) : Int)) := by
            rw [List.getElem?_cons_succ]
            exact vi_get (Fm.eld_get (t := i + 1) (by omega) (by omega))
          have ei : (1 : Int) + (i : Int) = ((i + 1 : Nat) : Int) := by omega
          rw [ei]
          have EE := E6.trans e6
          refine s_when (et_and (et_test (ev_op (ev_opIx (ev_fld (ev_var rfl) (EE _ _ h1) T.cl T.nA (flds_above a u)) (ev_var rfl) (sq_of (EE _ _ h2)) (at_of (j := i + 1) rfl hx2)) (ev_var rfl) (rv_isI (sq_of (e6 _ _ hb6))))) fun _ => et_and (et_test (ev_op (ev_var rfl) (ev_var rfl) (rv_niI (sq_of (e6 _ _ hb6))))) fun _ => et_test (ev_op (ev_var rfl) (ev_var rfl) (rv_niI (sq_of (e6 _ _ hs6))))) (fun hb7 H8 e8 => ?_) (fun hb7 H8 e8 => ?_)
          · refine s_app (e8 _ _ hL) (ev_var rfl) (ev_var rfl) (by rw [vi_len]; have := Fm.freshTo_len es b s' i; omega) fun H9 e9 => ⟨_, rfl, Ex.mut ((e6.trans e8).trans e9) nf, ?_⟩
            rw [upd_same, Fm.freshTo_succ, if_pos (by rw [Bool.and_assoc]; exact hb7), vi_app]
            rfl
          · refine ⟨_, rfl, e6.trans e8, ?_⟩
            rw [Fm.freshTo_succ, if_neg (by rw [Bool.and_assoc, hb7]; decide)]
            exact e8 _ _ hL
        · rintro σ' H' ⟨w7, rfl, e6, hL⟩
          rw [show ((ws.length : Int) - 1).toNat = es.length by omega] at hL
          have hL : H' lf = some (.lst (vi (Fm.fresh es b s'))) := hL
          have fl := Fm.freshTo_len es b s' es.length
          have fl : (Fm.fresh es b s').length ≤ es.length := fl
          have EE := E6.trans e6
          -- burning.extend(fresh)
          refine q_ext (e6 _ _ hb6) hL (ev_var rfl) (ev_var rfl) (by rw [vi_len, vi_len]; omega) fun H8 e8 => ?_
          have k8 : ∀ c ob, c ≠ lb → H' c = some ob → (upd H8 lb (.lst (vi b ++ vi (Fm.fresh es b s')))) c = some ob := fun c ob hc h => by rw [upd_ne hc]; exact e8 _ _ h
          have hb8 : (upd H8 lb (.lst (vi b ++ vi (Fm.fresh es b s')))) lb = some (.lst (vi (b ++ Fm.fresh es b s'))) := by rw [upd_same, vi_app]
          have E8 : Ex H (upd H8 lb (.lst (vi b ++ vi (Fm.fresh es b s')))) := Ex.mut (EE.trans e8) nbH
          generalize upd H8 lb (.lst (vi b ++ vi (Fm.fresh es b s'))) = H9 at k8 hb8 E8
          -- minutes.append(fresh)
          have rl : rs.length = now + 1 := by rw [hR.len, g.len]
          refine q_app (k8 _ _ lb_lm.symm (e6 _ _ hm6)) (ev_var rfl) (ev_var rfl) (by rw [List.length_map]; omega) fun H10 e10 => ?_
          have k10 : ∀ c ob, c ≠ lm → H9 c = some ob → (upd H10 lm (.lst (rs.map V.ref ++ [.ref lf]))) c = some ob := fun c ob hc h => by rw [upd_ne hc]; exact e10 _ _ h
          have hm10 : (upd H10 lm (.lst (rs.map V.ref ++ [.ref lf]))) lm = some (.lst ((rs ++ [lf]).map V.ref)) := by rw [upd_same, List.map_append]; rfl
          have E10 : Ex H (upd H10 lm (.lst (rs.map V.ref ++ [.ref lf]))) := Ex.mut (E8.trans e10) nm
          generalize upd H10 lm (.lst (rs.map V.ref ++ [.ref lf])) = H11 at k10 hm10 E10
          refine s_asg (v := .int ((now + 1 : Nat) : Int)) (ev_op (ev_var rfl) ev_c rv_I0) fun H12 e12 => ?_
          have hgl : (r ++ [Fm.fresh es b s']).getLast? = some (Fm.fresh es b s') := by rw [List.getLast?_append]; rfl
          have hlt : plan.length ≤ now → x ≠ [] := fun hn => by
            have : decide ((now : Int) < (plan.length : Int)) = false := decide_eq_false (by omega)
            rw [this, Bool.or_false] at hbt
            simpa using hbt
          refine ⟨_, ?_, now + 1, r ++ [Fm.fresh es b s'], b ++ Fm.fresh es b s', s', rs ++ [lf], _, _, rfl, E10.trans e12, hrun', ?_, ?_, e12 _ _ hm10, ?_, e12 _ _ (k10 _ _ lb_lm hb8), e12 _ _ (k10 _ _ ls_lm (k8 _ _ ls_lb (e6 _ _ hs6))), ?_, rfl⟩
          · rw [hgl, hx]
            rw [List.length_append] at gb' ⊢
            by_cases hf0 : Fm.fresh es b s' = []
            · rw [hf0, if_pos rfl]
              simp only [List.length_nil, Nat.add_zero]
              by_cases hn : plan.length ≤ now
              · rw [if_neg (fun e => hlt hn (Option.some.inj e))]
                omega
              · omega
            · have : 0 < (Fm.fresh es b s').length := List.length_pos_iff.mpr hf0
              split <;> split <;> omega
          · by_cases hn : plan.length ≤ now + 1
            · exact .inr (.inr hn)
            · exact .inl (by omega)
          · by_cases hn : plan.length ≤ now
            · -- the fire is not over: fewer than all things burn
              have hbnd : now < plan.length + (es.length + 1) := by
                refine Nat.lt_of_not_le fun hge => ?_
                obtain ⟨k, hk⟩ : ∃ k, now = plan.length + k := ⟨now - plan.length, by omega⟩
                obtain ⟨j, hj⟩ : ∃ j, k = j + 1 := ⟨k - 1, by omega⟩
                have hr2 := hrun
                rw [hk] at hr2
                rcases Fm.over_or hr2 with h0 | h0
                · subst hj
                  -- the state ahead of the last minute
                  cases e0 : Fm.run es plan (plan.length + j) with
                  | error c =>
                    have := Fm.run_error e0 1
                    rw [show plan.length + j + 1 = now by omega, hrun] at this
                    cases this
                  | ok v =>
                    obtain ⟨ra, ba, sa⟩ := v
                    have hstep := Fm.run_step e0 (Fm.shut_behind (by omega))
                    rw [show plan.length + j + 1 = now by omega, hrun] at hstep
                    cases hstep
                    have hxx : Fm.fresh es ba s = x := by
                      rw [List.getLast?_append] at hx
                      exact Option.some.inj hx
                    rcases Fm.over_or e0 with h4 | h4
                    · exact hlt hn (by rw [← hxx, h4])
                    · have g0 := (Fm.good_run e0).blen
                      have : x ≠ [] := hlt hn
                      have : 0 < x.length := List.length_pos_iff.mpr this
                      rw [List.length_append, hxx] at gb
                      omega
                · omega
              omega
            · omega
          · refine RowsL.snoc ?_ (hR6.mono fun c ob hc h => e12 _ _ (k10 _ _ (hrs c hc).2.1 (k8 _ _ (hrs c hc).2.2.1 (e6 _ _ h))))
            exact e12 _ _ (k10 _ _ lf_lm (k8 _ _ lf_lb hL))
          · intro c hc
            rcases List.mem_append.mp hc with hc | hc
            · exact hrs c hc
            · rw [List.mem_singleton.mp hc]
              exact ⟨nfH, lf_lm, lf_lb, lf_ls⟩
    · -- the end
      obtain ⟨y1, y2⟩ := bool_or_false hbt
      have hx0 : x = [] := by simpa using y1
      have hn : plan.length ≤ now := by have := of_decide_eq_false y2; omega
      subst hx0
      obtain ⟨r1, hfire, htr⟩ := Fm.run_fire hrun hn hx
      have E5 := e.trans e5
      refine s_retU (eu_tup (ea_cons (ev_var rfl) (ea_cons (ev_var rfl) ea_nil)) (by show 2 ≤ 100000; decide)) fun t H6 nt e6 ht => ?_
      have e56 := e5.trans e6
      refine kQ r1 b s hfire _ H6 (E5.trans e6) ⟨t, lm, lb, r, rfl, ht, ⟨rs, nm, fun c hc => ⟨(hrs c hc).1, (hrs c hc).2.1⟩, e56 _ _ hm, hR.mono fun c ob _ h => e56 _ _ h⟩, htr.symm, g.head, e56 _ _ hb, nbH⟩
theorem spp_spread {H : Hp} {p pl : Addr} {es ws : List Nat} {plan : List (Option Int)} {r : List (List Nat)} {b s : List Nat} (h : TreeAt C H p es ws) (hp : SqL K H pl (plan.map oV)) (hl : plan.length ≤ 1000) (hf : Fm.fire es plan = .ok (r, b, s)) :
    SpP (spSpread K C cNo cPlan) [.ref p, .ref pl] H (fun v H2 => ∃ t lm lb r', v = .ref t ∧ H2 t = some (.tup [.ref lm, .ref lb]) ∧ RowsNew H H2 lm r' ∧ Fm.trim r' = Fm.trim r ∧ r'[0]? = some [0] ∧ H2 lb = some (.lst (vi b)) ∧ H lb = none) := fun H1 e Q q E =>
  ⟨p, pl, es, ws, plan, rfl, h.mono e, ex_l e hp, hl, fun r1 b1 s1 hf1 v H2 e2 ⟨t, lm, lb, r', ev, ht, ⟨rs, nm, nrs, hm, hR⟩, htr, h0, hb, nb⟩ => by
    rw [hf] at hf1
    cases hf1
    exact q v H2 e2 ⟨t, lm, lb, r', ev, ht, ⟨rs, fresh_back e nm, fun a ha => ⟨fresh_back e (nrs a ha).1, (nrs a ha).2⟩, hm, hR⟩, htr, h0, hb, fresh_back e nb⟩,
   fun c hc => by rw [hf] at hc; cases hc⟩
end
end Fi
/-! fires.saved. -/
namespace Fi
open PySem L2 Evl
section
variable {P : Program} {w : World} {K : PySem.W.Frag} {mg : Str → Option Value} {base : Heap} {C cNo cPlan : Addr}
def spSaved (K : PySem.W.Frag) (C cNo cPlan : Addr) : Sp := fun vs H Q E => ∃ (p pl : Addr) (es ws : List Nat) (plan : List (Option Int)), vs = [.ref p, .ref pl] ∧ TreeAt C H p es ws ∧ SqL K H pl (plan.map oV) ∧ plan.length ≤ 1000 ∧
  (∀ r b s, Fm.fire es plan = .ok (r, b, s) → RetV (.int (Fm.saved ws b : Int)) H Q) ∧
  (∀ c, Fm.fire es plan = .error c → ∀ H2, Ex H H2 → E (.ref (if c = 1 then cNo else cPlan)) none H2)
theorem spv_saved {H : Hp} {p pl : Addr} {es ws : List Nat} {plan : List (Option Int)} {r : List (List Nat)} {b s : List Nat} (h : TreeAt C H p es ws) (hp : SqL K H pl (plan.map oV)) (hl : plan.length ≤ 1000) (hf : Fm.fire es plan = .ok (r, b, s)) :
    SpV (spSaved K C cNo cPlan) [.ref p, .ref pl] H (.int (Fm.saved ws b : Int)) := fun H1 e Q q E =>
  ⟨p, pl, es, ws, plan, rfl, h.mono e, ex_l e hp, hl, fun r1 b1 s1 hf1 => by rw [hf] at hf1; cases hf1; exact q, fun c hc => by rw [hf] at hc; cases hc⟩
theorem has_saved (B : Bi mg) (T : TreeT K mg C) (hspread : Has P w K mg base (L2.CX P w) "spread" p_spread 2 (spSpread K C cNo cPlan)) (hM_things : HasM P w K mg base CX0 C "things" p_Tree_things 1 (spThings C))
    (D : At K mg "saved" s_saved p_saved) : Has P w K mg base (L2.CX P w) "saved" p_saved 3 (spSaved K C cNo cPlan) := D.has fun f fd F => by
  refine F.okX sc_saved (fun vs H Q E h => ?_) (fun cdv A outer s H vs Q E hr h => ?_)
  · obtain ⟨p, pl, es, ws, plan, rfl, _⟩ := h
    rfl
  · obtain ⟨p, pl, es, ws, plan, rfl, TA, hpl, hlen, kQ, kE⟩ := h
    obtain ⟨⟨dx, a, u, h1, h2, h3⟩, o⟩ := id TA
    have om := o.most
    have pS : Passes (L2.CX P w) (cxOf (L2.CX P w) P w K mg base n_saved "saved" (defScope s_saved) f cdv A outer s H E) E := passes_call (takes_of rfl rfl rfl rfl) fun _ _ _ _ h => h
    refine ⟨_, (pss_cons (ps_set (i := 2) sc_saved.nd rfl (Or.inr rfl) (pe_ix (ix_tupK (K := K)) (hspread.call (hr.mono (by decide)) (by rfl) (by first | exact pass0 | exact pS) (pa_cons (pv 0) (pa_cons (pv 1) pa_nil))) pe_int (fun _ _ => rfl)))
      (pss_one (ps_ret (pe_callB (cr_sumK (K := K) rfl) (by rfl) B.sum (by decide +kernel) (pa_cons (pe_lc (own := [("thing", 3)]) (g := gName 3) rfl sc_saved.nd (pi_range1 (by rfl) B.range (pa_cons (hM_things.call0 T.cl (pv 0) (hr.mono (by decide)) (by first | exact pass0 | exact pS)) pa_nil)) (blkOk_by (own := [("thing", 3)]) (N := n_saved) (sc := defScope s_saved) (by decide +kernel)) (fun _ _ _ _ _ => pg_name (i := 3) sc_saved.nd rfl (Or.inl rfl)) (fun _ _ _ _ _ => pts_one (pt_cmpR (op_notInK (K := K)) (pv 3) (pv 2) (by with_unfolding_all rfl))) (fun _ _ _ _ _ => (pe_ix (ix_listK (K := K)) (pe_fldK (K := K) (pv 0) rfl) (pv 3) (fun _ _ => rfl)))) pa_nil))))), ?_⟩
    cases hf : Fm.fire es plan with
    | error c => exact ⟨_, rfl, _, rfl, p, pl, es, ws, plan, rfl, TA, hpl, hlen, fun r b s h => (by rw [hf] at h; cases h), fun c' hc' H2 e2 => kE c' hc' H2 e2⟩
    | ok v =>
      obtain ⟨r, b, sh⟩ := v
      refine q_asgP (ep_ixT (P' := fun v H2 => ∃ lb, v = .ref lb ∧ H2 lb = some (.lst (vi b))) (ep_call0 (ea_cons (ev_var rfl) (ea_cons (ev_var rfl) ea_nil)) (spp_spread TA hpl hlen hf)) ev_c fun v H2 H3 e2 e3 ⟨t, lm, lb, r', ev, ht, _, _, _, hb, _⟩ => ⟨t, _, .ref lb, ev, st_of (e3 _ _ ht), rfl, lb, rfl, e3 _ _ hb⟩) fun v H1 e1 ⟨lb, ev, hb⟩ => ?_
      subst ev
      refine s_ret (ev_sumN (el_lcR1f (n := ws.length) (fun t => !decide (t ∈ b)) (fun t => ws.getD t 0) (ea_cons (ev_meth (ev_var rfl) (e1 _ _ h1) (flds_no a u (by decide +kernel) (by decide +kernel)) ea_nil (spv_things (TA.mono e1))) ea_nil) (by omega) (fun x => rfl) (fun i H2 e2 hi => ?_) (fun i H2 e2 hi _ => ?_))) fun H2 e2 => kQ r b sh hf H2 (e1.trans e2)
      · exact et_test (ev_op (ev_var rfl) (ev_var rfl) (rv_niI (sq_of (e2 _ _ hb))))
      · have E2 := e1.trans e2
        exact ev_opIx (ev_fld (ev_var rfl) (E2 _ _ h1) T.cl T.nW (flds_worth a u)) (ev_var rfl) (sq_of (E2 _ _ h3)) (vi_at rfl (by rw [List.getD_eq_getElem?_getD, List.getElem?_eq_getElem hi]; rfl))
end
end Fi
/-! fires.burnt. -/
namespace Fi
open PySem L2 Evl
theorem getLast_dropLast {α : Type} {l : List α} {x : α} (h : l.getLast? = some x) : l = l.dropLast ++ [x] := by
  have hn : l ≠ [] := fun e => by rw [e] at h; cases h
  have := List.dropLast_concat_getLast hn
  rw [List.getLast?_eq_some_getLast hn] at h
  rw [← Option.some.inj h]
  exact this.symm
section
variable {P : Program} {w : World} {K : PySem.W.Frag} {mg : Str → Option Value} {base : Heap} {C cNo cPlan : Addr}
def spBurnt (K : PySem.W.Frag) (C cNo cPlan : Addr) : Sp := fun vs H Q E => ∃ (p pl : Addr) (es ws : List Nat) (plan : List (Option Int)), vs = [.ref p, .ref pl] ∧ TreeAt C H p es ws ∧ SqL K H pl (plan.map oV) ∧ plan.length ≤ 1000 ∧
  (∀ r b s, Fm.fire es plan = .ok (r, b, s) → RetP (fun v H2 => ∃ lm, v = .ref lm ∧ RowsNew H H2 lm (Fm.trim r)) H Q) ∧
  (∀ c, Fm.fire es plan = .error c → ∀ H2, Ex H H2 → E (.ref (if c = 1 then cNo else cPlan)) none H2)
theorem spp_burnt {H : Hp} {p pl : Addr} {es ws : List Nat} {plan : List (Option Int)} {r : List (List Nat)} {b s : List Nat} (h : TreeAt C H p es ws) (hp : SqL K H pl (plan.map oV)) (hl : plan.length ≤ 1000) (hf : Fm.fire es plan = .ok (r, b, s)) :
    SpP (spBurnt K C cNo cPlan) [.ref p, .ref pl] H (fun v H2 => ∃ lm, v = .ref lm ∧ RowsNew H H2 lm (Fm.trim r)) := fun H1 e Q q E =>
  ⟨p, pl, es, ws, plan, rfl, h.mono e, ex_l e hp, hl, fun r1 b1 s1 hf1 v H2 e2 ⟨lm, ev, rs, nm, nrs, hm, hR⟩ => by
    rw [hf] at hf1
    cases hf1
    exact q v H2 e2 ⟨lm, ev, rs, fresh_back e nm, fun a ha => ⟨fresh_back e (nrs a ha).1, (nrs a ha).2⟩, hm, hR⟩,
   fun c hc => by rw [hf] at hc; cases hc⟩
theorem has_burnt (T : TreeT K mg C) (hspread : Has P w K mg base (L2.CX P w) "spread" p_spread 2 (spSpread K C cNo cPlan))
    (D : At K mg "burnt" s_burnt p_burnt) : Has P w K mg base (L2.CX P w) "burnt" p_burnt 3 (spBurnt K C cNo cPlan) := D.has fun f fd F => by
  refine F.okX sc_burnt (fun vs H Q E h => ?_) (fun cdv A outer s H vs Q E hr h => ?_)
  · obtain ⟨p, pl, es, ws, plan, rfl, _⟩ := h
    rfl
  · obtain ⟨p, pl, es, ws, plan, rfl, TA, hpl, hlen, kQ, kE⟩ := h
    have pS : Passes (L2.CX P w) (cxOf (L2.CX P w) P w K mg base n_burnt "burnt" (defScope s_burnt) f cdv A outer s H E) E := passes_call (takes_of rfl rfl rfl rfl) fun _ _ _ _ h => h
    refine ⟨_, (pss_cons (ps_set (i := 2) sc_burnt.nd rfl (Or.inl rfl) (pe_ix (ix_tupK (K := K)) (hspread.call (hr.mono (by decide)) (by rfl) (by first | exact pass0 | exact pS) (pa_cons (pv 0) (pa_cons (pv 1) pa_nil))) pe_int (fun _ _ => rfl)))
      (pss_cons (ps_while (passes_of rfl) (pt_cmpR (op_eqDK (K := K) hr.units) (pe_ix (ix_listK (K := K)) (pv 2) (pe_un un_neg pe_int) (fun _ _ => rfl)) (pe_lst pa_nil) (nomark _)) (pss_one (ps_expr (pe_bm0 PySem.F.plainAttrs_list PySem.F.slot_list_pop PySem.F.type_list_pop mt_pop (pv 2)))))
      (pss_one (ps_ret (pv 2))))), ?_⟩
    cases hf : Fm.fire es plan with
    | error c => exact ⟨_, rfl, _, rfl, p, pl, es, ws, plan, rfl, TA, hpl, hlen, fun r b s h => (by rw [hf] at h; cases h), fun c' hc' H2 e2 => kE c' hc' H2 e2⟩
    | ok v =>
      obtain ⟨r, b, sh⟩ := v
      refine q_asgP (ep_ixT (P' := fun v H2 => ∃ lm r', v = .ref lm ∧ RowsNew H H2 lm r' ∧ Fm.trim r' = Fm.trim r ∧ r'[0]? = some [0]) (ep_call0 (ea_cons (ev_var rfl) (ea_cons (ev_var rfl) ea_nil)) (spp_spread TA hpl hlen hf)) ev_c
        fun v H2 H3 e2 e3 ⟨t, lm, lb, r', ev, ht, ⟨rs, nm, nrs, hm, hR⟩, htr, h0, _, _⟩ => ⟨t, _, .ref lm, ev, st_of (e3 _ _ ht), rfl, lm, r', rfl, ⟨rs, nm, nrs, e3 _ _ hm, hR.mono fun a ob _ h => e3 _ _ h⟩, htr, h0⟩) fun v H1 e1 ⟨lm, r', ev, hN, htr, h0⟩ => ?_
      subst ev
      have hne := Fm.trim_ne h0
      rw [htr] at hne
      refine q_while (fun m σ' H' => ∃ r2, σ' = [some (.ref p), some (.ref pl), some (.ref lm)] ∧ Ex H H' ∧ RowsNew H H' lm r2 ∧ Fm.trim r2 = Fm.trim r ∧ m = r2.length) r'.length ⟨r', rfl, e1, hN, htr, rfl⟩ ?_
      rintro m σ' H' ⟨r2, rfl, e, ⟨rs, nm, nrs, hm, hR⟩, htr2, rfl⟩
      have hr2 : r2 ≠ [] := fun h => hne (by rw [← htr2, h]; rfl)
      obtain ⟨x, hx⟩ : ∃ x, r2.getLast? = some x := ⟨_, List.getLast?_eq_some_getLast hr2⟩
      refine ⟨decide (x = []), et_test (ev_eqLast (ev_var rfl) (ev_un ev_c ru_neg) hm hR hx), fun hb H2 e2 => ⟨fun σ2 H2 => ∃ m', m' < r2.length ∧ _, fun _ _ h => h, ?_⟩, fun hb H2 e2 => ?_⟩
      · have hx0 : x = [] := of_decide_eq_true hb
        subst hx0
        obtain ⟨ra, hra, hra2, _⟩ := hR.get (last_idx hx)
        rw [← hR.len] at hra
        refine s_pop (y := .ref ra) (e2 _ _ hm) (by rw [List.length_map, List.getElem?_map, hra]; rfl) (ev_var rfl) fun H3 e3 => ?_
        have hl := getLast_dropLast hx
        have hpos : 0 < r2.length := List.length_pos_iff.mpr hr2
        refine ⟨r2.dropLast.length, by rw [List.length_dropLast]; omega, r2.dropLast, rfl, Ex.mut ((e.trans e2).trans e3) nm, ⟨rs.dropLast, nm, fun a ha => nrs a ((List.dropLast_sublist rs).subset ha), by rw [upd_same, List.map_dropLast], ?_⟩, ?_, rfl⟩
        · exact hR.drop.mono fun a ob ha h => by
            rw [upd_ne (nrs a ((List.dropLast_sublist rs).subset ha)).2]
            exact e3 _ _ (e2 _ _ h)
        · rw [← htr2]
          conv => rhs; rw [hl]
          rw [Fm.trim_snoc_nil]
      · have hx0 : x ≠ [] := of_decide_eq_false hb
        have hl := getLast_dropLast hx
        have : Fm.trim r2 = r2 := by
          conv => lhs; rw [hl]
          rw [Fm.trim_snoc _ hx0]
          exact hl.symm
        rw [this] at htr2
        subst htr2
        exact s_ret (ev_var rfl) fun H3 e3 => kQ r b sh hf _ H3 ((e.trans e2).trans e3) ⟨lm, rfl, rs, nm, nrs, e3 _ _ (e2 _ _ hm), hR.mono fun a ob _ h => e3 _ _ (e2 _ _ h)⟩
end
end Fi
/-! The law's own fire and what it saves. -/
namespace Fi
open PySem L2 Evl
theorem filter_fresh (es b s : List Nat) : (b ++ Fm.fresh es b s).filter (fun n => !decide (n ∈ b)) = Fm.fresh es b s := by
  rw [List.filter_append]
  have h1 : b.filter (fun n => !decide (n ∈ b)) = [] := by
    rw [List.filter_eq_nil_iff]
    intro a ha
    simp [ha]
  have h2 : (Fm.fresh es b s).filter (fun n => !decide (n ∈ b)) = Fm.fresh es b s := by
    rw [List.filter_eq_self]
    intro a ha
    have := (Fm.mem_fresh.mp ha).2.2.1
    simp [this]
  rw [h1, h2, List.nil_append]
section
variable {P : Program} {w : World} {K : PySem.W.Frag} {mg : Str → Option Value} {base : Heap} {C cNo cPlan : Addr}
def spLFire (K : PySem.W.Frag) : Sp := fun vs H Q _ => ∃ (pe pl : Addr) (es : List Nat) (plan : List (Option Int)), vs = [.ref pe, .ref pl] ∧ SqL K H pe (vi es) ∧ (∀ (k v : Nat), es[k]? = some v → v ≤ k) ∧ es.length ≤ 13 ∧ SqL K H pl (plan.map oV) ∧ plan.length ≤ 1000 ∧
  (∀ r b s, Fm.fire es plan = .ok (r, b, s) → RetP (fun v H2 => ∃ t lr lb, v = .ref t ∧ H2 t = some (.tup [.ref lr, .ref lb]) ∧ RowsNew H H2 lr (Fm.trim r) ∧ H2 lb = some (.lst (vi b))) H Q) ∧
  (∀ c, Fm.fire es plan = .error c → RetP (fun v H2 => ∃ t, v = .ref t ∧ H2 t = some (.tup [.non, .int (c : Int)])) H Q)
theorem spp_lfire {H : Hp} {pe pl : Addr} {es : List Nat} {plan : List (Option Int)} {r : List (List Nat)} {b s : List Nat} (he : SqL K H pe (vi es)) (up : ∀ (k v : Nat), es[k]? = some v → v ≤ k) (h13 : es.length ≤ 13) (hp : SqL K H pl (plan.map oV)) (hl : plan.length ≤ 1000) (hf : Fm.fire es plan = .ok (r, b, s)) :
    SpP (spLFire K) [.ref pe, .ref pl] H (fun v H2 => ∃ t lr lb, v = .ref t ∧ H2 t = some (.tup [.ref lr, .ref lb]) ∧ RowsNew H H2 lr (Fm.trim r) ∧ H2 lb = some (.lst (vi b))) := fun H1 e Q q E =>
  ⟨pe, pl, es, plan, rfl, ex_l e he, up, h13, ex_l e hp, hl, fun r1 b1 s1 hf1 v H2 e2 ⟨t, lr, lb, ev, ht, ⟨rs, nm, nrs, hm, hR⟩, hb⟩ => by
    rw [hf] at hf1
    cases hf1
    exact q v H2 e2 ⟨t, lr, lb, ev, ht, ⟨rs, fresh_back e nm, fun a ha => ⟨fresh_back e (nrs a ha).1, (nrs a ha).2⟩, hm, hR⟩, hb⟩,
   fun c hc => by rw [hf] at hc; cases hc⟩
theorem spp_lfireE {H : Hp} {pe pl : Addr} {es : List Nat} {plan : List (Option Int)} {c : Nat} (he : SqL K H pe (vi es)) (up : ∀ (k v : Nat), es[k]? = some v → v ≤ k) (h13 : es.length ≤ 13) (hp : SqL K H pl (plan.map oV)) (hl : plan.length ≤ 1000) (hf : Fm.fire es plan = .error c) :
    SpP (spLFire K) [.ref pe, .ref pl] H (fun v H2 => ∃ t, v = .ref t ∧ H2 t = some (.tup [.non, .int (c : Int)])) := fun H1 e Q q E =>
  ⟨pe, pl, es, plan, rfl, ex_l e he, up, h13, ex_l e hp, hl, fun r1 b1 s1 hf1 => (by rw [hf] at hf1; cases hf1), fun c' hc => by rw [hf] at hc; cases hc; exact q⟩
theorem has_lfire (B : Bi mg) (D : At K mg "_law_fire" s__law_fire p__law_fire) : Has P w K mg base CX0 "_law_fire" p__law_fire 1 (spLFire K) := D.has fun f fd F => by
  refine F.ok sc__law_fire (fun vs H Q E h => ?_) (fun cdv A outer s H vs Q E hr h => ?_)
  · obtain ⟨pe, pl, es, plan, rfl, _⟩ := h
    rfl
  · obtain ⟨pe, pl, es, plan, rfl, he, up, h13, hpl, hlen, kQ, kE⟩ := h
    refine ⟨_, (pss_cons (ps_set (i := 2) sc__law_fire.nd rfl (Or.inl rfl) (pe_lst (pa_cons pe_int pa_nil)))
      (pss_cons (ps_set (i := 3) sc__law_fire.nd rfl (Or.inl rfl) (pe_lst pa_nil))
      (pss_cons (ps_set (i := 4) sc__law_fire.nd rfl (Or.inl rfl) (pe_lst (pa_cons (pe_lst (pa_cons pe_int pa_nil)) pa_nil)))
      (pss_cons (ps_for PassesOwn.never rfl (pi_range1 (by rfl) B.range (pa_cons (pe_op op_add (pe_op op_add (pe_callB (call_lenK (K := K)) (by rfl) B.len PySem.boot_len (pa_cons (pv 1) pa_nil)) (pe_callB (call_lenK (K := K)) (by rfl) B.len PySem.boot_len (pa_cons (pv 0) pa_nil))) pe_int) pa_nil)) (pg_name (i := 5) sc__law_fire.nd rfl (Or.inl rfl)) (pss_cut (ps_if (PW.pt (pw_and (pt_cmpR op_lt (pv 5) (pe_callB (call_lenK (K := K)) (by rfl) B.len PySem.boot_len (pa_cons (pv 1) pa_nil)) (nomark _)) (pw_and1 (pt_cmpR op_notN (pe_ix (ix_listK (K := K)) (pv 1) (pv 5) (fun _ _ => rfl)) pe_non (nomark _))))) (pss_cons (ps_if (pt_not (pt_chain op_le op_le pe_int (pe_ix (ix_listK (K := K)) (pv 1) (pv 5) (fun _ _ => rfl)) (pe_callB (call_lenK (K := K)) (by rfl) B.len PySem.boot_len (pa_cons (pv 0) pa_nil)))) (pss_one (ps_ret (pe_tup (pa_cons pe_non (pa_cons pe_int pa_nil))))) pss_nil)
          (pss_cons (ps_if (PW.pt (pw_or (pt_cmpR (op_inK (K := K)) (pe_ix (ix_listK (K := K)) (pv 1) (pv 5) (fun _ _ => rfl)) (pv 2) (by with_unfolding_all rfl)) (pw_or1 (pt_cmpR (op_inK (K := K)) (pe_ix (ix_listK (K := K)) (pv 1) (pv 5) (fun _ _ => rfl)) (pv 3) (by with_unfolding_all rfl))))) (pss_one (ps_ret (pe_tup (pa_cons pe_non (pa_cons pe_int pa_nil))))) pss_nil)
          (pss_one (ps_expr (pe_bm PySem.F.plainAttrs_list PySem.F.slot_list_append PySem.F.type_list_append mt_append (pv 3) (pa_cons (pe_ix (ix_listK (K := K)) (pv 1) (pv 5) (fun _ _ => rfl)) pa_nil)))))) pss_nil)
        (pss_cons (ps_set (i := 6) sc__law_fire.nd rfl (Or.inr rfl) (pe_callTy (call_listK (K := K)) (by rfl) B.list (by decide +kernel) (pa_cons (pv 2) pa_nil)))
        (pss_cons (ps_for PassesOwn.never rfl (pi_range2 (by rfl) B.range (pa_cons pe_int (pa_cons (pe_op op_add (pe_callB (call_lenK (K := K)) (by rfl) B.len PySem.boot_len (pa_cons (pv 0) pa_nil)) pe_int) pa_nil))) (pg_name (i := 7) sc__law_fire.nd rfl (Or.inl rfl)) (pss_one (ps_if (PW.pt (pw_and (pt_cmpR (op_inK (K := K)) (pe_ix (ix_listK (K := K)) (pv 0) (pe_op op_sub (pv 7) pe_int) (fun _ _ => rfl)) (pv 6) (by with_unfolding_all rfl)) (pw_and (pt_cmpR (op_notInK (K := K)) (pv 7) (pv 6) (by with_unfolding_all rfl)) (pw_and1 (pt_cmpR (op_notInK (K := K)) (pv 7) (pv 3) (by with_unfolding_all rfl)))))) (pss_one (ps_expr (pe_bm PySem.F.plainAttrs_list PySem.F.slot_list_append PySem.F.type_list_append mt_append (pv 2) (pa_cons (pv 7) pa_nil)))) pss_nil)))
        (pss_one (ps_expr (pe_bm PySem.F.plainAttrs_list PySem.F.slot_list_append PySem.F.type_list_append mt_append (pv 4) (pa_cons (pe_lc (own := [("thing", 7)]) (g := gName 7) rfl sc__law_fire.nd (pi_list (pv 2)) (blkOk_by (own := [("thing", 7)]) (N := n__law_fire) (sc := defScope s__law_fire) (by decide +kernel)) (fun _ _ _ _ _ => pg_name (i := 7) sc__law_fire.nd rfl (Or.inl rfl)) (fun _ _ _ _ _ => pts_one (pt_cmpR (op_notInK (K := K)) (pv 7) (pv 6) (by with_unfolding_all rfl))) (fun _ _ _ _ _ => (pv 7))) pa_nil))))))))
      (pss_cons (ps_while PassesOwn.never (pt_cmpR (op_eqDK (K := K) hr.units) (pe_ix (ix_listK (K := K)) (pv 4) (pe_un un_neg pe_int) (fun _ _ => rfl)) (pe_lst pa_nil) (nomark _)) (pss_one (ps_expr (pe_bm0 PySem.F.plainAttrs_list PySem.F.slot_list_pop PySem.F.type_list_pop mt_pop (pv 4)))))
      (pss_one (ps_ret (pe_tup (pa_cons (pv 4) (pa_cons (pv 2) pa_nil)))))))))), ?_⟩
    refine q_asgL (xs := vi [0]) (el_lst (ea_cons ev_c ea_nil) (by show 1 ≤ 100000; decide)) fun lb H1 nb e1 hb => ?_
    refine q_asgL (el_lst ea_nil (Nat.zero_le _)) fun ls H2 ns e2 hs => ?_
    refine q_asgP (ep_lstL1 (xs := vi [0]) (el_lst (ea_cons ev_c ea_nil) (by show 1 ≤ 100000; decide))) fun v H3 e3 ⟨lr, r0, ev, nr, nr0, nrr, hr3, hr0⟩ => ?_
    subst ev
    have e12 := e1.trans e2
    have e23 := e2.trans e3
    have nsH : ls ≠ lb := (ne_of_none hb ns).symm
    have lsH : H ls = none := fresh_back e1 ns
    have lrH : H lr = none := fresh_back e12 nr
    have r0H : H r0 = none := fresh_back e12 nr0
    have lr_lb : lr ≠ lb := (ne_of_none (e2 _ _ hb) nr).symm
    have lr_ls : lr ≠ ls := (ne_of_none hs nr).symm
    have r0_lb : r0 ≠ lb := (ne_of_none (e2 _ _ hb) nr0).symm
    have r0_ls : r0 ≠ ls := (ne_of_none hs nr0).symm
    refine q_forR1 (n := ((plan.length + (es.length + 1) : Nat) : Int)) (ea_cons (ev_is (ev_op (ev_op (ev_lenS (ev_var rfl) (ex_l (e12.trans e3) hpl)) (ev_lenS (ev_var rfl) (ex_l (e12.trans e3) he)) rv_I0) ev_c rv_I0) (by rw [List.length_map, vi_len]; congr 1)) ea_nil) ⟨by omega, by omega⟩
      (fun i σ' H' => ∃ (r : List (List Nat)) (b s : List Nat) (rs : List Addr) (v5 v6 v7 : Option V), σ' = [some (.ref pe), some (.ref pl), some (.ref lb), some (.ref ls), some (.ref lr), v5, v6, v7] ∧ Ex H H' ∧ Fm.run es plan i = .ok (r, b, s) ∧
        H' lr = some (.lst (rs.map V.ref)) ∧ RowsL H' rs r ∧ H' lb = some (.lst (vi b)) ∧ H' ls = some (.lst (vi s)) ∧ (∀ c, c ∈ rs → H c = none ∧ c ≠ lr ∧ c ≠ lb ∧ c ≠ ls))
      (fun H4 e4 => ⟨[[0]], [0], [], [r0], none, none, none, rfl, (e12.trans e3).trans e4, rfl, e4 _ _ hr3, ⟨e4 _ _ hr0, trivial⟩, e4 _ _ (e23 _ _ hb), e4 _ _ (e3 _ _ hs), fun c hc => by rw [List.mem_singleton.mp hc]; exact ⟨r0H, nrr, r0_lb, r0_ls⟩⟩) ?_ ?_
    · rintro now σ' H' hnow ⟨r, b, s, rs, v5, v6, v7, rfl, e, hrun, hm, hR, hb, hs, hrs⟩
      have g := Fm.good_run hrun
      have gb := g.blen
      refine q_cut (M := fun σ' H6 => ∃ s', σ' = [some (.ref pe), some (.ref pl), some (.ref lb), some (.ref ls), some (.ref lr), some (.int (now : Int)), v6, v7] ∧ Fm.shutStep (es.length + 1) plan[now]? b s = .ok s' ∧ Ex H H6 ∧ H6 lr = some (.lst (rs.map V.ref)) ∧ RowsL H6 rs r ∧ H6 lb = some (.lst (vi b)) ∧ H6 ls = some (.lst (vi s'))) ?_ ?_
      · have tail : ∀ H6, Ex H' H6 → Fm.shutStep (es.length + 1) plan[now]? b s = .ok s → ∃ s', [some (.ref pe), some (.ref pl), some (.ref lb), some (.ref ls), some (.ref lr), some (.int (now : Int)), v6, v7] = [some (.ref pe), some (.ref pl), some (.ref lb), some (.ref ls), some (.ref lr), some (.int (now : Int)), v6, v7] ∧ Fm.shutStep (es.length + 1) plan[now]? b s = .ok s' ∧ Ex H H6 ∧ H6 lr = some (.lst (rs.map V.ref)) ∧ RowsL H6 rs r ∧ H6 lb = some (.lst (vi b)) ∧ H6 ls = some (.lst (vi s')) := fun H6 e6 hs' =>
          ⟨s, rfl, hs', e.trans e6, e6 _ _ hm, hR.mono fun a o _ h => e6 _ _ h, e6 _ _ hb, e6 _ _ hs⟩
        cases hp : plan[now]? with
        | none =>
          have hge : plan.length ≤ now := List.getElem?_eq_none_iff.mp hp
          refine s_when (b := false) (et_is (et_and (a := decide ((now : Int) < (plan.length : Int))) (b := false) (et_test (ev_op (ev_var rfl) (ev_is (ev_lenS (ev_var rfl) (ex_l e hpl)) (by rw [List.length_map])) rv_I0)) fun hc => absurd (of_decide_eq_true hc) (by omega)) (by simp)) (fun h => no h) fun _ H6 e6 => ?_
          have q := tail H6 e6 (Fm.shut_behind hge)
          rw [hp] at q
          exact q
        | some ov =>
          have hlt : now < plan.length := (List.getElem?_eq_some_iff.mp hp).1
          have hat : atI (plan.map oV) (now : Int) = some (oV ov) := at_of (j := now) rfl (oV_get hp)
          have hd : decide ((now : Int) < (plan.length : Int)) = true := decide_eq_true (by omega)
          cases ov with
          | none =>
            refine s_when (b := false) (et_is (et_and (et_test (ev_op (ev_var rfl) (ev_is (ev_lenS (ev_var rfl) (ex_l e hpl)) (by rw [List.length_map])) rv_I0)) fun _ => et_test (ev_opNotN (ev_opIx (ev_var rfl) (ev_var rfl) (ex_l e hpl) hat))) (by rw [hd]; rfl)) (fun h => no h) fun _ H6 e6 => ?_
            have q := tail H6 e6 (by rw [hp]; rfl)
            rw [hp] at q
            exact q
          | some z =>
            refine s_when (b := true) (et_is (et_and (et_test (ev_op (ev_var rfl) (ev_is (ev_lenS (ev_var rfl) (ex_l e hpl)) (by rw [List.length_map])) rv_I0)) fun _ => et_test (ev_opNotN (ev_opIx (ev_var rfl) (ev_var rfl) (ex_l e hpl) hat))) (by rw [hd]; rfl)) (fun _ H6 e6 => ?_) fun h => no' h
            have E6 := e.trans e6
            refine q_when (b := !(decide ((0 : Int) ≤ z) && decide (z ≤ (es.length : Int)))) (et_not (et_test (ev_chain ev_c (ev_opIx (ev_var rfl) (ev_var rfl) (ex_l E6 hpl) hat) (fun _ => ev_is (ev_lenS (ev_var rfl) (ex_l E6 he)) (by rw [vi_len])) rv_I0 (fun _ => rv_I0)))) (fun hbt H7 e7 => ?_) (fun hbt H7 e7 => ?_)
            · -- no thing
              have herr : Fm.shutStep (es.length + 1) plan[now]? b s = .error 1 := by
                rw [hp]
                show (if 0 ≤ z ∧ z < ((es.length + 1 : Nat) : Int) then _ else Except.error 1) = _
                refine if_neg fun ⟨y1, y2⟩ => ?_
                rw [decide_eq_true y1, decide_eq_true (show z ≤ (es.length : Int) by omega)] at hbt
                cases hbt
              refine s_retU (eu_tup (ea_cons ev_c (ea_cons ev_c ea_nil)) (by show 2 ≤ 100000; decide)) fun t H8 nt e8 ht => ?_
              exact kE 1 (Fm.run_fire_error (Fm.run_fail hrun herr) (by omega)) _ H8 ((E6.trans e7).trans e8) ⟨t, rfl, ht⟩
            · simp only [Bool.not_eq_false', Bool.and_eq_true, decide_eq_true_eq] at hbt
              obtain ⟨n, rfl⟩ : ∃ n : Nat, z = (n : Int) := ⟨z.toNat, by omega⟩
              have E7 := E6.trans e7
              have e67 := e6.trans e7
              have hst : Fm.shutStep (es.length + 1) (some (some (n : Int))) b s = if n ∈ b ∨ n ∈ s then .error 2 else .ok (s ++ [n]) := by
                show (if 0 ≤ (n : Int) ∧ (n : Int) < ((es.length + 1 : Nat) : Int) then (if (n : Int).toNat ∈ b ∨ (n : Int).toNat ∈ s then Except.error 2 else .ok (s ++ [(n : Int).toNat])) else .error 1) = _
                rw [if_pos ⟨by omega, by omega⟩, Int.toNat_natCast]
              refine q_when (et_or (et_test (ev_op (ev_opIx (ev_var rfl) (ev_var rfl) (ex_l E7 hpl) hat) (ev_var rfl) (rv_isI (sq_of (e67 _ _ hb))))) fun _ => et_test (ev_op (ev_opIx (ev_var rfl) (ev_var rfl) (ex_l E7 hpl) hat) (ev_var rfl) (rv_isI (sq_of (e67 _ _ hs))))) (fun hbt2 H9 e9 => ?_) (fun hbt2 H9 e9 => ?_)
              · have hin : n ∈ b ∨ n ∈ s := by simpa using hbt2
                have herr : Fm.shutStep (es.length + 1) plan[now]? b s = .error 2 := by rw [hp, hst, if_pos hin]
                refine s_retU (eu_tup (ea_cons ev_c (ea_cons ev_c ea_nil)) (by show 2 ≤ 100000; decide)) fun t H8 nt e8 ht => ?_
                exact kE 2 (Fm.run_fire_error (Fm.run_fail hrun herr) (by omega)) _ H8 ((E7.trans e9).trans e8) ⟨t, rfl, ht⟩
              · obtain ⟨y1, y2⟩ := bool_or_false hbt2
                have hin : ¬ (n ∈ b ∨ n ∈ s) := fun h => by
                  rcases h with h | h
                  · exact of_decide_eq_false y1 h
                  · exact of_decide_eq_false y2 h
                have e69 := e67.trans e9
                have hsl := g.sln
                refine s_app (e69 _ _ hs) (ev_var rfl) (ev_opIx (ev_var rfl) (ev_var rfl) (ex_l (E7.trans e9) hpl) hat) (by rw [vi_len]; omega) fun H10 e10 => ?_
                have e610 := e69.trans e10
                refine ⟨s ++ [n], rfl, by rw [hst, if_neg hin], Ex.mut ((E7.trans e9).trans e10) lsH, ?_, ?_, ?_, ?_⟩
                · rw [upd_ne lr_ls]; exact e610 _ _ hm
                · exact hR.mono fun c ob hc h => by rw [upd_ne (hrs c hc).2.2.2]; exact e610 _ _ h
                · rw [upd_ne nsH.symm]; exact e610 _ _ hb
                · rw [upd_same, vi_app]; rfl
      · rintro σ6 H6 ⟨s', rfl, hst, E6, hm6, hR6, hb6, hs6⟩
        have hrun' := Fm.run_step hrun hst
        have g' := Fm.good_run hrun'
        have gb' := g'.blen
        -- ahead = list(burning)
        refine q_asgL (el_listS (ev_var rfl) (sq_of hb6)) fun la H7 na e7 ha => ?_
        have naH : H la = none := fresh_back E6 na
        have E7 := E6.trans e7
        have la_lb : la ≠ lb := (ne_of_none hb6 na).symm
        refine q_forR2 (lo := 1) (n := ((es.length + 1 : Nat) : Int)) (ea_cons ev_c (ea_cons (ev_is (ev_op (ev_lenS (ev_var rfl) (ex_l E7 he)) ev_c rv_I0) (by rw [vi_len]; rfl)) ea_nil)) ⟨by omega, by omega, by omega, by omega⟩
          (fun i σ' H' => ∃ v7, σ' = [some (.ref pe), some (.ref pl), some (.ref lb), some (.ref ls), some (.ref lr), some (.int (now : Int)), some (.ref la), v7] ∧ Ex H H' ∧ (∀ c ob, c ≠ lb → H7 c = some ob → H' c = some ob) ∧ H' lb = some (.lst (vi (b ++ Fm.freshTo es b s' i))))
          (fun H8 e8 => ⟨v7, rfl, E7.trans e8, fun c ob _ h => e8 _ _ h, by rw [show Fm.freshTo es b s' 0 = [] from rfl, List.append_nil]; exact e8 _ _ (e7 _ _ hb6)⟩) ?_ ?_
        · rintro i σ' H' hi ⟨w7, rfl, EE, kk, hL⟩
          have ei : (1 : Int) + (i : Int) = ((i + 1 : Nat) : Int) := by omega
          rw [ei]
          have hA := kk _ _ la_lb ha
          have hS' := kk _ _ nsH (e7 _ _ hs6)
          refine s_when (et_and (et_test (ev_op (ev_opIx (ev_var rfl) (ev_op (ev_var rfl) ev_c rv_I0) (ex_l EE he) (vi_at (j := i) (by omega) (Fm.eld_get (t := i + 1) (by omega) (by omega)))) (ev_var rfl) (rv_isI (sq_of hA)))) fun _ => et_and (et_test (ev_op (ev_var rfl) (ev_var rfl) (rv_niI (sq_of hA)))) fun _ => et_test (ev_op (ev_var rfl) (ev_var rfl) (rv_niI (sq_of hS')))) (fun hb7 H8 e8 => ?_) (fun hb7 H8 e8 => ?_)
          · refine s_app (e8 _ _ hL) (ev_var rfl) (ev_var rfl) (by rw [vi_len, List.length_append]; have := Fm.freshTo_len es b s' i; omega) fun H9 e9 => ⟨_, rfl, Ex.mut ((EE.trans e8).trans e9) (fresh_back (Ex.refl H) nb), fun c ob hc h => by rw [upd_ne hc]; exact e9 _ _ (e8 _ _ (kk c ob hc h)), ?_⟩
            rw [upd_same, Fm.freshTo_succ, if_pos (by rw [Bool.and_assoc]; exact hb7), ← List.append_assoc, vi_app (b ++ _)]
            rfl
          · refine ⟨_, rfl, EE.trans e8, fun c ob hc h => e8 _ _ (kk c ob hc h), ?_⟩
            rw [Fm.freshTo_succ, if_neg (by rw [Bool.and_assoc, hb7]; decide)]
            exact e8 _ _ hL
        · rintro σ' H' ⟨w7, rfl, EE, kk, hL⟩
          rw [show (((es.length + 1 : Nat) : Int) - 1).toNat = es.length by omega] at hL
          have hL : H' lb = some (.lst (vi (b ++ Fm.fresh es b s'))) := hL
          have hA := kk _ _ la_lb ha
          have rl : rs.length = now + 1 := by rw [hR.len, g.len]
          have hm7 := kk _ _ lr_lb (e7 _ _ hm6)
          refine s_appL (ys := vi (Fm.fresh es b s')) hm7 (ev_var rfl) (el_is (el_lcLf (fun n => !decide (n ∈ b)) (ev_var rfl) (sq_of hL) (by omega) (fun x => rfl) (fun n H8 e8 hn => et_test (ev_op (ev_var rfl) (ev_var rfl) (rv_niI (sq_of (e8 _ _ hA))))) (fun n H8 e8 hn _ => ev_var rfl)) (by rw [filter_fresh])) (by rw [List.length_map]; omega) fun lf H8 nf e8 hf => ?_
          have k8 : ∀ c ob, c ≠ lr → H' c = some ob → (upd H8 lr (.lst (rs.map V.ref ++ [.ref lf]))) c = some ob := fun c ob hc h => by rw [upd_ne hc]; exact e8 _ _ h
          have lf_lr : lf ≠ lr := (ne_of_none hm7 nf).symm
          have lf_lb : lf ≠ lb := (ne_of_none hL nf).symm
          have hs7 := kk _ _ nsH (e7 _ _ hs6)
          have lf_ls : lf ≠ ls := (ne_of_none hs7 nf).symm
          refine ⟨_, _, _, rs ++ [lf], _, _, _, rfl, Ex.mut (EE.trans e8) lrH, hrun', ?_, ?_, k8 _ _ lr_lb.symm hL, k8 _ _ lr_ls.symm hs7, fun c hc => ?_⟩
          · rw [upd_same, List.map_append]; rfl
          · refine RowsL.snoc (by rw [upd_ne lf_lr]; exact hf) (hR6.mono fun c ob hc h => k8 _ _ (hrs c hc).2.1 (kk _ _ (hrs c hc).2.2.1 (e7 _ _ h)))
          · rcases List.mem_append.mp hc with hc | hc
            · exact hrs c hc
            · rw [List.mem_singleton.mp hc]
              exact ⟨fresh_back EE nf, lf_lr, lf_lb, lf_ls⟩
    · rintro σ' H' ⟨r, b, s, rs, v5, v6, v7, rfl, e, hrun, hm, hR, hb, hs, hrs⟩
      rw [Int.toNat_natCast] at hrun
      have hfire : Fm.fire es plan = .ok (r, b, s) := hrun
      have g := Fm.good_run hrun
      have hne := Fm.trim_ne g.head
      refine q_while (fun m σ' H' => ∃ (r2 : List (List Nat)) (rs : List Addr), σ' = [some (.ref pe), some (.ref pl), some (.ref lb), some (.ref ls), some (.ref lr), v5, v6, v7] ∧ Ex H H' ∧ H' lr = some (.lst (rs.map V.ref)) ∧ RowsL H' rs r2 ∧ H' lb = some (.lst (vi b)) ∧ (∀ c, c ∈ rs → H c = none ∧ c ≠ lr) ∧ Fm.trim r2 = Fm.trim r ∧ m = r2.length) r.length ⟨r, rs, rfl, e, hm, hR, hb, fun c hc => ⟨(hrs c hc).1, (hrs c hc).2.1⟩, rfl, rfl⟩ ?_
      rintro m σ' H' ⟨r2, rs, rfl, e, hm, hR, hb, hrs, htr2, rfl⟩
      have hr2 : r2 ≠ [] := fun h => hne (by rw [← htr2, h]; rfl)
      obtain ⟨x, hx⟩ : ∃ x, r2.getLast? = some x := ⟨_, List.getLast?_eq_some_getLast hr2⟩
      refine ⟨decide (x = []), et_test (ev_eqLast (ev_var rfl) (ev_un ev_c ru_neg) hm hR hx), fun hbt H2 e2 => ⟨fun σ2 H2 => ∃ m', m' < r2.length ∧ _, fun _ _ h => h, ?_⟩, fun hbt H2 e2 => ?_⟩
      · have hx0 : x = [] := of_decide_eq_true hbt
        subst hx0
        obtain ⟨ra, hra, hra2, _⟩ := hR.get (last_idx hx)
        rw [← hR.len] at hra
        refine s_pop (y := .ref ra) (e2 _ _ hm) (by rw [List.length_map, List.getElem?_map, hra]; rfl) (ev_var rfl) fun H3 e3 => ?_
        have hl := getLast_dropLast hx
        have hpos : 0 < r2.length := List.length_pos_iff.mpr hr2
        refine ⟨r2.dropLast.length, by rw [List.length_dropLast]; omega, r2.dropLast, rs.dropLast, rfl, Ex.mut ((e.trans e2).trans e3) lrH, by rw [upd_same, List.map_dropLast], ?_, ?_, fun c hc => hrs c ((List.dropLast_sublist rs).subset hc), ?_, rfl⟩
        · exact hR.drop.mono fun a ob ha h => by
            rw [upd_ne (hrs a ((List.dropLast_sublist rs).subset ha)).2]
            exact e3 _ _ (e2 _ _ h)
        · rw [upd_ne lr_lb.symm]; exact e3 _ _ (e2 _ _ hb)
        · rw [← htr2]
          conv => rhs; rw [hl]
          rw [Fm.trim_snoc_nil]
      · have hx0 : x ≠ [] := of_decide_eq_false hbt
        have hl := getLast_dropLast hx
        have : Fm.trim r2 = r2 := by
          conv => lhs; rw [hl]
          rw [Fm.trim_snoc _ hx0]
          exact hl.symm
        rw [this] at htr2
        refine s_retU (eu_tup (ea_cons (ev_var rfl) (ea_cons (ev_var rfl) ea_nil)) (by show 2 ≤ 100000; decide)) fun t H3 nt e3 ht => ?_
        have e23 := e2.trans e3
        exact kQ r b s hfire _ H3 (e.trans e23) ⟨t, lr, lb, rfl, ht, ⟨rs, lrH, hrs, e23 _ _ hm, by rw [← htr2]; exact hR.mono fun a ob _ h => e23 _ _ h⟩, e23 _ _ hb⟩
/-! ### _law_saved -/
def spLSaved (K : PySem.W.Frag) : Sp := fun vs H Q _ => ∃ (p pl : Addr) (es ws : List Nat) (plan : List (Option Int)) (r : List (List Nat)) (b s : List Nat), vs = [.ref p, .ref pl] ∧ PlotAt H p es ws ∧ Fm.OkT es ws ∧ SqL K H pl (plan.map oV) ∧ plan.length ≤ 1000 ∧ Fm.fire es plan = .ok (r, b, s) ∧ RetV (.int (Fm.saved ws b : Int)) H Q
theorem spv_lsaved {H : Hp} {p pl : Addr} {es ws : List Nat} {plan : List (Option Int)} {r : List (List Nat)} {b s : List Nat} (h : PlotAt H p es ws) (o : Fm.OkT es ws) (hp : SqL K H pl (plan.map oV)) (hl : plan.length ≤ 1000) (hf : Fm.fire es plan = .ok (r, b, s)) :
    SpV (spLSaved K) [.ref p, .ref pl] H (.int (Fm.saved ws b : Int)) := fun H1 e Q q E => ⟨p, pl, es, ws, plan, r, b, s, rfl, h.mono e, o, ex_l e hp, hl, hf, q⟩
theorem has_lsaved (B : Bi mg) (h_law_fire : Has P w K mg base CX0 "_law_fire" p__law_fire 1 (spLFire K)) (D : At K mg "_law_saved" s__law_saved p__law_saved) : Has P w K mg base CX0 "_law_saved" p__law_saved 2 (spLSaved K) := D.has fun f fd F => by
  refine F.ok sc__law_saved (fun vs H Q E h => ?_) (fun cdv A outer s H vs Q E hr h => ?_)
  · obtain ⟨p, pl, es, ws, plan, r, b, s, rfl, _⟩ := h
    rfl
  · obtain ⟨p, pl, es, ws, plan, r, b, s, rfl, hP, o, hpl, hlen, hf, q⟩ := h
    obtain ⟨pe, pw, hp, hpe, hpw⟩ := id hP
    have ol := o.len
    have om := o.most
    refine ⟨_, (pss_cons (ps_set (i := 2) sc__law_saved.nd rfl (Or.inr rfl) (pe_ix (ix_tupK (K := K)) (h_law_fire.call (hr.mono (by decide)) (by rfl) pass0 (pa_cons (pe_ix (ix_tupK (K := K)) (pv 0) pe_int (fun _ _ => rfl)) (pa_cons (pv 1) pa_nil))) pe_int (fun _ _ => rfl)))
      (pss_one (ps_ret (pe_callB (cr_sumK (K := K) rfl) (by rfl) B.sum (by decide +kernel) (pa_cons (pe_lc (own := [("thing", 3)]) (g := gName 3) rfl sc__law_saved.nd (pi_range1 (by rfl) B.range (pa_cons (pe_callB (call_lenK (K := K)) (by rfl) B.len PySem.boot_len (pa_cons (pe_ix (ix_tupK (K := K)) (pv 0) pe_int (fun _ _ => rfl)) pa_nil)) pa_nil)) (blkOk_by (own := [("thing", 3)]) (N := n__law_saved) (sc := defScope s__law_saved) (by decide +kernel)) (fun _ _ _ _ _ => pg_name (i := 3) sc__law_saved.nd rfl (Or.inl rfl)) (fun _ _ _ _ _ => pts_one (pt_cmpR (op_notInK (K := K)) (pv 3) (pv 2) (by with_unfolding_all rfl))) (fun _ _ _ _ _ => (pe_ix (ix_listK (K := K)) (pe_ix (ix_tupK (K := K)) (pv 0) pe_int (fun _ _ => rfl)) (pv 3) (fun _ _ => rfl)))) pa_nil))))), ?_⟩
    refine q_asgP (ep_ixT (P' := fun v H2 => ∃ lb, v = .ref lb ∧ H2 lb = some (.lst (vi b))) (ep_call0 (ea_cons (ev_opIxT (ev_var rfl) ev_c (st_of hp) rfl) (ea_cons (ev_var rfl) ea_nil)) (spp_lfire (sq_of hpe) o.up (by omega) hpl hlen hf)) ev_c fun v H2 H3 e2 e3 ⟨t, lm, lb, ev, ht, _, hb⟩ => ⟨t, _, .ref lb, ev, st_of (e3 _ _ ht), rfl, lb, rfl, e3 _ _ hb⟩) fun v H1 e1 ⟨lb, ev, hb⟩ => ?_
    subst ev
    refine s_ret (ev_sumN (el_lcR1f (n := ws.length) (fun t => !decide (t ∈ b)) (fun t => ws.getD t 0) (ea_cons (ev_is (ev_lenS (ev_opIxT (ev_var rfl) ev_c (st_of (e1 _ _ hp)) rfl) (sq_of (e1 _ _ hpw))) (by rw [vi_len])) ea_nil) (by omega) (fun x => rfl) (fun i H2 e2 hi => ?_) (fun i H2 e2 hi _ => ?_))) fun H2 e2 => q H2 (e1.trans e2)
    · exact et_test (ev_op (ev_var rfl) (ev_var rfl) (rv_niI (sq_of (e2 _ _ hb))))
    · have E2 := e1.trans e2
      exact ev_opIx (ev_opIxT (ev_var rfl) ev_c (st_of (E2 _ _ hp)) rfl) (ev_var rfl) (sq_of (E2 _ _ hpw)) (vi_at rfl (by rw [List.getD_eq_getElem?_getD, List.getElem?_eq_getElem hi]; rfl))
end
end Fi
/-! _law_alone: which of the four an error is. -/
namespace Fi
open PySem L2 Evl
theorem kit_ref {K : PySem.W.Frag} {D C : Addr} {b : Bool} (i : PySem.W.isClsIn K C = true) (t : PySem.W.typeIn K (.ref C) = some (.type "type")) (s : PySem.W.subIn K (.ref D) (.ref C) = some b) (self : PySem.W.subIn K (.ref D) (.ref D) = some true) : PySem.W.kitOne K (.ref D) (.ref C) = some b := by
  unfold PySem.W.kitOne
  split
  · rename_i h
    have e : D = C := Value.ref.inj (beq_iff_eq.mp h)
    subst e
    rw [self] at s
    exact s
  · unfold PySem.W.kitCls
    have i' : (PySem.W.clsIn K C).isSome = true := i
    simp only [i', t]
    rw [if_pos (by rfl)]
    exact s
theorem kit_ve {K : PySem.W.Frag} {D : Addr} {b : Bool} (s : PySem.W.subIn K (.ref D) (.type "ValueError") = some b) : PySem.W.kitOne K (.ref D) (.type "ValueError") = some b := by
  unfold PySem.W.kitOne
  rw [if_neg (by intro h; cases beq_iff_eq.mp h)]
  unfold PySem.W.kitCls
  simp only
  rw [if_pos (by decide +kernel)]
  exact s
/-- the four classes of refusals, and what is above them -/
structure Cs where
  fire : Addr
  bad : Addr
  no : Addr
  plan : Addr
  text : Addr
/-- the class D is the j-th of the four alone -/
structure Alone (K : PySem.W.Frag) (c : Cs) (D : Addr) (j : Nat) : Prop where
  lt : j < 4
  ex : ExcC K D
  k0 : PySem.W.kitOne K (.ref D) (.ref c.bad) = some (j == 0)
  k1 : PySem.W.kitOne K (.ref D) (.ref c.no) = some (j == 1)
  k2 : PySem.W.kitOne K (.ref D) (.ref c.plan) = some (j == 2)
  k3 : PySem.W.kitOne K (.ref D) (.ref c.text) = some (j == 3)
  kf : PySem.W.kitOne K (.ref D) (.ref c.fire) = some true
  kv : PySem.W.kitOne K (.ref D) (.type "ValueError") = some true
structure Gs (mg : Str → Option Value) (c : Cs) : Prop where
  fire : mg "FireError" = some (.ref c.fire)
  bad : mg "BadTree" = some (.ref c.bad)
  no : mg "NoThing" = some (.ref c.no)
  plan : mg "BadPlan" = some (.ref c.plan)
  text : mg "NoText" = some (.ref c.text)
section
variable {P : Program} {w : World} {K : PySem.W.Frag} {mg : Str → Option Value} {base : Heap}
def spAlone (K : PySem.W.Frag) (c : Cs) : Sp := fun vs H Q _ => ∃ (a D : Addr) (j : Nat), vs = [.ref a] ∧ H a = some (ExV (.ref D) a) ∧ Alone K c D j ∧ RetV (.int (j : Int)) H Q
theorem spv_alone {c : Cs} {H : Hp} {a D : Addr} {j : Nat} (h : H a = some (ExV (.ref D) a)) (A : Alone K c D j) : SpV (spAlone K c) [.ref a] H (.int (j : Int)) := fun H1 e Q q E => ⟨a, D, j, rfl, e _ _ h, A, q⟩
theorem rc_isV {H : Hp} {a D : Addr} {cc : V} {u : Value} {b : Bool} (h : H a = some (ExV (.ref D) a)) (x : ExcC K D) (hu : ClsV cc u) (k : PySem.W.kitOne K (.ref D) u = some b) : RC (rIsV K) [.ref a, cc] H (.bl b) := fun H1 e Q q => ⟨a, D, cc, u, b, rfl, e _ _ h, x, hu, k, q H1 (Ex.refl H1)⟩
theorem has_alone (B : Bi mg) {c : Cs} (G : Gs mg c) (D : At K mg "_law_alone" s__law_alone p__law_alone) : Has P w K mg base CX0 "_law_alone" p__law_alone 1 (spAlone K c) := D.has fun f fd F => by
  refine F.ok sc__law_alone (fun vs H Q E h => ?_) (fun cdv A outer s H vs Q E hr h => ?_)
  · obtain ⟨a, D, j, rfl, _⟩ := h
    rfl
  · obtain ⟨a, D, j, rfl, ha, AL, q⟩ := h
    have g_BadTree := G.bad
    have g_NoThing := G.no
    have g_BadPlan := G.plan
    have g_NoText := G.text
    have g_FireError := G.fire
    have lt := AL.lt
    refine ⟨_, (pss_cons (ps_set (i := 1) sc__law_alone.nd rfl (Or.inl rfl) (pe_lst (pa_cons (pe_callB (call_isV (K := K)) (by rfl) B.isinstance (by decide +kernel) (pa_cons (pv 0) (pa_cons (pe_gcls (by rfl) g_BadTree) pa_nil))) (pa_cons (pe_callB (call_isV (K := K)) (by rfl) B.isinstance (by decide +kernel) (pa_cons (pv 0) (pa_cons (pe_gcls (by rfl) g_NoThing) pa_nil))) (pa_cons (pe_callB (call_isV (K := K)) (by rfl) B.isinstance (by decide +kernel) (pa_cons (pv 0) (pa_cons (pe_gcls (by rfl) g_BadPlan) pa_nil))) (pa_cons (pe_callB (call_isV (K := K)) (by rfl) B.isinstance (by decide +kernel) (pa_cons (pv 0) (pa_cons (pe_gcls (by rfl) g_NoText) pa_nil))) pa_nil))))))
      (pss_cons (ps_if (PW.pt (pw_or (pt_not (pt_val (pe_callB (call_isV (K := K)) (by rfl) B.isinstance (by decide +kernel) (pa_cons (pv 0) (pa_cons (pe_gcls (by rfl) g_FireError) pa_nil))))) (pw_or (pt_not (pt_val (pe_callB (call_isV (K := K)) (by rfl) B.isinstance (by decide +kernel) (pa_cons (pv 0) (pa_cons (pe_bltn (v := .ty "ValueError") (u := .type "ValueError") (by rfl) B.ValueError (by decide +kernel) rfl) pa_nil))))) (pw_or1 (pt_cmpR op_ne (pe_bm PySem.F.plainAttrs_list PySem.F.slot_list_count PySem.F.type_list_count (mt_countB (K := K) hr.units) (pv 1) (pa_cons pe_bl pa_nil)) pe_int (nomark _)))))) (pss_one (ps_ret (pe_un un_neg pe_int))) pss_nil)
      (pss_one (ps_ret (pe_bm PySem.F.plainAttrs_list PySem.F.slot_list_index PySem.F.type_list_index (mt_indexK (K := K)) (pv 1) (pa_cons pe_bl pa_nil)))))), ?_⟩
    refine q_asgL (xs := [j == 0, j == 1, j == 2, j == 3].map V.bl) (el_lst (ea_cons (ev_cb (ea_cons (ev_var rfl) (ea_cons ev_c ea_nil)) (rc_isV ha AL.ex (.own _) AL.k0)) (ea_cons (ev_cb (ea_cons (ev_var rfl) (ea_cons ev_c ea_nil)) (rc_isV ha AL.ex (.own _) AL.k1)) (ea_cons (ev_cb (ea_cons (ev_var rfl) (ea_cons ev_c ea_nil)) (rc_isV ha AL.ex (.own _) AL.k2)) (ea_cons (ev_cb (ea_cons (ev_var rfl) (ea_cons ev_c ea_nil)) (rc_isV ha AL.ex (.own _) AL.k3)) ea_nil)))) (by show 4 ≤ 100000; decide)) fun l H1 nl e1 hl => ?_
    have cnt : ([j == 0, j == 1, j == 2, j == 3].countP id : Nat) = 1 := by
      have : j = 0 ∨ j = 1 ∨ j = 2 ∨ j = 3 := by omega
      rcases this with rfl | rfl | rfl | rfl <;> rfl
    have evc : ∀ H2, Ex H1 H2 → Ev (tBM K "list" (rCntB K) (tVar 1) (tCons (tC (.bl true)) tNil)) [some (.ref a), some (.ref l)] H2 (.int 1) := fun H2 e2 H3 e3 Q' k' => by
      have h3 := e3 _ _ (e2 _ _ hl)
      refine ⟨.ref l, rfl, .inl ⟨rfl, _, sq_of h3⟩, ?_⟩
      refine ⟨l, [j == 0, j == 1, j == 2, j == 3], rfl, rfl, sq_of h3, ?_⟩
      rw [cnt]
      exact k' H3 (Ex.refl H3)
    refine q_when (b := false) (et_or (a := false) (b := false) (et_not (a := true) (et_B (ev_cb (ea_cons (ev_var rfl) (ea_cons ev_c ea_nil)) (rc_isV (e1 _ _ ha) AL.ex (.own _) AL.kf)))) fun _ => et_or (a := false) (b := false) (et_not (a := true) (et_B (ev_cb (ea_cons (ev_var rfl) (ea_cons ev_c ea_nil)) (rc_isV (e1 _ _ ha) AL.ex (.ty _) AL.kv))))
      fun _ => et_test (ev_is (ev_op (evc H1 (Ex.refl H1)) ev_c (rv_ne rfl)) (by rw [decide_eq_true rfl]; rfl))) (fun h => no h) fun _ H2 e2 => ?_
    have h2 := e2 _ _ hl
    refine ⟨.ref l, rfl, .inl ⟨rfl, _, sq_of h2⟩, ?_⟩
    refine ⟨l, [j == 0, j == 1, j == 2, j == 3].map V.bl, .bl true, j, .bl true, rfl, rfl, sq_of h2, rfl, by simp [flatV], ?_, rfl, ?_, q H2 (e1.trans e2)⟩
    · have : j = 0 ∨ j = 1 ∨ j = 2 ∨ j = 3 := by omega
      rcases this with rfl | rfl | rfl | rfl <;> rfl
    · intro m z hm hz
      have : j = 0 ∨ j = 1 ∨ j = 2 ∨ j = 3 := by omega
      rcases this with rfl | rfl | rfl | rfl
      · omega
      · have : m = 0 := by omega
        subst this
        cases hz
        rfl
      · have : m = 0 ∨ m = 1 := by omega
        rcases this with rfl | rfl <;> (cases hz; rfl)
      · have : m = 0 ∨ m = 1 ∨ m = 2 := by omega
        rcases this with rfl | rfl | rfl <;> (cases hz; rfl)
end
end Fi
/-! _law_plan: some plan. -/
namespace Fi
open PySem L2 Evl
theorem two2 {w a b : Int} (h0 : 0 ≤ w) (h1 : w < 2) : atI [V.int a, V.int b] w = some (V.int (if w = 0 then a else b)) := by
  have : w = 0 ∨ w = 1 := by omega
  rcases this with rfl | rfl <;> rfl
/-- [n for n in range(a, b) if t] -/
theorem el_lcR2f {σ : L2.St} {H : Hp} {t : TT} {te : TE} {tA : TA} {j : Nat} {vs : List Nat} {lo n : Nat} (f : Nat → Bool) (h : EvA tA σ H [.int (lo : Int), .int ((lo + n : Nat) : Int)]) (hn : lo + n ≤ 40000) (hw : ∀ x, wipe ((wipe σ vs).set j (some x)) vs = wipe σ vs)
    (ht : ∀ (i : Nat) H1, Ex H H1 → i < n → EvT t ((wipe σ vs).set j (some (.int ((lo + i : Nat) : Int)))) H1 (f (lo + i))) (he : ∀ (i : Nat) H1, Ex H H1 → i < n → f (lo + i) = true → Ev te ((wipe σ vs).set j (some (.int ((lo + i : Nat) : Int)))) H1 (.int ((lo + i : Nat) : Int))) :
    EvL (tLc (iRng2 tA) (gName j) t te vs) σ H (vi ((List.range' lo n).filter f)) := fun H0 e Q q => h H0 e _ fun H1 e1 => ⟨(lo : Int), ((lo + n : Nat) : Int), rfl, ⟨by omega, by omega, by omega, by omega⟩, fun Dl hD => by
  rw [show (((lo + n : Nat) : Int) - (lo : Int)).toNat = n by omega]
  refine lc_range (lo := (lo : Int)) (n := n) (fun i H' => H1 Dl = none ∧ Ex H1 H' ∧ H' Dl = some (.lst (vi ((List.range' lo i).filter f)))) ⟨hD, Ex.new hD, upd_same⟩ (fun i H' hi p => ?_) (fun H' p => q Dl H' (fresh_back e1 p.1) (e1.trans p.2.1) p.2.2)
  obtain ⟨p1, p2, p3⟩ := p
  rw [show (lo : Int) + (i : Int) = ((lo + i : Nat) : Int) by omega]
  refine ⟨hw _, ht i H' ((e.trans e1).trans p2) hi H' (Ex.refl H') _ fun H3 e3 => ?_⟩
  have len : ((List.range' lo i).filter f).length ≤ i := by
    have := List.length_filter_le f (List.range' lo i)
    rw [List.length_range'] at this
    exact this
  cases hf : f (lo + i) with
  | true =>
    show te _ H3 fun y H4 => ∃ acc, H4 Dl = some (.lst acc) ∧ acc.length < sizeLine ∧ _
    refine he i H3 (((e.trans e1).trans p2).trans e3) hi hf H3 (Ex.refl H3) _ fun H4 e4 => ⟨_, e4 _ _ (e3 _ _ p3), sz_lt (by rw [vi_len]; omega), p1, Ex.mut ((p2.trans e3).trans e4) p1, ?_⟩
    rw [upd_same, List.range'_concat, List.filter_append, List.filter_cons, show lo + 1 * i = lo + i by omega, if_pos hf, vi_app]
    rfl
  | false =>
    show H1 Dl = none ∧ Ex H1 H3 ∧ _
    refine ⟨p1, p2.trans e3, ?_⟩
    rw [List.range'_concat, List.filter_append, List.filter_cons, show lo + 1 * i = lo + i by omega, if_neg (by rw [hf]; decide)]
    rw [List.filter_nil, List.append_nil]
    exact e3 _ _ p3⟩
section
variable {P : Program} {w : World} {K : PySem.W.Frag} {mg : Str → Option Value} {base : Heap}
def spLPlan (K : PySem.W.Frag) : Sp := fun vs H Q _ => ∃ (a pe : Addr) (ns : List Int) (es : List Nat), vs = [.ref a, .ref pe] ∧ SqL K H a (ns.map V.int) ∧ SqL K H pe (vi es) ∧ (∀ (k v : Nat), es[k]? = some v → v ≤ k) ∧ es.length ≤ 13 ∧
  RetP (fun v H2 => ∃ (p : Addr) (plan : List (Option Int)), v = .ref p ∧ H2 p = some (.lst (plan.map oV)) ∧ plan.length ≤ 14) H Q
theorem spp_lplan {H : Hp} {a pe : Addr} {ns : List Int} {es : List Nat} (hS : SqL K H a (ns.map V.int)) (he : SqL K H pe (vi es)) (up : ∀ (k v : Nat), es[k]? = some v → v ≤ k) (h13 : es.length ≤ 13) :
    SpP (spLPlan K) [.ref a, .ref pe] H (fun v H2 => ∃ (p : Addr) (plan : List (Option Int)), v = .ref p ∧ H2 p = some (.lst (plan.map oV)) ∧ plan.length ≤ 14) := fun H1 e Q q E => ⟨a, pe, ns, es, rfl, ex_l e hS, ex_l e he, up, h13, q⟩
theorem has_lplan (B : Bi mg) (h_law_draw : Has P w K mg base CX0 "_law_draw" p__law_draw 2 (spDraw K)) (h_law_depth : Has P w K mg base CX0 "_law_depth" p__law_depth 1 (spLDepth K)) (D : At K mg "_law_plan" s__law_plan p__law_plan) :
    Has P w K mg base CX0 "_law_plan" p__law_plan 3 (spLPlan K) := D.has fun f fd F => by
  refine F.ok sc__law_plan (fun vs H Q E h => ?_) (fun cdv A outer s H vs Q E hr h => ?_)
  · obtain ⟨a, pe, ns, es, rfl, _⟩ := h
    rfl
  · obtain ⟨a, pe, ns, es, rfl, hS, he, up, h13, q⟩ := h
    refine ⟨_, (pss_cons (ps_set (i := 2) sc__law_plan.nd rfl (Or.inl rfl) (pe_lst pa_nil))
      (pss_cons (ps_for PassesOwn.never rfl (pi_range1 (by rfl) B.range (pa_cons (pe_op op_mod (h_law_draw.call (hr.mono (by decide)) (by rfl) pass0 (pa_cons (pv 0) (pa_cons pe_int pa_nil))) pe_int) pa_nil)) (pg_name (i := 3) sc__law_plan.nd rfl (Or.inr rfl)) (pss_cons (ps_set (i := 4) sc__law_plan.nd rfl (Or.inl rfl) (h_law_draw.call (hr.mono (by decide)) (by rfl) pass0 (pa_cons (pv 0) (pa_cons (pe_op op_add pe_int (pv 3)) pa_nil))))
        (pss_cons (ps_setLc (i := 5) (own := [("thing", 7)]) (g := gName 7) rfl sc__law_plan.nd rfl rfl (sw_true rfl rfl rfl (by decide +kernel)) (pi_range2 (by rfl) B.range (pa_cons pe_int (pa_cons (pe_op op_add (pe_callB (call_lenK (K := K)) (by rfl) B.len PySem.boot_len (pa_cons (pv 1) pa_nil)) pe_int) pa_nil))) (blkOk_by (own := [("thing", 7)]) (N := n__law_plan) (sc := defScope s__law_plan) (by decide +kernel)) (fun _ _ _ _ _ => pg_name (i := 7) sc__law_plan.nd rfl (Or.inl rfl)) (fun _ _ _ _ _ => pts_one (pt_cmpR op_gt (h_law_depth.call (hr.mono (by decide)) (by rfl) pass0 (pa_cons (pv 1) (pa_cons (pv 7) pa_nil))) (pv 3) (nomark _))) (fun _ _ _ _ _ => (pv 7)))
        (pss_cons (ps_set (i := 6) sc__law_plan.nd rfl (Or.inl rfl) (pe_op op_mod (pe_op op_fdiv (pv 4) pe_int) (pe_op op_add (pe_callB (call_lenK (K := K)) (by rfl) B.len PySem.boot_len (pa_cons (pv 1) pa_nil)) pe_int)))
        (pss_cut (ps_if (PW.pt (pw_and (pt_cmpR (op_neDK (K := K) hr.units) (pv 5) (pe_lst pa_nil) (nomark _)) (pw_and1 (pt_cmpR op_lt (pe_op op_mod (pv 4) pe_int) pe_int (nomark _))))) (pss_one (ps_set (i := 6) sc__law_plan.nd rfl (Or.inl rfl) (pe_ix (ix_listK (K := K)) (pv 5) (pe_op op_mod (pe_op op_fdiv (pv 4) pe_int) (pe_callB (call_lenK (K := K)) (by rfl) B.len PySem.boot_len (pa_cons (pv 5) pa_nil))) (fun _ _ => rfl)))) pss_nil)
        (pss_cut (ps_if (pt_cmpR op_eq (pe_op op_mod (pv 4) pe_int) pe_int (nomark _)) (pss_one (ps_set (i := 6) sc__law_plan.nd rfl (Or.inl rfl) pe_non)) pss_nil)
        (pss_cut (ps_if (PW.pt (pw_and (pt_cmpR op_eq (pe_op op_mod (pv 4) pe_int) pe_int (nomark _)) (pw_and1 (pt_cmpR op_eq (pe_op op_mod (pe_op op_fdiv (pv 4) pe_int) pe_int) pe_int (nomark _))))) (pss_one (ps_set (i := 6) sc__law_plan.nd rfl (Or.inl rfl) (pe_ix (ix_listK (K := K)) (pe_lst (pa_cons (pe_op op_sub (pe_un un_neg pe_int) (pe_op op_mod (pe_op op_fdiv (pv 4) pe_int) pe_int)) (pa_cons (pe_op op_add (pe_op op_add (pe_callB (call_lenK (K := K)) (by rfl) B.len PySem.boot_len (pa_cons (pv 1) pa_nil)) pe_int) (pe_op op_mod (pe_op op_fdiv (pv 4) pe_int) pe_int)) pa_nil))) (pe_op op_mod (pe_op op_fdiv (pv 4) pe_int) pe_int) (fun _ _ => rfl)))) pss_nil)
        (pss_one (ps_expr (pe_bm PySem.F.plainAttrs_list PySem.F.slot_list_append PySem.F.type_list_append mt_append (pv 2) (pa_cons (pv 6) pa_nil)))))))))))
      (pss_one (ps_ret (pv 2))))), ?_⟩
    refine q_asgL (el_lst ea_nil (Nat.zero_le _)) fun l H1 nl e1 hl => ?_
    have d0 := Int.emod_nonneg (Fm.draw ns 91) (show (15 : Int) ≠ 0 by decide)
    have d1 := Int.emod_lt_of_pos (Fm.draw ns 91) (show (0 : Int) < 15 by decide)
    refine q_forR1 (n := Fm.draw ns 91 % 15) (ea_cons (ev_op (ev_call0 (ea_cons (ev_var rfl) (ea_cons ev_c ea_nil)) (spv_draw (ex_l e1 hS) (by decide) (by decide))) ev_c (rv_I (by decide))) ea_nil) ⟨d0, by omega⟩
      (fun i σ' H' => ∃ (plan : List (Option Int)) (v3 v4 v5 v6 v7 : Option V), σ' = [some (.ref a), some (.ref pe), some (.ref l), v3, v4, v5, v6, v7] ∧ Ex H H' ∧ H' l = some (.lst (plan.map oV)) ∧ plan.length = i) (fun H2 e2 => ⟨[], _, _, _, _, _, rfl, e1.trans e2, e2 _ _ hl, rfl⟩) ?_ ?_
    · rintro i σ' H' hi ⟨plan, v3, v4, v5, v6, v7, rfl, e, hL, hlen⟩
      have hi15 : i < 15 := by omega
      refine q_asg (v := .int (Fm.draw ns (100 + (i : Int)))) (ev_call0 (ea_cons (ev_var rfl) (ea_cons (ev_op ev_c (ev_var rfl) rv_I0) ea_nil)) (spv_draw (ex_l e hS) (by omega) (by omega))) fun H2 e2 => ?_
      have E2 := e.trans e2
      generalize hcell : Fm.draw ns (100 + (i : Int)) = cell
      have c0 : 0 ≤ cell := by rw [← hcell]; exact Fm.draw_lo ns _
      refine q_asgL (el_lcR2f (lo := 1) (n := es.length) (fun t => decide ((i : Int) < (Fm.depth es t : Int))) (ea_cons ev_c (ea_cons (ev_is (ev_op (ev_lenS (ev_var rfl) (ex_l E2 he)) ev_c rv_I0) (by rw [vi_len]; congr 1; omega)) ea_nil)) (by omega) (fun x => rfl)
        (fun j H3 e3 hj => et_test (ev_op (ev_call0 (ea_cons (ev_var rfl) (ea_cons (ev_var rfl) ea_nil)) (spv_ldepth (ex_l (E2.trans e3) he) up (by omega))) (ev_var rfl) rv_I0)) (fun j H3 e3 hj _ => ev_var rfl)) fun ls H3 ns3 e3 hs => ?_
      have E3 := E2.trans e3
      generalize ((List.range' 1 es.length).filter fun t => decide ((i : Int) < (Fm.depth es t : Int))) = some_ at hs
      have nlen : (0 : Int) < (es.length : Int) + 1 := by omega
      refine q_asg (v := oV (some (cell / 8 % ((es.length : Int) + 1)))) (ev_op (ev_op (ev_var rfl) ev_c (rv_I ⟨by decide, by decide⟩)) (ev_is (ev_op (ev_lenS (ev_var rfl) (ex_l E3 he)) ev_c rv_I0) (by rw [vi_len])) (rv_I nlen)) fun H4 e4 => ?_
      have E4 := E3.trans e4
      have hs4 := e4 _ _ hs
      have k4 : H4 l = some (.lst (plan.map oV)) := e4 _ _ (e3 _ _ (e2 _ _ hL))
      -- what holds behind each if
      refine q_cut (M := fun σ' H' => ∃ o : Option Int, σ' = [some (.ref a), some (.ref pe), some (.ref l), some (.int (i : Int)), some (.int cell), some (.ref ls), some (oV o), v7] ∧ Ex H4 H') ?_ ?_
      · refine s_when (et_and (et_test (ev_neNil (ev_var rfl) (sq_of hs4))) fun _ => et_test (ev_op (ev_op (ev_var rfl) ev_c (rv_I (by decide))) ev_c rv_I0)) (fun hb H5 e5 => ?_) (fun hb H5 e5 => ⟨_, rfl, e5⟩)
        have hne : some_ ≠ [] := by
          intro h
          rw [h] at hb
          cases hb
        have hpos : 0 < some_.length := List.length_pos_iff.mpr hne
        have m0 := Int.emod_nonneg (cell / 8) (show (some_.length : Int) ≠ 0 by omega)
        have m1 := Int.emod_lt_of_pos (cell / 8) (show (0 : Int) < (some_.length : Int) by omega)
        exact s_asg (v := oV (some (some_.getD (cell / 8 % (some_.length : Int)).toNat 0 : Nat))) (ev_opIx (ev_var rfl) (ev_op (ev_op (ev_var rfl) ev_c (rv_I ⟨by decide, by decide⟩)) (ev_is (ev_lenS (ev_var rfl) (sq_of (e5 _ _ hs4))) (by rw [vi_len])) (rv_I (show (0 : Int) < (some_.length : Int) by omega))) (sq_of (e5 _ _ hs4))
          (vi_at (j := (cell / 8 % (some_.length : Int)).toNat) (by omega) (getD_get (by omega)))) fun H6 e6 => ⟨_, rfl, e5.trans e6⟩
      · rintro σ' H' ⟨o, rfl, e5⟩
        refine q_cut (M := fun σ' H' => ∃ o : Option Int, σ' = [some (.ref a), some (.ref pe), some (.ref l), some (.int (i : Int)), some (.int cell), some (.ref ls), some (oV o), v7] ∧ Ex H4 H') ?_ ?_
        · exact s_when (et_test (ev_op (ev_op (ev_var rfl) ev_c (rv_I (by decide))) ev_c (rv_eq rfl))) (fun hb H6 e6 => s_asg (v := oV none) ev_c fun H7 e7 => ⟨none, rfl, (e5.trans e6).trans e7⟩) (fun hb H6 e6 => ⟨_, rfl, e5.trans e6⟩)
        · rintro σ' H' ⟨o, rfl, e5⟩
          have he5 := ex_l (E4.trans e5) he
          refine q_cut (M := fun σ' H' => ∃ o : Option Int, σ' = [some (.ref a), some (.ref pe), some (.ref l), some (.int (i : Int)), some (.int cell), some (.ref ls), some (oV o), v7] ∧ Ex H4 H') ?_ ?_
          · refine s_when (et_and (et_test (ev_op (ev_op (ev_var rfl) ev_c (rv_I (by decide))) ev_c (rv_eq rfl))) fun _ => et_test (ev_op (ev_op (ev_op (ev_var rfl) ev_c (rv_I ⟨by decide, by decide⟩)) ev_c (rv_I (by decide))) ev_c (rv_eq rfl))) (fun hb H6 e6 => ?_) (fun hb H6 e6 => ⟨_, rfl, e5.trans e6⟩)
            exact s_asg (v := oV (some (if cell / 500 % 2 = 0 then -1 - cell / 48 % 9 else (es.length : Int) + 1 + cell / 48 % 9))) (ev_opIxN (el_lst (ea_cons (ev_op (ev_un ev_c ru_neg) (ev_op (ev_op (ev_var rfl) ev_c (rv_I ⟨by decide, by decide⟩)) ev_c (rv_I (by decide))) rv_I0)
              (ea_cons (ev_op (ev_op (ev_is (ev_lenS (ev_var rfl) (ex_l e6 he5)) (by rw [vi_len])) ev_c rv_I0) (ev_op (ev_op (ev_var rfl) ev_c (rv_I ⟨by decide, by decide⟩)) ev_c (rv_I (by decide))) rv_I0) ea_nil)) (by show 2 ≤ 100000; decide))
              (ev_op (ev_op (ev_var rfl) ev_c (rv_I ⟨by decide, by decide⟩)) ev_c (rv_I (by decide))) (two2 (Int.emod_nonneg _ (by decide)) (Int.emod_lt_of_pos _ (by decide)))) fun H7 e7 => ⟨_, rfl, (e5.trans e6).trans e7⟩
          · rintro σ' H' ⟨o, rfl, e5⟩
            refine s_app (e5 _ _ k4) (ev_var rfl) (ev_var rfl) (by rw [List.length_map]; omega) fun H6 e6 => ⟨plan ++ [o], _, _, _, _, _, rfl, Ex.mut ((E4.trans e5).trans e6) nl, ?_, by rw [List.length_append, hlen]; rfl⟩
            rw [upd_same, List.map_append]
            rfl
    · rintro σ' H' ⟨plan, v3, v4, v5, v6, v7, rfl, e, hL, hlen⟩
      exact s_ret (ev_var rfl) fun H3 e3 => q _ H3 (e.trans e3) ⟨l, plan, rfl, e3 _ _ hL, by omega⟩
end
end Fi
/-! _law_tried, _law_rows_right, _law_right. -/
namespace Fi
open PySem L2 Evl
/-! ### plans compared -/
def dO : Option Int → PyData
  | none => .none
  | some z => .int z
theorem dp_oV {K : PySem.W.Frag} {H : Hp} : ∀ o : Option Int, Dp K H (oV o) (dO o)
  | none => .non
  | some z => .int z
theorem dpAll_oV {K : PySem.W.Frag} {H : Hp} : ∀ l : List (Option Int), DpAll K H (l.map oV) (l.map dO)
  | [] => .nil
  | o :: l => .cons (dp_oV o) (dpAll_oV l)
theorem canAll_oV : ∀ l : List (Option Int), PyData.canLayAll0 (l.map dO) = true
  | [] => by simp [PyData.canLayAll0]
  | o :: l => by cases o <;> simp [PyData.canLayAll0, PyData.canLay0, canAll_oV l, dO]
theorem depthAll_oV : ∀ l : List (Option Int), PyData.depthAll (l.map dO) = 0
  | [] => by simp [PyData.depthAll]
  | o :: l => by cases o <;> simp [PyData.depthAll, PyData.depth, depthAll_oV l, dO]
theorem shaped_oV (l : List (Option Int)) : SeqAt.shaped (.list (l.map dO)) = true := by
  unfold SeqAt.shaped
  simp [PyData.canLay0, canAll_oV, PyData.depth, depthAll_oV]
theorem eqvAll_oV : ∀ l : List (Option Int), PyData.eqvAll (l.map dO) (l.map dO) = true
  | [] => by simp [PyData.eqvAll]
  | o :: l => by cases o <;> simp [PyData.eqvAll, PyData.eqv, eqvAll_oV l, dO]
theorem eqv_oV (l : List (Option Int)) : PyData.eqv (.list (l.map dO)) (.list (l.map dO)) = true := by
  rw [PyData.eqv, eqvAll_oV]
theorem rv_neO {K : PySem.W.Frag} {H : Hp} {p q : Addr} {l : List (Option Int)} (h1 : SqL K H p (l.map oV)) (h2 : SqL K H q (l.map oV)) : RV (rNeD K) (.ref p) (.ref q) H (.bl false) := by
  have h := rv_neD (K := K) (H := H) (x := .ref p) (y := .ref q) (fun H1 e => .lst (ex_l e h1) (dpAll_oV l)) (fun H1 e => .lst (ex_l e h2) (dpAll_oV l)) (shaped_oV l) (shaped_oV l)
  rw [eqv_oV] at h
  exact h
theorem shut_code {n : Nat} {o : Option (Option Int)} {b s : List Nat} {c : Nat} (h : Fm.shutStep n o b s = .error c) : c = 1 ∨ c = 2 := by
  unfold Fm.shutStep at h
  split at h
  · split at h
    · split at h
      · cases h; exact .inr rfl
      · cases h
    · cases h; exact .inl rfl
  · cases h
theorem run_code {es : List Nat} {plan : List (Option Int)} {c : Nat} : ∀ {m : Nat}, Fm.run es plan m = .error c → c = 1 ∨ c = 2
  | 0, h => by cases h
  | m + 1, h => by
    rw [Fm.run] at h
    cases e : Fm.run es plan m with
    | error c' => rw [e] at h; cases h; exact run_code e
    | ok v =>
      obtain ⟨r, b, s⟩ := v
      rw [e] at h
      simp only at h
      cases e2 : Fm.shutStep (es.length + 1) plan[m]? b s with
      | error c' => rw [e2] at h; cases h; exact shut_code e2
      | ok s' => rw [e2] at h; cases h
section
variable {P : Program} {w : World} {K : PySem.W.Frag} {mg : Str → Option Value} {base : Heap} {C : Addr}
def spTried (K : PySem.W.Frag) (C cNo cPlan : Addr) : Sp := fun vs H Q _ => ∃ (i : Int) (p pl : Addr) (es ws : List Nat) (plan : List (Option Int)), vs = [.int i, .ref p, .ref pl] ∧ (i = 0 ∨ i = 1) ∧ TreeAt C H p es ws ∧ SqL K H pl (plan.map oV) ∧ plan.length ≤ 1000 ∧
  (∀ r b s, Fm.fire es plan = .ok (r, b, s) → i = 0 → RetP (fun v H2 => ∃ lm, v = .ref lm ∧ RowsNew H H2 lm (Fm.trim r)) H Q) ∧ (∀ r b s, Fm.fire es plan = .ok (r, b, s) → i = 1 → RetV (.int (Fm.saved ws b : Int)) H Q) ∧
  (∀ c, Fm.fire es plan = .error c → RetP (fun v H2 => ∃ a, v = .ref a ∧ H a = none ∧ H2 a = some (ExV (.ref (if c = 1 then cNo else cPlan)) a)) H Q)
theorem has_tried {c : Cs} (G : Gs mg c) (xN : PySem.W.exmOne K (.ref c.no) (.ref c.fire) = some true) (xP : PySem.W.exmOne K (.ref c.plan) (.ref c.fire) = some true) (hburnt : Has P w K mg base (L2.CX P w) "burnt" p_burnt 3 (spBurnt K C c.no c.plan)) (hsaved : Has P w K mg base (L2.CX P w) "saved" p_saved 3 (spSaved K C c.no c.plan))
    (D : At K mg "_law_tried" s__law_tried p__law_tried) : Has P w K mg base CX0 "_law_tried" p__law_tried 4 (spTried K C c.no c.plan) := D.has fun f fd F => by
  refine F.ok sc__law_tried (fun vs H Q E h => ?_) (fun cdv A outer s H vs Q E hr h => ?_)
  · obtain ⟨i, p, pl, es, ws, plan, rfl, _⟩ := h
    rfl
  · obtain ⟨i, p, pl, es, ws, plan, rfl, hi, TA, hpl, hlen, k0, k1, kE⟩ := h
    have g_FireError := G.fire
    refine ⟨_, (pss_cons (ps_set (i := 3) sc__law_tried.nd rfl (Or.inl rfl) pe_non)
      (pss_cons (ps_try_asV (i := 4) rfl rfl rfl sc__law_tried.nd rfl rfl ⟨rfl, by decide, Or.inl g_FireError⟩ (fun W pn xe tk _ => (pss_one (ps_if (pt_cmpR op_eq (pv 0) pe_int (nomark _)) (pss_one (ps_set (i := 3) sc__law_tried.nd rfl (Or.inl rfl) (hburnt.callS (hr.mono (by decide)) (by rfl) (fun σ => passAt tk σ) (pa_cons (pv 1) (pa_cons (pv 2) pa_nil))))) (pss_one (ps_set (i := 3) sc__law_tried.nd rfl (Or.inl rfl) (hsaved.callS (hr.mono (by decide)) (by rfl) (fun σ => passAt tk σ) (pa_cons (pv 1) (pa_cons (pv 2) pa_nil)))))))) (fun a oe cls pn hz hf => (pss_one (ps_set (i := 3) sc__law_tried.nd rfl (Or.inl rfl) (pv 4)))))
      (pss_one (ps_ret (pv 3))))), ?_⟩
    refine q_asg ev_c fun H1 e1 => ?_
    have caught : ∀ code, Fm.fire es plan = .error code → PySem.W.exmOne K (.ref (if code = 1 then c.no else c.plan)) (.ref c.fire) = some true := fun code _ => by
      split
      · exact xN
      · exact xP
    rcases hi with rfl | rfl
    · refine s_if (b := true) (et_test (ev_op (ev_var rfl) ev_c (rv_eq rfl))) (fun _ H2 e2 => ?_) (fun h => no' h)
      have E2 := e1.trans e2
      refine ⟨.ref p, rfl, .ref pl, rfl, p, pl, es, ws, plan, rfl, TA.mono E2, ex_l E2 hpl, hlen, fun r b s hf v H3 e3 ⟨lm, ev, rs, n1, n2, n3, n4⟩ => ?_, fun code hf H3 e3 => ⟨rfl, caught code hf, fun a na => ⟨_, rfl, ?_⟩⟩⟩
      · subst ev
        exact s_ret (ev_var rfl) fun H4 e4 => k0 r b s hf rfl _ H4 ((E2.trans e3).trans e4) ⟨lm, rfl, rs, fresh_back E2 n1, fun a ha => ⟨fresh_back E2 (n2 a ha).1, (n2 a ha).2⟩, e4 _ _ n3, n4.mono fun a ob _ h => e4 _ _ h⟩
      · have E3 := E2.trans e3
        exact s_ret (ev_var rfl) fun H4 e4 => kE code hf _ H4 ((E3.trans (Ex.new na)).trans e4) ⟨a, rfl, fresh_back E3 na, e4 _ _ upd_same⟩
    · refine s_if (b := false) (et_test (ev_op (ev_var rfl) ev_c (rv_eq rfl))) (fun h => no h) (fun _ H2 e2 => ?_)
      have E2 := e1.trans e2
      refine ⟨.ref p, rfl, .ref pl, rfl, p, pl, es, ws, plan, rfl, TA.mono E2, ex_l E2 hpl, hlen, fun r b s hf H3 e3 => ?_, fun code hf H3 e3 => ⟨rfl, caught code hf, fun a na => ⟨_, rfl, ?_⟩⟩⟩
      · exact s_ret (ev_var rfl) fun H4 e4 => k1 r b s hf rfl H4 ((E2.trans e3).trans e4)
      · have E3 := E2.trans e3
        exact s_ret (ev_var rfl) fun H4 e4 => kE code hf _ H4 ((E3.trans (Ex.new na)).trans e4) ⟨a, rfl, fresh_back E3 na, e4 _ _ upd_same⟩
/-! ### _law_rows_right, of two lists with the same rows -/
def spRowsRight (K : PySem.W.Frag) : Sp := fun vs H Q _ => ∃ (l m : Addr) (rs qs : List Addr) (rows : List (List Nat)), vs = [.ref l, .ref m] ∧ H l = some (.lst (rs.map V.ref)) ∧ H m = some (.lst (qs.map V.ref)) ∧ RowsL H rs rows ∧ RowsL H qs rows ∧ rows.length ≤ 1100 ∧ (∀ r ∈ rows, r.length ≤ 1000) ∧ RetV (.bl true) H Q
theorem spv_rowsRight {H : Hp} {l m : Addr} {rs qs : List Addr} {rows : List (List Nat)} (h1 : H l = some (.lst (rs.map V.ref))) (h2 : H m = some (.lst (qs.map V.ref))) (h3 : RowsL H rs rows) (h4 : RowsL H qs rows) (h5 : rows.length ≤ 1100) (h6 : ∀ r ∈ rows, r.length ≤ 1000) : SpV (spRowsRight K) [.ref l, .ref m] H (.bl true) :=
  fun H1 e Q q E => ⟨l, m, rs, qs, rows, rfl, e _ _ h1, e _ _ h2, h3.mono fun a o _ h => e _ _ h, h4.mono fun a o _ h => e _ _ h, h5, h6, q⟩
theorem has_rowsRight (B : Bi mg) (h_law_numbers : Has P w K mg base CX0 "_law_numbers" p__law_numbers 2 (spNumbers K)) (D : At K mg "_law_rows_right" s__law_rows_right p__law_rows_right) : Has P w K mg base CX0 "_law_rows_right" p__law_rows_right 3 (spRowsRight K) := D.has fun f fd F => by
  refine F.ok sc__law_rows_right (fun vs H Q E h => ?_) (fun cdv A outer s H vs Q E hr h => ?_)
  · obtain ⟨l, m, rs, qs, rows, rfl, _⟩ := h
    rfl
  · obtain ⟨l, m, rs, qs, rows, rfl, h1, h2, h3, h4, h5, h6, k⟩ := h
    have l1 := h3.len
    have l2 := h4.len
    refine ⟨_, (pss_cons (ps_if (PW.pt (pw_or (pt_not (pt_val (pe_callB (call_isiK1 (K := K)) (by rfl) B.isinstance (by decide +kernel) (pa_cons (pv 0) (pa_cons (pe_bltn (v := .ty "list") (u := .type "list") (by rfl) B.list (by decide +kernel) rfl) pa_nil))))) (pw_or1 (pt_cmpR op_ne (pe_callB (call_lenK (K := K)) (by rfl) B.len PySem.boot_len (pa_cons (pv 0) pa_nil)) (pe_callB (call_lenK (K := K)) (by rfl) B.len PySem.boot_len (pa_cons (pv 1) pa_nil)) (nomark _))))) (pss_one (ps_ret pe_bl)) pss_nil)
      (pss_one (ps_ret (pe_cmpR (op_notInK (K := K)) pe_bl (pe_lc (own := [("k", 2)]) (g := gName 2) rfl sc__law_rows_right.nd (pi_range1 (by rfl) B.range (pa_cons (pe_callB (call_lenK (K := K)) (by rfl) B.len PySem.boot_len (pa_cons (pv 1) pa_nil)) pa_nil)) (blkOk_by (own := [("k", 2)]) (N := n__law_rows_right) (sc := defScope s__law_rows_right) (by decide +kernel)) (fun _ _ _ _ _ => pg_name (i := 2) sc__law_rows_right.nd rfl (Or.inl rfl)) (fun _ _ _ _ _ => pts_nil) (fun _ _ _ _ _ => (h_law_numbers.call (hr.mono (by decide)) (by rfl) pass0 (pa_cons (pe_ix (ix_listK (K := K)) (pv 0) (pv 2) (fun _ _ => rfl)) (pa_cons (pe_ix (ix_listK (K := K)) (pv 1) (pv 2) (fun _ _ => rfl)) pa_nil))))) (by with_unfolding_all rfl))))), ?_⟩
    refine q_when (b := false) (et_or (a := false) (b := false) (et_not (a := true) (et_B (ev_isiLst (ev_var rfl) h1 (by decide +kernel)))) fun _ => et_test (ev_is (ev_op (ev_lenS (ev_var rfl) (sq_of h1)) (ev_lenS (ev_var rfl) (sq_of h2)) (rv_ne rfl)) (by rw [List.length_map, List.length_map, l1, l2, decide_eq_true rfl]; rfl))) (fun h => no h) fun _ H1 e1 => ?_
    have hn : ((qs.map V.ref).length : Int) = (rows.length : Int) := by rw [List.length_map, l2]
    refine s_ret (ev_is (ev_opL (xs := given rows.length (fun _ => true) (fun _ => .bl true)) ev_c (el_is (el_lcR1 (n := (rows.length : Int)) (fun _ => true) (fun _ => .bl true) (ea_cons (ev_is (ev_lenS (ev_var rfl) (sq_of (e1 _ _ h2))) (by rw [hn])) ea_nil) ⟨by omega, by omega⟩ (fun x => rfl) (fun _ _ _ _ => et_yes) (fun i H2 e2 hi _ => ?_)) (by rw [Int.toNat_natCast])) fun r H2 hr2 e2 => rv_niL (sq_of hr2) rfl ?_) ?_) fun H2 e2 => k H2 (e1.trans e2)
    · have hir : i < rows.length := by omega
      have E2 := e1.trans e2
      obtain ⟨a, ha1, _, ha2⟩ := h3.get (List.getElem?_eq_getElem hir)
      obtain ⟨b, hb1, _, hb2⟩ := h4.get (List.getElem?_eq_getElem hir)
      exact nums_true (l := rows[i]) (ev_opIx (ev_var rfl) (ev_var rfl) (sq_of (E2 _ _ h1)) (at_of (j := i) rfl (by rw [List.getElem?_map, ha1]; rfl))) (ev_opIx (ev_var rfl) (ev_var rfl) (sq_of (E2 _ _ h2)) (at_of (j := i) rfl (by rw [List.getElem?_map, hb1]; rfl))) (E2 _ _ ha2) (sq_of (E2 _ _ hb2)) (h6 _ (List.getElem_mem hir))
    · rw [given_all]
      simp [flatV]
    · rw [given_all]
      congr 1
      have : inV (.bl false) ((List.range rows.length).map fun _ => V.bl true) = false := by
        unfold inV
        rw [List.any_eq_false]
        intro x hx
        obtain ⟨i, _, rfl⟩ := List.mem_map.mp hx
        decide
      rw [this]
      rfl
/-! ### _law_right -/
theorem trim_sub {l : List (List Nat)} {x : List Nat} (h : x ∈ Fm.trim l) : x ∈ l := by
  unfold Fm.trim at h
  rw [List.mem_reverse] at h
  have := List.dropWhile_sublist (fun x : List Nat => x == []) (l := l.reverse)
  exact List.mem_reverse.mp (this.subset h)
theorem trim_len (l : List (List Nat)) : (Fm.trim l).length ≤ l.length := by
  unfold Fm.trim
  have := (List.dropWhile_sublist (fun x : List Nat => x == []) (l := l.reverse)).length_le
  rw [List.length_reverse] at this ⊢
  exact this
def spRight (K : PySem.W.Frag) (C : Addr) : Sp := fun vs H Q _ => ∃ (p t pl : Addr) (es ws : List Nat) (plan : List (Option Int)), vs = [.ref p, .ref t, .ref pl] ∧ PlotAt H p es ws ∧ TreeAt C H t es ws ∧ H pl = some (.lst (plan.map oV)) ∧ plan.length ≤ 1000 ∧ RetV (.bl true) H Q
theorem spv_right {H : Hp} {p t pl : Addr} {es ws : List Nat} {plan : List (Option Int)} (h1 : PlotAt H p es ws) (h2 : TreeAt C H t es ws) (h3 : H pl = some (.lst (plan.map oV))) (h4 : plan.length ≤ 1000) : SpV (spRight K C) [.ref p, .ref t, .ref pl] H (.bl true) := fun H1 e Q q E => ⟨p, t, pl, es, ws, plan, rfl, h1.mono e, h2.mono e, e _ _ h3, h4, q⟩
theorem has_right (B : Bi mg) {c : Cs} (aN : Alone K c c.no 1) (aP : Alone K c c.plan 2) (h_law_fire : Has P w K mg base CX0 "_law_fire" p__law_fire 1 (spLFire K)) (h_law_tried : Has P w K mg base CX0 "_law_tried" p__law_tried 4 (spTried K C c.no c.plan)) (h_law_alone : Has P w K mg base CX0 "_law_alone" p__law_alone 1 (spAlone K c))
    (h_law_rows_right : Has P w K mg base CX0 "_law_rows_right" p__law_rows_right 3 (spRowsRight K)) (h_law_whole : Has P w K mg base CX0 "_law_whole" p__law_whole 1 spWhole) (h_law_saved : Has P w K mg base CX0 "_law_saved" p__law_saved 2 (spLSaved K)) (D : At K mg "_law_right" s__law_right p__law_right) :
    Has P w K mg base CX0 "_law_right" p__law_right 5 (spRight K C) := D.has fun f fd F => by
  refine F.ok sc__law_right (fun vs H Q E h => ?_) (fun cdv A outer s H vs Q E hr h => ?_)
  · obtain ⟨p, t, pl, es, ws, plan, rfl, _⟩ := h
    rfl
  · obtain ⟨p, t, pl, es, ws, plan, rfl, hP, TA, hpl, hlen, k⟩ := h
    obtain ⟨pe, pw, hp, hpe, hpw⟩ := id hP
    have o := TA.ok
    have ol := o.len
    have om := o.most
    refine ⟨_, (pss_cons (ps_set (i := 3) sc__law_right.nd rfl (Or.inl rfl) (pe_callTy (call_listK (K := K)) (by rfl) B.list (by decide +kernel) (pa_cons (pv 2) pa_nil)))
      (pss_cons (ps_set (i := 4) sc__law_right.nd rfl (Or.inl rfl) (h_law_fire.call (hr.mono (by decide)) (by rfl) pass0 (pa_cons (pe_ix (ix_tupK (K := K)) (pv 0) pe_int (fun _ _ => rfl)) (pa_cons (pv 2) pa_nil))))
      (pss_cons (ps_set (i := 5) sc__law_right.nd rfl (Or.inl rfl) (h_law_tried.call (hr.mono (by decide)) (by rfl) pass0 (pa_cons pe_int (pa_cons (pv 1) (pa_cons (pv 3) pa_nil)))))
      (pss_cons (ps_set (i := 6) sc__law_right.nd rfl (Or.inl rfl) (h_law_tried.call (hr.mono (by decide)) (by rfl) pass0 (pa_cons pe_int (pa_cons (pv 1) (pa_cons (pv 3) pa_nil)))))
      (pss_cons (ps_if (pt_cmpR (op_neDK (K := K) hr.units) (pv 3) (pv 2) (nomark _)) (pss_one (ps_ret pe_bl)) pss_nil)
      (pss_cons (ps_if (pt_cmpR op_isN (pe_ix (ix_tupK (K := K)) (pv 4) pe_int (fun _ _ => rfl)) pe_non (nomark _)) (pss_one (ps_ret (pe_and (pe_cmpR op_eq (h_law_alone.call (hr.mono (by decide)) (by rfl) pass0 (pa_cons (pv 5) pa_nil)) (pe_ix (ix_tupK (K := K)) (pv 4) pe_int (fun _ _ => rfl)) (nomark _)) (pe_one (pe_cmpR op_eq (h_law_alone.call (hr.mono (by decide)) (by rfl) pass0 (pa_cons (pv 6) pa_nil)) (pe_ix (ix_tupK (K := K)) (pv 4) pe_int (fun _ _ => rfl)) (nomark _)))))) pss_nil)
      (pss_cons (ps_if (PW.pt (pw_or (pt_not (pt_val (h_law_rows_right.call (hr.mono (by decide)) (by rfl) pass0 (pa_cons (pv 5) (pa_cons (pe_ix (ix_tupK (K := K)) (pv 4) pe_int (fun _ _ => rfl)) pa_nil))))) (pw_or (pt_not (pt_val (h_law_whole.call (hr.mono (by decide)) (by rfl) pass0 (pa_cons (pv 6) pa_nil)))) (pw_or1 (pt_cmpR op_ne (pv 6) (h_law_saved.call (hr.mono (by decide)) (by rfl) pass0 (pa_cons (pv 0) (pa_cons (pv 2) pa_nil))) (nomark _)))))) (pss_one (ps_ret pe_bl)) pss_nil)
      (pss_cons (ps_for PassesOwn.never rfl (pi_list (pv 5)) (pg_name (i := 7) sc__law_right.nd rfl (Or.inl rfl)) (pss_one (ps_expr (pe_bm PySem.F.plainAttrs_list PySem.F.slot_list_append PySem.F.type_list_append mt_append (pv 7) (pa_cons pe_int pa_nil)))))
      (pss_cons (ps_expr (pe_bm0 PySem.F.plainAttrs_list PySem.F.slot_list_clear PySem.F.type_list_clear mt_clear (pv 5)))
      (pss_one (ps_ret pe_bl))))))))))), ?_⟩
    -- handed = list(plan)
    refine q_asgL (el_listS (ev_var rfl) (sq_of hpl)) fun lh H1 nh e1 hh => ?_
    cases hf : Fm.fire es plan with
    | error code =>
      have hcode := run_code (show Fm.run es plan _ = .error code from hf)
      refine q_asgP (ep_call0 (ea_cons (ev_opIxT (ev_var rfl) ev_c (st_of (e1 _ _ hp)) rfl) (ea_cons (ev_var rfl) ea_nil)) (spp_lfireE (sq_of (e1 _ _ hpe)) o.up (by omega) (sq_of (e1 _ _ hpl)) hlen hf)) fun v H2 e2 ⟨td, ev, htd⟩ => ?_
      subst ev
      have E2 := e1.trans e2
      have tr : ∀ (i : Int) H3, (i = 0 ∨ i = 1) → Ex H2 H3 → SpP (spTried K C c.no c.plan) [.int i, .ref t, .ref lh] H3 (fun v H4 => ∃ a, v = .ref a ∧ H4 a = some (ExV (.ref (if code = 1 then c.no else c.plan)) a)) := fun i H3 hi e3 H4 e4 Q' q' E' =>
        ⟨i, t, lh, es, ws, plan, rfl, hi, TA.mono ((E2.trans e3).trans e4), sq_of (e4 _ _ (e3 _ _ (e2 _ _ hh))), hlen, fun r b s h => (by rw [hf] at h; cases h), fun r b s h => (by rw [hf] at h; cases h), fun c' hc' v H5 e5 ⟨a, ev, _, ha⟩ => by
          rw [hf] at hc'
          cases hc'
          exact q' v H5 e5 ⟨a, ev, ha⟩⟩
      refine q_asgP (ep_call0 (ea_cons ev_c (ea_cons (ev_var rfl) (ea_cons (ev_var rfl) ea_nil))) (tr 0 H2 (.inl rfl) (Ex.refl _))) fun v H3 e3 ⟨a1, ev, ha1⟩ => ?_
      subst ev
      refine q_asgP (ep_call0 (ea_cons ev_c (ea_cons (ev_var rfl) (ea_cons (ev_var rfl) ea_nil))) (tr 1 H3 (.inr rfl) e3)) fun v H4 e4 ⟨a2, ev, ha2⟩ => ?_
      subst ev
      have E4 := (E2.trans e3).trans e4
      refine q_when (b := false) (et_test (ev_op (ev_var rfl) (ev_var rfl) (rv_neO (sq_of (e4 _ _ (e3 _ _ (e2 _ _ hh)))) (sq_of (E4 _ _ hpl))))) (fun h => no h) fun _ H5 e5 => ?_
      have htd5 := e5 _ _ (e4 _ _ (e3 _ _ htd))
      refine q_when (b := true) (et_test (ev_is (ev_opIsN (x := .non) (ev_opIxT (ev_var rfl) ev_c (st_of htd5) rfl)) (by simp))) (fun _ H6 e6 => ?_) fun h => no' h
      have al : Alone K c (if code = 1 then c.no else c.plan) code := by
        rcases hcode with rfl | rfl
        · rw [if_pos rfl]; exact aN
        · rw [if_neg (by decide)]; exact aP
      refine s_ret (ev_andV (a := true) (b := true) (ev_is (ev_op (ev_call0 (ea_cons (ev_var rfl) ea_nil) (spv_alone (e6 _ _ (e5 _ _ (e4 _ _ ha1))) al)) (ev_opIxT (ev_var rfl) ev_c (st_of (e6 _ _ htd5)) rfl) (rv_eq rfl)) (by rw [decide_eq_true rfl])) fun _ => ev_is (ev_op (ev_call0 (ea_cons (ev_var rfl) ea_nil) (spv_alone (e6 _ _ (e5 _ _ ha2)) al)) (ev_opIxT (ev_var rfl) ev_c (st_of (e6 _ _ htd5)) rfl) (rv_eq rfl)) (by rw [decide_eq_true rfl])) fun H7 e7 => k H7 (((E4.trans e5).trans e6).trans e7)
    | ok v =>
      obtain ⟨r, b, s⟩ := v
      have g := Fm.good_run (show Fm.run es plan _ = .ok (r, b, s) from hf)
      refine q_asgP (ep_call0 (ea_cons (ev_opIxT (ev_var rfl) ev_c (st_of (e1 _ _ hp)) rfl) (ea_cons (ev_var rfl) ea_nil)) (spp_lfire (sq_of (e1 _ _ hpe)) o.up (by omega) (sq_of (e1 _ _ hpl)) hlen hf)) fun v H2 e2 ⟨td, lr, lb, ev, htd, ⟨qs, _, _, hlr, hqs⟩, hlb⟩ => ?_
      subst ev
      have E2 := e1.trans e2
      refine q_asgP (P := fun v H3 => ∃ lm, v = .ref lm ∧ RowsNew H2 H3 lm (Fm.trim r)) (ep_call0 (ea_cons ev_c (ea_cons (ev_var rfl) (ea_cons (ev_var rfl) ea_nil))) (fun H3 e3 Q' q' E' => ⟨0, t, lh, es, ws, plan, rfl, .inl rfl, TA.mono (E2.trans e3), sq_of (e3 _ _ (e2 _ _ hh)), hlen,
        fun r1 b1 s1 h _ v H4 e4 ⟨lm, ev, rs, n1, n2, n3, n4⟩ => by
          rw [hf] at h
          cases h
          exact q' v H4 e4 ⟨lm, ev, rs, fresh_back e3 n1, fun a ha => ⟨fresh_back e3 (n2 a ha).1, (n2 a ha).2⟩, n3, n4⟩,
        fun _ _ _ _ h => absurd h (by decide), fun c' hc' => by rw [hf] at hc'; cases hc'⟩)) fun v H3 e3 ⟨lm, ev, rs, nlm, nrs, hlm, hrs⟩ => ?_
      subst ev
      have E3 := E2.trans e3
      refine q_asg (v := .int (Fm.saved ws b : Int)) (ev_call0 (ea_cons ev_c (ea_cons (ev_var rfl) (ea_cons (ev_var rfl) ea_nil))) (fun H4 e4 Q' q' E' => ⟨1, t, lh, es, ws, plan, rfl, .inr rfl, TA.mono (E3.trans e4), sq_of (e4 _ _ (e3 _ _ (e2 _ _ hh))), hlen,
        fun _ _ _ _ h => absurd h (by decide), fun r1 b1 s1 h _ => (by rw [hf] at h; cases h; exact q'), fun c' hc' => by rw [hf] at hc'; cases hc'⟩)) fun H4 e4 => ?_
      have E4 := E3.trans e4
      refine q_when (b := false) (et_test (ev_op (ev_var rfl) (ev_var rfl) (rv_neO (sq_of (e4 _ _ (e3 _ _ (e2 _ _ hh)))) (sq_of (E4 _ _ hpl))))) (fun h => no h) fun _ H5 e5 => ?_
      have E5 := E4.trans e5
      have e35 := (e3.trans e4).trans e5
      have e45 := e4.trans e5
      refine q_when (b := false) (et_test (ev_is (ev_opIsN (x := .ref lr) (ev_opIxT (ev_var rfl) ev_c (st_of (e35 _ _ htd)) rfl)) (by simp))) (fun h => no h) fun _ H6 e6 => ?_
      have E6 := E5.trans e6
      have e36 := e35.trans e6
      have e46 := e45.trans e6
      have glen := g.len
      have tl := trim_len r
      refine q_when (b := false) (et_or (a := false) (b := false) (et_not (a := true) (et_B (ev_call0 (ea_cons (ev_var rfl) (ea_cons (ev_opIxT (ev_var rfl) ev_c (st_of (e36 _ _ htd)) rfl) ea_nil)) (spv_rowsRight (e46 _ _ hlm) (e36 _ _ hlr) (hrs.mono fun a ob _ h => e46 _ _ h) (hqs.mono fun a ob _ h => e36 _ _ h) (by omega) fun x hx => by have := g.rln x (trim_sub hx); omega))))
        fun _ => et_or (a := false) (b := false) (et_not (a := true) (et_B (ev_call0 (ea_cons (ev_var rfl) ea_nil) spv_whole))) fun _ => et_test (ev_is (ev_op (ev_var rfl) (ev_call0 (ea_cons (ev_var rfl) (ea_cons (ev_var rfl) ea_nil)) (spv_lsaved (hP.mono E6) o (sq_of (E6 _ _ hpl)) hlen hf)) (rv_ne rfl)) (by rw [decide_eq_true rfl]; rfl))) (fun h => no h) fun _ H7 e7 => ?_
      have E7 := E6.trans e7
      have e37 := e36.trans e7
      have e47 := e46.trans e7
      -- for row in rows: row.append(99)
      refine q_forLn (xs := rs.map V.ref) (ev_var rfl) (sq_of (e47 _ _ hlm)) (fun i σ' H' => ∃ v7, σ' = [some (.ref p), some (.ref t), some (.ref pl), some (.ref lh), some (.ref td), some (.ref lm), some (.int (Fm.saved ws b : Int)), v7] ∧ Ex H2 H' ∧ H' lm = some (.lst (rs.map V.ref)) ∧ ∀ a ∈ rs, ∃ xs, H' a = some (.lst xs) ∧ xs.length ≤ 1000 + i)
        (fun H8 e8 => ⟨none, rfl, e37.trans e8, e8 _ _ (e47 _ _ hlm), fun a ha => by
          obtain ⟨x, hx1, hx2⟩ := hrs.mem ha
          exact ⟨_, e8 _ _ (e47 _ _ hx2), by rw [vi_len]; have := g.rln x (trim_sub hx1); omega⟩⟩) (fun i σ' H' _ ⟨_, _, _, h, _⟩ => sq_of h) ?_ ?_
      · rintro i x σ' H' hi ⟨v7, rfl, e, hl, hx⟩
        have hi' : i < rs.length := by have := (List.getElem?_eq_some_iff.mp hi).1; rw [List.length_map] at this; exact this
        rw [List.getElem?_map, List.getElem?_eq_getElem hi'] at hi
        have hi2 := (Option.some.inj hi).symm
        subst hi2
        have hmem : rs[i] ∈ rs := List.getElem_mem hi'
        obtain ⟨xs, hxs, hxl⟩ := hx _ hmem
        have := hrs.len
        refine s_app hxs (ev_var rfl) ev_c (by omega) fun H8 e8 => ⟨_, rfl, Ex.mut (e.trans e8) (nrs _ hmem).1, ?_, fun a ha => ?_⟩
        · rw [upd_ne (nrs _ hmem).2.symm]
          exact e8 _ _ hl
        · by_cases hq : a = rs[i]
          · rw [hq]
            exact ⟨_, upd_same, by rw [List.length_append]; show xs.length + 1 ≤ _; omega⟩
          · obtain ⟨ys, hy1, hy2⟩ := hx a ha
            exact ⟨ys, by rw [upd_ne hq]; exact e8 _ _ hy1, by omega⟩
      · rintro σ' H' ⟨v7, rfl, e, hl, hx⟩
        refine q_clear hl (ev_var rfl) fun H8 e8 => ?_
        have E8 := Ex.mut (o := .lst []) (e.trans e8) nlm
        exact s_ret ev_c fun H9 e9 => k H9 ((E2.trans E8).trans e9)
end
end Fi
/-! The law of the fires. -/
namespace Fi
open PySem L2 Evl
section
variable {K : PySem.W.Frag} {σ : L2.St} {H : Hp} {ta tb te : TE} {y v1 v2 : V} {sp : Sp} {E : XK}
theorem ep_lst2 {P1 P2 : V → Hp → Prop} (m1 : ∀ v H2 H3, Ex H2 H3 → P1 v H2 → P1 v H3) (m2 : ∀ v H2 H3, Ex H2 H3 → P2 v H2 → P2 v H3) (h1 : EvP ta σ H P1) (h2 : EvP tb σ H P2) :
    EvP (tLst (tCons ta (tCons tb tNil))) σ H (fun v H3 => ∃ l w1 w2, v = .ref l ∧ H l = none ∧ H3 l = some (.lst [w1, w2]) ∧ P1 w1 H3 ∧ P2 w2 H3) := fun H1 e Q q =>
  h1 H1 e _ fun w1 H2 e2 p1 => h2 H2 (e.trans e2) _ fun w2 H3 e3 p2 => ⟨by show 2 ≤ sizeLine; decide, fun l hl =>
    q _ _ ((e2.trans e3).trans (Ex.new hl)) ⟨l, w1, w2, rfl, fresh_back ((e.trans e2).trans e3) hl, upd_same, m1 _ _ _ (e3.trans (Ex.new hl)) p1, m2 _ _ _ (Ex.new hl) p2⟩⟩
theorem ep_callL1 {xs : List V} {P : V → Hp → Prop} (ha : EvL ta σ H xs) (hb : ∀ H1, Ex H H1 → Ev tb σ H1 y) (hs : ∀ p H1, H1 p = some (.lst xs) → Ex H H1 → SpP sp [.ref p, y] H1 P) : EvP (tCall sp [] E (tCons ta (tCons tb tNil))) σ H P := fun H1 e Q q =>
  ha H1 e _ fun p H2 hp e2 h2 => hb H2 (e.trans e2) H2 (Ex.refl _) _ fun H3 e3 => hs p H3 (e3 _ _ h2) ((e.trans e2).trans e3) H3 (Ex.refl _) Q (fun v H4 e4 pp => q v H4 ((e2.trans e3).trans e4) pp) E
/-- a comprehension over a list of two, the elements' making told of the heap ahead of it -/
theorem ep_lcL2 {a : Addr} {tl : TE} {j : Nat} {vs : List Nat} {P1 P2 : Hp → V → Hp → Prop} (h : Ev tl σ H (.ref a)) (hx : H a = some (.lst [v1, v2])) (hw : ∀ x, wipe ((wipe σ vs).set j (some x)) vs = wipe σ vs)
    (m1 : ∀ B v H2 H3, (∀ b o, B b = none → H2 b = some o → H3 b = some o) → P1 B v H2 → P1 B v H3) (m2 : ∀ B v H2 H3, (∀ b o, B b = none → H2 b = some o → H3 b = some o) → P2 B v H2 → P2 B v H3)
    (he1 : ∀ H1, Ex H H1 → EvP te ((wipe σ vs).set j (some v1)) H1 (P1 H1)) (he2 : ∀ H1, Ex H H1 → EvP te ((wipe σ vs).set j (some v2)) H1 (P2 H1)) :
    EvP (tLc (iList K tl) (gName j) tYes te vs) σ H (fun v H2 => ∃ D y1 y2 B1 B2, v = .ref D ∧ H D = none ∧ Ex H B1 ∧ Ex H B2 ∧ H2 D = some (.lst [y1, y2]) ∧ P1 B1 y1 H2 ∧ P2 B2 y2 H2) := fun H0 e0 Q q => h H0 e0 _ fun H1 e1 => ⟨a, rfl, ⟨_, sq_of (e1 _ _ (e0 _ _ hx))⟩, fun D hD => by
  have e01 := e0.trans e1
  refine lc_list (K := K) (xs := [v1, v2]) (fun i H' => Ex H1 H' ∧ (i = 0 → H' D = some (.lst [])) ∧ (i = 1 → ∃ y1 B, Ex H1 B ∧ B D ≠ none ∧ H' D = some (.lst [y1]) ∧ P1 B y1 H') ∧
    (i = 2 → ∃ y1 y2 B1 B2, Ex H1 B1 ∧ Ex H1 B2 ∧ H' D = some (.lst [y1, y2]) ∧ P1 B1 y1 H' ∧ P2 B2 y2 H')) ⟨Ex.new hD, fun _ => upd_same, fun h => absurd h (by decide), fun h => absurd h (by decide)⟩ (fun i H' _ p => sq_of (p.1 _ _ (e01 _ _ hx))) (fun i x H' hi p => ?_) (fun H' p => ?_)
  · obtain ⟨p0, pa, pb, pc⟩ := p
    have hlt := (List.getElem?_eq_some_iff.mp hi).1
    have : i = 0 ∨ i = 1 := by
      have : ([v1, v2] : List V).length = 2 := rfl
      omega
    rcases this with rfl | rfl
    · cases hi
      have d0 := pa rfl
      refine ⟨hw v1, ?_⟩
      refine he1 H' (e01.trans p0) H' (Ex.refl _) _ fun y1 H2 e2 p1 => ⟨[], e2 _ _ d0, by show 0 < sizeLine; decide, Ex.mut (p0.trans e2) hD, fun h => absurd h (by decide), fun _ => ⟨y1, H', p0, (by rw [d0]; intro z; cases z), upd_same, ?_⟩, fun h => absurd h (by decide)⟩
      exact m1 _ _ _ _ (fun b ob hb h => by rw [upd_ne (fun z => by rw [z, d0] at hb; cases hb)]; exact h) p1
    · cases hi
      obtain ⟨y1, B, eB, bD, d1, p1⟩ := pb rfl
      refine ⟨hw v2, ?_⟩
      refine he2 H' (e01.trans p0) H' (Ex.refl _) _ fun y2 H2 e2 p2 => ⟨[y1], e2 _ _ d1, by show 1 < sizeLine; decide, Ex.mut (p0.trans e2) hD, fun h => absurd h (by decide), fun h => absurd h (by decide), fun _ => ⟨y1, y2, B, H', eB, p0, upd_same, ?_, ?_⟩⟩
      · exact m1 _ _ _ _ (fun b ob hb h => by rw [upd_ne (fun z => bD (by rw [← z]; exact hb))]; exact e2 _ _ h) p1
      · exact m2 _ _ _ _ (fun b ob hb h => by rw [upd_ne (fun z => by rw [z, d1] at hb; cases hb)]; exact h) p2
  · obtain ⟨p0, _, _, pc⟩ := p
    obtain ⟨y1, y2, B1, B2, b1, b2, d, p1, p2⟩ := pc rfl
    exact q _ H' (e1.trans p0) ⟨D, y1, y2, B1, B2, rfl, fresh_back e01 hD, e01.trans b1, e01.trans b2, d, p1, p2⟩⟩
end
/-- a pair of new lists -/
def PairNew (es ws : List Nat) (B : Hp) (v : V) (H2 : Hp) : Prop := ∃ t q1 q2, v = .ref t ∧ B t = none ∧ B q1 = none ∧ B q2 = none ∧ H2 t = some (.lst [.ref q1, .ref q2]) ∧ H2 q1 = some (.lst (vi es)) ∧ H2 q2 = some (.lst (vi ws))
theorem PairNew.mono {es ws : List Nat} {B : Hp} {v : V} {H2 H3 : Hp} (k : ∀ b o, B b = none → H2 b = some o → H3 b = some o) (h : PairNew es ws B v H2) : PairNew es ws B v H3 := by
  obtain ⟨t, q1, q2, e, a, b, c, d1, d2, d3⟩ := h
  exact ⟨t, q1, q2, e, a, b, c, k _ _ a d1, k _ _ b d2, k _ _ c d3⟩
theorem TreeNew.mono {C : Addr} {es ws : List Nat} {B : Hp} {v : V} {H2 H3 : Hp} (k : ∀ b o, B b = none → H2 b = some o → H3 b = some o) (h : TreeNew C B H2 v es ws) : TreeNew C B H3 v es ws := by
  obtain ⟨x, dx, a, u, e, n1, n2, n3, d1, d2, d3⟩ := h
  exact ⟨x, dx, a, u, e, n1, n2, n3, k _ _ n1 d1, k _ _ n2 d2, k _ _ n3 d3⟩
theorem vi_ne_ref {l : List Nat} {a b : Addr} : HO.lst (vi l) ≠ HO.lst [.ref a, .ref b] := by
  intro h
  injection h with h
  cases l with
  | nil => cases h
  | cons n r => rw [vi_cons] at h; cases h
section
variable {P : Program} {w : World} {K : PySem.W.Frag} {mg : Str → Option Value} {base : Heap} {C cBad : Addr}
def spLaw (K : PySem.W.Frag) : Sp := fun vs H Q _ => ∃ (a : Addr) (ns : List Int), vs = [.ref a] ∧ SqL K H a (ns.map V.int) ∧ ns.length ≤ 63 ∧ ∀ H', Q (.bl true) H'
theorem ok_law (B : Bi mg) (T : TreeT K mg C) (h_law_tree : Has P w K mg base CX0 "_law_tree" p__law_tree 4 (spPlot K)) (hI_Tree : HasI P w K mg base (L2.CX P w) C p_Tree___init__ 1 (spInit K C cBad)) (h_law_plan : Has P w K mg base CX0 "_law_plan" p__law_plan 3 (spLPlan K)) (h_law_right : Has P w K mg base CX0 "_law_right" p__law_right 5 (spRight K C)) :
    ∀ f fd, Fun K "law" "law" s_law f fd → FnOk P w K mg base CX0 6 f fd p_law (spLaw K) := fun f fd F => by
  refine F.ok sc_law (fun vs H Q E h => ?_) (fun cdv A outer s H vs Q E hr h => ?_)
  · obtain ⟨a, ns, rfl, _⟩ := h
    rfl
  · obtain ⟨sa, ns, rfl, hS, _, q⟩ := h
    refine ⟨_, (pss_cons (ps_set (i := 1) sc_law.nd rfl (Or.inl rfl) (pe_lst (pa_cons (h_law_tree.call (hr.mono (by decide)) (by rfl) pass0 (pa_cons (pv 0) (pa_cons pe_int pa_nil))) (pa_cons (h_law_tree.call (hr.mono (by decide)) (by rfl) pass0 (pa_cons (pe_slice (sl_listK (K := K)) (pv 0) (po_some pe_int) po_none) (pa_cons pe_int pa_nil))) pa_nil))))
      (pss_cons (ps_setLc (i := 2) (own := [("plot", 8)]) (g := gName 8) rfl sc_law.nd rfl rfl (sw_true rfl rfl rfl (by decide +kernel)) (pi_list (pv 1)) (blkOk_by (own := [("plot", 8)]) (N := n_law) (sc := defScope s_law) (by decide +kernel)) (fun _ _ _ _ _ => pg_name (i := 8) sc_law.nd rfl (Or.inl rfl)) (fun _ _ _ _ _ => pts_nil) (fun _ _ _ _ _ => (pe_lst (pa_cons (pe_callTy (call_listK (K := K)) (by rfl) B.list (by decide +kernel) (pa_cons (pe_ix (ix_tupK (K := K)) (pv 8) pe_int (fun _ _ => rfl)) pa_nil)) (pa_cons (pe_callTy (call_listK (K := K)) (by rfl) B.list (by decide +kernel) (pa_cons (pe_ix (ix_tupK (K := K)) (pv 8) pe_int (fun _ _ => rfl)) pa_nil)) pa_nil)))))
      (pss_cons (ps_setLc (i := 3) (own := [("pair", 4)]) (g := gName 4) rfl sc_law.nd rfl rfl (sw_true rfl rfl rfl (by decide +kernel)) (pi_list (pv 2)) (blkOk_by (own := [("pair", 4)]) (N := n_law) (sc := defScope s_law) (by decide +kernel)) (fun _ _ _ _ _ => pg_name (i := 4) sc_law.nd rfl (Or.inl rfl)) (fun _ _ _ _ _ => pts_nil) (fun _ _ _ _ _ => (hI_Tree.make (hr.mono (by decide)) (by rfl) T.g passL (pa_cons (pe_ix (ix_listK (K := K)) (pv 4) pe_int (fun _ _ => rfl)) (pa_cons (pe_ix (ix_listK (K := K)) (pv 4) pe_int (fun _ _ => rfl)) pa_nil)))))
      (pss_cons (ps_for PassesOwn.never rfl (pi_list (pv 2)) (pg_name (i := 4) sc_law.nd rfl (Or.inl rfl)) (pss_cons (ps_expr (pe_bm0 PySem.F.plainAttrs_list PySem.F.slot_list_clear PySem.F.type_list_clear mt_clear (pe_ix (ix_listK (K := K)) (pv 4) pe_int (fun _ _ => rfl))))
        (pss_one (ps_expr (pe_bm0 PySem.F.plainAttrs_list PySem.F.slot_list_clear PySem.F.type_list_clear mt_clear (pe_ix (ix_listK (K := K)) (pv 4) pe_int (fun _ _ => rfl)))))))
      (pss_cons (ps_set (i := 5) sc_law.nd rfl (Or.inl rfl) (h_law_plan.call (hr.mono (by decide)) (by rfl) pass0 (pa_cons (pv 0) (pa_cons (pe_ix (ix_tupK (K := K)) (pe_ix (ix_listK (K := K)) (pv 1) pe_int (fun _ _ => rfl)) pe_int (fun _ _ => rfl)) pa_nil))))
      (pss_cons (ps_for PassesOwn.never rfl (pi_range1 (by rfl) B.range (pa_cons pe_int pa_nil)) (pg_name (i := 6) sc_law.nd rfl (Or.inl rfl)) (pss_one (ps_for PassesOwn.never rfl (pi_range1 (by rfl) B.range (pa_cons pe_int pa_nil)) (pg_name (i := 7) sc_law.nd rfl (Or.inl rfl)) (pss_one (ps_if (pt_not (pt_val (h_law_right.call (hr.mono (by decide)) (by rfl) pass0 (pa_cons (pe_ix (ix_listK (K := K)) (pv 1) (pv 7) (fun _ _ => rfl)) (pa_cons (pe_ix (ix_listK (K := K)) (pv 3) (pv 7) (fun _ _ => rfl)) (pa_cons (pv 5) pa_nil)))))) (pss_one (ps_ret pe_bl)) pss_nil)))))
      (pss_one (ps_ret pe_bl)))))))), ?_⟩
    -- plots
    have cut : cutV (ns.map V.int) (some 1) none = (ns.drop 1).map V.int := by
      unfold cutV
      rw [List.map_drop]
      have : HT.sIx (ns.map V.int).length 0 (some 1) = min 1 ns.length := by simp [HT.sIx]
      rw [this]
      by_cases h : 1 ≤ ns.length
      · rw [Nat.min_eq_left h]
        exact List.take_of_length_le (by simp [HT.sIx])
      · have : ns = [] := by cases ns with | nil => rfl | cons a r => exact absurd (by simp) h
        subst this
        rfl
    have mono : ∀ (v : V) (H2 H3 : Hp), Ex H2 H3 → (∃ p es ws, v = .ref p ∧ PlotAt H2 p es ws ∧ Fm.OkT es ws ∧ ws.length ≤ 14) → ∃ p es ws, v = .ref p ∧ PlotAt H3 p es ws ∧ Fm.OkT es ws ∧ ws.length ≤ 14 := fun v H2 H3 e ⟨p, es, ws, ev, h1, h2⟩ => ⟨p, es, ws, ev, h1.mono e, h2⟩
    refine q_asgP (ep_lst2 mono mono (ep_call0 (ea_cons (ev_var rfl) (ea_cons ev_c ea_nil)) (spp_some (most := 14) hS (by decide) (by decide))) (ep_callL1 (el_is (el_sl (ev_var rfl) (eo_some ev_c) eo_none hS) cut) (fun _ _ => ev_c) fun pl H1 h1 _ => spp_some (most := 14) (sq_of h1) (by decide) (by decide))) fun v H1 e1 ⟨lp, w1, w2, ev, nlp, hlp, ⟨p1, es1, ws1, ew1, hP1, o1, _⟩, ⟨p2, es2, ws2, ew2, hP2, o2, _⟩⟩ => ?_
    subst ev ew1 ew2
    obtain ⟨pe1, pw1, hp1, hpe1, hpw1⟩ := id hP1
    obtain ⟨pe2, pw2, hp2, hpe2, hpw2⟩ := id hP2
    -- handed
    refine q_asgP (ep_lcL2 (P1 := PairNew es1 ws1) (P2 := PairNew es2 ws2) (ev_var rfl) hlp (fun x => rfl) (fun B v H2 H3 k h => h.mono k) (fun B v H2 H3 k h => h.mono k)
      (fun H2 e2 H3 e3 Q' q' => ep_lstLL (el_listS (ev_opIxT (ev_var rfl) ev_c (st_of (e2 _ _ hp1)) rfl) (sq_of (e2 _ _ hpe1))) (el_listS (ev_opIxT (ev_var rfl) ev_c (st_of (e2 _ _ hp1)) rfl) (sq_of (e2 _ _ hpw1))) H3 e3 Q' fun v H4 e4 ⟨t, a, b, ev, nt, na, nb, _, _, _, h1, h2, h3⟩ => q' v H4 e4 ⟨t, a, b, ev, nt, na, nb, h1, h2, h3⟩)
      (fun H2 e2 H3 e3 Q' q' => ep_lstLL (el_listS (ev_opIxT (ev_var rfl) ev_c (st_of (e2 _ _ hp2)) rfl) (sq_of (e2 _ _ hpe2))) (el_listS (ev_opIxT (ev_var rfl) ev_c (st_of (e2 _ _ hp2)) rfl) (sq_of (e2 _ _ hpw2))) H3 e3 Q' fun v H4 e4 ⟨t, a, b, ev, nt, na, nb, _, _, _, h1, h2, h3⟩ => q' v H4 e4 ⟨t, a, b, ev, nt, na, nb, h1, h2, h3⟩))
      fun v H2 e2 ⟨lh, y1, y2, B1, B2, ev, nlh, eB1, eB2, hlh, ⟨t1, a1, b1, ey1, nt1, na1, nb1, ht1, ha1, hb1⟩, ⟨t2, a2, b2, ey2, nt2, na2, nb2, ht2, ha2, hb2⟩⟩ => ?_
    subst ev ey1 ey2
    have na1 := fresh_back eB1 na1
    have nb1 := fresh_back eB1 nb1
    have na2 := fresh_back eB2 na2
    have nb2 := fresh_back eB2 nb2
    -- trees
    refine q_asgP (ep_lcL2 (P1 := fun B v H2 => TreeNew C B H2 v es1 ws1) (P2 := fun B v H2 => TreeNew C B H2 v es2 ws2) (ev_var rfl) hlh (fun x => rfl) (fun B v H2 H3 k h => h.mono k) (fun B v H2 H3 k h => h.mono k)
      (fun H3 e3 => ep_make (ea_cons (ev_opIx (ev_var rfl) ev_c (sq_of (e3 _ _ ht1)) rfl) (ea_cons (ev_opIx (ev_var rfl) ev_c (sq_of (e3 _ _ ht1)) rfl) ea_nil)) (spp_tree (sq_of (e3 _ _ ha1)) (sq_of (e3 _ _ hb1)) o1))
      (fun H3 e3 => ep_make (ea_cons (ev_opIx (ev_var rfl) ev_c (sq_of (e3 _ _ ht2)) rfl) (ea_cons (ev_opIx (ev_var rfl) ev_c (sq_of (e3 _ _ ht2)) rfl) ea_nil)) (spp_tree (sq_of (e3 _ _ ha2)) (sq_of (e3 _ _ hb2)) o2)))
      fun v H3 e3 ⟨lt, y1, y2, B1, B2, ev, nlt, eB1, eB2, hlt, ⟨x1, dx1, f1, u1, ey1, nx1, nf1, nu1, hx1, hf1, hu1⟩, ⟨x2, dx2, f2, u2, ey2, nx2, nf2, nu2, hx2, hf2, hu2⟩⟩ => ?_
    subst ev ey1 ey2
    -- what the clearing does not touch
    have QS : ∃ QS : Addr → Prop, (∀ b, QS b ↔ b = a1 ∨ b = b1 ∨ b = a2 ∨ b = b2) := ⟨_, fun _ => Iff.rfl⟩
    obtain ⟨QS, hQS⟩ := QS
    have q2 : ∀ b, QS b → ∃ l, H2 b = some (.lst (vi l)) := fun b hb => by
      rcases (hQS b).mp hb with rfl | rfl | rfl | rfl
      · exact ⟨_, ha1⟩
      · exact ⟨_, hb1⟩
      · exact ⟨_, ha2⟩
      · exact ⟨_, hb2⟩
    have q1 : ∀ b, QS b → H1 b = none := fun b hb => by
      rcases (hQS b).mp hb with rfl | rfl | rfl | rfl <;> assumption
    have old : ∀ b ob, H1 b = some ob → ¬ QS b := fun b ob h hq => by rw [q1 b hq] at h; cases h
    have new2 : ∀ b, H2 b = none → ¬ QS b := fun b h hq => by
      obtain ⟨l, z⟩ := q2 b hq
      rw [h] at z
      cases z
    have refs : ∀ (b c d : Addr), H2 b = some (.lst [.ref c, .ref d]) → ¬ QS b := fun b c d h hq => by
      obtain ⟨l, z⟩ := q2 b hq
      rw [h] at z
      exact vi_ne_ref (Option.some.inj z).symm
    refine q_forLn (xs := [.ref t1, .ref t2]) (ev_var rfl) (sq_of (e3 _ _ hlh)) (fun i σ' H' => ∃ v4, σ' = [some (.ref sa), some (.ref lp), some (.ref lh), some (.ref lt), v4, none, none, none, none] ∧ (∀ b ob, ¬ QS b → H3 b = some ob → H' b = some ob) ∧ ∀ b, QS b → ∃ l, H' b = some (.lst (vi l)))
      (fun H4 e4 => ⟨none, rfl, fun b ob _ h => e4 _ _ h, fun b hb => by obtain ⟨l, z⟩ := q2 b hb; exact ⟨l, e4 _ _ (e3 _ _ z)⟩⟩) (fun i σ' H' _ ⟨_, _, k, _⟩ => sq_of (k _ _ (refs _ _ _ hlh) (e3 _ _ hlh))) ?_ ?_
    · rintro i x σ' H' hi ⟨v4, rfl, k, kq⟩
      obtain ⟨t, a, b, ex, ht, qa, qb⟩ : ∃ t a b, x = .ref t ∧ H2 t = some (.lst [.ref a, .ref b]) ∧ QS a ∧ QS b := by
        have hlt := (List.getElem?_eq_some_iff.mp hi).1
        have hl2 : ([V.ref t1, V.ref t2] : List V).length = 2 := rfl
        have : i = 0 ∨ i = 1 := by omega
        rcases this with rfl | rfl
        · cases hi
          exact ⟨t1, a1, b1, rfl, ht1, (hQS _).mpr (.inl rfl), (hQS _).mpr (.inr (.inl rfl))⟩
        · cases hi
          exact ⟨t2, a2, b2, rfl, ht2, (hQS _).mpr (.inr (.inr (.inl rfl))), (hQS _).mpr (.inr (.inr (.inr rfl)))⟩
      subst ex
      have ntq := refs _ _ _ ht
      have ht' := k _ _ ntq (e3 _ _ ht)
      obtain ⟨la, hla⟩ := kq a qa
      refine q_clear hla (ev_opIx (ev_var rfl) ev_c (sq_of ht') rfl) fun H4 e4 => ?_
      have k4 : ∀ b ob, ¬ QS b → H3 b = some ob → (upd H4 a (.lst [])) b = some ob := fun b ob hb h => by
        rw [upd_ne (fun z => hb (by rw [z]; exact qa))]
        exact e4 _ _ (k b ob hb h)
      have kq4 : ∀ b, QS b → ∃ l, (upd H4 a (.lst [])) b = some (.lst (vi l)) := fun b hb => by
        by_cases hab : b = a
        · rw [hab, upd_same]; exact ⟨[], rfl⟩
        · obtain ⟨l, z⟩ := kq b hb
          exact ⟨l, by rw [upd_ne hab]; exact e4 _ _ z⟩
      generalize upd H4 a (.lst []) = H5 at k4 kq4
      obtain ⟨lb, hlb⟩ := kq4 b qb
      refine s_clear hlb (ev_opIx (ev_var rfl) ev_c (sq_of (k4 _ _ ntq (e3 _ _ ht))) rfl) fun H6 e6 => ⟨_, rfl, fun c ob hc h => ?_, fun c hc => ?_⟩
      · rw [upd_ne (fun z => hc (by rw [z]; exact qb))]
        exact e6 _ _ (k4 c ob hc h)
      · by_cases hcb : c = b
        · rw [hcb, upd_same]; exact ⟨[], rfl⟩
        · obtain ⟨l, z⟩ := kq4 c hc
          exact ⟨l, by rw [upd_ne hcb]; exact e6 _ _ z⟩
    · rintro σ' H' ⟨v4, rfl, k, _⟩
      have fr1 : ∀ b, B1 b = none → ¬ QS b := fun b h => new2 b (fresh_back eB1 h)
      have fr2 : ∀ b, B2 b = none → ¬ QS b := fun b h => new2 b (fresh_back eB2 h)
      have TA1 : TreeAt C H' x1 es1 ws1 := ⟨⟨dx1, f1, u1, k _ _ (fr1 _ nx1) hx1, k _ _ (fr1 _ nf1) hf1, k _ _ (fr1 _ nu1) hu1⟩, o1⟩
      have TA2 : TreeAt C H' x2 es2 ws2 := ⟨⟨dx2, f2, u2, k _ _ (fr2 _ nx2) hx2, k _ _ (fr2 _ nf2) hf2, k _ _ (fr2 _ nu2) hu2⟩, o2⟩
      have e23 := e2.trans e3
      have ko : ∀ b ob, H1 b = some ob → H' b = some ob := fun b ob h => k b ob (old b ob h) (e23 _ _ h)
      have hP1' : PlotAt H' p1 es1 ws1 := hP1.mono ko
      have hP2' : PlotAt H' p2 es2 ws2 := hP2.mono ko
      have hlp' := ko _ _ hlp
      have hlt' : H' lt = some (.lst [.ref x1, .ref x2]) := k _ _ (new2 _ nlt) hlt
      have o1l := o1.len
      have o1m := o1.most
      -- plan
      refine q_asgP (ep_call0 (ea_cons (ev_var rfl) (ea_cons (ev_opIxT (ev_opIx (ev_var rfl) ev_c (sq_of hlp') rfl) ev_c (st_of (ko _ _ hp1)) rfl) ea_nil)) (spp_lplan (ex_l (e1.trans ko) hS) (sq_of (ko _ _ hpe1)) o1.up (by omega))) fun v H4 e4 ⟨pl, plan, ev, hpl, hplen⟩ => ?_
      subst ev
      refine q_forR1 (n := 2) (ea_cons ev_c ea_nil) ⟨by decide, by decide⟩ (fun i σ' H' => ∃ v4 v6 v7, σ' = [some (.ref sa), some (.ref lp), some (.ref lh), some (.ref lt), v4, some (.ref pl), v6, v7, none] ∧ Ex H4 H') (fun H5 e5 => ⟨_, _, _, rfl, e5⟩) ?_ ?_
      · rintro i σ' H5 hi ⟨v4, v6, v7, rfl, e5⟩
        refine s_forR1 (n := 2) (ea_cons ev_c ea_nil) ⟨by decide, by decide⟩ (fun j σ' H' => ∃ v4 v6 v7, σ' = [some (.ref sa), some (.ref lp), some (.ref lh), some (.ref lt), v4, some (.ref pl), v6, v7, none] ∧ Ex H4 H') (fun H6 e6 => ⟨_, _, _, rfl, e5.trans e6⟩) ?_ ?_
        · rintro j σ' H6 hj ⟨v4, v6, v7, rfl, e6⟩
          have E6 := e4.trans e6
          have : j = 0 ∨ j = 1 := by omega
          rcases this with rfl | rfl
          · exact s_when (b := false) (et_not (a := true) (et_B (ev_call0 (ea_cons (ev_opIx (ev_var rfl) (ev_var rfl) (sq_of (E6 _ _ hlp')) rfl) (ea_cons (ev_opIx (ev_var rfl) (ev_var rfl) (sq_of (E6 _ _ hlt')) rfl) (ea_cons (ev_var rfl) ea_nil))) (spv_right (hP1'.mono E6) (TA1.mono E6) (e6 _ _ hpl) (by omega))))) (fun h => no h) fun _ H7 e7 => ⟨_, _, _, rfl, e6.trans e7⟩
          · exact s_when (b := false) (et_not (a := true) (et_B (ev_call0 (ea_cons (ev_opIx (ev_var rfl) (ev_var rfl) (sq_of (E6 _ _ hlp')) rfl) (ea_cons (ev_opIx (ev_var rfl) (ev_var rfl) (sq_of (E6 _ _ hlt')) rfl) (ea_cons (ev_var rfl) ea_nil))) (spv_right (hP2'.mono E6) (TA2.mono E6) (e6 _ _ hpl) (by omega))))) (fun h => no h) fun _ H7 e7 => ⟨_, _, _, rfl, e6.trans e7⟩
        · rintro σ' H6 ⟨v4, v6, v7, rfl, e6⟩
          exact ⟨_, _, _, rfl, e6⟩
      · rintro σ' H5 ⟨v4, v6, v7, rfl, e5⟩
        exact s_ret ev_c fun H6 e6 => q H6
/-- the whole chain, from what the top has left -/
theorem chain {c : Cs} (B : Bi mg) (T : TreeT K mg C) {t1 t2 : Tok} (c_MOST : mg "MOST" = some (.int 14 t1)) (c_WORTHS : mg "WORTHS" = some (.int 1000 t2)) (eB : Err K mg "BadTree" c.bad) (eN : Err K mg "NoThing" c.no) (eP : Err K mg "BadPlan" c.plan)
    (G : Gs mg c) (xN : PySem.W.exmOne K (.ref c.no) (.ref c.fire) = some true) (xP : PySem.W.exmOne K (.ref c.plan) (.ref c.fire) = some true) (aN : Alone K c c.no 1) (aP : Alone K c c.plan 2)
    (d1 : At K mg "spread" s_spread p_spread) (d2 : At K mg "burnt" s_burnt p_burnt) (d3 : At K mg "saved" s_saved p_saved) (d4 : AtI K C "Tree.__init__" s_Tree___init__ p_Tree___init__) (d5 : AtM K C "things" "Tree.things" s_Tree_things p_Tree_things) (d6 : AtM K C "see_thing" "Tree.see_thing" s_Tree_see_thing p_Tree_see_thing)
    (d7 : At K mg "_law_cell_at" s__law_cell_at p__law_cell_at) (d8 : At K mg "_law_draw" s__law_draw p__law_draw) (d9 : At K mg "_law_whole" s__law_whole p__law_whole) (d10 : At K mg "_law_elders" s__law_elders p__law_elders) (d11 : At K mg "_law_tree" s__law_tree p__law_tree) (d12 : At K mg "_law_depth" s__law_depth p__law_depth)
    (d13 : At K mg "_law_fire" s__law_fire p__law_fire) (d14 : At K mg "_law_saved" s__law_saved p__law_saved) (d15 : At K mg "_law_numbers" s__law_numbers p__law_numbers) (d16 : At K mg "_law_alone" s__law_alone p__law_alone) (d17 : At K mg "_law_plan" s__law_plan p__law_plan) (d18 : At K mg "_law_tried" s__law_tried p__law_tried)
    (d19 : At K mg "_law_rows_right" s__law_rows_right p__law_rows_right) (d20 : At K mg "_law_right" s__law_right p__law_right) : ∀ f fd, Fun K "law" "law" s_law f fd → FnOk P w K mg base CX0 6 f fd p_law (spLaw K) := by
  have g7 := has_cell (P := P) (w := w) (base := base) B d7
  have g8 := has_draw d8 g7
  have g10 := has_elders B d10 g8
  have g11 := has_plot B d11 g8 g10
  have g9 := has_whole (P := P) (w := w) (base := base) B d9
  have g15 := has_numbers B d15 g9
  have g12 := has_ldepth (P := P) (w := w) (base := base) d12
  have g5 := has_things (P := P) (w := w) (base := base) B T d5
  have g6 := has_see (P := P) (w := w) (base := base) B T eN d6
  have g1 := has_spread B T eP g6 g5 d1
  have g2 := has_burnt T g1 d2
  have g3 := has_saved B T g1 g5 d3
  have g13 := has_lfire (P := P) (w := w) (base := base) B d13
  have g14 := has_lsaved B g13 d14
  have g16 := has_alone (P := P) (w := w) (base := base) B G d16
  have g17 := has_lplan B g8 g12 d17
  have g18 := has_tried G xN xP g2 g3 d18
  have g19 := has_rowsRight B g15 d19
  have g20 := has_right B aN aP g13 g18 g16 g19 g9 g14 d20
  exact ok_law B T g11 (has_init B T c_MOST c_WORTHS eB d4) g17 g20
end
end Fi
namespace Fi
open PySem L2 Evl
theorem all_mk {l : PySem.W.OpenLaw} {w : World} {K : PySem.W.Frag} {h : Heap} {mg : Str → Option Value} {fa : Addr} (X : K.In h) (G : h.Ns mainGlobals mg) (hfa : mg "law" = some (.ref fa))
    {C : Addr}
    {tk0 : Tok}
    {tk1 : Tok}
    {E_BadTree : Addr}
    {E_NoThing : Addr}
    {E_BadPlan : Addr}
    {E_FireError : Addr}
    {E_NoText : Addr}
    {f1 : Addr} {od1 an1 : Option Addr} {sl1 : Array (Option Value)} {oc1 kV1 dc1 pm1 cd1 ct1 : Value}
    {f2 : Addr} {od2 an2 : Option Addr} {sl2 : Array (Option Value)} {oc2 kV2 dc2 pm2 cd2 ct2 : Value}
    {f3 : Addr} {od3 an3 : Option Addr} {sl3 : Array (Option Value)} {oc3 kV3 dc3 pm3 cd3 ct3 : Value}
    {f4 : Addr} {od4 an4 : Option Addr} {sl4 : Array (Option Value)} {oc4 kV4 dc4 pm4 cd4 ct4 : Value}
    {f7 : Addr} {od7 an7 : Option Addr} {sl7 : Array (Option Value)} {oc7 kV7 dc7 pm7 cd7 ct7 : Value}
    {f8 : Addr} {od8 an8 : Option Addr} {sl8 : Array (Option Value)} {oc8 kV8 dc8 pm8 cd8 ct8 : Value}
    {f12 : Addr} {od12 an12 : Option Addr} {sl12 : Array (Option Value)} {oc12 kV12 dc12 pm12 cd12 ct12 : Value}
    {f13 : Addr} {od13 an13 : Option Addr} {sl13 : Array (Option Value)} {oc13 kV13 dc13 pm13 cd13 ct13 : Value}
    {f14 : Addr} {od14 an14 : Option Addr} {sl14 : Array (Option Value)} {oc14 kV14 dc14 pm14 cd14 ct14 : Value}
    {f15 : Addr} {od15 an15 : Option Addr} {sl15 : Array (Option Value)} {oc15 kV15 dc15 pm15 cd15 ct15 : Value}
    {f16 : Addr} {od16 an16 : Option Addr} {sl16 : Array (Option Value)} {oc16 kV16 dc16 pm16 cd16 ct16 : Value}
    {f17 : Addr} {od17 an17 : Option Addr} {sl17 : Array (Option Value)} {oc17 kV17 dc17 pm17 cd17 ct17 : Value}
    {f20 : Addr} {od20 an20 : Option Addr} {sl20 : Array (Option Value)} {oc20 kV20 dc20 pm20 cd20 ct20 : Value}
    {f21 : Addr} {od21 an21 : Option Addr} {sl21 : Array (Option Value)} {oc21 kV21 dc21 pm21 cd21 ct21 : Value}
    {f22 : Addr} {od22 an22 : Option Addr} {sl22 : Array (Option Value)} {oc22 kV22 dc22 pm22 cd22 ct22 : Value}
    {f23 : Addr} {od23 an23 : Option Addr} {sl23 : Array (Option Value)} {oc23 kV23 dc23 pm23 cd23 ct23 : Value}
    {f24 : Addr} {od24 an24 : Option Addr} {sl24 : Array (Option Value)} {oc24 kV24 dc24 pm24 cd24 ct24 : Value}
    {f25 : Addr} {od25 an25 : Option Addr} {sl25 : Array (Option Value)} {oc25 kV25 dc25 pm25 cd25 ct25 : Value}
    {f26 : Addr} {od26 an26 : Option Addr} {sl26 : Array (Option Value)} {oc26 kV26 dc26 pm26 cd26 ct26 : Value}
    {f27 : Addr} {od27 an27 : Option Addr} {sl27 : Array (Option Value)} {oc27 kV27 dc27 pm27 cd27 ct27 : Value}
    {f28 : Addr} {od28 an28 : Option Addr} {sl28 : Array (Option Value)} {oc28 kV28 dc28 pm28 cd28 ct28 : Value}
    (z1 : PySem.W.nsIn K mainGlobals "len" = some none)
    (z2 : PySem.W.nsIn K mainGlobals "range" = some none)
    (z3 : PySem.W.nsIn K mainGlobals "list" = some none)
    (z4 : PySem.W.nsIn K mainGlobals "sum" = some none)
    (z5 : PySem.W.nsIn K mainGlobals "max" = some none)
    (z6 : PySem.W.nsIn K mainGlobals "min" = some none)
    (z7 : PySem.W.nsIn K mainGlobals "isinstance" = some none)
    (z8 : PySem.W.nsIn K mainGlobals "int" = some none)
    (z9 : PySem.W.nsIn K mainGlobals "bool" = some none)
    (z10 : PySem.W.nsIn K mainGlobals "str" = some none)
    (z11 : PySem.W.nsIn K mainGlobals "tuple" = some none)
    (z12 : PySem.W.nsIn K mainGlobals "enumerate" = some none)
    (z13 : PySem.W.nsIn K mainGlobals "ValueError" = some none)
    (aC : PySem.W.nsIn K mainGlobals "Tree" = some (some (.ref C)))
    (pg : PySem.W.plainGet K C Str.empty = true)
    (hd : PySem.W.hasDictIn K C = true)
    (po : PySem.W.plainOver K C = true)
    (sa : PySem.W.findIn K (.ref C) "__setattr__" = some (some (.builtin "object.__setattr__")))
    (mk : PySem.W.makesIn K C = true)
    (kc : PySem.W.keepIn K (.ref C) = true)
    (nA : PySem.W.findIn K (.ref C) "above" = some none)
    (nW : PySem.W.findIn K (.ref C) "worth" = some none)
    (k_MOST : PySem.W.nsIn K mainGlobals "MOST" = some (some (.int 14 tk0)))
    (k_WORTHS : PySem.W.nsIn K mainGlobals "WORTHS" = some (some (.int 1000 tk1)))
    (ea_BadTree : PySem.W.nsIn K mainGlobals "BadTree" = some (some (.ref E_BadTree)))
    (eq_BadTree : PySem.W.excIn K E_BadTree [.type "ValueError", .type "Exception", .type "BaseException", .type "object"] "ValueError.__new__" = true)
    (ek_BadTree : PySem.W.keepIn K (.ref E_BadTree) = true)
    (eb_BadTree : PySem.W.subIn K (.ref E_BadTree) (.type "BaseException") = some true)
    (et_BadTree : PySem.W.typeIn K (.ref E_BadTree) = some (.type "type"))
    (ea_NoThing : PySem.W.nsIn K mainGlobals "NoThing" = some (some (.ref E_NoThing)))
    (eq_NoThing : PySem.W.excIn K E_NoThing [.type "ValueError", .type "Exception", .type "BaseException", .type "object"] "ValueError.__new__" = true)
    (ek_NoThing : PySem.W.keepIn K (.ref E_NoThing) = true)
    (eb_NoThing : PySem.W.subIn K (.ref E_NoThing) (.type "BaseException") = some true)
    (et_NoThing : PySem.W.typeIn K (.ref E_NoThing) = some (.type "type"))
    (ea_BadPlan : PySem.W.nsIn K mainGlobals "BadPlan" = some (some (.ref E_BadPlan)))
    (eq_BadPlan : PySem.W.excIn K E_BadPlan [.type "ValueError", .type "Exception", .type "BaseException", .type "object"] "ValueError.__new__" = true)
    (ek_BadPlan : PySem.W.keepIn K (.ref E_BadPlan) = true)
    (eb_BadPlan : PySem.W.subIn K (.ref E_BadPlan) (.type "BaseException") = some true)
    (et_BadPlan : PySem.W.typeIn K (.ref E_BadPlan) = some (.type "type"))
    (ea_FireError : PySem.W.nsIn K mainGlobals "FireError" = some (some (.ref E_FireError)))
    (et_FireError : PySem.W.typeIn K (.ref E_FireError) = some (.type "type"))
    (eb_FireError : PySem.W.subIn K (.ref E_FireError) (.type "BaseException") = some true)
    (ei_FireError : PySem.W.isClsIn K E_FireError = true)
    (ei_BadTree : PySem.W.isClsIn K E_BadTree = true)
    (ei_NoThing : PySem.W.isClsIn K E_NoThing = true)
    (ei_BadPlan : PySem.W.isClsIn K E_BadPlan = true)
    (ea_NoText : PySem.W.nsIn K mainGlobals "NoText" = some (some (.ref E_NoText)))
    (et_NoText : PySem.W.typeIn K (.ref E_NoText) = some (.type "type"))
    (eb_NoText : PySem.W.subIn K (.ref E_NoText) (.type "BaseException") = some true)
    (ei_NoText : PySem.W.isClsIn K E_NoText = true)
    (fd_Fire : PySem.W.hasDictIn K E_FireError = true)
    (xn : PySem.W.specialIn K (.builtin "object.__class__") "__get__" = some (some (.builtin "getset_descriptor.__get__")))
    (xt : PySem.W.takesIn K (.builtin "object.__class__") = some true)
    (xg_NoThing : PySem.W.findIn K (.ref E_NoThing) "__getattribute__" = some (some (.builtin "BaseException.__getattribute__")))
    (xk_NoThing : PySem.W.findIn K (.ref E_NoThing) "__getattr__" = some none)
    (xd_NoThing : PySem.W.hasDictIn K E_NoThing = true)
    (xa_NoThing : PySem.W.findIn K (.ref E_NoThing) "__class__" = some (some (.builtin "object.__class__")))
    (xm_NoThing : PySem.W.mroIn K E_NoThing (.type "object") = some true)
    (sb_NoThing_FireError : PySem.W.subIn K (.ref E_NoThing) (.ref E_FireError) = some true)
    (sb_NoThing_BadTree : PySem.W.subIn K (.ref E_NoThing) (.ref E_BadTree) = some false)
    (sb_NoThing_NoThing : PySem.W.subIn K (.ref E_NoThing) (.ref E_NoThing) = some true)
    (sb_NoThing_BadPlan : PySem.W.subIn K (.ref E_NoThing) (.ref E_BadPlan) = some false)
    (sb_NoThing_NoText : PySem.W.subIn K (.ref E_NoThing) (.ref E_NoText) = some false)
    (sv_NoThing : PySem.W.subIn K (.ref E_NoThing) (.type "ValueError") = some true)
    (xg_BadPlan : PySem.W.findIn K (.ref E_BadPlan) "__getattribute__" = some (some (.builtin "BaseException.__getattribute__")))
    (xk_BadPlan : PySem.W.findIn K (.ref E_BadPlan) "__getattr__" = some none)
    (xd_BadPlan : PySem.W.hasDictIn K E_BadPlan = true)
    (xa_BadPlan : PySem.W.findIn K (.ref E_BadPlan) "__class__" = some (some (.builtin "object.__class__")))
    (xm_BadPlan : PySem.W.mroIn K E_BadPlan (.type "object") = some true)
    (sb_BadPlan_FireError : PySem.W.subIn K (.ref E_BadPlan) (.ref E_FireError) = some true)
    (sb_BadPlan_BadTree : PySem.W.subIn K (.ref E_BadPlan) (.ref E_BadTree) = some false)
    (sb_BadPlan_NoThing : PySem.W.subIn K (.ref E_BadPlan) (.ref E_NoThing) = some false)
    (sb_BadPlan_BadPlan : PySem.W.subIn K (.ref E_BadPlan) (.ref E_BadPlan) = some true)
    (sb_BadPlan_NoText : PySem.W.subIn K (.ref E_BadPlan) (.ref E_NoText) = some false)
    (sv_BadPlan : PySem.W.subIn K (.ref E_BadPlan) (.type "ValueError") = some true)
    (a1 : PySem.W.nsIn K mainGlobals "spread" = some (some (.ref f1)))
    (l1 : K.lookup f1 = some ⟨oc1, od1, .func (PySem.W.fnOf "spread" "spread" (defArgs s_spread) (defBody s_spread) (defScope s_spread) .none kV1 dc1 pm1 an1 cd1 ct1), sl1⟩)
    (c1 : PySem.W.codeIn K cd1 "spread" = true)
    (k1 : PySem.W.keepIn K (.ref f1) = true)
    (a2 : PySem.W.nsIn K mainGlobals "burnt" = some (some (.ref f2)))
    (l2 : K.lookup f2 = some ⟨oc2, od2, .func (PySem.W.fnOf "burnt" "burnt" (defArgs s_burnt) (defBody s_burnt) (defScope s_burnt) .none kV2 dc2 pm2 an2 cd2 ct2), sl2⟩)
    (c2 : PySem.W.codeIn K cd2 "burnt" = true)
    (k2 : PySem.W.keepIn K (.ref f2) = true)
    (a3 : PySem.W.nsIn K mainGlobals "saved" = some (some (.ref f3)))
    (l3 : K.lookup f3 = some ⟨oc3, od3, .func (PySem.W.fnOf "saved" "saved" (defArgs s_saved) (defBody s_saved) (defScope s_saved) .none kV3 dc3 pm3 an3 cd3 ct3), sl3⟩)
    (c3 : PySem.W.codeIn K cd3 "saved" = true)
    (k3 : PySem.W.keepIn K (.ref f3) = true)
    (a4 : PySem.W.findIn K (.ref C) "__init__" = some (some (.ref f4)))
    (i4 : PySem.W.isFn K (.ref f4) = true)
    (l4 : K.lookup f4 = some ⟨oc4, od4, .func (PySem.W.fnOf "__init__" "Tree.__init__" (defArgs s_Tree___init__) (defBody s_Tree___init__) (defScope s_Tree___init__) .none kV4 dc4 pm4 an4 cd4 ct4), sl4⟩)
    (c4 : PySem.W.codeIn K cd4 "Tree.__init__" = true)
    (k4 : PySem.W.keepIn K (.ref f4) = true)
    (a7 : PySem.W.findIn K (.ref C) "things" = some (some (.ref f7)))
    (i7 : PySem.W.isFn K (.ref f7) = true)
    (l7 : K.lookup f7 = some ⟨oc7, od7, .func (PySem.W.fnOf "things" "Tree.things" (defArgs s_Tree_things) (defBody s_Tree_things) (defScope s_Tree_things) .none kV7 dc7 pm7 an7 cd7 ct7), sl7⟩)
    (c7 : PySem.W.codeIn K cd7 "Tree.things" = true)
    (k7 : PySem.W.keepIn K (.ref f7) = true)
    (a8 : PySem.W.findIn K (.ref C) "see_thing" = some (some (.ref f8)))
    (i8 : PySem.W.isFn K (.ref f8) = true)
    (l8 : K.lookup f8 = some ⟨oc8, od8, .func (PySem.W.fnOf "see_thing" "Tree.see_thing" (defArgs s_Tree_see_thing) (defBody s_Tree_see_thing) (defScope s_Tree_see_thing) .none kV8 dc8 pm8 an8 cd8 ct8), sl8⟩)
    (c8 : PySem.W.codeIn K cd8 "Tree.see_thing" = true)
    (k8 : PySem.W.keepIn K (.ref f8) = true)
    (a12 : PySem.W.nsIn K mainGlobals "_law_cell_at" = some (some (.ref f12)))
    (l12 : K.lookup f12 = some ⟨oc12, od12, .func (PySem.W.fnOf "_law_cell_at" "_law_cell_at" (defArgs s__law_cell_at) (defBody s__law_cell_at) (defScope s__law_cell_at) .none kV12 dc12 pm12 an12 cd12 ct12), sl12⟩)
    (c12 : PySem.W.codeIn K cd12 "_law_cell_at" = true)
    (k12 : PySem.W.keepIn K (.ref f12) = true)
    (a13 : PySem.W.nsIn K mainGlobals "_law_draw" = some (some (.ref f13)))
    (l13 : K.lookup f13 = some ⟨oc13, od13, .func (PySem.W.fnOf "_law_draw" "_law_draw" (defArgs s__law_draw) (defBody s__law_draw) (defScope s__law_draw) .none kV13 dc13 pm13 an13 cd13 ct13), sl13⟩)
    (c13 : PySem.W.codeIn K cd13 "_law_draw" = true)
    (k13 : PySem.W.keepIn K (.ref f13) = true)
    (a14 : PySem.W.nsIn K mainGlobals "_law_whole" = some (some (.ref f14)))
    (l14 : K.lookup f14 = some ⟨oc14, od14, .func (PySem.W.fnOf "_law_whole" "_law_whole" (defArgs s__law_whole) (defBody s__law_whole) (defScope s__law_whole) .none kV14 dc14 pm14 an14 cd14 ct14), sl14⟩)
    (c14 : PySem.W.codeIn K cd14 "_law_whole" = true)
    (k14 : PySem.W.keepIn K (.ref f14) = true)
    (a15 : PySem.W.nsIn K mainGlobals "_law_elders" = some (some (.ref f15)))
    (l15 : K.lookup f15 = some ⟨oc15, od15, .func (PySem.W.fnOf "_law_elders" "_law_elders" (defArgs s__law_elders) (defBody s__law_elders) (defScope s__law_elders) .none kV15 dc15 pm15 an15 cd15 ct15), sl15⟩)
    (c15 : PySem.W.codeIn K cd15 "_law_elders" = true)
    (k15 : PySem.W.keepIn K (.ref f15) = true)
    (a16 : PySem.W.nsIn K mainGlobals "_law_tree" = some (some (.ref f16)))
    (l16 : K.lookup f16 = some ⟨oc16, od16, .func (PySem.W.fnOf "_law_tree" "_law_tree" (defArgs s__law_tree) (defBody s__law_tree) (defScope s__law_tree) .none kV16 dc16 pm16 an16 cd16 ct16), sl16⟩)
    (c16 : PySem.W.codeIn K cd16 "_law_tree" = true)
    (k16 : PySem.W.keepIn K (.ref f16) = true)
    (a17 : PySem.W.nsIn K mainGlobals "_law_depth" = some (some (.ref f17)))
    (l17 : K.lookup f17 = some ⟨oc17, od17, .func (PySem.W.fnOf "_law_depth" "_law_depth" (defArgs s__law_depth) (defBody s__law_depth) (defScope s__law_depth) .none kV17 dc17 pm17 an17 cd17 ct17), sl17⟩)
    (c17 : PySem.W.codeIn K cd17 "_law_depth" = true)
    (k17 : PySem.W.keepIn K (.ref f17) = true)
    (a20 : PySem.W.nsIn K mainGlobals "_law_fire" = some (some (.ref f20)))
    (l20 : K.lookup f20 = some ⟨oc20, od20, .func (PySem.W.fnOf "_law_fire" "_law_fire" (defArgs s__law_fire) (defBody s__law_fire) (defScope s__law_fire) .none kV20 dc20 pm20 an20 cd20 ct20), sl20⟩)
    (c20 : PySem.W.codeIn K cd20 "_law_fire" = true)
    (k20 : PySem.W.keepIn K (.ref f20) = true)
    (a21 : PySem.W.nsIn K mainGlobals "_law_saved" = some (some (.ref f21)))
    (l21 : K.lookup f21 = some ⟨oc21, od21, .func (PySem.W.fnOf "_law_saved" "_law_saved" (defArgs s__law_saved) (defBody s__law_saved) (defScope s__law_saved) .none kV21 dc21 pm21 an21 cd21 ct21), sl21⟩)
    (c21 : PySem.W.codeIn K cd21 "_law_saved" = true)
    (k21 : PySem.W.keepIn K (.ref f21) = true)
    (a22 : PySem.W.nsIn K mainGlobals "_law_numbers" = some (some (.ref f22)))
    (l22 : K.lookup f22 = some ⟨oc22, od22, .func (PySem.W.fnOf "_law_numbers" "_law_numbers" (defArgs s__law_numbers) (defBody s__law_numbers) (defScope s__law_numbers) .none kV22 dc22 pm22 an22 cd22 ct22), sl22⟩)
    (c22 : PySem.W.codeIn K cd22 "_law_numbers" = true)
    (k22 : PySem.W.keepIn K (.ref f22) = true)
    (a23 : PySem.W.nsIn K mainGlobals "_law_alone" = some (some (.ref f23)))
    (l23 : K.lookup f23 = some ⟨oc23, od23, .func (PySem.W.fnOf "_law_alone" "_law_alone" (defArgs s__law_alone) (defBody s__law_alone) (defScope s__law_alone) .none kV23 dc23 pm23 an23 cd23 ct23), sl23⟩)
    (c23 : PySem.W.codeIn K cd23 "_law_alone" = true)
    (k23 : PySem.W.keepIn K (.ref f23) = true)
    (a24 : PySem.W.nsIn K mainGlobals "_law_plan" = some (some (.ref f24)))
    (l24 : K.lookup f24 = some ⟨oc24, od24, .func (PySem.W.fnOf "_law_plan" "_law_plan" (defArgs s__law_plan) (defBody s__law_plan) (defScope s__law_plan) .none kV24 dc24 pm24 an24 cd24 ct24), sl24⟩)
    (c24 : PySem.W.codeIn K cd24 "_law_plan" = true)
    (k24 : PySem.W.keepIn K (.ref f24) = true)
    (a25 : PySem.W.nsIn K mainGlobals "_law_tried" = some (some (.ref f25)))
    (l25 : K.lookup f25 = some ⟨oc25, od25, .func (PySem.W.fnOf "_law_tried" "_law_tried" (defArgs s__law_tried) (defBody s__law_tried) (defScope s__law_tried) .none kV25 dc25 pm25 an25 cd25 ct25), sl25⟩)
    (c25 : PySem.W.codeIn K cd25 "_law_tried" = true)
    (k25 : PySem.W.keepIn K (.ref f25) = true)
    (a26 : PySem.W.nsIn K mainGlobals "_law_rows_right" = some (some (.ref f26)))
    (l26 : K.lookup f26 = some ⟨oc26, od26, .func (PySem.W.fnOf "_law_rows_right" "_law_rows_right" (defArgs s__law_rows_right) (defBody s__law_rows_right) (defScope s__law_rows_right) .none kV26 dc26 pm26 an26 cd26 ct26), sl26⟩)
    (c26 : PySem.W.codeIn K cd26 "_law_rows_right" = true)
    (k26 : PySem.W.keepIn K (.ref f26) = true)
    (a27 : PySem.W.nsIn K mainGlobals "_law_right" = some (some (.ref f27)))
    (l27 : K.lookup f27 = some ⟨oc27, od27, .func (PySem.W.fnOf "_law_right" "_law_right" (defArgs s__law_right) (defBody s__law_right) (defScope s__law_right) .none kV27 dc27 pm27 an27 cd27 ct27), sl27⟩)
    (c27 : PySem.W.codeIn K cd27 "_law_right" = true)
    (k27 : PySem.W.keepIn K (.ref f27) = true)
    (a28 : PySem.W.nsIn K mainGlobals "law" = some (some (.ref f28)))
    (l28 : K.lookup f28 = some ⟨oc28, od28, .func (PySem.W.fnOf "law" "law" (defArgs s_law) (defBody s_law) (defScope s_law) .none kV28 dc28 pm28 an28 cd28 ct28), sl28⟩)
    (c28 : PySem.W.codeIn K cd28 "law" = true)
    (k28 : PySem.W.keepIn K (.ref f28) = true)
    : ∃ fd : FuncData, (∀ (s : Shared) (v : Value), BindsTo s fd ⟨[v], []⟩ [("script", v)]) ∧ ∀ base : Heap, K.In base → base.Ns mainGlobals mg → FnOk l.prog w K mg base CX0 6 fa fd ["script"] (spLaw K) := by
  have e := hfa.symm.trans (PySem.W.mg_of X G a28)
  cases e
  exact ⟨PySem.W.fnOf "law" "law" (defArgs s_law) (defBody s_law) (defScope s_law) .none kV28 dc28 pm28 an28 cd28 ct28, fun s v => .of_eq rfl, fun base _ _ => chain (bi_mk X G z1 z2 z3 z4 z5 z6 z7 z8 z9 z10 z11 z12 z13) ⟨⟨pg, hd, po, sa⟩, nA, nW, PySem.W.mg_of X G aC⟩ (PySem.W.mg_of X G k_MOST) (PySem.W.mg_of X G k_WORTHS) (err_mk X G ea_BadTree eq_BadTree ek_BadTree eb_BadTree et_BadTree) (err_mk X G ea_NoThing eq_NoThing ek_NoThing eb_NoThing et_NoThing) (err_mk X G ea_BadPlan eq_BadPlan ek_BadPlan eb_BadPlan et_BadPlan) (c := ⟨E_FireError, E_BadTree, E_NoThing, E_BadPlan, E_NoText⟩) ⟨PySem.W.mg_of X G ea_FireError, PySem.W.mg_of X G ea_BadTree, PySem.W.mg_of X G ea_NoThing, PySem.W.mg_of X G ea_BadPlan, PySem.W.mg_of X G ea_NoText⟩ (PySem.W.exm_ref eb_FireError fd_Fire et_FireError sb_NoThing_FireError) (PySem.W.exm_ref eb_FireError fd_Fire et_FireError sb_BadPlan_FireError) ⟨by decide, ⟨xg_NoThing, xk_NoThing, eb_NoThing, xd_NoThing, xa_NoThing, xn, xt, xm_NoThing⟩, kit_ref ei_BadTree et_BadTree sb_NoThing_BadTree sb_NoThing_NoThing, kit_ref ei_NoThing et_NoThing sb_NoThing_NoThing sb_NoThing_NoThing, kit_ref ei_BadPlan et_BadPlan sb_NoThing_BadPlan sb_NoThing_NoThing, kit_ref ei_NoText et_NoText sb_NoThing_NoText sb_NoThing_NoThing, kit_ref ei_FireError et_FireError sb_NoThing_FireError sb_NoThing_NoThing, kit_ve sv_NoThing⟩ ⟨by decide, ⟨xg_BadPlan, xk_BadPlan, eb_BadPlan, xd_BadPlan, xa_BadPlan, xn, xt, xm_BadPlan⟩, kit_ref ei_BadTree et_BadTree sb_BadPlan_BadTree sb_BadPlan_BadPlan, kit_ref ei_NoThing et_NoThing sb_BadPlan_NoThing sb_BadPlan_BadPlan, kit_ref ei_BadPlan et_BadPlan sb_BadPlan_BadPlan sb_BadPlan_BadPlan, kit_ref ei_NoText et_NoText sb_BadPlan_NoText sb_BadPlan_BadPlan, kit_ref ei_FireError et_FireError sb_BadPlan_FireError sb_BadPlan_BadPlan, kit_ve sv_BadPlan⟩ (at_mk X G a1 l1 c1 k1 bd_spread) (at_mk X G a2 l2 c2 k2 bd_burnt) (at_mk X G a3 l3 c3 k3 bd_saved) (ati_mk a4 i4 l4 c4 k4 mk kc bd_Tree___init__) (atm_mk a7 i7 l7 c7 k7 bd_Tree_things) (atm_mk a8 i8 l8 c8 k8 bd_Tree_see_thing) (at_mk X G a12 l12 c12 k12 bd__law_cell_at) (at_mk X G a13 l13 c13 k13 bd__law_draw) (at_mk X G a14 l14 c14 k14 bd__law_whole) (at_mk X G a15 l15 c15 k15 bd__law_elders) (at_mk X G a16 l16 c16 k16 bd__law_tree) (at_mk X G a17 l17 c17 k17 bd__law_depth) (at_mk X G a20 l20 c20 k20 bd__law_fire) (at_mk X G a21 l21 c21 k21 bd__law_saved) (at_mk X G a22 l22 c22 k22 bd__law_numbers) (at_mk X G a23 l23 c23 k23 bd__law_alone) (at_mk X G a24 l24 c24 k24 bd__law_plan) (at_mk X G a25 l25 c25 k25 bd__law_tried) (at_mk X G a26 l26 c26 k26 bd__law_rows_right) (at_mk X G a27 l27 c27 k27 bd__law_right) _ _ (fun_mk l28 c28 k28)⟩
theorem walk {l : PySem.W.OpenLaw} {q : Program} {loose : List Str} {XP : (Str → Option Value) → Heap → Prop} {YP : World → Heap → Prop} {d : DefRec} {K : Params → PySem.W.Frag} (hn : l.most = some 63) (hdf : d.params.defaults = [])
    (hY : ∀ (w : World) (h : Heap), YP w h → (K w.params).In h)
    (F : ∀ (w : World) (mg : Str → Option Value) (fa : Addr) (h : Heap), (K w.params).In h → h.Ns mainGlobals mg → mg d.name = some (.ref fa) →
      ∃ fd : FuncData, (∀ (s : Shared) (u : Value), BindsTo s fd ⟨[u], []⟩ [("script", u)]) ∧ ∀ base : Heap, (K w.params).In base → base.Ns mainGlobals mg → FnOk l.prog w (K w.params) mg base CX0 6 fa fd ["script"] (spLaw (K w.params))) :
    PySem.W.WalkO q loose XP YP l.row.toRowW d [] (fun f vs => PySem.call f vs) :=
  L2.walk_of (n := 63) (k := 6) (x := "script") (CX := fun _ => CX0) (sp := fun w => spLaw (K w.params)) hn (by decide) hdf ⟨rfl, by decide, by decide⟩ hY F (fun _ _ a ns hl _ hS => ⟨a, ns, rfl, hS, hl, fun _ => rfl⟩) fun _ _ _ _ _ z => z
end Fi
open PySem PySem.W PyProof.Rows
set_option maxRecDepth 100000 in
set_option maxHeartbeats 0 in
theorem PySem.Challenge.cw_firetree_k03_fires_holds : PySem.Challenge.rw_firetree_k03_fires.Holds := by
  w_on; o_law; k_head; (case hw => w_witness2)
  k_fill
  refine Fi.walk (l := PySem.Challenge.rw_firetree_k03_fires) rfl rfl (fun w h Y => PySem.W.kIn_of Y) ?F
  case F =>
    intro w mg fa h KX G hmg
    refine' Fi.all_mk KX G hmg ?z1 ?z2 ?z3 ?z4 ?z5 ?z6 ?z7 ?z8 ?z9 ?z10 ?z11 ?z12 ?z13 ?aC ?pg ?hd ?po ?sa ?mk ?kc ?nA ?nW ?k_MOST ?k_WORTHS ?ea_BadTree ?eq_BadTree ?ek_BadTree ?eb_BadTree ?et_BadTree ?ea_NoThing ?eq_NoThing ?ek_NoThing ?eb_NoThing ?et_NoThing ?ea_BadPlan ?eq_BadPlan ?ek_BadPlan ?eb_BadPlan ?et_BadPlan ?ea_FireError ?et_FireError ?eb_FireError ?ei_FireError ?ei_BadTree ?ei_NoThing ?ei_BadPlan ?ea_NoText ?et_NoText ?eb_NoText ?ei_NoText ?fd_Fire ?xn ?xt ?xg_NoThing ?xk_NoThing ?xd_NoThing ?xa_NoThing ?xm_NoThing ?sb_NoThing_FireError ?sb_NoThing_BadTree ?sb_NoThing_NoThing ?sb_NoThing_BadPlan ?sb_NoThing_NoText ?sv_NoThing ?xg_BadPlan ?xk_BadPlan ?xd_BadPlan ?xa_BadPlan ?xm_BadPlan ?sb_BadPlan_FireError ?sb_BadPlan_BadTree ?sb_BadPlan_NoThing ?sb_BadPlan_BadPlan ?sb_BadPlan_NoText ?sv_BadPlan ?a1 ?l1 ?c1 ?k1 ?a2 ?l2 ?c2 ?k2 ?a3 ?l3 ?c3 ?k3 ?a4 ?i4 ?l4 ?c4 ?k4 ?a7 ?i7 ?l7 ?c7 ?k7 ?a8 ?i8 ?l8 ?c8 ?k8 ?a12 ?l12 ?c12 ?k12 ?a13 ?l13 ?c13 ?k13 ?a14 ?l14 ?c14 ?k14 ?a15 ?l15 ?c15 ?k15 ?a16 ?l16 ?c16 ?k16 ?a17 ?l17 ?c17 ?k17 ?a20 ?l20 ?c20 ?k20 ?a21 ?l21 ?c21 ?k21 ?a22 ?l22 ?c22 ?k22 ?a23 ?l23 ?c23 ?k23 ?a24 ?l24 ?c24 ?k24 ?a25 ?l25 ?c25 ?k25 ?a26 ?l26 ?c26 ?k26 ?a27 ?l27 ?c27 ?k27 ?a28 ?l28 ?c28 ?k28
    (case z1 => k_is)
    (case z2 => k_is)
    (case z3 => k_is)
    (case z4 => k_is)
    (case z5 => k_is)
    (case z6 => k_is)
    (case z7 => k_is)
    (case z8 => k_is)
    (case z9 => k_is)
    (case z10 => k_is)
    (case z11 => k_is)
    (case z12 => k_is)
    (case z13 => k_is)
    (case aC => k_is)
    (case pg => k_is)
    (case hd => k_is)
    (case po => k_is)
    (case sa => k_is)
    (case mk => k_is)
    (case kc => k_is)
    (case nA => k_is)
    (case nW => k_is)
    (case k_MOST => k_is)
    (case k_WORTHS => k_is)
    (case ea_BadTree => k_is)
    (case eq_BadTree => k_exc)
    (case ek_BadTree => k_is)
    (case eb_BadTree => k_is)
    (case et_BadTree => k_is)
    (case ea_NoThing => k_is)
    (case eq_NoThing => k_exc)
    (case ek_NoThing => k_is)
    (case eb_NoThing => k_is)
    (case et_NoThing => k_is)
    (case ea_BadPlan => k_is)
    (case eq_BadPlan => k_exc)
    (case ek_BadPlan => k_is)
    (case eb_BadPlan => k_is)
    (case et_BadPlan => k_is)
    (case ea_FireError => k_is)
    (case et_FireError => k_is)
    (case eb_FireError => k_is)
    (case ei_FireError => k_is)
    (case ei_BadTree => k_is)
    (case ei_NoThing => k_is)
    (case ei_BadPlan => k_is)
    (case ea_NoText => k_is)
    (case et_NoText => k_is)
    (case eb_NoText => k_is)
    (case ei_NoText => k_is)
    (case fd_Fire => k_is)
    (case xn => k_is)
    (case xt => k_is)
    (case xg_NoThing => k_is)
    (case xk_NoThing => k_is)
    (case xd_NoThing => k_is)
    (case xa_NoThing => k_is)
    (case xm_NoThing => k_is)
    (case sb_NoThing_FireError => k_is)
    (case sb_NoThing_BadTree => k_is)
    (case sb_NoThing_NoThing => k_is)
    (case sb_NoThing_BadPlan => k_is)
    (case sb_NoThing_NoText => k_is)
    (case sv_NoThing => k_is)
    (case xg_BadPlan => k_is)
    (case xk_BadPlan => k_is)
    (case xd_BadPlan => k_is)
    (case xa_BadPlan => k_is)
    (case xm_BadPlan => k_is)
    (case sb_BadPlan_FireError => k_is)
    (case sb_BadPlan_BadTree => k_is)
    (case sb_BadPlan_NoThing => k_is)
    (case sb_BadPlan_BadPlan => k_is)
    (case sb_BadPlan_NoText => k_is)
    (case sv_BadPlan => k_is)
    (case a1 => k_is)
    (case l1 => k_is)
    (case c1 => k_is)
    (case k1 => k_is)
    (case a2 => k_is)
    (case l2 => k_is)
    (case c2 => k_is)
    (case k2 => k_is)
    (case a3 => k_is)
    (case l3 => k_is)
    (case c3 => k_is)
    (case k3 => k_is)
    (case a4 => k_is)
    (case i4 => k_is)
    (case l4 => k_is)
    (case c4 => k_is)
    (case k4 => k_is)
    (case a7 => k_is)
    (case i7 => k_is)
    (case l7 => k_is)
    (case c7 => k_is)
    (case k7 => k_is)
    (case a8 => k_is)
    (case i8 => k_is)
    (case l8 => k_is)
    (case c8 => k_is)
    (case k8 => k_is)
    (case a12 => k_is)
    (case l12 => k_is)
    (case c12 => k_is)
    (case k12 => k_is)
    (case a13 => k_is)
    (case l13 => k_is)
    (case c13 => k_is)
    (case k13 => k_is)
    (case a14 => k_is)
    (case l14 => k_is)
    (case c14 => k_is)
    (case k14 => k_is)
    (case a15 => k_is)
    (case l15 => k_is)
    (case c15 => k_is)
    (case k15 => k_is)
    (case a16 => k_is)
    (case l16 => k_is)
    (case c16 => k_is)
    (case k16 => k_is)
    (case a17 => k_is)
    (case l17 => k_is)
    (case c17 => k_is)
    (case k17 => k_is)
    (case a20 => k_is)
    (case l20 => k_is)
    (case c20 => k_is)
    (case k20 => k_is)
    (case a21 => k_is)
    (case l21 => k_is)
    (case c21 => k_is)
    (case k21 => k_is)
    (case a22 => k_is)
    (case l22 => k_is)
    (case c22 => k_is)
    (case k22 => k_is)
    (case a23 => k_is)
    (case l23 => k_is)
    (case c23 => k_is)
    (case k23 => k_is)
    (case a24 => k_is)
    (case l24 => k_is)
    (case c24 => k_is)
    (case k24 => k_is)
    (case a25 => k_is)
    (case l25 => k_is)
    (case c25 => k_is)
    (case k25 => k_is)
    (case a26 => k_is)
    (case l26 => k_is)
    (case c26 => k_is)
    (case k26 => k_is)
    (case a27 => k_is)
    (case l27 => k_is)
    (case c27 => k_is)
    (case k27 => k_is)
    (case a28 => k_is)
    (case l28 => k_is)
    (case c28 => k_is)
    (case k28 => k_is)
#print axioms PySem.Challenge.cw_firetree_k03_fires_holds
