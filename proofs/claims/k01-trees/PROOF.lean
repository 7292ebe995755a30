import PyProof.Rows.All
import Wide.All
import OpenK.AllK
import Wide.FinOn
import HandS.ForMost
import HandS.ForExc
import HandS.IsInst
import HandS.Evl
import PySem.Challenge.RW_firetree_k01_trees
set_option Elab.async false
set_option linter.all false
set_option maxRecDepth 100000
set_option maxHeartbeats 4000000
/-! The mathematics: trees as lists of elders and worths. No program here. -/
namespace Fm
def draw (ns : List Int) (k : Int) : Int := (ns.getD (k % 61).toNat 0 + 7919 * k) * (48271 + 2 * k) % 2147483647
theorem draw_lo (ns : List Int) (k : Int) : 0 ≤ draw ns k := Int.emod_nonneg _ (by decide)
theorem draw_hi (ns : List Int) (k : Int) : draw ns k < 2147483647 := Int.emod_lt_of_pos _ (by decide)
/-- an elder by the four ways -/
def elderAt (way k cell : Int) : Int :=
  if way = 0 then cell % (k + 1) else if way = 1 then k - cell % (k + 1) / 2 else if way = 2 then cell % (if 3 < k + 1 then 3 else k + 1) else (k + cell % 2) / 2
theorem elderAt_lo {way k cell : Int} (hk : 0 ≤ k) : 0 ≤ elderAt way k cell := by
  have h1 := Int.emod_nonneg cell (show k + 1 ≠ 0 by omega)
  have h2 := Int.emod_lt_of_pos cell (show 0 < k + 1 by omega)
  unfold elderAt
  split
  · exact h1
  · split
    · omega
    · split
      · split
        · omega
        · exact Int.emod_nonneg cell (show k + 1 ≠ 0 by omega)
      · omega
theorem elderAt_hi {way k cell : Int} (hk : 0 ≤ k) : elderAt way k cell ≤ k := by
  have h1 := Int.emod_nonneg cell (show k + 1 ≠ 0 by omega)
  have h2 := Int.emod_lt_of_pos cell (show 0 < k + 1 by omega)
  unfold elderAt
  split
  · omega
  · split
    · omega
    · split
      · split
        · omega
        · omega
      · omega
/-- the elders of m + 1 things, drawn -/
def elders (ns : List Int) (m : Nat) : List Nat := (List.range m).map fun (k : Nat) => (elderAt (draw ns 2 % 4) (k : Int) (draw ns (10 + (k : Int)))).toNat
def topOf (ns : List Int) : Int := if draw ns 3 % 3 = 0 then 10 else if draw ns 3 % 3 = 1 then 2 else 1001
def worths (ns : List Int) (n : Nat) : List Nat := (List.range n).map fun (k : Nat) => (draw ns (30 + (k : Int)) % topOf ns).toNat
def count (ns : List Int) (most : Int) : Nat := (1 + draw ns 1 % most).toNat
theorem count_lo (ns : List Int) {most : Int} (h : 1 ≤ most) : 1 ≤ count ns most := by
  have := Int.emod_nonneg (draw ns 1) (show most ≠ 0 by omega)
  unfold count
  omega
theorem count_hi (ns : List Int) {most : Int} (h : 1 ≤ most) : (count ns most : Int) ≤ most := by
  have := Int.emod_nonneg (draw ns 1) (show most ≠ 0 by omega)
  have := Int.emod_lt_of_pos (draw ns 1) (show 0 < most by omega)
  unfold count
  omega
theorem count_eq (ns : List Int) {most : Int} (h : 1 ≤ most) : 1 + draw ns 1 % most = (count ns most : Int) := by
  have := Int.emod_nonneg (draw ns 1) (show most ≠ 0 by omega)
  unfold count
  omega
theorem elders_len (ns : List Int) (m : Nat) : (elders ns m).length = m := by simp [elders]
theorem worths_len (ns : List Int) (m : Nat) : (worths ns m).length = m := by simp [worths]
theorem elders_succ (ns : List Int) (m : Nat) : elders ns (m + 1) = elders ns m ++ [(elderAt (draw ns 2 % 4) (m : Int) (draw ns (10 + (m : Int)))).toNat] := by
  unfold elders
  rw [List.range_succ, List.map_append]
  rfl
theorem topOf_pos (ns : List Int) : 0 < topOf ns := by
  unfold topOf
  split
  · decide
  · split <;> decide
theorem topOf_le (ns : List Int) : topOf ns ≤ 1001 := by
  unfold topOf
  split
  · decide
  · split <;> decide
structure OkT (es ws : List Nat) : Prop where
  len : es.length + 1 = ws.length
  most : ws.length ≤ 14
  up : ∀ (k v : Nat), es[k]? = some v → v ≤ k
  wt : ∀ v ∈ ws, v ≤ 1000
theorem ok_drawn (ns : List Int) {n : Nat} (h : 1 ≤ n) (h2 : n ≤ 14) : OkT (elders ns (n - 1)) (worths ns n) where
  len := by rw [elders_len, worths_len]; omega
  most := by rw [worths_len]; exact h2
  up := fun k v e => by
    unfold elders at e
    rw [List.getElem?_map] at e
    cases q : (List.range (n - 1))[k]? with
    | none => rw [q] at e; cases e
    | some j =>
      rw [q] at e
      obtain ⟨h3, h4⟩ := List.getElem?_eq_some_iff.mp q
      rw [List.getElem_range] at h4
      subst h4
      have e2 : (elderAt (draw ns 2 % 4) (k : Int) (draw ns (10 + (k : Int)))).toNat = v := Option.some.inj e
      have h5 := elderAt_hi (way := draw ns 2 % 4) (cell := draw ns (10 + (k : Int))) (show (0 : Int) ≤ (k : Int) by omega)
      omega
  wt := fun v e => by
    unfold worths at e
    obtain ⟨k, _, rfl⟩ := List.mem_map.mp e
    have h5 := Int.emod_lt_of_pos (draw ns (30 + (k : Int))) (topOf_pos ns)
    have h6 := topOf_le ns
    omega
theorem OkT.pos {es ws : List Nat} (o : OkT es ws) : 0 < ws.length := by have := o.len; omega
/-- the elder of a thing that is not the first -/
def eld (es : List Nat) (t : Nat) : Nat := es.getD (t - 1) 0
theorem eld_lt {es : List Nat} (up : ∀ (k v : Nat), es[k]? = some v → v ≤ k) {t : Nat} (h : 0 < t) : eld es t < t := by
  unfold eld
  rw [List.getD_eq_getElem?_getD]
  cases e : es[t - 1]? with
  | none => exact h
  | some v =>
    have := up _ _ e
    show v < t
    omega
theorem eld_get {es : List Nat} {t : Nat} (h : 0 < t) (h2 : t < es.length + 1) : es[t - 1]? = some (eld es t) := by
  unfold eld
  rw [List.getD_eq_getElem?_getD, List.getElem?_eq_getElem (by omega)]
  rfl
/-! ### depth -/
def depF (es : List Nat) : Nat → Nat → Nat
  | 0, _ => 0
  | f + 1, t => if t = 0 then 0 else depF es f (eld es t) + 1
def depth (es : List Nat) (t : Nat) : Nat := depF es t t
section
variable {es : List Nat} (up : ∀ (k v : Nat), es[k]? = some v → v ≤ k)
include up
theorem depF_fuel : ∀ (f g t : Nat), t ≤ f → t ≤ g → depF es f t = depF es g t
  | 0, 0, t, _, _ => rfl
  | 0, g + 1, t, h, _ => by
    have : t = 0 := by omega
    subst this
    rfl
  | f + 1, 0, t, _, h => by
    have : t = 0 := by omega
    subst this
    rfl
  | f + 1, g + 1, t, h1, h2 => by
    unfold depF
    by_cases h : t = 0
    · rw [if_pos h, if_pos h]
    · rw [if_neg h, if_neg h]
      have := eld_lt up (t := t) (by omega)
      rw [depF_fuel f g (eld es t) (by omega) (by omega)]
theorem depth_zero : depth es 0 = 0 := rfl
theorem depth_step {t : Nat} (h : 0 < t) : depth es t = depth es (eld es t) + 1 := by
  have hl := eld_lt up h
  unfold depth
  obtain ⟨n, rfl⟩ : ∃ n, t = n + 1 := ⟨t - 1, by omega⟩
  rw [show depF es (n + 1) (n + 1) = depF es n (eld es (n + 1)) + 1 from by rw [depF, if_neg (by omega)]]
  rw [depF_fuel up n (eld es (n + 1)) (eld es (n + 1)) (by omega) (Nat.le_refl _)]
theorem depth_le (t : Nat) : depth es t ≤ t := by
  induction t using Nat.strongRecOn with
  | ind t ih =>
    by_cases h : t = 0
    · subst h; exact Nat.le_refl _
    · have hl := eld_lt up (t := t) (by omega)
      have := ih _ hl
      rw [depth_step up (by omega)]
      omega
theorem depth_pos {t : Nat} (h : 0 < t) : 0 < depth es t := by
  rw [depth_step up h]
  omega
end
/-! ### below -/
def climbF (es : List Nat) (t : Nat) : Nat → Nat → Nat
  | 0, h => h
  | f + 1, h => if t < h then climbF es t f (eld es h) else h
def climb (es : List Nat) (t h : Nat) : Nat := climbF es t h h
def isBelow (es : List Nat) (t o : Nat) : Bool := climb es t o == t
def below (es : List Nat) (t : Nat) : List Nat := (List.range (es.length + 1)).filter (isBelow es t)
def worth (es ws : List Nat) (t : Nat) : Nat := ((below es t).map fun o => ws.getD o 0).sum
section
variable {es : List Nat} (up : ∀ (k v : Nat), es[k]? = some v → v ≤ k)
include up
theorem climbF_fuel (t : Nat) : ∀ (f g h : Nat), h ≤ f → h ≤ g → climbF es t f h = climbF es t g h
  | 0, 0, h, _, _ => rfl
  | 0, g + 1, h, h1, _ => by
    have : h = 0 := by omega
    subst this
    rw [climbF, climbF, if_neg (by omega)]
  | f + 1, 0, h, _, h1 => by
    have : h = 0 := by omega
    subst this
    rw [climbF, climbF, if_neg (by omega)]
  | f + 1, g + 1, h, h1, h2 => by
    rw [climbF, climbF]
    by_cases c : t < h
    · rw [if_pos c, if_pos c]
      have := eld_lt up (t := h) (by omega)
      exact climbF_fuel t f g (eld es h) (by omega) (by omega)
    · rw [if_neg c, if_neg c]
theorem climb_step {t h : Nat} (c : t < h) : climb es t h = climb es t (eld es h) := by
  have hl := eld_lt up (t := h) (by omega)
  unfold climb
  obtain ⟨n, rfl⟩ : ∃ n, h = n + 1 := ⟨h - 1, by omega⟩
  rw [climbF, if_pos c]
  exact climbF_fuel up t n (eld es (n + 1)) (eld es (n + 1)) (by omega) (Nat.le_refl _)
omit up in
theorem climb_end {t h : Nat} (c : ¬ t < h) : climb es t h = h := by
  unfold climb
  cases h with
  | zero => rfl
  | succ n => rw [climbF, if_neg c]
theorem isBelow_step {t o : Nat} (c : t < o) : isBelow es t o = isBelow es t (eld es o) := by
  unfold isBelow
  rw [climb_step up c]
omit up in
theorem isBelow_self {t : Nat} : isBelow es t t = true := by
  unfold isBelow
  rw [climb_end (Nat.lt_irrefl t)]
  exact beq_self_eq_true t
omit up in
theorem isBelow_lt {t o : Nat} (c : o < t) : isBelow es t o = false := by
  unfold isBelow
  rw [climb_end (by omega)]
  exact beq_eq_false_iff_ne.mpr (by omega)
end
theorem mem_below {es : List Nat} {t o : Nat} : o ∈ below es t ↔ o < es.length + 1 ∧ isBelow es t o = true := by
  unfold below
  rw [List.mem_filter, List.mem_range]
theorem below_len (es : List Nat) (t : Nat) : (below es t).length ≤ es.length + 1 := by
  have := List.length_filter_le (isBelow es t) (List.range (es.length + 1))
  rw [List.length_range] at this
  exact this
/-- what the program's loop has found ahead of m -/
def belowTo (es : List Nat) (t m : Nat) : List Nat := (List.range m).filter (isBelow es t)
theorem belowTo_start {es : List Nat} (t : Nat) : belowTo es t (t + 1) = [t] := by
  unfold belowTo
  rw [List.range_succ, List.filter_append]
  have h : (List.range t).filter (isBelow es t) = [] := by
    rw [List.filter_eq_nil_iff]
    intro a ha
    rw [isBelow_lt (List.mem_range.mp ha)]
    decide
  rw [h, List.filter_cons, if_pos isBelow_self]
  rfl
theorem belowTo_succ {es : List Nat} (t m : Nat) : belowTo es t (m + 1) = if isBelow es t m = true then belowTo es t m ++ [m] else belowTo es t m := by
  unfold belowTo
  rw [List.range_succ, List.filter_append, List.filter_cons]
  by_cases h : isBelow es t m = true
  · rw [if_pos h, if_pos h]; rfl
  · rw [if_neg h, if_neg h]; exact List.append_nil _
theorem belowTo_end {es : List Nat} (t : Nat) : belowTo es t (es.length + 1) = below es t := rfl
theorem mem_belowTo {es : List Nat} {t m o : Nat} : o ∈ belowTo es t m ↔ o < m ∧ isBelow es t o = true := by
  unfold belowTo
  rw [List.mem_filter, List.mem_range]
theorem belowTo_len (es : List Nat) (t m : Nat) : (belowTo es t m).length ≤ m := by
  have := List.length_filter_le (isBelow es t) (List.range m)
  rw [List.length_range] at this
  exact this
end Fm
/-! The ground of the proofs: a def's promise by its name (Has, HasM), what reads evaluate to (over Evl), lists of numbers. -/
namespace Fi
open PySem L2 Evl

/-! ### the built-in names that the text does not bind -/
structure Bi (mg : Str → Option Value) : Prop where
  len : mg "len" = none
  range : mg "range" = none
  list : mg "list" = none
  sum : mg "sum" = none
  max : mg "max" = none
  min : mg "min" = none
  isinstance : mg "isinstance" = none
  int : mg "int" = none
  bool : mg "bool" = none
  str : mg "str" = none
  tuple : mg "tuple" = none
  enumerate : mg "enumerate" = none
  ValueError : mg "ValueError" = none

/-! ### a def of the top, a method, by the promise -/
def Has (P : Program) (w : World) (K : PySem.W.Frag) (mg : Str → Option Value) (base : Heap) (CX : CXT) (x : Str) (ps : List Str) (k : Nat) (sp : Sp) : Prop :=
  ∃ f fd, mg x = some (.ref f) ∧ PySem.W.keepIn K (.ref f) = true ∧ Binds K fd ps [] ∧ FnOk P w K mg base CX k f fd ps sp
def HasM (P : Program) (w : World) (K : PySem.W.Frag) (mg : Str → Option Value) (base : Heap) (CX : CXT) (C : Addr) (m : Str) (ps : List Str) (k : Nat) (sp : Sp) : Prop :=
  ∃ f fd, Meth K C m f ∧ Binds K fd ps [] ∧ FnOk P w K mg base CX k f fd ps sp
section
variable {X : Cx} {CX : CXT} {k : Nat} {C : Addr} {ps : List Str} {sp : Sp} {E : XK} {x m : Str} {p pos apos : Pos} {e o : Expr} {es : List Expr} {ta : TE} {t : TA}
theorem Has.call (h : Has X.prog X.w X.K X.mg X.base CX x ps k sp) (hr : Room k X.A) (hg : Gl X x) (hx : Passes CX X E) (ha : PA X (e :: es) t) (hdb : (x == ("__debug__" : Str)) = false := by decide)
    (he : starEach (e :: es) X.env = (false, eval e X.env) :: starEach es X.env := by rfl) (hpl : (backTo pos (starEach es X.env)).any (·.1) = false := by rfl) :
    PE X (.Call (.Name x p) (e :: es) [] pos) (tCall sp [] E t) := by
  obtain ⟨f, fd, hm, hk, hb, F⟩ := h
  exact pe_call F hr hg hm hk hb .nil hx ha hdb he hpl
theorem HasM.call (h : HasM X.prog X.w X.K X.mg X.base CX C m ps k sp) (c : Cls X.K C) (ho : PE X o ta) (hr : Room k X.A) (hx : Passes CX X E) (ha : PA X (e :: es) t) {pl : Sem Bool}
    (hst : starEach (e :: es) X.env = (false, eval e X.env) :: starEach es X.env := by rfl) (hpl : (backTo pos (starEach es X.env)).any (·.1) = false := by rfl)
    (ht : eval (.Call (.Attribute o m apos) (e :: es) [] pos) X.env = (do
      let ov ← eval o X.env
      standAt apos.atName
      let (f, first) ← holding [ov] (getMethod ov m pl)
      callWith pos f first (backTo pos (starEach (e :: es) X.env)) (backToKw pos (keywordEach [] X.env))) := by rfl) :
    PE X (.Call (.Attribute o m apos) (e :: es) [] pos) (tMeth C m sp [] E ta t) := by
  obtain ⟨f, fd, hm, hb, F⟩ := h
  exact pe_meth ho c hm F hr hb .nil hx ha hst hpl ht
theorem HasM.call0 (h : HasM X.prog X.w X.K X.mg X.base CX C m ps k sp) (c : Cls X.K C) (ho : PE X o ta) (hr : Room k X.A) (hx : Passes CX X E) {pl : Sem Bool}
    (ht : eval (.Call (.Attribute o m apos) [] [] pos) X.env = (do
      let ov ← eval o X.env
      standAt apos.atName
      let (f, first) ← holding [ov] (getMethod ov m pl)
      callWith pos f first (backTo pos (starEach [] X.env)) (backToKw pos (keywordEach [] X.env))) := by rfl) :
    PE X (.Call (.Attribute o m apos) [] [] pos) (tMeth C m sp [] E ta tNil) := by
  obtain ⟨f, fd, hm, hb, F⟩ := h
  exact pe_meth0 ho c hm F hr hb .nil hx ht
end

/-! ### a def of the text as it stands behind the top -/
def At (K : PySem.W.Frag) (mg : Str → Option Value) (x : Str) (st : Stmt) (ps : List Str) : Prop := ∃ f fd, Fun K x x st f fd ∧ mg x = some (.ref f) ∧ Binds K fd ps []
def AtM (K : PySem.W.Frag) (C : Addr) (m qual : Str) (st : Stmt) (ps : List Str) : Prop := ∃ f fd, Fun K m qual st f fd ∧ Meth K C m f ∧ Binds K fd ps []
section
variable {P : Program} {w : World} {K : PySem.W.Frag} {mg : Str → Option Value} {base : Heap} {CX : CXT} {k : Nat} {C : Addr} {st : Stmt} {ps : List Str} {sp : Sp} {x m qual : Str}
theorem At.has (D : At K mg x st ps) (h : ∀ f fd, Fun K x x st f fd → FnOk P w K mg base CX k f fd ps sp) : Has P w K mg base CX x ps k sp := by
  obtain ⟨f, fd, F, hm, hb⟩ := D
  exact ⟨f, fd, hm, F.kp, hb, h f fd F⟩
theorem AtM.has (D : AtM K C m qual st ps) (h : ∀ f fd, Fun K m qual st f fd → FnOk P w K mg base CX k f fd ps sp) : HasM P w K mg base CX C m ps k sp := by
  obtain ⟨f, fd, F, hm, hb⟩ := D
  exact ⟨f, fd, hm, hb, h f fd F⟩
theorem Has.imp {sp' : Sp} (h : Has P w K mg base CX x ps k sp) (i : ∀ vs H Q E, sp' vs H Q E → sp vs H Q E) : Has P w K mg base CX x ps k sp' := by
  obtain ⟨f, fd, hm, hk, hb, F⟩ := h
  exact ⟨f, fd, hm, hk, hb, F.imp i⟩
theorem HasM.imp {sp' : Sp} (h : HasM P w K mg base CX C m ps k sp) (i : ∀ vs H Q E, sp' vs H Q E → sp vs H Q E) : HasM P w K mg base CX C m ps k sp' := by
  obtain ⟨f, fd, hm, hb, F⟩ := h
  exact ⟨f, fd, hm, hb, F.imp i⟩
end

/-! ### the facts that k_is finds, put together -/
section
variable {K : PySem.W.Frag} {mg : Str → Option Value} {h : Heap} {C f : Addr} {x m qual : Str} {st : Stmt} {ps : List Str} {oc : Value} {od an : Option Addr} {sl : Array (Option Value)} {kV dc pm cd ct : Value}
theorem at_mk (X : K.In h) (G : h.Ns mainGlobals mg) (a : PySem.W.nsIn K mainGlobals x = some (some (.ref f))) (l : K.lookup f = some ⟨oc, od, .func (PySem.W.fnOf x x (defArgs st) (defBody st) (defScope st) .none kV dc pm an cd ct), sl⟩) (c : PySem.W.codeIn K cd x = true) (k : PySem.W.keepIn K (.ref f) = true)
    (hb : ∀ (kV doc pm : Value) (an : Option Addr) (cdv ct : Value) (us : List Value), us.length = ps.length → bindArgs (PySem.W.fnOf x x (defArgs st) (defBody st) (defScope st) .none kV doc pm an cdv ct) ⟨us, []⟩ = pure (ps.zip us)) : At K mg x st ps :=
  ⟨f, _, fun_mk l c k, PySem.W.mg_of X G a, (fun_mk l c k).binds hb⟩
theorem atm_mk (a : PySem.W.findIn K (.ref C) m = some (some (.ref f))) (i : PySem.W.isFn K (.ref f) = true) (l : K.lookup f = some ⟨oc, od, .func (PySem.W.fnOf m qual (defArgs st) (defBody st) (defScope st) .none kV dc pm an cd ct), sl⟩) (c : PySem.W.codeIn K cd qual = true) (k : PySem.W.keepIn K (.ref f) = true)
    (hb : ∀ (kV doc pm : Value) (an : Option Addr) (cdv ct : Value) (us : List Value), us.length = ps.length → bindArgs (PySem.W.fnOf m qual (defArgs st) (defBody st) (defScope st) .none kV doc pm an cdv ct) ⟨us, []⟩ = pure (ps.zip us)) : AtM K C m qual st ps :=
  ⟨f, _, fun_mk l c k, ⟨a, i, k⟩, (fun_mk l c k).binds hb⟩
end

/-! ### a class made; own exceptions -/
def HasI (P : Program) (w : World) (K : PySem.W.Frag) (mg : Str → Option Value) (base : Heap) (CX : CXT) (C : Addr) (ps : List Str) (k : Nat) (sp : Sp) : Prop :=
  ∃ f fd, Mk K C f ∧ Binds K fd ps [] ∧ FnOk P w K mg base CX k f fd ps sp
def AtI (K : PySem.W.Frag) (C : Addr) (qual : Str) (st : Stmt) (ps : List Str) : Prop := ∃ f fd, Fun K "__init__" qual st f fd ∧ Mk K C f ∧ Binds K fd ps []
/-- what the text's top has left of an own exception class without an __init__ -/
structure Err (K : PySem.W.Frag) (mg : Str → Option Value) (x : Str) (C : Addr) : Prop where
  g : mg x = some (.ref C)
  q : PySem.W.excIn K C [.type "ValueError", .type "Exception", .type "BaseException", .type "object"] "ValueError.__new__" = true
  k : PySem.W.keepIn K (.ref C) = true
  b : PySem.W.subIn K (.ref C) (.type "BaseException") = some true
  t : PySem.W.typeIn K (.ref C) = some (.type "type")
section
variable {K : PySem.W.Frag} {mg : Str → Option Value} {h : Heap} {C f : Addr} {x qual : Str} {st : Stmt} {ps : List Str} {oc : Value} {od an : Option Addr} {sl : Array (Option Value)} {kV dc pm cd ct : Value}
theorem ati_mk (a : PySem.W.findIn K (.ref C) "__init__" = some (some (.ref f))) (i : PySem.W.isFn K (.ref f) = true) (l : K.lookup f = some ⟨oc, od, .func (PySem.W.fnOf "__init__" qual (defArgs st) (defBody st) (defScope st) .none kV dc pm an cd ct), sl⟩) (c : PySem.W.codeIn K cd qual = true) (k : PySem.W.keepIn K (.ref f) = true)
    (mk : PySem.W.makesIn K C = true) (kc : PySem.W.keepIn K (.ref C) = true)
    (hb : ∀ (kV doc pm : Value) (an : Option Addr) (cdv ct : Value) (us : List Value), us.length = ps.length → bindArgs (PySem.W.fnOf "__init__" qual (defArgs st) (defBody st) (defScope st) .none kV doc pm an cdv ct) ⟨us, []⟩ = pure (ps.zip us)) : AtI K C qual st ps :=
  ⟨f, _, fun_mk l c k, ⟨mk, a, i, kc⟩, (fun_mk l c k).binds hb⟩
theorem err_mk (X : K.In h) (G : h.Ns mainGlobals mg) (a : PySem.W.nsIn K mainGlobals x = some (some (.ref C))) (q : PySem.W.excIn K C [.type "ValueError", .type "Exception", .type "BaseException", .type "object"] "ValueError.__new__" = true) (k : PySem.W.keepIn K (.ref C) = true)
    (b : PySem.W.subIn K (.ref C) (.type "BaseException") = some true) (t : PySem.W.typeIn K (.ref C) = some (.type "type")) : Err K mg x C := ⟨PySem.W.mg_of X G a, q, k, b, t⟩
end
section
variable {P : Program} {w : World} {K : PySem.W.Frag} {mg : Str → Option Value} {base : Heap} {CX : CXT} {k : Nat} {C : Addr} {st : Stmt} {ps : List Str} {sp : Sp} {qual : Str}
theorem AtI.has (D : AtI K C qual st ps) (h : ∀ f fd, Fun K "__init__" qual st f fd → FnOk P w K mg base CX k f fd ps sp) : HasI P w K mg base CX C ps k sp := by
  obtain ⟨f, fd, F, hm, hb⟩ := D
  exact ⟨f, fd, hm, hb, h f fd F⟩
end
section
variable {X : Cx} {CX : CXT} {k j : Nat} {C : Addr} {ps : List Str} {sp : Sp} {E : XK} {x m : Str} {p p2 pos : Pos} {e : Expr} {es : List Expr} {t : TA}
theorem HasI.make (h : HasI X.prog X.w X.K X.mg X.base CX C ps k sp) (hr : Room (k + 1) X.A) (hg : Gl X x) (hm : X.mg x = some (.ref C)) (hx : Passes CX X E) (ha : PA X (e :: es) t) (hdb : (x == ("__debug__" : Str)) = false := by decide)
    (he : starEach (e :: es) X.env = (false, eval e X.env) :: starEach es X.env := by rfl) (hpl : (backTo pos (starEach es X.env)).any (·.1) = false := by rfl) : PE X (.Call (.Name x p) (e :: es) [] pos) (tMake C sp [] E t) := by
  obtain ⟨f, fd, M, hb, F⟩ := h
  exact pe_make M F hr hg hm hb .nil hx ha hdb he hpl
theorem Err.made (T : Err X.K X.mg x C) (hg : Gl X x) (hdb : (x == ("__debug__" : Str)) = false := by decide) : PMk X (.Call (.Name x p) [.Constant (.str m) j p2] [] pos) (fun _ H Q => Q (.ref C) none H) :=
  pmk_own PySem.F.excBase_ValueError T.q T.g T.k (raises_own T.b T.t) hg hdb
theorem pe_gint {i : Int} {tk : Tok} (hg : Gl X x) (h : X.mg x = some (.int i tk)) (hd : (x == ("__debug__" : Str)) = false := by decide) : PE X (.Name x pos) (tC (.int i)) := pe_glob hg h ⟨tk, rfl⟩ hd
theorem pe_gstr {i : Str} {tk : Tok} (hg : Gl X x) (h : X.mg x = some (.str i tk)) (hd : (x == ("__debug__" : Str)) = false := by decide) : PE X (.Name x pos) (tC (.str i)) := pe_glob hg h ⟨tk, rfl⟩ hd
theorem pe_gcls {C : Addr} (hg : Gl X x) (h : X.mg x = some (.ref C)) (hd : (x == ("__debug__" : Str)) = false := by decide) : PE X (.Name x pos) (tC (.ref C)) := pe_glob hg h rfl hd
end

theorem bi_mk {K : PySem.W.Frag} {mg : Str → Option Value} {h : Heap} (X : K.In h) (G : h.Ns mainGlobals mg) (z1 : PySem.W.nsIn K mainGlobals "len" = some none) (z2 : PySem.W.nsIn K mainGlobals "range" = some none) (z3 : PySem.W.nsIn K mainGlobals "list" = some none) (z4 : PySem.W.nsIn K mainGlobals "sum" = some none)
    (z5 : PySem.W.nsIn K mainGlobals "max" = some none) (z6 : PySem.W.nsIn K mainGlobals "min" = some none) (z7 : PySem.W.nsIn K mainGlobals "isinstance" = some none) (z8 : PySem.W.nsIn K mainGlobals "int" = some none) (z9 : PySem.W.nsIn K mainGlobals "bool" = some none) (z10 : PySem.W.nsIn K mainGlobals "str" = some none)
    (z11 : PySem.W.nsIn K mainGlobals "tuple" = some none) (z12 : PySem.W.nsIn K mainGlobals "enumerate" = some none) (z13 : PySem.W.nsIn K mainGlobals "ValueError" = some none) : Bi mg :=
  ⟨PySem.W.mg_none_of X G z1, PySem.W.mg_none_of X G z2, PySem.W.mg_none_of X G z3, PySem.W.mg_none_of X G z4, PySem.W.mg_none_of X G z5, PySem.W.mg_none_of X G z6, PySem.W.mg_none_of X G z7, PySem.W.mg_none_of X G z8, PySem.W.mg_none_of X G z9, PySem.W.mg_none_of X G z10, PySem.W.mg_none_of X G z11, PySem.W.mg_none_of X G z12, PySem.W.mg_none_of X G z13⟩

/-! ### rules with the written part named (within a comprehension's block it must not hang on the block) -/
section
variable {X : Cx} {K : PySem.W.Frag} {e : Expr} {f : Str} {pos : Pos} {ta : TE}
theorem ix_listK (hK : X.K = K := by rfl) : IxR X (rIxL K) := by subst hK; exact ix_list
theorem ix_tupK (hK : X.K = K := by rfl) : IxR X (rIxT K) := by subst hK; exact ix_tup
theorem sl_listK (hK : X.K = K := by rfl) : SlR X (rSlL K) := by subst hK; exact sl_list
theorem op_inK (hK : X.K = K := by rfl) : OpR X (compareOp .In) (rIn K false) := by subst hK; exact op_in_seq
theorem op_notInK (hK : X.K = K := by rfl) : OpR X (compareOp .NotIn) (rIn K true) := by subst hK; exact op_notIn_seq
theorem op_eqDK (hu : X.A.units + 64 < cLine) (hK : X.K = K := by rfl) : OpR X (compareOp .Eq) (rEqD K) := by subst hK; exact op_eqD hu
theorem op_neDK (hu : X.A.units + 64 < cLine) (hK : X.K = K := by rfl) : OpR X (compareOp .NotEq) (rNeD K) := by subst hK; exact op_neD hu
theorem call_lenK (hK : X.K = K := by rfl) : CallR X (.builtin "len") (rLenS K) := by subst hK; exact call_len_seq
theorem call_listK (hK : X.K = K := by rfl) : CallR X (.type "list") (rListS K) := by subst hK; exact call_list_of
theorem call_isiK1 (hK : X.K = K := by rfl) : CallR X (.builtin "isinstance") (rIsi K) := by subst hK; exact call_isi
theorem cr_sumK (hc : X.calm = true) (hK : X.K = K := by rfl) : CallR X (.builtin "sum") (rSum K) := by subst hK; exact cr_sum hc
theorem cr_maxK (hc : X.calm = true) (hK : X.K = K := by rfl) : CallR X (.builtin "max") (rMax K) := by subst hK; exact cr_max hc
theorem mt_indexK (hK : X.K = K := by rfl) : MtR X "list.index" (rIndex K) := by subst hK; exact mt_index
theorem pe_fldK (he : PE X e ta) (hb : attributeBase e f X.env (eval e X.env) = eval e X.env) (hK : X.K = K := by rfl) : PE X (.Attribute e f pos) (tFld K ta f) := by subst hK; exact pe_fld he hb
end

/-! ### more of what evaluates to what -/
section
variable {K : PySem.W.Frag} {σ : L2.St} {H H' : Hp} {ta tb te tc : TE} {t u : TT} {x y z v w' : V} {r r' : R2} {a C dx : Addr} {fs : List (Str × V)} {f m : Str}
theorem ev_fld (h : Ev te σ H (.ref a)) (ho : H a = some (.ins C dx fs)) (hc : Cls K C) (hn : NoAttr K C f) (hl : fs.lookup f = some v) : Ev (tFld K te f) σ H v := fun H1 e Q q =>
  h H1 e _ fun H2 e2 => ⟨a, C, dx, fs, v, rfl, e2 a _ (e a _ ho), hc, hn, hl, q H2 e2⟩
theorem ev_meth {sp : Sp} {vs : List V} {E : XK} {tA : TA} (h : Ev te σ H (.ref a)) (ho : H a = some (.ins C dx fs)) (hl : fs.lookup m = none) (hA : EvA tA σ H vs) (hs : SpV sp (.ref a :: vs) H z) : Ev (tMeth C m sp [] E te tA) σ H z := fun H1 e Q q =>
  h H1 e _ fun H2 e2 => ⟨a, dx, fs, rfl, e2 a _ (e a _ ho), hl, hA H2 (e.trans e2) _ fun H3 e3 => by
    rw [List.append_nil]
    exact hs H3 ((e.trans e2).trans e3) Q (fun H4 e4 => q H4 ((e2.trans e3).trans e4)) E⟩
theorem el_meth {sp : Sp} {vs xs : List V} {E : XK} {tA : TA} (h : Ev te σ H (.ref a)) (ho : H a = some (.ins C dx fs)) (hl : fs.lookup m = none) (hA : EvA tA σ H vs) (hs : SpL sp (.ref a :: vs) H xs) : EvL (tMeth C m sp [] E te tA) σ H xs := fun H1 e Q q =>
  h H1 e _ fun H2 e2 => ⟨a, dx, fs, rfl, e2 a _ (e a _ ho), hl, hA H2 (e.trans e2) _ fun H3 e3 => by
    rw [List.append_nil]
    exact hs H3 ((e.trans e2).trans e3) Q (fun p H4 hp e4 h4 => q p H4 (fresh_back (e2.trans e3) hp) ((e2.trans e3).trans e4) h4) E⟩
theorem ev_call0 {sp : Sp} {vs : List V} {E : XK} {tA : TA} (h : EvA tA σ H vs) (hs : SpV sp vs H z) : Ev (tCall sp [] E tA) σ H z := ev_call h (by rw [List.append_nil]; exact hs)
theorem el_call0 {sp : Sp} {vs xs : List V} {E : XK} {tA : TA} (h : EvA tA σ H vs) (hs : SpL sp vs H xs) : EvL (tCall sp [] E tA) σ H xs := el_call h (by rw [List.append_nil]; exact hs)
theorem ev_chain {k1 k2 : Bool} (ha : Ev ta σ H x) (hb : Ev tb σ H y) (hc : k1 = true → Ev tc σ H w') (h1 : RV r x y H (.bl k1)) (h2 : k1 = true → RV r' y w' H (.bl k2)) : Ev (tChain r r' ta tb tc) σ H (.bl (k1 && k2)) := fun H1 e Q q =>
  ha H1 e _ fun H2 e2 => hb H2 (e.trans e2) _ fun H3 e3 => h1 H3 ((e.trans e2).trans e3) _ fun H4 e4 => ⟨k1, rfl, by
    cases k1 with
    | true =>
      show tc σ H4 fun w1 H5 => r' y w1 H5 Q
      exact hc rfl H4 (((e.trans e2).trans e3).trans e4) _ fun H5 e5 => h2 rfl H5 ((((e.trans e2).trans e3).trans e4).trans e5) _ fun H6 e6 => q H6 ((((e2.trans e3).trans e4).trans e5).trans e6)
    | false =>
      show Q (.bl false) H4
      exact q H4 ((e2.trans e3).trans e4)⟩
/-- len of a list -/
theorem ev_lenS {p : Addr} {xs : List V} (ha : Ev ta σ H (.ref p)) (h : SqL K H p xs) : Ev (tCB (rLenS K) (tCons ta tNil)) σ H (.int (xs.length : Int)) := ev_len ha h
/-- list(x) of a list -/
theorem el_listS {p : Addr} {xs : List V} (ha : Ev ta σ H (.ref p)) (h : SqL K H p xs) : EvL (tCB (rListS K) (tCons ta tNil)) σ H xs := el_list ha h
/-- list(x) of a new list -/
theorem el_listN {xs : List V} (ha : EvL ta σ H xs) : EvL (tCB (rListS K) (tCons ta tNil)) σ H xs := fun H1 e Q q =>
  ha H1 e _ fun p H2 _ e2 h2 => ⟨p, xs, rfl, .inl (sq_of h2), fun l hl => q l _ (fresh_back e2 hl) (e2.trans (Ex.new hl)) upd_same⟩
/-- a new list handed to a built-in -/
theorem ev_cbL {rr : List V → Hp → VK → Prop} {xs : List V} (h : EvL ta σ H xs) (hr : ∀ p H1, H1 p = some (.lst xs) → Ex H H1 → RC rr [.ref p] H1 z) : Ev (tCB rr (tCons ta tNil)) σ H z := fun H1 e Q q =>
  h H1 e _ fun p H2 _ e2 hp => hr p H2 hp (e.trans e2) H2 (Ex.refl H2) Q fun H3 e3 => q H3 (e2.trans e3)
theorem ev_opIx {p : Addr} {xs : List V} {i : Int} (ha : Ev ta σ H (.ref p)) (hb : Ev tb σ H (.int i)) (h : SqL K H p xs) (hi : atI xs i = some v) : Ev (tOp (rIxL K) ta tb) σ H v := ev_op ha hb (rv_ixL h hi)
theorem ev_opIxT {p : Addr} {xs : List V} {i : Int} (ha : Ev ta σ H (.ref p)) (hb : Ev tb σ H (.int i)) (h : SqT K H p xs) (hi : atI xs i = some v) : Ev (tOp (rIxT K) ta tb) σ H v := ev_op ha hb (rv_ixT h hi)
/-- an item of a new list -/
theorem ev_opIxN {xs : List V} {i : Int} (ha : EvL ta σ H xs) (hb : Ev tb σ H (.int i)) (hi : atI xs i = some v) : Ev (tOp (rIxL K) ta tb) σ H v := ev_opL1 ha (fun H1 e => hb.mono e) fun p H1 h e => rv_ixL (sq_of h) hi

/-! anything that comes of a read, told of the heaps ahead and behind -/
def EvP (te : TE) (σ : L2.St) (H : Hp) (P : V → Hp → Prop) : Prop := ∀ H1, Ex H H1 → ∀ Q : VK, (∀ v H2, Ex H1 H2 → P v H2 → Q v H2) → te σ H1 Q
def SpP (sp : Sp) (vs : List V) (H : Hp) (P : V → Hp → Prop) : Prop := ∀ H1, Ex H H1 → ∀ Q : VK, (∀ v H2, Ex H1 H2 → P v H2 → Q v H2) → ∀ E : XK, sp vs H1 Q E
def RetP (P : V → Hp → Prop) (H : Hp) (Q : VK) : Prop := ∀ v H2, Ex H H2 → P v H2 → Q v H2
theorem ep_call0 {sp : Sp} {vs : List V} {P : V → Hp → Prop} {E : XK} {tA : TA} (h : EvA tA σ H vs) (hs : SpP sp vs H P) : EvP (tCall sp [] E tA) σ H P := fun H1 e Q q =>
  h H1 e _ fun H2 e2 => by
    rw [List.append_nil]
    exact hs H2 (e.trans e2) Q (fun v H3 e3 p => q v H3 (e2.trans e3) p) E
theorem ep_meth {sp : Sp} {vs : List V} {P : V → Hp → Prop} {E : XK} {tA : TA} (h : Ev te σ H (.ref a)) (ho : H a = some (.ins C dx fs)) (hl : fs.lookup m = none) (hA : EvA tA σ H vs) (hs : SpP sp (.ref a :: vs) H P) : EvP (tMeth C m sp [] E te tA) σ H P := fun H1 e Q q =>
  h H1 e _ fun H2 e2 => ⟨a, dx, fs, rfl, e2 a _ (e a _ ho), hl, hA H2 (e.trans e2) _ fun H3 e3 => by
    rw [List.append_nil]
    exact hs H3 ((e.trans e2).trans e3) Q (fun v H4 e4 h4 => q v H4 ((e2.trans e3).trans e4) h4) E⟩
theorem ep_make {sp : Sp} {vs : List V} {P : V → Hp → Prop} {E : XK} {tA : TA} (h : EvA tA σ H vs)
    (hs : ∀ H1, Ex H H1 → ∀ x dx, H1 x = none → H1 dx = none → dx ≠ x → ∀ Q : VK, (∀ H2, Ex H1 H2 → P (.ref x) H2 → Q (.ref x) H2) → ∀ E : XK, sp (.ref x :: vs) (upd (upd H1 dx (.own x)) x (.ins C dx [])) (fun v H2 => v = .non ∧ Q (.ref x) H2) E) :
    EvP (tMake C sp [] E tA) σ H P := fun H1 e Q q => h H1 e _ fun H2 e2 x dx hx hdx ne => by
  rw [List.append_nil]
  exact hs H2 (e.trans e2) x dx hx hdx ne Q (fun H3 e3 p => q _ H3 (e2.trans e3) p) E
variable {D : Ends} {tu tw tz : TS}
/-- a method that may raise, called as a statement -/
theorem q_methX {sp : Sp} {vs : List V} {E : XK} {tA : TA} (h : Ev te σ H (.ref a)) (ho : H a = some (.ins C dx fs)) (hl : fs.lookup m = none) (hA : EvA tA σ H vs) (k : ∀ H1, Ex H H1 → sp (.ref a :: vs) H1 (fun _ H2 => tz D σ H2) E) :
    tSeq (tDrop (tMeth C m sp [] E te tA)) tz D σ H := h H (Ex.refl H) _ fun H1 e1 => ⟨a, dx, fs, rfl, e1 a _ ho, hl, hA H1 e1 _ fun H2 e2 => by
  rw [List.append_nil]
  exact k H2 (e1.trans e2)⟩
/-- o.f = e -/
theorem q_fld {P : V → Hp → Prop} (h : EvP te σ H P) (k : ∀ v H1, Ex H H1 → P v H1 → ∃ dx fs, Ev ta σ H1 (.ref a) ∧ H1 a = some (.ins C dx fs) ∧ Cls K C ∧ NoAttr K C f ∧ fs.length < 1000 ∧ ∀ H2, Ex H1 H2 → tz D σ (upd H2 a (.ins C dx (putF f v fs)))) :
    tSeq (sFld K ta te f) tz D σ H := h H (Ex.refl H) _ fun v H1 e1 p => by
  obtain ⟨dx, fs, h2, h3, h4, h5, h6, h7⟩ := k v H1 e1 p
  exact h2 H1 (Ex.refl H1) _ fun H2 e2 => ⟨a, C, dx, fs, rfl, e2 a _ h3, h4, h5, h6, h7 H2 e2⟩
theorem s_fld {P : V → Hp → Prop} (h : EvP te σ H P) (k : ∀ v H1, Ex H H1 → P v H1 → ∃ dx fs, Ev ta σ H1 (.ref a) ∧ H1 a = some (.ins C dx fs) ∧ Cls K C ∧ NoAttr K C f ∧ fs.length < 1000 ∧ ∀ H2, Ex H1 H2 → D.nx σ (upd H2 a (.ins C dx (putF f v fs)))) :
    sFld K ta te f D σ H := q_fld (tz := fun D σ H => D.nx σ H) (D := D) h k
theorem s_clear {l : Addr} {xs : List V} (hl : H l = some (.lst xs)) (ha : Ev ta σ H (.ref l)) (k : ∀ H1, Ex H H1 → D.nx σ (upd H1 l (.lst []))) : tDrop (tBM0 K "list" rClear ta) D σ H := ha H (Ex.refl H) _ fun H1 e1 =>
  ⟨Or.inl ⟨rfl, xs, sq_of (e1 l _ hl)⟩, l, xs, rfl, rfl, e1 l _ hl, k H1 e1⟩
theorem q_clear {l : Addr} {xs : List V} (hl : H l = some (.lst xs)) (ha : Ev ta σ H (.ref l)) (k : ∀ H1, Ex H H1 → tz D σ (upd H1 l (.lst []))) : tSeq (tDrop (tBM0 K "list" rClear ta)) tz D σ H := s_clear (D := { D with nx := tz D }) hl ha k
theorem no {p : Prop} (h : false = true) : p := Bool.noConfusion h
theorem no' {p : Prop} (h : true = false) : p := Bool.noConfusion h
theorem EvL.p {xs : List V} (h : EvL te σ H xs) : EvP te σ H (fun v H2 => ∃ p, v = .ref p ∧ H p = none ∧ H2 p = some (.lst xs)) := fun H1 e Q q => h H1 e _ fun p H2 hp e2 h2 => q _ H2 e2 ⟨p, rfl, fresh_back e hp, h2⟩
/-- two new lists in one -/
theorem el_catNN {xs ys : List V} (ha : EvL ta σ H xs) (hb : EvL tb σ H ys) (hz : xs.length + ys.length ≤ 100000) : EvL (tOp rCat ta tb) σ H (xs ++ ys) := fun H1 e Q q =>
  ha H1 e _ fun p H2 hp e2 h2 => hb H2 (e.trans e2) _ fun p2 H3 hp2 e3 h3 => ⟨p, p2, xs, ys, rfl, rfl, e3 p _ h2, h3, sz_of hz, fun l hl => q l _ (fresh_back (e2.trans e3) hl) ((e2.trans e3).trans (Ex.new hl)) upd_same⟩
/-- a list that stands (tracked), a new one -/
theorem el_catVN {p : Addr} {xs ys : List V} (ha : Ev ta σ H (.ref p)) (h : H p = some (.lst xs)) (hb : EvL tb σ H ys) (hz : xs.length + ys.length ≤ 100000) : EvL (tOp rCat ta tb) σ H (xs ++ ys) := fun H1 e Q q =>
  ha H1 e _ fun H2 e2 => hb H2 (e.trans e2) _ fun p2 H3 hp2 e3 h3 => ⟨p, p2, xs, ys, rfl, rfl, e3 p _ (e2 p _ (e p _ h)), h3, sz_of hz, fun l hl => q l _ (fresh_back (e2.trans e3) hl) ((e2.trans e3).trans (Ex.new hl)) upd_same⟩
theorem s_asgP {i : Nat} {P : V → Hp → Prop} (h : EvP te σ H P) (k : ∀ v H1, Ex H H1 → P v H1 → D.nx (σ.set i (some v)) H1) : tAsg te (gName i) D σ H := h H (Ex.refl H) _ fun v H1 e p => k v H1 e p
theorem q_asgP {i : Nat} {P : V → Hp → Prop} (h : EvP te σ H P) (k : ∀ v H1, Ex H H1 → P v H1 → tz D (σ.set i (some v)) H1) : tSeq (tAsg te (gName i)) tz D σ H := s_asgP (D := { D with nx := tz D }) h k
theorem s_retP {P : V → Hp → Prop} (h : EvP te σ H P) (k : ∀ v H1, Ex H H1 → P v H1 → D.rt v H1) : tRet te D σ H := h H (Ex.refl H) _ k
end

/-! ### lists of numbers -/
def vi (l : List Nat) : List V := l.map fun (n : Nat) => V.int (n : Int)
theorem vi_nil : vi [] = [] := rfl
theorem vi_cons (n : Nat) (l : List Nat) : vi (n :: l) = V.int (n : Int) :: vi l := rfl
theorem vi_app (l m : List Nat) : vi (l ++ m) = vi l ++ vi m := List.map_append
theorem vi_len (l : List Nat) : (vi l).length = l.length := List.length_map _
theorem vi_ints (l : List Nat) : vi l = (l.map fun (n : Nat) => (n : Int)).map V.int := by
  unfold vi
  rw [List.map_map]
  rfl
theorem vi_get {l : List Nat} {i n : Nat} (h : l[i]? = some n) : (vi l)[i]? = some (V.int (n : Int)) := by
  unfold vi
  rw [List.getElem?_map, h]
  rfl
theorem vi_get_of {l : List Nat} {i : Nat} {x : V} (h : (vi l)[i]? = some x) : ∃ n, l[i]? = some n ∧ x = V.int (n : Int) := by
  unfold vi at h
  rw [List.getElem?_map] at h
  cases e : l[i]? with
  | none => rw [e] at h; cases h
  | some n => rw [e] at h; exact ⟨n, rfl, (Option.some.inj h).symm⟩
theorem vi_at {l : List Nat} {i : Int} {j n : Nat} (e : i = (j : Int)) (h : l[j]? = some n) : atI (vi l) i = some (V.int (n : Int)) := at_of e (vi_get h)
theorem vi_flat (l : List Nat) : (vi l).all flatV = true := by
  induction l with
  | nil => rfl
  | cons n r ih => rw [vi_cons, List.all_cons, ih]; rfl
theorem eqV_nat (n m : Nat) : eqV (V.int (n : Int)) (V.int (m : Int)) = decide (n = m) := by
  show (((n : Int) == (m : Int)) : Bool) = _
  by_cases h : n = m
  · subst h; simp
  · have : ¬ ((n : Int) = (m : Int)) := by omega
    simp [h, this]
theorem vi_in (l : List Nat) (n : Nat) : inV (V.int (n : Int)) (vi l) = decide (n ∈ l) := by
  unfold inV
  induction l with
  | nil => simp [vi]
  | cons m r ih =>
    rw [vi_cons, List.any_cons, ih, eqV_nat]
    by_cases h : n = m
    · subst h; simp
    · by_cases h2 : n ∈ r
      · simp [h2]
      · have h3 : ¬ m = n := fun e => h e.symm
        simp [h, h2, h3]
theorem vi_inj : ∀ {l m : List Nat}, vi l = vi m → l = m
  | [], [], _ => rfl
  | [], _ :: _, h => by simp [vi] at h
  | _ :: _, [], h => by simp [vi] at h
  | a :: l, b :: m, h => by
    rw [vi_cons, vi_cons] at h
    injection h with h1 h2
    injection h1 with h1
    have : a = b := by omega
    rw [this, vi_inj h2]
theorem sum_cast (l : List Nat) : (l.map fun (n : Nat) => (n : Int)).sum = ((l.sum : Nat) : Int) := by
  induction l with
  | nil => rfl
  | cons n r ih => rw [List.map_cons, List.sum_cons, List.sum_cons, ih]; omega
end Fi
/-! More readings: data compared, isinstance, min, tuples and comprehensions made. -/
namespace Fi
open PySem L2 Evl
/-! ### data as a whole -/
def dI (l : List Nat) : PyData := .list (l.map fun (n : Nat) => PyData.int (n : Int))
theorem dpAll_vi {K : PySem.W.Frag} {H : Hp} : ∀ l : List Nat, DpAll K H (vi l) (l.map fun (n : Nat) => PyData.int (n : Int))
  | [] => .nil
  | n :: l => .cons (.int _) (dpAll_vi l)
theorem dp_vi {K : PySem.W.Frag} {H : Hp} {p : Addr} {l : List Nat} (h : SqL K H p (vi l)) : Dp K H (.ref p) (dI l) := .lst h (dpAll_vi l)
theorem canAll_ints : ∀ l : List Nat, PyData.canLayAll0 (l.map fun (n : Nat) => PyData.int (n : Int)) = true
  | [] => by simp [PyData.canLayAll0]
  | n :: l => by simp [PyData.canLayAll0, PyData.canLay0, canAll_ints l]
theorem depthAll_ints : ∀ l : List Nat, PyData.depthAll (l.map fun (n : Nat) => PyData.int (n : Int)) = 0
  | [] => by simp [PyData.depthAll]
  | n :: l => by simp [PyData.depthAll, PyData.depth, depthAll_ints l]
theorem can_dI (l : List Nat) : PyData.canLay0 (dI l) = true := by simp [dI, PyData.canLay0, canAll_ints]
theorem depth_dI (l : List Nat) : PyData.depth (dI l) = 1 := by simp [dI, PyData.depth, depthAll_ints]
theorem shaped_dI (l : List Nat) : SeqAt.shaped (dI l) = true := by
  unfold SeqAt.shaped
  rw [can_dI, depth_dI]
  rfl
theorem eqvAll_ints : ∀ l m : List Nat, PyData.eqvAll (l.map fun (n : Nat) => PyData.int (n : Int)) (m.map fun (n : Nat) => PyData.int (n : Int)) = decide (l = m)
  | [], [] => by simp [PyData.eqvAll]
  | [], _ :: _ => by simp [PyData.eqvAll]
  | _ :: _, [] => by simp [PyData.eqvAll]
  | a :: l, b :: m => by
    rw [List.map_cons, List.map_cons, PyData.eqvAll, eqvAll_ints l m]
    have e : PyData.eqv (.int (a : Int)) (.int (b : Int)) = decide (a = b) := by
      rw [PyData.eqv]
      by_cases h : a = b
      · subst h; simp
      · have : ¬ ((a : Int) = (b : Int)) := by omega
        simp [h, this]
    rw [e]
    by_cases h : a = b
    · by_cases h2 : l = m
      · simp [h, h2]
      · simp [h, h2]
    · simp [h]
theorem eqv_dI (l m : List Nat) : PyData.eqv (dI l) (dI m) = decide (l = m) := by
  unfold dI
  rw [PyData.eqv, eqvAll_ints]
theorem eqv_dII (a b c d : List Nat) : PyData.eqv (.list [dI a, dI b]) (.list [dI c, dI d]) = (decide (a = c) && decide (b = d)) := by
  rw [PyData.eqv, PyData.eqvAll, PyData.eqvAll, PyData.eqvAll, eqv_dI, eqv_dI, Bool.and_true]
theorem shaped_dII (a b : List Nat) : SeqAt.shaped (.list [dI a, dI b]) = true := by
  unfold SeqAt.shaped
  simp [PyData.canLay0, PyData.canLayAll0, can_dI, PyData.depth, PyData.depthAll, depth_dI]
section
variable {K : PySem.W.Frag} {σ : L2.St} {H H' : Hp} {ta tb te : TE} {t : TT} {x y z v : V}
theorem rv_neD {d e : PyData} (hd : ∀ H1, Ex H H1 → Dp K H1 x d) (he : ∀ H1, Ex H H1 → Dp K H1 y e) (sd : SeqAt.shaped d = true) (se : SeqAt.shaped e = true) : RV (rNeD K) x y H (.bl (!PyData.eqv d e)) := fun H1 e1 Q q =>
  ⟨d, e, hd H1 e1, he H1 e1, sd, se, q H1 (Ex.refl H1)⟩
theorem rv_eqD {d e : PyData} (hd : ∀ H1, Ex H H1 → Dp K H1 x d) (he : ∀ H1, Ex H H1 → Dp K H1 y e) (sd : SeqAt.shaped d = true) (se : SeqAt.shaped e = true) : RV (rEqD K) x y H (.bl (PyData.eqv d e)) := fun H1 e1 Q q =>
  ⟨d, e, hd H1 e1, he H1 e1, sd, se, q H1 (Ex.refl H1)⟩
/-- two lists of numbers that stand -/
theorem rv_neI {p q : Addr} {l m : List Nat} (h1 : SqL K H p (vi l)) (h2 : SqL K H q (vi m)) : RV (rNeD K) (.ref p) (.ref q) H (.bl (!decide (l = m))) := by
  rw [← eqv_dI]
  exact rv_neD (fun H1 e => dp_vi (ex_l e h1)) (fun H1 e => dp_vi (ex_l e h2)) (shaped_dI l) (shaped_dI m)
theorem rv_eqI {p q : Addr} {l m : List Nat} (h1 : SqL K H p (vi l)) (h2 : SqL K H q (vi m)) : RV (rEqD K) (.ref p) (.ref q) H (.bl (decide (l = m))) := by
  rw [← eqv_dI]
  exact rv_eqD (fun H1 e => dp_vi (ex_l e h1)) (fun H1 e => dp_vi (ex_l e h2)) (shaped_dI l) (shaped_dI m)
/-- a list against the empty list, made on the way -/
theorem ev_neNil {p : Addr} {l : List Nat} (ha : Ev ta σ H (.ref p)) (h : SqL K H p (vi l)) : Ev (tOp (rNeD K) ta (tLst tNil)) σ H (.bl (!decide (l = []))) :=
  ev_opL ha (el_lst ea_nil (Nat.zero_le _)) fun q H1 hq e => rv_neI (ex_l e h) (sq_of (xs := vi []) hq)
theorem ev_eqNil {p : Addr} {l : List Nat} (ha : Ev ta σ H (.ref p)) (h : SqL K H p (vi l)) : Ev (tOp (rEqD K) ta (tLst tNil)) σ H (.bl (decide (l = []))) :=
  ev_opL ha (el_lst ea_nil (Nat.zero_le _)) fun q H1 hq e => rv_eqI (ex_l e h) (sq_of (xs := vi []) hq)
/-- a new list against the empty list -/
theorem ev_neNilN {l : List Nat} (ha : EvL ta σ H (vi l)) : Ev (tOp (rNeD K) ta (tLst tNil)) σ H (.bl (!decide (l = []))) :=
  ev_opLL ha (el_lst ea_nil (Nat.zero_le _)) fun p q H1 hp hq e => rv_neI (sq_of hp) (sq_of (xs := vi []) hq)
theorem ev_eqNilN {l : List Nat} (ha : EvL ta σ H (vi l)) : Ev (tOp (rEqD K) ta (tLst tNil)) σ H (.bl (decide (l = []))) :=
  ev_opLL ha (el_lst ea_nil (Nat.zero_le _)) fun p q H1 hp hq e => rv_eqI (sq_of hp) (sq_of (xs := vi []) hq)
/-! ### isinstance, min, max, sum by values -/
theorem rc_isi {c : V} {tt u : Value} {b : Bool} (hc : ClsV c u) (ht : ∀ H1, Ex H H1 → TyX K H1 x tt) (hk : PySem.W.kitOne K tt u = some b) : RC (rIsi K) [x, c] H (.bl b) := fun H1 e Q q => ⟨x, c, tt, u, b, rfl, hc, ht H1 e, hk, q H1 (Ex.refl H1)⟩
theorem ev_isiInt {i : Int} {b : Bool} {s : String} (h : Ev ta σ H (.int i)) (hk : kitB "int" s = some b) : Ev (tCB (rIsi K) (tCons ta (tCons (tC (.ty s)) tNil))) σ H (.bl b) :=
  ev_cb (ea_cons h (ea_cons ev_c ea_nil)) (rc_isi (.ty s) (fun _ _ => .base (.int i)) (kit_ty hk))
theorem ev_isiLst {p : Addr} {xs : List V} {b : Bool} {s : String} (h : Ev ta σ H (.ref p)) (hp : H p = some (.lst xs)) (hk : kitB "list" s = some b) : Ev (tCB (rIsi K) (tCons ta (tCons (tC (.ty s)) tNil))) σ H (.bl b) :=
  ev_cb (ea_cons h (ea_cons ev_c ea_nil)) (rc_isi (.ty s) (fun H1 e => .base (.lst (e p _ hp))) (kit_ty hk))
theorem ev_isiTup {p : Addr} {xs : List V} {b : Bool} {s : String} (h : Ev ta σ H (.ref p)) (hp : H p = some (.tup xs)) (hk : kitB "tuple" s = some b) : Ev (tCB (rIsi K) (tCons ta (tCons (tC (.ty s)) tNil))) σ H (.bl b) :=
  ev_cb (ea_cons h (ea_cons ev_c ea_nil)) (rc_isi (.ty s) (fun H1 e => .base (.tup (e p _ hp))) (kit_ty hk))
theorem rc_min2 {i j : Int} : RC (fun xs H Q => ∃ i j, xs = [.int i, .int j] ∧ Q (.int (if j < i then j else i)) H) [.int i, .int j] H (.int (if j < i then j else i)) := fun H1 _ _ q => ⟨i, j, rfl, q H1 (Ex.refl H1)⟩
theorem rc_max2 {i j : Int} : RC (fun xs H Q => ∃ i j, xs = [.int i, .int j] ∧ Q (.int (if j > i then j else i)) H) [.int i, .int j] H (.int (if j > i then j else i)) := fun H1 _ _ q => ⟨i, j, rfl, q H1 (Ex.refl H1)⟩
theorem rc_sum {p : Addr} {l : List Nat} (h : SqL K H p (vi l)) : RC (rSum K) [.ref p] H (.int ((l.sum : Nat) : Int)) := fun H1 e Q q => ⟨p, l.map fun (n : Nat) => (n : Int), rfl, by rw [← vi_ints]; exact ex_l e h, by rw [sum_cast]; exact q H1 (Ex.refl H1)⟩
/-- sum of a new list -/
theorem ev_sumN {l : List Nat} (h : EvL ta σ H (vi l)) : Ev (tCB (rSum K) (tCons ta tNil)) σ H (.int ((l.sum : Nat) : Int)) := ev_cbL h fun p H1 hp _ => rc_sum (sq_of hp)
/-! ### two new lists in a tuple, in a list -/
theorem ep_tupLL {xs ys : List V} (ha : EvL ta σ H xs) (hb : EvL tb σ H ys) : EvP (tTup (tCons ta (tCons tb tNil))) σ H (fun v H2 => ∃ t p q, v = .ref t ∧ H2 t = some (.tup [.ref p, .ref q]) ∧ H2 p = some (.lst xs) ∧ H2 q = some (.lst ys)) := fun H1 e Q k =>
  ha H1 e _ fun p H2 hp e2 h2 => hb H2 (e.trans e2) _ fun q H3 hq e3 h3 => ⟨by show 2 ≤ sizeLine; decide, fun t ht => k _ _ ((e2.trans e3).trans (Ex.new ht)) ⟨t, p, q, rfl, upd_same, Ex.new ht p _ (e3 p _ h2), Ex.new ht q _ h3⟩⟩
theorem ep_tupVL {ys : List V} (ha : Ev ta σ H x) (hb : EvL tb σ H ys) : EvP (tTup (tCons ta (tCons tb tNil))) σ H (fun v H2 => ∃ t q, v = .ref t ∧ H2 t = some (.tup [x, .ref q]) ∧ H2 q = some (.lst ys)) := fun H1 e Q k =>
  ha H1 e _ fun H2 e2 => hb H2 (e.trans e2) _ fun q H3 hq e3 h3 => ⟨by show 2 ≤ sizeLine; decide, fun t ht => k _ _ ((e2.trans e3).trans (Ex.new ht)) ⟨t, q, rfl, upd_same, Ex.new ht q _ h3⟩⟩
/-- two new lists in a new list; all three are new -/
theorem ep_lstLL {xs ys : List V} (ha : EvL ta σ H xs) (hb : EvL tb σ H ys) : EvP (tLst (tCons ta (tCons tb tNil))) σ H (fun v H2 => ∃ t p q, v = .ref t ∧ H t = none ∧ H p = none ∧ H q = none ∧ p ≠ q ∧ p ≠ t ∧ q ≠ t ∧ H2 t = some (.lst [.ref p, .ref q]) ∧ H2 p = some (.lst xs) ∧ H2 q = some (.lst ys)) := fun H1 e Q k =>
  ha H1 e _ fun p H2 hp e2 h2 => hb H2 (e.trans e2) _ fun q H3 hq e3 h3 => ⟨by show 2 ≤ sizeLine; decide, fun t ht =>
    k _ _ ((e2.trans e3).trans (Ex.new ht)) ⟨t, p, q, rfl, fresh_back ((e.trans e2).trans e3) ht, fresh_back e hp, fresh_back (e.trans e2) hq, ne_of_none h2 hq, ne_of_none (e3 p _ h2) ht, ne_of_none h3 ht, upd_same, Ex.new ht p _ (e3 p _ h2), Ex.new ht q _ h3⟩⟩
/-! ### comprehensions -/
theorem et_yes : EvT tYes σ H true := fun H1 _ _ q => q H1 (Ex.refl H1)
theorem given_all (n : Nat) (v : Nat → V) : given n (fun _ => true) v = (List.range n).map v := by
  unfold given
  rw [List.filter_eq_self.mpr (by simp)]
theorem given_vi {n : Nat} {g : Nat → Nat} {v : Nat → V} (h : ∀ i, i < n → v i = V.int ((g i : Nat) : Int)) : given n (fun _ => true) v = vi ((List.range n).map g) := by
  rw [given_all]
  unfold vi
  rw [List.map_map]
  exact List.map_congr_left fun i hi => h i (List.mem_range.mp hi)
theorem el_is {xs ys : List V} (h : EvL te σ H xs) (e : xs = ys) : EvL te σ H ys := e ▸ h
/-- [e for i in range(n)], whole numbers made -/
theorem el_lcR1v {tA : TA} {j : Nat} {vs : List Nat} {n : Nat} (g : Nat → Nat) (h : EvA tA σ H [.int (n : Int)]) (hn : n ≤ 40000) (hw : ∀ x, wipe ((wipe σ vs).set j (some x)) vs = wipe σ vs)
    (he : ∀ (i : Nat) H1, Ex H H1 → i < n → Ev te ((wipe σ vs).set j (some (.int (i : Int)))) H1 (.int ((g i : Nat) : Int))) : EvL (tLc (iRng1 tA) (gName j) tYes te vs) σ H (vi ((List.range n).map g)) := by
  have q := el_lcR1 (t := tYes) (te := te) (σ := σ) (H := H) (ta := tA) (j := j) (vs := vs) (n := (n : Int)) (fun _ => true) (fun i => V.int ((g i : Nat) : Int)) h ⟨by omega, by omega⟩ hw (fun _ _ _ _ => et_yes) (fun i H1 e hi _ => he i H1 e (by omega))
  rw [Int.toNat_natCast, given_vi fun i _ => rfl] at q
  exact q
theorem range_map_get (l : List Nat) (g : Nat → Nat) : (List.range l.length).map (fun i => g (l.getD i 0)) = l.map g := by
  refine List.ext_getElem ?_ fun i h1 h2 => ?_
  · simp
  · rw [List.length_map, List.length_range] at h1
    simp only [List.getElem_map, List.getElem_range]
    rw [List.getD_eq_getElem?_getD, List.getElem?_eq_getElem h1]
    rfl
/-- [e for n in l], l a list of numbers that stands, whole numbers made -/
theorem el_lcLv {a : Addr} {l : List Nat} {tl : TE} {j : Nat} {vs : List Nat} (g : Nat → Nat) (h : Ev tl σ H (.ref a)) (hx : SqL K H a (vi l)) (hz : l.length ≤ 40000) (hw : ∀ x, wipe ((wipe σ vs).set j (some x)) vs = wipe σ vs)
    (he : ∀ (n : Nat) H1, Ex H H1 → n ∈ l → Ev te ((wipe σ vs).set j (some (.int (n : Int)))) H1 (.int ((g n : Nat) : Int))) : EvL (tLc (iList K tl) (gName j) tYes te vs) σ H (vi (l.map g)) := by
  have q := el_lcL (t := tYes) (te := te) (K := K) (σ := σ) (H := H) (a := a) (xs := vi l) (tl := tl) (j := j) (vs := vs) (fun _ => true) (fun i => V.int ((g (l.getD i 0) : Nat) : Int)) h hx (by rw [vi_len]; exact hz) hw (fun _ _ _ _ _ => et_yes) (fun i x H1 e hi _ => by
    obtain ⟨n, hn, rfl⟩ := vi_get_of hi
    have e1 : l.getD i 0 = n := by rw [List.getD_eq_getElem?_getD, hn]; rfl
    show Ev te _ H1 (.int ((g (l.getD i 0) : Nat) : Int))
    rw [e1]
    exact he n H1 e (List.mem_of_getElem? hn))
  rw [vi_len, given_vi (g := fun i => g (l.getD i 0)) fun i _ => rfl, range_map_get] at q
  exact q
theorem el_lcNLv {l : List Nat} {tl : TE} {j : Nat} {vs : List Nat} (g : Nat → Nat) (h : EvL tl σ H (vi l)) (hz : l.length ≤ 40000) (hw : ∀ x, wipe ((wipe σ vs).set j (some x)) vs = wipe σ vs)
    (he : ∀ (n : Nat) H1, Ex H H1 → n ∈ l → Ev te ((wipe σ vs).set j (some (.int (n : Int)))) H1 (.int ((g n : Nat) : Int))) : EvL (tLc (iList K tl) (gName j) tYes te vs) σ H (vi (l.map g)) := by
  have q := el_lcNL (t := tYes) (te := te) (K := K) (σ := σ) (H := H) (xs := vi l) (tl := tl) (j := j) (vs := vs) (fun _ => true) (fun i => V.int ((g (l.getD i 0) : Nat) : Int)) h (by rw [vi_len]; exact hz) hw (fun _ _ _ _ _ => et_yes) (fun i x H1 e hi _ => by
    obtain ⟨n, hn, rfl⟩ := vi_get_of hi
    have e1 : l.getD i 0 = n := by rw [List.getD_eq_getElem?_getD, hn]; rfl
    show Ev te _ H1 (.int ((g (l.getD i 0) : Nat) : Int))
    rw [e1]
    exact he n H1 e (List.mem_of_getElem? hn))
  rw [vi_len, given_vi (g := fun i => g (l.getD i 0)) fun i _ => rfl, range_map_get] at q
  exact q
theorem filter_get (l : List Nat) (f : Nat → Bool) : ((List.range l.length).filter fun i => f (l.getD i 0)).map (fun i => l.getD i 0) = l.filter f := by
  have e : (List.range l.length).map (fun i => l.getD i 0) = l := by
    have := range_map_get l id
    rw [List.map_id] at this
    exact this
  conv => rhs; rw [← e]
  rw [List.filter_map]
  rfl
end
/-! ### a plot: a tuple of elders and worths -/
def PlotAt (H : Hp) (p : Addr) (es ws : List Nat) : Prop := ∃ pe pw, H p = some (.tup [.ref pe, .ref pw]) ∧ H pe = some (.lst (vi es)) ∧ H pw = some (.lst (vi ws))
theorem PlotAt.mono {H H' : Hp} {p : Addr} {es ws : List Nat} (h : PlotAt H p es ws) (e : Ex H H') : PlotAt H' p es ws := by
  obtain ⟨pe, pw, h1, h2, h3⟩ := h
  exact ⟨pe, pw, e _ _ h1, e _ _ h2, e _ _ h3⟩
theorem tup0 {K : PySem.W.Frag} {H : Hp} {p : Addr} {x y : V} (h : H p = some (.tup [x, y])) : SqT K H p [x, y] := st_of h
end Fi
namespace Fi
open PySem L2 Evl
def top (i : Nat) : Stmt := PySem.Challenge.pw_firetree_k01_trees.main.body.getD i (.Pass ⟨0, 0, 0, 0⟩)
abbrev s_Tree___init__ : Stmt := inClass (top 7) 0
abbrev n_Tree___init__ : List Str := ["self", "elders", "worths", "k", "worth"]
abbrev p_Tree___init__ : List Str := ["self", "elders", "worths"]
theorem sc_Tree___init__ : FnScope n_Tree___init__ p_Tree___init__ (defScope s_Tree___init__) := ⟨rfl, rfl, rfl, by decide +kernel, rfl, by decide +kernel, by decide +kernel⟩
theorem bd_Tree___init__ : ∀ (kV doc pm : Value) (an : Option Addr) (cdv ct : Value) (us : List Value), us.length = p_Tree___init__.length → bindArgs (PySem.W.fnOf "__init__" "Tree.__init__" (defArgs s_Tree___init__) (defBody s_Tree___init__) (defScope s_Tree___init__) .none kV doc pm an cdv ct) ⟨us, []⟩ = pure (p_Tree___init__.zip us) := fun _ _ _ _ _ _ us hl => match us, hl with | [_, _, _], _ => rfl
abbrev s_Tree_elders : Stmt := inClass (top 7) 1
abbrev n_Tree_elders : List Str := ["self"]
abbrev p_Tree_elders : List Str := ["self"]
theorem sc_Tree_elders : FnScope n_Tree_elders p_Tree_elders (defScope s_Tree_elders) := ⟨rfl, rfl, rfl, by decide +kernel, rfl, by decide +kernel, by decide +kernel⟩
theorem bd_Tree_elders : ∀ (kV doc pm : Value) (an : Option Addr) (cdv ct : Value) (us : List Value), us.length = p_Tree_elders.length → bindArgs (PySem.W.fnOf "elders" "Tree.elders" (defArgs s_Tree_elders) (defBody s_Tree_elders) (defScope s_Tree_elders) .none kV doc pm an cdv ct) ⟨us, []⟩ = pure (p_Tree_elders.zip us) := fun _ _ _ _ _ _ us hl => match us, hl with | [_], _ => rfl
abbrev s_Tree_worths : Stmt := inClass (top 7) 2
abbrev n_Tree_worths : List Str := ["self"]
abbrev p_Tree_worths : List Str := ["self"]
theorem sc_Tree_worths : FnScope n_Tree_worths p_Tree_worths (defScope s_Tree_worths) := ⟨rfl, rfl, rfl, by decide +kernel, rfl, by decide +kernel, by decide +kernel⟩
theorem bd_Tree_worths : ∀ (kV doc pm : Value) (an : Option Addr) (cdv ct : Value) (us : List Value), us.length = p_Tree_worths.length → bindArgs (PySem.W.fnOf "worths" "Tree.worths" (defArgs s_Tree_worths) (defBody s_Tree_worths) (defScope s_Tree_worths) .none kV doc pm an cdv ct) ⟨us, []⟩ = pure (p_Tree_worths.zip us) := fun _ _ _ _ _ _ us hl => match us, hl with | [_], _ => rfl
abbrev s_Tree_things : Stmt := inClass (top 7) 3
abbrev n_Tree_things : List Str := ["self"]
abbrev p_Tree_things : List Str := ["self"]
theorem sc_Tree_things : FnScope n_Tree_things p_Tree_things (defScope s_Tree_things) := ⟨rfl, rfl, rfl, by decide +kernel, rfl, by decide +kernel, by decide +kernel⟩
theorem bd_Tree_things : ∀ (kV doc pm : Value) (an : Option Addr) (cdv ct : Value) (us : List Value), us.length = p_Tree_things.length → bindArgs (PySem.W.fnOf "things" "Tree.things" (defArgs s_Tree_things) (defBody s_Tree_things) (defScope s_Tree_things) .none kV doc pm an cdv ct) ⟨us, []⟩ = pure (p_Tree_things.zip us) := fun _ _ _ _ _ _ us hl => match us, hl with | [_], _ => rfl
abbrev s_Tree_see_thing : Stmt := inClass (top 7) 4
abbrev n_Tree_see_thing : List Str := ["self", "thing"]
abbrev p_Tree_see_thing : List Str := ["self", "thing"]
theorem sc_Tree_see_thing : FnScope n_Tree_see_thing p_Tree_see_thing (defScope s_Tree_see_thing) := ⟨rfl, rfl, rfl, by decide +kernel, rfl, by decide +kernel, by decide +kernel⟩
theorem bd_Tree_see_thing : ∀ (kV doc pm : Value) (an : Option Addr) (cdv ct : Value) (us : List Value), us.length = p_Tree_see_thing.length → bindArgs (PySem.W.fnOf "see_thing" "Tree.see_thing" (defArgs s_Tree_see_thing) (defBody s_Tree_see_thing) (defScope s_Tree_see_thing) .none kV doc pm an cdv ct) ⟨us, []⟩ = pure (p_Tree_see_thing.zip us) := fun _ _ _ _ _ _ us hl => match us, hl with | [_, _], _ => rfl
abbrev s_Tree_depth : Stmt := inClass (top 7) 5
abbrev n_Tree_depth : List Str := ["self", "thing", "steps"]
abbrev p_Tree_depth : List Str := ["self", "thing"]
theorem sc_Tree_depth : FnScope n_Tree_depth p_Tree_depth (defScope s_Tree_depth) := ⟨rfl, rfl, rfl, by decide +kernel, rfl, by decide +kernel, by decide +kernel⟩
theorem bd_Tree_depth : ∀ (kV doc pm : Value) (an : Option Addr) (cdv ct : Value) (us : List Value), us.length = p_Tree_depth.length → bindArgs (PySem.W.fnOf "depth" "Tree.depth" (defArgs s_Tree_depth) (defBody s_Tree_depth) (defScope s_Tree_depth) .none kV doc pm an cdv ct) ⟨us, []⟩ = pure (p_Tree_depth.zip us) := fun _ _ _ _ _ _ us hl => match us, hl with | [_, _], _ => rfl
abbrev s_Tree_below : Stmt := inClass (top 7) 6
abbrev n_Tree_below : List Str := ["self", "thing", "found", "other"]
abbrev p_Tree_below : List Str := ["self", "thing"]
theorem sc_Tree_below : FnScope n_Tree_below p_Tree_below (defScope s_Tree_below) := ⟨rfl, rfl, rfl, by decide +kernel, rfl, by decide +kernel, by decide +kernel⟩
theorem bd_Tree_below : ∀ (kV doc pm : Value) (an : Option Addr) (cdv ct : Value) (us : List Value), us.length = p_Tree_below.length → bindArgs (PySem.W.fnOf "below" "Tree.below" (defArgs s_Tree_below) (defBody s_Tree_below) (defScope s_Tree_below) .none kV doc pm an cdv ct) ⟨us, []⟩ = pure (p_Tree_below.zip us) := fun _ _ _ _ _ _ us hl => match us, hl with | [_, _], _ => rfl
abbrev s_Tree_worth_below : Stmt := inClass (top 7) 7
abbrev n_Tree_worth_below : List Str := ["self", "thing", "other"]
abbrev p_Tree_worth_below : List Str := ["self", "thing"]
theorem sc_Tree_worth_below : FnScope n_Tree_worth_below p_Tree_worth_below (defScope s_Tree_worth_below) := ⟨rfl, rfl, rfl, by decide +kernel, rfl, by decide +kernel, by decide +kernel⟩
theorem bd_Tree_worth_below : ∀ (kV doc pm : Value) (an : Option Addr) (cdv ct : Value) (us : List Value), us.length = p_Tree_worth_below.length → bindArgs (PySem.W.fnOf "worth_below" "Tree.worth_below" (defArgs s_Tree_worth_below) (defBody s_Tree_worth_below) (defScope s_Tree_worth_below) .none kV doc pm an cdv ct) ⟨us, []⟩ = pure (p_Tree_worth_below.zip us) := fun _ _ _ _ _ _ us hl => match us, hl with | [_, _], _ => rfl
abbrev s__law_cell_at : Stmt := top 9
abbrev n__law_cell_at : List Str := ["script", "k"]
abbrev p__law_cell_at : List Str := ["script", "k"]
theorem sc__law_cell_at : FnScope n__law_cell_at p__law_cell_at (defScope s__law_cell_at) := ⟨rfl, rfl, rfl, by decide +kernel, rfl, by decide +kernel, by decide +kernel⟩
theorem bd__law_cell_at : ∀ (kV doc pm : Value) (an : Option Addr) (cdv ct : Value) (us : List Value), us.length = p__law_cell_at.length → bindArgs (PySem.W.fnOf "_law_cell_at" "_law_cell_at" (defArgs s__law_cell_at) (defBody s__law_cell_at) (defScope s__law_cell_at) .none kV doc pm an cdv ct) ⟨us, []⟩ = pure (p__law_cell_at.zip us) := fun _ _ _ _ _ _ us hl => match us, hl with | [_, _], _ => rfl
abbrev s__law_draw : Stmt := top 10
abbrev n__law_draw : List Str := ["script", "k"]
abbrev p__law_draw : List Str := ["script", "k"]
theorem sc__law_draw : FnScope n__law_draw p__law_draw (defScope s__law_draw) := ⟨rfl, rfl, rfl, by decide +kernel, rfl, by decide +kernel, by decide +kernel⟩
theorem bd__law_draw : ∀ (kV doc pm : Value) (an : Option Addr) (cdv ct : Value) (us : List Value), us.length = p__law_draw.length → bindArgs (PySem.W.fnOf "_law_draw" "_law_draw" (defArgs s__law_draw) (defBody s__law_draw) (defScope s__law_draw) .none kV doc pm an cdv ct) ⟨us, []⟩ = pure (p__law_draw.zip us) := fun _ _ _ _ _ _ us hl => match us, hl with | [_, _], _ => rfl
abbrev s__law_whole : Stmt := top 11
abbrev n__law_whole : List Str := ["found"]
abbrev p__law_whole : List Str := ["found"]
theorem sc__law_whole : FnScope n__law_whole p__law_whole (defScope s__law_whole) := ⟨rfl, rfl, rfl, by decide +kernel, rfl, by decide +kernel, by decide +kernel⟩
theorem bd__law_whole : ∀ (kV doc pm : Value) (an : Option Addr) (cdv ct : Value) (us : List Value), us.length = p__law_whole.length → bindArgs (PySem.W.fnOf "_law_whole" "_law_whole" (defArgs s__law_whole) (defBody s__law_whole) (defScope s__law_whole) .none kV doc pm an cdv ct) ⟨us, []⟩ = pure (p__law_whole.zip us) := fun _ _ _ _ _ _ us hl => match us, hl with | [_], _ => rfl
abbrev s__law_elders : Stmt := top 12
abbrev n__law_elders : List Str := ["script", "things", "elders", "way", "k", "cell"]
abbrev p__law_elders : List Str := ["script", "things"]
theorem sc__law_elders : FnScope n__law_elders p__law_elders (defScope s__law_elders) := ⟨rfl, rfl, rfl, by decide +kernel, rfl, by decide +kernel, by decide +kernel⟩
theorem bd__law_elders : ∀ (kV doc pm : Value) (an : Option Addr) (cdv ct : Value) (us : List Value), us.length = p__law_elders.length → bindArgs (PySem.W.fnOf "_law_elders" "_law_elders" (defArgs s__law_elders) (defBody s__law_elders) (defScope s__law_elders) .none kV doc pm an cdv ct) ⟨us, []⟩ = pure (p__law_elders.zip us) := fun _ _ _ _ _ _ us hl => match us, hl with | [_, _], _ => rfl
abbrev s__law_tree : Stmt := top 13
abbrev n__law_tree : List Str := ["script", "most", "things", "top", "k"]
abbrev p__law_tree : List Str := ["script", "most"]
theorem sc__law_tree : FnScope n__law_tree p__law_tree (defScope s__law_tree) := ⟨rfl, rfl, rfl, by decide +kernel, rfl, by decide +kernel, by decide +kernel⟩
theorem bd__law_tree : ∀ (kV doc pm : Value) (an : Option Addr) (cdv ct : Value) (us : List Value), us.length = p__law_tree.length → bindArgs (PySem.W.fnOf "_law_tree" "_law_tree" (defArgs s__law_tree) (defBody s__law_tree) (defScope s__law_tree) .none kV doc pm an cdv ct) ⟨us, []⟩ = pure (p__law_tree.zip us) := fun _ _ _ _ _ _ us hl => match us, hl with | [_, _], _ => rfl
abbrev s__law_depth : Stmt := top 14
abbrev n__law_depth : List Str := ["elders", "thing", "steps"]
abbrev p__law_depth : List Str := ["elders", "thing"]
theorem sc__law_depth : FnScope n__law_depth p__law_depth (defScope s__law_depth) := ⟨rfl, rfl, rfl, by decide +kernel, rfl, by decide +kernel, by decide +kernel⟩
theorem bd__law_depth : ∀ (kV doc pm : Value) (an : Option Addr) (cdv ct : Value) (us : List Value), us.length = p__law_depth.length → bindArgs (PySem.W.fnOf "_law_depth" "_law_depth" (defArgs s__law_depth) (defBody s__law_depth) (defScope s__law_depth) .none kV doc pm an cdv ct) ⟨us, []⟩ = pure (p__law_depth.zip us) := fun _ _ _ _ _ _ us hl => match us, hl with | [_, _], _ => rfl
abbrev s__law_below : Stmt := top 15
abbrev n__law_below : List Str := ["elders", "thing", "found", "other", "here"]
abbrev p__law_below : List Str := ["elders", "thing"]
theorem sc__law_below : FnScope n__law_below p__law_below (defScope s__law_below) := ⟨rfl, rfl, rfl, by decide +kernel, rfl, by decide +kernel, by decide +kernel⟩
theorem bd__law_below : ∀ (kV doc pm : Value) (an : Option Addr) (cdv ct : Value) (us : List Value), us.length = p__law_below.length → bindArgs (PySem.W.fnOf "_law_below" "_law_below" (defArgs s__law_below) (defBody s__law_below) (defScope s__law_below) .none kV doc pm an cdv ct) ⟨us, []⟩ = pure (p__law_below.zip us) := fun _ _ _ _ _ _ us hl => match us, hl with | [_, _], _ => rfl
abbrev s__law_worth : Stmt := top 16
abbrev n__law_worth : List Str := ["plot", "thing", "other"]
abbrev p__law_worth : List Str := ["plot", "thing"]
theorem sc__law_worth : FnScope n__law_worth p__law_worth (defScope s__law_worth) := ⟨rfl, rfl, rfl, by decide +kernel, rfl, by decide +kernel, by decide +kernel⟩
theorem bd__law_worth : ∀ (kV doc pm : Value) (an : Option Addr) (cdv ct : Value) (us : List Value), us.length = p__law_worth.length → bindArgs (PySem.W.fnOf "_law_worth" "_law_worth" (defArgs s__law_worth) (defBody s__law_worth) (defScope s__law_worth) .none kV doc pm an cdv ct) ⟨us, []⟩ = pure (p__law_worth.zip us) := fun _ _ _ _ _ _ us hl => match us, hl with | [_, _], _ => rfl
abbrev s__law_numbers : Stmt := top 17
abbrev n__law_numbers : List Str := ["found", "due", "number"]
abbrev p__law_numbers : List Str := ["found", "due"]
theorem sc__law_numbers : FnScope n__law_numbers p__law_numbers (defScope s__law_numbers) := ⟨rfl, rfl, rfl, by decide +kernel, rfl, by decide +kernel, by decide +kernel⟩
theorem bd__law_numbers : ∀ (kV doc pm : Value) (an : Option Addr) (cdv ct : Value) (us : List Value), us.length = p__law_numbers.length → bindArgs (PySem.W.fnOf "_law_numbers" "_law_numbers" (defArgs s__law_numbers) (defBody s__law_numbers) (defScope s__law_numbers) .none kV doc pm an cdv ct) ⟨us, []⟩ = pure (p__law_numbers.zip us) := fun _ _ _ _ _ _ us hl => match us, hl with | [_, _], _ => rfl
abbrev s_law : Stmt := top 18
abbrev n_law : List Str := ["script", "plot", "handed", "tree", "turn", "told", "thing", "found", "worth"]
abbrev p_law : List Str := ["script"]
theorem sc_law : FnScope n_law p_law (defScope s_law) := ⟨rfl, rfl, rfl, by decide +kernel, rfl, by decide +kernel, by decide +kernel⟩
theorem bd_law : ∀ (kV doc pm : Value) (an : Option Addr) (cdv ct : Value) (us : List Value), us.length = p_law.length → bindArgs (PySem.W.fnOf "law" "law" (defArgs s_law) (defBody s_law) (defScope s_law) .none kV doc pm an cdv ct) ⟨us, []⟩ = pure (p_law.zip us) := fun _ _ _ _ _ _ us hl => match us, hl with | [_], _ => rfl
end Fi
/-! The law's draws and its tree. -/
namespace Fi
open PySem L2 Evl
section
variable {P : Program} {w : World} {K : PySem.W.Frag} {mg : Str → Option Value} {base : Heap}
/-! ### _law_cell_at -/
def spCell (K : PySem.W.Frag) : Sp := fun vs H Q _ => ∃ (a : Addr) (ns : List Int) (k : Int), vs = [.ref a, .int k] ∧ SqL K H a (ns.map V.int) ∧ 0 ≤ k ∧ RetV (.int (ns.getD k.toNat 0)) H Q
theorem has_cell (B : Bi mg) (D : At K mg "_law_cell_at" s__law_cell_at p__law_cell_at) : Has P w K mg base CX0 "_law_cell_at" p__law_cell_at 1 (spCell K) := D.has fun f fd F => by
  refine F.ok sc__law_cell_at (fun vs H Q E h => ?_) (fun cdv A outer s H vs Q E hr h => ?_)
  · obtain ⟨a, ns, k, rfl, _⟩ := h
    rfl
  · obtain ⟨a, ns, k, rfl, hS, hk, q⟩ := h
    refine ⟨_, (pss_cons (ps_if (pt_cmpR op_lt (pv 1) (pe_callB (call_lenK (K := K)) (by rfl) B.len PySem.boot_len (pa_cons (pv 0) pa_nil)) (nomark _)) (pss_one (ps_ret (pe_ix (ix_listK (K := K)) (pv 0) (pv 1) (fun _ _ => rfl)))) pss_nil)
      (pss_one (ps_ret pe_int))), ?_⟩
    refine q_when (et_test (ev_op (ev_var rfl) (ev_lenS (ev_var rfl) hS) rv_I0)) (fun hb H1 e1 => ?_) (fun hb H1 e1 => ?_)
    · have hlt : k < ((ns.map V.int).length : Int) := of_decide_eq_true hb
      rw [List.length_map] at hlt
      have hx : atI (ns.map V.int) k = some (V.int (ns.getD k.toNat 0)) := at_of (j := k.toNat) (by omega) (by
        rw [List.getElem?_map, List.getD_eq_getElem?_getD, List.getElem?_eq_getElem (by omega)]; rfl)
      exact s_ret (ev_opIx (ev_var rfl) (ev_var rfl) (ex_l e1 hS) hx) fun H2 e2 => q H2 (e1.trans e2)
    · have hlt : ¬ k < ((ns.map V.int).length : Int) := of_decide_eq_false hb
      rw [List.length_map] at hlt
      have hx : ns.getD k.toNat 0 = 0 := by
        rw [List.getD_eq_getElem?_getD, List.getElem?_eq_none (by omega)]; rfl
      rw [hx] at q
      exact s_ret ev_c fun H2 e2 => q H2 (e1.trans e2)
theorem spv_cell {H : Hp} {a : Addr} {ns : List Int} {k : Int} (hS : SqL K H a (ns.map V.int)) (hk : 0 ≤ k) : SpV (spCell K) [.ref a, .int k] H (.int (ns.getD k.toNat 0)) := fun H1 e Q q E => ⟨a, ns, k, rfl, ex_l e hS, hk, q⟩
/-! ### _law_draw -/
def spDraw (K : PySem.W.Frag) : Sp := fun vs H Q _ => ∃ (a : Addr) (ns : List Int) (k : Int), vs = [.ref a, .int k] ∧ SqL K H a (ns.map V.int) ∧ 0 ≤ k ∧ k ≤ 1000 ∧ RetV (.int (Fm.draw ns k)) H Q
theorem has_draw (D : At K mg "_law_draw" s__law_draw p__law_draw) (h_law_cell_at : Has P w K mg base CX0 "_law_cell_at" p__law_cell_at 1 (spCell K)) : Has P w K mg base CX0 "_law_draw" p__law_draw 2 (spDraw K) := D.has fun f fd F => by
  refine F.ok sc__law_draw (fun vs H Q E h => ?_) (fun cdv A outer s H vs Q E hr h => ?_)
  · obtain ⟨a, ns, k, rfl, _⟩ := h
    rfl
  · obtain ⟨a, ns, k, rfl, hS, hk, hk2, q⟩ := h
    refine ⟨_, (pss_one (ps_ret (pe_op op_mod (pe_op op_mul (pe_op op_add (h_law_cell_at.call (hr.mono (by decide)) (by rfl) pass0 (pa_cons (pv 0) (pa_cons (pe_op op_mod (pv 1) pe_int) pa_nil))) (pe_op op_mul pe_int (pv 1))) (pe_op op_add pe_int (pe_op op_mul pe_int (pv 1)))) pe_int))), ?_⟩
    refine s_ret (ev_op (ev_op (ev_op (ev_call0 (ea_cons (ev_var rfl) (ea_cons (ev_op (ev_var rfl) ev_c (rv_I (by decide))) ea_nil)) (spv_cell hS (Int.emod_nonneg _ (by decide)))) (ev_op ev_c (ev_var rfl) (rv_I (.inl (by decide)))) rv_I0)
      (ev_op ev_c (ev_op ev_c (ev_var rfl) (rv_I (.inl (by decide)))) rv_I0) (rv_I (.inr ⟨by omega, by omega⟩))) ev_c (rv_I (by decide))) fun H1 e1 => q H1 e1
theorem spv_draw {H : Hp} {a : Addr} {ns : List Int} {k : Int} (hS : SqL K H a (ns.map V.int)) (hk : 0 ≤ k) (hk2 : k ≤ 1000) : SpV (spDraw K) [.ref a, .int k] H (.int (Fm.draw ns k)) := fun H1 e Q q E => ⟨a, ns, k, rfl, ex_l e hS, hk, hk2, q⟩
/-! ### _law_elders -/
def spElders (K : PySem.W.Frag) : Sp := fun vs H Q _ => ∃ (a : Addr) (ns : List Int) (n : Nat), vs = [.ref a, .int (n : Int)] ∧ SqL K H a (ns.map V.int) ∧ 1 ≤ n ∧ n ≤ 14 ∧ RetL (vi (Fm.elders ns (n - 1))) H Q
theorem way4 {w a b c d : Int} (h0 : 0 ≤ w) (h1 : w < 4) : atI [V.int a, V.int b, V.int c, V.int d] w = some (V.int (if w = 0 then a else if w = 1 then b else if w = 2 then c else d)) := by
  have : w = 0 ∨ w = 1 ∨ w = 2 ∨ w = 3 := by omega
  rcases this with rfl | rfl | rfl | rfl <;> rfl
theorem has_elders (B : Bi mg) (D : At K mg "_law_elders" s__law_elders p__law_elders) (h_law_draw : Has P w K mg base CX0 "_law_draw" p__law_draw 2 (spDraw K)) : Has P w K mg base CX0 "_law_elders" p__law_elders 3 (spElders K) := D.has fun f fd F => by
  refine F.ok sc__law_elders (fun vs H Q E h => ?_) (fun cdv A outer s H vs Q E hr h => ?_)
  · obtain ⟨a, ns, k, rfl, _⟩ := h
    rfl
  · obtain ⟨a, ns, n, rfl, hS, hn, hn2, q⟩ := h
    refine ⟨_, (pss_cons (ps_set (i := 2) sc__law_elders.nd rfl (Or.inl rfl) (pe_lst pa_nil))
      (pss_cons (ps_set (i := 3) sc__law_elders.nd rfl (Or.inl rfl) (pe_op op_mod (h_law_draw.call (hr.mono (by decide)) (by rfl) pass0 (pa_cons (pv 0) (pa_cons pe_int pa_nil))) pe_int))
      (pss_cons (ps_for PassesOwn.never rfl (pi_range1 (by rfl) B.range (pa_cons (pe_op op_sub (pv 1) pe_int) pa_nil)) (pg_name (i := 4) sc__law_elders.nd rfl (Or.inl rfl)) (pss_cons (ps_set (i := 5) sc__law_elders.nd rfl (Or.inl rfl) (h_law_draw.call (hr.mono (by decide)) (by rfl) pass0 (pa_cons (pv 0) (pa_cons (pe_op op_add pe_int (pv 4)) pa_nil))))
        (pss_one (ps_expr (pe_bm PySem.F.plainAttrs_list PySem.F.slot_list_append PySem.F.type_list_append mt_append (pv 2) (pa_cons (pe_ix (ix_listK (K := K)) (pe_lst (pa_cons (pe_op op_mod (pv 5) (pe_op op_add (pv 4) pe_int)) (pa_cons (pe_op op_sub (pv 4) (pe_op op_fdiv (pe_op op_mod (pv 5) (pe_op op_add (pv 4) pe_int)) pe_int)) (pa_cons (pe_op op_mod (pv 5) (pe_callB (call_min2 rfl) (by rfl) B.min (by decide +kernel) (pa_cons (pe_op op_add (pv 4) pe_int) (pa_cons pe_int pa_nil)))) (pa_cons (pe_op op_fdiv (pe_op op_add (pv 4) (pe_op op_mod (pv 5) pe_int)) pe_int) pa_nil))))) (pv 3) (fun _ _ => rfl)) pa_nil))))))
      (pss_one (ps_ret (pv 2)))))), ?_⟩
    -- elders = []; way = ..
    refine q_asgL (el_lst ea_nil (Nat.zero_le _)) fun l H1 hl e1 h1 => ?_
    refine q_asg (ev_op (ev_call0 (ea_cons (ev_var rfl) (ea_cons ev_c ea_nil)) (spv_draw (ex_l e1 hS) (by decide) (by decide))) ev_c (rv_I (by decide))) fun H2 e2 => ?_
    have w0 : 0 ≤ Fm.draw ns 2 % 4 := Int.emod_nonneg _ (by decide)
    have w1 : Fm.draw ns 2 % 4 < 4 := Int.emod_lt_of_pos _ (by decide)
    refine q_forR1 (n := (n : Int) - 1) (ea_cons (ev_op (ev_var rfl) ev_c rv_I0) ea_nil) ⟨by omega, by omega⟩
      (fun i σ' H' => ∃ v1 v2, σ' = [some (.ref a), some (.int (n : Int)), some (.ref l), some (.int (Fm.draw ns 2 % 4)), v1, v2] ∧ Ex H H' ∧ H' l = some (.lst (vi (Fm.elders ns i))))
      (fun H3 e3 => ⟨none, none, rfl, (e1.trans e2).trans e3, e3 _ _ (e2 _ _ h1)⟩) ?_ ?_
    · rintro i σ' H' hi ⟨v1, v2, rfl, e, hL⟩
      -- cell = ..
      refine q_asg (v := .int (Fm.draw ns (10 + (i : Int)))) (ev_call0 (ea_cons (ev_var rfl) (ea_cons (ev_op ev_c (ev_var rfl) rv_I0) ea_nil)) (spv_draw (ex_l e hS) (by omega) (by omega))) fun H4 e4 => ?_
      refine s_app (v := .int ((Fm.elderAt (Fm.draw ns 2 % 4) (i : Int) (Fm.draw ns (10 + (i : Int)))).toNat : Nat)) (e4 _ _ hL) (ev_var rfl) ?_ (by rw [vi_len, Fm.elders_len]; omega) fun H5 e5 => ?_
      · rw [Int.toNat_of_nonneg (Fm.elderAt_lo (by omega))]
        refine ev_is (ev_opIxN (el_lst (ea_cons (ev_op (ev_var rfl) (ev_op (ev_var rfl) ev_c rv_I0) (rv_I (by show (0 : Int) < (i : Int) + 1; omega))) (ea_cons (ev_op (ev_var rfl) (ev_op (ev_op (ev_var rfl) (ev_op (ev_var rfl) ev_c rv_I0) (rv_I (by show (0 : Int) < (i : Int) + 1; omega))) ev_c (rv_I ⟨by decide, by decide⟩)) rv_I0)
          (ea_cons (ev_op (ev_var rfl) (ev_cb (ea_cons (ev_op (ev_var rfl) ev_c rv_I0) (ea_cons ev_c ea_nil)) rc_min2) (rv_I (by show (0 : Int) < if (3 : Int) < (i : Int) + 1 then 3 else (i : Int) + 1; split <;> omega))) (ea_cons (ev_op (ev_op (ev_var rfl) (ev_op (ev_var rfl) ev_c (rv_I (by decide))) rv_I0) ev_c (rv_I ⟨by decide, by decide⟩)) ea_nil)))) (by show 4 ≤ 100000; decide)) (ev_var rfl) (way4 w0 w1)) ?_
        rfl
      · refine ⟨_, _, rfl, Ex.mut ((e.trans e4).trans e5) hl, ?_⟩
        rw [upd_same, Fm.elders_succ, vi_app]
        rfl
    · rintro σ' H' ⟨v1, v2, rfl, e, hL⟩
      have en : ((n : Int) - 1).toNat = n - 1 := by omega
      rw [en] at hL
      exact s_ret (ev_var rfl) fun H3 e3 => q l H3 hl (e.trans e3) (e3 _ _ hL)
theorem spl_elders {H : Hp} {a : Addr} {ns : List Int} {n : Nat} (hS : SqL K H a (ns.map V.int)) (h1 : 1 ≤ n) (h2 : n ≤ 14) : SpL (spElders K) [.ref a, .int (n : Int)] H (vi (Fm.elders ns (n - 1))) := fun H1 e Q q E => ⟨a, ns, n, rfl, ex_l e hS, h1, h2, q⟩
/-! ### _law_tree -/
def spPlot (K : PySem.W.Frag) : Sp := fun vs H Q _ => ∃ (a : Addr) (ns : List Int) (most : Nat), vs = [.ref a, .int (most : Int)] ∧ SqL K H a (ns.map V.int) ∧ 1 ≤ most ∧ most ≤ 14 ∧
  RetP (fun v H2 => ∃ p, v = .ref p ∧ PlotAt H2 p (Fm.elders ns (Fm.count ns most - 1)) (Fm.worths ns (Fm.count ns most))) H Q
theorem top3 {w a b c : Int} (h0 : 0 ≤ w) (h1 : w < 3) : atI [V.int a, V.int b, V.int c] w = some (V.int (if w = 0 then a else if w = 1 then b else c)) := by
  have : w = 0 ∨ w = 1 ∨ w = 2 := by omega
  rcases this with rfl | rfl | rfl <;> rfl
theorem has_plot (B : Bi mg) (D : At K mg "_law_tree" s__law_tree p__law_tree) (h_law_draw : Has P w K mg base CX0 "_law_draw" p__law_draw 2 (spDraw K)) (h_law_elders : Has P w K mg base CX0 "_law_elders" p__law_elders 3 (spElders K)) :
    Has P w K mg base CX0 "_law_tree" p__law_tree 4 (spPlot K) := D.has fun f fd F => by
  refine F.ok sc__law_tree (fun vs H Q E h => ?_) (fun cdv A outer s H vs Q E hr h => ?_)
  · obtain ⟨a, ns, k, rfl, _⟩ := h
    rfl
  · obtain ⟨a, ns, most, rfl, hS, hn, hn2, q⟩ := h
    refine ⟨_, (pss_cons (ps_set (i := 2) sc__law_tree.nd rfl (Or.inl rfl) (pe_op op_add pe_int (pe_op op_mod (h_law_draw.call (hr.mono (by decide)) (by rfl) pass0 (pa_cons (pv 0) (pa_cons pe_int pa_nil))) (pv 1))))
      (pss_cons (ps_set (i := 3) sc__law_tree.nd rfl (Or.inr rfl) (pe_ix (ix_listK (K := K)) (pe_lst (pa_cons pe_int (pa_cons pe_int (pa_cons pe_int pa_nil)))) (pe_op op_mod (h_law_draw.call (hr.mono (by decide)) (by rfl) pass0 (pa_cons (pv 0) (pa_cons pe_int pa_nil))) pe_int) (fun _ _ => rfl)))
      (pss_one (ps_ret (pe_tup (pa_cons (h_law_elders.call (hr.mono (by decide)) (by rfl) pass0 (pa_cons (pv 0) (pa_cons (pv 2) pa_nil))) (pa_cons (pe_lc (own := [("k", 4)]) (g := gName 4) rfl sc__law_tree.nd (pi_range1 (by rfl) B.range (pa_cons (pv 2) pa_nil)) (blkOk_by (own := [("k", 4)]) (N := n__law_tree) (sc := defScope s__law_tree) (by decide +kernel)) (fun _ _ _ _ _ => pg_name (i := 4) sc__law_tree.nd rfl (Or.inl rfl)) (fun _ _ _ _ _ => pts_nil) (fun _ _ _ _ _ => (pe_op op_mod (h_law_draw.call (hr.mono (by decide)) (by rfl) pass0 (pa_cons (pv 0) (pa_cons (pe_op op_add pe_int (pv 4)) pa_nil))) (pv 3)))) pa_nil))))))), ?_⟩
    have c1 := Fm.count_lo ns (most := (most : Int)) (by omega)
    have c2 := Fm.count_hi ns (most := (most : Int)) (by omega)
    refine q_asg (v := .int (Fm.count ns most : Int)) (ev_is (ev_op ev_c (ev_op (ev_call0 (ea_cons (ev_var rfl) (ea_cons ev_c ea_nil)) (spv_draw hS (by decide) (by decide))) (ev_var rfl) (rv_I (by show (0 : Int) < (most : Int); omega))) rv_I0) (by rw [Fm.count_eq ns (by omega)])) fun H1 e1 => ?_
    refine q_asg (v := .int (Fm.topOf ns)) (ev_is (ev_opIxN (el_lst (ea_cons ev_c (ea_cons ev_c (ea_cons ev_c ea_nil))) (by show 3 ≤ 100000; decide)) (ev_op (ev_call0 (ea_cons (ev_var rfl) (ea_cons ev_c ea_nil)) (spv_draw (ex_l e1 hS) (by decide) (by decide))) ev_c (rv_I (by decide)))
      (top3 (Int.emod_nonneg _ (by decide)) (Int.emod_lt_of_pos _ (by decide)))) rfl) fun H2 e2 => ?_
    refine s_retP (ep_tupLL (el_call0 (ea_cons (ev_var rfl) (ea_cons (ev_var rfl) ea_nil)) (spl_elders (ex_l (e1.trans e2) hS) c1 (by omega)))
      (el_lcR1v (n := Fm.count ns most) (fun k => (Fm.draw ns (30 + (k : Int)) % Fm.topOf ns).toNat) (ea_cons (ev_var rfl) ea_nil) (by omega) (fun x => rfl) fun i H3 e3 hi => ?_)) fun v H3 e3 ⟨t, p1, p2, ev, ht, h1, h2⟩ => ?_
    · rw [Int.toNat_of_nonneg (Int.emod_nonneg _ (by have := Fm.topOf_pos ns; omega))]
      exact ev_op (ev_call0 (ea_cons (ev_var rfl) (ea_cons (ev_op ev_c (ev_var rfl) rv_I0) ea_nil)) (spv_draw (ex_l ((e1.trans e2).trans e3) hS) (by omega) (by omega))) (ev_var rfl) (rv_I (Fm.topOf_pos ns))
    · exact q v H3 ((e1.trans e2).trans e3) ⟨t, ev, p1, p2, ht, h1, h2⟩
theorem spp_plot {H : Hp} {a : Addr} {ns : List Int} {most : Nat} (hS : SqL K H a (ns.map V.int)) (h1 : 1 ≤ most) (h2 : most ≤ 14) :
    SpP (spPlot K) [.ref a, .int (most : Int)] H (fun v H2 => ∃ p, v = .ref p ∧ PlotAt H2 p (Fm.elders ns (Fm.count ns most - 1)) (Fm.worths ns (Fm.count ns most))) := fun H1 e Q q E => ⟨a, ns, most, rfl, ex_l e hS, h1, h2, q⟩
/-- some tree of at most so many things -/
theorem spp_some {H : Hp} {a : Addr} {ns : List Int} {most : Nat} (hS : SqL K H a (ns.map V.int)) (h1 : 1 ≤ most) (h2 : most ≤ 14) :
    SpP (spPlot K) [.ref a, .int (most : Int)] H (fun v H2 => ∃ p es ws, v = .ref p ∧ PlotAt H2 p es ws ∧ Fm.OkT es ws ∧ ws.length ≤ most) := fun H1 e Q q E => ⟨a, ns, most, rfl, ex_l e hS, h1, h2, fun v H2 e2 ⟨p, ev, hp⟩ => by
  have c1 := Fm.count_lo ns (most := (most : Int)) (by omega)
  have c2 := Fm.count_hi ns (most := (most : Int)) (by omega)
  exact q v H2 e2 ⟨p, _, _, ev, hp, Fm.ok_drawn ns c1 (by omega), by rw [Fm.worths_len]; omega⟩⟩
/-! ### _law_whole, of a whole number -/
def spWhole : Sp := fun vs H Q _ => ∃ (i : Int), vs = [.int i] ∧ RetV (.bl true) H Q
theorem spv_whole {H : Hp} {i : Int} : SpV spWhole [.int i] H (.bl true) := fun H1 e Q q E => ⟨i, rfl, q⟩
/-! ### _law_numbers, of two lists of whole numbers -/
def spNumbers (K : PySem.W.Frag) : Sp := fun vs H Q _ => ∃ (p q : Addr) (l m : List Nat), vs = [.ref p, .ref q] ∧ H p = some (.lst (vi l)) ∧ SqL K H q (vi m) ∧ l.length ≤ 1000 ∧ RetV (.bl (decide (l = m))) H Q
theorem spv_numbers {H : Hp} {p q : Addr} {l m : List Nat} (h1 : H p = some (.lst (vi l))) (h2 : SqL K H q (vi m)) (hl : l.length ≤ 1000) : SpV (spNumbers K) [.ref p, .ref q] H (.bl (decide (l = m))) := fun H1 e Q k E => ⟨p, q, l, m, rfl, e _ _ h1, ex_l e h2, hl, k⟩
end
end Fi
/-! _law_whole, _law_numbers. -/
namespace Fi
open PySem L2 Evl
section
variable {P : Program} {w : World} {K : PySem.W.Frag} {mg : Str → Option Value} {base : Heap}
theorem has_whole (B : Bi mg) (D : At K mg "_law_whole" s__law_whole p__law_whole) : Has P w K mg base CX0 "_law_whole" p__law_whole 1 spWhole := D.has fun f fd F => by
  refine F.ok sc__law_whole (fun vs H Q E h => ?_) (fun cdv A outer s H vs Q E hr h => ?_)
  · obtain ⟨i, rfl, _⟩ := h
    rfl
  · obtain ⟨i, rfl, q⟩ := h
    refine ⟨_, (pss_one (ps_ret (pe_and (pe_callB (call_isiK1 (K := K)) (by rfl) B.isinstance (by decide +kernel) (pa_cons (pv 0) (pa_cons (pe_bltn (v := .ty "int") (u := .type "int") (by rfl) B.int (by decide +kernel) rfl) pa_nil))) (pe_one (pe_not (pe_callB (call_isiK1 (K := K)) (by rfl) B.isinstance (by decide +kernel) (pa_cons (pv 0) (pa_cons (pe_bltn (v := .ty "bool") (u := .type "bool") (by rfl) B.bool (by decide +kernel) rfl) pa_nil)))))))), ?_⟩
    exact s_ret (ev_andV (a := true) (b := true) (ev_isiInt (ev_var rfl) (by decide +kernel)) fun _ => ev_notV (a := false) (ev_isiInt (ev_var rfl) (by decide +kernel))) q
theorem has_numbers (B : Bi mg) (D : At K mg "_law_numbers" s__law_numbers p__law_numbers) (h_law_whole : Has P w K mg base CX0 "_law_whole" p__law_whole 1 spWhole) : Has P w K mg base CX0 "_law_numbers" p__law_numbers 2 (spNumbers K) := D.has fun f fd F => by
  refine F.ok sc__law_numbers (fun vs H Q E h => ?_) (fun cdv A outer s H vs Q E hr h => ?_)
  · obtain ⟨p, q, l, m, rfl, _⟩ := h
    rfl
  · obtain ⟨p, q, l, m, rfl, hp, hq, hl, k⟩ := h
    refine ⟨_, (pss_cons (ps_if (PW.pt (pw_or (pt_not (pt_val (pe_callB (call_isiK1 (K := K)) (by rfl) B.isinstance (by decide +kernel) (pa_cons (pv 0) (pa_cons (pe_bltn (v := .ty "list") (u := .type "list") (by rfl) B.list (by decide +kernel) rfl) pa_nil))))) (pw_or1 (pt_cmpR (op_neDK (K := K) hr.units) (pv 0) (pv 1) (nomark _))))) (pss_one (ps_ret pe_bl)) pss_nil)
      (pss_one (ps_ret (pe_cmpR (op_notInK (K := K)) pe_bl (pe_lc (own := [("number", 2)]) (g := gName 2) rfl sc__law_numbers.nd (pi_list (pv 0)) (blkOk_by (own := [("number", 2)]) (N := n__law_numbers) (sc := defScope s__law_numbers) (by decide +kernel)) (fun _ _ _ _ _ => pg_name (i := 2) sc__law_numbers.nd rfl (Or.inl rfl)) (fun _ _ _ _ _ => pts_nil) (fun _ _ _ _ _ => (h_law_whole.call (hr.mono (by decide)) (by rfl) pass0 (pa_cons (pv 2) pa_nil)))) (by with_unfolding_all rfl))))), ?_⟩
    refine q_when (et_or (et_not (et_B (ev_isiLst (b := true) (ev_var rfl) hp (by decide +kernel)))) fun _ => et_test (ev_op (ev_var rfl) (ev_var rfl) (rv_neI (sq_of hp) hq))) (fun hb H1 e1 => ?_) (fun hb H1 e1 => ?_)
    · have hne : decide (l = m) = false := by
        cases hd : decide (l = m) with
        | false => rfl
        | true => rw [hd] at hb; cases hb
      rw [hne] at k
      exact s_ret ev_c fun H2 e2 => k H2 (e1.trans e2)
    · have heq : decide (l = m) = true := by
        cases hd : decide (l = m) with
        | true => rfl
        | false => rw [hd] at hb; cases hb
      rw [heq] at k
      refine s_ret ?_ fun H2 e2 => k H2 (e1.trans e2)
      refine ev_is (ev_opL (xs := given (vi l).length (fun _ => true) (fun _ => .bl true)) ev_c (el_lcL (fun _ => true) (fun _ => .bl true) (ev_var rfl) (sq_of (e1 _ _ hp)) (by rw [vi_len]; omega) (fun x => rfl) (fun _ _ _ _ _ => et_yes) fun i x H2 e2 hi _ => ?_) fun r H2 hr2 e2 => rv_niL (sq_of hr2) rfl ?_) ?_
      · obtain ⟨n, hn, rfl⟩ := vi_get_of hi
        exact ev_call0 (ea_cons (ev_var rfl) ea_nil) spv_whole
      · rw [given_all]
        simp [flatV]
      · rw [given_all]
        congr 1
        have : inV (.bl false) ((List.range (vi l).length).map fun _ => V.bl true) = false := by
          unfold inV
          rw [List.any_eq_false]
          intro x hx
          obtain ⟨i, _, rfl⟩ := List.mem_map.mp hx
          decide
        rw [this]
        rfl
end
end Fi
/-! The law's own depth, below and worth. -/
namespace Fi
open PySem L2 Evl
theorem dec_int {a b : Nat} : decide (V.int (a : Int) = V.int (b : Int)) = decide (a = b) := by
  by_cases h : a = b
  · subst h; simp
  · have h2 : ¬ (V.int (a : Int) = V.int (b : Int)) := fun e => h (by injection e with e; omega)
    rw [decide_eq_false h, decide_eq_false h2]
section
variable {P : Program} {w : World} {K : PySem.W.Frag} {mg : Str → Option Value} {base : Heap}
/-! ### _law_depth -/
def spLDepth (K : PySem.W.Frag) : Sp := fun vs H Q _ => ∃ (p : Addr) (es : List Nat) (t : Nat), vs = [.ref p, .int (t : Int)] ∧ SqL K H p (vi es) ∧ (∀ (k v : Nat), es[k]? = some v → v ≤ k) ∧ t ≤ es.length ∧ RetV (.int (Fm.depth es t : Int)) H Q
theorem spv_ldepth {H : Hp} {p : Addr} {es : List Nat} {t : Nat} (h : SqL K H p (vi es)) (up : ∀ (k v : Nat), es[k]? = some v → v ≤ k) (ht : t ≤ es.length) : SpV (spLDepth K) [.ref p, .int (t : Int)] H (.int (Fm.depth es t : Int)) := fun H1 e Q q E => ⟨p, es, t, rfl, ex_l e h, up, ht, q⟩
theorem has_ldepth (D : At K mg "_law_depth" s__law_depth p__law_depth) : Has P w K mg base CX0 "_law_depth" p__law_depth 1 (spLDepth K) := D.has fun f fd F => by
  refine F.ok sc__law_depth (fun vs H Q E h => ?_) (fun cdv A outer s H vs Q E hr h => ?_)
  · obtain ⟨p, es, t, rfl, _⟩ := h
    rfl
  · obtain ⟨p, es, t, rfl, hp, up, ht, q⟩ := h
    refine ⟨_, (pss_cons (ps_set (i := 2) sc__law_depth.nd rfl (Or.inl rfl) pe_int)
      (pss_cons (ps_while PassesOwn.never (pt_cmpR op_gt (pv 1) pe_int (nomark _)) (pss_cons (ps_set (i := 1) sc__law_depth.nd rfl (Or.inl rfl) (pe_ix (ix_listK (K := K)) (pv 0) (pe_op op_sub (pv 1) pe_int) (fun _ _ => rfl)))
        (pss_one (ps_set (i := 2) sc__law_depth.nd rfl (Or.inl rfl) (pe_op op_add (pv 2) pe_int)))))
      (pss_one (ps_ret (pv 2))))), ?_⟩
    refine q_asg ev_c fun H1 e1 => ?_
    refine q_while (fun m σ' H' => ∃ (t' s' : Nat), σ' = [some (.ref p), some (.int (t' : Int)), some (.int (s' : Int))] ∧ Ex H H' ∧ s' + Fm.depth es t' = Fm.depth es t ∧ t' ≤ es.length ∧ m = t') t ⟨t, 0, rfl, e1, Nat.zero_add _, ht, rfl⟩ ?_
    rintro m σ' H' ⟨t', s', rfl, e, hd, hl, rfl⟩
    refine ⟨decide ((0 : Int) < (m : Int)), et_test (ev_op (ev_var rfl) ev_c rv_I0), fun hb H2 e2 => ⟨fun σ2 H2 => ∃ m', m' < m ∧ _, fun _ _ h => h, ?_⟩, fun hb H2 e2 => ?_⟩
    · have hpos : 0 < m := by have := of_decide_eq_true hb; omega
      have hlt := Fm.eld_lt up hpos
      refine q_asg (v := .int (Fm.eld es m : Int)) (ev_opIx (ev_var rfl) (ev_op (ev_var rfl) ev_c rv_I0) (ex_l (e.trans e2) hp) (vi_at (j := m - 1) (by omega) (Fm.eld_get hpos (by omega)))) fun H3 e3 => ?_
      refine s_asg (ev_op (ev_var rfl) ev_c rv_I0) fun H4 e4 => ⟨Fm.eld es m, hlt, Fm.eld es m, s' + 1, ?_, ((e.trans e2).trans e3).trans e4, ?_, by omega, rfl⟩
      · rfl
      · have := Fm.depth_step up hpos
        omega
    · have hz : m = 0 := by have := of_decide_eq_false hb; omega
      subst hz
      have hd0 : Fm.depth es t = s' := by rw [← hd]; rfl
      rw [hd0] at q
      exact s_ret (ev_var rfl) fun H3 e3 => q H3 ((e.trans e2).trans e3)
/-! ### _law_below -/
def spLBelow (K : PySem.W.Frag) : Sp := fun vs H Q _ => ∃ (p : Addr) (es : List Nat) (t : Nat), vs = [.ref p, .int (t : Int)] ∧ SqL K H p (vi es) ∧ (∀ (k v : Nat), es[k]? = some v → v ≤ k) ∧ es.length ≤ 20 ∧ RetL (vi (Fm.below es t)) H Q
theorem spl_lbelow {H : Hp} {p : Addr} {es : List Nat} {t : Nat} (h : SqL K H p (vi es)) (up : ∀ (k v : Nat), es[k]? = some v → v ≤ k) (hl : es.length ≤ 20) : SpL (spLBelow K) [.ref p, .int (t : Int)] H (vi (Fm.below es t)) := fun H1 e Q q E => ⟨p, es, t, rfl, ex_l e h, up, hl, q⟩
theorem has_lbelow (B : Bi mg) (D : At K mg "_law_below" s__law_below p__law_below) : Has P w K mg base CX0 "_law_below" p__law_below 1 (spLBelow K) := D.has fun f fd F => by
  refine F.ok sc__law_below (fun vs H Q E h => ?_) (fun cdv A outer s H vs Q E hr h => ?_)
  · obtain ⟨p, es, t, rfl, _⟩ := h
    rfl
  · obtain ⟨p, es, t, rfl, hp, up, hl, q⟩ := h
    refine ⟨_, (pss_cons (ps_set (i := 2) sc__law_below.nd rfl (Or.inl rfl) (pe_lst pa_nil))
      (pss_cons (ps_for PassesOwn.never rfl (pi_range1 (by rfl) B.range (pa_cons (pe_op op_add (pe_callB (call_lenK (K := K)) (by rfl) B.len PySem.boot_len (pa_cons (pv 0) pa_nil)) pe_int) pa_nil)) (pg_name (i := 3) sc__law_below.nd rfl (Or.inl rfl)) (pss_cons (ps_set (i := 4) sc__law_below.nd rfl (Or.inl rfl) (pv 3))
        (pss_cons (ps_while PassesOwn.never (pt_cmpR op_gt (pv 4) (pv 1) (nomark _)) (pss_one (ps_set (i := 4) sc__law_below.nd rfl (Or.inl rfl) (pe_ix (ix_listK (K := K)) (pv 0) (pe_op op_sub (pv 4) pe_int) (fun _ _ => rfl)))))
        (pss_one (ps_if (pt_cmpR op_eq (pv 4) (pv 1) (nomark _)) (pss_one (ps_expr (pe_bm PySem.F.plainAttrs_list PySem.F.slot_list_append PySem.F.type_list_append mt_append (pv 2) (pa_cons (pv 3) pa_nil)))) pss_nil)))))
      (pss_one (ps_ret (pv 2))))), ?_⟩
    refine q_asgL (el_lst ea_nil (Nat.zero_le _)) fun l H1 hln e1 h1 => ?_
    refine q_forR1 (n := ((es.length + 1 : Nat) : Int)) (ea_cons (ev_is (ev_op (ev_lenS (ev_var rfl) (ex_l e1 hp)) ev_c rv_I0) (by rw [vi_len]; rfl)) ea_nil) ⟨by omega, by omega⟩
      (fun i σ' H' => ∃ v1 v2, σ' = [some (.ref p), some (.int (t : Int)), some (.ref l), v1, v2] ∧ Ex H H' ∧ H' l = some (.lst (vi (Fm.belowTo es t i)))) (fun H2 e2 => ⟨none, none, rfl, e1.trans e2, e2 _ _ h1⟩) ?_ ?_
    · rintro i σ' H' hi ⟨v1, v2, rfl, e, hL⟩
      refine q_asg (v := .int (i : Int)) (ev_var rfl) fun H2 e2 => ?_
      refine q_while (fun m σ' H3 => ∃ (h : Nat), σ' = [some (.ref p), some (.int (t : Int)), some (.ref l), some (.int (i : Int)), some (.int (h : Int))] ∧ Ex H2 H3 ∧ Fm.climb es t h = Fm.climb es t i ∧ h ≤ es.length ∧ m = h) i ⟨i, rfl, Ex.refl _, rfl, by omega, rfl⟩ ?_
      rintro m σ' H3 ⟨h, rfl, e3, hc, hle, rfl⟩
      refine ⟨decide ((t : Int) < (m : Int)), et_test (ev_op (ev_var rfl) (ev_var rfl) rv_I0), fun hb H4 e4 => ⟨fun σ2 H2 => ∃ m', m' < m ∧ _, fun _ _ h => h, ?_⟩, fun hb H4 e4 => ?_⟩
      · have hlt : t < m := by have := of_decide_eq_true hb; omega
        have hlt2 := Fm.eld_lt up (t := m) (by omega)
        refine s_asg (v := .int (Fm.eld es m : Int)) (ev_opIx (ev_var rfl) (ev_op (ev_var rfl) ev_c rv_I0) (ex_l (((e.trans e2).trans e3).trans e4) hp) (vi_at (j := m - 1) (by omega) (Fm.eld_get (by omega) (by omega)))) fun H5 e5 => ?_
        exact ⟨Fm.eld es m, hlt2, Fm.eld es m, rfl, (e3.trans e4).trans e5, by rw [← Fm.climb_step up hlt]; exact hc, by omega, rfl⟩
      · have hlt : ¬ t < m := by have := of_decide_eq_false hb; omega
        have hm : Fm.climb es t i = m := by rw [← hc, Fm.climb_end hlt]
        have hB : Fm.isBelow es t i = decide (m = t) := by unfold Fm.isBelow; rw [hm]; rfl
        have e5 := ((e.trans e2).trans e3).trans e4
        have hL4 := e4 _ _ (e3 _ _ (e2 _ _ hL))
        refine s_when (et_test (ev_op (ev_var rfl) (ev_var rfl) (rv_eq rfl))) (fun hb2 H6 e6 => ?_) (fun hb2 H6 e6 => ?_)
        · rw [dec_int, ← hB] at hb2
          refine s_app (e6 _ _ hL4) (ev_var rfl) (ev_var rfl) (by rw [vi_len]; have := Fm.belowTo_len es t i; omega) fun H7 e7 => ⟨_, _, rfl, Ex.mut ((e5.trans e6).trans e7) hln, ?_⟩
          rw [upd_same, Fm.belowTo_succ, if_pos hb2, vi_app]
          rfl
        · rw [dec_int, ← hB] at hb2
          refine ⟨_, _, rfl, e5.trans e6, ?_⟩
          rw [Fm.belowTo_succ, if_neg (by rw [hb2]; decide)]
          exact e6 _ _ hL4
    · rintro σ' H' ⟨v1, v2, rfl, e, hL⟩
      rw [Int.toNat_natCast, Fm.belowTo_end] at hL
      exact s_ret (ev_var rfl) fun H3 e3 => q l H3 hln (e.trans e3) (e3 _ _ hL)
/-! ### _law_worth -/
def spLWorth (K : PySem.W.Frag) : Sp := fun vs H Q _ => ∃ (p : Addr) (es ws : List Nat) (t : Nat), vs = [.ref p, .int (t : Int)] ∧ PlotAt H p es ws ∧ Fm.OkT es ws ∧ RetV (.int (Fm.worth es ws t : Int)) H Q
theorem spv_lworth {H : Hp} {p : Addr} {es ws : List Nat} {t : Nat} (h : PlotAt H p es ws) (o : Fm.OkT es ws) : SpV (spLWorth K) [.ref p, .int (t : Int)] H (.int (Fm.worth es ws t : Int)) := fun H1 e Q q E => ⟨p, es, ws, t, rfl, h.mono e, o, q⟩
theorem getD_get {l : List Nat} {n : Nat} (h : n < l.length) : l[n]? = some (l.getD n 0) := by
  rw [List.getD_eq_getElem?_getD, List.getElem?_eq_getElem h]
  rfl
theorem has_lworth (B : Bi mg) (D : At K mg "_law_worth" s__law_worth p__law_worth) (h_law_below : Has P w K mg base CX0 "_law_below" p__law_below 1 (spLBelow K)) : Has P w K mg base CX0 "_law_worth" p__law_worth 2 (spLWorth K) := D.has fun f fd F => by
  refine F.ok sc__law_worth (fun vs H Q E h => ?_) (fun cdv A outer s H vs Q E hr h => ?_)
  · obtain ⟨p, es, ws, t, rfl, _⟩ := h
    rfl
  · obtain ⟨p, es, ws, t, rfl, hP, o, q⟩ := h
    obtain ⟨pe, pw, h1, h2, h3⟩ := id hP
    have ol := o.len
    have om := o.most
    refine ⟨_, (pss_one (ps_ret (pe_callB (cr_sumK (K := K) rfl) (by rfl) B.sum (by decide +kernel) (pa_cons (pe_lc (own := [("other", 2)]) (g := gName 2) rfl sc__law_worth.nd (pi_list (h_law_below.call (hr.mono (by decide)) (by rfl) pass0 (pa_cons (pe_ix (ix_tupK (K := K)) (pv 0) pe_int (fun _ _ => rfl)) (pa_cons (pv 1) pa_nil)))) (blkOk_by (own := [("other", 2)]) (N := n__law_worth) (sc := defScope s__law_worth) (by decide +kernel)) (fun _ _ _ _ _ => pg_name (i := 2) sc__law_worth.nd rfl (Or.inl rfl)) (fun _ _ _ _ _ => pts_nil) (fun _ _ _ _ _ => (pe_ix (ix_listK (K := K)) (pe_ix (ix_tupK (K := K)) (pv 0) pe_int (fun _ _ => rfl)) (pv 2) (fun _ _ => rfl)))) pa_nil)))), ?_⟩
    refine s_ret (ev_sumN (el_lcNLv (l := Fm.below es t) (fun o => ws.getD o 0) (el_call0 (ea_cons (ev_opIxT (ev_var rfl) ev_c (st_of h1) rfl) (ea_cons (ev_var rfl) ea_nil)) (spl_lbelow (sq_of h2) o.up (by omega))) (by have := Fm.below_len es t; omega) (fun x => rfl) fun n H1 e1 hn => ?_)) q
    have hn2 := (Fm.mem_below.mp hn).1
    exact ev_opIx (ev_opIxT (ev_var rfl) ev_c (st_of (e1 _ _ h1)) rfl) (ev_var rfl) (sq_of (e1 _ _ h3)) (vi_at rfl (getD_get (by omega)))
end
end Fi
/-! The class Tree: what each method promises. -/
namespace Fi
open PySem L2 Evl
/-! ### lists of whole numbers of any sign, against the empty list -/
theorem dpAll_z {K : PySem.W.Frag} {H : Hp} : ∀ l : List Int, DpAll K H (l.map V.int) (l.map PyData.int)
  | [] => .nil
  | n :: l => .cons (.int _) (dpAll_z l)
theorem canAll_z : ∀ l : List Int, PyData.canLayAll0 (l.map PyData.int) = true
  | [] => by simp [PyData.canLayAll0]
  | n :: l => by simp [PyData.canLayAll0, PyData.canLay0, canAll_z l]
theorem depthAll_z : ∀ l : List Int, PyData.depthAll (l.map PyData.int) = 0
  | [] => by simp [PyData.depthAll]
  | n :: l => by simp [PyData.depthAll, PyData.depth, depthAll_z l]
theorem shaped_z (l : List Int) : SeqAt.shaped (.list (l.map PyData.int)) = true := by
  unfold SeqAt.shaped
  simp [PyData.canLay0, canAll_z, PyData.depth, depthAll_z]
theorem eqv_zNil (l : List Int) : PyData.eqv (.list (l.map PyData.int)) (.list ([].map PyData.int)) = decide (l = []) := by
  cases l with
  | nil => simp [PyData.eqv, PyData.eqvAll]
  | cons a r => simp [PyData.eqv, PyData.eqvAll]
theorem ev_neNilZ {K : PySem.W.Frag} {σ : L2.St} {H : Hp} {ta : TE} {l : List Int} (ha : EvL ta σ H (l.map V.int)) : Ev (tOp (rNeD K) ta (tLst tNil)) σ H (.bl (!decide (l = []))) :=
  ev_opLL ha (el_lst ea_nil (Nat.zero_le _)) fun p q H1 hp hq e => by
    rw [← eqv_zNil]
    exact rv_neD (fun H2 e2 => .lst (ex_l e2 (sq_of hp)) (dpAll_z l)) (fun H2 e2 => .lst (ex_l e2 (sq_of (xs := ([] : List Int).map V.int) hq)) (dpAll_z [])) (shaped_z l) (shaped_z [])
theorem zget {l : List Int} {i : Nat} {x : V} (h : (l.map V.int)[i]? = some x) : ∃ z, l[i]? = some z ∧ x = V.int z := by
  rw [List.getElem?_map] at h
  cases e : l[i]? with
  | none => rw [e] at h; cases h
  | some n => rw [e] at h; exact ⟨n, rfl, (Option.some.inj h).symm⟩
theorem zgetD {l : List Int} {i : Nat} (h : i < l.length) : l[i]? = some (l.getD i 0) := by
  rw [List.getD_eq_getElem?_getD, List.getElem?_eq_getElem h]
  rfl
theorem zat {l : List Int} {i : Int} {j : Nat} (e : i = (j : Int)) (h : j < l.length) : atI (l.map V.int) i = some (V.int (l.getD j 0)) := at_of e (by rw [List.getElem?_map, zgetD h]; rfl)
theorem zfilter (l : List Int) (f : Int → Bool) : given l.length (fun i => f (l.getD i 0)) (fun i => V.int (l.getD i 0)) = (l.filter f).map V.int := by
  have e : (List.range l.length).map (fun i => l.getD i 0) = l := by
    refine List.ext_getElem (by simp) fun i h1 h2 => ?_
    rw [List.length_map, List.length_range] at h1
    simp only [List.getElem_map, List.getElem_range]
    rw [List.getD_eq_getElem?_getD, List.getElem?_eq_getElem h1]
    rfl
  have e2 : l.filter f = ((List.range l.length).filter (fun i => f (l.getD i 0))).map (fun i => l.getD i 0) := by
    conv => lhs; rw [← e]
    rw [List.filter_map]
    rfl
  unfold given
  rw [e2, List.map_map]
  rfl
/-! ### the attributes -/
theorem kaw : ¬ (("above" : Str) = "worth") := by decide +kernel
def flds (a w : Addr) : List (Str × V) := putF "worth" (.ref w) (putF "above" (.ref a) [])
theorem flds_above (a w : Addr) : (flds a w).lookup ("above" : Str) = some (.ref a) := by
  unfold flds
  rw [lookup_putF, if_neg kaw, lookup_putF, if_pos rfl]
theorem flds_worth (a w : Addr) : (flds a w).lookup ("worth" : Str) = some (.ref w) := by
  unfold flds
  rw [lookup_putF, if_pos rfl]
theorem flds_no (a w : Addr) {m : Str} (h1 : ¬ m = "above") (h2 : ¬ m = "worth") : (flds a w).lookup m = none := by
  unfold flds
  rw [lookup_putF, if_neg h2, lookup_putF, if_neg h1]
  rfl
/-- a tree stands at p -/
structure TreeAt (C : Addr) (H : Hp) (p : Addr) (es ws : List Nat) : Prop where
  at_ : ∃ dx a w, H p = some (.ins C dx (flds a w)) ∧ H a = some (.lst (V.int (-1) :: vi es)) ∧ H w = some (.lst (vi ws))
  ok : Fm.OkT es ws
theorem TreeAt.mono {C : Addr} {H H' : Hp} {p : Addr} {es ws : List Nat} (T : TreeAt C H p es ws) (e : Ex H H') : TreeAt C H' p es ws := by
  obtain ⟨⟨dx, a, w, h1, h2, h3⟩, o⟩ := T
  exact ⟨⟨dx, a, w, e _ _ h1, e _ _ h2, e _ _ h3⟩, o⟩
/-- elders and worths that make a tree -/
def Right (le lw : List Int) : Prop := 1 ≤ lw.length ∧ lw.length ≤ 14 ∧ le.length + 1 = lw.length ∧ (∀ k, k < le.length → 0 ≤ le.getD k 0 ∧ le.getD k 0 ≤ (k : Int)) ∧ ∀ z ∈ lw, 0 ≤ z ∧ z ≤ 1000
theorem vi_int (l : List Nat) : vi l = (l.map fun (n : Nat) => (n : Int)).map V.int := vi_ints l
theorem right_of {es ws : List Nat} (o : Fm.OkT es ws) : Right (es.map fun (n : Nat) => (n : Int)) (ws.map fun (n : Nat) => (n : Int)) := by
  have := o.len
  refine ⟨by rw [List.length_map]; omega, by rw [List.length_map]; exact o.most, by rw [List.length_map, List.length_map]; exact o.len, fun k hk => ?_, fun z hz => ?_⟩
  · rw [List.length_map] at hk
    rw [List.getD_eq_getElem?_getD, List.getElem?_map]
    have h := o.up k es[k] (List.getElem?_eq_getElem hk)
    rw [List.getElem?_eq_getElem hk]
    show 0 ≤ ((es[k] : Nat) : Int) ∧ ((es[k] : Nat) : Int) ≤ (k : Int)
    omega
  · obtain ⟨n, hn, rfl⟩ := List.mem_map.mp hz
    have := o.wt n hn
    omega
/-- what stands of the text for the class -/
structure TreeT (K : PySem.W.Frag) (mg : Str → Option Value) (C : Addr) : Prop where
  cl : Cls K C
  nA : NoAttr K C "above"
  nW : NoAttr K C "worth"
  g : mg "Tree" = some (.ref C)
section
variable {P : Program} {w : World} {K : PySem.W.Frag} {mg : Str → Option Value} {base : Heap} {C cBad cNo : Addr}
/-! ### __init__ -/
def spInit (K : PySem.W.Frag) (C cBad : Addr) : Sp := fun vs H Q E => ∃ (p dx pe pw : Addr) (le lw : List Int), vs = [.ref p, .ref pe, .ref pw] ∧ H p = some (.ins C dx []) ∧ SqL K H pe (le.map V.int) ∧ SqL K H pw (lw.map V.int) ∧ le.length ≤ 1000 ∧ lw.length ≤ 1000 ∧
  (Right le lw → ∀ a u H2, H a = none → H u = none → (∀ b o, b ≠ p → H b = some o → H2 b = some o) → H2 p = some (.ins C dx (flds a u)) → H2 a = some (.lst (V.int (-1) :: le.map V.int)) → H2 u = some (.lst (lw.map V.int)) → Q .non H2) ∧
  (¬ Right le lw → ∀ H2, Ex H H2 → E (.ref cBad) none H2)
theorem has_init (B : Bi mg) (T : TreeT K mg C) {t1 t2 : Tok} (c_MOST : mg "MOST" = some (.int 14 t1)) (c_WORTHS : mg "WORTHS" = some (.int 1000 t2)) (e_BadTree : Err K mg "BadTree" cBad) (D : AtI K C "Tree.__init__" s_Tree___init__ p_Tree___init__) :
    HasI P w K mg base (L2.CX P w) C p_Tree___init__ 1 (spInit K C cBad) := D.has fun f fd F => by
  refine F.okX sc_Tree___init__ (fun vs H Q E h => ?_) (fun cdv A outer s H vs Q E hr h => ?_)
  · obtain ⟨p, dx, pe, pw, le, lw, rfl, _⟩ := h
    rfl
  · obtain ⟨p, dx, pe, pw, le, lw, rfl, hp, he, hw, h1, h2, kQ, kE⟩ := h
    refine ⟨_, (pss_cons (ps_if (PW.pt (pw_or (pt_not (pt_chain op_le op_le pe_int (pe_callB (call_lenK (K := K)) (by rfl) B.len PySem.boot_len (pa_cons (pv 2) pa_nil)) (pe_gint (by rfl) c_MOST))) (pw_or1 (pt_cmpR op_ne (pe_callB (call_lenK (K := K)) (by rfl) B.len PySem.boot_len (pa_cons (pv 1) pa_nil)) (pe_op op_sub (pe_callB (call_lenK (K := K)) (by rfl) B.len PySem.boot_len (pa_cons (pv 2) pa_nil)) pe_int) (nomark _))))) (pss_one (ps_raise rfl (takes_of rfl rfl rfl rfl) (e_BadTree.made (by rfl)))) pss_nil)
      (pss_cons (ps_for (passes_of rfl) rfl (pi_range1 (by rfl) B.range (pa_cons (pe_callB (call_lenK (K := K)) (by rfl) B.len PySem.boot_len (pa_cons (pv 1) pa_nil)) pa_nil)) (pg_name (i := 3) sc_Tree___init__.nd rfl (Or.inl rfl)) (pss_one (ps_if (pt_not (pt_chain op_le op_le pe_int (pe_ix (ix_listK (K := K)) (pv 1) (pv 3) (fun _ _ => rfl)) (pv 3))) (pss_one (ps_raise rfl (takes_of rfl rfl rfl rfl) (e_BadTree.made (by rfl)))) pss_nil)))
      (pss_cons (ps_if (pt_cmpR (op_neDK (K := K) hr.units) (pe_lc (own := [("worth", 4)]) (g := gName 4) rfl sc_Tree___init__.nd (pi_list (pv 2)) (blkOk_by (own := [("worth", 4)]) (N := n_Tree___init__) (sc := defScope s_Tree___init__) (by decide +kernel)) (fun _ _ _ _ _ => pg_name (i := 4) sc_Tree___init__.nd rfl (Or.inl rfl)) (fun _ _ _ _ _ => pts_one (pt_not (pt_chain op_le op_le pe_int (pv 4) (pe_gint (by rfl) c_WORTHS)))) (fun _ _ _ _ _ => (pv 4))) (pe_lst pa_nil) (nomark _)) (pss_one (ps_raise rfl (takes_of rfl rfl rfl rfl) (e_BadTree.made (by rfl)))) pss_nil)
      (pss_cons (ps_fld (pv 0) (pe_op op_cat (pe_lst (pa_cons (pe_un un_neg pe_int) pa_nil)) (pe_callTy (call_listK (K := K)) (by rfl) B.list (by decide +kernel) (pa_cons (pv 1) pa_nil))) rfl)
      (pss_one (ps_fld (pv 0) (pe_callTy (call_listK (K := K)) (by rfl) B.list (by decide +kernel) (pa_cons (pv 2) pa_nil)) rfl)))))), ?_⟩
    have lE : (le.map V.int).length = le.length := List.length_map _
    have lW : (lw.map V.int).length = lw.length := List.length_map _
    refine q_when (b := (!(decide ((1 : Int) ≤ (lw.length : Int)) && decide ((lw.length : Int) ≤ 14))) || !decide (V.int (le.length : Int) = V.int ((lw.length : Int) - 1)))
      (et_or (et_not (et_test (ev_chain ev_c (ev_is (ev_lenS (ev_var rfl) hw) (by rw [lW])) (fun _ => ev_c) rv_I0 (fun _ => rv_I0)))) fun _ => et_test (ev_op (ev_is (ev_lenS (ev_var rfl) he) (by rw [lE])) (ev_op (ev_is (ev_lenS (ev_var rfl) hw) (by rw [lW])) ev_c rv_I0) (rv_ne rfl))) (fun hb H1 e1 => ?_) (fun hb H1 e1 => ?_)
    · -- raise
      refine kE (fun R => ?_) H1 e1
      obtain ⟨r1, r2, r3, _⟩ := R
      have x1 : decide ((1 : Int) ≤ (lw.length : Int)) = true := decide_eq_true (by omega)
      have x2 : decide ((lw.length : Int) ≤ 14) = true := decide_eq_true (by omega)
      have x3 : decide (V.int (le.length : Int) = V.int ((lw.length : Int) - 1)) = true := decide_eq_true (by congr 1; omega)
      rw [x1, x2, x3] at hb
      cases hb
    · have x : (1 ≤ lw.length ∧ lw.length ≤ 14) ∧ le.length + 1 = lw.length := by
        simp only [Bool.or_eq_false_iff, Bool.not_eq_false', Bool.and_eq_true, decide_eq_true_eq] at hb
        obtain ⟨⟨a1, a2⟩, a3⟩ := hb
        injection a3 with a3
        omega
      -- for k in range(len(elders))
      refine q_forR1 (n := (le.length : Int)) (ea_cons (ev_is (ev_lenS (ev_var rfl) (ex_l e1 he)) (by rw [lE])) ea_nil) ⟨by omega, by omega⟩
        (fun i σ' H' => ∃ v, σ' = [some (.ref p), some (.ref pe), some (.ref pw), v, none] ∧ Ex H H' ∧ ∀ k, k < i → 0 ≤ le.getD k 0 ∧ le.getD k 0 ≤ (k : Int)) (fun H2 e2 => ⟨none, rfl, e1.trans e2, fun k hk => absurd hk (Nat.not_lt_zero _)⟩) ?_ ?_
      · rintro i σ' H' hi ⟨v, rfl, e, hu⟩
        have hx := zat (l := le) (i := (i : Int)) (j := i) rfl (by omega)
        refine s_when (b := !(decide ((0 : Int) ≤ le.getD i 0) && decide (le.getD i 0 ≤ (i : Int)))) (et_not (et_test (ev_chain ev_c (ev_opIx (ev_var rfl) (ev_var rfl) (ex_l e he) hx) (fun _ => ev_var rfl) rv_I0 (fun _ => rv_I0)))) (fun hb2 H2 e2 => ?_) (fun hb2 H2 e2 => ?_)
        · refine kE (fun R => ?_) H2 (e.trans e2)
          obtain ⟨_, _, _, r4, _⟩ := R
          obtain ⟨y1, y2⟩ := r4 i (by omega)
          rw [decide_eq_true y1, decide_eq_true y2] at hb2
          cases hb2
        · simp only [Bool.not_eq_false', Bool.and_eq_true, decide_eq_true_eq] at hb2
          refine ⟨_, rfl, e.trans e2, fun k hk => ?_⟩
          by_cases hki : k = i
          · rw [hki]; exact hb2
          · exact hu k (by omega)
      · rintro σ' H' ⟨v, rfl, e, hu⟩
        rw [Int.toNat_natCast] at hu
        -- the worths
        refine q_when (b := !decide (lw.filter (fun z => !(decide ((0 : Int) ≤ z) && decide (z ≤ 1000))) = [])) (et_test (ev_neNilZ (el_is (el_lcL (fun i => !(decide ((0 : Int) ≤ lw.getD i 0) && decide (lw.getD i 0 ≤ 1000))) (fun i => V.int (lw.getD i 0)) (ev_var rfl) (ex_l e hw) (by rw [lW]; omega) (fun x => rfl) (fun i x H2 e2 hi => ?_) (fun i x H2 e2 hi _ => ?_))
          (by rw [lW]; exact zfilter lw fun z => !(decide ((0 : Int) ≤ z) && decide (z ≤ 1000)))))) (fun hb2 H2 e2 => ?_) (fun hb2 H2 e2 => ?_)
        · obtain ⟨z, hz, rfl⟩ := zget hi
          have ez : lw.getD i 0 = z := by rw [List.getD_eq_getElem?_getD, hz]; rfl
          rw [ez]
          exact et_not (et_test (ev_chain ev_c (ev_var rfl) (fun _ => ev_c) rv_I0 (fun _ => rv_I0)))
        · obtain ⟨z, hz, rfl⟩ := zget hi
          have ez : lw.getD i 0 = z := by rw [List.getD_eq_getElem?_getD, hz]; rfl
          show Ev _ _ _ (V.int (lw.getD i 0))
          rw [ez]
          exact ev_var rfl
        · refine kE (fun R => ?_) H2 (e.trans e2)
          obtain ⟨_, _, _, _, r5⟩ := R
          have : lw.filter (fun z => !(decide ((0 : Int) ≤ z) && decide (z ≤ 1000))) = [] := by
            rw [List.filter_eq_nil_iff]
            intro z hz
            obtain ⟨y1, y2⟩ := r5 z hz
            rw [decide_eq_true y1, decide_eq_true y2]
            decide
          rw [decide_eq_true this] at hb2
          cases hb2
        · have hnil : lw.filter (fun z => !(decide ((0 : Int) ≤ z) && decide (z ≤ 1000))) = [] := by
            cases hd : decide (lw.filter (fun z => !(decide ((0 : Int) ≤ z) && decide (z ≤ 1000))) = []) with
            | true => exact of_decide_eq_true hd
            | false => rw [hd] at hb2; cases hb2
          have R : Right le lw := ⟨x.1.1, x.1.2, x.2, hu, fun z hz => by
            have := List.filter_eq_nil_iff.mp hnil z hz
            simp only [Bool.not_eq_true', Bool.not_eq_false, Bool.and_eq_true, decide_eq_true_eq] at this
            exact this⟩
          have E2 := e.trans e2
          -- self.above = [-1] + list(elders)
          refine q_fld (EvL.p (el_catNN (xs := [V.int (-1)]) (ys := le.map V.int) (el_lst (ea_cons (ev_un ev_c ru_neg) ea_nil) (by show 1 ≤ 100000; decide)) (el_listS (ev_var rfl) (ex_l E2 he)) (by show 1 + _ ≤ _; rw [lE]; omega))) fun v1 H3 e3 ⟨a, ev, ha, hA⟩ => ⟨dx, [], ev_var rfl, e3 _ _ (E2 _ _ hp), T.cl, T.nA, by show 0 < 1000; decide, fun H4 e4 => ?_⟩
          subst ev
          have E4 := (E2.trans e3).trans e4
          have npa : p ≠ a := ne_of_none (E2 _ _ hp) ha
          have npe : SqL K (upd H4 p (.ins C dx (putF "above" (.ref a) []))) pw (lw.map V.int) := by
            rcases ex_l E4 hw with (h | ⟨o, h⟩) | h
            · exact .inl (.inl (by rw [upd_ne]; exact h; intro z; rw [z] at h; rw [E4 _ _ hp] at h; cases h))
            · exact .inl (.inr ⟨o, by rw [upd_ne]; exact h; intro z; rw [z] at h; rw [E4 _ _ hp] at h; cases h⟩)
            · exact .inr h
          -- self.worth = list(worths)
          refine s_fld (EvL.p (el_listS (ev_var rfl) npe)) fun v2 H5 e5 ⟨u, ev2, hu2, hU⟩ => ⟨dx, putF "above" (.ref a) [], ev_var rfl, e5 _ _ upd_same, T.cl, T.nW, by show 1 < 1000; decide, fun H6 e6 => ?_⟩
          subst ev2
          have npu : p ≠ u := ne_of_none upd_same hu2
          have hA6 : H6 a = some (.lst (V.int (-1) :: le.map V.int)) := e6 _ _ (e5 _ _ (by rw [upd_ne npa.symm]; exact e4 _ _ hA))
          have fa : H a = none := fresh_back E2 ha
          have fu : H u = none := by
            have q : H4 u = none := by rw [upd_ne npu.symm] at hu2; exact hu2
            exact fresh_back E4 q
          refine kQ R a u _ fa fu (fun b o hb hbo => ?_) upd_same (by rw [upd_ne npa.symm]; exact hA6) (by rw [upd_ne npu.symm]; exact e6 _ _ hU)
          rw [upd_ne hb]
          exact e6 _ _ (e5 _ _ (by rw [upd_ne hb]; exact E4 _ _ hbo))
/-- a Tree that was made beside H: nothing of it stood there -/
def TreeNew (C : Addr) (H H2 : Hp) (v : V) (es ws : List Nat) : Prop := ∃ x dx a u, v = .ref x ∧ H x = none ∧ H a = none ∧ H u = none ∧ H2 x = some (.ins C dx (flds a u)) ∧ H2 a = some (.lst (V.int (-1) :: vi es)) ∧ H2 u = some (.lst (vi ws))
theorem spp_tree {H : Hp} {pe pw : Addr} {es ws : List Nat} (he : SqL K H pe (vi es)) (hw : SqL K H pw (vi ws)) (o : Fm.OkT es ws) : ∀ H1, Ex H H1 → ∀ x dx, H1 x = none → H1 dx = none → dx ≠ x → ∀ Q : VK, (∀ H2, Ex H1 H2 → TreeNew C H H2 (.ref x) es ws → Q (.ref x) H2) → ∀ E : XK,
    spInit K C cBad (.ref x :: [.ref pe, .ref pw]) (upd (upd H1 dx (.own x)) x (.ins C dx [])) (fun v H2 => v = .non ∧ Q (.ref x) H2) E := fun H1 e x dx hx hdx ne Q q E => by
  have e0 : Ex H1 (upd (upd H1 dx (.own x)) x (.ins C dx [])) := fun b ob hb => by
    rw [upd_ne (ne_of_none hb hx), upd_ne (ne_of_none hb hdx)]
    exact hb
  have ol := o.len
  have om := o.most
  refine ⟨x, dx, pe, pw, es.map fun (n : Nat) => (n : Int), ws.map fun (n : Nat) => (n : Int), rfl, upd_same, by rw [← vi_int]; exact ex_l (e.trans e0) he, by rw [← vi_int]; exact ex_l (e.trans e0) hw, by rw [List.length_map]; omega, by rw [List.length_map]; omega,
    fun _ a u H2 ha hu k hp hA hU => ⟨rfl, q H2 (fun b ob hb => k b ob (ne_of_none hb hx) (e0 b ob hb)) ⟨x, dx, a, u, rfl, fresh_back e hx, fresh_back (e.trans e0) ha, fresh_back (e.trans e0) hu, hp, by rw [vi_int]; exact hA, by rw [vi_int]; exact hU⟩⟩, fun h => absurd (right_of o) h⟩
theorem TreeNew.at {H H2 : Hp} {v : V} {es ws : List Nat} (h : TreeNew C H H2 v es ws) (o : Fm.OkT es ws) : ∃ x, v = .ref x ∧ TreeAt C H2 x es ws := by
  obtain ⟨x, dx, a, u, rfl, _, _, _, h1, h2, h3⟩ := h
  exact ⟨x, rfl, ⟨dx, a, u, h1, h2, h3⟩, o⟩
/-! ### elders, worths, things -/
def spElders1 (C : Addr) : Sp := fun vs H Q _ => ∃ (p : Addr) (es ws : List Nat), vs = [.ref p] ∧ TreeAt C H p es ws ∧ RetL (vi es) H Q
def spWorths1 (C : Addr) : Sp := fun vs H Q _ => ∃ (p : Addr) (es ws : List Nat), vs = [.ref p] ∧ TreeAt C H p es ws ∧ RetL (vi ws) H Q
def spThings (C : Addr) : Sp := fun vs H Q _ => ∃ (p : Addr) (es ws : List Nat), vs = [.ref p] ∧ TreeAt C H p es ws ∧ RetV (.int (ws.length : Int)) H Q
theorem spl_elders1 {H : Hp} {p : Addr} {es ws : List Nat} (h : TreeAt C H p es ws) : SpL (spElders1 C) [.ref p] H (vi es) := fun H1 e Q q E => ⟨p, es, ws, rfl, h.mono e, q⟩
theorem spl_worths1 {H : Hp} {p : Addr} {es ws : List Nat} (h : TreeAt C H p es ws) : SpL (spWorths1 C) [.ref p] H (vi ws) := fun H1 e Q q E => ⟨p, es, ws, rfl, h.mono e, q⟩
theorem spv_things {H : Hp} {p : Addr} {es ws : List Nat} (h : TreeAt C H p es ws) : SpV (spThings C) [.ref p] H (.int (ws.length : Int)) := fun H1 e Q q E => ⟨p, es, ws, rfl, h.mono e, q⟩
theorem has_elders1 (B : Bi mg) (T : TreeT K mg C) (D : AtM K C "elders" "Tree.elders" s_Tree_elders p_Tree_elders) : HasM P w K mg base CX0 C "elders" p_Tree_elders 1 (spElders1 C) := D.has fun f fd F => by
  refine F.ok sc_Tree_elders (fun vs H Q E h => ?_) (fun cdv A outer s H vs Q E hr h => ?_)
  · obtain ⟨p, es, ws, rfl, _⟩ := h
    rfl
  · obtain ⟨p, es, ws, rfl, ⟨⟨dx, a, u, h1, h2, h3⟩, o⟩, q⟩ := h
    refine ⟨_, (pss_one (ps_ret (pe_callTy (call_listK (K := K)) (by rfl) B.list (by decide +kernel) (pa_cons (pe_slice (sl_listK (K := K)) (pe_fldK (K := K) (pv 0) rfl) (po_some pe_int) po_none) pa_nil)))), ?_⟩
    exact s_retL (el_listN (el_is (el_sl (ev_fld (ev_var rfl) h1 T.cl T.nA (flds_above a u)) (eo_some ev_c) eo_none (sq_of h2)) (by
      unfold cutV
      show (List.drop 1 (V.int (-1) :: vi es)).take _ = _
      exact List.take_of_length_le (by simp [HT.sIx, List.length_drop])))) q
theorem has_worths1 (B : Bi mg) (T : TreeT K mg C) (D : AtM K C "worths" "Tree.worths" s_Tree_worths p_Tree_worths) : HasM P w K mg base CX0 C "worths" p_Tree_worths 1 (spWorths1 C) := D.has fun f fd F => by
  refine F.ok sc_Tree_worths (fun vs H Q E h => ?_) (fun cdv A outer s H vs Q E hr h => ?_)
  · obtain ⟨p, es, ws, rfl, _⟩ := h
    rfl
  · obtain ⟨p, es, ws, rfl, ⟨⟨dx, a, u, h1, h2, h3⟩, o⟩, q⟩ := h
    refine ⟨_, (pss_one (ps_ret (pe_callTy (call_listK (K := K)) (by rfl) B.list (by decide +kernel) (pa_cons (pe_fldK (K := K) (pv 0) rfl) pa_nil)))), ?_⟩
    exact s_retL (el_listS (ev_fld (ev_var rfl) h1 T.cl T.nW (flds_worth a u)) (sq_of h3)) q
theorem has_things (B : Bi mg) (T : TreeT K mg C) (D : AtM K C "things" "Tree.things" s_Tree_things p_Tree_things) : HasM P w K mg base CX0 C "things" p_Tree_things 1 (spThings C) := D.has fun f fd F => by
  refine F.ok sc_Tree_things (fun vs H Q E h => ?_) (fun cdv A outer s H vs Q E hr h => ?_)
  · obtain ⟨p, es, ws, rfl, _⟩ := h
    rfl
  · obtain ⟨p, es, ws, rfl, ⟨⟨dx, a, u, h1, h2, h3⟩, o⟩, q⟩ := h
    refine ⟨_, (pss_one (ps_ret (pe_callB (call_lenK (K := K)) (by rfl) B.len PySem.boot_len (pa_cons (pe_fldK (K := K) (pv 0) rfl) pa_nil)))), ?_⟩
    exact s_ret (ev_is (ev_lenS (ev_fld (ev_var rfl) h1 T.cl T.nW (flds_worth a u)) (sq_of h3)) (by rw [vi_len])) q
end
end Fi
/-! Tree: see_thing, depth, below, worth_below. -/
namespace Fi
open PySem L2 Evl
section
variable {P : Program} {w : World} {K : PySem.W.Frag} {mg : Str → Option Value} {base : Heap} {C cBad cNo : Addr}
/-- a thing of a tree, or NoThing -/
def Seen (cNo : Addr) (ws : List Nat) (t : Int) (H : Hp) (E : XK) (yes : Prop) : Prop := (0 ≤ t ∧ t < (ws.length : Int) → yes) ∧ (¬ (0 ≤ t ∧ t < (ws.length : Int)) → ∀ H2, Ex H H2 → E (.ref cNo) none H2)
theorem Seen.of {cNo : Addr} {ws : List Nat} {t : Nat} {H : Hp} {E : XK} {yes : Prop} (h : t < ws.length) (y : yes) : Seen cNo ws (t : Int) H E yes := ⟨fun _ => y, fun n => absurd ⟨by omega, by omega⟩ n⟩
def spSee (C cNo : Addr) : Sp := fun vs H Q E => ∃ (p : Addr) (es ws : List Nat) (t : Int), vs = [.ref p, .int t] ∧ TreeAt C H p es ws ∧ Seen cNo ws t H E (RetV .non H Q)
theorem has_see (B : Bi mg) (T : TreeT K mg C) (e_NoThing : Err K mg "NoThing" cNo) (D : AtM K C "see_thing" "Tree.see_thing" s_Tree_see_thing p_Tree_see_thing) : HasM P w K mg base (L2.CX P w) C "see_thing" p_Tree_see_thing 1 (spSee C cNo) := D.has fun f fd F => by
  refine F.okX sc_Tree_see_thing (fun vs H Q E h => ?_) (fun cdv A outer s H vs Q E hr h => ?_)
  · obtain ⟨p, es, ws, t, rfl, _⟩ := h
    rfl
  · obtain ⟨p, es, ws, t, rfl, ⟨⟨dx, a, u, h1, h2, h3⟩, o⟩, k1, k2⟩ := h
    refine ⟨_, (pss_one (ps_if (pt_not (pt_chain op_le op_lt pe_int (pv 1) (pe_callB (call_lenK (K := K)) (by rfl) B.len PySem.boot_len (pa_cons (pe_fldK (K := K) (pv 0) rfl) pa_nil)))) (pss_one (ps_raise rfl (takes_of rfl rfl rfl rfl) (e_NoThing.made (by rfl)))) pss_nil)), ?_⟩
    refine s_when (b := !(decide ((0 : Int) ≤ t) && decide (t < (ws.length : Int)))) (et_not (et_test (ev_chain ev_c (ev_var rfl) (fun _ => ev_is (ev_lenS (ev_fld (ev_var rfl) h1 T.cl T.nW (flds_worth a u)) (sq_of h3)) (by rw [vi_len])) rv_I0 (fun _ => rv_I0)))) (fun hb H1 e1 => ?_) (fun hb H1 e1 => ?_)
    · exact k2 (fun ⟨y1, y2⟩ => by rw [decide_eq_true y1, decide_eq_true y2] at hb; cases hb) H1 e1
    · simp only [Bool.not_eq_false', Bool.and_eq_true, decide_eq_true_eq] at hb
      exact k1 hb H1 e1
/-! ### depth -/
def spDepth (C cNo : Addr) : Sp := fun vs H Q E => ∃ (p : Addr) (es ws : List Nat) (t : Int), vs = [.ref p, .int t] ∧ TreeAt C H p es ws ∧ Seen cNo ws t H E (RetV (.int (Fm.depth es t.toNat : Int)) H Q)
theorem spv_depth {H : Hp} {p : Addr} {es ws : List Nat} {t : Nat} (h : TreeAt C H p es ws) (ht : t < ws.length) : SpV (spDepth C cNo) [.ref p, .int (t : Int)] H (.int (Fm.depth es t : Int)) := fun H1 e Q q E => ⟨p, es, ws, t, rfl, h.mono e, .of ht q⟩
theorem aget {es : List Nat} {j n : Nat} (h : 0 < j) (e : es[j - 1]? = some n) : (V.int (-1) :: vi es)[j]? = some (V.int (n : Int)) := by
  obtain ⟨k, rfl⟩ : ∃ k, j = k + 1 := ⟨j - 1, by omega⟩
  rw [List.getElem?_cons_succ]
  exact vi_get e
theorem has_depth (T : TreeT K mg C) (hM_see_thing : HasM P w K mg base (L2.CX P w) C "see_thing" p_Tree_see_thing 1 (spSee C cNo)) (D : AtM K C "depth" "Tree.depth" s_Tree_depth p_Tree_depth) :
    HasM P w K mg base (L2.CX P w) C "depth" p_Tree_depth 2 (spDepth C cNo) := D.has fun f fd F => by
  refine F.okX sc_Tree_depth (fun vs H Q E h => ?_) (fun cdv A outer s H vs Q E hr h => ?_)
  · obtain ⟨p, es, ws, t, rfl, _⟩ := h
    rfl
  · obtain ⟨p, es, ws, t, rfl, TA, k1, k2⟩ := h
    obtain ⟨⟨dx, a, u, h1, h2, h3⟩, o⟩ := id TA
    have up := o.up
    have ol := o.len
    refine ⟨_, (pss_cons (ps_expr (hM_see_thing.call T.cl (pv 0) (hr.mono (by decide)) (passes_call (takes_of rfl rfl rfl rfl) fun _ _ _ _ h => h) (pa_cons (pv 1) pa_nil)))
      (pss_cons (ps_set (i := 2) sc_Tree_depth.nd rfl (Or.inl rfl) pe_int)
      (pss_cons (ps_while (passes_of rfl) (pt_cmpR op_ne (pv 1) pe_int (nomark _)) (pss_cons (ps_set (i := 1) sc_Tree_depth.nd rfl (Or.inl rfl) (pe_ix (ix_listK (K := K)) (pe_fldK (K := K) (pv 0) rfl) (pv 1) (fun _ _ => rfl)))
        (pss_one (ps_set (i := 2) sc_Tree_depth.nd rfl (Or.inl rfl) (pe_op op_add (pv 2) pe_int)))))
      (pss_one (ps_ret (pv 2)))))), ?_⟩
    refine q_methX (ev_var rfl) h1 (flds_no a u (by decide +kernel) (by decide +kernel)) (ea_cons (ev_var rfl) ea_nil) fun H1 e1 => ⟨p, es, ws, t, rfl, TA.mono e1, fun hv H2 e2 => ?_, fun hv H2 e2 => k2 hv H2 (e1.trans e2)⟩
    have q := k1 hv
    obtain ⟨n, rfl⟩ : ∃ n : Nat, t = (n : Int) := ⟨t.toNat, by omega⟩
    rw [Int.toNat_natCast] at q
    refine q_asg ev_c fun H3 e3 => ?_
    refine q_while (fun m σ' H' => ∃ (t' s' : Nat), σ' = [some (.ref p), some (.int (t' : Int)), some (.int (s' : Int))] ∧ Ex H H' ∧ s' + Fm.depth es t' = Fm.depth es n ∧ t' ≤ es.length ∧ m = t') n ⟨n, 0, rfl, (e1.trans e2).trans e3, Nat.zero_add _, by omega, rfl⟩ ?_
    rintro m σ' H' ⟨t', s', rfl, e, hd, hl, rfl⟩
    refine ⟨!decide (V.int (m : Int) = V.int ((0 : Nat) : Int)), et_test (ev_op (ev_var rfl) ev_c (rv_ne rfl)), fun hb H4 e4 => ⟨fun σ2 H2 => ∃ m', m' < m ∧ _, fun _ _ h => h, ?_⟩, fun hb H4 e4 => ?_⟩
    · rw [dec_int] at hb
      have hpos : 0 < m := by
        simp only [Bool.not_eq_true', decide_eq_false_iff_not] at hb
        omega
      have hlt := Fm.eld_lt up hpos
      refine q_asg (v := .int (Fm.eld es m : Int)) (ev_opIx (ev_fld (ev_var rfl) (e4 _ _ (e _ _ h1)) T.cl T.nA (flds_above a u)) (ev_var rfl) (sq_of (e4 _ _ (e _ _ h2))) (at_of (j := m) rfl (aget hpos (Fm.eld_get hpos (by omega))))) fun H5 e5 => ?_
      exact s_asg (ev_op (ev_var rfl) ev_c rv_I0) fun H6 e6 => ⟨Fm.eld es m, hlt, Fm.eld es m, s' + 1, rfl, ((e.trans e4).trans e5).trans e6, by have := Fm.depth_step up hpos; omega, by omega, rfl⟩
    · rw [dec_int] at hb
      have hz : m = 0 := by
        simp only [Bool.not_eq_false', decide_eq_true_eq] at hb
        exact hb
      subst hz
      have hd0 : Fm.depth es n = s' := by rw [← hd]; rfl
      rw [hd0] at q
      exact s_ret (ev_var rfl) fun H5 e5 => q H5 ((e.trans e4).trans e5)
/-! ### below -/
def spBelow (C cNo : Addr) : Sp := fun vs H Q E => ∃ (p : Addr) (es ws : List Nat) (t : Int), vs = [.ref p, .int t] ∧ TreeAt C H p es ws ∧ Seen cNo ws t H E (RetL (vi (Fm.below es t.toNat)) H Q)
theorem spl_below {H : Hp} {p : Addr} {es ws : List Nat} {t : Nat} (h : TreeAt C H p es ws) (ht : t < ws.length) : SpL (spBelow C cNo) [.ref p, .int (t : Int)] H (vi (Fm.below es t)) := fun H1 e Q q E => ⟨p, es, ws, t, rfl, h.mono e, .of ht q⟩
theorem has_below (B : Bi mg) (T : TreeT K mg C) (hM_see_thing : HasM P w K mg base (L2.CX P w) C "see_thing" p_Tree_see_thing 1 (spSee C cNo)) (D : AtM K C "below" "Tree.below" s_Tree_below p_Tree_below) :
    HasM P w K mg base (L2.CX P w) C "below" p_Tree_below 2 (spBelow C cNo) := D.has fun f fd F => by
  refine F.okX sc_Tree_below (fun vs H Q E h => ?_) (fun cdv A outer s H vs Q E hr h => ?_)
  · obtain ⟨p, es, ws, t, rfl, _⟩ := h
    rfl
  · obtain ⟨p, es, ws, t, rfl, TA, k1, k2⟩ := h
    obtain ⟨⟨dx, a, u, h1, h2, h3⟩, o⟩ := id TA
    have up := o.up
    have ol := o.len
    have om := o.most
    refine ⟨_, (pss_cons (ps_expr (hM_see_thing.call T.cl (pv 0) (hr.mono (by decide)) (passes_call (takes_of rfl rfl rfl rfl) fun _ _ _ _ h => h) (pa_cons (pv 1) pa_nil)))
      (pss_cons (ps_set (i := 2) sc_Tree_below.nd rfl (Or.inl rfl) (pe_lst (pa_cons (pv 1) pa_nil)))
      (pss_cons (ps_for (passes_of rfl) rfl (pi_range2 (by rfl) B.range (pa_cons (pe_op op_add (pv 1) pe_int) (pa_cons (pe_callB (call_lenK (K := K)) (by rfl) B.len PySem.boot_len (pa_cons (pe_fldK (K := K) (pv 0) rfl) pa_nil)) pa_nil))) (pg_name (i := 3) sc_Tree_below.nd rfl (Or.inl rfl)) (pss_one (ps_if (pt_cmpR (op_inK (K := K)) (pe_ix (ix_listK (K := K)) (pe_fldK (K := K) (pv 0) rfl) (pv 3) (fun _ _ => rfl)) (pv 2) (by with_unfolding_all rfl)) (pss_one (ps_expr (pe_bm PySem.F.plainAttrs_list PySem.F.slot_list_append PySem.F.type_list_append mt_append (pv 2) (pa_cons (pv 3) pa_nil)))) pss_nil)))
      (pss_one (ps_ret (pv 2)))))), ?_⟩
    refine q_methX (ev_var rfl) h1 (flds_no a u (by decide +kernel) (by decide +kernel)) (ea_cons (ev_var rfl) ea_nil) fun H1 e1 => ⟨p, es, ws, t, rfl, TA.mono e1, fun hv H2 e2 => ?_, fun hv H2 e2 => k2 hv H2 (e1.trans e2)⟩
    have q := k1 hv
    obtain ⟨n, rfl⟩ : ∃ n : Nat, t = (n : Int) := ⟨t.toNat, by omega⟩
    rw [Int.toNat_natCast] at q
    have E2 := e1.trans e2
    refine q_asgL (xs := vi [n]) (el_lst (ea_cons (ev_var rfl) ea_nil) (by show 1 ≤ 100000; decide)) fun l H3 hln e3 hl => ?_
    have hlH : H l = none := fresh_back E2 hln
    refine q_forR2 (lo := (n : Int) + 1) (n := (ws.length : Int)) (ea_cons (ev_op (ev_var rfl) ev_c rv_I0) (ea_cons (ev_is (ev_lenS (ev_fld (ev_var rfl) (e3 _ _ (E2 _ _ h1)) T.cl T.nW (flds_worth a u)) (sq_of (e3 _ _ (E2 _ _ h3)))) (by rw [vi_len])) ea_nil)) ⟨by omega, by omega, by omega, by omega⟩
      (fun i σ' H' => ∃ v, σ' = [some (.ref p), some (.int (n : Int)), some (.ref l), v] ∧ Ex H H' ∧ H' l = some (.lst (vi (Fm.belowTo es n (n + 1 + i))))) (fun H4 e4 => ⟨none, rfl, (E2.trans e3).trans e4, by rw [Nat.add_zero, Fm.belowTo_start]; exact e4 _ _ hl⟩) ?_ ?_
    · rintro i σ' H' hi ⟨v, rfl, e, hL⟩
      have hx : (V.int (-1) :: vi es)[n + 1 + i]? = some (V.int (Fm.eld es (n + 1 + i) : Int)) := aget (by omega) (Fm.eld_get (by omega) (by omega))
      have hin : decide (Fm.eld es (n + 1 + i) ∈ Fm.belowTo es n (n + 1 + i)) = Fm.isBelow es n (n + 1 + i) := by
        rw [Fm.isBelow_step up (show n < n + 1 + i by omega)]
        have hlt := Fm.eld_lt up (t := n + 1 + i) (by omega)
        cases hb : Fm.isBelow es n (Fm.eld es (n + 1 + i)) with
        | true => exact decide_eq_true (Fm.mem_belowTo.mpr ⟨hlt, hb⟩)
        | false => exact decide_eq_false fun h => by rw [(Fm.mem_belowTo.mp h).2] at hb; cases hb
      refine s_when (b := Fm.isBelow es n (n + 1 + i)) (et_test (ev_is (ev_op (ev_opIx (ev_fld (ev_var rfl) (e _ _ h1) T.cl T.nA (flds_above a u)) (ev_var rfl) (sq_of (e _ _ h2)) (at_of (j := n + 1 + i) (by omega) hx)) (ev_var rfl) (rv_isL (sq_of hL) rfl (vi_flat _))) (by rw [vi_in, hin]))) (fun hb H4 e4 => ?_) (fun hb H4 e4 => ?_)
      · refine s_app (v := .int ((n + 1 + i : Nat) : Int)) (e4 _ _ hL) (ev_var rfl) (ev_is (ev_var rfl) (by congr 1)) (by rw [vi_len]; have := Fm.belowTo_len es n (n + 1 + i); omega) fun H5 e5 => ⟨_, rfl, Ex.mut ((e.trans e4).trans e5) hlH, ?_⟩
        rw [upd_same, show n + 1 + (i + 1) = (n + 1 + i) + 1 from rfl, Fm.belowTo_succ, if_pos hb, vi_app]
        rfl
      · refine ⟨_, rfl, e.trans e4, ?_⟩
        rw [show n + 1 + (i + 1) = (n + 1 + i) + 1 from rfl, Fm.belowTo_succ, if_neg (by rw [hb]; decide)]
        exact e4 _ _ hL
    · rintro σ' H' ⟨v, rfl, e, hL⟩
      rw [show n + 1 + ((ws.length : Int) - ((n : Int) + 1)).toNat = es.length + 1 by omega, Fm.belowTo_end] at hL
      exact s_ret (ev_var rfl) fun H4 e4 => q l H4 hlH (e.trans e4) (e4 _ _ hL)
/-! ### worth_below -/
def spWorthB (C cNo : Addr) : Sp := fun vs H Q E => ∃ (p : Addr) (es ws : List Nat) (t : Int), vs = [.ref p, .int t] ∧ TreeAt C H p es ws ∧ Seen cNo ws t H E (RetV (.int (Fm.worth es ws t.toNat : Int)) H Q)
theorem spv_worthB {H : Hp} {p : Addr} {es ws : List Nat} {t : Nat} (h : TreeAt C H p es ws) (ht : t < ws.length) : SpV (spWorthB C cNo) [.ref p, .int (t : Int)] H (.int (Fm.worth es ws t : Int)) := fun H1 e Q q E => ⟨p, es, ws, t, rfl, h.mono e, .of ht q⟩
theorem has_worthB (B : Bi mg) (T : TreeT K mg C) (hM_below : HasM P w K mg base (L2.CX P w) C "below" p_Tree_below 2 (spBelow C cNo)) (D : AtM K C "worth_below" "Tree.worth_below" s_Tree_worth_below p_Tree_worth_below) :
    HasM P w K mg base (L2.CX P w) C "worth_below" p_Tree_worth_below 3 (spWorthB C cNo) := D.has fun f fd F => by
  refine F.okX sc_Tree_worth_below (fun vs H Q E h => ?_) (fun cdv A outer s H vs Q E hr h => ?_)
  · obtain ⟨p, es, ws, t, rfl, _⟩ := h
    rfl
  · obtain ⟨p, es, ws, t, rfl, TA, k1, k2⟩ := h
    obtain ⟨⟨dx, a, u, h1, h2, h3⟩, o⟩ := id TA
    have ol := o.len
    have om := o.most
    refine ⟨_, (pss_one (ps_ret (pe_callB (cr_sumK (K := K) rfl) (by rfl) B.sum (by decide +kernel) (pa_cons (pe_lc (own := [("other", 2)]) (g := gName 2) rfl sc_Tree_worth_below.nd (pi_list (hM_below.call T.cl (pv 0) (hr.mono (by decide)) (passes_call (takes_of rfl rfl rfl rfl) fun _ _ _ _ h => h) (pa_cons (pv 1) pa_nil))) (blkOk_by (own := [("other", 2)]) (N := n_Tree_worth_below) (sc := defScope s_Tree_worth_below) (by decide +kernel)) (fun _ _ _ _ _ => pg_name (i := 2) sc_Tree_worth_below.nd rfl (Or.inl rfl)) (fun _ _ _ _ _ => pts_nil) (fun _ _ _ _ _ => (pe_ix (ix_listK (K := K)) (pe_fldK (K := K) (pv 0) rfl) (pv 2) (fun _ _ => rfl)))) pa_nil)))), ?_⟩
    by_cases hv : 0 ≤ t ∧ t < (ws.length : Int)
    · have q := k1 hv
      obtain ⟨n, rfl⟩ : ∃ n : Nat, t = (n : Int) := ⟨t.toNat, by omega⟩
      rw [Int.toNat_natCast] at q
      refine s_ret (ev_sumN (el_lcNLv (l := Fm.below es n) (fun o => ws.getD o 0) (el_meth (ev_var rfl) h1 (flds_no a u (by decide +kernel) (by decide +kernel)) (ea_cons (ev_var rfl) ea_nil) (spl_below TA (by omega))) (by have := Fm.below_len es n; omega) (fun x => rfl) fun m H1 e1 hm => ?_)) q
      have hm2 := (Fm.mem_below.mp hm).1
      exact ev_opIx (ev_fld (ev_var rfl) (e1 _ _ h1) T.cl T.nW (flds_worth a u)) (ev_var rfl) (sq_of (e1 _ _ h3)) (vi_at rfl (getD_get (by omega)))
    · exact ⟨_, rfl, p, dx, _, rfl, h1, flds_no a u (by decide +kernel) (by decide +kernel), _, rfl, p, es, ws, t, rfl, TA, fun h => absurd h hv, fun _ H2 e2 => k2 hv H2 e2⟩
end
end Fi
/-! The law. -/
namespace Fi
open PySem L2 Evl
section
variable {P : Program} {w : World} {K : PySem.W.Frag} {mg : Str → Option Value} {base : Heap} {C cBad cNo : Addr}
def spLaw (K : PySem.W.Frag) : Sp := fun vs H Q _ => ∃ (a : Addr) (ns : List Int), vs = [.ref a] ∧ SqL K H a (ns.map V.int) ∧ ns.length ≤ 63 ∧ ∀ H', Q (.bl true) H'
theorem nums_true {K : PySem.W.Frag} {σ : L2.St} {H : Hp} {E : XK} {ta tb : TE} {p q : Addr} {l : List Nat} (ha : Ev ta σ H (.ref p)) (hb : Ev tb σ H (.ref q)) (h1 : H p = some (.lst (vi l))) (h2 : SqL K H q (vi l)) (hl : l.length ≤ 1000) : Ev (tCall (spNumbers K) [] E (tCons ta (tCons tb tNil))) σ H (.bl true) :=
  ev_is (ev_call0 (ea_cons ha (ea_cons hb ea_nil)) (spv_numbers h1 h2 hl)) (by rw [decide_eq_true rfl])
theorem nums_trueN {K : PySem.W.Frag} {σ : L2.St} {H : Hp} {E : XK} {ta tb : TE} {p : Addr} {l : List Nat} (ha : Ev ta σ H (.ref p)) (hb : EvL tb σ H (vi l)) (h1 : H p = some (.lst (vi l))) (hl : l.length ≤ 1000) : Ev (tCall (spNumbers K) [] E (tCons ta (tCons tb tNil))) σ H (.bl true) := fun H1 e Q q =>
  ha H1 e _ fun H2 e2 => hb H2 (e.trans e2) _ fun p2 H3 hp2 e3 h3 => by
    have h := spv_numbers (K := K) (e3 _ _ (e2 _ _ (e _ _ h1))) (sq_of h3) hl H3 (Ex.refl _) Q (fun H4 e4 => by rw [decide_eq_true rfl]; exact q H4 ((e2.trans e3).trans e4)) E
    exact h
theorem nums_trueNN {K : PySem.W.Frag} {σ : L2.St} {H : Hp} {E : XK} {ta tb : TE} {l : List Nat} (ha : EvL ta σ H (vi l)) (hb : EvL tb σ H (vi l)) (hl : l.length ≤ 1000) : Ev (tCall (spNumbers K) [] E (tCons ta (tCons tb tNil))) σ H (.bl true) := fun H1 e Q q =>
  ha H1 e _ fun p H2 hp e2 h2 => hb H2 (e.trans e2) _ fun p2 H3 hp2 e3 h3 => by
    have h := spv_numbers (K := K) (e3 _ _ h2) (sq_of h3) hl H3 (Ex.refl _) Q (fun H4 e4 => by rw [decide_eq_true rfl]; exact q H4 ((e2.trans e3).trans e4)) E
    exact h
theorem ok_law (B : Bi mg) (T : TreeT K mg C) (h_law_tree : Has P w K mg base CX0 "_law_tree" p__law_tree 4 (spPlot K)) (h_law_whole : Has P w K mg base CX0 "_law_whole" p__law_whole 1 spWhole)
    (h_law_numbers : Has P w K mg base CX0 "_law_numbers" p__law_numbers 2 (spNumbers K)) (h_law_depth : Has P w K mg base CX0 "_law_depth" p__law_depth 1 (spLDepth K)) (h_law_below : Has P w K mg base CX0 "_law_below" p__law_below 1 (spLBelow K)) (h_law_worth : Has P w K mg base CX0 "_law_worth" p__law_worth 2 (spLWorth K))
    (hI_Tree : HasI P w K mg base (L2.CX P w) C p_Tree___init__ 1 (spInit K C cBad)) (hM_elders : HasM P w K mg base CX0 C "elders" p_Tree_elders 1 (spElders1 C)) (hM_worths : HasM P w K mg base CX0 C "worths" p_Tree_worths 1 (spWorths1 C)) (hM_things : HasM P w K mg base CX0 C "things" p_Tree_things 1 (spThings C))
    (hM_depth : HasM P w K mg base (L2.CX P w) C "depth" p_Tree_depth 2 (spDepth C cNo)) (hM_below : HasM P w K mg base (L2.CX P w) C "below" p_Tree_below 2 (spBelow C cNo)) (hM_worth_below : HasM P w K mg base (L2.CX P w) C "worth_below" p_Tree_worth_below 3 (spWorthB C cNo)) :
    ∀ f fd, Fun K "law" "law" s_law f fd → FnOk P w K mg base CX0 5 f fd p_law (spLaw K) := fun f fd F => by
  refine F.ok sc_law (fun vs H Q E h => ?_) (fun cdv A outer s H vs Q E hr h => ?_)
  · obtain ⟨a, ns, rfl, _⟩ := h
    rfl
  · obtain ⟨sa, ns, rfl, hS, _, q⟩ := h
    refine ⟨_, (pss_cons (ps_set (i := 1) sc_law.nd rfl (Or.inl rfl) (h_law_tree.call (hr.mono (by decide)) (by rfl) pass0 (pa_cons (pv 0) (pa_cons pe_int pa_nil))))
      (pss_cons (ps_set (i := 2) sc_law.nd rfl (Or.inl rfl) (pe_lst (pa_cons (pe_callTy (call_listK (K := K)) (by rfl) B.list (by decide +kernel) (pa_cons (pe_ix (ix_tupK (K := K)) (pv 1) pe_int (fun _ _ => rfl)) pa_nil)) (pa_cons (pe_callTy (call_listK (K := K)) (by rfl) B.list (by decide +kernel) (pa_cons (pe_ix (ix_tupK (K := K)) (pv 1) pe_int (fun _ _ => rfl)) pa_nil)) pa_nil))))
      (pss_cons (ps_set (i := 3) sc_law.nd rfl (Or.inl rfl) (hI_Tree.make (hr.mono (by decide)) (by rfl) T.g passL (pa_cons (pe_ix (ix_listK (K := K)) (pv 2) pe_int (fun _ _ => rfl)) (pa_cons (pe_ix (ix_listK (K := K)) (pv 2) pe_int (fun _ _ => rfl)) pa_nil))))
      (pss_cons (ps_if (pt_cmpR (op_neDK (K := K) hr.units) (pv 2) (pe_lst (pa_cons (pe_ix (ix_tupK (K := K)) (pv 1) pe_int (fun _ _ => rfl)) (pa_cons (pe_ix (ix_tupK (K := K)) (pv 1) pe_int (fun _ _ => rfl)) pa_nil))) (nomark _)) (pss_one (ps_ret pe_bl)) pss_nil)
      (pss_cons (ps_expr (pe_bm PySem.F.plainAttrs_list PySem.F.slot_list_append PySem.F.type_list_append mt_append (pe_ix (ix_listK (K := K)) (pv 2) pe_int (fun _ _ => rfl)) (pa_cons pe_int pa_nil)))
      (pss_cons (ps_asg (pe_op op_add (pe_ix (ix_listK (K := K)) (pe_ix (ix_tupK (K := K)) (pv 1) pe_int (fun _ _ => rfl)) pe_int (fun _ _ => rfl)) pe_int) (pg_sub (pe_ix (ix_listK (K := K)) (pv 2) pe_int (fun _ _ => rfl)) pe_int set_list))
      (pss_cons (ps_for PassesOwn.never rfl (pi_range1 (by rfl) B.range (pa_cons pe_int pa_nil)) (pg_name (i := 4) sc_law.nd rfl (Or.inl rfl)) (pss_cons (ps_set (i := 5) sc_law.nd rfl (Or.inl rfl) (pe_lst (pa_cons (hM_elders.call0 T.cl (pv 3) (hr.mono (by decide)) (by first | exact pass0 | exact passL)) (pa_cons (hM_worths.call0 T.cl (pv 3) (hr.mono (by decide)) (by first | exact pass0 | exact passL)) pa_nil))))
        (pss_cons (ps_if (PW.pt (pw_or (pt_not (pt_val (h_law_numbers.call (hr.mono (by decide)) (by rfl) pass0 (pa_cons (pe_ix (ix_listK (K := K)) (pv 5) pe_int (fun _ _ => rfl)) (pa_cons (pe_ix (ix_tupK (K := K)) (pv 1) pe_int (fun _ _ => rfl)) pa_nil))))) (pw_or1 (pt_not (pt_val (h_law_numbers.call (hr.mono (by decide)) (by rfl) pass0 (pa_cons (pe_ix (ix_listK (K := K)) (pv 5) pe_int (fun _ _ => rfl)) (pa_cons (pe_ix (ix_tupK (K := K)) (pv 1) pe_int (fun _ _ => rfl)) pa_nil)))))))) (pss_one (ps_ret pe_bl)) pss_nil)
        (pss_cons (ps_expr (pe_bm PySem.F.plainAttrs_list PySem.F.slot_list_append PySem.F.type_list_append mt_append (pe_ix (ix_listK (K := K)) (pv 5) pe_int (fun _ _ => rfl)) (pa_cons pe_int pa_nil)))
        (pss_one (ps_expr (pe_bm0 PySem.F.plainAttrs_list PySem.F.slot_list_clear PySem.F.type_list_clear mt_clear (pe_ix (ix_listK (K := K)) (pv 5) pe_int (fun _ _ => rfl)))))))))
      (pss_cons (ps_if (PW.pt (pw_or (pt_not (pt_val (h_law_whole.call (hr.mono (by decide)) (by rfl) pass0 (pa_cons (hM_things.call0 T.cl (pv 3) (hr.mono (by decide)) (by first | exact pass0 | exact passL)) pa_nil)))) (pw_or1 (pt_cmpR op_ne (hM_things.call0 T.cl (pv 3) (hr.mono (by decide)) (by first | exact pass0 | exact passL)) (pe_callB (call_lenK (K := K)) (by rfl) B.len PySem.boot_len (pa_cons (pe_ix (ix_tupK (K := K)) (pv 1) pe_int (fun _ _ => rfl)) pa_nil)) (nomark _))))) (pss_one (ps_ret pe_bl)) pss_nil)
      (pss_cons (ps_for PassesOwn.never rfl (pi_range1 (by rfl) B.range (pa_cons (pe_callB (call_lenK (K := K)) (by rfl) B.len PySem.boot_len (pa_cons (pe_ix (ix_tupK (K := K)) (pv 1) pe_int (fun _ _ => rfl)) pa_nil)) pa_nil)) (pg_name (i := 6) sc_law.nd rfl (Or.inl rfl)) (pss_cons (ps_if (PW.pt (pw_or (pt_not (pt_val (h_law_whole.call (hr.mono (by decide)) (by rfl) pass0 (pa_cons (hM_depth.call T.cl (pv 3) (hr.mono (by decide)) (by first | exact pass0 | exact passL) (pa_cons (pv 6) pa_nil)) pa_nil)))) (pw_or1 (pt_cmpR op_ne (hM_depth.call T.cl (pv 3) (hr.mono (by decide)) (by first | exact pass0 | exact passL) (pa_cons (pv 6) pa_nil)) (h_law_depth.call (hr.mono (by decide)) (by rfl) pass0 (pa_cons (pe_ix (ix_tupK (K := K)) (pv 1) pe_int (fun _ _ => rfl)) (pa_cons (pv 6) pa_nil))) (nomark _))))) (pss_one (ps_ret pe_bl)) pss_nil)
        (pss_cons (ps_set (i := 7) sc_law.nd rfl (Or.inl rfl) (hM_below.call T.cl (pv 3) (hr.mono (by decide)) (by first | exact pass0 | exact passL) (pa_cons (pv 6) pa_nil)))
        (pss_cons (ps_if (pt_not (pt_val (h_law_numbers.call (hr.mono (by decide)) (by rfl) pass0 (pa_cons (pv 7) (pa_cons (h_law_below.call (hr.mono (by decide)) (by rfl) pass0 (pa_cons (pe_ix (ix_tupK (K := K)) (pv 1) pe_int (fun _ _ => rfl)) (pa_cons (pv 6) pa_nil))) pa_nil))))) (pss_one (ps_ret pe_bl)) pss_nil)
        (pss_cons (ps_expr (pe_bm PySem.F.plainAttrs_list PySem.F.slot_list_append PySem.F.type_list_append mt_append (pv 7) (pa_cons pe_int pa_nil)))
        (pss_cons (ps_set (i := 8) sc_law.nd rfl (Or.inl rfl) (hM_worth_below.call T.cl (pv 3) (hr.mono (by decide)) (by first | exact pass0 | exact passL) (pa_cons (pv 6) pa_nil)))
        (pss_one (ps_if (PW.pt (pw_or (pt_not (pt_val (h_law_whole.call (hr.mono (by decide)) (by rfl) pass0 (pa_cons (pv 8) pa_nil)))) (pw_or1 (pt_cmpR op_ne (pv 8) (h_law_worth.call (hr.mono (by decide)) (by rfl) pass0 (pa_cons (pv 1) (pa_cons (pv 6) pa_nil))) (nomark _))))) (pss_one (ps_ret pe_bl)) pss_nil))))))))
      (pss_cons (ps_for PassesOwn.never rfl (pi_range1 (by rfl) B.range (pa_cons (pe_callB (call_lenK (K := K)) (by rfl) B.len PySem.boot_len (pa_cons (pe_ix (ix_tupK (K := K)) (pv 1) pe_int (fun _ _ => rfl)) pa_nil)) pa_nil)) (pg_name (i := 6) sc_law.nd rfl (Or.inl rfl)) (pss_cons (ps_if (pt_not (pt_val (h_law_numbers.call (hr.mono (by decide)) (by rfl) pass0 (pa_cons (hM_below.call T.cl (pv 3) (hr.mono (by decide)) (by first | exact pass0 | exact passL) (pa_cons (pv 6) pa_nil)) (pa_cons (h_law_below.call (hr.mono (by decide)) (by rfl) pass0 (pa_cons (pe_ix (ix_tupK (K := K)) (pv 1) pe_int (fun _ _ => rfl)) (pa_cons (pv 6) pa_nil))) pa_nil))))) (pss_one (ps_ret pe_bl)) pss_nil)
        (pss_one (ps_if (pt_cmpR op_ne (hM_worth_below.call T.cl (pv 3) (hr.mono (by decide)) (by first | exact pass0 | exact passL) (pa_cons (pv 6) pa_nil)) (h_law_worth.call (hr.mono (by decide)) (by rfl) pass0 (pa_cons (pv 1) (pa_cons (pv 6) pa_nil))) (nomark _)) (pss_one (ps_ret pe_bl)) pss_nil))))
      (pss_one (ps_ret pe_bl)))))))))))), ?_⟩
    -- plot
    refine q_asgP (ep_call0 (ea_cons (ev_var rfl) (ea_cons ev_c ea_nil)) (spp_some (most := 14) hS (by decide) (by decide))) fun v H1 e1 ⟨p, es, ws, ev, ⟨pe, pw, hp, hpe, hpw⟩, o, _⟩ => ?_
    subst ev
    have ol := o.len
    have om := o.most
    -- handed
    refine q_asgP (ep_lstLL (el_listS (ev_opIxT (ev_var rfl) ev_c (st_of hp) rfl) (sq_of hpe)) (el_listS (ev_opIxT (ev_var rfl) ev_c (st_of hp) rfl) (sq_of hpw))) fun v H2 e2 ⟨t, q1, q2, ev, nt, n1, n2, n12, n1t, n2t, ht, hq1, hq2⟩ => ?_
    subst ev
    -- tree
    refine q_asgP (ep_make (P := fun v H3 => TreeNew C H2 H3 v es ws) (ea_cons (ev_opIx (ev_var rfl) ev_c (sq_of ht) rfl) (ea_cons (ev_opIx (ev_var rfl) ev_c (sq_of ht) rfl) ea_nil)) (spp_tree (sq_of hq1) (sq_of hq2) o)) fun v H3 e3 ⟨x, dx, a, u, ev, nx, na, nu, hx, ha, hu⟩ => ?_
    subst ev
    -- if handed != ..
    have e23 := e2.trans e3
    refine q_when (b := false) (et_test (ev_is (ev_opL (ev_var rfl) (el_lst (ea_cons (ev_opIxT (ev_var rfl) ev_c (st_of (e23 _ _ hp)) rfl) (ea_cons (ev_opIxT (ev_var rfl) ev_c (st_of (e23 _ _ hp)) rfl) ea_nil)) (by show 2 ≤ 100000; decide)) fun r H4 hr4 e4 =>
        rv_neD (d := .list [dI es, dI ws]) (e := .list [dI es, dI ws]) (fun H5 e5 => .lst (sq_of (e5 _ _ (e4 _ _ (e3 _ _ ht)))) (.cons (dp_vi (sq_of (e5 _ _ (e4 _ _ (e3 _ _ hq1))))) (.cons (dp_vi (sq_of (e5 _ _ (e4 _ _ (e3 _ _ hq2))))) .nil)))
          (fun H5 e5 => .lst (sq_of (e5 _ _ hr4)) (.cons (dp_vi (sq_of (e5 _ _ (e4 _ _ (e23 _ _ hpe))))) (.cons (dp_vi (sq_of (e5 _ _ (e4 _ _ (e23 _ _ hpw))))) .nil))) (shaped_dII _ _) (shaped_dII _ _)) (by rw [eqv_dII]; simp))) (fun hb => no hb) fun _ H4 e4 => ?_
    -- handed[0].append(0)
    have e34 := e3.trans e4
    have e24 := e23.trans e4
    refine q_app (l := q1) (xs := vi es) (e34 _ _ hq1) (ev_opIx (ev_var rfl) ev_c (sq_of (e34 _ _ ht)) rfl) ev_c (by rw [vi_len]; omega) fun H5 e5 => ?_
    have k5 : ∀ b ob, b ≠ q1 → H4 b = some ob → (upd H5 q1 (.lst (vi es ++ [.int 0]))) b = some ob := fun b ob hb h => by rw [upd_ne hb]; exact e5 _ _ h
    generalize hH6 : upd H5 q1 (.lst (vi es ++ [.int 0])) = H6 at k5
    -- handed[1][0] = plot[1][0] + 1
    have p1 : p ≠ q1 := ne_of_none hp n1
    have p2 : pe ≠ q1 := ne_of_none hpe n1
    have p3 : pw ≠ q1 := ne_of_none hpw n1
    have p1' : p ≠ q2 := ne_of_none hp n2
    have p2' : pe ≠ q2 := ne_of_none hpe n2
    have p3' : pw ≠ q2 := ne_of_none hpw n2
    refine q_setL (l := q2) (xs := vi ws) (j := 0) (k5 _ _ n12.symm (e34 _ _ hq2)) (ev_op (ev_opIx (ev_opIxT (ev_var rfl) ev_c (st_of (k5 _ _ p1 (e24 _ _ hp))) rfl) ev_c (sq_of (k5 _ _ p3 (e24 _ _ hpw))) (vi_at (j := 0) rfl (getD_get (by omega)))) ev_c rv_I0)
      (ev_opIx (ev_var rfl) ev_c (sq_of (k5 _ _ n1t.symm (e34 _ _ ht))) rfl) ev_c (by rw [vi_len]; omega) fun H7 e7 => ?_
    have k7 : ∀ b ob, b ≠ q1 → b ≠ q2 → H4 b = some ob → (upd H7 q2 (.lst ((vi ws).set 0 (.int ((ws.getD 0 0 : Nat) + 1))))) b = some ob := fun b ob hb hb2 h => by rw [upd_ne hb2]; exact e7 _ _ (k5 b ob hb h)
    generalize hH8 : upd H7 q2 (.lst ((vi ws).set 0 (.int ((ws.getD 0 0 : Nat) + 1)))) = H8 at k7
    have x1 : x ≠ q1 := (ne_of_none hq1 nx).symm
    have x2 : x ≠ q2 := (ne_of_none hq2 nx).symm
    have a1 : a ≠ q1 := (ne_of_none hq1 na).symm
    have a2 : a ≠ q2 := (ne_of_none hq2 na).symm
    have u1 : u ≠ q1 := (ne_of_none hq1 nu).symm
    have u2 : u ≠ q2 := (ne_of_none hq2 nu).symm
    have TA : TreeAt C H8 x es ws := ⟨⟨dx, a, u, k7 _ _ x1 x2 (e4 _ _ hx), k7 _ _ a1 a2 (e4 _ _ ha), k7 _ _ u1 u2 (e4 _ _ hu)⟩, o⟩
    have hP8 : PlotAt H8 p es ws := ⟨pe, pw, k7 _ _ p1 p1' (e24 _ _ hp), k7 _ _ p2 p2' (e24 _ _ hpe), k7 _ _ p3 p3' (e24 _ _ hpw)⟩
    have hp8 : H8 p = some (.tup [.ref pe, .ref pw]) := k7 _ _ p1 p1' (e24 _ _ hp)
    have hpe8 : H8 pe = some (.lst (vi es)) := k7 _ _ p2 p2' (e24 _ _ hpe)
    have hpw8 : H8 pw = some (.lst (vi ws)) := k7 _ _ p3 p3' (e24 _ _ hpw)
    have hx8 : H8 x = some (.ins C dx (flds a u)) := k7 _ _ x1 x2 (e4 _ _ hx)
    have noM : ∀ m : Str, ¬ m = "above" → ¬ m = "worth" → (flds a u).lookup m = none := fun m => flds_no a u
    -- for turn in range(2)
    refine q_forR1 (n := 2) (ea_cons ev_c ea_nil) ⟨by decide, by decide⟩ (fun i σ' H' => ∃ v4 v5, σ' = [some (.ref sa), some (.ref p), some (.ref t), some (.ref x), v4, v5, none, none, none] ∧ Ex H8 H') (fun H9 e9 => ⟨none, none, rfl, e9⟩) ?_ ?_
    · rintro i σ' H' hi ⟨v4, v5, rfl, e⟩
      refine q_asgP (ep_lstLL (el_meth (ev_var rfl) (e _ _ hx8) (noM _ (by decide +kernel) (by decide +kernel)) ea_nil (spl_elders1 (TA.mono e))) (el_meth (ev_var rfl) (e _ _ hx8) (noM _ (by decide +kernel) (by decide +kernel)) ea_nil (spl_worths1 (TA.mono e)))) fun v H9 e9 ⟨r, r1, r2, ev, nr, nr1, nr2, n12', n1r, n2r, hr9, h1, h2⟩ => ?_
      subst ev
      have E9 := e.trans e9
      refine q_when (b := false) (et_or (a := false) (b := false) (et_not (a := true) (et_B (nums_true (ev_opIx (ev_var rfl) ev_c (sq_of hr9) rfl) (ev_opIxT (ev_var rfl) ev_c (st_of (E9 _ _ hp8)) rfl) h1 (sq_of (E9 _ _ hpe8)) (by omega))))
        fun _ => et_not (a := true) (et_B (nums_true (ev_opIx (ev_var rfl) ev_c (sq_of hr9) rfl) (ev_opIxT (ev_var rfl) ev_c (st_of (E9 _ _ hp8)) rfl) h2 (sq_of (E9 _ _ hpw8)) (by omega)))) (fun hb => no hb) fun _ H10 e10 => ?_
      refine q_app (l := r1) (xs := vi es) (e10 _ _ h1) (ev_opIx (ev_var rfl) ev_c (sq_of (e10 _ _ hr9)) rfl) ev_c (by rw [vi_len]; omega) fun H11 e11 => ?_
      have kr : ∀ b ob, b ≠ r1 → H10 b = some ob → (upd H11 r1 (.lst (vi es ++ [.int 0]))) b = some ob := fun b ob hb h => by rw [upd_ne hb]; exact e11 _ _ h
      refine s_clear (l := r2) (xs := vi ws) (kr _ _ n12'.symm (e10 _ _ h2)) (ev_opIx (ev_var rfl) ev_c (sq_of (kr _ _ n1r.symm (e10 _ _ hr9))) rfl) fun H12 e12 => ⟨_, _, rfl, fun b ob hb => ?_⟩
      have hb' := e _ _ hb
      rw [upd_ne (ne_of_none hb' nr2)]
      exact e12 _ _ (kr _ _ (ne_of_none hb' nr1) (e10 _ _ (e9 _ _ hb')))
    · rintro σ' H' ⟨v4, v5, rfl, e⟩
      -- things
      refine q_when (b := false) (et_or (a := false) (b := false) (et_not (a := true) (et_B (ev_call0 (ea_cons (ev_meth (ev_var rfl) (e _ _ hx8) (noM _ (by decide +kernel) (by decide +kernel)) ea_nil (spv_things (TA.mono e))) ea_nil) spv_whole)))
        fun _ => et_test (ev_is (ev_op (ev_meth (ev_var rfl) (e _ _ hx8) (noM _ (by decide +kernel) (by decide +kernel)) ea_nil (spv_things (TA.mono e))) (ev_is (ev_lenS (ev_opIxT (ev_var rfl) ev_c (st_of (e _ _ hp8)) rfl) (sq_of (e _ _ hpw8))) (by rw [vi_len])) (rv_ne rfl)) (by rw [decide_eq_true rfl]; rfl))) (fun hb => no hb) fun _ H9 e9 => ?_
      have E9 := e.trans e9
      refine q_forR1 (n := (ws.length : Int)) (ea_cons (ev_is (ev_lenS (ev_opIxT (ev_var rfl) ev_c (st_of (E9 _ _ hp8)) rfl) (sq_of (E9 _ _ hpw8))) (by rw [vi_len])) ea_nil) ⟨by omega, by omega⟩
        (fun i σ' H' => ∃ v4 v5 v6 v7 v8, σ' = [some (.ref sa), some (.ref p), some (.ref t), some (.ref x), v4, v5, v6, v7, v8] ∧ Ex H8 H') (fun H10 e10 => ⟨_, _, _, _, _, rfl, E9.trans e10⟩) ?_ ?_
      · rintro i σ' H' hi ⟨v4, v5, v6, v7, v8, rfl, e⟩
        have hiw : i < ws.length := by omega
        refine q_when (b := false) (et_or (a := false) (b := false) (et_not (a := true) (et_B (ev_call0 (ea_cons (ev_meth (ev_var rfl) (e _ _ hx8) (noM _ (by decide +kernel) (by decide +kernel)) (ea_cons (ev_var rfl) ea_nil) (spv_depth (TA.mono e) hiw)) ea_nil) spv_whole)))
          fun _ => et_test (ev_is (ev_op (ev_meth (ev_var rfl) (e _ _ hx8) (noM _ (by decide +kernel) (by decide +kernel)) (ea_cons (ev_var rfl) ea_nil) (spv_depth (TA.mono e) hiw)) (ev_call0 (ea_cons (ev_opIxT (ev_var rfl) ev_c (st_of (e _ _ hp8)) rfl) (ea_cons (ev_var rfl) ea_nil)) (spv_ldepth (sq_of (e _ _ hpe8)) o.up (by omega))) (rv_ne rfl)) (by rw [decide_eq_true rfl]; rfl))) (fun hb => no hb) fun _ H10 e10 => ?_
        have E10 := e.trans e10
        refine q_asgL (el_meth (ev_var rfl) (E10 _ _ hx8) (noM _ (by decide +kernel) (by decide +kernel)) (ea_cons (ev_var rfl) ea_nil) (spl_below (TA.mono E10) hiw)) fun r H11 nr e11 hr11 => ?_
        have E11 := E10.trans e11
        have bl := Fm.below_len es i
        refine q_when (b := false) (et_not (a := true) (et_B (nums_trueN (ev_var rfl) (el_call0 (ea_cons (ev_opIxT (ev_var rfl) ev_c (st_of (E11 _ _ hp8)) rfl) (ea_cons (ev_var rfl) ea_nil)) (spl_lbelow (sq_of (E11 _ _ hpe8)) o.up (by omega))) hr11 (by omega)))) (fun hb => no hb) fun _ H12 e12 => ?_
        refine q_app (l := r) (e12 _ _ hr11) (ev_var rfl) ev_c (by rw [vi_len]; omega) fun H13 e13 => ?_
        have E13 : Ex H8 (upd H13 r (.lst (vi (Fm.below es i) ++ [.int 99]))) := Ex.mut ((E11.trans e12).trans e13) (fresh_back E10 nr)
        generalize upd H13 r (.lst (vi (Fm.below es i) ++ [.int 99])) = H14 at E13
        refine q_asg (ev_meth (ev_var rfl) (E13 _ _ hx8) (noM _ (by decide +kernel) (by decide +kernel)) (ea_cons (ev_var rfl) ea_nil) (spv_worthB (TA.mono E13) hiw)) fun H15 e15 => ?_
        have E15 := E13.trans e15
        refine s_when (b := false) (et_or (a := false) (b := false) (et_not (a := true) (et_B (ev_call0 (ea_cons (ev_var rfl) ea_nil) spv_whole)))
          fun _ => et_test (ev_is (ev_op (ev_var rfl) (ev_call0 (ea_cons (ev_var rfl) (ea_cons (ev_var rfl) ea_nil)) (spv_lworth (hP8.mono E15) o)) (rv_ne rfl)) (by rw [decide_eq_true rfl]; rfl))) (fun hb => no hb) fun _ H16 e16 => ⟨_, _, _, _, _, rfl, E15.trans e16⟩
      · rintro σ' H' ⟨v4, v5, v6, v7, v8, rfl, e⟩
        refine q_forR1 (n := (ws.length : Int)) (ea_cons (ev_is (ev_lenS (ev_opIxT (ev_var rfl) ev_c (st_of (e _ _ hp8)) rfl) (sq_of (e _ _ hpw8))) (by rw [vi_len])) ea_nil) ⟨by omega, by omega⟩
          (fun i σ' H' => ∃ v4 v5 v6 v7 v8, σ' = [some (.ref sa), some (.ref p), some (.ref t), some (.ref x), v4, v5, v6, v7, v8] ∧ Ex H8 H') (fun H10 e10 => ⟨_, _, _, _, _, rfl, e.trans e10⟩) ?_ ?_
        · rintro i σ' H' hi ⟨v4, v5, v6, v7, v8, rfl, e⟩
          have hiw : i < ws.length := by omega
          have bl := Fm.below_len es i
          refine q_when (b := false) (et_not (a := true) (et_B (nums_trueNN (el_meth (ev_var rfl) (e _ _ hx8) (noM _ (by decide +kernel) (by decide +kernel)) (ea_cons (ev_var rfl) ea_nil) (spl_below (TA.mono e) hiw)) (el_call0 (ea_cons (ev_opIxT (ev_var rfl) ev_c (st_of (e _ _ hp8)) rfl) (ea_cons (ev_var rfl) ea_nil)) (spl_lbelow (sq_of (e _ _ hpe8)) o.up (by omega))) (by omega)))) (fun hb => no hb) fun _ H10 e10 => ?_
          have E10 := e.trans e10
          exact s_when (b := false) (et_test (ev_is (ev_op (ev_meth (ev_var rfl) (E10 _ _ hx8) (noM _ (by decide +kernel) (by decide +kernel)) (ea_cons (ev_var rfl) ea_nil) (spv_worthB (TA.mono E10) hiw)) (ev_call0 (ea_cons (ev_var rfl) (ea_cons (ev_var rfl) ea_nil)) (spv_lworth (hP8.mono E10) o)) (rv_ne rfl)) (by rw [decide_eq_true rfl]; rfl))) (fun hb => no hb) fun _ H11 e11 => ⟨_, _, _, _, _, rfl, E10.trans e11⟩
        · rintro σ' H' ⟨v4, v5, v6, v7, v8, rfl, e⟩
          exact s_ret ev_c fun H10 e10 => q H10
/-- the whole chain, from what the top has left -/
theorem chain (B : Bi mg) (T : TreeT K mg C) {t1 t2 : Tok} (c_MOST : mg "MOST" = some (.int 14 t1)) (c_WORTHS : mg "WORTHS" = some (.int 1000 t2)) (eB : Err K mg "BadTree" cBad) (eN : Err K mg "NoThing" cNo)
    (d0 : AtI K C "Tree.__init__" s_Tree___init__ p_Tree___init__) (d1 : AtM K C "elders" "Tree.elders" s_Tree_elders p_Tree_elders) (d2 : AtM K C "worths" "Tree.worths" s_Tree_worths p_Tree_worths) (d3 : AtM K C "things" "Tree.things" s_Tree_things p_Tree_things)
    (d4 : AtM K C "see_thing" "Tree.see_thing" s_Tree_see_thing p_Tree_see_thing) (d5 : AtM K C "depth" "Tree.depth" s_Tree_depth p_Tree_depth) (d6 : AtM K C "below" "Tree.below" s_Tree_below p_Tree_below) (d7 : AtM K C "worth_below" "Tree.worth_below" s_Tree_worth_below p_Tree_worth_below)
    (d8 : At K mg "_law_cell_at" s__law_cell_at p__law_cell_at) (d9 : At K mg "_law_draw" s__law_draw p__law_draw) (d10 : At K mg "_law_whole" s__law_whole p__law_whole) (d11 : At K mg "_law_elders" s__law_elders p__law_elders) (d12 : At K mg "_law_tree" s__law_tree p__law_tree)
    (d13 : At K mg "_law_depth" s__law_depth p__law_depth) (d14 : At K mg "_law_below" s__law_below p__law_below) (d15 : At K mg "_law_worth" s__law_worth p__law_worth) (d16 : At K mg "_law_numbers" s__law_numbers p__law_numbers) :
    ∀ f fd, Fun K "law" "law" s_law f fd → FnOk P w K mg base CX0 5 f fd p_law (spLaw K) := by
  have g8 := has_cell (P := P) (w := w) (base := base) B d8
  have g9 := has_draw d9 g8
  have g11 := has_elders B d11 g9
  have g12 := has_plot B d12 g9 g11
  have g10 := has_whole (P := P) (w := w) (base := base) B d10
  have g16 := has_numbers B d16 g10
  have g13 := has_ldepth (P := P) (w := w) (base := base) d13
  have g14 := has_lbelow (P := P) (w := w) (base := base) B d14
  have g15 := has_lworth B d15 g14
  have g4 := has_see (P := P) (w := w) (base := base) B T eN d4
  have g6 := has_below B T g4 d6
  exact ok_law B T g12 g10 g16 g13 g14 g15 (has_init B T c_MOST c_WORTHS eB d0) (has_elders1 B T d1) (has_worths1 B T d2) (has_things B T d3) (has_depth T g4 d5) g6 (has_worthB B T g6 d7)
end
end Fi
namespace Fi
open PySem L2 Evl
theorem all_mk {l : PySem.W.OpenLaw} {w : World} {K : PySem.W.Frag} {h : Heap} {mg : Str → Option Value} {fa : Addr} (X : K.In h) (G : h.Ns mainGlobals mg) (hfa : mg "law" = some (.ref fa))
    {C : Addr}
    {tk0 : Tok}
    {tk1 : Tok}
    {E_BadTree : Addr}
    {E_NoThing : Addr}
    {f0 : Addr} {od0 an0 : Option Addr} {sl0 : Array (Option Value)} {oc0 kV0 dc0 pm0 cd0 ct0 : Value}
    {f1 : Addr} {od1 an1 : Option Addr} {sl1 : Array (Option Value)} {oc1 kV1 dc1 pm1 cd1 ct1 : Value}
    {f2 : Addr} {od2 an2 : Option Addr} {sl2 : Array (Option Value)} {oc2 kV2 dc2 pm2 cd2 ct2 : Value}
    {f3 : Addr} {od3 an3 : Option Addr} {sl3 : Array (Option Value)} {oc3 kV3 dc3 pm3 cd3 ct3 : Value}
    {f4 : Addr} {od4 an4 : Option Addr} {sl4 : Array (Option Value)} {oc4 kV4 dc4 pm4 cd4 ct4 : Value}
    {f5 : Addr} {od5 an5 : Option Addr} {sl5 : Array (Option Value)} {oc5 kV5 dc5 pm5 cd5 ct5 : Value}
    {f6 : Addr} {od6 an6 : Option Addr} {sl6 : Array (Option Value)} {oc6 kV6 dc6 pm6 cd6 ct6 : Value}
    {f7 : Addr} {od7 an7 : Option Addr} {sl7 : Array (Option Value)} {oc7 kV7 dc7 pm7 cd7 ct7 : Value}
    {f8 : Addr} {od8 an8 : Option Addr} {sl8 : Array (Option Value)} {oc8 kV8 dc8 pm8 cd8 ct8 : Value}
    {f9 : Addr} {od9 an9 : Option Addr} {sl9 : Array (Option Value)} {oc9 kV9 dc9 pm9 cd9 ct9 : Value}
    {f10 : Addr} {od10 an10 : Option Addr} {sl10 : Array (Option Value)} {oc10 kV10 dc10 pm10 cd10 ct10 : Value}
    {f11 : Addr} {od11 an11 : Option Addr} {sl11 : Array (Option Value)} {oc11 kV11 dc11 pm11 cd11 ct11 : Value}
    {f12 : Addr} {od12 an12 : Option Addr} {sl12 : Array (Option Value)} {oc12 kV12 dc12 pm12 cd12 ct12 : Value}
    {f13 : Addr} {od13 an13 : Option Addr} {sl13 : Array (Option Value)} {oc13 kV13 dc13 pm13 cd13 ct13 : Value}
    {f14 : Addr} {od14 an14 : Option Addr} {sl14 : Array (Option Value)} {oc14 kV14 dc14 pm14 cd14 ct14 : Value}
    {f15 : Addr} {od15 an15 : Option Addr} {sl15 : Array (Option Value)} {oc15 kV15 dc15 pm15 cd15 ct15 : Value}
    {f16 : Addr} {od16 an16 : Option Addr} {sl16 : Array (Option Value)} {oc16 kV16 dc16 pm16 cd16 ct16 : Value}
    {f17 : Addr} {od17 an17 : Option Addr} {sl17 : Array (Option Value)} {oc17 kV17 dc17 pm17 cd17 ct17 : Value}
    (z1 : PySem.W.nsIn K mainGlobals "len" = some none)
    (z2 : PySem.W.nsIn K mainGlobals "range" = some none)
    (z3 : PySem.W.nsIn K mainGlobals "list" = some none)
    (z4 : PySem.W.nsIn K mainGlobals "sum" = some none)
    (z5 : PySem.W.nsIn K mainGlobals "max" = some none)
    (z6 : PySem.W.nsIn K mainGlobals "min" = some none)
    (z7 : PySem.W.nsIn K mainGlobals "isinstance" = some none)
    (z8 : PySem.W.nsIn K mainGlobals "int" = some none)
    (z9 : PySem.W.nsIn K mainGlobals "bool" = some none)
    (z10 : PySem.W.nsIn K mainGlobals "str" = some none)
    (z11 : PySem.W.nsIn K mainGlobals "tuple" = some none)
    (z12 : PySem.W.nsIn K mainGlobals "enumerate" = some none)
    (z13 : PySem.W.nsIn K mainGlobals "ValueError" = some none)
    (aC : PySem.W.nsIn K mainGlobals "Tree" = some (some (.ref C)))
    (pg : PySem.W.plainGet K C Str.empty = true)
    (hd : PySem.W.hasDictIn K C = true)
    (po : PySem.W.plainOver K C = true)
    (sa : PySem.W.findIn K (.ref C) "__setattr__" = some (some (.builtin "object.__setattr__")))
    (mk : PySem.W.makesIn K C = true)
    (kc : PySem.W.keepIn K (.ref C) = true)
    (nA : PySem.W.findIn K (.ref C) "above" = some none)
    (nW : PySem.W.findIn K (.ref C) "worth" = some none)
    (k_MOST : PySem.W.nsIn K mainGlobals "MOST" = some (some (.int 14 tk0)))
    (k_WORTHS : PySem.W.nsIn K mainGlobals "WORTHS" = some (some (.int 1000 tk1)))
    (ea_BadTree : PySem.W.nsIn K mainGlobals "BadTree" = some (some (.ref E_BadTree)))
    (eq_BadTree : PySem.W.excIn K E_BadTree [.type "ValueError", .type "Exception", .type "BaseException", .type "object"] "ValueError.__new__" = true)
    (ek_BadTree : PySem.W.keepIn K (.ref E_BadTree) = true)
    (eb_BadTree : PySem.W.subIn K (.ref E_BadTree) (.type "BaseException") = some true)
    (et_BadTree : PySem.W.typeIn K (.ref E_BadTree) = some (.type "type"))
    (ea_NoThing : PySem.W.nsIn K mainGlobals "NoThing" = some (some (.ref E_NoThing)))
    (eq_NoThing : PySem.W.excIn K E_NoThing [.type "ValueError", .type "Exception", .type "BaseException", .type "object"] "ValueError.__new__" = true)
    (ek_NoThing : PySem.W.keepIn K (.ref E_NoThing) = true)
    (eb_NoThing : PySem.W.subIn K (.ref E_NoThing) (.type "BaseException") = some true)
    (et_NoThing : PySem.W.typeIn K (.ref E_NoThing) = some (.type "type"))
    (a0 : PySem.W.findIn K (.ref C) "__init__" = some (some (.ref f0)))
    (i0 : PySem.W.isFn K (.ref f0) = true)
    (l0 : K.lookup f0 = some ⟨oc0, od0, .func (PySem.W.fnOf "__init__" "Tree.__init__" (defArgs s_Tree___init__) (defBody s_Tree___init__) (defScope s_Tree___init__) .none kV0 dc0 pm0 an0 cd0 ct0), sl0⟩)
    (c0 : PySem.W.codeIn K cd0 "Tree.__init__" = true)
    (k0 : PySem.W.keepIn K (.ref f0) = true)
    (a1 : PySem.W.findIn K (.ref C) "elders" = some (some (.ref f1)))
    (i1 : PySem.W.isFn K (.ref f1) = true)
    (l1 : K.lookup f1 = some ⟨oc1, od1, .func (PySem.W.fnOf "elders" "Tree.elders" (defArgs s_Tree_elders) (defBody s_Tree_elders) (defScope s_Tree_elders) .none kV1 dc1 pm1 an1 cd1 ct1), sl1⟩)
    (c1 : PySem.W.codeIn K cd1 "Tree.elders" = true)
    (k1 : PySem.W.keepIn K (.ref f1) = true)
    (a2 : PySem.W.findIn K (.ref C) "worths" = some (some (.ref f2)))
    (i2 : PySem.W.isFn K (.ref f2) = true)
    (l2 : K.lookup f2 = some ⟨oc2, od2, .func (PySem.W.fnOf "worths" "Tree.worths" (defArgs s_Tree_worths) (defBody s_Tree_worths) (defScope s_Tree_worths) .none kV2 dc2 pm2 an2 cd2 ct2), sl2⟩)
    (c2 : PySem.W.codeIn K cd2 "Tree.worths" = true)
    (k2 : PySem.W.keepIn K (.ref f2) = true)
    (a3 : PySem.W.findIn K (.ref C) "things" = some (some (.ref f3)))
    (i3 : PySem.W.isFn K (.ref f3) = true)
    (l3 : K.lookup f3 = some ⟨oc3, od3, .func (PySem.W.fnOf "things" "Tree.things" (defArgs s_Tree_things) (defBody s_Tree_things) (defScope s_Tree_things) .none kV3 dc3 pm3 an3 cd3 ct3), sl3⟩)
    (c3 : PySem.W.codeIn K cd3 "Tree.things" = true)
    (k3 : PySem.W.keepIn K (.ref f3) = true)
    (a4 : PySem.W.findIn K (.ref C) "see_thing" = some (some (.ref f4)))
    (i4 : PySem.W.isFn K (.ref f4) = true)
    (l4 : K.lookup f4 = some ⟨oc4, od4, .func (PySem.W.fnOf "see_thing" "Tree.see_thing" (defArgs s_Tree_see_thing) (defBody s_Tree_see_thing) (defScope s_Tree_see_thing) .none kV4 dc4 pm4 an4 cd4 ct4), sl4⟩)
    (c4 : PySem.W.codeIn K cd4 "Tree.see_thing" = true)
    (k4 : PySem.W.keepIn K (.ref f4) = true)
    (a5 : PySem.W.findIn K (.ref C) "depth" = some (some (.ref f5)))
    (i5 : PySem.W.isFn K (.ref f5) = true)
    (l5 : K.lookup f5 = some ⟨oc5, od5, .func (PySem.W.fnOf "depth" "Tree.depth" (defArgs s_Tree_depth) (defBody s_Tree_depth) (defScope s_Tree_depth) .none kV5 dc5 pm5 an5 cd5 ct5), sl5⟩)
    (c5 : PySem.W.codeIn K cd5 "Tree.depth" = true)
    (k5 : PySem.W.keepIn K (.ref f5) = true)
    (a6 : PySem.W.findIn K (.ref C) "below" = some (some (.ref f6)))
    (i6 : PySem.W.isFn K (.ref f6) = true)
    (l6 : K.lookup f6 = some ⟨oc6, od6, .func (PySem.W.fnOf "below" "Tree.below" (defArgs s_Tree_below) (defBody s_Tree_below) (defScope s_Tree_below) .none kV6 dc6 pm6 an6 cd6 ct6), sl6⟩)
    (c6 : PySem.W.codeIn K cd6 "Tree.below" = true)
    (k6 : PySem.W.keepIn K (.ref f6) = true)
    (a7 : PySem.W.findIn K (.ref C) "worth_below" = some (some (.ref f7)))
    (i7 : PySem.W.isFn K (.ref f7) = true)
    (l7 : K.lookup f7 = some ⟨oc7, od7, .func (PySem.W.fnOf "worth_below" "Tree.worth_below" (defArgs s_Tree_worth_below) (defBody s_Tree_worth_below) (defScope s_Tree_worth_below) .none kV7 dc7 pm7 an7 cd7 ct7), sl7⟩)
    (c7 : PySem.W.codeIn K cd7 "Tree.worth_below" = true)
    (k7 : PySem.W.keepIn K (.ref f7) = true)
    (a8 : PySem.W.nsIn K mainGlobals "_law_cell_at" = some (some (.ref f8)))
    (l8 : K.lookup f8 = some ⟨oc8, od8, .func (PySem.W.fnOf "_law_cell_at" "_law_cell_at" (defArgs s__law_cell_at) (defBody s__law_cell_at) (defScope s__law_cell_at) .none kV8 dc8 pm8 an8 cd8 ct8), sl8⟩)
    (c8 : PySem.W.codeIn K cd8 "_law_cell_at" = true)
    (k8 : PySem.W.keepIn K (.ref f8) = true)
    (a9 : PySem.W.nsIn K mainGlobals "_law_draw" = some (some (.ref f9)))
    (l9 : K.lookup f9 = some ⟨oc9, od9, .func (PySem.W.fnOf "_law_draw" "_law_draw" (defArgs s__law_draw) (defBody s__law_draw) (defScope s__law_draw) .none kV9 dc9 pm9 an9 cd9 ct9), sl9⟩)
    (c9 : PySem.W.codeIn K cd9 "_law_draw" = true)
    (k9 : PySem.W.keepIn K (.ref f9) = true)
    (a10 : PySem.W.nsIn K mainGlobals "_law_whole" = some (some (.ref f10)))
    (l10 : K.lookup f10 = some ⟨oc10, od10, .func (PySem.W.fnOf "_law_whole" "_law_whole" (defArgs s__law_whole) (defBody s__law_whole) (defScope s__law_whole) .none kV10 dc10 pm10 an10 cd10 ct10), sl10⟩)
    (c10 : PySem.W.codeIn K cd10 "_law_whole" = true)
    (k10 : PySem.W.keepIn K (.ref f10) = true)
    (a11 : PySem.W.nsIn K mainGlobals "_law_elders" = some (some (.ref f11)))
    (l11 : K.lookup f11 = some ⟨oc11, od11, .func (PySem.W.fnOf "_law_elders" "_law_elders" (defArgs s__law_elders) (defBody s__law_elders) (defScope s__law_elders) .none kV11 dc11 pm11 an11 cd11 ct11), sl11⟩)
    (c11 : PySem.W.codeIn K cd11 "_law_elders" = true)
    (k11 : PySem.W.keepIn K (.ref f11) = true)
    (a12 : PySem.W.nsIn K mainGlobals "_law_tree" = some (some (.ref f12)))
    (l12 : K.lookup f12 = some ⟨oc12, od12, .func (PySem.W.fnOf "_law_tree" "_law_tree" (defArgs s__law_tree) (defBody s__law_tree) (defScope s__law_tree) .none kV12 dc12 pm12 an12 cd12 ct12), sl12⟩)
    (c12 : PySem.W.codeIn K cd12 "_law_tree" = true)
    (k12 : PySem.W.keepIn K (.ref f12) = true)
    (a13 : PySem.W.nsIn K mainGlobals "_law_depth" = some (some (.ref f13)))
    (l13 : K.lookup f13 = some ⟨oc13, od13, .func (PySem.W.fnOf "_law_depth" "_law_depth" (defArgs s__law_depth) (defBody s__law_depth) (defScope s__law_depth) .none kV13 dc13 pm13 an13 cd13 ct13), sl13⟩)
    (c13 : PySem.W.codeIn K cd13 "_law_depth" = true)
    (k13 : PySem.W.keepIn K (.ref f13) = true)
    (a14 : PySem.W.nsIn K mainGlobals "_law_below" = some (some (.ref f14)))
    (l14 : K.lookup f14 = some ⟨oc14, od14, .func (PySem.W.fnOf "_law_below" "_law_below" (defArgs s__law_below) (defBody s__law_below) (defScope s__law_below) .none kV14 dc14 pm14 an14 cd14 ct14), sl14⟩)
    (c14 : PySem.W.codeIn K cd14 "_law_below" = true)
    (k14 : PySem.W.keepIn K (.ref f14) = true)
    (a15 : PySem.W.nsIn K mainGlobals "_law_worth" = some (some (.ref f15)))
    (l15 : K.lookup f15 = some ⟨oc15, od15, .func (PySem.W.fnOf "_law_worth" "_law_worth" (defArgs s__law_worth) (defBody s__law_worth) (defScope s__law_worth) .none kV15 dc15 pm15 an15 cd15 ct15), sl15⟩)
    (c15 : PySem.W.codeIn K cd15 "_law_worth" = true)
    (k15 : PySem.W.keepIn K (.ref f15) = true)
    (a16 : PySem.W.nsIn K mainGlobals "_law_numbers" = some (some (.ref f16)))
    (l16 : K.lookup f16 = some ⟨oc16, od16, .func (PySem.W.fnOf "_law_numbers" "_law_numbers" (defArgs s__law_numbers) (defBody s__law_numbers) (defScope s__law_numbers) .none kV16 dc16 pm16 an16 cd16 ct16), sl16⟩)
    (c16 : PySem.W.codeIn K cd16 "_law_numbers" = true)
    (k16 : PySem.W.keepIn K (.ref f16) = true)
    (a17 : PySem.W.nsIn K mainGlobals "law" = some (some (.ref f17)))
    (l17 : K.lookup f17 = some ⟨oc17, od17, .func (PySem.W.fnOf "law" "law" (defArgs s_law) (defBody s_law) (defScope s_law) .none kV17 dc17 pm17 an17 cd17 ct17), sl17⟩)
    (c17 : PySem.W.codeIn K cd17 "law" = true)
    (k17 : PySem.W.keepIn K (.ref f17) = true)
    : ∃ fd : FuncData, (∀ (s : Shared) (v : Value), BindsTo s fd ⟨[v], []⟩ [("script", v)]) ∧ ∀ base : Heap, K.In base → base.Ns mainGlobals mg → FnOk l.prog w K mg base CX0 5 fa fd ["script"] (spLaw K) := by
  have e := hfa.symm.trans (PySem.W.mg_of X G a17)
  cases e
  exact ⟨PySem.W.fnOf "law" "law" (defArgs s_law) (defBody s_law) (defScope s_law) .none kV17 dc17 pm17 an17 cd17 ct17, fun s v => .of_eq rfl, fun base _ _ => chain (bi_mk X G z1 z2 z3 z4 z5 z6 z7 z8 z9 z10 z11 z12 z13) ⟨⟨pg, hd, po, sa⟩, nA, nW, PySem.W.mg_of X G aC⟩ (PySem.W.mg_of X G k_MOST) (PySem.W.mg_of X G k_WORTHS) (err_mk X G ea_BadTree eq_BadTree ek_BadTree eb_BadTree et_BadTree) (err_mk X G ea_NoThing eq_NoThing ek_NoThing eb_NoThing et_NoThing) (ati_mk a0 i0 l0 c0 k0 mk kc bd_Tree___init__) (atm_mk a1 i1 l1 c1 k1 bd_Tree_elders) (atm_mk a2 i2 l2 c2 k2 bd_Tree_worths) (atm_mk a3 i3 l3 c3 k3 bd_Tree_things) (atm_mk a4 i4 l4 c4 k4 bd_Tree_see_thing) (atm_mk a5 i5 l5 c5 k5 bd_Tree_depth) (atm_mk a6 i6 l6 c6 k6 bd_Tree_below) (atm_mk a7 i7 l7 c7 k7 bd_Tree_worth_below) (at_mk X G a8 l8 c8 k8 bd__law_cell_at) (at_mk X G a9 l9 c9 k9 bd__law_draw) (at_mk X G a10 l10 c10 k10 bd__law_whole) (at_mk X G a11 l11 c11 k11 bd__law_elders) (at_mk X G a12 l12 c12 k12 bd__law_tree) (at_mk X G a13 l13 c13 k13 bd__law_depth) (at_mk X G a14 l14 c14 k14 bd__law_below) (at_mk X G a15 l15 c15 k15 bd__law_worth) (at_mk X G a16 l16 c16 k16 bd__law_numbers) _ _ (fun_mk l17 c17 k17)⟩
theorem walk {l : PySem.W.OpenLaw} {q : Program} {loose : List Str} {XP : (Str → Option Value) → Heap → Prop} {YP : World → Heap → Prop} {d : DefRec} {K : Params → PySem.W.Frag} (hn : l.most = some 63) (hdf : d.params.defaults = [])
    (hY : ∀ (w : World) (h : Heap), YP w h → (K w.params).In h)
    (F : ∀ (w : World) (mg : Str → Option Value) (fa : Addr) (h : Heap), (K w.params).In h → h.Ns mainGlobals mg → mg d.name = some (.ref fa) →
      ∃ fd : FuncData, (∀ (s : Shared) (u : Value), BindsTo s fd ⟨[u], []⟩ [("script", u)]) ∧ ∀ base : Heap, (K w.params).In base → base.Ns mainGlobals mg → FnOk l.prog w (K w.params) mg base CX0 5 fa fd ["script"] (spLaw (K w.params))) :
    PySem.W.WalkO q loose XP YP l.row.toRowW d [] (fun f vs => PySem.call f vs) :=
  L2.walk_of (n := 63) (k := 5) (x := "script") (CX := fun _ => CX0) (sp := fun w => spLaw (K w.params)) hn (by decide) hdf ⟨rfl, by decide, by decide⟩ hY F (fun _ _ a ns hl _ hS => ⟨a, ns, rfl, hS, hl, fun _ => rfl⟩) fun _ _ _ _ _ z => z
end Fi
open PySem PySem.W PyProof.Rows
set_option maxRecDepth 100000 in
set_option maxHeartbeats 0 in
theorem PySem.Challenge.cw_firetree_k01_trees_holds : PySem.Challenge.rw_firetree_k01_trees.Holds := by
  w_on; o_law; k_head; (case hw => w_witness2)
  k_fill
  refine Fi.walk (l := PySem.Challenge.rw_firetree_k01_trees) rfl rfl (fun w h Y => PySem.W.kIn_of Y) ?F
  case F =>
    intro w mg fa h KX G hmg
    refine' Fi.all_mk KX G hmg ?z1 ?z2 ?z3 ?z4 ?z5 ?z6 ?z7 ?z8 ?z9 ?z10 ?z11 ?z12 ?z13 ?aC ?pg ?hd ?po ?sa ?mk ?kc ?nA ?nW ?k_MOST ?k_WORTHS ?ea_BadTree ?eq_BadTree ?ek_BadTree ?eb_BadTree ?et_BadTree ?ea_NoThing ?eq_NoThing ?ek_NoThing ?eb_NoThing ?et_NoThing ?a0 ?i0 ?l0 ?c0 ?k0 ?a1 ?i1 ?l1 ?c1 ?k1 ?a2 ?i2 ?l2 ?c2 ?k2 ?a3 ?i3 ?l3 ?c3 ?k3 ?a4 ?i4 ?l4 ?c4 ?k4 ?a5 ?i5 ?l5 ?c5 ?k5 ?a6 ?i6 ?l6 ?c6 ?k6 ?a7 ?i7 ?l7 ?c7 ?k7 ?a8 ?l8 ?c8 ?k8 ?a9 ?l9 ?c9 ?k9 ?a10 ?l10 ?c10 ?k10 ?a11 ?l11 ?c11 ?k11 ?a12 ?l12 ?c12 ?k12 ?a13 ?l13 ?c13 ?k13 ?a14 ?l14 ?c14 ?k14 ?a15 ?l15 ?c15 ?k15 ?a16 ?l16 ?c16 ?k16 ?a17 ?l17 ?c17 ?k17
    (case z1 => k_is)
    (case z2 => k_is)
    (case z3 => k_is)
    (case z4 => k_is)
    (case z5 => k_is)
    (case z6 => k_is)
    (case z7 => k_is)
    (case z8 => k_is)
    (case z9 => k_is)
    (case z10 => k_is)
    (case z11 => k_is)
    (case z12 => k_is)
    (case z13 => k_is)
    (case aC => k_is)
    (case pg => k_is)
    (case hd => k_is)
    (case po => k_is)
    (case sa => k_is)
    (case mk => k_is)
    (case kc => k_is)
    (case nA => k_is)
    (case nW => k_is)
    (case k_MOST => k_is)
    (case k_WORTHS => k_is)
    (case ea_BadTree => k_is)
    (case eq_BadTree => k_exc)
    (case ek_BadTree => k_is)
    (case eb_BadTree => k_is)
    (case et_BadTree => k_is)
    (case ea_NoThing => k_is)
    (case eq_NoThing => k_exc)
    (case ek_NoThing => k_is)
    (case eb_NoThing => k_is)
    (case et_NoThing => k_is)
    (case a0 => k_is)
    (case i0 => k_is)
    (case l0 => k_is)
    (case c0 => k_is)
    (case k0 => k_is)
    (case a1 => k_is)
    (case i1 => k_is)
    (case l1 => k_is)
    (case c1 => k_is)
    (case k1 => k_is)
    (case a2 => k_is)
    (case i2 => k_is)
    (case l2 => k_is)
    (case c2 => k_is)
    (case k2 => k_is)
    (case a3 => k_is)
    (case i3 => k_is)
    (case l3 => k_is)
    (case c3 => k_is)
    (case k3 => k_is)
    (case a4 => k_is)
    (case i4 => k_is)
    (case l4 => k_is)
    (case c4 => k_is)
    (case k4 => k_is)
    (case a5 => k_is)
    (case i5 => k_is)
    (case l5 => k_is)
    (case c5 => k_is)
    (case k5 => k_is)
    (case a6 => k_is)
    (case i6 => k_is)
    (case l6 => k_is)
    (case c6 => k_is)
    (case k6 => k_is)
    (case a7 => k_is)
    (case i7 => k_is)
    (case l7 => k_is)
    (case c7 => k_is)
    (case k7 => k_is)
    (case a8 => k_is)
    (case l8 => k_is)
    (case c8 => k_is)
    (case k8 => k_is)
    (case a9 => k_is)
    (case l9 => k_is)
    (case c9 => k_is)
    (case k9 => k_is)
    (case a10 => k_is)
    (case l10 => k_is)
    (case c10 => k_is)
    (case k10 => k_is)
    (case a11 => k_is)
    (case l11 => k_is)
    (case c11 => k_is)
    (case k11 => k_is)
    (case a12 => k_is)
    (case l12 => k_is)
    (case c12 => k_is)
    (case k12 => k_is)
    (case a13 => k_is)
    (case l13 => k_is)
    (case c13 => k_is)
    (case k13 => k_is)
    (case a14 => k_is)
    (case l14 => k_is)
    (case c14 => k_is)
    (case k14 => k_is)
    (case a15 => k_is)
    (case l15 => k_is)
    (case c15 => k_is)
    (case k15 => k_is)
    (case a16 => k_is)
    (case l16 => k_is)
    (case c16 => k_is)
    (case k16 => k_is)
    (case a17 => k_is)
    (case l17 => k_is)
    (case c17 => k_is)
    (case k17 => k_is)
#print axioms PySem.Challenge.cw_firetree_k01_trees_holds
