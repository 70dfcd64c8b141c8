import PyProof.Rows.All
import Wide.All
import OpenK.AllK
import Wide.FinOn
import HandS.Words
import HandS.ExcCtx
import HandS.IsInst
import HandS.WordsList
import HandS.Evl
import HandS.TupAny
import HandS.Conv
import HandS.Comp
import HandS.SetFor
import HandS.Zip
import KE.GoesEnum
import HandS.Iter
import HandS.Dict
import HandS.ExcOwn
import HandS.Sort
import HandS.Style
import HandS.Hot
import HandS.HotCalls
import HandS.ExcIs
import HandS.Text
import HandS.Lambda
import HandS.Nested
import HandS.TupMul
import HandS.CallLocal
import HandS.EndTab
import KE.KNestM
import PySem.Challenge.RW_wiredorders_k02_whole_rows_of_exchanges
set_option linter.all false
namespace K2

/-! ### exchanges -/
def sw {α : Type} : List α → Nat → List α
  | a :: b :: r, 0 => b :: a :: r
  | a :: r, i + 1 => a :: sw r i
  | l, _ => l
theorem sw_map {α β : Type} (f : α → β) : ∀ (l : List α) (i : Nat), sw (l.map f) i = (sw l i).map f
  | [], 0 => rfl
  | [], _ + 1 => rfl
  | [_], 0 => rfl
  | [_], i + 1 => by cases i <;> rfl
  | _ :: _ :: _, 0 => rfl
  | a :: b :: r, i + 1 => by
    have := sw_map f (b :: r) i
    simp only [List.map_cons] at this ⊢
    simp [sw, this]
theorem sw_perm {α : Type} : ∀ (l : List α) (i : Nat), (sw l i).Perm l
  | [], 0 => .refl _
  | [], _ + 1 => .refl _
  | [_], 0 => .refl _
  | [a], i + 1 => (sw_perm [] i).cons a
  | a :: b :: r, 0 => .swap a b r
  | a :: b :: r, i + 1 => (sw_perm (b :: r) i).cons a
theorem sw_length {α : Type} (l : List α) (i : Nat) : (sw l i).length = l.length := (sw_perm l i).length_eq
theorem sw_sw {α : Type} : ∀ (l : List α) (i : Nat), sw (sw l i) i = l
  | [], 0 => rfl
  | [], _ + 1 => rfl
  | [_], 0 => rfl
  | [a], i + 1 => by cases i <;> rfl
  | a :: b :: r, 0 => rfl
  | a :: b :: r, i + 1 => by
    have := sw_sw (b :: r) i
    simp only [sw]
    rw [this]
theorem sw_get {α : Type} : ∀ (l : List α) (i j : Nat), i + 1 < l.length → (sw l i)[j]? = if j = i then l[i + 1]? else if j = i + 1 then l[i]? else l[j]?
  | a :: b :: r, 0, j, _ => by
    match j with
    | 0 => rfl
    | 1 => rfl
    | j + 2 => simp [sw]
  | a :: b :: r, i + 1, j, h => by
    match j with
    | 0 => simp [sw]
    | j + 1 =>
      have := sw_get (b :: r) i j (by simp at h ⊢; omega)
      simp [sw, this]
theorem sw_cut {α : Type} : ∀ (l : List α) (i : Nat) (x y : α), l[i]? = some x → l[i + 1]? = some y → sw l i = l.take i ++ [y, x] ++ l.drop (i + 2)
  | a :: b :: r, 0, x, y, hx, hy => by simp at hx hy; subst hx hy; rfl
  | a :: r, i + 1, x, y, hx, hy => by
    have := sw_cut r i x y (by simpa using hx) (by simpa using hy)
    cases r with
    | nil => simp at hx
    | cons b r => simp [sw, this]
  | [_], 0, _, _, _, hy => by simp at hy
theorem sw_set {α : Type} : ∀ (l : List α) (i : Nat) (x y : α), l[i]? = some x → l[i + 1]? = some y → (l.set i y).set (i + 1) x = sw l i
  | a :: b :: r, 0, x, y, hx, hy => by simp at hx hy; subst hx hy; rfl
  | a :: r, i + 1, x, y, hx, hy => by
    have := sw_set r i x y (by simpa using hx) (by simpa using hy)
    cases r with
    | nil => simp at hx
    | cons b r => simp [sw, this]
  | [_], 0, _, _, _, hy => by simp at hy

/-- behind a row -/
def behind {α : Type} (l : List α) (row : List Nat) : List α := row.foldl sw l
theorem behind_nil {α : Type} (l : List α) : behind l [] = l := rfl
theorem behind_cons {α : Type} (l : List α) (i : Nat) (r : List Nat) : behind l (i :: r) = behind (sw l i) r := rfl
theorem behind_app {α : Type} (l : List α) (r r' : List Nat) : behind l (r ++ r') = behind (behind l r) r' := by simp [behind]
theorem behind_snoc {α : Type} (l : List α) (r : List Nat) (i : Nat) : behind l (r ++ [i]) = sw (behind l r) i := by rw [behind_app]; rfl
theorem behind_map {α β : Type} (f : α → β) (row : List Nat) : ∀ (l : List α), behind (l.map f) row = (behind l row).map f := by
  induction row with
  | nil => intro l; rfl
  | cons i r ih => intro l; rw [behind_cons, behind_cons, sw_map, ih]
theorem behind_perm {α : Type} (row : List Nat) : ∀ (l : List α), (behind l row).Perm l := by
  induction row with
  | nil => intro l; exact .refl _
  | cons i r ih => intro l; exact (ih _).trans (sw_perm l i)
theorem behind_length {α : Type} (l : List α) (row : List Nat) : (behind l row).length = l.length := (behind_perm row l).length_eq

/-! ### overtakings -/
def less (x : Nat) (r : List Nat) : List Nat := r.filter fun y => decide (y < x)
def inv : List Nat → Nat
  | [] => 0
  | x :: r => (less x r).length + inv r
theorem less_perm {x : Nat} {r r' : List Nat} (p : r.Perm r') : (less x r).length = (less x r').length := (p.filter _).length_eq
theorem inv_sw : ∀ (l : List Nat) (i x y : Nat), l[i]? = some x → l[i + 1]? = some y → (y < x → inv (sw l i) + 1 = inv l) ∧ (x < y → inv (sw l i) = inv l + 1)
  | a :: b :: r, 0, x, y, hx, hy => by
    simp at hx hy; subst hx hy
    refine ⟨fun h => ?_, fun h => ?_⟩
    · simp only [sw, inv, less]
      have h2 : ¬ a < b := by omega
      simp [h, h2]; omega
    · simp only [sw, inv, less]
      have h2 : ¬ b < a := by omega
      simp [h, h2]; omega
  | a :: r, i + 1, x, y, hx, hy => by
    have ih := inv_sw r i x y (by simpa using hx) (by simpa using hy)
    have e : sw (a :: r) (i + 1) = a :: sw r i := by
      cases r with
      | nil => simp at hx
      | cons b r => rfl
    rw [e]
    simp only [inv]
    rw [less_perm (sw_perm r i)]
    refine ⟨fun h => ?_, fun h => ?_⟩
    · have := ih.1 h; omega
    · have := ih.2 h; omega
  | [_], 0, _, _, _, hy => by simp at hy

/-! ### orders -/
def Ord (l : List Nat) : Prop := l.Perm (List.range l.length)
theorem Ord.nd {l : List Nat} (o : Ord l) : l.Nodup := o.nodup_iff.mpr List.nodup_range
theorem Ord.lt {l : List Nat} (o : Ord l) {x : Nat} (h : x ∈ l) : x < l.length := List.mem_range.mp (o.mem_iff.mp h)
theorem Ord.mem {l : List Nat} (o : Ord l) {x : Nat} (h : x < l.length) : x ∈ l := o.mem_iff.mpr (List.mem_range.mpr h)
theorem Ord.range (n : Nat) : Ord (List.range n) := by unfold Ord; rw [List.length_range]
theorem Ord.of_perm {l l' : List Nat} (o : Ord l) (p : l'.Perm l) : Ord l' := by unfold Ord; rw [p.length_eq]; exact p.trans o
theorem Ord.sw {l : List Nat} (o : Ord l) (i : Nat) : Ord (sw l i) := o.of_perm (sw_perm l i)
theorem Ord.behind {l : List Nat} (o : Ord l) (r : List Nat) : Ord (behind l r) := o.of_perm (behind_perm r l)
theorem nd_ne {l : List Nat} (h : l.Nodup) {i j x y : Nat} (hij : i ≠ j) (hx : l[i]? = some x) (hy : l[j]? = some y) : x ≠ y := by
  intro e
  subst e
  obtain ⟨h1, e1⟩ := List.getElem?_eq_some_iff.mp hx
  obtain ⟨h2, e2⟩ := List.getElem?_eq_some_iff.mp hy
  exact hij ((List.getElem_inj h).mp (e1.trans e2.symm))
/-- one more or one less -/
theorem inv_one {l : List Nat} (h : l.Nodup) {i : Nat} (hi : i + 1 < l.length) : inv (sw l i) = inv l + 1 ∨ inv (sw l i) + 1 = inv l := by
  have hx : l[i]? = some l[i] := List.getElem?_eq_getElem (by omega)
  have hy : l[i + 1]? = some l[i + 1] := List.getElem?_eq_getElem hi
  have ne := nd_ne h (by omega) hx hy
  have := inv_sw l i _ _ hx hy
  rcases Nat.lt_or_gt_of_ne ne with q | q
  · exact .inl (this.2 q)
  · exact .inr (this.1 q)

/-! ### falls -/
def falls (l : List Nat) : List Nat := (List.range (l.length - 1)).filter fun i => decide (l.getD (i + 1) 0 < l.getD i 0)
theorem mem_falls {l : List Nat} {i : Nat} : i ∈ falls l ↔ i + 1 < l.length ∧ l.getD (i + 1) 0 < l.getD i 0 := by
  unfold falls
  rw [List.mem_filter, List.mem_range]
  simp
  omega
theorem falls_inv {l : List Nat} {i : Nat} (h : i ∈ falls l) : i + 1 < l.length ∧ inv (sw l i) + 1 = inv l := by
  obtain ⟨h1, h2⟩ := mem_falls.mp h
  have hx : l[i]? = some (l.getD i 0) := by rw [List.getD_eq_getElem?_getD, List.getElem?_eq_getElem (show i < l.length by omega)]; rfl
  have hy : l[i + 1]? = some (l.getD (i + 1) 0) := by rw [List.getD_eq_getElem?_getD, List.getElem?_eq_getElem h1]; rfl
  exact ⟨h1, (inv_sw l i _ _ hx hy).1 h2⟩
theorem rising : ∀ (l : List Nat), (∀ i, i + 1 < l.length → l.getD i 0 < l.getD (i + 1) 0) → l.Pairwise (· < ·)
  | [], _ => .nil
  | [a], _ => by simp
  | a :: b :: r, h => by
    have ih := rising (b :: r) (fun i hi => by have := h (i + 1) (by simp at hi ⊢; omega); simpa using this)
    have h0 : a < b := by simpa using h 0 (by simp)
    refine .cons (fun y hy => ?_) ih
    rcases List.mem_cons.mp hy with e | hy
    · omega
    · have := (List.pairwise_cons.mp ih).1 y hy; omega
theorem no_falls {l : List Nat} (o : Ord l) (h : falls l = []) : l = List.range l.length := by
  have pw : l.Pairwise (· < ·) := rising l fun i hi => by
    have nf : ¬ l.getD (i + 1) 0 < l.getD i 0 := fun z => by
      have : i ∈ falls l := mem_falls.mpr ⟨hi, z⟩
      rw [h] at this; cases this
    have hx : l[i]? = some (l.getD i 0) := by rw [List.getD_eq_getElem?_getD, List.getElem?_eq_getElem (show i < l.length by omega)]; rfl
    have hy : l[i + 1]? = some (l.getD (i + 1) 0) := by rw [List.getD_eq_getElem?_getD, List.getElem?_eq_getElem hi]; rfl
    have := nd_ne o.nd (show i ≠ i + 1 by omega) hx hy
    omega
  exact o.eq_of_pairwise (fun a b _ _ h1 h2 => by omega) pw List.pairwise_lt_range
theorem inv_range_aux : ∀ (l : List Nat), l.Pairwise (· < ·) → inv l = 0
  | [], _ => rfl
  | a :: r, h => by
    obtain ⟨h1, h2⟩ := List.pairwise_cons.mp h
    have e : less a r = [] := by
      unfold less
      rw [List.filter_eq_nil_iff]
      intro y hy
      have := h1 y hy
      simp; omega
    simp [inv, e, inv_range_aux r h2]
theorem inv_range (n : Nat) : inv (List.range n) = 0 := inv_range_aux _ List.pairwise_lt_range

/-! ### led -/
def ledBy (one : List Nat) (other : List Nat) : List Nat := other.map fun t => one.getD t 0
theorem ledBy_range (one : List Nat) : ledBy one (List.range one.length) = one := by
  unfold ledBy
  apply List.ext_getElem?
  intro i
  rw [List.getElem?_map]
  by_cases h : i < one.length
  · rw [List.getElem?_range h, List.getElem?_eq_getElem h]
    simp [List.getD_eq_getElem?_getD, List.getElem?_eq_getElem h]
  · rw [List.getElem?_eq_none (by simp; omega), List.getElem?_eq_none (by omega)]; rfl
theorem led_behind (one row : List Nat) : ledBy one (behind (List.range one.length) row) = behind one row := by
  have := behind_map (fun t => one.getD t 0) row (List.range one.length)
  rw [show (List.range one.length).map (fun t => one.getD t 0) = one from ledBy_range one] at this
  exact this.symm

/-! ### the opposite -/
def opp (l : List Nat) : List Nat := (List.range l.length).map fun t => l.idxOf t
def tau (t x : Nat) : Nat := if x = t then t + 1 else if x = t + 1 then t else x
theorem tau_tau (t x : Nat) : tau t (tau t x) = x := by unfold tau; split <;> (try split) <;> (try split) <;> omega
theorem opp_length (l : List Nat) : (opp l).length = l.length := by simp [opp]
theorem idx_of {l : List Nat} (h : l.Nodup) {i x : Nat} (hx : l[i]? = some x) : l.idxOf x = i := by
  obtain ⟨h1, e⟩ := List.getElem?_eq_some_iff.mp hx
  subst e
  exact h.idxOf_getElem i h1
theorem get_idx {l : List Nat} {x : Nat} (h : x ∈ l) : l[l.idxOf x]? = some x := by
  have h1 : l.idxOf x < l.length := List.idxOf_lt_length_of_mem h
  rw [List.getElem?_eq_getElem h1, List.getElem_idxOf]
theorem opp_get {l : List Nat} {t : Nat} (h : t < l.length) : (opp l)[t]? = some (l.idxOf t) := by
  unfold opp
  rw [List.getElem?_map, List.getElem?_range h]; rfl
theorem opp_nd {l : List Nat} (o : Ord l) : (opp l).Nodup := by
  unfold opp
  refine List.pairwise_map.mpr ((List.nodup_range (n := l.length)).imp_of_mem fun {a b} ha hb hab e => hab ?_)
  have h1 := get_idx (o.mem (List.mem_range.mp ha))
  have h2 := get_idx (o.mem (List.mem_range.mp hb))
  rw [e, h2] at h1
  exact (Option.some.inj h1).symm
theorem opp_sw {l : List Nat} (o : Ord l) {t : Nat} (ht : t + 1 < l.length) : opp (sw (opp l) t) = l.map (tau t) := by
  have ndS : (sw (opp l) t).Nodup := (sw_perm _ _).nodup_iff.mpr (opp_nd o)
  apply List.ext_getElem?
  intro j
  have hl : (opp (sw (opp l) t)).length = l.length := by rw [opp_length, sw_length, opp_length]
  by_cases hj : j < l.length
  · rw [opp_get (by rw [sw_length, opp_length]; exact hj), List.getElem?_map, List.getElem?_eq_getElem hj]
    show some _ = some _
    refine congrArg some (idx_of ndS ?_)
    have hk : l[j] < l.length := o.lt (List.getElem_mem hj)
    rw [sw_get _ _ _ (by rw [opp_length]; exact ht)]
    have self : ∀ x, x < l.length → x = l[j] → (opp l)[x]? = some j := fun x hx e => by
      rw [opp_get hx, e]
      exact congrArg some (idx_of o.nd (List.getElem?_eq_getElem hj))
    unfold tau
    by_cases h1 : l[j] = t
    · rw [if_pos h1, if_neg (by omega), if_pos rfl]
      exact self t (by omega) h1.symm
    · rw [if_neg h1]
      by_cases h2 : l[j] = t + 1
      · rw [if_pos h2, if_pos rfl]
        exact self (t + 1) ht h2.symm
      · rw [if_neg h2, if_neg h1, if_neg h2]
        exact self _ hk rfl
  · rw [List.getElem?_eq_none (by omega), List.getElem?_eq_none (by simp; omega)]
/-! ### the opposite as an order -/
theorem opp_ord {l : List Nat} (o : Ord l) : Ord (opp l) := by
  unfold Ord
  rw [opp_length]
  refine (List.perm_ext_iff_of_nodup (opp_nd o) List.nodup_range).mpr fun x => ?_
  rw [List.mem_range]
  constructor
  · intro h
    unfold opp at h
    obtain ⟨t, h1, h2⟩ := List.mem_map.mp h
    rw [← h2]
    exact List.idxOf_lt_length_of_mem (o.mem (List.mem_range.mp h1))
  · intro h
    unfold opp
    refine List.mem_map.mpr ⟨l[x], List.mem_range.mpr (o.lt (List.getElem_mem h)), idx_of o.nd (List.getElem?_eq_getElem h)⟩
end K2

set_option Elab.async false
set_option linter.all false
set_option maxRecDepth 100000
set_option maxHeartbeats 4000000
namespace K2
open PySem PySem.Spec PyProof.Rows L2

/-! ### the text by places -/
def topS (i : Nat) : Stmt := PySem.Challenge.pw_wiredorders_k02_whole_rows_of_exchanges.main.body.getD i (.Pass ⟨0, 0, 0, 0⟩)
/-- the defs: place and name -/
def defs : List (Nat × Str) := [(15, ("is_whole" : Str)), (16, ("fits_order" : Str)), (17, ("opposite_of" : Str)), (18, ("led_by" : Str)), (19, ("swapped_at" : Str)), (20, ("renamed_at" : Str)), (21, ("fits_row" : Str)), (22, ("behind_row" : Str)), (23, ("need_order" : Str)), (24, ("need_many" : Str)),
  (25, ("need_exchange" : Str)), (26, ("need_row" : Str)), (27, ("need_alike" : Str)), (28, ("led" : Str)), (29, ("swapped" : Str)), (30, ("renamed" : Str)), (31, ("is_row" : Str)), (32, ("order_behind" : Str)), (33, ("led_on" : Str)), (35, ("pairs_of" : Str)), (36, ("size_by" : Str)), (37, ("falls_of" : Str)),
  (38, ("least_row_of" : Str)), (39, ("is_least" : Str)), (40, ("size_of" : Str)), (41, ("is_least_row" : Str)), (42, ("some_row" : Str)), (44, ("_law_pot" : Str)), (45, ("_law_dip" : Str)), (46, ("_law_one" : Str)), (47, ("_law_order" : Str)), (48, ("_law_many" : Str)), (49, ("_law_swapped" : Str)), (50, ("_law_name" : Str)),
  (51, ("_law_words" : Str)), (52, ("_law_bad_orders" : Str)), (53, ("_law_steps" : Str)), (54, ("_law_right" : Str))]
/-- the built-ins that are used -/
def blts : List Str := ["isinstance", "int", "bool", "tuple", "len", "all", "set", "dict", "enumerate", "range", "sorted", "abs", "list", "zip"]
/-- a def as it stands behind the top -/
def DefAt (K : PySem.W.Frag) (mg : Str → Option Value) (i : Nat) (x : Str) : Prop := ∃ (f : Addr) (fd : FuncData), Fun K x x (topS i) f fd ∧ mg x = some (.ref f)
/-- an exception class of the program -/
structure ErrAt (K : PySem.W.Frag) (mg : Str → Option Value) (x : Str) (C : Addr) : Prop where
  g : mg x = some (.ref C)
  k : PySem.W.keepIn K (.ref C) = true
  sub : PySem.W.subIn K (.ref C) (.type "BaseException") = some true
  ty : PySem.W.typeIn K (.ref C) = some (.type "type")
  isC : PySem.W.isClsIn K C = true
  ex : PySem.W.excIn K C [.type "ValueError", .type "Exception", .type "BaseException", .type "object"] "ValueError.__new__" = true
/-- the errors that are raised here -/
def errs : List Str := ["InvalidOrder", "InvalidMany", "InvalidExchange", "InvalidRow", "Unlike"]
/-- what the top has left -/
structure Top (K : PySem.W.Frag) (mg : Str → Option Value) : Prop where
  d : ∀ p ∈ defs, DefAt K mg p.1 p.2
  b : ∀ x ∈ blts, mg x = none
  er : ∀ x ∈ errs, ∃ C, ErrAt K mg x C
  things : ∃ t, mg "THINGS" = some (.int 30 t)
  long : ∃ t, mg "LONG" = some (.int 450 t)
/-- a def that keeps a promise -/
def Cl (P : Program) (w : World) (K : PySem.W.Frag) (mg : Str → Option Value) (base : Heap) (CX : CXT) (k : Nat) (x : Str) (ps : List Str) (sp : Sp) : Prop :=
  ∃ (f : Addr) (fd : FuncData), FnOk P w K mg base CX k f fd ps sp ∧ mg x = some (.ref f) ∧ PySem.W.keepIn K (.ref f) = true ∧ Binds K fd ps []
section
variable {X : Cx} {CX : CXT} {k j : Nat} {x : Str} {ps : List Str} {sp : Sp} {E : XK} {p pos : Pos} {e : Expr} {es : List Expr} {t : TA}
/-- its call -/
theorem pe_cl (c : Cl X.prog X.w X.K X.mg X.base CX k x ps sp) (hr : Room j X.A) (hk : k ≤ j) (hx : Passes CX X E) (ha : PA X (e :: es) t) (hg : Gl X x := by rfl) (hdb : (x == ("__debug__" : Str)) = false := by decide)
    (he : starEach (e :: es) X.env = (false, eval e X.env) :: starEach es X.env := by rfl) (hpl : (backTo pos (starEach es X.env)).any (·.1) = false := by rfl) : PE X (.Call (.Name x p) (e :: es) [] pos) (tCall sp [] E t) := by
  obtain ⟨f, fd, F, g, kp, b⟩ := c
  exact pe_call F (hr.mono hk) hg g kp b .nil hx ha hdb he hpl
end
section
variable {P : Program} {w : World} {K : PySem.W.Frag} {mg : Str → Option Value} {base : Heap}
/-- a def by its body: one that lets nothing out -/
theorem cl0 {i : Nat} {x : Str} {N ps : List Str} {k : Nat} {sp : Sp} (D : DefAt K mg i x) (S : FnScope N ps (defScope (topS i))) (len : ∀ vs H Q E, sp vs H Q E → vs.length = ps.length)
    (hb : ∀ (kV doc pm : Value) (an : Option Addr) (cdv ct : Value) (us : List Value), us.length = ps.length → bindArgs (PySem.W.fnOf x x (defArgs (topS i)) (defBody (topS i)) (defScope (topS i)) .none kV doc pm an cdv ct) ⟨us, []⟩ = pure (ps.zip us))
    (body : ∀ (f : Addr) (cdv : Value) (A : Around) (outer : List Env) (s : Shared) (H : Hp) (vs : List V) (Q : VK) (E : XK), Room k (A.deeper (envOfC x (defScope (topS i)) s.heap.objs.size f cdv)) → sp vs H Q E →
      ∃ t, PSs (cxOf CX0 P w K mg base N x (defScope (topS i)) f cdv A outer s H E).nox (defBody (topS i)) t ∧ t { nx := fun _ H' => Q .non H', rt := Q } (start N vs) H) : Cl P w K mg base CX0 (k + 1) x ps sp := by
  obtain ⟨f, fd, F, g⟩ := D
  exact ⟨f, fd, F.ok S len (body f), g, F.kp, F.binds hb⟩
/-- .. one that may raise -/
theorem clN {i : Nat} {x : Str} {N ps : List Str} {k : Nat} {sp : Sp} (D : DefAt K mg i x) (S : FnScope N ps (defScope (topS i))) (len : ∀ vs H Q E, sp vs H Q E → vs.length = ps.length)
    (hb : ∀ (kV doc pm : Value) (an : Option Addr) (cdv ct : Value) (us : List Value), us.length = ps.length → bindArgs (PySem.W.fnOf x x (defArgs (topS i)) (defBody (topS i)) (defScope (topS i)) .none kV doc pm an cdv ct) ⟨us, []⟩ = pure (ps.zip us))
    (body : ∀ (f : Addr) (cdv : Value) (A : Around) (outer : List Env) (s : Shared) (H : Hp) (vs : List V) (Q : VK) (E : XK), Room k (A.deeper (envOfC x (defScope (topS i)) s.heap.objs.size f cdv)) → sp vs H Q E →
      ∃ t, PSs (cxOf (L2N.CX P w) P w K mg base N x (defScope (topS i)) f cdv A outer s H E) (defBody (topS i)) t ∧ t { nx := fun _ H' => Q .non H', rt := Q } (start N vs) H) : Cl P w K mg base (L2N.CX P w) (k + 1) x ps sp := by
  obtain ⟨f, fd, F, g⟩ := D
  refine ⟨f, fd, ?_, g, F.kp, F.binds hb⟩
  obtain ⟨oc, od, kV, doc, pm, an, cdv, ct, osl, e, lk, hcd⟩ := F.ex
  rw [e] at lk ⊢
  exact fn_of lk hcd S len fun A outer s H vs Q E hr hsp => body f cdv A outer s H vs Q E hr hsp
end
/-- nothing is let out -/
theorem passN {X : Cx} : Passes (L2N.CX X.prog X.w) X E0 := fun _ _ _ _ _ _ _ h => by
  obtain ⟨_, _, _, _, _, _, _, _, _, _, _, _, z⟩ := h
  exact z.elim

/-! ### values -/
/-- a list of natural numbers as values -/
def iV (l : List Nat) : List V := l.map fun (n : Nat) => V.int (n : Int)
theorem iV_length (l : List Nat) : (iV l).length = l.length := by unfold iV; exact List.length_map _
theorem iV_get (l : List Nat) (i : Nat) : (iV l)[i]? = l[i]?.map fun (n : Nat) => V.int (n : Int) := by unfold iV; exact List.getElem?_map
theorem iV_app (l r : List Nat) : iV (l ++ r) = iV l ++ iV r := by unfold iV; exact List.map_append
/-- what a value is -/
inductive Knd (K : PySem.W.Frag) (H : Hp) : V → Prop where
  | non : Knd K H .non
  | bl (b : Bool) : Knd K H (.bl b)
  | int (i : Int) : Knd K H (.int i)
  | str (x : Str) : Knd K H (.str x)
  | lst {a : Addr} {xs : List V} (h : SqL K H a xs) : Knd K H (.ref a)
  | tup {a : Addr} {xs : List V} (h : SqT K H a xs) : Knd K H (.ref a)
theorem seqT {K : PySem.W.Frag} {H H' : Hp} {a : Addr} {xs : List V} (e : Same H H') (h : SqT K H a xs) : SqT K H' a xs := by
  rcases h with (h | ⟨o, h⟩) | h
  · exact .inl (.inl (e _ _ h))
  · exact .inl (.inr ⟨o, e _ _ h⟩)
  · exact .inr h
theorem Knd.same {K : PySem.W.Frag} {H H' : Hp} {v : V} (e : Same H H') (h : Knd K H v) : Knd K H' v := by
  cases h with
  | non => exact .non
  | bl b => exact .bl b
  | int i => exact .int i
  | str x => exact .str x
  | lst h => exact .lst (e.seq h)
  | tup h => exact .tup (seqT e h)
theorem same_new {H : Hp} {p : Addr} {o : HO} (h : H p = none) : Same H (upd H p o) := fun b x e => by
  rw [upd_ne (ne_of_none e h)]
  exact e
theorem line_of {n : Nat} (h : n ≤ 16777216) : n ≤ sizeLine := by rw [sizeLine_eq]; exact h
end K2

namespace K2
open PySem PySem.Spec PyProof.Rows L2
set_option Elab.async false
set_option linter.all false
set_option maxRecDepth 100000
set_option maxHeartbeats 4000000
/-! ### is_whole -/
def whole (v : V) (lo hi : Int) : Bool := match v with
  | .int i => decide (lo ≤ i) && decide (i ≤ hi)
  | _ => false
theorem ty_lst {K : PySem.W.Frag} {H : Hp} {a : Addr} {xs : List V} (h : SqL K H a xs) : TyX K H (.ref a) (.type "list") := by
  rcases h with (h | ⟨o, h⟩) | ⟨o, its, n, hk, hc, _⟩
  · exact .base (.lst h)
  · exact .base (.frz h)
  · exact .kList hk hc
theorem ty_tup {K : PySem.W.Frag} {H : Hp} {a : Addr} {xs : List V} (h : SqT K H a xs) : TyX K H (.ref a) (.type "tuple") := by
  rcases h with (h | ⟨o, h⟩) | ⟨o, its, n, hk, hc, _⟩
  · exact .base (.tup h)
  · exact .fTuple h
  · exact .kTuple hk hc
def spWhole (K : PySem.W.Frag) : Sp := fun vs H Q _ => ∃ (v : V) (lo hi : Int), vs = [v, .int lo, .int hi] ∧ Knd K H v ∧ Q (.bl (whole v lo hi)) H
theorem sc15 : FnScope ["value", "low", "high"] ["value", "low", "high"] (defScope (topS 15)) := ⟨rfl, rfl, rfl, by decide +kernel, rfl, by decide +kernel, by decide +kernel⟩
section
variable {P : Program} {w : World} {K : PySem.W.Frag} {mg : Str → Option Value} {base : Heap}
theorem cl_whole (T : Top K mg) : Cl P w K mg base CX0 1 "is_whole" ["value", "low", "high"] (spWhole K) := by
  refine cl0 (T.d (15, _) (by decide)) sc15 (fun vs H Q E h => ?_) (fun _ _ _ _ _ _ us hl => match us, hl with | [_, _, _], _ => rfl) (fun f cdv A outer s H vs Q E hr h => ?_)
  · obtain ⟨v, lo, hi, rfl, _⟩ := h
    rfl
  · obtain ⟨v, lo, hi, rfl, kn, q⟩ := h
    refine ⟨_, pss_one (ps_ret (pe_and (pe_callB call_isi (by rfl) (T.b "isinstance" (by decide)) (by decide +kernel) (pa_cons (pv 0) (pa_cons (pe_bltn (v := .ty "int") (by rfl) (T.b "int" (by decide)) (by decide +kernel) rfl) pa_nil)))
      (pe_and (pe_not (pe_callB call_isi (by rfl) (T.b "isinstance" (by decide)) (by decide +kernel) (pa_cons (pv 0) (pa_cons (pe_bltn (v := .ty "bool") (by rfl) (T.b "bool" (by decide)) (by decide +kernel) rfl) pa_nil))))
        (pe_one (pe_chain op_le op_le (pv 1) (pv 0) (pv 2)))))), ?_⟩
    have e2 : ∀ (n c : String) (b : Bool), kitB n c = some b → PySem.W.kitOne K (.type n) (.type c) = some b := fun _ _ _ z => z
    cases kn with
    | non => exact ⟨_, rfl, _, .ty "int", .type "NoneType", _, false, rfl, .ty _, .base .non, e2 _ _ _ (by decide +kernel), _, rfl, iteF q⟩
    | str x => exact ⟨_, rfl, _, .ty "int", .type "str", _, false, rfl, .ty _, .base (.str x), e2 _ _ _ (by decide +kernel), _, rfl, iteF q⟩
    | lst hl => exact ⟨_, rfl, _, .ty "int", .type "list", _, false, rfl, .ty _, ty_lst hl, e2 _ _ _ (by decide +kernel), _, rfl, iteF q⟩
    | tup hl => exact ⟨_, rfl, _, .ty "int", .type "tuple", _, false, rfl, .ty _, ty_tup hl, e2 _ _ _ (by decide +kernel), _, rfl, iteF q⟩
    | bl x => exact ⟨_, rfl, _, .ty "int", .type "bool", _, true, rfl, .ty _, .base (.bl x), e2 _ _ _ (by decide +kernel), _, rfl, iteT ⟨_, rfl, _, .ty "bool", .type "bool", _, true, rfl, .ty _, .base (.bl x), e2 _ _ _ (by decide +kernel), _, rfl, _, rfl, iteF q⟩⟩
    | int i =>
      refine ⟨_, rfl, _, .ty "int", .type "int", _, true, rfl, .ty _, .base (.int i), e2 _ _ _ (by decide +kernel), _, rfl, iteT ⟨_, rfl, _, .ty "bool", .type "int", _, false, rfl, .ty _, .base (.int i), e2 _ _ _ (by decide +kernel), _, rfl, _, rfl, iteT ?_⟩⟩
      refine ⟨_, rfl, _, rfl, _, _, rfl, rfl, _, rfl, ?_⟩
      by_cases h1 : lo ≤ i
      · refine if_pos (decide_eq_true h1) ▸ ⟨_, rfl, _, _, rfl, rfl, ?_⟩
        have e : whole (.int i) lo hi = decide (i ≤ hi) := by simp [whole, h1]
        show Q (.bl (decide (i ≤ hi))) H
        rw [← e]
        exact q
      · have e : whole (.int i) lo hi = false := by simp [whole, h1]
        rw [e] at q
        rw [if_neg (by simp [h1])]
        exact q
end
end K2

namespace K2
open PySem PySem.Spec PyProof.Rows L2
open Evl (Ex)
set_option Elab.async false
set_option linter.all false
set_option maxRecDepth 100000
set_option maxHeartbeats 4000000

/-! ### what a value is told to be: true of it in a heap and in all that grow out of it -/
structure Is where
  p : V → Hp → Prop
  st : ∀ v H H', Ex H H' → p v H → p v H'
def isV (v : V) : Is := ⟨fun x _ => x = v, fun _ _ _ _ h => h⟩
def isT (K : PySem.W.Frag) (xs : List V) : Is := ⟨fun x H => ∃ a, x = .ref a ∧ SqT K H a xs, fun _ _ _ e ⟨a, h1, h2⟩ => ⟨a, h1, Evl.ex_t e h2⟩⟩
def isL (K : PySem.W.Frag) (xs : List V) : Is := ⟨fun x H => ∃ a, x = .ref a ∧ SqL K H a xs, fun _ _ _ e ⟨a, h1, h2⟩ => ⟨a, h1, Evl.ex_l e h2⟩⟩
/-- a tracked tuple, a tracked list -/
def isU (xs : List V) : Is := ⟨fun x H => ∃ a, x = .ref a ∧ H a = some (.tup xs), fun _ _ _ e ⟨a, h1, h2⟩ => ⟨a, h1, e _ _ h2⟩⟩
/-- all of a list -/
def AllIs : List Is → List V → Hp → Prop
  | [], [], _ => True
  | R :: Rs, v :: vs, H => R.p v H ∧ AllIs Rs vs H
  | _, _, _ => False
theorem AllIs.st {H H' : Hp} (e : Ex H H') : ∀ {Rs : List Is} {vs : List V}, AllIs Rs vs H → AllIs Rs vs H'
  | [], [], _ => trivial
  | R :: _, _ :: _, ⟨h1, h2⟩ => ⟨R.st _ _ _ e h1, AllIs.st e h2⟩
theorem AllIs.len {H : Hp} : ∀ {Rs : List Is} {vs : List V}, AllIs Rs vs H → vs.length = Rs.length
  | [], [], _ => rfl
  | _ :: _, _ :: _, ⟨_, h2⟩ => congrArg (· + 1) h2.len
theorem AllIs.snoc {H : Hp} {R : Is} {v : V} : ∀ {Rs : List Is} {vs : List V}, AllIs Rs vs H → R.p v H → AllIs (Rs ++ [R]) (vs ++ [v]) H
  | [], [], _, h => ⟨h, trivial⟩
  | _ :: _, _ :: _, ⟨h1, h2⟩, h => ⟨h1, h2.snoc h⟩
theorem AllIs.get {H : Hp} : ∀ {Rs : List Is} {vs : List V} {i : Nat} {v : V}, AllIs Rs vs H → vs[i]? = some v → ∃ R, Rs[i]? = some R ∧ R.p v H
  | [], [], _, _, _, h => by simp at h
  | R :: _, v :: _, 0, x, ⟨h1, _⟩, h => by simp at h; subst h; exact ⟨R, rfl, h1⟩
  | _ :: _, _ :: _, i + 1, x, ⟨_, h2⟩, h => by
    obtain ⟨R, a, b⟩ := h2.get (i := i) (by simpa using h)
    exact ⟨R, by simpa using a, b⟩
/-- a list whose items are told -/
def isLs (K : PySem.W.Frag) (Rs : List Is) : Is := ⟨fun x H => ∃ a vs, x = .ref a ∧ H a = some (.lst vs) ∧ AllIs Rs vs H, fun _ _ _ e ⟨a, vs, h1, h2, h3⟩ => ⟨a, vs, h1, e _ _ h2, h3.st e⟩⟩

/-! ### readings that evaluate -/
def EvG (te : TE) (σ : L2.St) (H : Hp) (R : Is) : Prop := ∀ H1, Ex H H1 → ∀ Q : VK, (∀ v H2, Ex H1 H2 → R.p v H2 → Q v H2) → te σ H1 Q
def EvB (tt : TT) (σ : L2.St) (H : Hp) (b : Bool) : Prop := ∀ H1, Ex H H1 → ∀ Q : Bool → Hp → Prop, (∀ H2, Ex H1 H2 → Q b H2) → tt σ H1 Q
def EvAs (ta : TA) (σ : L2.St) (H : Hp) (Rs : List Is) : Prop := ∀ H1, Ex H H1 → ∀ Q : List V → Hp → Prop, (∀ vs H2, Ex H1 H2 → AllIs Rs vs H2 → Q vs H2) → ta σ H1 Q
def EvO (to : TO) (σ : L2.St) (H : Hp) (o : Option Int) : Prop := ∀ H1, Ex H H1 → ∀ Q : Option Int → Hp → Prop, (∀ H2, Ex H1 H2 → Q o H2) → to σ H1 Q
/-- an operation by values -/
def OpG (r : R2) (R1 R2 : Is) (H : Hp) (R : Is) : Prop := ∀ H1, Ex H H1 → ∀ x y, R1.p x H1 → R2.p y H1 → ∀ Q : VK, (∀ v H2, Ex H1 H2 → R.p v H2 → Q v H2) → r x y H1 Q
def CbG (r : List V → Hp → VK → Prop) (Rs : List Is) (H : Hp) (R : Is) : Prop := ∀ H1, Ex H H1 → ∀ vs, AllIs Rs vs H1 → ∀ Q : VK, (∀ v H2, Ex H1 H2 → R.p v H2 → Q v H2) → r vs H1 Q
def SpG (sp : Sp) (Rs : List Is) (H : Hp) (R : Is) : Prop := ∀ H1, Ex H H1 → ∀ vs, AllIs Rs vs H1 → ∀ (Q : VK) (E : XK), (∀ v H2, Ex H1 H2 → R.p v H2 → Q v H2) → sp vs H1 Q E
section
variable {K : PySem.W.Frag} {σ : L2.St} {H H' : Hp} {ta tb te tc : TE} {t u : TT} {x y z v : V} {r r' : R2} {R R1 R2 R3 : Is}
theorem EvG.mono (e : Ex H H') (h : EvG te σ H R) : EvG te σ H' R := fun H1 a Q q => h H1 (e.trans a) Q q
theorem EvB.mono {b : Bool} (e : Ex H H') (h : EvB t σ H b) : EvB t σ H' b := fun H1 a Q q => h H1 (e.trans a) Q q
theorem EvG.imp (h : EvG te σ H R1) (k : ∀ v H1, Ex H H1 → R1.p v H1 → R.p v H1) : EvG te σ H R := fun H1 e Q q => h H1 e Q fun v H2 e2 hv => q v H2 e2 (k v H2 (e.trans e2) hv)
theorem eg_var {i : Nat} (h : σ[i]? = some (some v)) (hR : R.p v H) : EvG (tVar i) σ H R := fun H1 e _ q => ⟨v, h, q v H1 (Ex.refl H1) (R.st _ _ _ e hR)⟩
theorem eg_v {i : Nat} (h : σ[i]? = some (some v)) : EvG (tVar i) σ H (isV v) := eg_var h rfl
theorem eg_vT {i : Nat} {a : Addr} {xs : List V} (h : σ[i]? = some (some (.ref a))) (hs : SqT K H a xs) : EvG (tVar i) σ H (isT K xs) := eg_var h ⟨a, rfl, hs⟩
theorem eg_vL {i : Nat} {a : Addr} {xs : List V} (h : σ[i]? = some (some (.ref a))) (hs : SqL K H a xs) : EvG (tVar i) σ H (isL K xs) := eg_var h ⟨a, rfl, hs⟩
theorem eg_c : EvG (tC v) σ H (isV v) := fun H1 _ _ q => q v H1 (Ex.refl H1) rfl
theorem eg_op (ha : EvG ta σ H R1) (hb : EvG tb σ H R2) (hr : OpG r R1 R2 H R) : EvG (tOp r ta tb) σ H R := fun H1 e Q q =>
  ha H1 e _ fun x H2 e2 hx => hb H2 (e.trans e2) _ fun y H3 e3 hy => hr H3 ((e.trans e2).trans e3) x y (R1.st _ _ _ e3 hx) hy _ fun v H4 e4 hv => q v H4 ((e2.trans e3).trans e4) hv
theorem eg_chain {b : Bool} {c : Bool} (ha : EvG ta σ H R1) (hb : EvG tb σ H R2) (hr : OpG r R1 R2 H (isV (.bl b))) (hc : EvG tc σ H R3) (hr' : OpG r' R2 R3 H (isV (.bl c))) : EvG (tChain r r' ta tb tc) σ H (isV (.bl (b && c))) := fun H1 e Q q =>
  ha H1 e _ fun x H2 e2 hx => hb H2 (e.trans e2) _ fun y H3 e3 hy => hr H3 ((e.trans e2).trans e3) x y (R1.st _ _ _ e3 hx) hy _ fun v H4 e4 hv => ⟨b, hv, by
    cases b with
    | true => exact hc H4 (((e.trans e2).trans e3).trans e4) _ fun z H5 e5 hz => hr' H5 ((((e.trans e2).trans e3).trans e4).trans e5) y z (R2.st _ _ _ (e4.trans e5) hy) hz _ fun v' H6 e6 hv' => q v' H6 ((((e2.trans e3).trans e4).trans e5).trans e6) hv'
    | false => exact q _ H4 ((e2.trans e3).trans e4) rfl⟩
theorem og_I0 {g : Int → Int → V} {i j : Int} : OpG (rI0 g) (isV (.int i)) (isV (.int j)) H (isV (g i j)) := fun H1 _ x y hx hy Q q => ⟨i, j, hx, hy, q _ H1 (Ex.refl H1) rfl⟩
theorem og_I {C : Int → Int → Prop} {g : Int → Int → V} {i j : Int} (hc : C i j) : OpG (rI C g) (isV (.int i)) (isV (.int j)) H (isV (g i j)) := fun H1 _ x y hx hy Q q => ⟨i, j, hx, hy, hc, q _ H1 (Ex.refl H1) rfl⟩
theorem og_ixT {xs : List V} {i : Int} (ha : atI xs i = some v) : OpG (rIxT K) (isT K xs) (isV (.int i)) H (isV v) := fun H1 _ x y ⟨a, hx, hs⟩ hy Q q => ⟨a, xs, i, v, hx, hy, hs, ha, q _ H1 (Ex.refl H1) rfl⟩
theorem og_ixL {xs : List V} {i : Int} (ha : atI xs i = some v) : OpG (rIxL K) (isL K xs) (isV (.int i)) H (isV v) := fun H1 _ x y ⟨a, hx, hs⟩ hy Q q => ⟨a, xs, i, v, hx, hy, hs, ha, q _ H1 (Ex.refl H1) rfl⟩
theorem og_eq (h : scal x y = true) : OpG rEq (isV x) (isV y) H (isV (.bl (decide (x = y)))) := fun H1 _ a b ha hb Q q => by
  cases (show a = x from ha)
  cases (show b = y from hb)
  exact ⟨h, q _ H1 (Ex.refl H1) rfl⟩
theorem og_ne (h : scal x y = true) : OpG rNe (isV x) (isV y) H (isV (.bl (!decide (x = y)))) := fun H1 _ a b ha hb Q q => by
  cases (show a = x from ha)
  cases (show b = y from hb)
  exact ⟨h, q _ H1 (Ex.refl H1) rfl⟩
/-- a new tuple told as such -/
theorem new_tup {xs : List V} {p : Addr} (hp : H p = none) : Ex H (upd H p (.tup xs)) ∧ (isT K xs).p (.ref p) (upd H p (.tup xs)) := ⟨Ex.new hp, p, rfl, .inl (.inl upd_same)⟩
theorem og_cat {xs ys : List V} (hl : xs.length + ys.length ≤ 100000) : OpG (rCatA K) (isT K xs) (isT K ys) H (isT K (xs ++ ys)) := fun H1 _ x y ⟨a, hx, hs⟩ ⟨b, hy, hs'⟩ Q q =>
  ⟨a, b, xs, ys, hx, hy, hs, hs', Evl.sz_of hl, fun e => q _ H1 (Ex.refl H1) ⟨b, rfl, by rw [e]; exact hs'⟩, fun _ e => q _ H1 (Ex.refl H1) ⟨a, rfl, by rw [e, List.append_nil]; exact hs⟩,
    fun _ _ p hp => q _ _ (Ex.new hp) ⟨p, rfl, .inl (.inl upd_same)⟩⟩
theorem eb_B {b : Bool} (h : EvG te σ H (isV (.bl b))) : EvB (tB te) σ H b := fun H1 e _ q => h H1 e _ fun v H2 e2 hv => ⟨b, hv, q H2 e2⟩
theorem eb_test {b : Bool} (h : EvG te σ H (isV (.bl b))) : EvB (tTest te) σ H b := fun H1 e _ q => h H1 e _ fun v H2 e2 hv => ⟨b, hv, q H2 e2⟩
theorem eb_and {a b : Bool} (h1 : EvB t σ H a) (h2 : a = true → EvB u σ H b) : EvB (tAnd t u) σ H (a && b) := fun H1 e Q q => h1 H1 e _ fun H2 e2 => by
  cases a with
  | true => exact h2 rfl H2 (e.trans e2) _ fun H3 e3 => q H3 (e2.trans e3)
  | false => exact q H2 e2
theorem eb_or {a b : Bool} (h1 : EvB t σ H a) (h2 : a = false → EvB u σ H b) : EvB (tOr t u) σ H (a || b) := fun H1 e Q q => h1 H1 e _ fun H2 e2 => by
  cases a with
  | true => exact q H2 e2
  | false => exact h2 rfl H2 (e.trans e2) _ fun H3 e3 => q H3 (e2.trans e3)
theorem eb_not {a : Bool} (h1 : EvB t σ H a) : EvB (tNot t) σ H (!a) := fun H1 e _ q => h1 H1 e _ fun H2 e2 => q H2 e2
theorem eb_is {a b : Bool} (h : EvB t σ H a) (e : a = b) : EvB t σ H b := by
  rw [← e]
  exact h
theorem eg_is {w : V} (h : EvG te σ H (isV v)) (e : v = w) : EvG te σ H (isV w) := by
  rw [← e]
  exact h
theorem eg_isT {xs ys : List V} (h : EvG te σ H (isT K xs)) (e : xs = ys) : EvG te σ H (isT K ys) := by
  rw [← e]
  exact h
theorem eg_andV {a b : Bool} (h1 : EvG ta σ H (isV (.bl a))) (h2 : a = true → EvG tb σ H (isV (.bl b))) : EvG (tAndV ta tb) σ H (isV (.bl (a && b))) := fun H1 e Q q => h1 H1 e _ fun v H2 e2 hv => ⟨a, hv, by
  cases a with
  | true => exact h2 rfl H2 (e.trans e2) _ fun v H3 e3 hv => q v H3 (e2.trans e3) hv
  | false => exact q _ H2 e2 rfl⟩
theorem eg_if {b : Bool} (h : EvB t σ H b) (h1 : b = true → EvG ta σ H R) (h2 : b = false → EvG tb σ H R) : EvG (tIf t ta tb) σ H R := fun H1 e Q q => h H1 e _ fun H2 e2 => by
  cases b with
  | true => exact h1 rfl H2 (e.trans e2) _ fun v H3 e3 hv => q v H3 (e2.trans e3) hv
  | false => exact h2 rfl H2 (e.trans e2) _ fun v H3 e3 hv => q v H3 (e2.trans e3) hv
theorem as_nil : EvAs tNil σ H [] := fun H1 _ _ q => q [] H1 (Ex.refl H1) trivial
theorem as_cons {tr : TA} {Rs : List Is} (h : EvG te σ H R) (hr : EvAs tr σ H Rs) : EvAs (tCons te tr) σ H (R :: Rs) := fun H1 e _ q =>
  h H1 e _ fun v H2 e2 hv => hr H2 (e.trans e2) _ fun vs H3 e3 hvs => q (v :: vs) H3 (e2.trans e3) ⟨R.st _ _ _ e3 hv, hvs⟩
theorem eg_cb {rr : List V → Hp → VK → Prop} {tA : TA} {Rs : List Is} (h : EvAs tA σ H Rs) (hr : CbG rr Rs H R) : EvG (tCB rr tA) σ H R := fun H1 e Q q =>
  h H1 e _ fun vs H2 e2 hvs => hr H2 (e.trans e2) vs hvs _ fun v H3 e3 hv => q v H3 (e2.trans e3) hv
theorem eg_call {sp : Sp} {E : XK} {tA : TA} {Rs : List Is} (h : EvAs tA σ H Rs) (hs : SpG sp Rs H R) : EvG (tCall sp [] E tA) σ H R := fun H1 e Q q =>
  h H1 e _ fun vs H2 e2 hvs => by
    show sp (vs ++ []) H2 Q E
    rw [List.append_nil]
    exact hs H2 (e.trans e2) vs hvs _ _ fun v H3 e3 hv => q v H3 (e2.trans e3) hv
/-- one, two, three arguments -/
theorem all1 {H : Hp} {vs : List V} (h : AllIs [R] vs H) : ∃ a, vs = [a] ∧ R.p a H := by
  match vs, h with
  | [a], h => exact ⟨a, rfl, h.1⟩
theorem all2 {H : Hp} {vs : List V} (h : AllIs [R1, R2] vs H) : ∃ a b, vs = [a, b] ∧ R1.p a H ∧ R2.p b H := by
  match vs, h with
  | [a, b], h => exact ⟨a, b, rfl, h.1, h.2.1⟩
theorem all3 {H : Hp} {vs : List V} (h : AllIs [R1, R2, R3] vs H) : ∃ a b c, vs = [a, b, c] ∧ R1.p a H ∧ R2.p b H ∧ R3.p c H := by
  match vs, h with
  | [a, b, c], h => exact ⟨a, b, c, rfl, h.1, h.2.1, h.2.2.1⟩
theorem eu_tup {tA : TA} {Rs : List Is} (h : EvAs tA σ H Rs) (hl : Rs.length ≤ 100000) : EvG (tTup tA) σ H ⟨fun x H => ∃ a vs, x = .ref a ∧ H a = some (.tup vs) ∧ AllIs Rs vs H, fun _ _ _ e ⟨a, vs, h1, h2, h3⟩ => ⟨a, vs, h1, e _ _ h2, h3.st e⟩⟩ := fun H1 e _ q =>
  h H1 e _ fun vs H2 e2 hvs => ⟨by rw [hvs.len]; exact Evl.sz_of hl, fun p hp => q _ _ (e2.trans (Ex.new hp)) ⟨p, vs, rfl, upd_same, hvs.st (Ex.new hp)⟩⟩
theorem allV {H : Hp} : ∀ {xs vs : List V}, AllIs (xs.map isV) vs H → vs = xs
  | [], [], _ => rfl
  | x :: xs, v :: vs, ⟨h1, h2⟩ => by rw [show v = x from h1, allV h2]
theorem eg_tup {tA : TA} {xs : List V} (h : EvAs tA σ H (xs.map isV)) (hl : xs.length ≤ 100000) : EvG (tTup tA) σ H (isT K xs) := (eu_tup h (by rw [List.length_map]; exact hl)).imp fun v H1 _ ⟨a, vs, h1, h2, h3⟩ => ⟨a, h1, .inl (.inl (by rw [← allV h3]; exact h2))⟩
theorem eg_lst {tA : TA} {Rs : List Is} (h : EvAs tA σ H Rs) (hl : Rs.length ≤ 100000) : EvG (tLst tA) σ H (isLs K Rs) := fun H1 e _ q =>
  h H1 e _ fun vs H2 e2 hvs => ⟨by rw [hvs.len]; exact Evl.sz_of hl, fun p hp => q _ _ (e2.trans (Ex.new hp)) ⟨p, vs, rfl, upd_same, hvs.st (Ex.new hp)⟩⟩
theorem eo_none : EvO tNoPart σ H none := fun H1 _ _ q => q H1 (Ex.refl H1)
theorem eo_some {i : Int} (h : EvG te σ H (isV (.int i))) : EvO (tPart te) σ H (some i) := fun H1 e _ q => h H1 e _ fun v H2 e2 hv => ⟨i, hv, q H2 e2⟩
theorem eg_slT {tl th : TO} {xs : List V} {lo hi : Option Int} (h : EvG te σ H (isT K xs)) (h1 : EvO tl σ H lo) (h2 : EvO th σ H hi) : EvG (tSl (rSlA K) te tl th) σ H (isT K (cutV xs lo hi)) := fun H1 e _ q =>
  h H1 e _ fun v H2 e2 ⟨a, hv, hs⟩ => h1 H2 (e.trans e2) _ fun H3 e3 => h2 H3 ((e.trans e2).trans e3) _ fun H4 e4 =>
    ⟨a, xs, hv, Evl.ex_t (e3.trans e4) hs, fun w => q _ H4 ((e2.trans e3).trans e4) ⟨a, rfl, by
      have ec : cutV xs lo hi = xs := by
        unfold cutV
        rw [w.1, w.2]
        simp
      rw [ec]
      exact Evl.ex_t (e3.trans e4) hs⟩, fun _ p hp => q _ _ (((e2.trans e3).trans e4).trans (Ex.new hp)) ⟨p, rfl, .inl (.inl upd_same)⟩⟩
theorem cg_lenT {xs : List V} : CbG (fun xs H Q => ∃ p ys, xs = [.ref p] ∧ (SqL K H p ys ∨ SqT K H p ys) ∧ Q (.int ys.length) H) [isT K xs] H (isV (.int (xs.length : Nat))) := fun H1 _ vs hvs Q q => by
  obtain ⟨a, rfl, b, rfl, hs⟩ := all1 hvs
  exact ⟨b, xs, rfl, .inr hs, q _ H1 (Ex.refl H1) rfl⟩
theorem cg_lenL {xs : List V} : CbG (fun xs H Q => ∃ p ys, xs = [.ref p] ∧ (SqL K H p ys ∨ SqT K H p ys) ∧ Q (.int ys.length) H) [isL K xs] H (isV (.int (xs.length : Nat))) := fun H1 _ vs hvs Q q => by
  obtain ⟨a, rfl, b, rfl, hs⟩ := all1 hvs
  exact ⟨b, xs, rfl, .inl hs, q _ H1 (Ex.refl H1) rfl⟩
/-- tuple(list) -/
theorem eg_tupleOf {xs : List V} (h : EvG te σ H (isL K xs)) : EvG (tThen te (kTup K)) σ H (isU xs) := fun H1 e Q q => h H1 e _ fun v H2 e2 ⟨a, hv, hs⟩ =>
  .inl ⟨a, xs, hv, hs, fun p hp => q _ _ (e2.trans (Ex.new hp)) ⟨p, rfl, upd_same⟩⟩
theorem isU_T {xs : List V} {v : V} (h : (isU xs).p v H) : (isT K xs).p v H := let ⟨a, h1, h2⟩ := h; ⟨a, h1, .inl (.inl h2)⟩
theorem EvG.T {xs : List V} (h : EvG te σ H (isU xs)) : EvG te σ H (isT K xs) := h.imp fun _ _ _ hv => isU_T hv

/-- the rules' readings with the written part named (in a comprehension's block) -/
def rLenK (K : PySem.W.Frag) : List V → Hp → VK → Prop := fun xs H Q => ∃ p ys, xs = [.ref p] ∧ (SqL K H p ys ∨ SqT K H p ys) ∧ Q (.int ys.length) H
theorem call_lenK (K : PySem.W.Frag) {X : Cx} (hK : X.K = K := by rfl) : CallR X (.builtin "len") (rLenK K) := by
  subst hK
  exact call_len_seq
theorem ix_tupK (K : PySem.W.Frag) {X : Cx} (hK : X.K = K := by rfl) : IxR X (rIxT K) := by
  subst hK
  exact ix_tup
theorem ix_lstK (K : PySem.W.Frag) {X : Cx} (hK : X.K = K := by rfl) : IxR X (rIxL K) := by
  subst hK
  exact ix_list
theorem cgk_lenT {xs : List V} : CbG (rLenK K) [isT K xs] H (isV (.int (xs.length : Nat))) := cg_lenT
theorem cgk_lenL {xs : List V} : CbG (rLenK K) [isL K xs] H (isV (.int (xs.length : Nat))) := cg_lenL

/-! ### statements -/
variable {D : Ends} {tu tw tz : TS} {g : TG}
theorem s_ret (h : EvG te σ H R) (k : ∀ v H1, Ex H H1 → R.p v H1 → D.rt v H1) : tRet te D σ H := h H (Ex.refl H) _ k
theorem s_asg {i : Nat} (h : EvG te σ H R) (k : ∀ v H1, Ex H H1 → R.p v H1 → D.nx (σ.set i (some v)) H1) : tAsg te (gName i) D σ H := h H (Ex.refl H) _ k
theorem q_asg {i : Nat} (h : EvG te σ H R) (k : ∀ v H1, Ex H H1 → R.p v H1 → tz D (σ.set i (some v)) H1) : tSeq (tAsg te (gName i)) tz D σ H := s_asg (D := { D with nx := tz D }) h k
theorem s_if {b : Bool} (h : EvB t σ H b) (h1 : b = true → ∀ H1, Ex H H1 → tu D σ H1) (h2 : b = false → ∀ H1, Ex H H1 → tw D σ H1) : tIfS t tu tw D σ H := h H (Ex.refl H) _ fun H1 e => by
  cases b with
  | true => exact h1 rfl H1 e
  | false => exact h2 rfl H1 e
theorem q_if {b : Bool} (h : EvB t σ H b) (h1 : b = true → ∀ H1, Ex H H1 → tu { D with nx := tz D } σ H1) (h2 : b = false → ∀ H1, Ex H H1 → tw { D with nx := tz D } σ H1) : tSeq (tIfS t tu tw) tz D σ H := s_if (D := { D with nx := tz D }) h h1 h2
theorem q_when {b : Bool} (h : EvB t σ H b) (h1 : b = true → ∀ H1, Ex H H1 → tu { D with nx := tz D } σ H1) (h2 : b = false → ∀ H1, Ex H H1 → tz D σ H1) : tSeq (tIfS t tu tNext) tz D σ H := s_if (D := { D with nx := tz D }) h h1 h2
theorem s_while (W : Nat → L2.St → Hp → Prop) (m0 : Nat) (h0 : W m0 σ H)
    (hs : ∀ m σ' H', W m σ' H' → ∃ b, EvB t σ' H' b ∧ (b = true → ∀ H1, Ex H' H1 → ∃ N : L2.St → Hp → Prop, (∀ σ2 H2, N σ2 H2 → ∃ m', m' < m ∧ W m' σ2 H2) ∧ tu { D with nx := N, ct := N, bk := D.nx } σ' H1) ∧ (b = false → ∀ H1, Ex H' H1 → D.nx σ' H1)) : tWhile t tu D σ H :=
  ⟨W, ⟨m0, h0⟩, fun m σ' H' hw => by
    obtain ⟨b, hb, h1, h2⟩ := hs m σ' H' hw
    refine hb H' (Ex.refl H') _ fun H1 e => ?_
    cases b with
    | true => exact h1 rfl H1 e
    | false => exact h2 rfl H1 e⟩
/-- a for over a tuple -/
theorem s_forT {xs : List V} {tl : TE} (h : EvG tl σ H (isT K xs)) (k : ∀ a H1, Ex H H1 → SqT K H1 a xs → ∃ Pv : Nat → L2.St → Hp → Prop, Pv 0 σ H1 ∧ (∀ i σ' H', Pv i σ' H' → SqT K H' a xs) ∧
    (∀ i x σ' H', xs[i]? = some x → Pv i σ' H' → g x σ' H' fun σ2 H2 => tu { D with nx := Pv (i + 1), ct := Pv (i + 1), bk := D.nx } σ2 H2) ∧ ∀ σ' H', Pv xs.length σ' H' → D.nx σ' H') : tFor (iTup K tl) g tu D σ H :=
  h H (Ex.refl H) _ fun v H1 e ⟨a, hv, hq⟩ => by
    obtain ⟨Pv, h0, h1, h2, h3⟩ := k a H1 e hq
    exact ⟨a, hv, ⟨xs, hq⟩, for_tup (xs := xs) Pv h0 (fun i σ' H' _ p => h1 i σ' H' p) h2 h3⟩
theorem s_forL {xs : List V} {tl : TE} (h : EvG tl σ H (isL K xs)) (k : ∀ a H1, Ex H H1 → SqL K H1 a xs → ∃ Pv : Nat → L2.St → Hp → Prop, Pv 0 σ H1 ∧ (∀ i σ' H', Pv i σ' H' → SqL K H' a xs) ∧
    (∀ i x σ' H', xs[i]? = some x → Pv i σ' H' → g x σ' H' fun σ2 H2 => tu { D with nx := Pv (i + 1), ct := Pv (i + 1), bk := D.nx } σ2 H2) ∧ ∀ σ' H', Pv xs.length σ' H' → D.nx σ' H') : tFor (iList K tl) g tu D σ H :=
  h H (Ex.refl H) _ fun v H1 e ⟨a, hv, hq⟩ => by
    obtain ⟨Pv, h0, h1, h2, h3⟩ := k a H1 e hq
    exact ⟨a, hv, ⟨xs, hq⟩, for_list (xs := xs) Pv h0 (fun i σ' H' _ p => h1 i σ' H' p) h2 h3⟩
end
/-! ### comprehensions -/
/-- what a list's growing does not touch -/
def Firm (R : Is) : Prop := ∀ v H d xs ys, H d = some (.lst xs) → R.p v H → R.p v (upd H d (.lst ys))
theorem firm_V {v : V} : Firm (isV v) := fun _ _ _ _ _ _ h => h
theorem sqT_lst {K : PySem.W.Frag} {H : Hp} {a d : Addr} {xs vs ys : List V} (hd : H d = some (.lst xs)) (h : SqT K H a vs) : SqT K (upd H d (.lst ys)) a vs := by
  rcases h with (h | ⟨o, h⟩) | h
  · exact .inl (.inl (by rw [upd_ne (ne_of h hd (fun z => by cases z))]; exact h))
  · exact .inl (.inr ⟨o, by rw [upd_ne (ne_of h hd (fun z => by cases z))]; exact h⟩)
  · exact .inr h
theorem firm_T {K : PySem.W.Frag} {xs : List V} : Firm (isT K xs) := fun _ _ _ _ _ hd ⟨a, h1, h2⟩ => ⟨a, h1, sqT_lst hd h2⟩
theorem firm_U {xs : List V} : Firm (isU xs) := fun _ H d _ _ hd ⟨a, h1, h2⟩ => ⟨a, h1, by rw [upd_ne (ne_of h2 hd (fun z => by cases z))]; exact h2⟩
theorem firm_all {H : Hp} {d : Addr} {xs ys : List V} (hd : H d = some (.lst xs)) : ∀ {Rs : List Is} {vs : List V}, (∀ R ∈ Rs, Firm R) → AllIs Rs vs H → AllIs Rs vs (upd H d (.lst ys))
  | [], [], _, _ => trivial
  | R :: _, _ :: _, hf, ⟨h1, h2⟩ => ⟨hf R List.mem_cons_self _ _ _ _ _ hd h1, firm_all hd (fun R hR => hf R (List.mem_cons_of_mem _ hR)) h2⟩
def kept (n : Nat) (f : Nat → Bool) (Rv : Nat → Is) : List Is := ((List.range n).filter f).map Rv
theorem kept_yes {n : Nat} {f : Nat → Bool} {Rv : Nat → Is} (h : f n = true) : kept (n + 1) f Rv = kept n f Rv ++ [Rv n] := by
  unfold kept
  rw [List.range_succ, List.filter_append, List.map_append, List.filter_cons, if_pos h] <;> rfl
theorem kept_no {n : Nat} {f : Nat → Bool} {Rv : Nat → Is} (h : f n = false) : kept (n + 1) f Rv = kept n f Rv := by
  unfold kept
  rw [List.range_succ, List.filter_append, List.map_append, List.filter_cons, if_neg (by rw [h]; decide)]
  show _ ++ [] = _
  rw [List.append_nil]
theorem kept_len (n : Nat) (f : Nat → Bool) (Rv : Nat → Is) : (kept n f Rv).length ≤ n := by
  unfold kept
  rw [List.length_map]
  have h := List.length_filter_le f (List.range n)
  rw [List.length_range] at h
  exact h
def Cwd (H : Hp) (f : Nat → Bool) (Rv : Nat → Is) (d : Addr) (i : Nat) (H' : Hp) : Prop := H d = none ∧ Ex H H' ∧ ∃ acc, H' d = some (.lst acc) ∧ AllIs (kept i f Rv) acc H'
section
variable {K : PySem.W.Frag} {σ σ2 : L2.St} {H H' : Hp} {te tl : TE} {t : TT} {f : Nat → Bool} {Rv : Nat → Is} {d : Addr} {i j : Nat}
theorem cwd_turn (firm : ∀ k, Firm (Rv k)) (p : Cwd H f Rv d i H') (hi : i < 50000) (ht : EvB t σ2 H (f i)) (he : f i = true → EvG te σ2 H (Rv i)) :
    t σ2 H' fun b H3 => if b = true then te σ2 H3 fun y H4 => ∃ acc, H4 d = some (.lst acc) ∧ acc.length < sizeLine ∧ Cwd H f Rv d (i + 1) (upd H4 d (.lst (acc ++ [y]))) else Cwd H f Rv d (i + 1) H3 := by
  obtain ⟨p1, p2, acc, p3, p4⟩ := p
  refine ht H' p2 _ fun H3 e3 => ?_
  cases hf : f i with
  | true =>
    show te σ2 H3 fun y H4 => ∃ acc, H4 d = some (.lst acc) ∧ acc.length < sizeLine ∧ Cwd H f Rv d (i + 1) (upd H4 d (.lst (acc ++ [y])))
    refine he hf H3 (p2.trans e3) _ fun y H4 e4 hy => ?_
    have h4 : H4 d = some (.lst acc) := e4 d _ (e3 d _ p3)
    refine ⟨acc, h4, Evl.sz_lt (by have := kept_len i f Rv; have := p4.len; omega), p1, Ex.mut ((p2.trans e3).trans e4) p1, acc ++ [y], upd_same, ?_⟩
    rw [kept_yes hf]
    refine firm_all h4 (fun R hR => ?_) (AllIs.snoc (p4.st (e3.trans e4)) hy)
    rcases List.mem_append.mp hR with h | h
    · obtain ⟨k, _, e⟩ := List.mem_map.mp h
      rw [← e]
      exact firm k
    · rw [List.mem_singleton.mp h]
      exact firm i
  | false =>
    show Cwd H f Rv d (i + 1) H3
    refine ⟨p1, p2.trans e3, acc, e3 d _ p3, ?_⟩
    rw [kept_no hf]
    exact p4.st e3
theorem cwd_start (hd : H d = none) : Cwd H f Rv d 0 (upd H d (.lst [])) := ⟨hd, Ex.new hd, [], upd_same, trivial⟩
theorem eg_lcT {vs : List Nat} {xs : List V} (f : Nat → Bool) (Rv : Nat → Is) (firm : ∀ k, Firm (Rv k)) (h : EvG tl σ H (isT K xs)) (hz : xs.length ≤ 40000) (hw : ∀ x, wipe ((wipe σ vs).set j (some x)) vs = wipe σ vs)
    (ht : ∀ (i : Nat) (x : V) H1, Ex H H1 → xs[i]? = some x → EvB t ((wipe σ vs).set j (some x)) H1 (f i)) (he : ∀ (i : Nat) (x : V) H1, Ex H H1 → xs[i]? = some x → f i = true → EvG te ((wipe σ vs).set j (some x)) H1 (Rv i)) :
    EvG (tLc (iTup K tl) (gName j) t te vs) σ H (isLs K (kept xs.length f Rv)) := fun H0 e Q q => h H0 e _ fun v H1 e1 ⟨a, hv, hx⟩ => ⟨a, hv, ⟨xs, hx⟩, fun D hD =>
  lc_tup (xs := xs) (Cwd H1 f Rv D) (cwd_start hD) (fun i H' _ p => Evl.ex_t p.2.1 hx) (fun i x H' hi p => ⟨hw x, cwd_turn firm p (by have := (List.getElem?_eq_some_iff.mp hi).1; omega) (ht i x H1 (e.trans e1) hi) (fun hf => he i x H1 (e.trans e1) hi hf)⟩)
    (fun H' ⟨p1, p2, acc, p3, p4⟩ => q _ H' (e1.trans p2) ⟨D, acc, rfl, p3, p4⟩)⟩
theorem eg_lcL {vs : List Nat} {xs : List V} (f : Nat → Bool) (Rv : Nat → Is) (firm : ∀ k, Firm (Rv k)) (h : EvG tl σ H (isL K xs)) (hz : xs.length ≤ 40000) (hw : ∀ x, wipe ((wipe σ vs).set j (some x)) vs = wipe σ vs)
    (ht : ∀ (i : Nat) (x : V) H1, Ex H H1 → xs[i]? = some x → EvB t ((wipe σ vs).set j (some x)) H1 (f i)) (he : ∀ (i : Nat) (x : V) H1, Ex H H1 → xs[i]? = some x → f i = true → EvG te ((wipe σ vs).set j (some x)) H1 (Rv i)) :
    EvG (tLc (iList K tl) (gName j) t te vs) σ H (isLs K (kept xs.length f Rv)) := fun H0 e Q q => h H0 e _ fun v H1 e1 ⟨a, hv, hx⟩ => ⟨a, hv, ⟨xs, hx⟩, fun D hD =>
  lc_list (xs := xs) (Cwd H1 f Rv D) (cwd_start hD) (fun i H' _ p => Evl.ex_l p.2.1 hx) (fun i x H' hi p => ⟨hw x, cwd_turn firm p (by have := (List.getElem?_eq_some_iff.mp hi).1; omega) (ht i x H1 (e.trans e1) hi) (fun hf => he i x H1 (e.trans e1) hi hf)⟩)
    (fun H' ⟨p1, p2, acc, p3, p4⟩ => q _ H' (e1.trans p2) ⟨D, acc, rfl, p3, p4⟩)⟩
theorem eg_lcR {ta : TA} {vs : List Nat} {n : Int} (f : Nat → Bool) (Rv : Nat → Is) (firm : ∀ k, Firm (Rv k)) (h : EvAs ta σ H [isV (.int n)]) (hn : -40000 ≤ n ∧ n ≤ 40000) (hw : ∀ x, wipe ((wipe σ vs).set j (some x)) vs = wipe σ vs)
    (ht : ∀ (i : Nat) H1, Ex H H1 → (i : Int) < n → EvB t ((wipe σ vs).set j (some (.int (i : Int)))) H1 (f i)) (he : ∀ (i : Nat) H1, Ex H H1 → (i : Int) < n → f i = true → EvG te ((wipe σ vs).set j (some (.int (i : Int)))) H1 (Rv i)) :
    EvG (tLc (iRng1 ta) (gName j) t te vs) σ H (isLs K (kept n.toNat f Rv)) := fun H0 e Q q => h H0 e _ fun us H1 e1 hus => by
  obtain ⟨a, ea, eb⟩ := all1 hus
  have eb : a = .int n := eb
  subst ea eb
  exact ⟨n, rfl, by omega, by omega, fun D hD =>
    lc_range (lo := 0) (n := n.toNat) (Cwd H1 f Rv D) (cwd_start hD) (fun i H' hi p => by
      have e0 : (0 : Int) + (i : Int) = (i : Int) := Int.zero_add _
      show wipe ((wipe σ vs).set j (some (.int ((0 : Int) + (i : Int))))) vs = wipe σ vs ∧ t ((wipe σ vs).set j (some (.int ((0 : Int) + (i : Int))))) H' fun b H3 => if b = true then te ((wipe σ vs).set j (some (.int ((0 : Int) + (i : Int))))) H3 fun y H4 => ∃ acc, H4 D = some (.lst acc) ∧ acc.length < sizeLine ∧ Cwd H1 f Rv D (i + 1) (upd H4 D (.lst (acc ++ [y]))) else Cwd H1 f Rv D (i + 1) H3
      rw [e0]
      exact ⟨hw _, cwd_turn firm p (by omega) (ht i H1 (e.trans e1) (by omega)) (fun hf => he i H1 (e.trans e1) (by omega) hf)⟩) (fun H' ⟨p1, p2, acc, p3, p4⟩ => q _ H' (e1.trans p2) ⟨D, acc, rfl, p3, p4⟩)⟩
theorem eb_yes : EvB tYes σ H true := fun H1 _ _ q => q H1 (Ex.refl H1)
/-- a list of values -/
theorem isLs_L {xs : List V} {v : V} (h : (isLs K (xs.map isV)).p v H) : (isL K xs).p v H := let ⟨a, vs, h1, h2, h3⟩ := h; ⟨a, h1, .inl (.inl (by rw [← allV h3]; exact h2))⟩
theorem EvG.L {xs : List V} (h : EvG te σ H (isLs K (xs.map isV))) : EvG te σ H (isL K xs) := h.imp fun _ _ _ hv => isLs_L hv
theorem wipe_one (σ : L2.St) (j : Nat) (x : Option V) : wipe ((wipe σ [j]).set j x) [j] = wipe σ [j] := by
  show ((σ.set j none).set j x).set j none = σ.set j none
  rw [List.set_set, List.set_set]
end
end K2

namespace K2
open PySem PySem.Spec PyProof.Rows L2
open Evl (Ex)
set_option Elab.async false
set_option linter.all false
set_option maxRecDepth 100000
set_option maxHeartbeats 4000000
/-! ### len(set(t)), t a tuple of ints -/
theorem not_nodup : ∀ {l : List Int}, ¬ l.Nodup → ∃ a x b, l = a ++ x :: b ∧ x ∈ b
  | [], h => absurd .nil h
  | x :: r, h => by
    by_cases hx : x ∈ r
    · exact ⟨[], x, r, rfl, hx⟩
    · have h2 : ¬ r.Nodup := fun z => h (List.nodup_cons.mpr ⟨hx, z⟩)
      obtain ⟨a, y, b, e, hy⟩ := not_nodup h2
      exact ⟨x :: a, y, b, by rw [e]; rfl, hy⟩
theorem count_set {ks ns : List Int} (nd : ks.Nodup) (h : ∀ k, k ∈ ns ↔ k ∈ ks) : decide (ks.length = ns.length) = decide ns.Nodup := by
  have h1 : ks.length ≤ ns.length := nd.length_le_of_subset fun k hk => (h k).mpr hk
  by_cases hn : ns.Nodup
  · have h2 : ns.length ≤ ks.length := hn.length_le_of_subset fun k hk => (h k).mp hk
    rw [decide_eq_true hn, decide_eq_true (by omega)]
  · obtain ⟨a, x, b, e, hx⟩ := not_nodup hn
    have h2 : ks.length ≤ (a ++ b).length := nd.length_le_of_subset fun k hk => by
      have := (h k).mpr hk
      rw [e] at this
      rcases List.mem_append.mp this with z | z
      · exact List.mem_append_left _ z
      · rcases List.mem_cons.mp z with z | z
        · rw [z]; exact List.mem_append_right _ hx
        · exact List.mem_append_right _ z
    rw [decide_eq_false hn, decide_eq_false]
    rw [e, List.length_append, List.length_cons]
    rw [List.length_append] at h2
    omega
def tLenSetT (K : PySem.W.Frag) (ta : TE) : TE := fun σ H Q => ta σ H fun x H1 => ∃ (l : Addr) (ns : List Int), x = .ref l ∧ SqT K H1 l (ns.map V.int) ∧ ns.length ≤ 1000 ∧ ∀ c : Nat, decide (c = ns.length) = decide ns.Nodup → Q (.int (c : Int)) H1
theorem pe_lenSetT {X : Cx} {a : Expr} {ta : TE} {p p2 q pos : Pos} (mLen : X.mg "len" = none) (mSet : X.mg "set" = none) (ha : PE X a ta) (cm : X.calm = true := by rfl) (gLen : Gl X "len" := by rfl) (gSet : Gl X "set" := by rfl)
    (na : starEach [a] X.env = (false, eval a X.env) :: starEach [] X.env := by rfl) : PE X (.Call (.Name "len" p) [.Call (.Name "set" p2) [a] [] q] [] pos) (tLenSetT X.K ta) :=
  ⟨fun pi st sl hp K Iv hw => by
    refine Call_ (ld_blt Iv gLen mLen boot_len (PyProof.Rows.callWith_builtin1 (PyProof.Rows.args_cons (Call_ (ld_blt Iv gSet mSet boot_set
      (PyProof.Rows.callWith_type1 (PyProof.Rows.args_cons (thn (ha.run pi st sl hp _ Iv hw) fun v s1 ⟨x, H1, I1, r1, q1⟩ => PyProof.Rows.args_nil ?_) na) na rfl))) rfl) rfl rfl))
    obtain ⟨l, ns, rfl, hq, hlen, q1⟩ := q1
    cases r1
    obtain ⟨its, r, pl, hz⟩ := I1.tuple hq
    refine call_set_tupI ns (I1.ok.hd cm) pl (by simpa using RZ.intsAre_vals r) (by unfold scanBound; omega) fun h' tk c hS hc hk => ?_
    refine PyProof.Rows.args_nil ?_
    obtain ⟨o, es, ep, t, ho, hex, hd, _, nd, mem, _, hf, hn, _⟩ := hS
    have I2 : Inv X pi sl H1 { s1 with heap := h', toks := tk } := I1.kept fun b u e => hk b u e
    refine call_len_set ho hex hd hf (by rw [hn] <;> omega) ⟨.int es.size, H1, I2.tok _, ⟨_, rfl⟩, q1 es.size ?_⟩
    have e1 := count_set (ns := ns) nd fun k => by
      rw [← mem k]
      simp
    have el : (es.toList.map keyOf).length = es.size := by rw [List.length_map, Array.length_toList]
    rw [el] at e1
    exact e1⟩

/-! ### fits_order -/
/-- the values are a list of whole numbers, each once -/
def wholes (xs : List V) (lo hi : Int) : Bool := xs.all fun v => whole v lo hi
theorem whole_int {v : V} {lo hi : Int} (h : whole v lo hi = true) : ∃ i, v = .int i ∧ lo ≤ i ∧ i ≤ hi := by
  cases v with
  | int i =>
    simp [whole] at h
    exact ⟨i, rfl, h.1, h.2⟩
  | _ => simp [whole] at h
theorem wholes_ints {lo hi : Int} : ∀ {xs : List V}, wholes xs lo hi = true → ∃ ns : List Int, xs = ns.map V.int ∧ ∀ n ∈ ns, lo ≤ n ∧ n ≤ hi
  | [], _ => ⟨[], rfl, fun _ h => by cases h⟩
  | x :: r, h => by
    unfold wholes at h
    rw [List.all_cons, Bool.and_eq_true] at h
    obtain ⟨i, e, h1, h2⟩ := whole_int h.1
    obtain ⟨ns, e2, h3⟩ := wholes_ints (xs := r) h.2
    refine ⟨i :: ns, by rw [e, e2]; rfl, fun n hn => ?_⟩
    rcases List.mem_cons.mp hn with z | z
    · rw [z]; exact ⟨h1, h2⟩
    · exact h3 n z
/-- the ints of a list of values -/
def intsOf (xs : List V) : List Int := xs.filterMap fun v => match v with
  | .int i => some i
  | _ => none
theorem intsOf_map (ns : List Int) : intsOf (ns.map V.int) = ns := by
  induction ns with
  | nil => rfl
  | cons a r ih => simp [intsOf] at ih ⊢; exact ih
/-- whether the items make an order -/
def fitsO (xs : List V) : Bool := decide (1 ≤ xs.length ∧ xs.length ≤ 30) && (wholes xs 0 ((xs.length : Int) - 1) && decide (intsOf xs).Nodup)
/-- a value that is a tuple of told kinds, or none -/
inductive Odd (K : PySem.W.Frag) (H : Hp) : V → List V → Prop where
  | tup {a : Addr} {xs : List V} (h : SqT K H a xs) (hk : 1 ≤ xs.length ∧ xs.length ≤ 30 → ∀ x ∈ xs, Knd K H x) : Odd K H (.ref a) xs
  | non : Odd K H .non []
  | int (i : Int) : Odd K H (.int i) []
  | str (x : Str) : Odd K H (.str x) []
  | bl (b : Bool) : Odd K H (.bl b) []
  | lst {a : Addr} {xs : List V} (h : SqL K H a xs) : Odd K H (.ref a) []
theorem Knd.ex {K : PySem.W.Frag} {H H' : Hp} {v : V} (e : Ex H H') (h : Knd K H v) : Knd K H' v := Knd.same e h
theorem Odd.ex {K : PySem.W.Frag} {H H' : Hp} {v : V} {xs : List V} (e : Ex H H') (h : Odd K H v xs) : Odd K H' v xs := by
  cases h with
  | tup h hk => exact .tup (Evl.ex_t e h) fun z x hx => (hk z x hx).ex e
  | non => exact .non
  | int i => exact .int i
  | str x => exact .str x
  | bl b => exact .bl b
  | lst h => exact .lst (Evl.ex_l e h)
def isOdd (K : PySem.W.Frag) (xs : List V) : Is := ⟨fun v H => Odd K H v xs, fun _ _ _ e h => h.ex e⟩
def isK (K : PySem.W.Frag) (v : V) : Is := ⟨fun x H => x = v ∧ Knd K H v, fun _ _ _ e h => ⟨h.1, h.2.ex e⟩⟩
theorem sg_whole {K : PySem.W.Frag} {H : Hp} {v : V} {lo hi : Int} : SpG (spWhole K) [isK K v, isV (.int lo), isV (.int hi)] H (isV (.bl (whole v lo hi))) := fun H1 _ vs hvs Q E q => by
  obtain ⟨a, b, c, rfl, ⟨rfl, h1⟩, h2, h3⟩ := all3 hvs
  cases (show b = V.int lo from h2)
  cases (show c = V.int hi from h3)
  exact ⟨a, lo, hi, rfl, h1, q _ H1 (Ex.refl H1) rfl⟩
theorem cg_isi {K : PySem.W.Frag} {H : Hp} {R : Is} {n c : String} {b : Bool} (hR : ∀ v H1, Ex H H1 → R.p v H1 → TyX K H1 v (.type n)) (hb : kitB n c = some b) : CbG (rIsi K) [R, isV (.ty c)] H (isV (.bl b)) := fun H1 e vs hvs Q q => by
  obtain ⟨a, x, rfl, h1, h2⟩ := all2 hvs
  cases (show x = V.ty c from h2)
  exact ⟨a, .ty c, .type n, .type c, b, rfl, .ty c, hR a H1 e h1, kit_ty hb, q _ H1 (Ex.refl H1) rfl⟩
theorem cg_all {K : PySem.W.Frag} {H : Hp} {bs : List Bool} : CbG (rAll K) [isL K (bs.map V.bl)] H (isV (.bl (bs.all id))) := fun H1 _ vs hvs Q q => by
  obtain ⟨a, rfl, b, rfl, h⟩ := all1 hvs
  exact ⟨b, bs, rfl, h, q _ H1 (Ex.refl H1) rfl⟩
theorem range_map_getD {α β : Type} (d : α) (F : α → β) (xs : List α) : (List.range xs.length).map (fun i => F (xs.getD i d)) = xs.map F := by
  apply List.ext_getElem?
  intro i
  rw [List.getElem?_map, List.getElem?_map]
  by_cases h : i < xs.length
  · rw [List.getElem?_range h, List.getElem?_eq_getElem h]
    simp [List.getD_eq_getElem?_getD, List.getElem?_eq_getElem h]
  · rw [List.getElem?_eq_none (by simp; omega), List.getElem?_eq_none (by omega)]
    rfl
theorem getD_of {α : Type} {xs : List α} {i : Nat} {x d : α} (h : xs[i]? = some x) : xs.getD i d = x := by
  rw [List.getD_eq_getElem?_getD, h]
  rfl
/-- a value's type by name -/
inductive KTy (K : PySem.W.Frag) (H : Hp) : V → String → Prop where
  | non : KTy K H .non "NoneType"
  | bl (b : Bool) : KTy K H (.bl b) "bool"
  | int (i : Int) : KTy K H (.int i) "int"
  | str (x : Str) : KTy K H (.str x) "str"
  | lst {a : Addr} {xs : List V} (h : SqL K H a xs) : KTy K H (.ref a) "list"
  | tup {a : Addr} {xs : List V} (h : SqT K H a xs) : KTy K H (.ref a) "tuple"
theorem KTy.ex {K : PySem.W.Frag} {H H' : Hp} {v : V} {n : String} (e : Ex H H') (h : KTy K H v n) : KTy K H' v n := by
  cases h with
  | non => exact .non
  | bl b => exact .bl b
  | int i => exact .int i
  | str x => exact .str x
  | lst h => exact .lst (Evl.ex_l e h)
  | tup h => exact .tup (Evl.ex_t e h)
theorem KTy.x {K : PySem.W.Frag} {H : Hp} {v : V} {n : String} (h : KTy K H v n) : TyX K H v (.type n) := by
  cases h with
  | non => exact .base .non
  | bl b => exact .base (.bl b)
  | int i => exact .base (.int i)
  | str x => exact .base (.str x)
  | lst h => exact ty_lst h
  | tup h => exact ty_tup h
def isTy (K : PySem.W.Frag) (n : String) (v : V) : Is := ⟨fun x H => x = v ∧ KTy K H v n, fun _ _ _ e h => ⟨h.1, h.2.ex e⟩⟩
theorem Odd.ty {K : PySem.W.Frag} {H : Hp} {v : V} {xs : List V} (h : Odd K H v xs) : (∃ a, v = .ref a ∧ SqT K H a xs ∧ (1 ≤ xs.length ∧ xs.length ≤ 30 → ∀ x ∈ xs, Knd K H x)) ∨ (xs = [] ∧ ∃ n, KTy K H v n ∧ kitB n "tuple" = some false) := by
  cases h with
  | tup h hk => exact .inl ⟨_, rfl, h, hk⟩
  | non => exact .inr ⟨rfl, _, .non, by decide +kernel⟩
  | int i => exact .inr ⟨rfl, _, .int i, by decide +kernel⟩
  | str x => exact .inr ⟨rfl, _, .str x, by decide +kernel⟩
  | bl b => exact .inr ⟨rfl, _, .bl b, by decide +kernel⟩
  | lst h => exact .inr ⟨rfl, _, .lst h, by decide +kernel⟩
def spFits (K : PySem.W.Frag) : Sp := fun vs H Q _ => ∃ (v : V) (xs : List V), vs = [v] ∧ Odd K H v xs ∧ ∀ H2, Ex H H2 → Q (.bl (fitsO xs)) H2
theorem sc16 : FnScope ["value", "thing"] ["value"] (defScope (topS 16)) := ⟨rfl, rfl, rfl, by decide +kernel, rfl, by decide +kernel, by decide +kernel⟩
theorem kept_all (n : Nat) (Rv : Nat → Is) : kept n (fun _ => true) Rv = (List.range n).map Rv := by
  unfold kept
  rw [List.filter_eq_self.mpr (fun _ _ => rfl)]
section
variable {P : Program} {w : World} {K : PySem.W.Frag} {mg : Str → Option Value} {base : Heap}
theorem cl_fits (T : Top K mg) : Cl P w K mg base CX0 2 "fits_order" ["value"] (spFits K) := by
  have CW : Cl P w K mg base CX0 1 "is_whole" ["value", "low", "high"] (spWhole K) := cl_whole T
  obtain ⟨tt, hth⟩ := T.things
  refine cl0 (T.d (16, _) (by decide)) sc16 (fun vs H Q E h => ?_) (fun _ _ _ _ _ _ us hl => match us, hl with | [_], _ => rfl) (fun f cdv A outer s H vs Q E hr h => ?_)
  · obtain ⟨v, xs, rfl, _⟩ := h
    rfl
  · obtain ⟨v, xs, rfl, od, q⟩ := h
    refine ⟨_, pss_cons (ps_if (PW.pt (pw_or (pt_not (pt_val (pe_callB call_isi (by rfl) (T.b "isinstance" (by decide)) (by decide +kernel) (pa_cons (pv 0) (pa_cons (pe_bltn (v := .ty "tuple") (by rfl) (T.b "tuple" (by decide)) (by decide +kernel) rfl) pa_nil)))))
        (pw_or1 (pt_not (pt_chain op_le op_le pe_int (pe_callB (call_lenK K) (by rfl) (T.b "len" (by decide)) PySem.boot_len (pa_cons (pv 0) pa_nil)) (pe_glob (v := .int 30) (by rfl) hth ⟨_, rfl⟩)))))) (pss_one (ps_ret pe_bl)) pss_nil)
      (pss_cons (ps_if (pt_not (pt_val (pe_callB (cr_all rfl) (by rfl) (T.b "all" (by decide)) (by decide +kernel) (pa_cons
          (pe_lc (own := [("thing", 1)]) (g := gName 1) (tt := tYes) rfl sc16.nd (pi_tup (pv 0)) (blkOk_by (N := ["value", "thing"]) (sc := defScope (topS 16)) (own := [("thing", 1)]) (by decide +kernel)) (fun _ _ _ _ _ => pg_name (i := 1) sc16.nd rfl (Or.inl rfl)) (fun _ _ _ _ _ => pts_nil)
            (fun _ _ _ _ _ => pe_cl CW hr (by decide) pass0 (pa_cons (pv 1) (pa_cons pe_int (pa_cons (pe_op op_sub (pe_callB (call_lenK K) (by rfl) (T.b "len" (by decide)) PySem.boot_len (pa_cons (pv 0) pa_nil)) pe_int) pa_nil))))) pa_nil)))) (pss_one (ps_ret pe_bl)) pss_nil)
      (pss_one (ps_ret (pe_cmpR op_eq (pe_lenSetT (T.b "len" (by decide)) (T.b "set" (by decide)) (pv 0)) (pe_callB (call_lenK K) (by rfl) (T.b "len" (by decide)) PySem.boot_len (pa_cons (pv 0) pa_nil)) (nomark _))))), ?_⟩
    rcases od.ty with ⟨a, rfl, hs, hk⟩ | ⟨rfl, n, kt, hn⟩
    · refine q_when (b := !(decide (1 ≤ (xs.length : Int)) && decide ((xs.length : Int) ≤ 30))) (eb_is (eb_or (a := false) (eb_not (a := true) (eb_B (eg_cb (as_cons (R := isTy K "tuple" (.ref a)) (eg_var rfl ⟨rfl, .tup hs⟩) (as_cons eg_c as_nil)) (cg_isi (fun _ _ _ h => h.1 ▸ h.2.x) (by decide +kernel)))))
        (fun _ => eb_not (eb_test (eg_chain eg_c (eg_cb (as_cons (eg_vT rfl hs) as_nil) cgk_lenT) og_I0 eg_c og_I0)))) (Bool.false_or _)) (fun hb H1 e1 => ?_) (fun hb H1 e1 => ?_)
      · refine s_ret eg_c fun v1 H2 e2 hv => ?_
        cases (show v1 = V.bl false from hv)
        have ef : fitsO xs = false := by
          unfold fitsO
          rw [decide_eq_false (fun z => by simp at hb; omega), Bool.false_and]
        rw [ef] at q
        exact q H2 (e1.trans e2)
      · have hb : 1 ≤ xs.length ∧ xs.length ≤ 30 := by
          simp at hb
          omega
        have hs1 := Evl.ex_t e1 hs
        have kn := hk hb
        refine q_when (b := !(wholes xs 0 ((xs.length : Int) - 1))) (eb_is (eb_not (eb_B (eg_cb (as_cons (EvG.L (xs := (xs.map fun v => whole v 0 ((xs.length : Int) - 1)).map V.bl) (EvG.imp (eg_lcT (xs := xs) (fun _ => true) (fun i => isV (.bl (whole (xs.getD i .non) 0 ((xs.length : Int) - 1)))) (fun _ => firm_V)
            (eg_vT rfl hs1) (by omega) (fun _ => wipe_one _ _ _) (fun _ _ _ _ _ => eb_yes) (fun i x H2 e2 hi _ => ?_)) fun u H2 _ hu => ?_)) as_nil) cg_all))) ?_) (fun hb2 H2 e2 => ?_) (fun hb2 H2 e2 => ?_)
        · rw [getD_of hi]
          exact eg_call (as_cons (R := isK K x) (eg_var rfl ⟨rfl, (kn x (List.mem_of_getElem? hi)).ex (e1.trans e2)⟩) (as_cons eg_c (as_cons (eg_op (eg_cb (as_cons (eg_vT rfl (Evl.ex_t e2 hs1)) as_nil) cgk_lenT) eg_c og_I0) as_nil))) sg_whole
        · rw [kept_all, range_map_getD V.non (fun v => isV (.bl (whole v 0 ((xs.length : Int) - 1)))) xs] at hu
          rw [List.map_map, List.map_map]
          exact hu
        · rw [List.all_map]
          rfl
        · refine s_ret eg_c fun v1 H3 e3 hv => ?_
          cases (show v1 = V.bl false from hv)
          have ef : fitsO xs = false := by
            unfold fitsO
            simp at hb2
            rw [hb2, Bool.false_and, Bool.and_false]
          rw [ef] at q
          exact q H3 ((e1.trans e2).trans e3)
        · have hb2 : wholes xs 0 ((xs.length : Int) - 1) = true := by simpa using hb2
          obtain ⟨ns, en, hn⟩ := wholes_ints hb2
          have hs2 := Evl.ex_t e2 hs1
          refine s_ret (R := isV (.bl (decide ns.Nodup))) (eg_op (R1 := ⟨fun v _ => ∃ c : Nat, v = .int (c : Int) ∧ decide (c = ns.length) = decide ns.Nodup, fun _ _ _ _ h => h⟩) ?_ (eg_cb (as_cons (eg_vT rfl hs2) as_nil) cgk_lenT) ?_) fun v1 H3 e3 hv => ?_
          · exact fun H3 e3 Q' q' => ⟨_, rfl, a, ns, rfl, by rw [← en]; exact Evl.ex_t e3 hs2, by rw [← List.length_map (f := V.int), ← en]; omega, fun c hc => q' _ H3 (Ex.refl H3) ⟨c, rfl, hc⟩⟩
          · intro H3 e3 x y ⟨c, hx, hc⟩ hy Q' q'
            cases (show y = V.int (xs.length : Nat) from hy)
            subst hx
            refine ⟨rfl, q' _ H3 (Ex.refl H3) ?_⟩
            show V.bl _ = V.bl _
            have el : xs.length = ns.length := by rw [en, List.length_map]
            rw [← hc, el]
            congr 1
            simp
            omega
          · cases (show v1 = V.bl (decide ns.Nodup) from hv)
            have ef : fitsO xs = decide ns.Nodup := by
              unfold fitsO
              rw [hb2, decide_eq_true hb, en, intsOf_map]
              simp
            rw [ef] at q
            exact q H3 ((e1.trans e2).trans e3)
    · refine q_when (b := true) (eb_is (eb_or (a := true) (b := true) (eb_not (a := false) (eb_B (eg_cb (as_cons (R := isTy K n v) (eg_var rfl ⟨rfl, kt⟩) (as_cons eg_c as_nil)) (cg_isi (fun _ _ _ h => h.1 ▸ h.2.x) hn)))) (fun z => by cases z)) rfl)
        (fun _ H1 e1 => s_ret eg_c fun v1 H2 e2 hv => ?_) (fun z => by cases z)
      cases (show v1 = V.bl false from hv)
      exact q H2 (e1.trans e2)
end
end K2

namespace K2
open PySem PySem.Spec PyProof.Rows L2
open Evl (Ex)
set_option Elab.async false
set_option linter.all false
set_option maxRecDepth 100000
set_option maxHeartbeats 4000000
/-! ### enumerate(t), t a tuple -/
/-- enumerate of one argument is made -/
theorem enum_made {v : Value} {o : Obj} {Hc : Heap → Prop} (B : Begins v o Hc) :
    Meets (Builtin.«enumerate.__new__» ⟨[.type "enumerate", v], []⟩) (fun _ R st => Hc st.heap ∧
      R (.ok (.ret (.ref (st.heap.push o).objs.size))) { st with heap := (st.heap.push o).push { cls := .type "enumerate", data := .fields #[.none, .bool false, .ref st.heap.objs.size, rawInt 0, .none, .none] } }) :=
  .of_wp fun prog w A R st hr => by
    obtain ⟨h0, g0, d0, t0, o0⟩ := st
    obtain ⟨hB, hR⟩ := hr
    have subE := sub_enumerate
    have itr : ∀ {A' : Around} {E : Value → Shared → Prop} {Q : Value → Shared → Prop}, Q (.ref h0.objs.size) ⟨h0.push o, g0, d0, t0, o0⟩ → wpAny (model prog w) A' (pyIter v) Q E ⟨h0, g0, d0, t0, o0⟩ :=
      fun q => B.iter prog w _ _ ⟨h0, g0, d0, t0, o0⟩ _ hB q
    wp_walk using itr
    refine wpAny_stack_any fun _ => wpAny_pure ?_
    split
    · rename_i cc _ _ _ _ _
      cases (cc == Value.type "enumerate") <;> (wp_walk using itr; exact ⟨_, rfl, hR⟩)
    · wp_walk using itr
      exact ⟨_, rfl, hR⟩
theorem call_enum1 {prog : Program} {w : World} {A : Around} {E : Value → Shared → Prop} {s : Shared} {v : Value} {o : Obj} {Hc : Heap → Prop} {Q : Value → Shared → Prop} (B : Begins v o Hc) (hB : Hc s.heap)
    (h : ∀ h', IsEnum h' (s.heap.objs.size + 1) s.heap.objs.size 0 .none → h'.get? s.heap.objs.size = some o → (∀ b u, s.heap.get? b = some u → h'.get? b = some u) → Q (.ref (s.heap.objs.size + 1)) { s with heap := h' }) :
    wpAny (model prog w) A (call (.type "enumerate") [v]) Q E s := by
  refine callType_new F.called_enumerate (by decide) (F.typeCall_enumerate_1 _) (F.newCall_enumerate_1 _) (fun obj => F.args_object_init_2 obj _) F.entry_enumerate_new (enum_made B) ⟨hB, ?_⟩
  have sz1 : (s.heap.push o).objs.size = s.heap.objs.size + 1 := Heap.size_push ..
  show _ ∧ _
  have en := Heap.get?_push_size (s.heap.push o) (o := { cls := .type "enumerate", data := .fields #[.none, .bool false, .ref s.heap.objs.size, rawInt 0, .none, .none] }) rfl
  rw [sz1] at en ⊢
  exact ⟨⟨_, en, rfl⟩, h _ en (Heap.get?_push_of_some _ (Heap.get?_push_size _ B.free)) fun b u z => Heap.get?_push_of_some _ (Heap.get?_push_of_some _ z)⟩
/-- each item of the tuple at a, in a new pair -/
def IteT (K : PySem.W.Frag) (a : Addr) : It where
  go := fun i H => ∃ (xs : List V) (x : V), SqT K H a xs ∧ xs[i]? = some x
  yld := fun i H v H' => ∃ t x, v = .ref t ∧ H t = none ∧ H' = upd H t (.tup [.int (i : Nat), x]) ∧ ∀ xs, SqT K H a xs → xs[i]? = some x
  stop := fun i H => ∃ xs : List V, SqT K H a xs ∧ xs.length = i
theorem enum_kinds {h : Heap} {e a it : Addr} {c : Int} {old : Value} {items : Array Value} (he : IsEnum h e it c old) (ha : h.IsTuple a items) : e ≠ a := by
  intro z
  obtain ⟨o, ho, hc, _⟩ := ha
  rw [← z] at ho
  have he' : h.get? e = _ := he
  rw [ho] at he'
  cases he'
  simp at hc
theorem turn_enumT {P : Program} {w : World} {K : PySem.W.Frag} {elts : List Expr} {kk : Nat} {tpos : Pos} (a e it : Addr) :
    Turn P w K (.Tuple elts kk tpos) (IteT K a) [e, it] e (fun i h => ((∃ old, IsEnum h e it ((i : Nat) : Int) old) ∧ h.IsTupleIter it a i) ∧ e ≠ it ∧ a ≠ it) where
  mem := List.mem_cons_self
  obj := fun i h ⟨⟨⟨old, he⟩, ⟨o, ho, _, hd⟩⟩, _⟩ b hb => by
    rcases List.mem_cons.mp hb with z | z
    · rw [z]
      exact ⟨_, he, fun v q => nomatch q⟩
    · rw [List.mem_singleton.mp z]
      exact ⟨o, ho, fun v q => by rw [hd] at q; cases q⟩
  keep := fun i h h' ⟨⟨⟨old, he⟩, hi⟩, ne⟩ k => ⟨⟨⟨old, k e List.mem_cons_self _ he⟩, hi.at fun o q => k it (List.mem_cons_of_mem _ List.mem_cons_self) o q⟩, ne⟩
  item := by
    intro X hP hw hK cm i pi s σ H E Iv hf ⟨⟨⟨old, he⟩, hit⟩, ne, nea⟩ hgo
    subst hP hw hK
    obtain ⟨xs, x, hq, hx⟩ := hgo
    obtain ⟨its, rv, p, hz⟩ := Iv.tuple hq
    obtain ⟨u, hu, ru⟩ := rv.get hx
    have hi : i < its.toArray.size := by rw [List.size_toArray]; exact (List.getElem?_eq_some_iff.mp hu).1
    have hl := rv.length
    have le : e < s.heap.objs.size := Heap.lt_size he
    have li : it < s.heap.objs.size := by
      obtain ⟨_, q, _⟩ := hit
      exact Heap.lt_size q
    have hh : X.A.in1.handled = none := Iv.ok.hd cm
    refine wpAny_pyNext_enum_itemC (Draws.tuple hh it a nea its.toArray) he ⟨hit, p⟩ hi ne (fun z => ?_) fun y h' tk hy ho st' hT hsz hk => ⟨_, rfl, ?_⟩
    · rcases List.mem_cons.mp z with z | z
      · exact ne z
      · exact enum_kinds he p (List.mem_singleton.mp z)
    have ey : u = y := by
      have hu' : its.toArray[i]? = some u := by simpa using hu
      exact Option.some.inj (hu'.symm.trans hy)
    subst ey
    refine wpAny_letOwnedTupleGo_enum (s := { s with heap := h', toks := tk + 1 }) ho fun h2 he2 sb => ?_
    have hT2 : h2.get? s.heap.objs.size = some { cls := .type "tuple", data := .seq #[.int i tk, u] } := (sb.2 _ (Nat.ne_of_gt le)).trans hT
    have new : ObjOk X.prog X.w (upd H s.heap.objs.size (.tup [.int (i : Nat), x])) h2 s.heap.objs.size (.tup [.int (i : Nat), x]) :=
      ⟨by show 2 ≤ sizeLine; decide, [.int i tk, u], .cons ⟨_, rfl⟩ (.cons ru .nil), _, hT2, rfl, _, rfl⟩
    have I1 : Inv X pi σ (upd H s.heap.objs.size (.tup [.int (i : Nat), x])) { s with heap := h2, toks := tk + 1 } :=
      Iv.turnedNew (ch := [e, it]) (fun b ob hb q => by
        have n1 : b ≠ e := fun z => hb (by rw [z]; exact List.mem_cons_self)
        have n2 : b ≠ it := fun z => hb (by rw [z]; exact List.mem_cons_of_mem _ List.mem_cons_self)
        exact (sb.2 b n1).trans (hk b ob n1 n2 q)) hf (Nat.le_refl _) new
    refine ⟨.ref s.heap.objs.size, _, I1, rfl, ⟨_, x, rfl, Iv.hok.fresh (Nat.le_refl _), rfl, fun ys hys => by rw [Iv.tuple_inj hys hq]; exact hx⟩, ⟨⟨⟨u, by
      have e1 : ((i + 1 : Nat) : Int) = (i : Int) + 1 := rfl
      rw [e1]
      exact he2⟩, st'.1.at fun o q => (sb.2 it (Ne.symm ne)).trans q⟩, ne, nea⟩, fun b hb => ?_⟩
    have lb : b < s.heap.objs.size := by
      rcases List.mem_cons.mp hb with z | z
      · rw [z]; exact le
      · rw [List.mem_singleton.mp z]; exact li
    rw [upd_ne (Nat.ne_of_lt lb)]
    exact (hf b hb).1
  done := by
    intro X hP hw hK cm i pi s σ H E Iv hf ⟨⟨⟨old, he⟩, hit⟩, ne, nea⟩ hst
    subst hP hw hK
    obtain ⟨xs, hq, hx⟩ := hst
    obtain ⟨its, rv, p, hz⟩ := Iv.tuple hq
    obtain ⟨f0, f1, f2, f3, f4, f5⟩ := hf it (List.mem_cons_of_mem _ List.mem_cons_self)
    have hl := rv.length
    have hh : X.A.in1.handled = none := Iv.ok.hd cm
    have en : its.toArray.size = i := by rw [List.size_toArray, ← hl, hx]
    exact wpAny_pyNext_enum_endD (Draws.tuple hh it a nea its.toArray) he (by rw [en]; exact ⟨hit, p⟩) fun h' eb => ⟨rfl, Iv.turned (t' := s.toks) (fun b o hb q => eb b o hb q) f0 f1 f3 f4 f5⟩
  self := fun A i s Q E ⟨⟨⟨_, he⟩, _⟩, _⟩ h => wpAny_pyIter_enum he h
def iEnumT (K : PySem.W.Frag) (ta : TA) : TI := fun σ H R => ta σ H fun vs H1 => ∃ a xs, vs = [.ref a] ∧ SqT K H1 a xs ∧ R (IteT K a) H1
theorem pi_enumT {X : Cx} {e : Expr} {ta : TA} {p pos tpos : Pos} {elts : List Expr} {kk : Nat} (hm : X.mg "enumerate" = none) (ha : PA X [e] ta) (hg : Gl X "enumerate" := by rfl) (hs : starEach [e] X.env = [(false, eval e X.env)] := by rfl) :
    PI X (.Tuple elts kk tpos) (.Call (.Name "enumerate" p) [e] [] pos) (iEnumT X.K ta) :=
  ⟨fun pi s σ H R Iv hw => Call_ (ld_blt Iv hg hm boot_enumerate (PyProof.Rows.callWith_type1 (thn (ha.run pos pi s σ H _ Iv hw) fun us s1 ⟨vs, H1, I1, r1, q1⟩ => by
    obtain ⟨a, xs, ex, hq, q⟩ := q1
    subst ex
    cases r1 with
    | cons r rr =>
      cases rr
      cases r
      obtain ⟨its, rv, p', hz⟩ := I1.tuple hq
      refine call_enum1 (begins_tuple a its.toArray) p' fun h' he ho hk => wpAny_pyIter_enum he ?_
      have la : a < s1.heap.objs.size := by
        obtain ⟨_, q', _⟩ := p'
        exact Heap.lt_size q'
      refine ⟨s1.heap.objs.size + 1, [s1.heap.objs.size + 1, s1.heap.objs.size], _, _, H1, rfl, I1.kept (t' := s1.toks) hk, turn_enumT a (s1.heap.objs.size + 1) s1.heap.objs.size, ⟨⟨⟨.none, he⟩, ⟨_, ho, rfl, rfl⟩⟩, Nat.succ_ne_self _, Nat.ne_of_lt la⟩, fun b hb => ?_, q⟩
      have lb : s1.heap.objs.size ≤ b := by
        rcases List.mem_cons.mp hb with z | z
        · rw [z]; exact Nat.le_add_right _ _
        · rw [List.mem_singleton.mp z]; exact Nat.le_refl _
      exact I1.fpOk lb (I1.hok.fresh lb)) hs rfl))⟩
end K2

namespace K2
open PySem PySem.Spec PyProof.Rows L2
open Evl (Ex)
set_option Elab.async false
set_option linter.all false
set_option maxRecDepth 100000
set_option maxHeartbeats 4000000
/-! ### words for promises -/
/-- what follows a call that gives what R tells -/
abbrev Gives (R : Is) (H : Hp) (Q : VK) : Prop := ∀ v H2, Ex H H2 → R.p v H2 → Q v H2
theorem kept_vals (vals : List V) : kept vals.length (fun _ => true) (fun i => isV (vals.getD i .non)) = vals.map isV := by
  rw [kept_all, range_map_getD V.non isV vals]
theorem EvG.vals {K : PySem.W.Frag} {te : TE} {σ : L2.St} {H : Hp} {n : Nat} (vals : List V) (h : EvG te σ H (isLs K (kept n (fun _ => true) (fun i => isV (vals.getD i .non))))) (hn : n = vals.length) : EvG te σ H (isL K vals) := by
  subst hn
  rw [kept_vals] at h
  exact h.L
theorem cut_take (l : List Nat) (i : Nat) : cutV (iV l) none (some (i : Int)) = iV (l.take i) := by
  unfold cutV
  rw [show HT.sIx (iV l).length 0 none = 0 from HT.sIx_none .., show HT.sIx (iV l).length (iV l).length (some (i : Int)) = min i (iV l).length from HT.sIx_nat ..]
  unfold iV
  rw [List.drop_zero, Nat.sub_zero, List.map_take, List.length_map]
  by_cases h : i ≤ l.length
  · rw [Nat.min_eq_left h]
  · rw [Nat.min_eq_right (by omega), List.take_of_length_le (by simp), List.take_of_length_le (by simp; omega)]
theorem cut_drop (l : List Nat) (i : Nat) : cutV (iV l) (some (i : Int)) none = iV (l.drop i) := by
  unfold cutV
  rw [show HT.sIx (iV l).length (iV l).length none = (iV l).length from HT.sIx_none .., show HT.sIx (iV l).length 0 (some (i : Int)) = min i (iV l).length from HT.sIx_nat ..]
  unfold iV
  rw [List.length_map, List.map_drop]
  by_cases h : i ≤ l.length
  · rw [Nat.min_eq_left h, List.take_of_length_le (by simp)]
  · rw [Nat.min_eq_right (by omega), Nat.sub_self, List.take_zero, List.drop_eq_nil_of_le (by simp; omega)]
theorem at_iV {l : List Nat} {i n : Nat} (h : l[i]? = some n) : atI (iV l) (i : Int) = some (.int (n : Int)) := atI_nat (by rw [iV_get, h]; rfl)
section
variable {P : Program} {w : World} {K : PySem.W.Frag} {mg : Str → Option Value} {base : Heap}

/-! ### swapped_at -/
def spSwap (K : PySem.W.Frag) : Sp := fun vs H Q _ => ∃ (l : List Nat) (i : Nat), AllIs [isT K (iV l), isV (.int (i : Int))] vs H ∧ (i + 1 < l.length ∧ l.length ≤ 1000) ∧ Gives (isT K (iV (sw l i))) H Q
theorem sg_swap {H : Hp} {l : List Nat} {i : Nat} (h : i + 1 < l.length ∧ l.length ≤ 1000) : SpG (spSwap K) [isT K (iV l), isV (.int (i : Int))] H (isT K (iV (sw l i))) := fun _ _ _ hvs _ _ q => ⟨l, i, hvs, h, q⟩
theorem sc19 : FnScope ["order", "place"] ["order", "place"] (defScope (topS 19)) := ⟨rfl, rfl, rfl, by decide +kernel, rfl, by decide +kernel, by decide +kernel⟩
theorem cl_swap (T : Top K mg) : Cl P w K mg base CX0 1 "swapped_at" ["order", "place"] (spSwap K) := by
  refine cl0 (T.d (19, _) (by decide)) sc19 (fun vs H Q E ⟨_, _, h, _⟩ => h.len) (fun _ _ _ _ _ _ us hl => match us, hl with | [_, _], _ => rfl) (fun f cdv A outer s H vs Q E hr h => ?_)
  obtain ⟨l, i, hvs, ⟨hi, hl⟩, q⟩ := h
  obtain ⟨a, b, rfl, ⟨p, rfl, hs⟩, hb⟩ := all2 hvs
  cases (show b = V.int i from hb)
  refine ⟨_, pss_one (ps_ret (pe_op op_catA (pe_op op_catA (pe_slice sl_tupA (pv 0) po_none (po_some (pv 1))) (pe_tup (pa_cons (pe_ix ix_tup (pv 0) (pe_op op_add (pv 1) pe_int) (fun _ _ => rfl)) (pa_cons (pe_ix ix_tup (pv 0) (pv 1) (fun _ _ => rfl)) pa_nil))))
    (pe_slice sl_tupA (pv 0) (po_some (pe_op op_add (pv 1) pe_int)) po_none))), ?_⟩
  have hx : l[i]? = some (l[i]'(by omega)) := List.getElem?_eq_getElem _
  have hy : l[i + 1]? = some l[i + 1] := List.getElem?_eq_getElem hi
  have e2 : ((i : Int) + 2) = ((i + 2 : Nat) : Int) := by omega
  have e1 : ((i : Int) + 1) = ((i + 1 : Nat) : Int) := by omega
  have vT : EvG (tVar 0) (L2.start ["order", "place"] [V.ref p, V.int i]) H (isT K (iV l)) := eg_vT rfl hs
  refine s_ret (eg_isT (xs := cutV (iV l) none (some (i : Int)) ++ [V.int (l[i + 1] : Nat), V.int (l[i]'(by omega) : Nat)] ++ cutV (iV l) (some ((i : Int) + 2)) none)
    (eg_op (eg_op (eg_slT vT eo_none (eo_some (eg_v rfl))) (eg_tup (xs := [V.int (l[i + 1] : Nat), V.int (l[i]'(by omega) : Nat)]) (as_cons (eg_op vT (eg_op (eg_v rfl) eg_c og_I0) (og_ixT (by rw [e1]; exact at_iV hy))) (as_cons (eg_op vT (eg_v rfl) (og_ixT (at_iV hx))) as_nil)) (by show 2 ≤ 100000; decide)) (og_cat ?_))
      (eg_slT vT (eo_some (eg_op (eg_v rfl) eg_c og_I0)) eo_none) (og_cat ?_)) ?_) q
  · rw [cut_take, iV_length, List.length_take]
    show _ + 2 ≤ _
    omega
  · rw [List.length_append, cut_take, iV_length, List.length_take, e2, cut_drop, iV_length, List.length_drop]
    show _ + 2 + _ ≤ _
    omega
  · rw [cut_take, e2, cut_drop, sw_cut l i _ _ hx hy, iV_app, iV_app]
    rfl

/-! ### behind_row -/
def spBehind (K : PySem.W.Frag) : Sp := fun vs H Q _ => ∃ (l r : List Nat), AllIs [isT K (iV l), isT K (iV r)] vs H ∧ ((∀ i ∈ r, i + 1 < l.length) ∧ l.length ≤ 1000) ∧ Gives (isT K (iV (behind l r))) H Q
theorem sg_behind {H : Hp} {l r : List Nat} (h : (∀ i ∈ r, i + 1 < l.length) ∧ l.length ≤ 1000) : SpG (spBehind K) [isT K (iV l), isT K (iV r)] H (isT K (iV (behind l r))) := fun _ _ _ hvs _ _ q => ⟨l, r, hvs, h, q⟩
theorem sc22 : FnScope ["order", "row", "place"] ["order", "row"] (defScope (topS 22)) := ⟨rfl, rfl, rfl, by decide +kernel, rfl, by decide +kernel, by decide +kernel⟩
theorem cl_behind (T : Top K mg) : Cl P w K mg base CX0 2 "behind_row" ["order", "row"] (spBehind K) := by
  have CS : Cl P w K mg base CX0 1 "swapped_at" ["order", "place"] (spSwap K) := cl_swap T
  refine cl0 (T.d (22, _) (by decide)) sc22 (fun vs H Q E ⟨_, _, h, _⟩ => h.len) (fun _ _ _ _ _ _ us hl => match us, hl with | [_, _], _ => rfl) (fun f cdv A outer s H vs Q E hr h => ?_)
  obtain ⟨l, r, hvs, ⟨hi, hl⟩, q⟩ := h
  obtain ⟨a, b, rfl, ⟨p, rfl, hs⟩, ⟨p2, rfl, hs2⟩⟩ := all2 hvs
  refine ⟨_, pss_cons (ps_for PassesOwn.never rfl (pi_tup (pv 1)) (pg_name (i := 2) sc22.nd rfl (.inl rfl))
      (pss_one (ps_set (i := 0) sc22.nd rfl (.inl rfl) (pe_cl CS hr (by decide) pass0 (pa_cons (pv 0) (pa_cons (pv 2) pa_nil))))))
    (pss_one (ps_ret (pv 0))), ?_⟩
  refine s_forT (eg_vT rfl hs2) fun a2 H1 e1 hq => ⟨fun i σ H' => ∃ o c, σ = [some o, some (.ref p2), c] ∧ Ex H1 H' ∧ (isT K (iV (behind l (r.take i)))).p o H', ⟨_, none, rfl, Ex.refl _, p, rfl, Evl.ex_t e1 hs⟩,
    fun i σ H' ⟨_, _, _, e, _⟩ => Evl.ex_t e hq, fun i x σ H' hx ⟨o, c, eσ, e, ho⟩ => ?_, fun σ H' ⟨o, c, eσ, e, ho⟩ => ?_⟩
  · subst eσ
    rw [iV_get] at hx
    obtain ⟨n, hn, rfl⟩ := Option.map_eq_some_iff.mp hx
    have hb : behind l (r.take (i + 1)) = sw (behind l (r.take i)) n := by rw [List.take_add_one, hn]; exact behind_snoc _ _ _
    exact s_asg (eg_call (as_cons (eg_var rfl ho) (as_cons (eg_v rfl) as_nil)) (sg_swap ⟨by rw [behind_length]; exact hi n (List.mem_of_getElem? hn), by rw [behind_length]; exact hl⟩)) fun v H2 e2 hv => ⟨v, some _, rfl, e.trans e2, by rw [hb]; exact hv⟩
  · subst eσ
    rw [iV_length, List.take_length] at ho
    exact s_ret (eg_var rfl ho) fun v H2 e2 hv => q v H2 ((e1.trans e).trans e2) hv

/-! ### led_by -/
def spLedBy (K : PySem.W.Frag) : Sp := fun vs H Q _ => ∃ (l m : List Nat), AllIs [isT K (iV l), isT K (iV m)] vs H ∧ ((∀ t ∈ m, t < l.length) ∧ m.length ≤ 1000) ∧ Gives (isT K (iV (ledBy l m))) H Q
theorem sg_ledBy {H : Hp} {l m : List Nat} (h : (∀ t ∈ m, t < l.length) ∧ m.length ≤ 1000) : SpG (spLedBy K) [isT K (iV l), isT K (iV m)] H (isT K (iV (ledBy l m))) := fun _ _ _ hvs _ _ q => ⟨l, m, hvs, h, q⟩
theorem sc18 : FnScope ["one", "other", "thing"] ["one", "other"] (defScope (topS 18)) := ⟨rfl, rfl, rfl, by decide +kernel, rfl, by decide +kernel, by decide +kernel⟩
theorem getD_iV {l : List Nat} {i n : Nat} (h : l[i]? = some n) : (iV l).getD i .non = .int (n : Int) := getD_of (by rw [iV_get, h]; rfl)
theorem cl_ledBy (T : Top K mg) : Cl P w K mg base CX0 1 "led_by" ["one", "other"] (spLedBy K) := by
  refine cl0 (T.d (18, _) (by decide)) sc18 (fun vs H Q E ⟨_, _, h, _⟩ => h.len) (fun _ _ _ _ _ _ us hl => match us, hl with | [_, _], _ => rfl) (fun f cdv A outer s H vs Q E hr h => ?_)
  obtain ⟨l, m, hvs, ⟨hi, hl⟩, q⟩ := h
  obtain ⟨a, b, rfl, ⟨p, rfl, hs⟩, ⟨p2, rfl, hs2⟩⟩ := all2 hvs
  refine ⟨_, pss_one (ps_ret (pe_tupleOf (by rfl) (T.b "tuple" (by decide)) (pe_lc (own := [("thing", 2)]) (g := gName 2) (tt := tYes) rfl sc18.nd (pi_tup (pv 1)) (blkOk_by (N := ["one", "other", "thing"]) (sc := defScope (topS 18)) (own := [("thing", 2)]) (by decide +kernel))
    (fun _ _ _ _ _ => pg_name (i := 2) sc18.nd rfl (Or.inl rfl)) (fun _ _ _ _ _ => pts_nil) (fun _ _ _ _ _ => pe_ix (ix_tupK K) (pv 0) (pv 2) (fun _ _ => rfl))))), ?_⟩
  refine s_ret (EvG.T (eg_tupleOf (EvG.vals (iV (ledBy l m)) (eg_lcT (xs := iV m) (fun _ => true) _ (fun _ => firm_V) (eg_vT rfl hs2) (by rw [iV_length]; omega) (fun _ => wipe_one _ _ _) (fun _ _ _ _ _ => eb_yes) (fun i x H1 e1 hx _ => ?_)) (by unfold ledBy; rw [iV_length, iV_length, List.length_map])))) q
  rw [iV_get] at hx
  obtain ⟨n, hn, rfl⟩ := Option.map_eq_some_iff.mp hx
  have hlt := hi n (List.mem_of_getElem? hn)
  have h1 : l[n]? = some l[n] := List.getElem?_eq_getElem hlt
  have h2 : (ledBy l m)[i]? = some l[n] := by
    unfold ledBy
    rw [List.getElem?_map, hn]
    exact congrArg some (getD_of h1)
  rw [getD_iV h2]
  exact eg_op (eg_vT rfl (Evl.ex_t e1 hs)) (eg_v rfl) (og_ixT (at_iV h1))
end
end K2

namespace K2
open PySem PySem.Spec PyProof.Rows L2
open Evl (Ex)
set_option Elab.async false
set_option linter.all false
set_option maxRecDepth 100000
set_option maxHeartbeats 4000000
/-! ### loops over enumerate(t) -/
theorem pg_tupK (K : PySem.W.Frag) {X : Cx} {es : List Expr} {k : Nat} {t : TGs} {n : Nat} {pos : Pos} (cm : X.calm = true) (h : PGs X es t) (hK : X.K = K := by rfl) (hn : (assignEach es X.env).length = n := by rfl)
    (hst : (assignEach es X.env).findIdx? (·.1) = none := by rfl) : PG X (.Tuple es k pos) (gTup K n t) := by
  subst hK
  exact pg_tup cm h hn hst
abbrev gTwo (K : PySem.W.Frag) (j j' : Nat) : TG := gTup K 2 (gCons (gName j) (gCons (gName j') gNil))
theorem g_two {K : PySem.W.Frag} {j j' : Nat} {t : Addr} {x y : V} {σ : L2.St} {H : Hp} {Q : L2.St → Hp → Prop} (ht : SqT K H t [x, y]) (q : Q ((σ.set j (some x)).set j' (some y)) H) : gTwo K j j' (.ref t) σ H Q :=
  ⟨t, [x, y], rfl, ht, rfl, x, [y], rfl, y, [], rfl, rfl, q⟩
section
variable {K : PySem.W.Frag} {σ σ2 : L2.St} {H H' : Hp} {te tl : TE} {t : TT} {f : Nat → Bool} {Rv : Nat → Is} {d : Addr} {i j j' : Nat}
theorem Cwd.new {H1 : Hp} {p : Addr} {o : HO} (c : Cwd H1 f Rv d i H) (hp : H p = none) : Cwd H1 f Rv d i (upd H p o) := by
  obtain ⟨c1, c2, acc, c3, c4⟩ := c
  exact ⟨c1, c2.trans (Ex.new hp), acc, Ex.new hp _ _ c3, c4.st (Ex.new hp)⟩
theorem eg_lcE {ta : TA} {vs : List Nat} {xs : List V} (f : Nat → Bool) (Rv : Nat → Is) (firm : ∀ k, Firm (Rv k)) (h : EvAs ta σ H [isT K xs]) (hz : xs.length ≤ 40000) (hw : ∀ x y, wipe (((wipe σ vs).set j (some x)).set j' (some y)) vs = wipe σ vs)
    (ht : ∀ (i : Nat) (x : V) H1, Ex H H1 → xs[i]? = some x → EvB t (((wipe σ vs).set j (some (.int (i : Int)))).set j' (some x)) H1 (f i))
    (he : ∀ (i : Nat) (x : V) H1, Ex H H1 → xs[i]? = some x → f i = true → EvG te (((wipe σ vs).set j (some (.int (i : Int)))).set j' (some x)) H1 (Rv i)) :
    EvG (tLc (iEnumT K ta) (gTwo K j j') t te vs) σ H (isLs K (kept xs.length f Rv)) := fun H0 e Q q => h H0 e _ fun us H1 e1 hus => by
  obtain ⟨v, rfl, a, rfl, hx⟩ := all1 hus
  refine ⟨a, xs, rfl, hx, fun D hD => ⟨fun i m H' => m = xs.length - i ∧ i ≤ xs.length ∧ Cwd H1 f Rv D i H', ⟨_, rfl, Nat.zero_le _, cwd_start hD⟩, fun i m H' ⟨hm, hi, p⟩ => ?_⟩⟩
  have hq : SqT K H' a xs := Evl.ex_t p.2.1 hx
  by_cases hlt : i < xs.length
  · have hxi : xs[i]? = some xs[i] := List.getElem?_eq_getElem hlt
    refine .inr ⟨⟨xs, xs[i], hq, hxi⟩, fun H2 => Cwd H1 f Rv D (i + 1) H2, fun H2 c => ⟨xs.length - (i + 1), by omega, rfl, hlt, c⟩, fun u H2 ⟨tt, x, e1', nt, e2', hall⟩ => ?_⟩
    subst e1' e2'
    have ex : xs[i] = x := Option.some.inj (hxi.symm.trans (hall xs hq))
    subst ex
    exact g_two (.inl (.inl upd_same)) ⟨hw _ _, cwd_turn firm (p.new nt) (by omega) (ht i _ H1 (e.trans e1) hxi) (fun hf => he i _ H1 (e.trans e1) hxi hf)⟩
  · obtain ⟨p1, p2, acc, p3, p4⟩ := p
    have hn : i = xs.length := by omega
    subst hn
    exact .inl ⟨⟨xs, hq, rfl⟩, q _ H' (e1.trans p2) ⟨D, acc, rfl, p3, p4⟩⟩
theorem s_forE {D : Ends} {tu : TS} {ta : TA} {xs : List V} (h : EvAs ta σ H [isT K xs]) (k : ∀ a H1, Ex H H1 → SqT K H1 a xs → ∃ Pv : Nat → L2.St → Hp → Prop, Pv 0 σ H1 ∧ (∀ i σ' H', Pv i σ' H' → SqT K H' a xs) ∧
    (∀ i x σ' H' H2, xs[i]? = some x → Pv i σ' H' → Ex H' H2 → tu { D with nx := Pv (i + 1), ct := Pv (i + 1), bk := D.nx } ((σ'.set j (some (.int (i : Int)))).set j' (some x)) H2) ∧ ∀ σ' H', Pv xs.length σ' H' → D.nx σ' H') :
    tFor (iEnumT K ta) (gTwo K j j') tu D σ H := h H (Ex.refl H) _ fun us H1 e1 hus => by
  obtain ⟨v, rfl, a, rfl, hx⟩ := all1 hus
  obtain ⟨Pv, h0, h1, h2, h3⟩ := k a H1 e1 hx
  refine ⟨a, xs, rfl, hx, fun i m σ' H' => m = xs.length - i ∧ i ≤ xs.length ∧ Pv i σ' H', ⟨_, rfl, Nat.zero_le _, h0⟩, fun i m σ' H' ⟨hm, hi, p⟩ => ?_⟩
  have hq := h1 i σ' H' p
  by_cases hlt : i < xs.length
  · have hxi : xs[i]? = some xs[i] := List.getElem?_eq_getElem hlt
    refine .inr ⟨⟨xs, xs[i], hq, hxi⟩, fun σ2 H2 => Pv (i + 1) σ2 H2, fun σ2 H2 c => ⟨xs.length - (i + 1), by omega, rfl, hlt, c⟩, fun u H2 ⟨tt, x, e1', nt, e2', hall⟩ => ?_⟩
    subst e1' e2'
    have ex : xs[i] = x := Option.some.inj (hxi.symm.trans (hall xs hq))
    subst ex
    exact g_two (.inl (.inl upd_same)) (h2 i _ σ' H' _ hxi p (Ex.new nt))
  · have hn : i = xs.length := by omega
    subst hn
    exact .inl ⟨⟨xs, hq, rfl⟩, h3 σ' H' p⟩
end
/-! ### a dict of pairs -/
theorem valV_out {k : Key} : ∀ (kvs acc : List (Key × V)), k ∉ kvs.map (·.1) → valV (mergeK acc kvs) k = valV acc k
  | [], _, _ => rfl
  | p :: r, acc, h => by
    show valV (mergeK (putK acc p.1 p.2) r) k = _
    rw [List.map_cons, List.mem_cons, not_or] at h
    rw [valV_out r _ h.2, valV_put, if_neg h.1]
theorem valV_merged : ∀ (kvs acc : List (Key × V)) (i : Nat) (p : Key × V), (kvs.map (·.1)).Nodup → kvs[i]? = some p → valV (mergeK acc kvs) p.1 = some p.2
  | p :: r, acc, 0, q, h, e => by
    cases (Option.some.inj e)
    rw [List.map_cons, List.nodup_cons] at h
    show valV (mergeK (putK acc p.1 p.2) r) p.1 = _
    rw [valV_out r _ h.1, valV_put, if_pos rfl]
  | p :: r, acc, i + 1, q, h, e => by
    rw [List.map_cons, List.nodup_cons] at h
    exact valV_merged r (putK acc p.1 p.2) i q h.2 e
def placesOf (l : List Nat) : List (Key × V) := (List.range l.length).map fun (i : Nat) => ((Sum.inl ((l.getD i 0 : Nat) : Int) : Key), V.int (i : Int))
theorem places_key (l : List Nat) : (placesOf l).map (·.1) = l.map fun (n : Nat) => (Sum.inl (n : Int) : Key) := by
  unfold placesOf
  rw [List.map_map]
  exact range_map_getD 0 (fun (n : Nat) => (Sum.inl (n : Int) : Key)) l
theorem places_at {l : List Nat} (o : Ord l) {t : Nat} (ht : t < l.length) : valV (mergeK [] (placesOf l)) (Sum.inl (t : Int)) = some (.int (l.idxOf t : Nat)) := by
  have hg := get_idx (o.mem ht)
  have h1 : (placesOf l)[l.idxOf t]? = some ((Sum.inl (t : Int) : Key), V.int (l.idxOf t : Nat)) := by
    unfold placesOf
    rw [List.getElem?_map, List.getElem?_range (List.idxOf_lt_length_of_mem (o.mem ht))]
    show some (_, _) = _
    rw [getD_of hg]
  refine valV_merged (placesOf l) [] _ _ ?_ h1
  rw [places_key]
  refine List.pairwise_map.mpr (o.nd.imp fun {a b} hab e => hab ?_)
  have := Sum.inl.inj e
  omega
/-- a dict of whole keys -/
def isD (kvs : List (Key × V)) : Is := ⟨fun x H => ∃ a, x = .ref a ∧ H a = some (.dK kvs), fun _ _ _ e ⟨a, h1, h2⟩ => ⟨a, h1, e _ _ h2⟩⟩
section
variable {K : PySem.W.Frag} {σ : L2.St} {H : Hp} {ta tb : TE}
theorem eg_dget {kvs : List (Key × V)} {k : Key} {v : V} (ha : EvG ta σ H (isD kvs)) (hb : EvG tb σ H (isV (kV k))) (hv : valV kvs k = some v) : EvG (tDGet ta tb) σ H (isV v) := fun H1 e Q q =>
  ha H1 e _ fun x H2 e2 ⟨a, hx, hd⟩ => hb H2 (e.trans e2) _ fun y H3 e3 hy => ⟨a, v, hx, by
    cases (show y = kV k from hy)
    rw [← hv]
    exact DGet.k (e3 _ _ hd), q v H3 (e2.trans e3) rfl⟩
/-- a pair -/
def isP (K : PySem.W.Frag) (a b : V) : Is := isT K [a, b]
theorem pairs_paired {H : Hp} : ∀ {kvs : List (Key × V)} {vs : List V}, AllIs (kvs.map fun p => isT K [kV p.1, p.2]) vs H → ∃ ps : List Addr, vs = ps.map V.ref ∧ Paired (fun p kv => SqT K H p [kV kv.1, kv.2]) ps kvs
  | [], [], _ => ⟨[], rfl, .nil⟩
  | p :: r, v :: vs, ⟨⟨a, h1, h2⟩, h3⟩ => by
    obtain ⟨ps, e, q⟩ := pairs_paired h3
    exact ⟨a :: ps, by rw [h1, e]; rfl, .cons h2 q⟩
theorem cg_dict {kvs : List (Key × V)} : CbG (fun xs H Q => ∃ (a : Addr) (ps : List Addr) (kvs : List (Key × V)), xs = [.ref a] ∧ SqL K H a (ps.map V.ref) ∧ Paired (fun p kv => SqT K H p [kV kv.1, kv.2]) ps kvs ∧ ∀ p, H p = none → Q (.ref p) (upd H p (.dK (mergeK [] kvs))))
    [isLs K (kvs.map fun p => isT K [kV p.1, p.2])] H (isD (mergeK [] kvs)) := fun H1 _ vs hvs Q q => by
  obtain ⟨v, rfl, a, us, rfl, hl, hu⟩ := all1 hvs
  obtain ⟨ps, e, hp⟩ := pairs_paired hu
  rw [e] at hl
  exact ⟨a, ps, kvs, rfl, .inl (.inl hl), hp, fun p np => q _ _ (Ex.new np) ⟨p, rfl, upd_same⟩⟩
end
section
variable {P : Program} {w : World} {K : PySem.W.Frag} {mg : Str → Option Value} {base : Heap}
/-! ### opposite_of -/
def spOpp (K : PySem.W.Frag) : Sp := fun vs H Q _ => ∃ (l : List Nat), AllIs [isT K (iV l)] vs H ∧ (Ord l ∧ l.length ≤ 1000) ∧ Gives (isT K (iV (opp l))) H Q
theorem sg_opp {H : Hp} {l : List Nat} (h : Ord l ∧ l.length ≤ 1000) : SpG (spOpp K) [isT K (iV l)] H (isT K (iV (opp l))) := fun _ _ _ hvs _ _ q => ⟨l, hvs, h, q⟩
theorem sc17 : FnScope ["order", "places", "place", "thing"] ["order"] (defScope (topS 17)) := ⟨rfl, rfl, rfl, by decide +kernel, rfl, by decide +kernel, by decide +kernel⟩
theorem cl_opp (T : Top K mg) : Cl P w K mg base CX0 1 "opposite_of" ["order"] (spOpp K) := by
  refine cl0 (T.d (17, _) (by decide)) sc17 (fun vs H Q E ⟨_, h, _⟩ => h.len) (fun _ _ _ _ _ _ us hl => match us, hl with | [_], _ => rfl) (fun f cdv A outer s H vs Q E hr h => ?_)
  obtain ⟨l, hvs, ⟨o, hl⟩, q⟩ := h
  obtain ⟨a, rfl, p, rfl, hs⟩ := all1 hvs
  refine ⟨_, pss_cons (ps_set (i := 1) sc17.nd rfl (.inr rfl) (pe_callTy (call_dictP rfl) (by rfl) (T.b "dict" (by decide)) (by decide +kernel) (pa_cons
      (pe_lc (own := [("place", 2), ("thing", 3)]) (g := gTwo K 2 3) (tt := tYes) rfl sc17.nd (pi_enumT (T.b "enumerate" (by decide)) (pa_cons (pv 0) pa_nil)) (blkOk_by (N := ["order", "places", "place", "thing"]) (sc := defScope (topS 17)) (own := [("place", 2), ("thing", 3)]) (by decide +kernel))
        (fun _ _ _ _ _ => pg_tupK K rfl (pgs_cons (pg_name (i := 2) sc17.nd rfl (Or.inl rfl)) (pgs_cons (pg_name (i := 3) sc17.nd rfl (Or.inl rfl)) pgs_nil))) (fun _ _ _ _ _ => pts_nil) (fun _ _ _ _ _ => pe_tup (pa_cons (pv 3) (pa_cons (pv 2) pa_nil)))) pa_nil)))
    (pss_one (ps_ret (pe_tupleOf (by rfl) (T.b "tuple" (by decide)) (pe_lc (own := [("thing", 3)]) (g := gName 3) (tt := tYes) rfl sc17.nd (pi_range1 (by rfl) (T.b "range" (by decide)) (pa_cons (pe_callB (call_lenK K) (by rfl) (T.b "len" (by decide)) PySem.boot_len (pa_cons (pv 0) pa_nil)) pa_nil))
      (blkOk_by (N := ["order", "places", "place", "thing"]) (sc := defScope (topS 17)) (own := [("thing", 3)]) (by decide +kernel)) (fun _ _ _ _ _ => pg_name (i := 3) sc17.nd rfl (Or.inl rfl)) (fun _ _ _ _ _ => pts_nil) (fun _ _ _ _ _ => pe_dget (hu_of hr) (pv 1) (pv 3) (fun _ _ => rfl)))))), ?_⟩
  refine q_asg (eg_cb (as_cons (EvG.imp (eg_lcE (xs := iV l) (fun _ => true) (fun i => isT K [V.int (l.getD i 0 : Nat), V.int (i : Nat)]) (fun _ => firm_T) (as_cons (eg_vT rfl hs) as_nil) (by rw [iV_length]; omega) (fun _ _ => rfl) (fun _ _ _ _ _ => eb_yes) (fun i x H1 e1 hx _ => ?_)) (fun v H1 e1 hv => ?_)) as_nil) (cg_dict (kvs := placesOf l))) (fun v H1 e1 hv => ?_)
  · rw [iV_get] at hx
    obtain ⟨n, hn, rfl⟩ := Option.map_eq_some_iff.mp hx
    rw [getD_of hn]
    exact eg_tup (xs := [V.int (n : Nat), V.int (i : Nat)]) (as_cons (eg_v rfl) (as_cons (eg_v rfl) as_nil)) (by show 2 ≤ 100000; decide)
  · rw [kept_all, iV_length] at hv
    show (isLs K ((placesOf l).map fun p => isT K [kV p.1, p.2])).p v H1
    unfold placesOf
    rw [List.map_map]
    exact hv
  · have hd : (isD (mergeK [] (placesOf l))).p v H1 := hv
    refine s_ret (EvG.T (eg_tupleOf (EvG.vals (iV (opp l)) (eg_lcR (n := (l.length : Nat)) (fun _ => true) _ (fun _ => firm_V) (as_cons (eg_is (eg_cb (as_cons (eg_vT rfl (Evl.ex_t e1 hs)) as_nil) cgk_lenT) (by rw [iV_length])) as_nil) (by omega) (fun _ => wipe_one _ _ _) (fun _ _ _ _ => eb_yes) (fun i H2 e2 hi _ => ?_)) (by rw [iV_length, opp_length]; rfl)))) fun v2 H2 e2 hv2 => q v2 H2 (e1.trans e2) hv2
    have hi : i < l.length := by omega
    rw [getD_iV (opp_get hi)]
    exact eg_dget (k := Sum.inl (i : Int)) (eg_var rfl ((isD _).st _ _ _ e2 hd)) (eg_v rfl) (places_at o hi)
/-! ### renamed_at -/
def spRen (K : PySem.W.Frag) : Sp := fun vs H Q _ => ∃ (l : List Nat) (t : Nat), AllIs [isT K (iV l), isV (.int (t : Int))] vs H ∧ (Ord l ∧ t + 1 < l.length ∧ l.length ≤ 1000) ∧ Gives (isT K (iV (l.map (tau t)))) H Q
theorem sg_ren {H : Hp} {l : List Nat} {t : Nat} (h : Ord l ∧ t + 1 < l.length ∧ l.length ≤ 1000) : SpG (spRen K) [isT K (iV l), isV (.int (t : Int))] H (isT K (iV (l.map (tau t)))) := fun _ _ _ hvs _ _ q => ⟨l, t, hvs, h, q⟩
theorem sc20 : FnScope ["order", "thing"] ["order", "thing"] (defScope (topS 20)) := ⟨rfl, rfl, rfl, by decide +kernel, rfl, by decide +kernel, by decide +kernel⟩
theorem cl_ren (T : Top K mg) : Cl P w K mg base CX0 2 "renamed_at" ["order", "thing"] (spRen K) := by
  have CS : Cl P w K mg base CX0 1 "swapped_at" ["order", "place"] (spSwap K) := cl_swap T
  have CO : Cl P w K mg base CX0 1 "opposite_of" ["order"] (spOpp K) := cl_opp T
  refine cl0 (T.d (20, _) (by decide)) sc20 (fun vs H Q E ⟨_, _, h, _⟩ => h.len) (fun _ _ _ _ _ _ us hl => match us, hl with | [_, _], _ => rfl) (fun f cdv A outer s H vs Q E hr h => ?_)
  obtain ⟨l, t, hvs, ⟨o, ht, hl⟩, q⟩ := h
  obtain ⟨a, b, rfl, ⟨p, rfl, hs⟩, hb⟩ := all2 hvs
  cases (show b = V.int t from hb)
  refine ⟨_, pss_one (ps_ret (pe_cl CO hr (by decide) pass0 (pa_cons (pe_cl CS hr (by decide) pass0 (pa_cons (pe_cl CO hr (by decide) pass0 (pa_cons (pv 0) pa_nil)) (pa_cons (pv 1) pa_nil))) pa_nil))), ?_⟩
  refine s_ret (eg_isT (eg_call (as_cons (eg_call (as_cons (eg_call (as_cons (eg_vT rfl hs) as_nil) (sg_opp ⟨o, hl⟩)) (as_cons (eg_v rfl) as_nil)) (sg_swap (i := t) ⟨by rw [opp_length]; exact ht, by rw [opp_length]; exact hl⟩)) as_nil) (sg_opp ⟨(opp_ord o).sw t, by rw [sw_length, opp_length]; exact hl⟩)) (by rw [opp_sw o ht])) q
end
end K2

namespace K2
open PySem PySem.Spec PyProof.Rows L2
open Evl (Ex)
set_option Elab.async false
set_option linter.all false
set_option maxRecDepth 100000
set_option maxHeartbeats 4000000
/-! ### orders among the values -/
theorem ord_of {l : List Nat} (nd : l.Nodup) (h : ∀ x ∈ l, x < l.length) : Ord l := by
  refine (List.perm_ext_iff_of_nodup nd List.nodup_range).mpr fun x => ⟨fun hx => List.mem_range.mpr (h x hx), fun hx => ?_⟩
  rw [List.mem_range] at hx
  by_cases hm : x ∈ l
  · exact hm
  · have := (List.nodup_cons.mpr ⟨hm, nd⟩).length_le_of_subset (l₂ := List.range l.length) fun y hy => by
      rcases List.mem_cons.mp hy with z | z
      · rw [z]; exact List.mem_range.mpr hx
      · exact List.mem_range.mpr (h y z)
    rw [List.length_cons, List.length_range] at this
    omega
theorem fitsO_ord {xs : List V} (h : fitsO xs = true) : ∃ l : List Nat, xs = iV l ∧ Ord l ∧ 1 ≤ l.length ∧ l.length ≤ 30 := by
  unfold fitsO at h
  rw [Bool.and_eq_true, Bool.and_eq_true, decide_eq_true_eq, decide_eq_true_eq] at h
  obtain ⟨hl, hw, nd⟩ := h
  obtain ⟨ns, e, hn⟩ := wholes_ints hw
  rw [e, intsOf_map] at nd
  have len : xs.length = ns.length := by rw [e, List.length_map]
  have back : ∀ n ∈ ns, ((n.toNat : Nat) : Int) = n := fun n m => by have := (hn n m).1; omega
  have e2 : xs = iV (ns.map Int.toNat) := by
    rw [e]
    unfold iV
    rw [List.map_map]
    exact List.map_congr_left fun n m => congrArg V.int (back n m).symm
  refine ⟨ns.map Int.toNat, e2, ord_of ?_ ?_, by rw [List.length_map, ← len]; exact hl.1, by rw [List.length_map, ← len]; exact hl.2⟩
  · refine List.pairwise_map.mpr (nd.imp_of_mem fun {a b} ha hb hab e => hab ?_)
    have h1 := back a ha
    have h2 := back b hb
    rw [e] at h1
    exact h1.symm.trans h2
  · intro x hx
    obtain ⟨n, m, e3⟩ := List.mem_map.mp hx
    have := hn n m
    rw [List.length_map]
    have hb := back n m
    rw [e3] at hb
    omega
theorem intsOf_iV (l : List Nat) : intsOf (iV l) = l.map fun (n : Nat) => (n : Int) := by
  have := intsOf_map (l.map fun (n : Nat) => (n : Int))
  rw [List.map_map] at this
  exact this
theorem wholes_iV {l : List Nat} {n : Int} (h : ∀ x ∈ l, (x : Int) ≤ n) : wholes (iV l) 0 n = true := by
  unfold wholes iV
  rw [List.all_map, List.all_eq_true]
  intro x hx
  have := h x hx
  simp [whole, this]
theorem ord_fits {l : List Nat} (o : Ord l) (h1 : 1 ≤ l.length) (h2 : l.length ≤ 30) : fitsO (iV l) = true := by
  unfold fitsO
  rw [Bool.and_eq_true, Bool.and_eq_true, decide_eq_true_eq, decide_eq_true_eq]
  refine ⟨by rw [iV_length]; exact ⟨h1, h2⟩, wholes_iV fun x hx => ?_, ?_⟩
  · have := o.lt hx
    rw [iV_length]
    omega
  · rw [intsOf_iV]
    refine List.pairwise_map.mpr (o.nd.imp fun {a b} hab e => hab (by omega))
theorem odd_iV {K : PySem.W.Frag} {H : Hp} {v : V} {l : List Nat} (h : (isT K (iV l)).p v H) : Odd K H v (iV l) := by
  obtain ⟨a, rfl, hs⟩ := h
  refine .tup hs fun _ x hx => ?_
  obtain ⟨n, _, rfl⟩ := List.mem_map.mp hx
  exact .int _
/-! ### rows among the values -/
/-- a value asked as a row: a tuple of told kinds, or no tuple -/
inductive OddR (K : PySem.W.Frag) (H : Hp) : V → Option (List V) → Prop where
  | tup {a : Addr} {xs : List V} (h : SqT K H a xs) (hz : xs.length ≤ 1000) (hk : xs.length ≤ 450 → ∀ x ∈ xs, Knd K H x) : OddR K H (.ref a) (some xs)
  | oth {v : V} {n : String} (h : KTy K H v n) (hn : kitB n "tuple" = some false) : OddR K H v none
theorem OddR.ex {K : PySem.W.Frag} {H H' : Hp} {v : V} {o : Option (List V)} (e : Ex H H') (h : OddR K H v o) : OddR K H' v o := by
  cases h with
  | tup h hz hk => exact .tup (Evl.ex_t e h) hz fun z x hx => (hk z x hx).ex e
  | oth h hn => exact .oth (h.ex e) hn
def isOddR (K : PySem.W.Frag) (o : Option (List V)) : Is := ⟨fun v H => OddR K H v o, fun _ _ _ e h => h.ex e⟩
def fitsR (m : Int) : Option (List V) → Bool
  | none => false
  | some xs => decide (xs.length ≤ 450) && wholes xs 0 (m - 2)
/-- the row of n things -/
def Row (n : Nat) (r : List Nat) : Prop := (∀ i ∈ r, i + 1 < n) ∧ r.length ≤ 450
theorem fitsR_row {n : Nat} {xs : List V} (h : fitsR (n : Int) (some xs) = true) : ∃ r : List Nat, xs = iV r ∧ Row n r := by
  unfold fitsR at h
  rw [Bool.and_eq_true, decide_eq_true_eq] at h
  obtain ⟨hl, hw⟩ := h
  obtain ⟨ns, e, hn⟩ := wholes_ints hw
  have back : ∀ k ∈ ns, ((k.toNat : Nat) : Int) = k := fun k m => by have := (hn k m).1; omega
  refine ⟨ns.map Int.toNat, ?_, fun i hi => ?_, ?_⟩
  · rw [e]
    unfold iV
    rw [List.map_map]
    exact List.map_congr_left fun k m => congrArg V.int (back k m).symm
  · obtain ⟨k, m, e3⟩ := List.mem_map.mp hi
    have := hn k m
    have hb := back k m
    rw [e3] at hb
    omega
  · rw [List.length_map]
    rw [e, List.length_map] at hl
    exact hl
theorem row_fits {n : Nat} {r : List Nat} (h : Row n r) : fitsR (n : Int) (some (iV r)) = true := by
  show (decide ((iV r).length ≤ 450) && wholes (iV r) 0 ((n : Int) - 2)) = true
  rw [Bool.and_eq_true, decide_eq_true_eq]
  exact ⟨by rw [iV_length]; exact h.2, wholes_iV fun x hx => by have := h.1 x hx; omega⟩
theorem oddR_iV {K : PySem.W.Frag} {H : Hp} {v : V} {r : List Nat} (h : (isT K (iV r)).p v H) (hz : r.length ≤ 450) : OddR K H v (some (iV r)) := by
  obtain ⟨a, rfl, hs⟩ := h
  refine .tup hs (by rw [iV_length]; omega) fun _ x hx => ?_
  obtain ⟨n, _, rfl⟩ := List.mem_map.mp hx
  exact .int _
theorem OddR.ty {K : PySem.W.Frag} {H : Hp} {v : V} {o : Option (List V)} (h : OddR K H v o) : (∃ a xs, v = .ref a ∧ o = some xs ∧ SqT K H a xs ∧ xs.length ≤ 1000 ∧ (xs.length ≤ 450 → ∀ x ∈ xs, Knd K H x)) ∨ (o = none ∧ ∃ n, KTy K H v n ∧ kitB n "tuple" = some false) := by
  cases h with
  | tup h hz hk => exact .inl ⟨_, _, rfl, rfl, h, hz, hk⟩
  | oth h hn => exact .inr ⟨rfl, _, h, hn⟩
section
variable {P : Program} {w : World} {K : PySem.W.Frag} {mg : Str → Option Value} {base : Heap}
/-! ### fits_row -/
def spFitsR (K : PySem.W.Frag) : Sp := fun vs H Q _ => ∃ (m : Int) (o : Option (List V)), AllIs [isV (.int m), isOddR K o] vs H ∧ Gives (isV (.bl (fitsR m o))) H Q
theorem sg_fitsR {H : Hp} {m : Int} {o : Option (List V)} : SpG (spFitsR K) [isV (.int m), isOddR K o] H (isV (.bl (fitsR m o))) := fun _ _ _ hvs _ _ q => ⟨m, o, hvs, q⟩
theorem sc21 : FnScope ["many", "value", "one"] ["many", "value"] (defScope (topS 21)) := ⟨rfl, rfl, rfl, by decide +kernel, rfl, by decide +kernel, by decide +kernel⟩
theorem cl_fitsR (T : Top K mg) : Cl P w K mg base CX0 2 "fits_row" ["many", "value"] (spFitsR K) := by
  have CW : Cl P w K mg base CX0 1 "is_whole" ["value", "low", "high"] (spWhole K) := cl_whole T
  obtain ⟨tt, hth⟩ := T.long
  refine cl0 (T.d (21, _) (by decide)) sc21 (fun vs H Q E ⟨_, _, h, _⟩ => h.len) (fun _ _ _ _ _ _ us hl => match us, hl with | [_, _], _ => rfl) (fun f cdv A outer s H vs Q E hr h => ?_)
  obtain ⟨m, o, hvs, q⟩ := h
  obtain ⟨x1, v, rfl, h1, h2⟩ := all2 hvs
  cases (show x1 = V.int m from h1)
  have h2 : OddR K H v o := h2
  refine ⟨_, pss_cons (ps_if (PW.pt (pw_or (pt_not (pt_val (pe_callB call_isi (by rfl) (T.b "isinstance" (by decide)) (by decide +kernel) (pa_cons (pv 1) (pa_cons (pe_bltn (v := .ty "tuple") (by rfl) (T.b "tuple" (by decide)) (by decide +kernel) rfl) pa_nil)))))
        (pw_or1 (pt_cmpR op_gt (pe_callB (call_lenK K) (by rfl) (T.b "len" (by decide)) PySem.boot_len (pa_cons (pv 1) pa_nil)) (pe_glob (v := .int 450) (by rfl) hth ⟨_, rfl⟩) (nomark _))))) (pss_one (ps_ret pe_bl)) pss_nil)
      (pss_one (ps_ret (pe_callB (cr_all rfl) (by rfl) (T.b "all" (by decide)) (by decide +kernel) (pa_cons
          (pe_lc (own := [("one", 2)]) (g := gName 2) (tt := tYes) rfl sc21.nd (pi_tup (pv 1)) (blkOk_by (N := ["many", "value", "one"]) (sc := defScope (topS 21)) (own := [("one", 2)]) (by decide +kernel)) (fun _ _ _ _ _ => pg_name (i := 2) sc21.nd rfl (Or.inl rfl)) (fun _ _ _ _ _ => pts_nil)
            (fun _ _ _ _ _ => pe_cl CW hr (by decide) pass0 (pa_cons (pv 2) (pa_cons pe_int (pa_cons (pe_op op_sub (pv 0) pe_int) pa_nil))))) pa_nil)))), ?_⟩
  rcases h2.ty with ⟨a, xs, rfl, rfl, hs, hz, hk⟩ | ⟨rfl, n, kt, hn⟩
  · refine q_when (b := decide (450 < (xs.length : Int))) (eb_is (eb_or (a := false) (eb_not (a := true) (eb_B (eg_cb (as_cons (R := isTy K "tuple" (.ref a)) (eg_var rfl ⟨rfl, .tup hs⟩) (as_cons eg_c as_nil)) (cg_isi (fun _ _ _ h => h.1 ▸ h.2.x) (by decide +kernel)))))
        (fun _ => eb_test (eg_op (eg_cb (as_cons (eg_vT rfl hs) as_nil) cgk_lenT) eg_c og_I0))) (Bool.false_or _)) (fun hb H1 e1 => ?_) (fun hb H1 e1 => ?_)
    · refine s_ret eg_c fun v1 H2 e2 hv => q v1 H2 (e1.trans e2) ?_
      have ef : fitsR m (some xs) = false := by
        show (decide (xs.length ≤ 450) && wholes xs 0 (m - 2)) = false
        rw [decide_eq_false (fun z => by simp at hb; omega), Bool.false_and]
      rw [ef]
      exact hv
    · have hb : xs.length ≤ 450 := by
        simp at hb
        omega
      have hs1 := Evl.ex_t e1 hs
      have kn := hk hb
      refine s_ret (eg_is (eg_cb (as_cons (EvG.L (xs := (xs.map fun v => whole v 0 (m - 2)).map V.bl) (EvG.imp (eg_lcT (xs := xs) (fun _ => true) (fun i => isV (.bl (whole (xs.getD i .non) 0 (m - 2)))) (fun _ => firm_V)
          (eg_vT rfl hs1) (by omega) (fun _ => wipe_one _ _ _) (fun _ _ _ _ _ => eb_yes) (fun i x H2 e2 hi _ => ?_)) fun u H2 _ hu => ?_)) as_nil) cg_all) ?_) fun v1 H2 e2 hv => q v1 H2 (e1.trans e2) hv
      · rw [getD_of hi]
        exact eg_call (as_cons (R := isK K x) (eg_var rfl ⟨rfl, (kn x (List.mem_of_getElem? hi)).ex (e1.trans e2)⟩) (as_cons eg_c (as_cons (eg_op (eg_v rfl) eg_c og_I0) as_nil))) sg_whole
      · rw [kept_all, range_map_getD V.non (fun v => isV (.bl (whole v 0 (m - 2)))) xs] at hu
        rw [List.map_map, List.map_map]
        exact hu
      · show V.bl _ = V.bl (decide (xs.length ≤ 450) && wholes xs 0 (m - 2))
        rw [List.all_map, decide_eq_true hb, Bool.true_and]
        rfl
  · exact q_when (b := true) (eb_is (eb_or (a := true) (b := true) (eb_not (a := false) (eb_B (eg_cb (as_cons (R := isTy K n v) (eg_var rfl ⟨rfl, kt⟩) (as_cons eg_c as_nil)) (cg_isi (fun _ _ _ h => h.1 ▸ h.2.x) hn)))) (fun z => by cases z)) rfl)
      (fun _ H1 e1 => s_ret eg_c fun v1 H2 e2 hv => q v1 H2 (e1.trans e2) hv) (fun z => by cases z)

/-! ### the errors -/
/-- what is wanted of an error by name -/
def Errs (mg : Str → Option Value) (x : Str) (H : Hp) (E : XK) : Prop := ∀ C, mg x = some (.ref C) → ∀ H2, Ex H H2 → E (.ref C) none H2
theorem Errs.ex {x : Str} {H H' : Hp} {E : XK} (h : Errs mg x H E) (e : Ex H H') : Errs mg x H' E := fun C g H2 e2 => h C g H2 (e.trans e2)
/-- raise X('..') in a def -/
theorem ps_err {X : Cx} {W : WX} {x m : Str} {j : Nat} {p p2 pos pos2 : Pos} {C : Addr} (cm : X.calm = true) (tk : L2N.Takes X W) (e : ErrAt X.K X.mg x C) (hg : Gl X x := by rfl) (hdb : (x == ("__debug__" : Str)) = false := by decide) :
    PS X (.Raise (some (.Call (.Name x p) [.Constant (.str m) j p2] [] pos)) none pos2) (fun _ σ H => W (.ref C) none σ H) :=
  L2N.ps_raise cm tk (L2N.pmk_own PySem.F.excBase_ValueError e.ex e.g e.k (raises_own e.sub e.ty) hg hdb)
end
end K2

namespace K2
open PySem PySem.Spec PyProof.Rows L2
open Evl (Ex)
set_option Elab.async false
set_option linter.all false
set_option maxRecDepth 100000
set_option maxHeartbeats 4000000
/-- a def that looks at its arguments: it hands back None, or raises -/
def ChkG (mg : Str → Option Value) (sp : Sp) (Rs : List Is) (H : Hp) (x : Str) (b : Bool) : Prop :=
  ∀ H1, Ex H H1 → ∀ vs, AllIs Rs vs H1 → ∀ (Q : VK) (E : XK), (b = true → ∀ H2, Ex H1 H2 → Q .non H2) → (b = false → Errs mg x H1 E) → sp vs H1 Q E
section
variable {mg : Str → Option Value} {σ : L2.St} {H : Hp} {D : Ends} {tz : TS} {tA : TA} {sp : Sp} {Rs : List Is} {x : Str} {b : Bool} {E : XK}
theorem q_chk (h : EvAs tA σ H Rs) (hs : ChkG mg sp Rs H x b) (k : b = true → ∀ H1, Ex H H1 → tz D σ H1) (ke : b = false → Errs mg x H E) : tSeq (tDrop (tCall sp [] E tA)) tz D σ H := h H (Ex.refl H) _ fun vs H1 e hvs => by
  show sp (vs ++ []) H1 _ E
  rw [List.append_nil]
  exact hs H1 e vs hvs _ _ (fun hb H2 e2 => k hb H2 (e.trans e2)) fun hb => (ke hb).ex e
end
/-- the errors of a def are its callers' -/
theorem pass_up {P : Program} {w : World} {K : PySem.W.Frag} {mg : Str → Option Value} {base : Heap} {N : List Str} {qual : Str} {scope : Scope} {f : Addr} {cd : Value} {A : Around} {outer : List Env} {s : Shared} {H : Hp} {E : XK} :
    Passes (L2N.CX P w) (cxOf (L2N.CX P w) P w K mg base N qual scope f cd A outer s H E) E := L2N.passes_call (L2N.takes_of (E := E) rfl rfl rfl rfl) (fun _ _ _ _ h => h)
section
variable {P : Program} {w : World} {K : PySem.W.Frag} {mg : Str → Option Value} {base : Heap}
/-! ### need_order, need_many, need_exchange, need_row, need_alike -/
def spNeedO (K : PySem.W.Frag) (mg : Str → Option Value) : Sp := fun vs H Q E => ∃ xs : List V, AllIs [isOdd K xs] vs H ∧ (fitsO xs = true → ∀ H2, Ex H H2 → Q .non H2) ∧ (fitsO xs = false → Errs mg "InvalidOrder" H E)
theorem ck_order {H : Hp} {xs : List V} : ChkG mg (spNeedO K mg) [isOdd K xs] H "InvalidOrder" (fitsO xs) := fun _ _ _ hvs _ _ q qe => ⟨xs, hvs, q, qe⟩
theorem sc23 : FnScope ["value"] ["value"] (defScope (topS 23)) := ⟨rfl, rfl, rfl, by decide +kernel, rfl, by decide +kernel, by decide +kernel⟩
theorem sg_fits {H : Hp} {xs : List V} : SpG (spFits K) [isOdd K xs] H (isV (.bl (fitsO xs))) := fun H1 _ vs hvs Q E q => by
  obtain ⟨a, rfl, h⟩ := all1 hvs
  exact ⟨a, xs, rfl, h, fun H2 e2 => q _ H2 e2 rfl⟩
theorem cl_needO (T : Top K mg) : Cl P w K mg base (L2N.CX P w) 3 "need_order" ["value"] (spNeedO K mg) := by
  have CF : Cl P w K mg base CX0 2 "fits_order" ["value"] (spFits K) := cl_fits T
  obtain ⟨C, eC⟩ := T.er "InvalidOrder" (by decide)
  refine clN (T.d (23, _) (by decide)) sc23 (fun vs H Q E ⟨_, h, _⟩ => h.len) (fun _ _ _ _ _ _ us hl => match us, hl with | [_], _ => rfl) (fun f cdv A outer s H vs Q E hr h => ?_)
  obtain ⟨xs, hvs, q, qe⟩ := h
  obtain ⟨v, rfl, od⟩ := all1 hvs
  refine ⟨_, pss_one (ps_if (pt_not (pt_val (pe_cl CF hr (by decide) pass0 (pa_cons (pv 0) pa_nil)))) (pss_one (ps_err rfl (L2N.takes_of (E := E) rfl rfl rfl rfl) eC)) pss_nil), ?_⟩
  exact s_if (b := !fitsO xs) (eb_not (eb_B (eg_call (as_cons (eg_var rfl od) as_nil) sg_fits))) (fun hb H1 e1 => qe (by simpa using hb) C eC.g H1 e1) (fun hb H1 e1 => q (by simpa using hb) H1 e1)
def spNeedM (K : PySem.W.Frag) (mg : Str → Option Value) : Sp := fun vs H Q E => ∃ v : V, AllIs [isK K v] vs H ∧ (whole v 1 30 = true → ∀ H2, Ex H H2 → Q .non H2) ∧ (whole v 1 30 = false → Errs mg "InvalidMany" H E)
theorem ck_many {H : Hp} {v : V} : ChkG mg (spNeedM K mg) [isK K v] H "InvalidMany" (whole v 1 30) := fun _ _ _ hvs _ _ q qe => ⟨v, hvs, q, qe⟩
theorem sc24 : FnScope ["value"] ["value"] (defScope (topS 24)) := ⟨rfl, rfl, rfl, by decide +kernel, rfl, by decide +kernel, by decide +kernel⟩
theorem cl_needM (T : Top K mg) : Cl P w K mg base (L2N.CX P w) 2 "need_many" ["value"] (spNeedM K mg) := by
  have CW : Cl P w K mg base CX0 1 "is_whole" ["value", "low", "high"] (spWhole K) := cl_whole T
  obtain ⟨C, eC⟩ := T.er "InvalidMany" (by decide)
  obtain ⟨tt, hth⟩ := T.things
  refine clN (T.d (24, _) (by decide)) sc24 (fun vs H Q E ⟨_, h, _⟩ => h.len) (fun _ _ _ _ _ _ us hl => match us, hl with | [_], _ => rfl) (fun f cdv A outer s H vs Q E hr h => ?_)
  obtain ⟨v, hvs, q, qe⟩ := h
  obtain ⟨v', rfl, od⟩ := all1 hvs
  refine ⟨_, pss_one (ps_if (pt_not (pt_val (pe_cl CW hr (by decide) pass0 (pa_cons (pv 0) (pa_cons pe_int (pa_cons (pe_glob (v := .int 30) (by rfl) hth ⟨_, rfl⟩) pa_nil)))))) (pss_one (ps_err rfl (L2N.takes_of (E := E) rfl rfl rfl rfl) eC)) pss_nil), ?_⟩
  exact s_if (b := !whole v 1 30) (eb_not (eb_B (eg_call (as_cons (eg_var rfl od) (as_cons eg_c (as_cons eg_c as_nil))) sg_whole))) (fun hb H1 e1 => qe (by simpa using hb) C eC.g H1 e1) (fun hb H1 e1 => q (by simpa using hb) H1 e1)
def spNeedX (K : PySem.W.Frag) (mg : Str → Option Value) : Sp := fun vs H Q E => ∃ (m : Int) (v : V), AllIs [isV (.int m), isK K v] vs H ∧ (whole v 0 (m - 2) = true → ∀ H2, Ex H H2 → Q .non H2) ∧ (whole v 0 (m - 2) = false → Errs mg "InvalidExchange" H E)
theorem ck_exch {H : Hp} {m : Int} {v : V} : ChkG mg (spNeedX K mg) [isV (.int m), isK K v] H "InvalidExchange" (whole v 0 (m - 2)) := fun _ _ _ hvs _ _ q qe => ⟨m, v, hvs, q, qe⟩
theorem sc25 : FnScope ["many", "value"] ["many", "value"] (defScope (topS 25)) := ⟨rfl, rfl, rfl, by decide +kernel, rfl, by decide +kernel, by decide +kernel⟩
theorem cl_needX (T : Top K mg) : Cl P w K mg base (L2N.CX P w) 2 "need_exchange" ["many", "value"] (spNeedX K mg) := by
  have CW : Cl P w K mg base CX0 1 "is_whole" ["value", "low", "high"] (spWhole K) := cl_whole T
  obtain ⟨C, eC⟩ := T.er "InvalidExchange" (by decide)
  refine clN (T.d (25, _) (by decide)) sc25 (fun vs H Q E ⟨_, _, h, _⟩ => h.len) (fun _ _ _ _ _ _ us hl => match us, hl with | [_, _], _ => rfl) (fun f cdv A outer s H vs Q E hr h => ?_)
  obtain ⟨m, v, hvs, q, qe⟩ := h
  obtain ⟨x1, v', rfl, h1, od⟩ := all2 hvs
  cases (show x1 = V.int m from h1)
  refine ⟨_, pss_one (ps_if (pt_not (pt_val (pe_cl CW hr (by decide) pass0 (pa_cons (pv 1) (pa_cons pe_int (pa_cons (pe_op op_sub (pv 0) pe_int) pa_nil)))))) (pss_one (ps_err rfl (L2N.takes_of (E := E) rfl rfl rfl rfl) eC)) pss_nil), ?_⟩
  exact s_if (b := !whole v 0 (m - 2)) (eb_not (eb_B (eg_call (as_cons (eg_var rfl od) (as_cons eg_c (as_cons (eg_op (eg_v rfl) eg_c og_I0) as_nil))) sg_whole))) (fun hb H1 e1 => qe (by simpa using hb) C eC.g H1 e1) (fun hb H1 e1 => q (by simpa using hb) H1 e1)
def spNeedR (K : PySem.W.Frag) (mg : Str → Option Value) : Sp := fun vs H Q E => ∃ (m : Int) (o : Option (List V)), AllIs [isV (.int m), isOddR K o] vs H ∧ (fitsR m o = true → ∀ H2, Ex H H2 → Q .non H2) ∧ (fitsR m o = false → Errs mg "InvalidRow" H E)
theorem ck_row {H : Hp} {m : Int} {o : Option (List V)} : ChkG mg (spNeedR K mg) [isV (.int m), isOddR K o] H "InvalidRow" (fitsR m o) := fun _ _ _ hvs _ _ q qe => ⟨m, o, hvs, q, qe⟩
theorem sc26 : FnScope ["many", "value"] ["many", "value"] (defScope (topS 26)) := ⟨rfl, rfl, rfl, by decide +kernel, rfl, by decide +kernel, by decide +kernel⟩
theorem cl_needR (T : Top K mg) : Cl P w K mg base (L2N.CX P w) 3 "need_row" ["many", "value"] (spNeedR K mg) := by
  have CF : Cl P w K mg base CX0 2 "fits_row" ["many", "value"] (spFitsR K) := cl_fitsR T
  obtain ⟨C, eC⟩ := T.er "InvalidRow" (by decide)
  refine clN (T.d (26, _) (by decide)) sc26 (fun vs H Q E ⟨_, _, h, _⟩ => h.len) (fun _ _ _ _ _ _ us hl => match us, hl with | [_, _], _ => rfl) (fun f cdv A outer s H vs Q E hr h => ?_)
  obtain ⟨m, o, hvs, q, qe⟩ := h
  obtain ⟨x1, v, rfl, h1, od⟩ := all2 hvs
  refine ⟨_, pss_one (ps_if (pt_not (pt_val (pe_cl CF hr (by decide) pass0 (pa_cons (pv 0) (pa_cons (pv 1) pa_nil))))) (pss_one (ps_err rfl (L2N.takes_of (E := E) rfl rfl rfl rfl) eC)) pss_nil), ?_⟩
  exact s_if (b := !fitsR m o) (eb_not (eb_B (eg_call (as_cons (eg_var rfl h1) (as_cons (eg_var rfl od) as_nil)) sg_fitsR))) (fun hb H1 e1 => qe (by simpa using hb) C eC.g H1 e1) (fun hb H1 e1 => q (by simpa using hb) H1 e1)
def spAlike (K : PySem.W.Frag) : Sp := fun vs H Q E => ∃ xs ys : List V, AllIs [isT K xs, isT K ys] vs H ∧ xs.length = ys.length ∧ ∀ H2, Ex H H2 → Q .non H2
theorem ck_alike {H : Hp} {xs ys : List V} (h : xs.length = ys.length) : ChkG mg (spAlike K) [isT K xs, isT K ys] H "Unlike" true := fun _ _ _ hvs _ _ q qe => ⟨xs, ys, hvs, h, q rfl⟩
theorem sc27 : FnScope ["one", "other"] ["one", "other"] (defScope (topS 27)) := ⟨rfl, rfl, rfl, by decide +kernel, rfl, by decide +kernel, by decide +kernel⟩
theorem cl_alike (T : Top K mg) : Cl P w K mg base (L2N.CX P w) 1 "need_alike" ["one", "other"] (spAlike K) := by
  obtain ⟨C, eC⟩ := T.er "Unlike" (by decide)
  refine clN (T.d (27, _) (by decide)) sc27 (fun vs H Q E ⟨_, _, h, _⟩ => h.len) (fun _ _ _ _ _ _ us hl => match us, hl with | [_, _], _ => rfl) (fun f cdv A outer s H vs Q E hr h => ?_)
  obtain ⟨xs, ys, hvs, hl, q⟩ := h
  obtain ⟨a, b, rfl, h1, h2⟩ := all2 hvs
  refine ⟨_, pss_one (ps_if (pt_cmpR op_ne (pe_callB (call_lenK K) (by rfl) (T.b "len" (by decide)) PySem.boot_len (pa_cons (pv 0) pa_nil)) (pe_callB (call_lenK K) (by rfl) (T.b "len" (by decide)) PySem.boot_len (pa_cons (pv 1) pa_nil)) (nomark _))
    (pss_one (ps_err rfl (L2N.takes_of (E := E) rfl rfl rfl rfl) eC)) pss_nil), ?_⟩
  refine s_if (b := !decide (V.int (xs.length : Nat) = V.int (ys.length : Nat))) (eb_test (eg_op (eg_cb (as_cons (eg_var rfl h1) as_nil) cgk_lenT) (eg_cb (as_cons (eg_var rfl h2) as_nil) cgk_lenT) (og_ne rfl))) (fun hb H1 e1 => ?_) (fun hb H1 e1 => q H1 e1)
  rw [hl] at hb
  simp at hb
/-! ### led -/
def spLed (K : PySem.W.Frag) : Sp := fun vs H Q _ => ∃ l m : List Nat, AllIs [isT K (iV l), isT K (iV m)] vs H ∧ (Ord l ∧ Ord m ∧ m.length = l.length ∧ 1 ≤ l.length ∧ l.length ≤ 30) ∧ Gives (isT K (iV (ledBy l m))) H Q
theorem sg_led {H : Hp} {l m : List Nat} (h : Ord l ∧ Ord m ∧ m.length = l.length ∧ 1 ≤ l.length ∧ l.length ≤ 30) : SpG (spLed K) [isT K (iV l), isT K (iV m)] H (isT K (iV (ledBy l m))) := fun _ _ _ hvs _ _ q => ⟨l, m, hvs, h, q⟩
theorem sc28 : FnScope ["one", "other"] ["one", "other"] (defScope (topS 28)) := ⟨rfl, rfl, rfl, by decide +kernel, rfl, by decide +kernel, by decide +kernel⟩
theorem cl_led (T : Top K mg) : Cl P w K mg base CX0 4 "led" ["one", "other"] (spLed K) := by
  have CO : Cl P w K mg base (L2N.CX P w) 3 "need_order" ["value"] (spNeedO K mg) := cl_needO T
  have CA : Cl P w K mg base (L2N.CX P w) 1 "need_alike" ["one", "other"] (spAlike K) := cl_alike T
  have CL : Cl P w K mg base CX0 1 "led_by" ["one", "other"] (spLedBy K) := cl_ledBy T
  refine cl0 (T.d (28, _) (by decide)) sc28 (fun vs H Q E ⟨_, _, h, _⟩ => h.len) (fun _ _ _ _ _ _ us hl => match us, hl with | [_, _], _ => rfl) (fun f cdv A outer s H vs Q E hr h => ?_)
  obtain ⟨l, m, hvs, ⟨o1, o2, e, h1, h2⟩, q⟩ := h
  obtain ⟨a, b, rfl, ta, tb⟩ := all2 hvs
  refine ⟨_, pss_cons (ps_expr (pe_cl CO hr (by decide) passN (pa_cons (pv 0) pa_nil))) (pss_cons (ps_expr (pe_cl CO hr (by decide) passN (pa_cons (pv 1) pa_nil))) (pss_cons (ps_expr (pe_cl CA hr (by decide) passN (pa_cons (pv 0) (pa_cons (pv 1) pa_nil))))
    (pss_one (ps_ret (pe_cl CL hr (by decide) pass0 (pa_cons (pv 0) (pa_cons (pv 1) pa_nil))))))), ?_⟩
  have f1 := ord_fits o1 h1 h2
  have f2 := ord_fits o2 (by omega) (by omega)
  refine q_chk (mg := mg) (as_cons (eg_var rfl (odd_iV ta)) as_nil) ck_order (fun _ H1 e1 => ?_) (fun hb => by rw [f1] at hb; cases hb)
  refine q_chk (mg := mg) (as_cons (eg_var rfl ((odd_iV tb).ex e1)) as_nil) ck_order (fun _ H2 e2 => ?_) (fun hb => by rw [f2] at hb; cases hb)
  have ta2 := (isT K _).st _ _ _ (e1.trans e2) ta
  have tb2 := (isT K _).st _ _ _ (e1.trans e2) tb
  refine q_chk (mg := mg) (as_cons (eg_var rfl ta2) (as_cons (eg_var rfl tb2) as_nil)) (ck_alike (by rw [iV_length, iV_length]; omega)) (fun _ H3 e3 => ?_) (fun hb => by cases hb)
  exact s_ret (eg_call (as_cons (eg_var rfl ((isT K _).st _ _ _ e3 ta2)) (as_cons (eg_var rfl ((isT K _).st _ _ _ e3 tb2)) as_nil)) (sg_ledBy ⟨fun t ht => by have := o2.lt ht; omega, by omega⟩)) fun v H4 e4 hv => q v H4 (((e1.trans e2).trans e3).trans e4) hv
/-! ### swapped, renamed -/
def spExch (K : PySem.W.Frag) (mg : Str → Option Value) (g : List Nat → Nat → List Nat) : Sp := fun vs H Q E => ∃ (xs : List V) (u : V), AllIs [isOdd K xs, isK K u] vs H ∧ (fitsO xs = false → Errs mg "InvalidOrder" H E) ∧
  (fitsO xs = true → whole u 0 ((xs.length : Int) - 2) = false → Errs mg "InvalidExchange" H E) ∧ ∀ (l : List Nat) (i : Nat), xs = iV l → u = .int (i : Int) → Ord l → i + 1 < l.length → Gives (isT K (iV (g l i))) H Q
theorem sg_exch {H : Hp} {g : List Nat → Nat → List Nat} {l : List Nat} {i : Nat} (o : Ord l) (h2 : l.length ≤ 30) (hi : i + 1 < l.length) : SpG (spExch K mg g) [isT K (iV l), isV (.int (i : Int))] H (isT K (iV (g l i))) := fun H1 _ vs hvs Q E q => by
  obtain ⟨a, b, rfl, ha, hb⟩ := all2 hvs
  cases (show b = V.int i from hb)
  have f1 := ord_fits o (by omega) h2
  refine ⟨iV l, .int i, ⟨odd_iV ha, ⟨rfl, .int _⟩, trivial⟩, (fun z => by rw [f1] at z; cases z), (fun _ z => ?_), fun l' i' e1 e2 _ _ => ?_⟩
  · rw [iV_length] at z
    have : whole (V.int i) 0 ((l.length : Int) - 2) = true := by simp [whole]; omega
    rw [this] at z
    cases z
  · have el : l = l' := by
      have := congrArg intsOf e1
      rw [intsOf_iV, intsOf_iV] at this
      have h3 := congrArg (List.map Int.toNat) this
      rw [List.map_map, List.map_map] at h3
      simpa [Function.comp_def] using h3
    have ei : i = i' := by
      have := V.int.inj e2
      omega
    subst el ei
    exact q
theorem sc29 : FnScope ["order", "exchange"] ["order", "exchange"] (defScope (topS 29)) := ⟨rfl, rfl, rfl, by decide +kernel, rfl, by decide +kernel, by decide +kernel⟩
theorem sc30 : FnScope ["order", "exchange"] ["order", "exchange"] (defScope (topS 30)) := ⟨rfl, rfl, rfl, by decide +kernel, rfl, by decide +kernel, by decide +kernel⟩
theorem odd_fits {H : Hp} {v : V} {xs : List V} (h : Odd K H v xs) (hf : fitsO xs = true) : (isT K xs).p v H := by
  rcases h.ty with ⟨a, rfl, hs, _⟩ | ⟨rfl, _⟩
  · exact ⟨a, rfl, hs⟩
  · cases hf
theorem cl_swapped (T : Top K mg) : Cl P w K mg base (L2N.CX P w) 4 "swapped" ["order", "exchange"] (spExch K mg sw) := by
  have CO : Cl P w K mg base (L2N.CX P w) 3 "need_order" ["value"] (spNeedO K mg) := cl_needO T
  have CX : Cl P w K mg base (L2N.CX P w) 2 "need_exchange" ["many", "value"] (spNeedX K mg) := cl_needX T
  have CS : Cl P w K mg base CX0 1 "swapped_at" ["order", "place"] (spSwap K) := cl_swap T
  refine clN (T.d (29, _) (by decide)) sc29 (fun vs H Q E ⟨_, _, h, _⟩ => h.len) (fun _ _ _ _ _ _ us hl => match us, hl with | [_, _], _ => rfl) (fun f cdv A outer s H vs Q E hr h => ?_)
  obtain ⟨xs, u, hvs, qo, qx, q⟩ := h
  obtain ⟨a, b, rfl, ha, hb⟩ := all2 hvs
  have ha : Odd K H a xs := ha
  refine ⟨_, pss_cons (ps_expr (pe_cl CO hr (by decide) pass_up (pa_cons (pv 0) pa_nil))) (pss_cons (ps_expr (pe_cl CX hr (by decide) pass_up (pa_cons (pe_callB (call_lenK K) (by rfl) (T.b "len" (by decide)) PySem.boot_len (pa_cons (pv 0) pa_nil)) (pa_cons (pv 1) pa_nil))))
    (pss_one (ps_ret (pe_cl CS hr (by decide) pass0 (pa_cons (pv 0) (pa_cons (pv 1) pa_nil)))))), ?_⟩
  refine q_chk (mg := mg) (as_cons (eg_var rfl ha) as_nil) ck_order (fun hf H1 e1 => ?_) qo
  have ta := odd_fits ha hf
  refine q_chk (mg := mg) (as_cons (eg_cb (as_cons (eg_var rfl ((isT K _).st _ _ _ e1 ta)) as_nil) cgk_lenT) (as_cons (eg_var rfl ((isK K u).st _ _ _ e1 hb)) as_nil)) ck_exch (fun hw H2 e2 => ?_) (fun hw => (qx hf hw).ex e1)
  obtain ⟨l, rfl, o, h1, h2⟩ := fitsO_ord hf
  obtain ⟨z, rfl, h3, h4⟩ := whole_int hw
  rw [iV_length] at h4
  have ez : z = ((z.toNat : Nat) : Int) := by omega
  rw [ez] at q hb
  exact s_ret (eg_call (as_cons (eg_var rfl ((isT K _).st _ _ _ (e1.trans e2) ta)) (as_cons (eg_var rfl hb.1) as_nil)) (sg_swap ⟨by omega, by omega⟩)) fun v H3 e3 hv => q l z.toNat rfl rfl o (by omega) v H3 ((e1.trans e2).trans e3) hv
theorem cl_renamed (T : Top K mg) : Cl P w K mg base (L2N.CX P w) 4 "renamed" ["order", "exchange"] (spExch K mg fun l t => l.map (tau t)) := by
  have CO : Cl P w K mg base (L2N.CX P w) 3 "need_order" ["value"] (spNeedO K mg) := cl_needO T
  have CX : Cl P w K mg base (L2N.CX P w) 2 "need_exchange" ["many", "value"] (spNeedX K mg) := cl_needX T
  have CS : Cl P w K mg base CX0 2 "renamed_at" ["order", "thing"] (spRen K) := cl_ren T
  refine clN (T.d (30, _) (by decide)) sc30 (fun vs H Q E ⟨_, _, h, _⟩ => h.len) (fun _ _ _ _ _ _ us hl => match us, hl with | [_, _], _ => rfl) (fun f cdv A outer s H vs Q E hr h => ?_)
  obtain ⟨xs, u, hvs, qo, qx, q⟩ := h
  obtain ⟨a, b, rfl, ha, hb⟩ := all2 hvs
  have ha : Odd K H a xs := ha
  refine ⟨_, pss_cons (ps_expr (pe_cl CO hr (by decide) pass_up (pa_cons (pv 0) pa_nil))) (pss_cons (ps_expr (pe_cl CX hr (by decide) pass_up (pa_cons (pe_callB (call_lenK K) (by rfl) (T.b "len" (by decide)) PySem.boot_len (pa_cons (pv 0) pa_nil)) (pa_cons (pv 1) pa_nil))))
    (pss_one (ps_ret (pe_cl CS hr (by decide) pass0 (pa_cons (pv 0) (pa_cons (pv 1) pa_nil)))))), ?_⟩
  refine q_chk (mg := mg) (as_cons (eg_var rfl ha) as_nil) ck_order (fun hf H1 e1 => ?_) qo
  have ta := odd_fits ha hf
  refine q_chk (mg := mg) (as_cons (eg_cb (as_cons (eg_var rfl ((isT K _).st _ _ _ e1 ta)) as_nil) cgk_lenT) (as_cons (eg_var rfl ((isK K u).st _ _ _ e1 hb)) as_nil)) ck_exch (fun hw H2 e2 => ?_) (fun hw => (qx hf hw).ex e1)
  obtain ⟨l, rfl, o, h1, h2⟩ := fitsO_ord hf
  obtain ⟨z, rfl, h3, h4⟩ := whole_int hw
  rw [iV_length] at h4
  have ez : z = ((z.toNat : Nat) : Int) := by omega
  rw [ez] at q hb
  exact s_ret (eg_call (as_cons (eg_var rfl ((isT K _).st _ _ _ (e1.trans e2) ta)) (as_cons (eg_var rfl hb.1) as_nil)) (sg_ren ⟨o, by omega, by omega⟩)) fun v H3 e3 hv => q l z.toNat rfl rfl o (by omega) v H3 ((e1.trans e2).trans e3) hv
end
end K2

namespace K2
open PySem PySem.Spec PyProof.Rows L2
open Evl (Ex)
set_option Elab.async false
set_option linter.all false
set_option maxRecDepth 100000
set_option maxHeartbeats 4000000
/-! ### == of lists and tuples of ints -/
def dI (l : List Nat) : List PyData := l.map fun (n : Nat) => PyData.int (n : Int)
theorem eqvI : ∀ l m : List Nat, PyData.eqvAll (dI l) (dI m) = decide (l = m)
  | [], [] => by simp [dI, PyData.eqvAll]
  | [], _ :: _ => by simp [dI, PyData.eqvAll]
  | _ :: _, [] => by simp [dI, PyData.eqvAll]
  | a :: l, b :: m => by
    have ih := eqvI l m
    unfold dI at ih ⊢
    rw [List.map_cons, List.map_cons, PyData.eqvAll, ih, PyData.eqv]
    by_cases h : a = b
    · subst h
      simp
    · have h2 : ((a : Int) == (b : Int)) = false := beq_eq_false_iff_ne.mpr (by omega)
      rw [h2]
      simp [h]
theorem dpI {K : PySem.W.Frag} {H : Hp} : ∀ l : List Nat, DpAll K H (iV l) (dI l)
  | [] => .nil
  | a :: l => .cons (.int _) (dpI l)
theorem layI : ∀ l : List Nat, PyData.canLayAll0 (dI l) = true
  | [] => rfl
  | a :: l => by
    have ih := layI l
    unfold dI at ih ⊢
    rw [List.map_cons, PyData.canLayAll0, ih]
    rfl
theorem depI : ∀ l : List Nat, PyData.depthAll (dI l) ≤ 1
  | [] => by simp [dI, PyData.depthAll]
  | a :: l => by
    have ih := depI l
    unfold dI at ih ⊢
    rw [List.map_cons, PyData.depthAll, PyData.depth]
    omega
theorem shT (l : List Nat) : SeqAt.shaped (.tuple (dI l)) = true := by
  unfold SeqAt.shaped
  rw [Bool.and_eq_true, decide_eq_true_eq, PyData.canLay0, PyData.depth]
  exact ⟨layI l, by have := depI l; omega⟩
theorem shL (l : List Nat) : SeqAt.shaped (.list (dI l)) = true := by
  unfold SeqAt.shaped
  rw [Bool.and_eq_true, decide_eq_true_eq, PyData.canLay0, PyData.depth]
  exact ⟨layI l, by have := depI l; omega⟩
section
variable {K : PySem.W.Frag} {σ : L2.St} {H : Hp} {ta tb te : TE} {tA : TA}
theorem og_eqT {l m : List Nat} : OpG (rEqD K) (isT K (iV l)) (isT K (iV m)) H (isV (.bl (decide (l = m)))) := fun H1 _ x y ⟨a, hx, hs⟩ ⟨b, hy, hs'⟩ Q q => by
  subst hx hy
  refine ⟨.tuple (dI l), .tuple (dI m), .tup hs (dpI l), .tup hs' (dpI m), shT l, shT m, ?_⟩
  rw [PyData.eqv, eqvI]
  exact q _ H1 (Ex.refl H1) rfl
theorem og_neT {l m : List Nat} : OpG (rNeD K) (isT K (iV l)) (isT K (iV m)) H (isV (.bl (!decide (l = m)))) := fun H1 _ x y ⟨a, hx, hs⟩ ⟨b, hy, hs'⟩ Q q => by
  subst hx hy
  refine ⟨.tuple (dI l), .tuple (dI m), .tup hs (dpI l), .tup hs' (dpI m), shT l, shT m, ?_⟩
  rw [PyData.eqv, eqvI]
  exact q _ H1 (Ex.refl H1) rfl
theorem og_neL {l m : List Nat} : OpG (rNeD K) (isL K (iV l)) (isL K (iV m)) H (isV (.bl (!decide (l = m)))) := fun H1 _ x y ⟨a, hx, hs⟩ ⟨b, hy, hs'⟩ Q q => by
  subst hx hy
  refine ⟨.list (dI l), .list (dI m), .lst hs (dpI l), .lst hs' (dpI m), shL l, shL m, ?_⟩
  rw [PyData.eqv, eqvI]
  exact q _ H1 (Ex.refl H1) rfl
theorem rg_iV (n : Nat) : rgV 0 (n : Int) = iV (List.range n) := by
  unfold rgV iV
  have e : ((n : Int) - 0).toNat = n := by omega
  rw [e]
  exact List.map_congr_left fun i _ => congrArg V.int (by omega)
/-- tuple(range(n)), list(range(n)) -/
theorem eg_tupRg {n : Nat} (h : EvG te σ H (isV (.int (n : Int)))) (hn : n ≤ 1000) : EvG (tTupRg (tRg1 te)) σ H (isU (iV (List.range n))) := fun H1 e Q q => h H1 e _ fun v H2 e2 hv => ⟨(n : Int), hv,
  ⟨by omega, by omega, by omega, by omega, by omega⟩, fun p hp => q _ _ (e2.trans (Ex.new hp)) ⟨p, rfl, by rw [upd_same, rg_iV]⟩⟩
theorem eg_lstRg {n : Nat} (h : EvG te σ H (isV (.int (n : Int)))) (hn : n ≤ 1000) : EvG (tLstRg (tRg1 te)) σ H (isLs K ((iV (List.range n)).map isV)) := fun H1 e Q q => h H1 e _ fun v H2 e2 hv => ⟨(n : Int), hv,
  ⟨by omega, by omega, by omega, by omega, by omega⟩, fun p hp => q _ _ (e2.trans (Ex.new hp)) ⟨p, _, rfl, upd_same, by rw [rg_iV]; exact allV_self _⟩⟩
where allV_self {H : Hp} : ∀ xs : List V, AllIs (xs.map isV) xs H
  | [] => trivial
  | _ :: r => ⟨rfl, allV_self r⟩
/-- a tracked tuple of values -/
theorem eg_tupU {xs : List V} (h : EvAs tA σ H (xs.map isV)) (hl : xs.length ≤ 100000) : EvG (tTup tA) σ H (isU xs) := (eu_tup h (by rw [List.length_map]; exact hl)).imp fun v H1 _ ⟨a, vs, h1, h2, h3⟩ => ⟨a, h1, by rw [← allV h3]; exact h2⟩
theorem AllIs.app {H : Hp} : ∀ {Rs Rs' : List Is} {vs vs' : List V}, AllIs Rs vs H → AllIs Rs' vs' H → AllIs (Rs ++ Rs') (vs ++ vs') H
  | [], _, [], _, _, h => h
  | _ :: _, _, _ :: _, _, ⟨h1, h2⟩, h => ⟨h1, h2.app h⟩
theorem og_catL {Rs Rs' : List Is} (hl : Rs.length + Rs'.length ≤ 100000) : OpG rCat (isLs K Rs) (isLs K Rs') H (isLs K (Rs ++ Rs')) := fun H1 _ x y ⟨a, vs, hx, ha, h1⟩ ⟨b, vs', hy, hb, h2⟩ Q q =>
  ⟨a, b, vs, vs', hx, hy, ha, hb, Evl.sz_of (by rw [h1.len, h2.len]; exact hl), fun p hp => q _ _ (Ex.new hp) ⟨p, _, rfl, upd_same, (h1.app h2).st (Ex.new hp)⟩⟩
/-- a list of so many -/
def isN (K : PySem.W.Frag) (n : Nat) : Is := ⟨fun x H => ∃ a xs, x = .ref a ∧ SqL K H a xs ∧ xs.length = n, fun _ _ _ e ⟨a, xs, h1, h2, h3⟩ => ⟨a, xs, h1, Evl.ex_l e h2, h3⟩⟩
theorem cgk_lenN {n : Nat} : CbG (rLenK K) [isN K n] H (isV (.int (n : Nat))) := fun H1 _ vs hvs Q q => by
  obtain ⟨a, rfl, b, xs, rfl, hs, hn⟩ := all1 hvs
  exact ⟨b, xs, rfl, .inl hs, q _ H1 (Ex.refl H1) (by rw [hn]; rfl)⟩
def isPr (p : Nat × Nat) : Is := isU [V.int (p.1 : Int), V.int (p.2 : Int)]
theorem cg_sorted {ps : List (Nat × Nat)} : CbG (rSortedP K) [isLs K (ps.map isPr)] H (isN K ps.length) := fun H1 _ vs hvs Q q => by
  obtain ⟨v, rfl, a, us, rfl, hl, hu⟩ := all1 hvs
  refine ⟨a, us, rfl, .inl (.inl hl), fun x hx => ?_, fun ys p hp np => q _ _ (Ex.new np) ⟨p, ys, rfl, .inl (.inl upd_same), by rw [hp.length_eq, hu.len, List.length_map]⟩⟩
  obtain ⟨i, hi, e⟩ := List.getElem_of_mem hx
  obtain ⟨R, hR, hp⟩ := hu.get (List.getElem?_eq_some_iff.mpr ⟨hi, e⟩)
  rw [List.getElem?_map] at hR
  obtain ⟨p, _, rfl⟩ := Option.map_eq_some_iff.mp hR
  obtain ⟨t, e2, ht⟩ := hp
  exact ⟨t, _, _, e2, ht⟩
end
/-! ### counting -/
theorem inv_le : ∀ l : List Nat, inv l ≤ l.length * l.length
  | [] => Nat.zero_le _
  | x :: r => by
    have ih := inv_le r
    have h1 : (less x r).length ≤ r.length := List.length_filter_le _ _
    show (less x r).length + inv r ≤ (r.length + 1) * (r.length + 1)
    have e : (r.length + 1) * (r.length + 1) = r.length * r.length + r.length + (r.length + 1) := by
      rw [Nat.add_mul, Nat.mul_add]
      omega
    omega
theorem inv_drop {l : List Nat} {i x : Nat} (h : l[i]? = some x) : inv (l.drop i) = (less x (l.drop (i + 1))).length + inv (l.drop (i + 1)) := by
  obtain ⟨h1, e⟩ := List.getElem?_eq_some_iff.mp h
  rw [List.drop_eq_getElem_cons h1, e]
  rfl
/-- which of the rest are less, with the thing ahead -/
def lessPairs (x : Nat) (r : List Nat) : List (Nat × Nat) := ((List.range r.length).filter fun k => decide (r.getD k 0 < x)).map fun k => (r.getD k 0, x)
theorem lessPairs_len (x : Nat) (r : List Nat) : (lessPairs x r).length = (less x r).length := by
  unfold lessPairs less
  rw [List.length_map]
  have e : r.filter (fun y => decide (y < x)) = ((List.range r.length).filter fun k => decide (r.getD k 0 < x)).map fun k => r.getD k 0 := by
    have h1 := List.filter_map (f := fun k => r.getD k 0) (l := List.range r.length) (p := fun y => decide (y < x))
    rw [range_map_getD 0 (fun (n : Nat) => n) r, List.map_id'] at h1
    exact h1
  rw [e, List.length_map]
section
variable {P : Program} {w : World} {K : PySem.W.Frag} {mg : Str → Option Value} {base : Heap}
/-! ### pairs_of, size_by -/
def spPairs (K : PySem.W.Frag) : Sp := fun vs H Q _ => ∃ l : List Nat, AllIs [isT K (iV l)] vs H ∧ l.length ≤ 100 ∧ Gives (isN K (inv l)) H Q
theorem sg_pairs {H : Hp} {l : List Nat} (h : l.length ≤ 100) : SpG (spPairs K) [isT K (iV l)] H (isN K (inv l)) := fun _ _ _ hvs _ _ q => ⟨l, hvs, h, q⟩
theorem sc35 : FnScope ["order", "found", "place", "thing", "other"] ["order"] (defScope (topS 35)) := ⟨rfl, rfl, rfl, by decide +kernel, rfl, by decide +kernel, by decide +kernel⟩
theorem cl_pairs (T : Top K mg) : Cl P w K mg base CX0 1 "pairs_of" ["order"] (spPairs K) := by
  refine cl0 (T.d (35, _) (by decide)) sc35 (fun vs H Q E ⟨_, h, _⟩ => h.len) (fun _ _ _ _ _ _ us hl => match us, hl with | [_], _ => rfl) (fun f cdv A outer s H vs Q E hr h => ?_)
  obtain ⟨l, hvs, hl, q⟩ := h
  obtain ⟨a, rfl, p, rfl, hs⟩ := all1 hvs
  refine ⟨_, pss_cons (ps_set (i := 1) sc35.nd rfl (.inl rfl) (pe_lst pa_nil))
    (pss_cons (ps_for PassesOwn.never rfl (pi_enumT (T.b "enumerate" (by decide)) (pa_cons (pv 0) pa_nil)) (pg_tupK K rfl (pgs_cons (pg_name (i := 2) sc35.nd rfl (Or.inl rfl)) (pgs_cons (pg_name (i := 3) sc35.nd rfl (Or.inr rfl)) pgs_nil)))
      (pss_one (ps_set (i := 1) sc35.nd rfl (.inl rfl) (pe_op op_cat (pv 1) (pe_lc (own := [("other", 4)]) (g := gName 4) rfl sc35.nd (pi_tup (pe_slice sl_tupA (pv 0) (po_some (pe_op op_add (pv 2) pe_int)) po_none))
        (blkOk_by (N := ["order", "found", "place", "thing", "other"]) (sc := defScope (topS 35)) (own := [("other", 4)]) (by decide +kernel)) (fun _ _ _ _ _ => pg_name (i := 4) sc35.nd rfl (Or.inl rfl)) (fun _ _ _ _ _ => pts_one (pt_cmpR op_lt (pv 4) (pv 3) (nomark _)))
        (fun _ _ _ _ _ => pe_tup (pa_cons (pv 4) (pa_cons (pv 3) pa_nil))))))))
    (pss_one (ps_ret (pe_callB cr_sortedP (by rfl) (T.b "sorted" (by decide)) (by decide +kernel) (pa_cons (pv 1) pa_nil))))), ?_⟩
  have bnd : inv l ≤ 10000 := by
    have h1 := inv_le l
    have h2 : l.length * l.length ≤ 100 * 100 := Nat.mul_le_mul hl hl
    omega
  refine q_asg (R := isLs K []) (eg_lst as_nil (by show 0 ≤ 100000; decide)) fun v0 H1 e1 h0 => ?_
  refine s_forE (as_cons (eg_vT rfl (Evl.ex_t e1 hs)) as_nil) fun a2 H2 e2 hq => ⟨fun i σ H' => ∃ (o : V) (ps : List (Nat × Nat)) (c d : Option V), σ = [some (.ref p), some o, c, d, none] ∧ Ex H2 H' ∧ (isLs K (ps.map isPr)).p o H' ∧ ps.length + inv (l.drop i) = inv l,
    ⟨v0, [], none, none, rfl, Ex.refl _, (isLs K []).st _ _ _ e2 h0, by rw [List.drop_zero]; exact Nat.zero_add _⟩, fun i σ H' ⟨_, _, _, _, _, e, _⟩ => Evl.ex_t e hq, fun i x σ H' H3 hx ⟨o, ps, c, d, eσ, e, ho, hn⟩ e3 => ?_, fun σ H' ⟨o, ps, c, d, eσ, e, ho, hn⟩ => ?_⟩
  · subst eσ
    rw [iV_get] at hx
    obtain ⟨n, hn', rfl⟩ := Option.map_eq_some_iff.mp hx
    have hd := inv_drop hn'
    have hs3 : SqT K H3 p (iV l) := Evl.ex_t ((e1.trans e2).trans (e.trans e3)) hs
    have ei : ((i : Int) + 1) = ((i + 1 : Nat) : Int) := rfl
    have hk : kept (l.drop (i + 1)).length (fun k => decide ((l.drop (i + 1)).getD k 0 < n)) (fun k => isPr ((l.drop (i + 1)).getD k 0, n)) = (lessPairs n (l.drop (i + 1))).map isPr := by
      unfold kept lessPairs
      rw [List.map_map]
      rfl
    have ll := lessPairs_len n (l.drop (i + 1))
    refine s_asg (eg_op (eg_var rfl ((isLs K _).st _ _ _ e3 ho)) (eg_lcT (xs := cutV (iV l) (some ((i : Int) + 1)) none) (fun k => decide ((l.drop (i + 1)).getD k 0 < n)) (fun k => isPr ((l.drop (i + 1)).getD k 0, n)) (fun _ => firm_U)
        (eg_slT (eg_vT rfl hs3) (eo_some (eg_op (eg_v rfl) eg_c og_I0)) eo_none) ?_ (fun _ => wipe_one _ _ _) (fun k y H4 e4 hy => ?_) (fun k y H4 e4 hy _ => ?_)) (og_catL ?_)) fun v H4 e4 hv => ?_
    · rw [ei, cut_drop, iV_length, List.length_drop]
      omega
    · rw [ei, cut_drop, iV_get] at hy
      obtain ⟨m, hm, rfl⟩ := Option.map_eq_some_iff.mp hy
      rw [getD_of hm]
      exact eb_is (eb_test (eg_op (eg_v rfl) (eg_v rfl) og_I0)) (by simp)
    · rw [ei, cut_drop, iV_get] at hy
      obtain ⟨m, hm, rfl⟩ := Option.map_eq_some_iff.mp hy
      rw [getD_of hm]
      exact eg_tupU (xs := [V.int (m : Int), V.int (n : Int)]) (as_cons (eg_v rfl) (as_cons (eg_v rfl) as_nil)) (by show 2 ≤ 100000; decide)
    · have := kept_len (cutV (iV l) (some ((i : Int) + 1)) none).length (fun k => decide ((l.drop (i + 1)).getD k 0 < n)) (fun k => isPr ((l.drop (i + 1)).getD k 0, n))
      rw [ei, cut_drop, iV_length, List.length_drop] at this ⊢
      rw [List.length_map]
      omega
    · rw [ei, cut_drop, iV_length, hk, ← List.map_append] at hv
      exact ⟨v, ps ++ lessPairs n (l.drop (i + 1)), some _, some _, rfl, (e.trans e3).trans e4, hv, by rw [List.length_append]; omega⟩
  · subst eσ
    rw [iV_length, List.drop_length] at hn
    have hn : ps.length = inv l := hn
    refine s_ret (eg_cb (as_cons (eg_var rfl ho) as_nil) cg_sorted) fun v H3 e3 hv => q v H3 ((e1.trans e2).trans (e.trans e3)) ?_
    rw [← hn]
    exact hv
def spSizeBy (K : PySem.W.Frag) : Sp := fun vs H Q _ => ∃ l : List Nat, AllIs [isT K (iV l)] vs H ∧ l.length ≤ 100 ∧ Gives (isV (.int (inv l : Nat))) H Q
theorem sg_sizeBy {H : Hp} {l : List Nat} (h : l.length ≤ 100) : SpG (spSizeBy K) [isT K (iV l)] H (isV (.int (inv l : Nat))) := fun _ _ _ hvs _ _ q => ⟨l, hvs, h, q⟩
theorem sc36 : FnScope ["order"] ["order"] (defScope (topS 36)) := ⟨rfl, rfl, rfl, by decide +kernel, rfl, by decide +kernel, by decide +kernel⟩
theorem cl_sizeBy (T : Top K mg) : Cl P w K mg base CX0 2 "size_by" ["order"] (spSizeBy K) := by
  have CP : Cl P w K mg base CX0 1 "pairs_of" ["order"] (spPairs K) := cl_pairs T
  refine cl0 (T.d (36, _) (by decide)) sc36 (fun vs H Q E ⟨_, h, _⟩ => h.len) (fun _ _ _ _ _ _ us hl => match us, hl with | [_], _ => rfl) (fun f cdv A outer s H vs Q E hr h => ?_)
  obtain ⟨l, hvs, hl, q⟩ := h
  obtain ⟨a, rfl, ha⟩ := all1 hvs
  refine ⟨_, pss_one (ps_ret (pe_callB (call_lenK K) (by rfl) (T.b "len" (by decide)) PySem.boot_len (pa_cons (pe_cl CP hr (by decide) pass0 (pa_cons (pv 0) pa_nil)) pa_nil))), ?_⟩
  exact s_ret (eg_cb (as_cons (eg_call (as_cons (eg_var rfl ha) as_nil) (sg_pairs hl)) as_nil) cgk_lenN) q
/-! ### falls_of -/
def spFalls (K : PySem.W.Frag) : Sp := fun vs H Q _ => ∃ l : List Nat, AllIs [isT K (iV l)] vs H ∧ l.length ≤ 100 ∧ Gives (isL K (iV (falls l))) H Q
theorem sg_falls {H : Hp} {l : List Nat} (h : l.length ≤ 100) : SpG (spFalls K) [isT K (iV l)] H (isL K (iV (falls l))) := fun _ _ _ hvs _ _ q => ⟨l, hvs, h, q⟩
theorem sc37 : FnScope ["order", "place"] ["order"] (defScope (topS 37)) := ⟨rfl, rfl, rfl, by decide +kernel, rfl, by decide +kernel, by decide +kernel⟩
theorem cl_falls (T : Top K mg) : Cl P w K mg base CX0 1 "falls_of" ["order"] (spFalls K) := by
  refine cl0 (T.d (37, _) (by decide)) sc37 (fun vs H Q E ⟨_, h, _⟩ => h.len) (fun _ _ _ _ _ _ us hl => match us, hl with | [_], _ => rfl) (fun f cdv A outer s H vs Q E hr h => ?_)
  obtain ⟨l, hvs, hl, q⟩ := h
  obtain ⟨a, rfl, p, rfl, hs⟩ := all1 hvs
  refine ⟨_, pss_one (ps_ret (pe_lc (own := [("place", 1)]) (g := gName 1) rfl sc37.nd (pi_range1 (by rfl) (T.b "range" (by decide)) (pa_cons (pe_op op_sub (pe_callB (call_lenK K) (by rfl) (T.b "len" (by decide)) PySem.boot_len (pa_cons (pv 0) pa_nil)) pe_int) pa_nil))
      (blkOk_by (N := ["order", "place"]) (sc := defScope (topS 37)) (own := [("place", 1)]) (by decide +kernel)) (fun _ _ _ _ _ => pg_name (i := 1) sc37.nd rfl (Or.inl rfl))
      (fun _ _ _ _ _ => pts_one (pt_cmpR op_gt (pe_ix (ix_tupK K) (pv 0) (pv 1) (fun _ _ => rfl)) (pe_ix (ix_tupK K) (pv 0) (pe_op op_add (pv 1) pe_int) (fun _ _ => rfl)) (nomark _))) (fun _ _ _ _ _ => pv 1))), ?_⟩
  refine s_ret (EvG.L (xs := iV (falls l)) (EvG.imp (eg_lcR (K := K) (n := (l.length : Int) - 1) (fun k => decide (l.getD (k + 1) 0 < l.getD k 0)) (fun k => isV (.int (k : Int))) (fun _ => firm_V)
    (as_cons (eg_is (eg_op (eg_cb (as_cons (eg_vT rfl hs) as_nil) cgk_lenT) eg_c og_I0) (by rw [iV_length])) as_nil) (by omega) (fun _ => wipe_one _ _ _) (fun i H1 e1 hi => ?_) (fun i H1 e1 hi _ => eg_v rfl)) fun v H1 e1 hv => ?_)) q
  · have h1 : l[i]? = some (l[i]'(by omega)) := List.getElem?_eq_getElem _
    have h2 : l[i + 1]? = some (l[i + 1]'(by omega)) := List.getElem?_eq_getElem _
    have ei : ((i : Int) + 1) = ((i + 1 : Nat) : Int) := rfl
    rw [getD_of h1, getD_of h2]
    exact eb_is (eb_test (eg_op (eg_op (eg_vT rfl (Evl.ex_t e1 hs)) (eg_v rfl) (og_ixT (at_iV h1))) (eg_op (eg_vT rfl (Evl.ex_t e1 hs)) (eg_op (eg_v rfl) eg_c og_I0) (og_ixT (by rw [ei]; exact at_iV h2))) og_I0)) (by simp)
  · have e : ((l.length : Int) - 1).toNat = l.length - 1 := by omega
    rw [e] at hv
    have hk : kept (l.length - 1) (fun k => decide (l.getD (k + 1) 0 < l.getD k 0)) (fun k => isV (.int (k : Int))) = (iV (falls l)).map isV := by
      unfold kept falls iV
      rw [List.map_map]
      rfl
    rw [hk] at hv
    exact hv
end
end K2

namespace K2
open PySem PySem.Spec PyProof.Rows L2
open Evl (Ex)
set_option Elab.async false
set_option linter.all false
set_option maxRecDepth 100000
set_option maxHeartbeats 4000000
section
variable {σ : L2.St} {H : Hp} {D : Ends} {tA : TA} {R1 R2 : Is} {i j : Nat}
theorem s_par (h : EvAs tA σ H [R1, R2]) (k : ∀ v u H1, Ex H H1 → R1.p v H1 → R2.p u H1 → D.nx ((σ.set i (some v)).set j (some u)) H1) : tPar i j tA D σ H := h H (Ex.refl H) _ fun vs H1 e hvs => by
  obtain ⟨a, b, rfl, h1, h2⟩ := all2 hvs
  exact ⟨a, b, rfl, k a b H1 e h1 h2⟩
end
/-- a least row of an order -/
def LeastOf (l r : List Nat) : Prop := (∀ i ∈ r, i + 1 < l.length) ∧ behind (List.range l.length) r = l ∧ r.length = inv l
def isLeast (K : PySem.W.Frag) (l : List Nat) : Is := ⟨fun v H => ∃ r, LeastOf l r ∧ (isT K (iV r)).p v H, fun _ _ _ e ⟨r, h1, h2⟩ => ⟨r, h1, (isT K _).st _ _ _ e h2⟩⟩
section
variable {P : Program} {w : World} {K : PySem.W.Frag} {mg : Str → Option Value} {base : Heap}
/-! ### least_row_of -/
def spLeast (K : PySem.W.Frag) : Sp := fun vs H Q _ => ∃ l : List Nat, AllIs [isT K (iV l)] vs H ∧ (Ord l ∧ l.length ≤ 30) ∧ Gives (isLeast K l) H Q
theorem sg_least {H : Hp} {l : List Nat} (h : Ord l ∧ l.length ≤ 30) : SpG (spLeast K) [isT K (iV l)] H (isLeast K l) := fun _ _ _ hvs _ _ q => ⟨l, hvs, h, q⟩
theorem sc38 : FnScope ["order", "found", "some"] ["order"] (defScope (topS 38)) := ⟨rfl, rfl, rfl, by decide +kernel, rfl, by decide +kernel, by decide +kernel⟩
theorem iV_cons (a : Nat) (l : List Nat) : iV (a :: l) = V.int (a : Int) :: iV l := rfl
theorem cl_least (T : Top K mg) : Cl P w K mg base CX0 2 "least_row_of" ["order"] (spLeast K) := by
  have CF : Cl P w K mg base CX0 1 "falls_of" ["order"] (spFalls K) := cl_falls T
  have CS : Cl P w K mg base CX0 1 "swapped_at" ["order", "place"] (spSwap K) := cl_swap T
  refine cl0 (T.d (38, _) (by decide)) sc38 (fun vs H Q E ⟨_, h, _⟩ => h.len) (fun _ _ _ _ _ _ us hl => match us, hl with | [_], _ => rfl) (fun f cdv A outer s H vs Q E hr h => ?_)
  obtain ⟨l0, hvs, ⟨o0, hl⟩, q⟩ := h
  obtain ⟨a, rfl, ha⟩ := all1 hvs
  refine ⟨_, pss_cons (ps_par (i := 1) (j := 2) rfl sc38.nd rfl rfl (by decide) rfl rfl (pa_cons (pe_tup pa_nil) (pa_cons (pe_cl CF hr (by decide) pass0 (pa_cons (pv 0) pa_nil)) pa_nil)) (by rfl))
    (pss_cons (ps_while PassesOwn.never (pt_cmpR (op_neD hr.units) (pv 2) (pe_lst pa_nil) (nomark _))
      (pss_cons (ps_par (i := 1) (j := 0) rfl sc38.nd rfl rfl (by decide) rfl rfl (pa_cons (pe_op op_catA (pe_tup (pa_cons (pe_ix ix_list (pv 2) pe_int (fun _ _ => rfl)) pa_nil)) (pv 1))
          (pa_cons (pe_cl CS hr (by decide) pass0 (pa_cons (pv 0) (pa_cons (pe_ix ix_list (pv 2) pe_int (fun _ _ => rfl)) pa_nil))) pa_nil)) (by rfl))
        (pss_one (ps_set (i := 2) sc38.nd rfl (.inl rfl) (pe_cl CF hr (by decide) pass0 (pa_cons (pv 0) pa_nil))))))
    (pss_one (ps_ret (pv 1)))), ?_⟩
  have bnd : inv l0 ≤ 900 := by
    have h1 := inv_le l0
    have h2 : l0.length * l0.length ≤ 30 * 30 := Nat.mul_le_mul hl hl
    omega
  refine s_par (R1 := isT K (iV [])) (R2 := isL K (iV (falls l0))) (as_cons (eg_tup (xs := []) as_nil (by show 0 ≤ 100000; decide)) (as_cons (eg_call (as_cons (eg_var rfl ha) as_nil) (sg_falls (by omega))) as_nil)) fun v u H1 e1 hv hu => ?_
  refine s_while (fun m σ H' => ∃ (o f s : V) (l r : List Nat), σ = [some o, some f, some s] ∧ Ex H H' ∧ (isT K (iV l)).p o H' ∧ (isT K (iV r)).p f H' ∧ (isL K (iV (falls l))).p s H' ∧ Ord l ∧ l.length = l0.length ∧ behind l r = l0 ∧ r.length + inv l = inv l0 ∧
    (∀ i ∈ r, i + 1 < l0.length) ∧ m = inv l) (inv l0) ⟨a, v, u, l0, [], rfl, e1, (isT K _).st _ _ _ e1 ha, hv, hu, o0, rfl, rfl, Nat.zero_add _, (fun _ h => by cases h), rfl⟩
    fun m σ H' ⟨o, f, s, l, r, eσ, e, ho, hf, hs, od, hn, hb, hc, hi, hm⟩ => ⟨!decide (falls l = []), ?_, fun ht H2 e2 => ?_, fun ht H2 e2 => ?_⟩
  · subst eσ
    exact eb_test (eg_op (eg_var rfl hs) (EvG.L (xs := iV []) (eg_lst as_nil (by show 0 ≤ 100000; decide))) og_neL)
  · subst eσ
    have ho := (isT K _).st _ _ _ e2 ho
    have hf := (isT K _).st _ _ _ e2 hf
    have hs := (isL K _).st _ _ _ e2 hs
    cases hfl : falls l with
    | nil =>
      rw [hfl] at ht
      simp at ht
    | cons i rest =>
      obtain ⟨h1, h2⟩ := falls_inv (l := l) (i := i) (by rw [hfl]; exact List.mem_cons_self)
      have at0 : atI (iV (falls l)) 0 = some (V.int (i : Int)) := by
        rw [hfl]
        exact atI_nat (j := 0) rfl
      refine ⟨fun σ2 H3 => ∃ m', m' < m ∧ ∃ (o f s : V) (l r : List Nat), σ2 = [some o, some f, some s] ∧ Ex H H3 ∧ (isT K (iV l)).p o H3 ∧ (isT K (iV r)).p f H3 ∧ (isL K (iV (falls l))).p s H3 ∧ Ord l ∧ l.length = l0.length ∧ behind l r = l0 ∧ r.length + inv l = inv l0 ∧
        (∀ i ∈ r, i + 1 < l0.length) ∧ m' = inv l, fun _ _ h => h, ?_⟩
      refine s_par (R1 := isT K (iV (i :: r))) (R2 := isT K (iV (sw l i))) (as_cons (eg_op (R1 := isT K [V.int (i : Int)]) (eg_tup (as_cons (eg_op (eg_var rfl hs) eg_c (og_ixL at0)) as_nil) (by show 1 ≤ 100000; decide)) (eg_var rfl hf) (og_cat ?_))
        (as_cons (eg_call (as_cons (eg_var rfl ho) (as_cons (eg_op (eg_var rfl hs) eg_c (og_ixL at0)) as_nil)) (sg_swap ⟨h1, by omega⟩)) as_nil)) fun v2 u2 H3 e3 hv2 hu2 => ?_
      · rw [iV_length]
        show 1 + _ ≤ _
        omega
      · refine s_asg (eg_call (as_cons (eg_var rfl hu2) as_nil) (sg_falls (by rw [sw_length]; omega))) fun s3 H4 e4 hs3 => ?_
        refine ⟨inv (sw l i), by omega, u2, v2, s3, sw l i, i :: r, rfl, ((e.trans e2).trans e3).trans e4, (isT K _).st _ _ _ e4 hu2, (isT K _).st _ _ _ e4 hv2, hs3, od.sw i, by rw [sw_length]; exact hn, ?_, ?_, ?_, rfl⟩
        · rw [behind_cons, sw_sw]
          exact hb
        · rw [List.length_cons]
          omega
        · intro k hk
          rcases List.mem_cons.mp hk with z | z
          · omega
          · exact hi k z
  · subst eσ
    have hfl : falls l = [] := by simpa using ht
    have el := no_falls od hfl
    have hl0 : behind (List.range l0.length) r = l0 := by
      rw [← hn, ← el]
      exact hb
    have hz : inv l = 0 := by rw [el]; exact inv_range _
    exact s_ret (R := isLeast K l0) (eg_var rfl ⟨r, ⟨hi, hl0, by omega⟩, (isT K _).st _ _ _ e2 hf⟩) fun v3 H3 e3 hv3 => q v3 H3 ((e.trans e2).trans e3) hv3
/-! ### size_of, some_row -/
def spSizeOf (K : PySem.W.Frag) : Sp := fun vs H Q _ => ∃ l : List Nat, AllIs [isT K (iV l)] vs H ∧ (Ord l ∧ 1 ≤ l.length ∧ l.length ≤ 30) ∧ Gives (isV (.int (inv l : Nat))) H Q
theorem sg_sizeOf {H : Hp} {l : List Nat} (h : Ord l ∧ 1 ≤ l.length ∧ l.length ≤ 30) : SpG (spSizeOf K) [isT K (iV l)] H (isV (.int (inv l : Nat))) := fun _ _ _ hvs _ _ q => ⟨l, hvs, h, q⟩
theorem sc40 : FnScope ["order"] ["order"] (defScope (topS 40)) := ⟨rfl, rfl, rfl, by decide +kernel, rfl, by decide +kernel, by decide +kernel⟩
theorem cl_sizeOf (T : Top K mg) : Cl P w K mg base CX0 4 "size_of" ["order"] (spSizeOf K) := by
  have CO : Cl P w K mg base (L2N.CX P w) 3 "need_order" ["value"] (spNeedO K mg) := cl_needO T
  have CS : Cl P w K mg base CX0 2 "size_by" ["order"] (spSizeBy K) := cl_sizeBy T
  refine cl0 (T.d (40, _) (by decide)) sc40 (fun vs H Q E ⟨_, h, _⟩ => h.len) (fun _ _ _ _ _ _ us hl => match us, hl with | [_], _ => rfl) (fun f cdv A outer s H vs Q E hr h => ?_)
  obtain ⟨l, hvs, ⟨o, h1, h2⟩, q⟩ := h
  obtain ⟨a, rfl, ha⟩ := all1 hvs
  refine ⟨_, pss_cons (ps_expr (pe_cl CO hr (by decide) passN (pa_cons (pv 0) pa_nil))) (pss_one (ps_ret (pe_cl CS hr (by decide) pass0 (pa_cons (pv 0) pa_nil)))), ?_⟩
  refine q_chk (mg := mg) (as_cons (eg_var rfl (odd_iV ha)) as_nil) ck_order (fun _ H1 e1 => ?_) (fun hb => by rw [ord_fits o h1 h2] at hb; cases hb)
  exact s_ret (eg_call (as_cons (eg_var rfl ((isT K _).st _ _ _ e1 ha)) as_nil) (sg_sizeBy (by omega))) fun v H2 e2 hv => q v H2 (e1.trans e2) hv
def spSomeRow (K : PySem.W.Frag) : Sp := fun vs H Q _ => ∃ l : List Nat, AllIs [isT K (iV l)] vs H ∧ (Ord l ∧ 1 ≤ l.length ∧ l.length ≤ 30) ∧ Gives (isLeast K l) H Q
theorem sg_someRow {H : Hp} {l : List Nat} (h : Ord l ∧ 1 ≤ l.length ∧ l.length ≤ 30) : SpG (spSomeRow K) [isT K (iV l)] H (isLeast K l) := fun _ _ _ hvs _ _ q => ⟨l, hvs, h, q⟩
theorem sc42 : FnScope ["order"] ["order"] (defScope (topS 42)) := ⟨rfl, rfl, rfl, by decide +kernel, rfl, by decide +kernel, by decide +kernel⟩
theorem cl_someRow (T : Top K mg) : Cl P w K mg base CX0 4 "some_row" ["order"] (spSomeRow K) := by
  have CO : Cl P w K mg base (L2N.CX P w) 3 "need_order" ["value"] (spNeedO K mg) := cl_needO T
  have CS : Cl P w K mg base CX0 2 "least_row_of" ["order"] (spLeast K) := cl_least T
  refine cl0 (T.d (42, _) (by decide)) sc42 (fun vs H Q E ⟨_, h, _⟩ => h.len) (fun _ _ _ _ _ _ us hl => match us, hl with | [_], _ => rfl) (fun f cdv A outer s H vs Q E hr h => ?_)
  obtain ⟨l, hvs, ⟨o, h1, h2⟩, q⟩ := h
  obtain ⟨a, rfl, ha⟩ := all1 hvs
  refine ⟨_, pss_cons (ps_expr (pe_cl CO hr (by decide) passN (pa_cons (pv 0) pa_nil))) (pss_one (ps_ret (pe_cl CS hr (by decide) pass0 (pa_cons (pv 0) pa_nil)))), ?_⟩
  refine q_chk (mg := mg) (as_cons (eg_var rfl (odd_iV ha)) as_nil) ck_order (fun _ H1 e1 => ?_) (fun hb => by rw [ord_fits o h1 h2] at hb; cases hb)
  exact s_ret (eg_call (as_cons (eg_var rfl ((isT K _).st _ _ _ e1 ha)) as_nil) (sg_least ⟨o, h2⟩)) fun v H2 e2 hv => q v H2 (e1.trans e2) hv
/-! ### is_least -/
def spIsL (K : PySem.W.Frag) : Sp := fun vs H Q _ => ∃ (n : Nat) (r : List Nat), AllIs [isV (.int (n : Int)), isT K (iV r)] vs H ∧ (n ≤ 30 ∧ Row n r) ∧ Gives (isV (.bl (decide (inv (behind (List.range n) r) = r.length)))) H Q
theorem sg_isL {H : Hp} {n : Nat} {r : List Nat} (h : n ≤ 30 ∧ Row n r) : SpG (spIsL K) [isV (.int (n : Int)), isT K (iV r)] H (isV (.bl (decide (inv (behind (List.range n) r) = r.length)))) := fun _ _ _ hvs _ _ q => ⟨n, r, hvs, h, q⟩
theorem sc39 : FnScope ["many", "row"] ["many", "row"] (defScope (topS 39)) := ⟨rfl, rfl, rfl, by decide +kernel, rfl, by decide +kernel, by decide +kernel⟩
theorem og_eqN {H : Hp} {a b : Nat} : OpG rEq (isV (.int (a : Int))) (isV (.int (b : Int))) H (isV (.bl (decide (a = b)))) := fun H1 e x y hx hy Q q => og_eq (H := H) rfl H1 e x y hx hy Q fun v H2 e2 hv => q v H2 e2 (by
  have : decide (V.int (a : Int) = V.int (b : Int)) = decide (a = b) := by simp; omega
  rw [this] at hv
  exact hv)
theorem cl_isL (T : Top K mg) : Cl P w K mg base CX0 3 "is_least" ["many", "row"] (spIsL K) := by
  have CB : Cl P w K mg base CX0 2 "behind_row" ["order", "row"] (spBehind K) := cl_behind T
  have CS : Cl P w K mg base CX0 2 "size_by" ["order"] (spSizeBy K) := cl_sizeBy T
  refine cl0 (T.d (39, _) (by decide)) sc39 (fun vs H Q E ⟨_, _, h, _⟩ => h.len) (fun _ _ _ _ _ _ us hl => match us, hl with | [_, _], _ => rfl) (fun f cdv A outer s H vs Q E hr h => ?_)
  obtain ⟨n, r, hvs, ⟨hn, hrw⟩, q⟩ := h
  obtain ⟨a, b, rfl, ha, hb⟩ := all2 hvs
  refine ⟨_, pss_one (ps_ret (pe_cmpR op_eq (pe_cl CS hr (by decide) pass0 (pa_cons (pe_cl CB hr (by decide) pass0 (pa_cons (pe_tupRg rfl (by rfl) (T.b "tuple" (by decide)) (prg_1 (by rfl) (T.b "range" (by decide)) (pv 0))) (pa_cons (pv 1) pa_nil))) pa_nil))
    (pe_callB (call_lenK K) (by rfl) (T.b "len" (by decide)) PySem.boot_len (pa_cons (pv 1) pa_nil)) (nomark _))), ?_⟩
  have hlen : (List.range n).length = n := List.length_range
  exact s_ret (eg_op (eg_call (as_cons (eg_call (as_cons (eg_tupRg (eg_var rfl ha) (by omega)).T (as_cons (eg_var rfl hb) as_nil)) (sg_behind ⟨fun i hi => by rw [hlen]; exact hrw.1 i hi, by rw [hlen]; omega⟩)) as_nil) (sg_sizeBy (by rw [behind_length, hlen]; omega)))
    (eg_is (eg_cb (as_cons (eg_var rfl hb) as_nil) cgk_lenT) (by rw [iV_length])) og_eqN) q
/-! ### is_row -/
def spIsRow (K : PySem.W.Frag) : Sp := fun vs H Q _ => ∃ (n : Nat) (o : Option (List V)), AllIs [isV (.int (n : Int)), isOddR K o] vs H ∧ (1 ≤ n ∧ n ≤ 30) ∧ Gives (isV (.bl (fitsR (n : Int) o))) H Q
theorem sg_isRow {H : Hp} {n : Nat} {o : Option (List V)} (h : 1 ≤ n ∧ n ≤ 30) : SpG (spIsRow K) [isV (.int (n : Int)), isOddR K o] H (isV (.bl (fitsR (n : Int) o))) := fun _ _ _ hvs _ _ q => ⟨n, o, hvs, h, q⟩
theorem sc31 : FnScope ["many", "value"] ["many", "value"] (defScope (topS 31)) := ⟨rfl, rfl, rfl, by decide +kernel, rfl, by decide +kernel, by decide +kernel⟩
theorem many_ok {n : Nat} (h : 1 ≤ n ∧ n ≤ 30) : whole (.int (n : Int)) 1 30 = true := by simp [whole]; omega
theorem cl_isRow (T : Top K mg) : Cl P w K mg base CX0 3 "is_row" ["many", "value"] (spIsRow K) := by
  have CM : Cl P w K mg base (L2N.CX P w) 2 "need_many" ["value"] (spNeedM K mg) := cl_needM T
  have CF : Cl P w K mg base CX0 2 "fits_row" ["many", "value"] (spFitsR K) := cl_fitsR T
  refine cl0 (T.d (31, _) (by decide)) sc31 (fun vs H Q E ⟨_, _, h, _⟩ => h.len) (fun _ _ _ _ _ _ us hl => match us, hl with | [_, _], _ => rfl) (fun f cdv A outer s H vs Q E hr h => ?_)
  obtain ⟨n, o, hvs, hn, q⟩ := h
  obtain ⟨a, b, rfl, ha, hb⟩ := all2 hvs
  refine ⟨_, pss_cons (ps_expr (pe_cl CM hr (by decide) passN (pa_cons (pv 0) pa_nil))) (pss_one (ps_ret (pe_cl CF hr (by decide) pass0 (pa_cons (pv 0) (pa_cons (pv 1) pa_nil))))), ?_⟩
  refine q_chk (mg := mg) (Rs := [isK K (.int (n : Int))]) (as_cons (eg_var rfl ⟨ha, .int _⟩) as_nil) ck_many (fun _ H1 e1 => ?_) (fun hb => by rw [many_ok hn] at hb; cases hb)
  exact s_ret (eg_call (as_cons (eg_var rfl ha) (as_cons (eg_var rfl ((isOddR K _).st _ _ _ e1 hb)) as_nil)) sg_fitsR) fun v H2 e2 hv => q v H2 (e1.trans e2) hv
/-! ### order_behind, is_least_row, led_on -/
def spMR (K : PySem.W.Frag) (mg : Str → Option Value) (G : Nat → List Nat → Is) : Sp := fun vs H Q E => ∃ (u : V) (o : Option (List V)), AllIs [isK K u, isOddR K o] vs H ∧ (whole u 1 30 = false → Errs mg "InvalidMany" H E) ∧
  ∀ n : Nat, u = .int (n : Int) → 1 ≤ n ∧ n ≤ 30 → (fitsR (n : Int) o = false → Errs mg "InvalidRow" H E) ∧ ∀ r : List Nat, o = some (iV r) → Row n r → Gives (G n r) H Q
theorem iV_inj {l m : List Nat} (h : iV l = iV m) : l = m := by
  have h2 := congrArg (fun xs => (intsOf xs).map Int.toNat) h
  simp only [intsOf_iV, List.map_map] at h2
  simpa [Function.comp_def] using h2
theorem sg_MR {H : Hp} {G : Nat → List Nat → Is} {n : Nat} {r : List Nat} (hn : 1 ≤ n ∧ n ≤ 30) (hr : Row n r) : SpG (spMR K mg G) [isV (.int (n : Int)), isT K (iV r)] H (G n r) := fun H1 _ vs hvs Q E q => by
  obtain ⟨a, b, rfl, ha, hb⟩ := all2 hvs
  refine ⟨.int (n : Int), some (iV r), ⟨⟨ha, .int _⟩, oddR_iV hb hr.2, trivial⟩, (fun z => by rw [many_ok hn] at z; cases z), fun m e1 _ => ?_⟩
  have em : n = m := by have := V.int.inj e1; omega
  subst em
  refine ⟨(fun z => by rw [row_fits hr] at z; cases z), fun r' e2 _ => ?_⟩
  have er : r = r' := iV_inj (Option.some.inj e2)
  subst er
  exact q
theorem oddR_fits {H : Hp} {v : V} {xs : List V} (h : OddR K H v (some xs)) : (isT K xs).p v H := by
  rcases h.ty with ⟨a, ys, rfl, e, hs, _⟩ | ⟨e, _⟩
  · cases e
    exact ⟨a, rfl, hs⟩
  · cases e
theorem sc32 : FnScope ["many", "row"] ["many", "row"] (defScope (topS 32)) := ⟨rfl, rfl, rfl, by decide +kernel, rfl, by decide +kernel, by decide +kernel⟩
theorem sc41 : FnScope ["many", "row"] ["many", "row"] (defScope (topS 41)) := ⟨rfl, rfl, rfl, by decide +kernel, rfl, by decide +kernel, by decide +kernel⟩
abbrev GB (K : PySem.W.Frag) : Nat → List Nat → Is := fun n r => isT K (iV (behind (List.range n) r))
abbrev GL : Nat → List Nat → Is := fun n r => isV (.bl (decide (inv (behind (List.range n) r) = r.length)))
theorem fits_some {m : Int} {o : Option (List V)} (h : fitsR m o = true) : ∃ xs, o = some xs := by
  cases o with
  | none => cases h
  | some xs => exact ⟨xs, rfl⟩
theorem cl_ordB (T : Top K mg) : Cl P w K mg base (L2N.CX P w) 4 "order_behind" ["many", "row"] (spMR K mg (GB K)) := by
  have CM : Cl P w K mg base (L2N.CX P w) 2 "need_many" ["value"] (spNeedM K mg) := cl_needM T
  have CR : Cl P w K mg base (L2N.CX P w) 3 "need_row" ["many", "value"] (spNeedR K mg) := cl_needR T
  have CB : Cl P w K mg base CX0 2 "behind_row" ["order", "row"] (spBehind K) := cl_behind T
  refine clN (T.d (32, _) (by decide)) sc32 (fun vs H Q E ⟨_, _, h, _⟩ => h.len) (fun _ _ _ _ _ _ us hl => match us, hl with | [_, _], _ => rfl) (fun f cdv A outer s H vs Q E hr h => ?_)
  obtain ⟨u, o, hvs, qm, q⟩ := h
  obtain ⟨a, b, rfl, ha, hb⟩ := all2 hvs
  have hb : OddR K H b o := hb
  refine ⟨_, pss_cons (ps_expr (pe_cl CM hr (by decide) pass_up (pa_cons (pv 0) pa_nil))) (pss_cons (ps_expr (pe_cl CR hr (by decide) pass_up (pa_cons (pv 0) (pa_cons (pv 1) pa_nil))))
    (pss_one (ps_ret (pe_cl CB hr (by decide) pass0 (pa_cons (pe_tupRg rfl (by rfl) (T.b "tuple" (by decide)) (prg_1 (by rfl) (T.b "range" (by decide)) (pv 0))) (pa_cons (pv 1) pa_nil)))))), ?_⟩
  refine q_chk (mg := mg) (as_cons (eg_var rfl ha) as_nil) ck_many (fun hw H1 e1 => ?_) qm
  obtain ⟨z, rfl, h3, h4⟩ := whole_int hw
  have ez : z = ((z.toNat : Nat) : Int) := by omega
  rw [ez] at ha q
  obtain ⟨q1, q2⟩ := q z.toNat rfl ⟨by omega, by omega⟩
  refine q_chk (mg := mg) (as_cons (eg_var rfl ha.1) (as_cons (eg_var rfl (hb.ex e1)) as_nil)) ck_row (fun hf H2 e2 => ?_) (fun hf => (q1 hf).ex e1)
  obtain ⟨xs, rfl⟩ := fits_some hf
  obtain ⟨r, rfl, hrw⟩ := fitsR_row hf
  have hlen : (List.range z.toNat).length = z.toNat := List.length_range
  exact s_ret (eg_call (as_cons (eg_tupRg (eg_var rfl ha.1) (by omega)).T (as_cons (eg_var rfl ((isT K _).st _ _ _ (e1.trans e2) (oddR_fits hb))) as_nil)) (sg_behind ⟨fun i hi => by rw [hlen]; exact hrw.1 i hi, by rw [hlen]; omega⟩))
    fun v H3 e3 hv => q2 r rfl hrw v H3 ((e1.trans e2).trans e3) hv
theorem cl_isLeast (T : Top K mg) : Cl P w K mg base (L2N.CX P w) 4 "is_least_row" ["many", "row"] (spMR K mg GL) := by
  have CM : Cl P w K mg base (L2N.CX P w) 2 "need_many" ["value"] (spNeedM K mg) := cl_needM T
  have CR : Cl P w K mg base (L2N.CX P w) 3 "need_row" ["many", "value"] (spNeedR K mg) := cl_needR T
  have CB : Cl P w K mg base CX0 3 "is_least" ["many", "row"] (spIsL K) := cl_isL T
  refine clN (T.d (41, _) (by decide)) sc41 (fun vs H Q E ⟨_, _, h, _⟩ => h.len) (fun _ _ _ _ _ _ us hl => match us, hl with | [_, _], _ => rfl) (fun f cdv A outer s H vs Q E hr h => ?_)
  obtain ⟨u, o, hvs, qm, q⟩ := h
  obtain ⟨a, b, rfl, ha, hb⟩ := all2 hvs
  have hb : OddR K H b o := hb
  refine ⟨_, pss_cons (ps_expr (pe_cl CM hr (by decide) pass_up (pa_cons (pv 0) pa_nil))) (pss_cons (ps_expr (pe_cl CR hr (by decide) pass_up (pa_cons (pv 0) (pa_cons (pv 1) pa_nil))))
    (pss_one (ps_ret (pe_cl CB hr (by decide) pass0 (pa_cons (pv 0) (pa_cons (pv 1) pa_nil)))))), ?_⟩
  refine q_chk (mg := mg) (as_cons (eg_var rfl ha) as_nil) ck_many (fun hw H1 e1 => ?_) qm
  obtain ⟨z, rfl, h3, h4⟩ := whole_int hw
  have ez : z = ((z.toNat : Nat) : Int) := by omega
  rw [ez] at ha q
  obtain ⟨q1, q2⟩ := q z.toNat rfl ⟨by omega, by omega⟩
  refine q_chk (mg := mg) (as_cons (eg_var rfl ha.1) (as_cons (eg_var rfl (hb.ex e1)) as_nil)) ck_row (fun hf H2 e2 => ?_) (fun hf => (q1 hf).ex e1)
  obtain ⟨xs, rfl⟩ := fits_some hf
  obtain ⟨r, rfl, hrw⟩ := fitsR_row hf
  exact s_ret (eg_call (as_cons (eg_var rfl ha.1) (as_cons (eg_var rfl ((isT K _).st _ _ _ (e1.trans e2) (oddR_fits hb))) as_nil)) (sg_isL ⟨by omega, hrw⟩)) fun v H3 e3 hv => q2 r rfl hrw v H3 ((e1.trans e2).trans e3) hv
def spLedOn (K : PySem.W.Frag) (mg : Str → Option Value) : Sp := fun vs H Q E => ∃ (l : List Nat) (o : Option (List V)), AllIs [isT K (iV l), isOddR K o] vs H ∧ (Ord l ∧ 1 ≤ l.length ∧ l.length ≤ 30) ∧ (fitsR (l.length : Nat) o = false → Errs mg "InvalidRow" H E) ∧
  ∀ r : List Nat, o = some (iV r) → Row l.length r → Gives (isT K (iV (behind l r))) H Q
theorem sg_ledOn {H : Hp} {l r : List Nat} (h : Ord l ∧ 1 ≤ l.length ∧ l.length ≤ 30) (hr : Row l.length r) : SpG (spLedOn K mg) [isT K (iV l), isT K (iV r)] H (isT K (iV (behind l r))) := fun H1 _ vs hvs Q E q => by
  obtain ⟨a, b, rfl, ha, hb⟩ := all2 hvs
  refine ⟨l, some (iV r), ⟨ha, oddR_iV hb hr.2, trivial⟩, h, (fun z => by rw [row_fits hr] at z; cases z), fun r' e2 _ => ?_⟩
  have er : r = r' := iV_inj (Option.some.inj e2)
  subst er
  exact q
theorem sc33 : FnScope ["order", "row"] ["order", "row"] (defScope (topS 33)) := ⟨rfl, rfl, rfl, by decide +kernel, rfl, by decide +kernel, by decide +kernel⟩
theorem cl_ledOn (T : Top K mg) : Cl P w K mg base (L2N.CX P w) 4 "led_on" ["order", "row"] (spLedOn K mg) := by
  have CO : Cl P w K mg base (L2N.CX P w) 3 "need_order" ["value"] (spNeedO K mg) := cl_needO T
  have CR : Cl P w K mg base (L2N.CX P w) 3 "need_row" ["many", "value"] (spNeedR K mg) := cl_needR T
  have CB : Cl P w K mg base CX0 2 "behind_row" ["order", "row"] (spBehind K) := cl_behind T
  refine clN (T.d (33, _) (by decide)) sc33 (fun vs H Q E ⟨_, _, h, _⟩ => h.len) (fun _ _ _ _ _ _ us hl => match us, hl with | [_, _], _ => rfl) (fun f cdv A outer s H vs Q E hr h => ?_)
  obtain ⟨l, o, hvs, ⟨od, h1, h2⟩, q1, q2⟩ := h
  obtain ⟨a, b, rfl, ha, hb⟩ := all2 hvs
  have hb : OddR K H b o := hb
  refine ⟨_, pss_cons (ps_expr (pe_cl CO hr (by decide) pass_up (pa_cons (pv 0) pa_nil))) (pss_cons (ps_expr (pe_cl CR hr (by decide) pass_up (pa_cons (pe_callB (call_lenK K) (by rfl) (T.b "len" (by decide)) PySem.boot_len (pa_cons (pv 0) pa_nil)) (pa_cons (pv 1) pa_nil))))
    (pss_one (ps_ret (pe_cl CB hr (by decide) pass0 (pa_cons (pv 0) (pa_cons (pv 1) pa_nil)))))), ?_⟩
  refine q_chk (mg := mg) (as_cons (eg_var rfl (odd_iV ha)) as_nil) ck_order (fun _ H1 e1 => ?_) (fun hb => by rw [ord_fits od h1 h2] at hb; cases hb)
  have ha1 := (isT K _).st _ _ _ e1 ha
  refine q_chk (mg := mg) (as_cons (eg_is (eg_cb (as_cons (eg_var rfl ha1) as_nil) cgk_lenT) (by rw [iV_length])) (as_cons (eg_var rfl (hb.ex e1)) as_nil)) ck_row (fun hf H2 e2 => ?_) (fun hf => (q1 hf).ex e1)
  obtain ⟨xs, rfl⟩ := fits_some hf
  obtain ⟨r, rfl, hrw⟩ := fitsR_row hf
  exact s_ret (eg_call (as_cons (eg_var rfl ((isT K _).st _ _ _ e2 ha1)) (as_cons (eg_var rfl ((isT K _).st _ _ _ (e1.trans e2) (oddR_fits hb))) as_nil)) (sg_behind ⟨hrw.1, by omega⟩)) fun v H3 e3 hv => q2 r rfl hrw v H3 ((e1.trans e2).trans e3) hv
end
end K2

namespace K2
open PySem PySem.Spec PyProof.Rows L2
open Evl (Ex)
set_option Elab.async false
set_option linter.all false
set_option maxRecDepth 100000
set_option maxHeartbeats 4000000
/-! ### list + list, the left one any list that may be read -/
def rCatS (K : PySem.W.Frag) : R2 := fun x y H Q => ∃ (a b : Addr) (xs ys : List V), x = .ref a ∧ y = .ref b ∧ SqL K H a xs ∧ SqL K H b ys ∧ xs.length + ys.length ≤ sizeLine ∧ ∀ p, H p = none → Q (.ref p) (upd H p (.lst (xs ++ ys)))
theorem op_catS {X : Cx} : OpR X (binaryOp .Add) (rCatS X.K) := fun pi st σ H x y v u Q Iv rx ry hw => by
  obtain ⟨a, b, xs, ys, rfl, rfl, ha, hb, hz, q⟩ := hw
  cases rx
  cases ry
  obtain ⟨its, rv, ⟨⟨c1, d1, dat1, sl1⟩, n1, g1, k1, _, e1⟩, _⟩ := Iv.list ha
  obtain ⟨its2, rv2, ⟨⟨c2, d2, dat2, sl2⟩, n2, g2, k2, _, e2⟩, _⟩ := Iv.list hb
  simp only at k1 e1 k2 e2
  subst k1 e1 k2 e2
  have l1 := rv.length
  have l2 := rv2.length
  refine concat_meets ⟨_, g1, rfl⟩ ⟨_, g2, rfl⟩ noFill_list_add seq_list_add PySem.F.slot_list_add PySem.F.entry_list_add (PySem.F.args_list_add_2 _ _)
    (list_addW a b its.toArray its2.toArray n1 n2 d1 d2 sl1 sl2 (by rw [List.size_toArray, List.size_toArray]; omega)) ⟨g1, g2, ?_⟩
  have ea : its.toArray ++ its2.toArray = (its ++ its2).toArray := by simp
  rw [ea]
  exact ⟨.ref _, _, Iv.lnew (t' := st.toks) (rv.append rv2) (by rw [List.length_append]; omega), rfl, q _ Iv.fresh⟩

/-! ### the pot, which calls change -/
/-- all but the object at a is as it was -/
def ExB (a : Addr) (H H' : Hp) : Prop := ∀ b o, b ≠ a → H b = some o → H' b = some o
def PotAt (a : Addr) (H : Hp) : Prop := ∃ g c : Int, H a = some (.lst [.int g, .int c]) ∧ 0 ≤ g ∧ 0 ≤ c ∧ c < 4294967296
theorem ExB.refl (a : Addr) (H : Hp) : ExB a H H := fun _ _ _ h => h
theorem ExB.trans {a : Addr} {H H1 H2 : Hp} (h : ExB a H H1) (k : ExB a H1 H2) : ExB a H H2 := fun b o n e => k b o n (h b o n e)
theorem ExB.of {a : Addr} {H H1 : Hp} (h : Ex H H1) : ExB a H H1 := fun b o _ e => h b o e
theorem PotAt.ex {a : Addr} {H H1 : Hp} (p : PotAt a H) (e : Ex H H1) : PotAt a H1 := let ⟨g, c, h, r⟩ := p; ⟨g, c, e _ _ h, r⟩
theorem Firm.keep {R : Is} (f : Firm R) {a : Addr} {H H2 : Hp} {v : V} (p : PotAt a H) (p2 : PotAt a H2) (e : ExB a H H2) (h : R.p v H) : R.p v H2 := by
  obtain ⟨g, c, h1, _⟩ := p
  obtain ⟨g2, c2, h2, _⟩ := p2
  refine R.st v (upd H a (.lst [.int g2, .int c2])) H2 (fun b o eb => ?_) (f v H a _ _ h1 h)
  by_cases hb : b = a
  · rw [hb, upd_same] at eb
    rw [hb, h2, ← eb]
  · rw [upd_ne hb] at eb
    exact e b o hb eb
theorem sqL_but {K : PySem.W.Frag} {a b : Addr} {H H2 : Hp} {xs : List V} (n : b ≠ a) (e : ExB a H H2) (h : SqL K H b xs) : SqL K H2 b xs := by
  rcases h with (h | ⟨o, h⟩) | h
  · exact .inl (.inl (e b _ n h))
  · exact .inl (.inr ⟨o, e b _ n h⟩)
  · exact .inr h
def EvM (a : Addr) (te : TE) (σ : L2.St) (H : Hp) (R : Is) : Prop := ∀ H1, Ex H H1 → PotAt a H1 → ∀ Q : VK, (∀ v H2, ExB a H1 H2 → PotAt a H2 → R.p v H2 → Q v H2) → te σ H1 Q
def SpM (a : Addr) (sp : Sp) (Rs : List Is) (H : Hp) (R : Is) : Prop := ∀ H1, Ex H H1 → PotAt a H1 → ∀ vs, AllIs Rs vs H1 → ∀ (Q : VK) (E : XK), (∀ v H2, ExB a H1 H2 → PotAt a H2 → R.p v H2 → Q v H2) → sp vs H1 Q E
section
variable {K : PySem.W.Frag} {σ : L2.St} {H : Hp} {te : TE} {tA : TA} {Rs : List Is} {R : Is} {sp : Sp} {E : XK} {a : Addr} {D : Ends} {tz : TS} {i : Nat}
theorem em_call (h : EvAs tA σ H Rs) (hs : SpM a sp Rs H R) : EvM a (tCall sp [] E tA) σ H R := fun H1 e p Q q => h H1 e _ fun vs H2 e2 hvs => by
  show sp (vs ++ []) H2 Q E
  rw [List.append_nil]
  exact hs H2 (e.trans e2) (p.ex e2) vs hvs _ _ fun v H3 e3 p3 hv => q v H3 ((ExB.of e2).trans e3) p3 hv
theorem q_asgM (h : EvM a te σ H R) (p : PotAt a H) (k : ∀ v H1, ExB a H H1 → PotAt a H1 → R.p v H1 → tz D (σ.set i (some v)) H1) : tSeq (tAsg te (gName i)) tz D σ H := h H (Ex.refl H) p _ k
theorem s_retM (h : EvM a te σ H R) (p : PotAt a H) (k : ∀ v H1, ExB a H H1 → PotAt a H1 → R.p v H1 → D.rt v H1) : tRet te D σ H := h H (Ex.refl H) p _ k
end
/-- a number below m -/
def isB (m : Nat) : Is := ⟨fun v _ => ∃ k : Nat, v = .int (k : Int) ∧ k < m, fun _ _ _ _ h => h⟩
theorem firm_B {m : Nat} : Firm (isB m) := fun _ _ _ _ _ _ h => h
/-- one of some values -/
def isMem (xs : List V) : Is := ⟨fun v _ => v ∈ xs, fun _ _ _ _ h => h⟩
section
variable {P : Program} {w : World} {K : PySem.W.Frag} {mg : Str → Option Value} {base : Heap}
/-! ### _law_pot -/
def isPot : Is := ⟨fun v H => ∃ a, v = .ref a ∧ PotAt a H, fun _ _ _ e ⟨a, h1, h2⟩ => ⟨a, h1, h2.ex e⟩⟩
def spPot (K : PySem.W.Frag) : Sp := fun vs H Q _ => ∃ ns : List Int, AllIs [isL K (ns.map V.int), isV (.int 3)] vs H ∧ ns.length ≤ 1000 ∧ Gives isPot H Q
theorem sg_pot {H : Hp} {ns : List Int} (h : ns.length ≤ 1000) : SpG (spPot K) [isL K (ns.map V.int), isV (.int 3)] H isPot := fun _ _ _ hvs _ _ q => ⟨ns, hvs, h, q⟩
theorem sc44 : FnScope ["_law_script", "_law_turn", "_law_cell", "_law_great"] ["_law_script", "_law_turn"] (defScope (topS 44)) := ⟨rfl, rfl, rfl, by decide +kernel, rfl, by decide +kernel, by decide +kernel⟩
theorem cg_int {H : Hp} {i : Int} : CbG (fun xs H Q => (∃ i, xs = [V.int i] ∧ Q (.int i) H) ∨ ∃ k : Bool, xs = [.bl k] ∧ Q (.int (if k then 1 else 0)) H) [isV (.int i)] H (isV (.int i)) := fun H1 _ vs hvs Q q => by
  obtain ⟨a, rfl, h⟩ := all1 hvs
  exact .inl ⟨i, by rw [show a = V.int i from h], q _ H1 (Ex.refl H1) rfl⟩
theorem cg_abs {H : Hp} {i : Int} : CbG (fun xs H Q => ∃ i, xs = [V.int i] ∧ Q (.int (if i < 0 then -i else i)) H) [isV (.int i)] H (isV (.int (if i < 0 then -i else i))) := fun H1 _ vs hvs Q q => by
  obtain ⟨a, rfl, h⟩ := all1 hvs
  exact ⟨i, by rw [show a = V.int i from h], q _ H1 (Ex.refl H1) rfl⟩
theorem og_catS {H : Hp} {xs ys : List V} (hl : xs.length + ys.length ≤ 100000) : OpG (rCatS K) (isL K xs) (isL K ys) H (isL K (xs ++ ys)) := fun H1 _ x y ⟨a, hx, ha⟩ ⟨b, hy, hb⟩ Q q =>
  ⟨a, b, xs, ys, hx, hy, ha, hb, Evl.sz_of hl, fun p hp => q _ _ (Ex.new hp) ⟨p, rfl, .inl (.inl upd_same)⟩⟩
theorem cl_pot (T : Top K mg) : Cl P w K mg base CX0 1 "_law_pot" ["_law_script", "_law_turn"] (spPot K) := by
  refine cl0 (T.d (44, _) (by decide)) sc44 (fun vs H Q E ⟨_, h, _⟩ => h.len) (fun _ _ _ _ _ _ us hl => match us, hl with | [_, _], _ => rfl) (fun f cdv A outer s H vs Q E hr h => ?_)
  obtain ⟨ns, hvs, hl, q⟩ := h
  obtain ⟨a, b, rfl, ha, hb⟩ := all2 hvs
  refine ⟨_, pss_cons (ps_set (i := 2) sc44.nd rfl (.inl rfl) (pe_callB call_abs (by rfl) (T.b "abs" (by decide)) (by decide +kernel) (pa_cons (pe_callTy call_int1 (by rfl) (T.b "int" (by decide)) (by decide +kernel) (pa_cons
      (pe_ix ix_list (pe_op op_catS (pv 0) (pe_lst (pa_cons pe_int pa_nil))) pe_int (fun _ _ => rfl)) pa_nil)) pa_nil)))
    (pss_cons (ps_set (i := 3) sc44.nd rfl (.inl rfl) (pe_ifExp (pt_cmpR op_ge (pv 2) (pe_op op_pow pe_int pe_int) (nomark _)) (pe_op op_fdiv (pv 2) pe_int) pe_int))
    (pss_one (ps_ret (pe_lst (pa_cons (pv 3) (pa_cons (pe_op op_add (pe_op op_mod (pe_callTy call_int1 (by rfl) (T.b "int" (by decide)) (by decide +kernel) (pa_cons (pe_op op_add (pe_op op_mul (pv 2) pe_int) (pe_op op_mul pe_int (pv 1))) pa_nil)) pe_int) pe_int) pa_nil)))))), ?_⟩
  obtain ⟨n, hn⟩ : ∃ n : Int, (ns.map V.int ++ [V.int 0])[0]? = some (V.int n) := by
    cases ns with
    | nil => exact ⟨0, rfl⟩
    | cons n r => exact ⟨n, rfl⟩
  have hat : atI (ns.map V.int ++ [V.int 0]) 0 = some (V.int n) := atI_nat (j := 0) hn
  refine q_asg (eg_cb (as_cons (eg_cb (as_cons (eg_op (eg_op (eg_var rfl ha) (EvG.L (xs := [V.int 0]) (eg_lst (as_cons eg_c as_nil) (by show 1 ≤ 100000; decide))) (og_catS (by rw [List.length_map]; show _ + 1 ≤ _; omega))) eg_c (og_ixL hat)) as_nil) cg_int) as_nil) cg_abs) fun v H1 e1 hv => ?_
  cases (show v = V.int (if n < 0 then -n else n) from hv)
  have hc : 0 ≤ (if n < 0 then -n else n) := by split <;> omega
  generalize (if n < 0 then -n else n) = cell at hc
  refine q_asg (R := ⟨fun v _ => ∃ g : Int, v = .int g ∧ 0 ≤ g, fun _ _ _ _ h => h⟩) (eg_if (b := decide (((10 : Int) ^ (18 : Int).toNat) ≤ cell)) (eb_test (eg_op (eg_v rfl) (eg_op eg_c eg_c (og_I ⟨by decide, by decide, by decide⟩)) og_I0))
    (fun _ => (eg_op (eg_v rfl) eg_c (og_I ⟨by decide, by decide⟩)).imp fun u H2 _ hu => ⟨cell / 3, hu, by omega⟩) (fun _ => eg_c.imp fun u H2 _ hu => ⟨0, hu, by omega⟩)) fun v2 H2 e2 ⟨g, hg, g0⟩ => ?_
  subst hg
  cases (show b = V.int 3 from hb)
  refine s_ret (R := isLs K ([V.int g, V.int ((cell * 6101 + 977 * 3) % 2147483399 + 17)].map isV)) (eg_lst (as_cons (eg_v rfl) (as_cons (eg_op (eg_op (eg_cb (as_cons (eg_op (eg_op (eg_v rfl) eg_c (og_I (.inr ⟨by decide, by decide⟩))) (eg_op eg_c (eg_v rfl) (og_I (.inl ⟨by decide, by decide⟩))) og_I0) as_nil) cg_int) eg_c (og_I (by show (0 : Int) < 2147483399; decide))) eg_c og_I0) as_nil)) (by show 2 ≤ 100000; decide))
    fun v3 H3 e3 ⟨p, us, hp, hl3, hu⟩ => q v3 H3 ((e1.trans e2).trans e3) ⟨p, hp, g, (cell * 6101 + 977 * 3) % 2147483399 + 17, by rw [hl3, allV hu], g0, ?_, ?_⟩
  · have := Int.emod_nonneg (cell * 6101 + 977 * 3) (b := 2147483399) (by decide)
    omega
  · have := Int.emod_lt_of_pos (cell * 6101 + 977 * 3) (b := 2147483399) (by decide)
    omega
end
end K2

namespace K2
open PySem PySem.Spec PyProof.Rows L2
open Evl (Ex)
set_option Elab.async false
set_option linter.all false
set_option maxRecDepth 100000
set_option maxHeartbeats 4000000
/-- a list made since H0 -/
def isNew (H0 : Hp) (Rs : List Is) : Is := ⟨fun x H => ∃ a vs, x = .ref a ∧ H0 a = none ∧ H a = some (.lst vs) ∧ AllIs Rs vs H, fun _ _ _ e ⟨a, vs, h1, h0, h2, h3⟩ => ⟨a, vs, h1, h0, e _ _ h2, h3.st e⟩⟩
section
variable {K : PySem.W.Frag} {σ σ2 : L2.St} {H H' : Hp} {ta tb te tl : TE} {tA : TA} {t : TT} {i j : Nat} {D : Ends} {tz : TS}
theorem eg_lstN {Rs : List Is} (h : EvAs tA σ H Rs) (hl : Rs.length ≤ 100000) : EvG (tLst tA) σ H (isNew H Rs) := fun H1 e _ q =>
  h H1 e _ fun vs H2 e2 hvs => ⟨by rw [hvs.len]; exact Evl.sz_of hl, fun p hp => q _ _ (e2.trans (Ex.new hp)) ⟨p, vs, rfl, Evl.fresh_back (e.trans e2) hp, upd_same, hvs.st (Ex.new hp)⟩⟩
theorem allV_self {H : Hp} : ∀ xs : List V, AllIs (xs.map isV) xs H
  | [] => trivial
  | _ :: r => ⟨rfl, allV_self r⟩
theorem eg_lstRgN {n : Nat} (h : EvG te σ H (isV (.int (n : Int)))) (hn : n ≤ 1000) : EvG (tLstRg (tRg1 te)) σ H (isNew H ((iV (List.range n)).map isV)) := fun H1 e Q q => h H1 e _ fun v H2 e2 hv => ⟨(n : Int), hv,
  ⟨by omega, by omega, by omega, by omega, by omega⟩, fun p hp => q _ _ (e2.trans (Ex.new hp)) ⟨p, _, rfl, Evl.fresh_back (e.trans e2) hp, upd_same, by rw [rg_iV]; exact allV_self _⟩⟩
theorem eg_lcLN {vs : List Nat} {xs : List V} (f : Nat → Bool) (Rv : Nat → Is) (firm : ∀ k, Firm (Rv k)) (h : EvG tl σ H (isL K xs)) (hz : xs.length ≤ 40000) (hw : ∀ x, wipe ((wipe σ vs).set j (some x)) vs = wipe σ vs)
    (ht : ∀ (i : Nat) (x : V) H1, Ex H H1 → xs[i]? = some x → EvB t ((wipe σ vs).set j (some x)) H1 (f i)) (he : ∀ (i : Nat) (x : V) H1, Ex H H1 → xs[i]? = some x → f i = true → EvG te ((wipe σ vs).set j (some x)) H1 (Rv i)) :
    EvG (tLc (iList K tl) (gName j) t te vs) σ H (isNew H (kept xs.length f Rv)) := fun H0 e Q q => h H0 e _ fun v H1 e1 ⟨a, hv, hx⟩ => ⟨a, hv, ⟨xs, hx⟩, fun D hD =>
  lc_list (xs := xs) (Cwd H1 f Rv D) (cwd_start hD) (fun i H' _ p => Evl.ex_l p.2.1 hx) (fun i x H' hi p => ⟨hw x, cwd_turn firm p (by have := (List.getElem?_eq_some_iff.mp hi).1; omega) (ht i x H1 (e.trans e1) hi) (fun hf => he i x H1 (e.trans e1) hi hf)⟩)
    (fun H' ⟨p1, p2, acc, p3, p4⟩ => q _ H' (e1.trans p2) ⟨D, acc, rfl, Evl.fresh_back (e.trans e1) p1, p3, p4⟩)⟩
theorem s_setIx {l : Addr} {xs : List V} {v : V} {k : Int} {m : Nat} (h : EvG te σ H (isV v)) (ho : EvG ta σ H (isV (.ref l))) (hi : EvG tb σ H (isV (.int k))) (hl : H l = some (.lst xs)) (hj : ixN xs.length k = some m) (kk : ∀ H1, Ex H H1 → D.nx σ (upd H1 l (.lst (xs.set m v)))) :
    tAsg te (gSub ta tb rSetL) D σ H := h H (Ex.refl H) _ fun x H1 e1 hx => ho H1 e1 _ fun y H2 e2 hy => hi H2 (e1.trans e2) _ fun z H3 e3 hz => by
  cases (show x = v from hx)
  exact ⟨l, xs, k, m, hy, hz, ((e1.trans e2).trans e3) l _ hl, hj, kk H3 ((e1.trans e2).trans e3)⟩
theorem exB_upd {a : Addr} {o : HO} {H1 : Hp} (e : Ex H H1) : ExB a H (upd H1 a o) := fun b u n hb => by
  rw [upd_ne n]
  exact e b u hb
theorem allV_mem {H : Hp} {xs vs : List V} (h : AllIs (xs.map isV) vs H) : vs = xs := allV h
end
section
variable {P : Program} {w : World} {K : PySem.W.Frag} {mg : Str → Option Value} {base : Heap}
/-! ### _law_dip -/
def spDip : Sp := fun vs H Q _ => ∃ (a : Addr) (m : Nat), vs = [.ref a, .int (m : Int)] ∧ PotAt a H ∧ (1 ≤ m ∧ m ≤ 1000) ∧ ∀ v H2, ExB a H H2 → PotAt a H2 → (isB m).p v H2 → Q v H2
theorem sm_dip {a : Addr} {H : Hp} {m : Nat} (h : 1 ≤ m ∧ m ≤ 1000) : SpM a spDip [isV (.ref a), isV (.int (m : Int))] H (isB m) := fun H1 _ p vs hvs Q E q => by
  obtain ⟨x, y, rfl, h1, h2⟩ := all2 hvs
  exact ⟨a, m, by rw [show x = V.ref a from h1, show y = V.int (m : Int) from h2], p, h, q⟩
theorem sc45 : FnScope ["_law_pot_here", "_law_many_here", "_law_found", "_law_deep"] ["_law_pot_here", "_law_many_here"] (defScope (topS 45)) := ⟨rfl, rfl, rfl, by decide +kernel, rfl, by decide +kernel, by decide +kernel⟩
theorem isB_mod (z : Int) {m : Nat} (h : 1 ≤ m) {H : Hp} : (isB m).p (.int (z % (m : Int))) H := by
  have h1 := Int.emod_nonneg z (b := (m : Int)) (by omega)
  have h2 := Int.emod_lt_of_pos z (b := (m : Int)) (by omega)
  exact ⟨(z % (m : Int)).toNat, by congr 1; omega, by omega⟩
theorem cl_dip (T : Top K mg) : Cl P w K mg base CX0 1 "_law_dip" ["_law_pot_here", "_law_many_here"] spDip := by
  refine cl0 (T.d (45, _) (by decide)) sc45 (fun vs H Q E ⟨_, _, h, _⟩ => by rw [h]; rfl) (fun _ _ _ _ _ _ us hl => match us, hl with | [_, _], _ => rfl) (fun f cdv A outer s H vs Q E hr h => ?_)
  obtain ⟨a, m, rfl, ⟨g, c, hp, g0, c0, c1⟩, ⟨m0, m1⟩, q⟩ := h
  refine ⟨_, pss_cons (ps_if (pt_cmpR op_gt (pe_ix ix_list (pv 0) pe_int (fun _ _ => rfl)) pe_int (nomark _))
      (pss_cons (ps_set (i := 2) sc45.nd rfl (.inl rfl) (pe_op op_mod (pe_callTy call_int1 (by rfl) (T.b "int" (by decide)) (by decide +kernel) (pa_cons (pe_ix ix_list (pv 0) pe_int (fun _ _ => rfl)) pa_nil)) (pv 1)))
        (pss_cons (ps_asg (pe_op op_fdiv (pe_ix ix_list (pv 0) pe_int (fun _ _ => rfl)) (pv 1)) (pg_sub (pv 0) pe_int set_list)) (pss_one (ps_ret (pv 2))))) pss_nil)
    (pss_cons (ps_asg (pe_op op_mod (pe_callTy call_int1 (by rfl) (T.b "int" (by decide)) (by decide +kernel) (pa_cons (pe_op op_add (pe_op op_mul (pe_ix ix_list (pv 0) pe_int (fun _ _ => rfl)) pe_int) pe_int) pa_nil)) pe_int) (pg_sub (pv 0) pe_int set_list))
    (pss_cons (ps_set (i := 3) sc45.nd rfl (.inl rfl) (pe_op op_mod (pe_callTy call_int1 (by rfl) (T.b "int" (by decide)) (by decide +kernel) (pa_cons (pe_op op_mul (pe_ix ix_list (pv 0) pe_int (fun _ _ => rfl)) (pe_op op_add (pe_ix ix_list (pv 0) pe_int (fun _ _ => rfl)) pe_int)) pa_nil)) pe_int))
    (pss_one (ps_ret (pe_op op_mod (pe_callTy call_int1 (by rfl) (T.b "int" (by decide)) (by decide +kernel) (pa_cons (pe_op op_fdiv (pv 3) pe_int) pa_nil)) (pv 1)))))), ?_⟩
  have at0 : ∀ x y : V, atI [x, y] 0 = some x := fun x y => atI_nat (j := 0) rfl
  have at1 : ∀ x y : V, atI [x, y] 1 = some y := fun x y => atI_nat (j := 1) rfl
  have pL : ∀ (H1 : Hp) (x y : V) (σ : L2.St), H1 a = some (.lst [x, y]) → σ[0]? = some (some (.ref a)) → EvG (tVar 0) σ H1 (isL K [x, y]) := fun _ _ _ _ h1 h2 => eg_vL h2 (.inl (.inl h1))
  refine q_when (b := decide (0 < g)) (eb_test (eg_op (eg_op (pL _ _ _ _ hp rfl) eg_c (og_ixL (at0 _ _))) eg_c og_I0)) (fun hg H1 e1 => ?_) (fun _ H1 e1 => ?_)
  · have hg : 0 < g := by simpa using hg
    have hp1 := e1 _ _ hp
    refine q_asg (eg_op (eg_cb (as_cons (eg_op (pL _ _ _ _ hp1 rfl) eg_c (og_ixL (at0 _ _))) as_nil) cg_int) (eg_v rfl) (og_I (by show (0 : Int) < (m : Int); omega))) fun v H2 e2 hv => ?_
    have hp2 := e2 _ _ hp1
    refine s_setIx (eg_op (eg_op (pL _ _ _ _ hp2 rfl) eg_c (og_ixL (at0 _ _))) (eg_v rfl) (og_I ⟨by omega, by omega⟩)) (eg_v rfl) eg_c hp2 (m := 0) rfl fun H3 e3 => ?_
    refine s_ret (eg_v rfl) fun v2 H4 e4 hv2 => q v2 H4 ((exB_upd ((e1.trans e2).trans e3)).trans (ExB.of e4)) ⟨g / (m : Int), c, e4 _ _ upd_same, Int.ediv_nonneg g0 (by omega), c0, c1⟩ ?_
    rw [show v2 = v from hv2, show v = V.int (g % (m : Int)) from hv]
    exact isB_mod g m0
  · have hp1 := e1 _ _ hp
    refine s_setIx (eg_op (eg_cb (as_cons (eg_op (eg_op (eg_op (pL _ _ _ _ hp1 rfl) eg_c (og_ixL (at1 _ _))) eg_c (og_I (.inl ⟨by omega, by omega⟩))) eg_c og_I0) as_nil) cg_int) eg_c (og_I (by show (0 : Int) < 2147483399; decide))) (eg_v rfl) eg_c hp1 (m := 1) rfl fun H2 e2 => ?_
    have n0 := Int.emod_nonneg (c * 40692 + 311) (b := 2147483399) (by decide)
    have n1 := Int.emod_lt_of_pos (c * 40692 + 311) (b := 2147483399) (by decide)
    generalize (c * 40692 + 311) % 2147483399 = d at n0 n1
    have hp2 : (upd H2 a (.lst [V.int g, V.int d])) a = some (.lst [V.int g, V.int d]) := upd_same
    refine q_asg (eg_op (eg_cb (as_cons (eg_op (eg_op (pL _ _ _ _ hp2 rfl) eg_c (og_ixL (at1 _ _))) (eg_op (eg_op (pL _ _ _ _ hp2 rfl) eg_c (og_ixL (at1 _ _))) eg_c og_I0) (og_I (.inl ⟨by omega, by omega⟩))) as_nil) cg_int) eg_c (og_I (by show (0 : Int) < 2147483563; decide))) fun v H3 e3 hv => ?_
    cases (show v = V.int (d * (d + 57) % 2147483563) from hv)
    refine s_ret (eg_op (eg_cb (as_cons (eg_op (eg_v rfl) eg_c (og_I ⟨by decide, by decide⟩)) as_nil) cg_int) (eg_v rfl) (og_I (by show (0 : Int) < (m : Int); omega))) fun v2 H4 e4 hv2 => q v2 H4 ((exB_upd (e1.trans e2)).trans (ExB.of (e3.trans e4))) ⟨g, d, e4 _ _ (e3 _ _ hp2), g0, n0, by omega⟩ ?_
    rw [show v2 = _ from hv2]
    exact isB_mod _ m0
/-! ### _law_one, _law_many -/
def spOne (K : PySem.W.Frag) : Sp := fun vs H Q _ => ∃ (a b : Addr) (xs : List V), vs = [.ref a, .ref b] ∧ PotAt a H ∧ b ≠ a ∧ SqL K H b xs ∧ (1 ≤ xs.length ∧ xs.length ≤ 1000) ∧ ∀ v H2, ExB a H H2 → PotAt a H2 → v ∈ xs → Q v H2
theorem sc46 : FnScope ["_law_pot_here", "_law_some"] ["_law_pot_here", "_law_some"] (defScope (topS 46)) := ⟨rfl, rfl, rfl, by decide +kernel, rfl, by decide +kernel, by decide +kernel⟩
theorem cl_one (T : Top K mg) : Cl P w K mg base CX0 2 "_law_one" ["_law_pot_here", "_law_some"] (spOne K) := by
  have CD : Cl P w K mg base CX0 1 "_law_dip" ["_law_pot_here", "_law_many_here"] spDip := cl_dip T
  refine cl0 (T.d (46, _) (by decide)) sc46 (fun vs H Q E ⟨_, _, _, h, _⟩ => by rw [h]; rfl) (fun _ _ _ _ _ _ us hl => match us, hl with | [_, _], _ => rfl) (fun f cdv A outer s H vs Q E hr h => ?_)
  obtain ⟨a, b, xs, rfl, p, ne, hs, ⟨l0, l1⟩, q⟩ := h
  refine ⟨_, pss_one (ps_ret (pe_ix ix_list (pv 1) (pe_cl CD hr (by decide) pass0 (pa_cons (pv 0) (pa_cons (pe_callB (call_lenK K) (by rfl) (T.b "len" (by decide)) PySem.boot_len (pa_cons (pv 1) pa_nil)) pa_nil))) (fun _ _ => rfl))), ?_⟩
  refine ⟨.ref b, rfl, em_call (a := a) (as_cons (eg_v rfl) (as_cons (eg_cb (as_cons (eg_vL rfl hs) as_nil) cgk_lenL) as_nil)) (sm_dip ⟨l0, l1⟩) H (Ex.refl H) p _ fun v H2 e2 p2 hv => ?_⟩
  obtain ⟨k, rfl, hk⟩ := hv
  exact ⟨b, xs, _, xs[k], rfl, rfl, sqL_but ne e2 hs, atI_nat (List.getElem?_eq_getElem hk), q _ H2 e2 p2 (List.getElem_mem hk)⟩
theorem sm_oneN {a : Addr} {H H0 : Hp} {xs : List V} (h0 : PotAt a H0) (h : 1 ≤ xs.length ∧ xs.length ≤ 1000) : SpM a (spOne K) [isV (.ref a), isNew H0 (xs.map isV)] H (isMem xs) := fun H1 _ p vs hvs Q E q => by
  obtain ⟨x, y, rfl, h1, b, us, rfl, nb, hb, hu⟩ := all2 hvs
  have eu := allV hu
  subst eu
  refine ⟨a, b, us, by rw [show x = V.ref a from h1], p, fun z => ?_, .inl (.inl hb), h, q⟩
  obtain ⟨_, _, hh, _⟩ := h0
  rw [← z, nb] at hh
  cases hh
def spMany : Sp := fun vs H Q _ => ∃ (a : Addr), vs = [.ref a] ∧ PotAt a H ∧ ∀ v H2, ExB a H H2 → PotAt a H2 → (∃ n : Nat, v = .int (n : Int) ∧ 1 ≤ n ∧ n ≤ 30) → Q v H2
theorem sc48 : FnScope ["_law_pot_here"] ["_law_pot_here"] (defScope (topS 48)) := ⟨rfl, rfl, rfl, by decide +kernel, rfl, by decide +kernel, by decide +kernel⟩
theorem cl_many (T : Top K mg) : Cl P w K mg base CX0 3 "_law_many" ["_law_pot_here"] spMany := by
  have CO : Cl P w K mg base CX0 2 "_law_one" ["_law_pot_here", "_law_some"] (spOne K) := cl_one T
  refine cl0 (T.d (48, _) (by decide)) sc48 (fun vs H Q E ⟨_, h, _⟩ => by rw [h]; rfl) (fun _ _ _ _ _ _ us hl => match us, hl with | [_], _ => rfl) (fun f cdv A outer s H vs Q E hr h => ?_)
  obtain ⟨a, rfl, p, q⟩ := h
  refine ⟨_, pss_one (ps_ret (pe_cl CO hr (by decide) pass0 (pa_cons (pv 0) (pa_cons (pe_lst (pa_cons pe_int (pa_cons pe_int (pa_cons pe_int (pa_cons pe_int (pa_cons pe_int (pa_cons pe_int (pa_cons pe_int (pa_cons pe_int (pa_cons pe_int (pa_cons pe_int (pa_cons pe_int (pa_cons pe_int pa_nil))))))))))))) pa_nil)))), ?_⟩
  refine s_retM (a := a) (em_call (as_cons (eg_v rfl) (as_cons (eg_lstN (Rs := ([1, 2, 3, 3, 4, 4, 5, 5, 6, 7, 9, 30] : List Int).map fun i => isV (.int i)) (as_cons eg_c (as_cons eg_c (as_cons eg_c (as_cons eg_c (as_cons eg_c (as_cons eg_c (as_cons eg_c (as_cons eg_c (as_cons eg_c (as_cons eg_c (as_cons eg_c (as_cons eg_c as_nil)))))))))))) (by decide)) as_nil))
    (sm_oneN (xs := ([1, 2, 3, 3, 4, 4, 5, 5, 6, 7, 9, 30] : List Int).map V.int) p (by decide))) p fun v H1 e1 p1 hv => q v H1 e1 p1 ?_
  obtain ⟨i, hi, rfl⟩ := List.mem_map.mp (show v ∈ _ from hv)
  have hb : ∀ i ∈ ([1, 2, 3, 3, 4, 4, 5, 5, 6, 7, 9, 30] : List Int), 1 ≤ i ∧ i ≤ 30 := by decide
  have := hb i hi
  exact ⟨i.toNat, by congr 1; omega, by omega, by omega⟩
/-! ### _law_swapped -/
def spLSw (K : PySem.W.Frag) : Sp := fun vs H Q _ => ∃ (l : List Nat) (i : Nat), AllIs [isT K (iV l), isV (.int (i : Int))] vs H ∧ i + 1 < l.length ∧ Gives (isU (iV (sw l i))) H Q
theorem sg_lsw {H : Hp} {l : List Nat} {i : Nat} (h : i + 1 < l.length) : SpG (spLSw K) [isT K (iV l), isV (.int (i : Int))] H (isU (iV (sw l i))) := fun _ _ _ hvs _ _ q => ⟨l, i, hvs, h, q⟩
theorem sc49 : FnScope ["_law_order_here", "_law_place", "_law_found"] ["_law_order_here", "_law_place"] (defScope (topS 49)) := ⟨rfl, rfl, rfl, by decide +kernel, rfl, by decide +kernel, by decide +kernel⟩
theorem ixN_of {n j : Nat} (hj : j < n) : ixN n (j : Int) = some j := Evl.ixN_nat hj
theorem cl_lsw (T : Top K mg) : Cl P w K mg base CX0 1 "_law_swapped" ["_law_order_here", "_law_place"] (spLSw K) := by
  refine cl0 (T.d (49, _) (by decide)) sc49 (fun vs H Q E ⟨_, _, h, _⟩ => h.len) (fun _ _ _ _ _ _ us hl => match us, hl with | [_, _], _ => rfl) (fun f cdv A outer s H vs Q E hr h => ?_)
  obtain ⟨l, i, hvs, hi, q⟩ := h
  obtain ⟨x, b, rfl, ⟨p, rfl, hs⟩, hb⟩ := all2 hvs
  cases (show b = V.int i from hb)
  refine ⟨_, pss_cons (ps_set (i := 2) sc49.nd rfl (.inl rfl) (pe_callTy call_list_of (by rfl) (T.b "list" (by decide)) (by decide +kernel) (pa_cons (pv 0) pa_nil)))
    (pss_cons (ps_asg (pe_ix ix_tup (pv 0) (pe_op op_add (pv 1) pe_int) (fun _ _ => rfl)) (pg_sub (pv 2) (pv 1) set_list))
    (pss_cons (ps_asg (pe_ix ix_tup (pv 0) (pv 1) (fun _ _ => rfl)) (pg_sub (pv 2) (pe_op op_add (pv 1) pe_int) set_list))
    (pss_one (ps_ret (pe_tupleOf (by rfl) (T.b "tuple" (by decide)) (pv 2)))))), ?_⟩
  have hx : l[i]? = some (l[i]'(by omega)) := List.getElem?_eq_getElem _
  have hy : l[i + 1]? = some l[i + 1] := List.getElem?_eq_getElem hi
  have e1' : ((i : Int) + 1) = ((i + 1 : Nat) : Int) := rfl
  refine ⟨.ref p, rfl, p, iV l, rfl, .inr hs, fun L hL => ?_⟩
  have e0 : Ex H (upd H L (.lst (iV l))) := Ex.new hL
  refine s_setIx (xs := iV l) (m := i) (l := L) (eg_op (eg_vT rfl (Evl.ex_t e0 hs)) (eg_op (eg_v rfl) eg_c og_I0) (og_ixT (by rw [e1']; exact at_iV hy))) (eg_v rfl) (eg_v rfl) upd_same (by rw [iV_length]; exact ixN_of (by omega)) fun H1 e1 => ?_
  have e2 : Ex H (upd H1 L (.lst ((iV l).set i (V.int (l[i + 1] : Nat))))) := Ex.mut (e0.trans e1) hL
  refine s_setIx (xs := (iV l).set i (V.int (l[i + 1] : Nat))) (m := i + 1) (l := L) (eg_op (eg_vT rfl (Evl.ex_t e2 hs)) (eg_v rfl) (og_ixT (at_iV hx))) (eg_v rfl) (eg_is (eg_op (eg_v rfl) eg_c og_I0) (by rw [e1'])) upd_same (by rw [List.length_set, iV_length]; exact ixN_of hi) fun H2 e3 => ?_
  have ef : ((iV l).set i (V.int (l[i + 1] : Nat))).set (i + 1) (V.int (l[i]'(by omega) : Nat)) = iV (sw l i) := by
    rw [← sw_set l i _ _ hx hy]
    unfold iV
    rw [List.map_set, List.map_set]
  rw [ef]
  exact s_ret (eg_tupleOf (eg_vL rfl (.inl (.inl upd_same)))) fun v H3 e4 hv => q v H3 ((Ex.mut (e2.trans e3) hL).trans e4) hv
end
end K2

namespace K2
open PySem PySem.Spec PyProof.Rows L2
open Evl (Ex)
set_option Elab.async false
set_option linter.all false
set_option maxRecDepth 100000
set_option maxHeartbeats 4000000
/-- an order of so many -/
def isOrd (K : PySem.W.Frag) (n : Nat) : Is := ⟨fun v H => ∃ l, Ord l ∧ l.length = n ∧ (isT K (iV l)).p v H, fun _ _ _ e ⟨l, h1, h2, h3⟩ => ⟨l, h1, h2, (isT K _).st _ _ _ e h3⟩⟩
theorem drop_one {l : List Nat} (nd : l.Nodup) {t : Nat} (h : t ∈ l) : (t :: l.filter fun x => decide (x ≠ t)).Perm l := by
  have h1 := List.perm_cons_erase h
  rw [nd.erase_eq_filter] at h1
  have e : (l.filter fun x => decide (x ≠ t)) = l.filter fun x => x != t := List.filter_congr fun x _ => by
    by_cases hx : x = t
    · simp [hx]
    · simp [hx]
  rw [e]
  exact h1.symm
theorem filter_kept (l : List Nat) (t : Nat) : kept l.length (fun k => decide (l.getD k 0 ≠ t)) (fun k => isV (.int ((l.getD k 0 : Nat) : Int))) = (iV (l.filter fun x => decide (x ≠ t))).map isV := by
  unfold kept iV
  have h1 := List.filter_map (f := fun k => l.getD k 0) (l := List.range l.length) (p := fun x => decide (x ≠ t))
  rw [range_map_getD 0 (fun (n : Nat) => n) l, List.map_id'] at h1
  rw [h1, List.map_map, List.map_map]
  rfl
section
variable {P : Program} {w : World} {K : PySem.W.Frag} {mg : Str → Option Value} {base : Heap}
/-! ### _law_order -/
def spOrder (K : PySem.W.Frag) : Sp := fun vs H Q _ => ∃ (a : Addr) (n : Nat), vs = [.ref a, .int (n : Int)] ∧ PotAt a H ∧ n ≤ 30 ∧ ∀ v H2, ExB a H H2 → PotAt a H2 → (isOrd K n).p v H2 → Q v H2
theorem sm_order {a : Addr} {H : Hp} {n : Nat} (h : n ≤ 30) : SpM a (spOrder K) [isV (.ref a), isV (.int (n : Int))] H (isOrd K n) := fun H1 _ p vs hvs Q E q => by
  obtain ⟨x, y, rfl, h1, h2⟩ := all2 hvs
  exact ⟨a, n, by rw [show x = V.ref a from h1, show y = V.int (n : Int) from h2], p, h, q⟩
theorem sm_many {a : Addr} {H : Hp} : SpM a spMany [isV (.ref a)] H ⟨fun v _ => ∃ n : Nat, v = .int (n : Int) ∧ 1 ≤ n ∧ n ≤ 30, fun _ _ _ _ h => h⟩ := fun H1 _ p vs hvs Q E q => by
  obtain ⟨x, rfl, h1⟩ := all1 hvs
  exact ⟨a, by rw [show x = V.ref a from h1], p, q⟩
theorem sm_oneB {a b : Addr} {H : Hp} {xs : List V} (n : b ≠ a) (hb : SqL K H b xs) (h : 1 ≤ xs.length ∧ xs.length ≤ 1000) : SpM a (spOne K) [isV (.ref a), isV (.ref b)] H (isMem xs) := fun H1 e p vs hvs Q E q => by
  obtain ⟨x, y, rfl, h1, h2⟩ := all2 hvs
  exact ⟨a, b, xs, by rw [show x = V.ref a from h1, show y = V.ref b from h2], p, n, Evl.ex_l e hb, h, q⟩
abbrev nOrd : List Str := ["_law_pot_here", "_law_many_here", "_law_left", "_law_found", "_law_turn", "_law_thing", "_law_one_here"]
theorem sc47 : FnScope nOrd ["_law_pot_here", "_law_many_here"] (defScope (topS 47)) := ⟨rfl, rfl, rfl, by decide +kernel, rfl, by decide +kernel, by decide +kernel⟩
theorem cl_order (T : Top K mg) : Cl P w K mg base CX0 3 "_law_order" ["_law_pot_here", "_law_many_here"] (spOrder K) := by
  have CO : Cl P w K mg base CX0 2 "_law_one" ["_law_pot_here", "_law_some"] (spOne K) := cl_one T
  refine cl0 (T.d (47, _) (by decide)) sc47 (fun vs H Q E ⟨_, _, h, _⟩ => by rw [h]; rfl) (fun _ _ _ _ _ _ us hl => match us, hl with | [_, _], _ => rfl) (fun f cdv A outer s H vs Q E hr h => ?_)
  obtain ⟨a, n, rfl, p, hn, q⟩ := h
  refine ⟨_, pss_cons (ps_par (i := 2) (j := 3) rfl sc47.nd rfl rfl (by decide) rfl rfl (pa_cons (pe_listRg rfl (by rfl) (T.b "list" (by decide)) (prg_1 (by rfl) (T.b "range" (by decide)) (pv 1))) (pa_cons (pe_tup pa_nil) pa_nil)) (by rfl))
    (pss_cons (ps_for PassesOwn.never rfl (pi_range1 (by rfl) (T.b "range" (by decide)) (pa_cons (pv 1) pa_nil)) (pg_name (i := 4) sc47.nd rfl (Or.inl rfl))
      (pss_cons (ps_set (i := 5) sc47.nd rfl (.inr rfl) (pe_cl CO hr (by decide) pass0 (pa_cons (pv 0) (pa_cons (pv 2) pa_nil))))
      (pss_cons (ps_set (i := 3) sc47.nd rfl (.inl rfl) (pe_op op_catA (pv 3) (pe_tup (pa_cons (pv 5) pa_nil))))
      (pss_one (ps_setLc (i := 2) (own := [("_law_one_here", 6)]) (g := gName 6) (by rfl) sc47.nd rfl rfl (sw_true rfl rfl rfl (by decide +kernel)) (pi_list (pv 2)) (blkOk_by (N := nOrd) (sc := defScope (topS 47)) (own := [("_law_one_here", 6)]) (by decide +kernel))
        (fun _ _ _ _ _ => pg_name (i := 6) sc47.nd rfl (Or.inl rfl)) (fun _ _ _ _ _ => pts_one (pt_cmpR op_ne (pv 6) (pv 5) (nomark _))) (fun _ _ _ _ _ => pv 6))))))
    (pss_one (ps_ret (pv 3)))), ?_⟩
  refine s_par (R1 := isNew H ((iV (List.range n)).map isV)) (R2 := isT K (iV [])) (as_cons (eg_lstRgN (eg_v rfl) (by omega)) (as_cons (eg_tup (xs := []) as_nil (by show 0 ≤ 100000; decide)) as_nil)) fun v u H1 e1 ⟨b, us, eb, nb, hb, hus⟩ hu => ?_
  subst eb
  have eus := allV hus
  subst eus
  have pne : ∀ c, H c = none → c ≠ a := fun c hc z => by
    obtain ⟨_, _, hh, _⟩ := p
    rw [← z, hc] at hh
    cases hh
  refine ⟨.int (n : Int), rfl, (n : Int), rfl, by omega, by omega, for_range (lo := 0) (n := (n : Int).toNat) (fun i σ H' => ∃ (b : Addr) (o : V) (c d : Option V) (L F : List Nat), σ = [some (.ref a), some (.int (n : Int)), some (.ref b), some o, c, d, none] ∧ ExB a H H' ∧ PotAt a H' ∧ H b = none ∧
    SqL K H' b (iV L) ∧ (isT K (iV F)).p o H' ∧ (F ++ L).Perm (List.range n) ∧ F.length = i) ⟨b, u, none, none, List.range n, [], rfl, ExB.of e1, p.ex e1, nb, .inl (.inl hb), hu, .refl _, rfl⟩ (fun i σ H' hi ⟨b, o, c, d, L, F, eσ, ex, p', nb', hL, ho, hp, hF⟩ => ?_)
    (fun σ H' ⟨b, o, c, d, L, F, eσ, ex, p', nb', hL, ho, hp, hF⟩ => ?_)⟩
  · subst eσ
    have hlen : F.length + L.length = n := by
      have := hp.length_eq
      rw [List.length_append, List.length_range] at this
      exact this
    have nd : (F ++ L).Nodup := hp.nodup_iff.mpr List.nodup_range
    have ndL : L.Nodup := (List.nodup_append.mp nd).2.1
    have hi' : i < n := by omega
    have bne := pne b nb'
    refine q_asgM (a := a) (R := isMem (iV L)) (em_call (as_cons (eg_v rfl) (as_cons (eg_v rfl) as_nil)) (sm_oneB bne hL (by rw [iV_length]; omega))) p' fun v H2 e2 p2 hv => ?_
    · obtain ⟨t, ht, rfl⟩ := List.mem_map.mp (show v ∈ iV L from hv)
      have ho2 := firm_T.keep p' p2 e2 ho
      refine q_asg (eg_op (eg_var rfl ho2) (eg_tup (xs := [V.int (t : Int)]) (as_cons (eg_v rfl) as_nil) (by show 1 ≤ 100000; decide)) (og_cat (by rw [iV_length]; show _ + 1 ≤ _; omega))) fun v3 H3 e3 hv3 => ?_
      have hL3 : SqL K H3 b (iV L) := Evl.ex_l e3 (sqL_but bne e2 hL)
      refine s_asg (eg_lcLN (xs := iV L) (fun k => decide (L.getD k 0 ≠ t)) (fun k => isV (.int ((L.getD k 0 : Nat) : Int))) (fun _ => firm_V) (eg_vL rfl hL3) (by rw [iV_length]; omega) (fun _ => wipe_one _ _ _) (fun k x H4 e4 hx => ?_) (fun k x H4 e4 hx _ => ?_)) fun v4 H4 e4 ⟨b4, us4, eb4, nb4, hb4, hus4⟩ => ?_
      · rw [iV_get] at hx
        obtain ⟨m, hm, rfl⟩ := Option.map_eq_some_iff.mp hx
        rw [getD_of hm]
        exact eb_is (eb_test (eg_op (eg_v rfl) (eg_v rfl) (og_ne rfl))) (by simp; omega)
      · rw [iV_get] at hx
        obtain ⟨m, hm, rfl⟩ := Option.map_eq_some_iff.mp hx
        rw [getD_of hm]
        exact eg_v rfl
      · subst eb4
        rw [iV_length, filter_kept] at hus4
        have eus4 := allV hus4
        subst eus4
        have nb4' : H b4 = none := by
          cases z : H b4 with
          | none => rfl
          | some u =>
            by_cases hz : b4 = a
            · obtain ⟨_, _, hh, _⟩ := p2
              rw [hz, e3 a _ hh] at nb4
              cases nb4
            · have := e3 _ _ (e2 b4 u hz (ex b4 u hz z))
              rw [nb4] at this
              cases this
        refine ⟨b4, v3, _, _, L.filter fun x => decide (x ≠ t), F ++ [t], rfl, (ex.trans e2).trans (ExB.of (e3.trans e4)), p2.ex (e3.trans e4), nb4', .inl (.inl hb4), ?_, ?_, by rw [List.length_append, hF]; rfl⟩
        · have := (isT K _).st _ _ _ e4 hv3
          rw [iV_app]
          exact this
        · rw [List.append_assoc]
          exact ((drop_one ndL ht).append_left F).trans hp
  · subst eσ
    have hn' : (n : Int).toNat = n := by omega
    rw [hn'] at hF
    have hlen := hp.length_eq
    rw [List.length_append, List.length_range] at hlen
    have eL : L = [] := List.eq_nil_of_length_eq_zero (by omega)
    subst eL
    rw [List.append_nil] at hp
    refine s_ret (eg_var rfl ho) fun v H2 e2 hv => q v H2 (ex.trans (ExB.of e2)) (p'.ex e2) ⟨F, ?_, hF, hv⟩
    unfold Ord
    rw [hF]
    exact hp
/-! ### _law_right -/
def spRight (K : PySem.W.Frag) : Sp := fun vs H Q _ => ∃ l r : List Nat, AllIs [isT K (iV l), isT K (iV r)] vs H ∧ (Ord l ∧ 1 ≤ l.length ∧ l.length ≤ 30 ∧ Row l.length r) ∧ Gives (isV (.bl true)) H Q
theorem sg_right {H : Hp} {l r : List Nat} (h : Ord l ∧ 1 ≤ l.length ∧ l.length ≤ 30 ∧ Row l.length r) : SpG (spRight K) [isT K (iV l), isT K (iV r)] H (isV (.bl true)) := fun _ _ _ hvs _ _ q => ⟨l, r, hvs, h, q⟩
abbrev nRight : List Str := ["_law_order_here", "_law_row", "_law_here", "_law_many_here", "_law_place", "_law_there"]
theorem sc54 : FnScope nRight ["_law_order_here", "_law_row"] (defScope (topS 54)) := ⟨rfl, rfl, rfl, by decide +kernel, rfl, by decide +kernel, by decide +kernel⟩
theorem abs_one {x y : Nat} (h : x = y + 1 ∨ x + 1 = y) : (if (x : Int) - (y : Int) < 0 then -((x : Int) - (y : Int)) else (x : Int) - (y : Int)) = 1 := by
  split <;> omega
theorem og_isB {H : Hp} {a b : Bool} : OpG rIsB (isV (.bl a)) (isV (.bl b)) H (isV (.bl (decide (a = b)))) := fun H1 _ x y hx hy Q q => ⟨a, b, hx, hy, q _ H1 (Ex.refl H1) rfl⟩
theorem og_notB {H : Hp} {a b : Bool} : OpG rNotB (isV (.bl a)) (isV (.bl b)) H (isV (.bl (!decide (a = b)))) := fun H1 _ x y hx hy Q q => ⟨a, b, hx, hy, q _ H1 (Ex.refl H1) rfl⟩
theorem cl_right (T : Top K mg) : Cl P w K mg base CX0 5 "_law_right" ["_law_order_here", "_law_row"] (spRight K) := by
  have CL : Cl P w K mg base CX0 1 "_law_swapped" ["_law_order_here", "_law_place"] (spLSw K) := cl_lsw T
  have CS : Cl P w K mg base (L2N.CX P w) 4 "swapped" ["order", "exchange"] (spExch K mg sw) := cl_swapped T
  have CZ : Cl P w K mg base CX0 4 "size_of" ["order"] (spSizeOf K) := cl_sizeOf T
  have CN : Cl P w K mg base (L2N.CX P w) 4 "led_on" ["order", "row"] (spLedOn K mg) := cl_ledOn T
  have CD : Cl P w K mg base CX0 4 "led" ["one", "other"] (spLed K) := cl_led T
  have CB : Cl P w K mg base (L2N.CX P w) 4 "order_behind" ["many", "row"] (spMR K mg (GB K)) := cl_ordB T
  have CR : Cl P w K mg base CX0 3 "is_row" ["many", "value"] (spIsRow K) := cl_isRow T
  refine cl0 (T.d (54, _) (by decide)) sc54 (fun vs H Q E ⟨_, _, h, _⟩ => h.len) (fun _ _ _ _ _ _ us hl => match us, hl with | [_, _], _ => rfl) (fun f cdv A outer s H vs Q E hr h => ?_)
  obtain ⟨l, r, hvs, ⟨od, h1, h2, hrw⟩, q⟩ := h
  obtain ⟨a, b, rfl, ha, hb⟩ := all2 hvs
  refine ⟨_, pss_cons (ps_par (i := 2) (j := 3) rfl sc54.nd rfl rfl (by decide) rfl rfl (pa_cons (pv 0) (pa_cons (pe_callB (call_lenK K) (by rfl) (T.b "len" (by decide)) PySem.boot_len (pa_cons (pv 0) pa_nil)) pa_nil)) (by rfl))
    (pss_cons (ps_for PassesOwn.never rfl (pi_tup (pv 1)) (pg_name (i := 4) sc54.nd rfl (.inl rfl))
      (pss_cons (ps_set (i := 5) sc54.nd rfl (.inl rfl) (pe_cl CL hr (by decide) pass0 (pa_cons (pv 2) (pa_cons (pv 4) pa_nil))))
      (pss_cons (ps_if (PW.pt (pw_or (pt_cmpR (op_neD hr.units) (pe_cl CS hr (by decide) passN (pa_cons (pv 2) (pa_cons (pv 4) pa_nil))) (pv 5) (nomark _))
          (pw_or1 (pt_cmpR op_ne (pe_callB call_abs (by rfl) (T.b "abs" (by decide)) (by decide +kernel) (pa_cons (pe_op op_sub (pe_cl CZ hr (by decide) pass0 (pa_cons (pv 5) pa_nil)) (pe_cl CZ hr (by decide) pass0 (pa_cons (pv 2) pa_nil))) pa_nil)) pe_int (nomark _))))) (pss_one (ps_ret pe_bl)) pss_nil)
      (pss_one (ps_set (i := 2) sc54.nd rfl (.inl rfl) (pv 5))))))
    (pss_cons (ps_if (PW.pt (pw_or (pt_cmpR (op_neD hr.units) (pe_cl CN hr (by decide) passN (pa_cons (pv 0) (pa_cons (pv 1) pa_nil))) (pv 2) (nomark _))
        (pw_or1 (pt_cmpR (op_neD hr.units) (pe_cl CD hr (by decide) pass0 (pa_cons (pv 0) (pa_cons (pe_cl CB hr (by decide) passN (pa_cons (pv 3) (pa_cons (pv 1) pa_nil))) pa_nil))) (pv 2) (nomark _))))) (pss_one (ps_ret pe_bl)) pss_nil)
    (pss_one (ps_ret (pe_cmpR op_isBl (pe_cl CR hr (by decide) pass0 (pa_cons (pv 3) (pa_cons (pv 1) pa_nil))) pe_bl (nomark _)))))), ?_⟩
  refine s_par (R1 := isT K (iV l)) (R2 := isV (.int (l.length : Nat))) (as_cons (eg_var rfl ha) (as_cons (eg_is (eg_cb (as_cons (eg_var rfl ha) as_nil) cgk_lenT) (by rw [iV_length])) as_nil)) fun v u H1 e1 hv hu => ?_
  cases (show u = V.int (l.length : Nat) from hu)
  obtain ⟨p2, rfl, hs2⟩ := hb
  refine s_forT (eg_vT rfl (Evl.ex_t e1 hs2)) fun a2 H2 e2 hq => ⟨fun i σ H' => ∃ (o : V) (c d : Option V), σ = [some a, some (.ref p2), some o, some (.int (l.length : Nat)), c, d] ∧ Ex H2 H' ∧ (isT K (iV (behind l (r.take i)))).p o H',
    ⟨v, none, none, rfl, Ex.refl _, (isT K _).st _ _ _ e2 hv⟩, fun i σ H' ⟨_, _, _, _, e, _⟩ => Evl.ex_t e hq, fun i x σ H' hx ⟨o, c, d, eσ, e, ho⟩ => ?_, fun σ H' ⟨o, c, d, eσ, e, ho⟩ => ?_⟩
  · subst eσ
    rw [iV_get] at hx
    obtain ⟨n, hn, rfl⟩ := Option.map_eq_some_iff.mp hx
    have hi := hrw.1 n (List.mem_of_getElem? hn)
    generalize hL : behind l (r.take i) = L at ho
    have oL : Ord L := by rw [← hL]; exact od.behind _
    have lL : L.length = l.length := by rw [← hL]; exact behind_length _ _
    have hb : behind l (r.take (i + 1)) = sw L n := by rw [List.take_add_one, hn, ← hL]; exact behind_snoc _ _ _
    refine q_asg (eg_call (as_cons (eg_var rfl ho) (as_cons (eg_v rfl) as_nil)) (sg_lsw (by omega))) fun v3 H3 e3 hv3 => ?_
    have ho3 := (isT K _).st _ _ _ e3 ho
    have hv3' := isU_T (K := K) hv3
    have one := inv_one oL.nd (i := n) (by omega)
    refine q_when (b := false) (eb_is (eb_or (eb_test (eg_op (eg_call (as_cons (eg_var rfl ho3) (as_cons (eg_v rfl) as_nil)) (sg_exch oL (by omega) (by omega))) (eg_var rfl hv3') og_neT))
      (fun _ => eb_test (eg_op (eg_cb (as_cons (eg_op (eg_call (as_cons (eg_var rfl hv3') as_nil) (sg_sizeOf ⟨oL.sw n, by rw [sw_length]; omega, by rw [sw_length]; omega⟩)) (eg_call (as_cons (eg_var rfl ho3) as_nil) (sg_sizeOf ⟨oL, by omega, by omega⟩)) og_I0) as_nil) cg_abs) eg_c (og_ne rfl)))) ?_)
      (fun z => by cases z) (fun _ H4 e4 => ?_)
    · rw [abs_one one]
      simp
    · exact s_asg (eg_var rfl ((isT K _).st _ _ _ e4 hv3')) fun v5 H5 e5 hv5 => ⟨v5, _, _, rfl, ((e.trans e3).trans e4).trans e5, by rw [hb]; exact hv5⟩
  · subst eσ
    rw [iV_length, List.take_length] at ho
    have e02 : Ex H H' := (e1.trans e2).trans e
    have ha' := (isT K _).st _ _ _ e02 ha
    have hs' : SqT K H' p2 (iV r) := Evl.ex_t e02 hs2
    have hlen : (List.range l.length).length = l.length := List.length_range
    refine q_when (b := false) (eb_is (eb_or (eb_test (eg_op (eg_call (as_cons (eg_var rfl ha') (as_cons (eg_vT rfl hs') as_nil)) (sg_ledOn (mg := mg) ⟨od, h1, h2⟩ hrw)) (eg_var rfl ho) og_neT))
      (fun _ => eb_test (eg_op (eg_call (as_cons (eg_var rfl ha') (as_cons (eg_call (as_cons (eg_v rfl) (as_cons (eg_vT rfl hs') as_nil)) (sg_MR (mg := mg) ⟨h1, h2⟩ hrw)) as_nil))
        (sg_led ⟨od, (Ord.range _).behind r, by rw [behind_length, hlen], h1, h2⟩)) (eg_var rfl ho) og_neT))) ?_) (fun z => by cases z) (fun _ H4 e4 => ?_)
    · rw [led_behind]
      simp
    · refine s_ret (eg_op (eg_call (as_cons (eg_v rfl) (as_cons (eg_var rfl (oddR_iV ((isT K _).st _ _ _ e4 ⟨p2, rfl, hs'⟩) hrw.2)) as_nil)) (sg_isRow ⟨h1, h2⟩)) eg_c og_isB) fun v5 H5 e5 hv5 => q v5 H5 ((e02.trans e4).trans e5) ?_
      rw [row_fits hrw] at hv5
      exact hv5
end
end K2

set_option linter.all false
namespace K2
/-! ### all shortest ways: the law's own search, level by level -/
abbrev Kn := List (List Nat × Nat)
def lk (k : Kn) (l : List Nat) : Option Nat := (k.find? fun p => decide (p.1 = l)).map (·.2)
def stepP (here : List Nat) (st : Kn × List (List Nat)) (place : Nat) : Kn × List (List Nat) :=
  if (lk st.1 (sw here place)).isSome = true then st else (st.1 ++ [(sw here place, (lk st.1 here).getD 0 + 1)], st.2 ++ [sw here place])
def stepH (n : Nat) (st : Kn × List (List Nat)) (here : List Nat) : Kn × List (List Nat) := (List.range (n - 1)).foldl (stepP here) st
def level (n : Nat) (st : Kn × List (List Nat)) : Kn × List (List Nat) := st.2.foldl (stepH n) (st.1, [])
def bfs (n : Nat) : Nat → Kn × List (List Nat)
  | 0 => ([(List.range n, 0)], [List.range n])
  | i + 1 => level n (bfs n i)
def levels (n : Nat) : Nat := if n = 2 then 2 else if n = 3 then 4 else 7
def known (n : Nat) : Kn := (bfs n (levels n)).1
/-! what stays -/
theorem lk_app {k : Kn} {l : List Nat} {p : List Nat × Nat} (h : (lk k l).isSome = true) : lk (k ++ [p]) l = lk k l := by
  unfold lk at h ⊢
  rw [List.find?_append]
  cases e : k.find? fun p => decide (p.1 = l) with
  | none => rw [e] at h; simp at h
  | some q => simp
theorem lk_new {k : Kn} {l : List Nat} {v : Nat} (h : (lk k l).isSome = false) : (lk (k ++ [(l, v)]) l) = some v := by
  unfold lk at h ⊢
  rw [List.find?_append]
  cases e : k.find? fun p => decide (p.1 = l) with
  | none => simp
  | some q => rw [e] at h; simp at h
def Has (k : Kn) (l : List Nat) : Prop := (lk k l).isSome = true
theorem stepP_has {here : List Nat} {st : Kn × List (List Nat)} {place : Nat} {l : List Nat} (h : Has st.1 l) : Has (stepP here st place).1 l := by
  unfold stepP
  split
  · exact h
  · show (lk (st.1 ++ _) l).isSome = true
    rw [lk_app h]
    exact h
theorem stepP_later {here : List Nat} {st : Kn × List (List Nat)} {place : Nat} (h : ∀ l ∈ st.2, Has st.1 l) : ∀ l ∈ (stepP here st place).2, Has (stepP here st place).1 l := by
  unfold stepP
  split
  · exact h
  · rename_i hn
    intro l hl
    rcases List.mem_append.mp hl with z | z
    · show (lk (st.1 ++ _) l).isSome = true
      rw [lk_app (h l z)]
      exact h l z
    · rw [List.mem_singleton.mp z]
      show (lk (st.1 ++ _) _).isSome = true
      rw [lk_new (by simpa using hn)]
      rfl
theorem stepP_len (here : List Nat) (st : Kn × List (List Nat)) (place : Nat) : st.1.length ≤ (stepP here st place).1.length := by
  unfold stepP
  split
  · exact Nat.le_refl _
  · rw [List.length_append]
    omega
theorem stepP_later_len {here : List Nat} {st : Kn × List (List Nat)} {place n : Nat} (hh : here.length = n) (h : ∀ l ∈ st.2, l.length = n) : ∀ l ∈ (stepP here st place).2, l.length = n := by
  unfold stepP
  split
  · exact h
  · intro l hl
    rcases List.mem_append.mp hl with z | z
    · exact h l z
    · rw [List.mem_singleton.mp z, sw_length]
      exact hh
theorem foldP_len (here : List Nat) : ∀ (ps : List Nat) (st : Kn × List (List Nat)), st.1.length ≤ (ps.foldl (stepP here) st).1.length
  | [], _ => Nat.le_refl _
  | p :: ps, st => Nat.le_trans (stepP_len here st p) (foldP_len here ps _)
theorem foldH_len (n : Nat) : ∀ (hs : List (List Nat)) (st : Kn × List (List Nat)), st.1.length ≤ (hs.foldl (stepH n) st).1.length
  | [], _ => Nat.le_refl _
  | h :: hs, st => Nat.le_trans (foldP_len h _ st) (foldH_len n hs _)
/-! the three cases -/
theorem bfs_line : ∀ n ∈ [2, 3, 4], ∀ i < levels n, (bfs n i).2 ≠ [] := by decide +kernel
theorem bfs_end : ∀ n ∈ [2, 3, 4], (bfs n (levels n)).2 = [] := by decide +kernel
theorem bfs_small : ∀ n ∈ [2, 3, 4], ∀ i ≤ levels n, (bfs n i).1.length ≤ 24 ∧ (bfs n i).2.length ≤ 24 := by decide +kernel
theorem bfs_has : ∀ n ∈ [2, 3, 4], ∀ i ≤ levels n, ∀ l ∈ (bfs n i).2, (lk (bfs n i).1 l).isSome = true ∧ l.length = n := by decide +kernel
theorem known_all : ∀ n ∈ [2, 3, 4], ∀ p ∈ known n, p.2 = inv p.1 ∧ p.1.length = n ∧ p.1.isPerm (List.range n) = true := by decide +kernel
theorem known_start : ∀ n ∈ [2, 3, 4], List.range n ∈ (known n).map (·.1) := by decide +kernel
theorem known_step : ∀ n ∈ [2, 3, 4], ∀ p ∈ known n, ∀ i < n - 1, sw p.1 i ∈ (known n).map (·.1) := by decide +kernel
theorem known_ord {n : Nat} (hn : n ∈ [2, 3, 4]) {p : List Nat × Nat} (hp : p ∈ known n) : Ord p.1 ∧ p.1.length = n ∧ p.2 = inv p.1 := by
  obtain ⟨h1, h2, h3⟩ := known_all n hn p hp
  refine ⟨?_, h2, h1⟩
  unfold Ord
  rw [h2]
  exact List.isPerm_iff.mp h3
theorem known_behind {n : Nat} (hn : n ∈ [2, 3, 4]) : ∀ (r l : List Nat), (∀ i ∈ r, i + 1 < n) → l ∈ (known n).map (·.1) → behind l r ∈ (known n).map (·.1)
  | [], l, _, h => h
  | i :: r, l, hr, h => by
    rw [behind_cons]
    obtain ⟨p, hp, e⟩ := List.mem_map.mp h
    refine known_behind hn r (sw l i) (fun k hk => hr k (List.mem_cons_of_mem _ hk)) ?_
    rw [← e]
    exact known_step n hn p hp i (by have := hr i List.mem_cons_self; omega)
theorem lk_mem {k : Kn} {l : List Nat} (h : l ∈ k.map (·.1)) : ∃ v, lk k l = some v ∧ (l, v) ∈ k := by
  unfold lk
  cases e : k.find? fun p => decide (p.1 = l) with
  | none =>
    obtain ⟨p, hp, e2⟩ := List.mem_map.mp h
    have := List.find?_eq_none.mp e p hp
    simp [e2] at this
  | some q =>
    have h1 := List.find?_some e
    have h2 := List.mem_of_find?_eq_some e
    simp at h1
    exact ⟨q.2, rfl, by rw [← h1]; exact h2⟩
/-- behind a row, the number that is known is that of the overtakings -/
theorem known_at {n : Nat} (hn : n ∈ [2, 3, 4]) {r : List Nat} (hr : ∀ i ∈ r, i + 1 < n) : lk (known n) (behind (List.range n) r) = some (inv (behind (List.range n) r)) := by
  obtain ⟨v, h1, h2⟩ := lk_mem (known_behind hn r _ hr (known_start n hn))
  rw [h1]
  exact congrArg some (known_ord hn h2).2.2
end K2

namespace K2
open PySem PySem.Spec PyProof.Rows L2
open Evl (Ex)
set_option Elab.async false
set_option linter.all false
set_option maxRecDepth 100000
set_option maxHeartbeats 4000000
theorem s_forR {ta : TA} {g : TG} {tu : TS} {D : Ends} {σ : L2.St} {H : Hp} {n : Int} (h : EvAs ta σ H [isV (.int n)]) (hn : -40000 ≤ n ∧ n ≤ 40000) (k : ∀ H1, Ex H H1 → ∃ Pv : Nat → L2.St → Hp → Prop, Pv 0 σ H1 ∧
    (∀ (i : Nat) σ' H', i < n.toNat → Pv i σ' H' → g (.int (i : Int)) σ' H' fun σ2 H2 => tu { D with nx := Pv (i + 1), ct := Pv (i + 1), bk := D.nx } σ2 H2) ∧ ∀ σ' H', Pv n.toNat σ' H' → D.nx σ' H') : tFor (iRng1 ta) g tu D σ H :=
  h H (Ex.refl H) _ fun us H1 e hus => by
    obtain ⟨v, rfl, hv⟩ := all1 hus
    obtain ⟨Pv, h0, h1, h2⟩ := k H1 e
    refine ⟨n, by rw [show v = V.int n from hv], by omega, by omega, for_range (lo := 0) (n := n.toNat) Pv h0 (fun i σ' H' hi p => ?_) h2⟩
    have e0 : (0 : Int) + (i : Int) = (i : Int) := Int.zero_add _
    rw [e0]
    exact h1 i σ' H' hi p
/-! ### a dict with orders as keys -/
def keyOf (l : List Nat) : List Key := l.map fun (n : Nat) => (Sum.inl (n : Int) : Key)
theorem key_V (l : List Nat) : (keyOf l).map kV = iV l := by
  unfold keyOf iV
  rw [List.map_map]
  rfl
theorem key_inj : ∀ {l m : List Nat}, keyOf l = keyOf m → l = m
  | [], [], _ => rfl
  | [], _ :: _, h => by simp [keyOf] at h
  | _ :: _, [], h => by simp [keyOf] at h
  | a :: l, b :: m, h => by
    unfold keyOf at h
    rw [List.map_cons, List.map_cons, List.cons.injEq] at h
    have h1 := Sum.inl.inj h.1
    rw [key_inj h.2]
    congr 1
    omega
def kvT (k : Kn) : List (List Key × V) := k.map fun p => (keyOf p.1, V.int (p.2 : Int))
theorem kvT_val (k : Kn) (l : List Nat) : valV (kvT k) (keyOf l) = (lk k l).map fun (v : Nat) => V.int (v : Int) := by
  induction k with
  | nil => rfl
  | cons p r ih =>
    by_cases h : p.1 = l
    · show valV ((keyOf p.1, V.int (p.2 : Int)) :: kvT r) (keyOf l) = _
      rw [valV_pos (by rw [h])]
      simp [lk, h]
    · show valV ((keyOf p.1, V.int (p.2 : Int)) :: kvT r) (keyOf l) = _
      rw [valV_neg (fun e => h (key_inj e)), ih]
      simp [lk, h]
theorem kvT_put {k : Kn} {l : List Nat} {v : Nat} (h : (lk k l).isSome = false) : putK (kvT k) (keyOf l) (.int (v : Int)) = kvT (k ++ [(l, v)]) := by
  unfold putK
  have e : ((kvT k).any fun kv => decide (kv.1 = keyOf l)) = false := by
    rw [valV_any, kvT_val, Option.isSome_map]
    exact h
  rw [e, if_neg Bool.false_ne_true]
  unfold kvT
  rw [List.map_append]
  rfl
theorem kvT_len (k : Kn) : (kvT k).length = k.length := List.length_map _
/-- all in a list are tracked orders -/
abbrev AllU (ls : List (List Nat)) (us : List V) (H : Hp) : Prop := AllIs (ls.map fun l => isU (iV l)) us H
theorem AllU.kept {H : Hp} {d : Addr} {o o' : HO} (hd : H d = some o) (hn : ∀ xs, o ≠ .tup xs) : ∀ {ls : List (List Nat)} {us : List V}, AllU ls us H → AllU ls us (upd H d o')
  | [], [], _ => trivial
  | _ :: _, _ :: _, ⟨⟨a, h1, h2⟩, h3⟩ => ⟨⟨a, h1, by rw [upd_ne (ne_of h2 hd (fun z => hn _ z.symm))]; exact h2⟩, AllU.kept hd hn h3⟩
/-! ### != [] of a list of orders -/
theorem dpU {K : PySem.W.Frag} {H : Hp} : ∀ {ls : List (List Nat)} {us : List V}, AllU ls us H → DpAll K H us (ls.map fun l => .tuple (dI l))
  | [], [], _ => .nil
  | l :: _, _ :: _, ⟨⟨a, h1, h2⟩, h3⟩ => by
    subst h1
    exact .cons (.tup (.inl (.inl h2)) (dpI l)) (dpU h3)
theorem layU : ∀ ls : List (List Nat), PyData.canLayAll0 (ls.map fun l => .tuple (dI l)) = true
  | [] => rfl
  | l :: ls => by
    rw [List.map_cons, PyData.canLayAll0, layU ls, PyData.canLay0, layI l]
    rfl
theorem depU : ∀ ls : List (List Nat), PyData.depthAll (ls.map fun l => .tuple (dI l)) ≤ 3
  | [] => by simp [PyData.depthAll]
  | l :: ls => by
    have ih := depU ls
    have h1 := depI l
    rw [List.map_cons, PyData.depthAll, PyData.depth]
    omega
theorem shU (ls : List (List Nat)) : SeqAt.shaped (.list (ls.map fun l => .tuple (dI l))) = true := by
  unfold SeqAt.shaped
  rw [Bool.and_eq_true, decide_eq_true_eq, PyData.canLay0, PyData.depth]
  exact ⟨layU ls, by have := depU ls; omega⟩
section
variable {P : Program} {w : World} {K : PySem.W.Frag} {mg : Str → Option Value} {base : Heap}
theorem og_neU {H : Hp} {ls : List (List Nat)} : OpG (rNeD K) (isLs K (ls.map fun l => isU (iV l))) (isL K []) H (isV (.bl (!decide (ls = [])))) := fun H1 _ x y ⟨a, us, hx, ha, hu⟩ ⟨b, hy, hb⟩ Q q => by
  subst hx hy
  refine ⟨_, .list [], .lst (.inl (.inl ha)) (dpU hu), .lst hb .nil, shU ls, shL [], ?_⟩
  have e : PyData.eqv (.list (ls.map fun l => .tuple (dI l))) (.list []) = decide (ls = []) := by
    cases ls with
    | nil => simp [PyData.eqv, PyData.eqvAll]
    | cons l r => simp [PyData.eqv, PyData.eqvAll]
  rw [e]
  exact q _ H1 (Ex.refl H1) rfl
/-! ### _law_steps -/
def isKn (k : Kn) : Is := ⟨fun v H => ∃ a, v = .ref a ∧ H a = some (.dT (kvT k)), fun _ _ _ e ⟨a, h1, h2⟩ => ⟨a, h1, e _ _ h2⟩⟩
theorem firm_Kn {k : Kn} : Firm (isKn k) := fun _ H d _ _ hd ⟨a, h1, h2⟩ => ⟨a, h1, by rw [upd_ne (ne_of h2 hd (fun z => by cases z))]; exact h2⟩
def spSteps : Sp := fun vs H Q _ => ∃ n : Nat, AllIs [isV (.int (n : Int))] vs H ∧ n ∈ [2, 3, 4] ∧ Gives (isKn (known n)) H Q
theorem sg_steps {H : Hp} {n : Nat} (h : n ∈ [2, 3, 4]) : SpG spSteps [isV (.int (n : Int))] H (isKn (known n)) := fun _ _ _ hvs _ _ q => ⟨n, hvs, h, q⟩
abbrev nSteps : List Str := ["_law_many_here", "_law_plain", "_law_known", "_law_line", "_law_later", "_law_here", "_law_place", "_law_there"]
theorem sc53 : FnScope nSteps ["_law_many_here"] (defScope (topS 53)) := ⟨rfl, rfl, rfl, by decide +kernel, rfl, by decide +kernel, by decide +kernel⟩
/-- the state of the search: the dict at d, the next level's list at e, this level's at f -/
structure Srch (d e f : Addr) (st : Kn × List (List Nat)) (line : List (List Nat)) (H : Hp) : Prop where
  kn : H d = some (.dT (kvT st.1))
  lt : ∃ us, H e = some (.lst us) ∧ AllU st.2 us H
  ln : ∃ us, H f = some (.lst us) ∧ AllU line us H
  ne : e ≠ f
theorem Srch.ex {d e f : Addr} {st : Kn × List (List Nat)} {line : List (List Nat)} {H H' : Hp} (s : Srch d e f st line H) (x : Ex H H') : Srch d e f st line H' :=
  ⟨x _ _ s.kn, let ⟨us, h1, h2⟩ := s.lt; ⟨us, x _ _ h1, h2.st x⟩, let ⟨us, h1, h2⟩ := s.ln; ⟨us, x _ _ h1, h2.st x⟩, s.ne⟩
theorem AllU.snoc {H : Hp} {ls : List (List Nat)} {us : List V} {l : List Nat} {v : V} (h : AllU ls us H) (hv : (isU (iV l)).p v H) : AllU (ls ++ [l]) (us ++ [v]) H := by
  show AllIs _ _ _
  rw [List.map_append]
  exact AllIs.snoc h hv
/-- known[there] = .., later.append(there) -/
theorem Srch.put {d e f : Addr} {st : Kn × List (List Nat)} {line : List (List Nat)} {H H2 : Hp} {l : List Nat} {v : Nat} {x : V} (s : Srch d e f st line H) (hn : (lk st.1 l).isSome = false) (hx : (isU (iV l)).p x H)
    (e2 : Ex (upd H d (.dT (kvT (st.1 ++ [(l, v)])))) H2) : ∃ us, H2 e = some (.lst us) ∧ Srch d e f (st.1 ++ [(l, v)], st.2 ++ [l]) line (upd H2 e (.lst (us ++ [x]))) := by
  obtain ⟨us, h1, h2⟩ := s.lt
  obtain ⟨ws, h3, h4⟩ := s.ln
  have ned : e ≠ d := ne_of h1 s.kn (fun z => by cases z)
  have nfd : f ≠ d := ne_of h3 s.kn (fun z => by cases z)
  have nT : ∀ xs, HO.dT (kvT st.1) ≠ .tup xs := fun xs z => by cases z
  have u2 : AllU st.2 us H2 := AllIs.st e2 (AllU.kept s.kn nT h2)
  have w2 : AllU line ws H2 := AllIs.st e2 (AllU.kept s.kn nT h4)
  have he2 : H2 e = some (.lst us) := e2 _ _ (by rw [upd_ne ned]; exact h1)
  have hf2 : H2 f = some (.lst ws) := e2 _ _ (by rw [upd_ne nfd]; exact h3)
  have hd2 : H2 d = some (.dT (kvT (st.1 ++ [(l, v)]))) := e2 _ _ upd_same
  obtain ⟨a, ea, ha⟩ := hx
  have hx2 : (isU (iV l)).p x H2 := ⟨a, ea, e2 _ _ (by rw [upd_ne (ne_of ha s.kn (fun z => by cases z))]; exact ha)⟩
  have nL : ∀ xs, HO.lst us ≠ .tup xs := fun xs z => by cases z
  refine ⟨us, he2, ⟨by rw [upd_ne ned.symm]; exact hd2, ⟨_, upd_same, ?_⟩, ⟨ws, by rw [upd_ne s.ne.symm]; exact hf2, AllU.kept he2 nL w2⟩, s.ne⟩⟩
  exact AllU.kept he2 nL (AllU.snoc u2 hx2)
theorem dget_kn {H : Hp} {d b : Addr} {k : Kn} {l : List Nat} (h : H d = some (.dT (kvT k))) (hb : H b = some (.tup (iV l))) : DGet H d (.ref b) ((lk k l).map fun (v : Nat) => V.int (v : Int)) := by
  rw [← kvT_val]
  exact DGet.t h (by rw [key_V]; exact hb)
theorem cl_steps (T : Top K mg) : Cl P w K mg base CX0 2 "_law_steps" ["_law_many_here"] spSteps := by
  have CL : Cl P w K mg base CX0 1 "_law_swapped" ["_law_order_here", "_law_place"] (spLSw K) := cl_lsw T
  refine cl0 (T.d (53, _) (by decide)) sc53 (fun vs H Q E ⟨_, h, _⟩ => h.len) (fun _ _ _ _ _ _ us hl => match us, hl with | [_], _ => rfl) (fun f cdv A outer s H vs Q E hr h => ?_)
  obtain ⟨n, hvs, hn, q⟩ := h
  obtain ⟨a, rfl, ha⟩ := all1 hvs
  cases (show a = V.int (n : Int) from ha)
  refine ⟨_, pss_cons (ps_set (i := 1) sc53.nd rfl (.inl rfl) (pe_tupRg rfl (by rfl) (T.b "tuple" (by decide)) (prg_1 (by rfl) (T.b "range" (by decide)) (pv 0))))
    (pss_cons (ps_par (i := 2) (j := 3) rfl sc53.nd rfl rfl (by decide) rfl rfl (pa_cons pe_dnewT (pa_cons (pe_lst (pa_cons (pv 1) pa_nil)) pa_nil)) (by rfl))
    (pss_cons (ps_dput (hu_of hr) (pv 2) (pv 1) pe_int rfl)
    (pss_cons (ps_while PassesOwn.never (pt_cmpR (op_neD hr.units) (pv 3) (pe_lst pa_nil) (nomark _))
      (pss_cons (ps_set (i := 4) sc53.nd rfl (.inl rfl) (pe_lst pa_nil))
      (pss_cons (ps_for PassesOwn.never rfl (pi_list (pv 3)) (pg_name (i := 5) sc53.nd rfl (.inl rfl))
        (pss_one (ps_for PassesOwn.never rfl (pi_range1 (by rfl) (T.b "range" (by decide)) (pa_cons (pe_op op_sub (pv 0) pe_int) pa_nil)) (pg_name (i := 6) sc53.nd rfl (.inl rfl))
          (pss_cons (ps_set (i := 7) sc53.nd rfl (.inl rfl) (pe_cl CL hr (by decide) pass0 (pa_cons (pv 5) (pa_cons (pv 6) pa_nil))))
          (pss_one (ps_if (pt_cmp (pc_dnotin (hu_of hr) (pv 7) (pv 2)))
            (pss_cons (ps_dput (hu_of hr) (pv 2) (pv 7) (pe_op op_add (pe_dget (hu_of hr) (pv 2) (pv 5) (fun _ _ => rfl)) pe_int) rfl)
            (pss_one (ps_expr (pe_bm PySem.F.plainAttrs_list PySem.F.slot_list_append PySem.F.type_list_append mt_append (pv 4) (pa_cons (pv 7) pa_nil))))) pss_nil))))))
      (pss_one (ps_set (i := 3) sc53.nd rfl (.inl rfl) (pv 4))))))
    (pss_one (ps_ret (pv 2)))))), ?_⟩
  have hn24 : 2 ≤ n ∧ n ≤ 4 := by
    have h0 : ∀ m ∈ [2, 3, 4], 2 ≤ m ∧ m ≤ 4 := by decide
    exact h0 n hn
  refine q_asg (eg_tupRg (n := n) (eg_v rfl) (by omega)) fun v1 H1 e1 ⟨pl, epl, hpl⟩ => ?_
  subst epl
  -- known, line = {}, [plain]; known[plain] = 0
  refine fun d hd => ⟨.ref pl, rfl, Evl.sz_of (by show 1 ≤ 100000; decide), fun f0 hf0 => ⟨.ref d, .ref f0, rfl, ?_⟩⟩
  have ned : f0 ≠ d := fun z => by rw [z, upd_same] at hf0; cases hf0
  have nd0 : H d = none := Evl.fresh_back e1 hd
  have kn0 : (upd (upd H1 d (.dT [])) f0 (.lst [.ref pl])) d = some (.dT []) := by rw [upd_ne ned.symm, upd_same]
  have x3 : Ex H1 (upd (upd H1 d (.dT [])) f0 (.lst [.ref pl])) := (Ex.new hd).trans (Ex.new hf0)
  refine ⟨.ref d, rfl, .ref pl, rfl, d, _, rfl, DPut.t (k := keyOf (List.range n)) kn0 (by rw [key_V]; exact x3 _ _ hpl) (Evl.sz_lt (by show 0 < 100000; decide)), ?_⟩
  have st0 : putK ([] : List (List Key × V)) (keyOf (List.range n)) (.int 0) = kvT (bfs n 0).1 := rfl
  rw [st0]
  have hf1 : (upd (upd (upd H1 d (.dT [])) f0 (.lst [.ref pl])) d (.dT (kvT (bfs n 0).1))) f0 = some (.lst [.ref pl]) := by rw [upd_ne ned, upd_same]
  have x4 : Ex H (upd (upd (upd H1 d (.dT [])) f0 (.lst [.ref pl])) d (.dT (kvT (bfs n 0).1))) := Ex.mut (e1.trans x3) nd0
  have pl4 : (upd (upd (upd H1 d (.dT [])) f0 (.lst [.ref pl])) d (.dT (kvT (bfs n 0).1))) pl = some (.tup (iV (List.range n))) := by
    rw [upd_ne (ne_of_none hpl hd)]
    exact x3 _ _ hpl
  refine s_while (fun m σ H' => ∃ (i : Nat) (f : Addr) (c4 c5 c6 c7 : Option V), m = levels n - i ∧ i ≤ levels n ∧ σ = [some (.int (n : Int)), some (.ref pl), some (.ref d), some (.ref f), c4, c5, c6, c7] ∧ Ex H H' ∧ H' d = some (.dT (kvT (bfs n i).1)) ∧
    ∃ us, H' f = some (.lst us) ∧ AllU (bfs n i).2 us H') (levels n) ⟨0, f0, none, none, none, none, rfl, Nat.zero_le _, rfl, x4, upd_same, [.ref pl], hf1, ⟨pl, rfl, pl4⟩, trivial⟩
    fun m σ H' ⟨i, f, c4, c5, c6, c7, hm, hi, eσ, x, hk, us, hf, hus⟩ => ⟨!decide ((bfs n i).2 = []), ?_, fun ht H2 e2 => ?_, fun ht H2 e2 => ?_⟩
  · subst eσ
    exact eb_test (eg_op (eg_var (R := isLs K ((bfs n i).2.map fun l => isU (iV l))) rfl ⟨f, us, rfl, hf, hus⟩) (EvG.L (xs := []) (eg_lst as_nil (by show 0 ≤ 100000; decide))) og_neU)
  · subst eσ
    have hlt : i < levels n := by
      rcases Nat.lt_or_ge i (levels n) with z | z
      · exact z
      · have ei : i = levels n := by omega
        rw [ei, bfs_end n hn] at ht
        simp at ht
    have sm := bfs_small n hn (i + 1) hlt
    have bh := bfs_has n hn i hi
    have hf2 := e2 _ _ hf
    have hus2 : AllU (bfs n i).2 us H2 := AllIs.st e2 hus
    have x2 : Ex H H2 := x.trans e2
    refine ⟨fun σ2 H3 => ∃ m', m' < m ∧ ∃ (i : Nat) (f : Addr) (c4 c5 c6 c7 : Option V), m' = levels n - i ∧ i ≤ levels n ∧ σ2 = [some (.int (n : Int)), some (.ref pl), some (.ref d), some (.ref f), c4, c5, c6, c7] ∧ Ex H H3 ∧ H3 d = some (.dT (kvT (bfs n i).1)) ∧
      ∃ us, H3 f = some (.lst us) ∧ AllU (bfs n i).2 us H3, fun _ _ h => h, ?_⟩
    refine q_asg (eg_lstN as_nil (by show 0 ≤ 100000; decide)) fun v3 H3 e3 ⟨e, ws, ee, ne0, he, hws⟩ => ?_
    subst ee
    have ews : ws = [] := List.eq_nil_of_length_eq_zero hws.len
    subst ews
    have nef : e ≠ f := fun z => by rw [z, hf2] at ne0; cases ne0
    have nhe : H e = none := Evl.fresh_back x2 ne0
    have hf3 := e3 _ _ hf2
    have S0 : Srch d e f ((bfs n i).1, []) (bfs n i).2 H3 := ⟨e3 _ _ (e2 _ _ hk), ⟨[], he, trivial⟩, ⟨us, hf3, AllIs.st e3 hus2⟩, nef⟩
    have lus : us.length = (bfs n i).2.length := by
      have := hus.len
      rw [List.length_map] at this
      exact this
    refine ⟨.ref f, rfl, f, rfl, ⟨us, .inl (.inl hf3)⟩, for_list (xs := us) (fun k σ G => ∃ (st : Kn × List (List Nat)) (c5 c6 c7 : Option V), σ = [some (.int (n : Int)), some (.ref pl), some (.ref d), some (.ref f), some (.ref e), c5, c6, c7] ∧ Ex H G ∧ Srch d e f st (bfs n i).2 G ∧ G f = some (.lst us) ∧
      ((bfs n i).2.drop k).foldl (stepH n) st = bfs n (i + 1) ∧ (∀ l ∈ (bfs n i).2, Has st.1 l) ∧ st.2.length ≤ st.1.length) ⟨_, c5, c6, c7, rfl, x2.trans e3, S0, hf3, rfl, fun l hl => (bh l hl).1, Nat.zero_le _⟩
      (fun k σ G _ ⟨_, _, _, _, _, _, _, hG, _⟩ => .inl (.inl hG)) (fun k u σ G hu ⟨st, c5, c6, c7, eσ, xG, S, hG, hfold, has, hle⟩ => ?_) (fun σ G ⟨st, c5, c6, c7, eσ, xG, S, hG, hfold, has, hle⟩ => ?_)⟩
    · subst eσ
      have hkl : k < (bfs n i).2.length := by
        rw [← lus]
        exact (List.getElem?_eq_some_iff.mp hu).1
      generalize hh : (bfs n i).2[k] = here
      have hmem : here ∈ (bfs n i).2 := by rw [← hh]; exact List.getElem_mem hkl
      have hlen : here.length = n := (bh here hmem).2
      obtain ⟨us', h1', h2'⟩ := S.ln
      rw [hG] at h1'
      cases h1'
      obtain ⟨R, hR, hRu⟩ := AllIs.get h2' hu
      rw [List.getElem?_map, List.getElem?_eq_getElem hkl, hh] at hR
      cases (Option.some.inj hR)
      have hRu : (isU (iV here)).p u G := hRu
      have drop1 : (bfs n i).2.drop k = here :: (bfs n i).2.drop (k + 1) := by rw [List.drop_eq_getElem_cons hkl, hh]
      rw [drop1, List.foldl_cons] at hfold
      have big : (stepH n st here).1.length ≤ 24 := by
        have := foldH_len n ((bfs n i).2.drop (k + 1)) (stepH n st here)
        rw [hfold] at this
        omega
      have hA : EvAs (tCons (tOp (rI0 fun i j => V.int (i - j)) (tVar 0) (tC (.int 1))) tNil) [some (.int (n : Int)), some (.ref pl), some (.ref d), some (.ref f), some (.ref e), some u, c6, c7] G [isV (.int ((n : Int) - 1))] := as_cons (eg_op (eg_v rfl) eg_c og_I0) as_nil
      have en1 : ((n : Int) - 1).toNat = n - 1 := by omega
      refine s_forR (n := (n : Int) - 1) hA (by omega) fun G1 xg1 => ⟨fun j σ G' => ∃ (st' : Kn × List (List Nat)) (c6 c7 : Option V), σ = [some (.int (n : Int)), some (.ref pl), some (.ref d), some (.ref f), some (.ref e), some u, c6, c7] ∧ Ex H G' ∧ Srch d e f st' (bfs n i).2 G' ∧ G' f = some (.lst us) ∧
        (isU (iV here)).p u G' ∧ ((List.range (n - 1)).drop j).foldl (stepP here) st' = stepH n st here ∧ (∀ l ∈ (bfs n i).2, Has st'.1 l) ∧ st'.2.length ≤ st'.1.length, ⟨st, c6, c7, rfl, xG.trans xg1, S.ex xg1, xg1 _ _ hG, (isU _).st _ _ _ xg1 hRu, rfl, has, hle⟩,
        fun j σ G' hj ⟨st', c6, c7, eσ, xG', S', hG', hu', hfold', has', hle'⟩ => ?_, fun σ G' ⟨st', c6, c7, eσ, xG', S', hG', hu', hfold', has', hle'⟩ => ?_⟩
      · subst eσ
        have hj' : j < n - 1 := by omega
        have drop2 : (List.range (n - 1)).drop j = j :: (List.range (n - 1)).drop (j + 1) := by
          rw [List.drop_eq_getElem_cons (by rw [List.length_range]; exact hj'), List.getElem_range]
        rw [drop2, List.foldl_cons] at hfold'
        refine q_asg (eg_call (as_cons (eg_var rfl (isU_T (K := K) hu')) (as_cons (eg_v rfl) as_nil)) (sg_lsw (by omega))) fun vt G2 xg2 ⟨tb, et, htb⟩ => ?_
        subst et
        have S2 := S'.ex xg2
        have hu2 := (isU _).st _ _ _ xg2 hu'
        have kl : st'.1.length ≤ 24 := by
          have h1 := foldP_len here ((List.range (n - 1)).drop (j + 1)) (stepP here st' j)
          have h2 := stepP_len here st' j
          rw [hfold'] at h1
          omega
        refine ⟨.ref tb, rfl, .ref d, rfl, d, _, rfl, dget_kn S2.kn htb, _, rfl, ?_⟩
        cases hin : (lk st'.1 (sw here j)).isSome with
        | true =>
          rw [Option.isSome_map, hin]
          have es : stepP here st' j = st' := by
            unfold stepP
            rw [if_pos hin]
          rw [es] at hfold'
          exact ⟨st', _, _, rfl, xG'.trans xg2, S2, xg2 _ _ hG', hu2, hfold', has', hle'⟩
        | false =>
          rw [Option.isSome_map, hin]
          obtain ⟨dd, hdd⟩ := Option.isSome_iff_exists.mp (has' here hmem)
          have es : stepP here st' j = (st'.1 ++ [(sw here j, dd + 1)], st'.2 ++ [sw here j]) := by
            unfold stepP
            rw [if_neg (by rw [hin]; exact Bool.false_ne_true), hdd]
            rfl
          obtain ⟨ub, eu, hub⟩ := hu2
          subst eu
          have dg := dget_kn S2.kn hub
          rw [hdd] at dg
          refine ⟨.ref d, rfl, .ref ub, rfl, d, V.int (dd : Int), rfl, dg, (dd : Int), 1, rfl, rfl, .ref d, rfl, .ref tb, rfl, d, _, rfl, DPut.t (k := keyOf (sw here j)) S2.kn (by rw [key_V]; exact htb) (Evl.sz_lt (by rw [kvT_len]; omega)), ?_⟩
          have ep : putK (kvT st'.1) (keyOf (sw here j)) (V.int ((dd : Int) + 1)) = kvT (st'.1 ++ [(sw here j, dd + 1)]) := kvT_put (v := dd + 1) hin
          rw [ep]
          obtain ⟨ws, hw1, S3⟩ := S2.put (v := dd + 1) hin ⟨tb, rfl, htb⟩ (Ex.refl _)
          have wl : ws.length ≤ 24 := by
            obtain ⟨ws', hw2, hw3⟩ := S2.lt
            have ned2 : e ≠ d := ne_of hw2 S2.kn (fun z => by cases z)
            rw [upd_ne ned2, hw2] at hw1
            cases hw1
            have := hw3.len
            rw [List.length_map] at this
            omega
          refine ⟨.ref e, rfl, Or.inl ⟨rfl, ws, .inl (.inl hw1)⟩, .ref tb, rfl, e, ws, .ref tb, rfl, rfl, hw1, Evl.sz_lt (by omega), ?_⟩
          rw [es] at hfold'
          have x5 : Ex H (upd (upd G2 d (.dT (kvT (st'.1 ++ [(sw here j, dd + 1)])))) e (.lst (ws ++ [V.ref tb]))) := Ex.mut (Ex.mut (xG'.trans xg2) nd0) nhe
          have nfd : f ≠ d := ne_of (xg2 _ _ hG') S2.kn (fun z => by cases z)
          have nud : ub ≠ d := ne_of hub S2.kn (fun z => by cases z)
          have nue : ub ≠ e := by
            obtain ⟨ws', hw2, _⟩ := S2.lt
            exact ne_of hub hw2 (fun z => by cases z)
          refine ⟨(st'.1 ++ [(sw here j, dd + 1)], st'.2 ++ [sw here j]), _, _, rfl, x5, S3, by rw [upd_ne nef.symm, upd_ne nfd]; exact xg2 _ _ hG', ⟨ub, rfl, by rw [upd_ne nue, upd_ne nud]; exact hub⟩, hfold', fun l hl => ?_, ?_⟩
          · show (lk (st'.1 ++ _) l).isSome = true
            rw [lk_app (has' l hl)]
            exact has' l hl
          · rw [List.length_append, List.length_append]
            show _ + 1 ≤ _ + 1
            omega
      · subst eσ
        rw [en1, List.drop_of_length_le (by rw [List.length_range]; exact Nat.le_refl _)] at hfold'
        have hst : st' = stepH n st here := hfold'
        rw [hst] at S' has' hle'
        exact ⟨_, _, _, _, rfl, xG', S', hG', hfold, has', hle'⟩
    · subst eσ
      rw [lus, List.drop_of_length_le (Nat.le_refl _)] at hfold
      have hst : st = bfs n (i + 1) := hfold
      rw [hst] at S
      exact s_asg (eg_v rfl) fun v5 G5 x5 hv5 => by
        cases (show v5 = V.ref e from hv5)
        have S5 := S.ex x5
        exact ⟨levels n - (i + 1), by omega, i + 1, e, _, _, _, _, rfl, hlt, rfl, xG.trans x5, S5.kn, S5.lt⟩
  · subst eσ
    have hnil : (bfs n i).2 = [] := by simpa using ht
    have ei : i = levels n := by
      rcases Nat.lt_or_ge i (levels n) with z | z
      · exact absurd hnil (bfs_line n hn i z)
      · omega
    subst ei
    exact s_ret (R := isKn (known n)) (eg_var rfl ⟨d, rfl, e2 _ _ hk⟩) fun v H3 e3 hv => q v H3 ((x.trans e2).trans e3) hv
end
end K2

namespace K2
open PySem PySem.Spec PyProof.Rows L2
open Evl (Ex)
set_option Elab.async false
set_option linter.all false
set_option maxRecDepth 100000
set_option maxHeartbeats 4000000
theorem eg_neg {te : TE} {σ : L2.St} {H : Hp} {f : Int → V} {i : Int} (h : EvG te σ H (isV (.int i))) : EvG (tUn (rU f) te) σ H (isV (f i)) := fun H1 e Q q =>
  h H1 e _ fun v H2 e2 hv => ⟨i, hv, q _ H2 e2 rfl⟩
section
variable {X : Cx} {CX : CXT} {k j : Nat} {x : Str} {sp : Sp} {E : XK} {p pos : Pos}
theorem pe_cl0 (c : Cl X.prog X.w X.K X.mg X.base CX k x [] sp) (hr : Room j X.A) (hk : k ≤ j) (hx : Passes CX X E) (hg : Gl X x := by rfl) (hdb : (x == ("__debug__" : Str)) = false := by decide) : PE X (.Call (.Name x p) [] [] pos) (tCall sp [] E tNil) := by
  obtain ⟨f, fd, F, g, kp, b⟩ := c
  exact pe_call0 F (hr.mono hk) hg g kp b .nil hx hdb
end
/-- a value that is no order -/
def isBadO (K : PySem.W.Frag) : Is := ⟨fun v H => ∃ xs, Odd K H v xs ∧ fitsO xs = false, fun _ _ _ e ⟨xs, h1, h2⟩ => ⟨xs, h1.ex e, h2⟩⟩
section
variable {P : Program} {w : World} {K : PySem.W.Frag} {mg : Str → Option Value} {base : Heap}
theorem bad_v {te : TE} {σ : L2.St} {H : Hp} {v : V} (h : EvG te σ H (isV v)) (o : ∀ H, Odd K H v []) : EvG te σ H (isBadO K) := h.imp fun u H1 _ hu => ⟨[], by rw [show u = v from hu]; exact o H1, by decide⟩
theorem bad_t {te : TE} {σ : L2.St} {H : Hp} {xs : List V} (h : EvG te σ H (isT K xs)) (hk : ∀ H, ∀ x ∈ xs, Knd K H x) (hf : fitsO xs = false) : EvG te σ H (isBadO K) := h.imp fun u H1 _ ⟨a, e, hs⟩ => ⟨xs, by rw [e]; exact .tup hs fun _ => hk H1, hf⟩
theorem bad_l {te : TE} {σ : L2.St} {H : Hp} {Rs : List Is} (h : EvG te σ H (isLs K Rs)) : EvG te σ H (isBadO K) := h.imp fun u H1 _ ⟨a, vs, e, hl, _⟩ => ⟨[], by rw [e]; exact .lst (.inl (.inl hl)), by decide⟩
def spBad (K : PySem.W.Frag) : Sp := fun vs H Q _ => vs = [] ∧ Gives (isLs K (List.replicate 14 (isBadO K))) H Q
theorem sg_bad {H : Hp} : SpG (spBad K) [] H (isLs K (List.replicate 14 (isBadO K))) := fun _ _ vs hvs _ _ q => ⟨match vs, hvs with | [], _ => rfl, q⟩
theorem sc52 : FnScope ["_law_some"] [] (defScope (topS 52)) := ⟨rfl, rfl, rfl, by decide +kernel, rfl, by decide +kernel, by decide +kernel⟩
theorem nest {te : TE} {σ : L2.St} {H : Hp} (h : EvG te σ H (isT K [V.int 0])) : EvG (tTup (tCons te tNil)) σ H (isBadO K) := (eu_tup (Rs := [isT K [V.int 0]]) (as_cons h as_nil) (by show 1 ≤ 100000; decide)).imp fun v H1 _ ⟨a, vs, e, ha, hv⟩ => by
  obtain ⟨u, rfl, b, rfl, hb⟩ := all1 hv
  subst e
  refine ⟨[.ref b], .tup (.inl (.inl ha)) fun _ x hx => ?_, rfl⟩
  rw [List.mem_singleton.mp hx]
  exact .tup hb
theorem cl_bad (T : Top K mg) : Cl P w K mg base CX0 1 "_law_bad_orders" [] (spBad K) := by
  refine cl0 (T.d (52, _) (by decide)) sc52 (fun vs H Q E ⟨h, _⟩ => by rw [h]; rfl) (fun _ _ _ _ _ _ us hl => match us, hl with | [], _ => rfl) (fun f cdv A outer s H vs Q E hr h => ?_)
  obtain ⟨rfl, q⟩ := h
  refine ⟨_, pss_cons (ps_set (i := 0) sc52.nd rfl (.inl rfl) (pe_lst (pa_cons pe_non (pa_cons (pe_tup pa_nil) (pa_cons (pe_lst (pa_cons pe_int pa_nil)) (pa_cons (pe_tup (pa_cons pe_int (pa_cons pe_int pa_nil))) (pa_cons (pe_tup (pa_cons pe_int pa_nil)) (pa_cons (pe_tup (pa_cons pe_int (pa_cons pe_int pa_nil)))
      (pa_cons (pe_tup (pa_cons pe_int (pa_cons pe_bl pa_nil))) (pa_cons (pe_tup (pa_cons pe_int (pa_cons pe_non pa_nil))) (pa_cons pe_str (pa_cons (pe_tupRg rfl (by rfl) (T.b "tuple" (by decide)) (prg_1 (by rfl) (T.b "range" (by decide)) pe_int)) (pa_cons (pe_tup (pa_cons (pe_tup (pa_cons pe_int pa_nil)) pa_nil)) pa_nil)))))))))))))
    (pss_one (ps_ret (pe_op op_cat (pv 0) (pe_lst (pa_cons (pe_tup (pa_cons pe_int (pa_cons pe_int pa_nil))) (pa_cons (pe_tup (pa_cons (pe_un un_neg pe_int) (pa_cons pe_int pa_nil))) (pa_cons pe_int pa_nil))))))), ?_⟩
  have ki : ∀ xs : List V, (∀ x ∈ xs, (∃ i, x = V.int i) ∨ (∃ b, x = V.bl b) ∨ x = V.non) → ∀ H, ∀ x ∈ xs, Knd K H x := fun xs h H x hx => by
    rcases h x hx with ⟨i, rfl⟩ | ⟨b, rfl⟩ | rfl
    · exact .int i
    · exact .bl b
    · exact .non
  have t2 : ∀ x y : V, ((∃ i, x = V.int i) ∨ (∃ b, x = V.bl b) ∨ x = V.non) → ((∃ i, y = V.int i) ∨ (∃ b, y = V.bl b) ∨ y = V.non) → ∀ H, ∀ z ∈ [x, y], Knd K H z := fun x y h1 h2 => ki _ fun z hz => by
    rcases List.mem_cons.mp hz with e | e
    · rw [e]; exact h1
    · rw [List.mem_singleton.mp e]; exact h2
  refine q_asg (R := isLs K (List.replicate 11 (isBadO K))) (eg_lst (as_cons (bad_v eg_c fun _ => .non) (as_cons (bad_t (xs := []) (eg_tup (xs := []) as_nil (by show 0 ≤ 100000; decide)) (ki _ fun _ h => by cases h) rfl) (as_cons (bad_l (eg_lst (Rs := [isV (.int 0)]) (as_cons eg_c as_nil) (by decide)))
    (as_cons (bad_t (xs := [V.int 0, V.int 0]) (eg_tup (as_cons eg_c (as_cons eg_c as_nil)) (by decide)) (t2 _ _ (.inl ⟨_, rfl⟩) (.inl ⟨_, rfl⟩)) rfl) (as_cons (bad_t (xs := [V.int 1]) (eg_tup (as_cons eg_c as_nil) (by decide)) (ki _ fun x h => .inl ⟨1, List.mem_singleton.mp h⟩) rfl)
    (as_cons (bad_t (xs := [V.int 1, V.int 2]) (eg_tup (as_cons eg_c (as_cons eg_c as_nil)) (by decide)) (t2 _ _ (.inl ⟨_, rfl⟩) (.inl ⟨_, rfl⟩)) rfl) (as_cons (bad_t (xs := [V.int 0, V.bl true]) (eg_tup (as_cons eg_c (as_cons eg_c as_nil)) (by decide)) (t2 _ _ (.inl ⟨_, rfl⟩) (.inr (.inl ⟨_, rfl⟩))) rfl)
    (as_cons (bad_t (xs := [V.int 0, V.non]) (eg_tup (as_cons eg_c (as_cons eg_c as_nil)) (by decide)) (t2 _ _ (.inl ⟨_, rfl⟩) (.inr (.inr rfl))) rfl) (as_cons (bad_v eg_c fun _ => .str _) (as_cons (bad_t (xs := iV (List.range 31)) (eg_tupRg (n := 31) eg_c (by decide)).T (ki _ fun x h => by obtain ⟨n, _, rfl⟩ := List.mem_map.mp h; exact .inl ⟨_, rfl⟩) rfl)
    (as_cons (nest (eg_tup (xs := [V.int 0]) (as_cons eg_c as_nil) (by decide))) as_nil))))))))))) (by show 11 ≤ 100000; decide)) fun v H1 e1 hv => ?_
  exact s_ret (R := isLs K (List.replicate 14 (isBadO K))) (eg_op (R1 := isLs K (List.replicate 11 (isBadO K))) (eg_var rfl hv) (eg_lst (Rs := List.replicate 3 (isBadO K)) (as_cons (bad_t (xs := [V.int 0, V.int 2]) (eg_tup (as_cons eg_c (as_cons eg_c as_nil)) (by decide)) (t2 _ _ (.inl ⟨_, rfl⟩) (.inl ⟨_, rfl⟩)) rfl)
    (as_cons (bad_t (xs := [V.int (-1), V.int 0]) (eg_tup (as_cons (eg_neg eg_c) (as_cons eg_c as_nil)) (by decide)) (t2 _ _ (.inl ⟨_, rfl⟩) (.inl ⟨_, rfl⟩)) rfl) (as_cons (bad_v eg_c fun _ => .int _) as_nil))) (by show 3 ≤ 100000; decide)) (og_catL (by show 11 + 3 ≤ 100000; decide))) fun v2 H2 e2 hv2 => q v2 H2 (e1.trans e2) hv2
end
end K2

namespace K2H
open PySem PySem.Spec PyProof.Rows L2 HotX
set_option Elab.async false
set_option linter.all false
set_option maxRecDepth 100000
set_option maxHeartbeats 4000000
section
variable {prog : Program} {w : World} {A : Around} {E : Value → Shared → Prop} {s : Shared}
theorem hot_to {x1 : Addr} {h h' : Heap} (t : HotAt A x1 h) (k : ∀ o, h.get? x1 = some o → h'.get? x1 = some o) : HotAt A x1 h' := by
  obtain ⟨a, o, vs, b, c⟩ := t
  exact ⟨a, o, vs, k o b, c⟩
/-- a list's iterator at its end, an exception being handled -/
theorem listEnd_hot {it l x1 : Addr} {i : Nat} {items} {Q : Value → Shared → Prop} (hot : HotAt A x1 s.heap) (hne : x1 ≠ it) (isIt : s.heap.IsListIter it l i) (isL0 : s.heap.IsList l items) (gone : items[i]? = none)
    (kx : ∀ h' e, Heap.ExtBut it s.heap h' → (∃ o, h'.get? e = some o ∧ o.cls = .type "StopIteration") → E (.ref e) { s with heap := h' }) : wpAny (model prog w) A (Builtin.SmallTypes.nextOf (.ref it)) Q E s := by
  obtain ⟨o, go, cc, dd⟩ := id isIt
  obtain ⟨lo, gl, _, nl, dl⟩ := isL0
  obtain ⟨hh, o1, vs1, e1, d1, c1⟩ := hot
  unfold Builtin.SmallTypes.nextOf
  refine wpAny_bind (wpAny_callSpecial?_slot (name := Str.ofString "__next__") isIt.typeIs slot_listiter_next (wpAny_call_entry slot_listiter_next isIt.typeIs entry_listiter_next ?_ (args_listiter_next _)))
  show wpAny _ _ (field (.ref it) 0 >>= _) _ _ s
  refine wpAny_bind (wpAny_field go dd (x := .ref l) rfl ?_)
  show wpAny _ _ (if (Value.ref l == Value.none) = true then _ else _) _ _ s
  rw [if_neg (show ¬ ((Value.ref l == Value.none) = true) from Bool.false_ne_true)]
  show wpAny _ _ (field (.ref it) 1 >>= _) _ _ s
  refine wpAny_bind (wpAny_field go dd (x := .int i 0) rfl ?_)
  show wpAny _ _ (seqItems? (.ref l) >>= _) _ _ s
  refine wpAny_bind (wpAny_seqItems gl dl ?_)
  simp only [Int.toNat_natCast, gone]
  refine wpAny_bind (wpAny_rule (wpAny_bind (wpAny_setField go dd (by simp) ?_)))
  show wpAny _ _ (newExc (.type "StopIteration") [] >>= _) _ _ _
  refine wpAny_bind ?_
  simp only [newExc, newTuple]
  refine wpAny_bind (wpAny_newObj_type ?_ (by size_fits))
  refine wpAny_bind (m := firstArgMember _ _) (wpAny_of_eq (a := Value.none) (by first | rfl | (simp only [firstArgMember]; rfl)) ?_)
  refine wpAny_newObj_type ?_ (by size_fits)
  have stay : ∀ (b : Addr) (ob : Obj) (f : Obj → Obj), b ≠ it → s.heap.get? b = some ob → (s.heap.update it f).get? b = some ob := fun b ob f hb q => ((Heap.SameBut.update s.heap it f).2 b hb).trans q
  refine raiseNew_hot ⟨hh, o1, vs1, Heap.get?_push_of_some _ (Heap.get?_push_of_some _ (stay _ _ _ hne e1)), d1, c1⟩ (Nat.ne_of_lt (Heap.lt_size (Heap.get?_push_of_some _ (stay _ _ _ hne e1)))) (Heap.get?_push_size _ rfl) rfl (by first | (simp; done) | (simp; omega)) ?_
  refine kx _ _ (fun b ob hb q => ?_) ⟨_, Heap.get?_update_self _ (Heap.get?_push_size _ rfl) rfl, rfl⟩
  rw [Heap.get?_update_other _ _ (Nat.ne_of_gt (Heap.lt_size (Heap.get?_push_of_some _ (stay _ _ _ hb q))))]
  exact Heap.get?_push_of_some _ (Heap.get?_push_of_some _ (stay _ _ _ hb q))
/-- a tuple's iterator at its end -/
theorem tupEnd_hot {it t x1 : Addr} {i : Nat} {items} {Q : Option Value → Shared → Prop} (hot : HotAt A x1 s.heap) (hne : x1 ≠ it) (isIt : IsTupIter s.heap it t i) (isT0 : IsTup s.heap t items) (gone : items[i]? = none)
    (kk : ∀ h', Heap.ExtBut it s.heap h' → Q none { s with heap := h' }) : wpAny (model prog w) A (pyNext (.ref it)) Q E s := by
  obtain ⟨o, go, cc, dd⟩ := id isIt
  obtain ⟨lo, gl, _, nl, dl⟩ := isT0
  obtain ⟨hh, o1, vs1, e1, d1, c1⟩ := hot
  unfold pyNext
  refine wpAny_bind (wpAny_attempt (wpAny_callSpecial?_slot (name := Str.ofString "__next__") isIt.typeIs slot_tupleiter_next (wpAny_call_entry slot_tupleiter_next isIt.typeIs entry_tupleiter_next ?_ (args_tupleiter_next _))))
  show wpAny _ _ (field (.ref it) 0 >>= _) _ _ s
  refine wpAny_bind (wpAny_field go dd (x := .ref t) rfl ?_)
  show wpAny _ _ (if (Value.ref t == Value.none) = true then _ else _) _ _ s
  rw [if_neg (show ¬ ((Value.ref t == Value.none) = true) from Bool.false_ne_true)]
  show wpAny _ _ (field (.ref it) 1 >>= _) _ _ s
  refine wpAny_bind (wpAny_field go dd (x := .int i 0) rfl ?_)
  show wpAny _ _ (seqItems? (.ref t) >>= _) _ _ s
  refine wpAny_bind (wpAny_seqItems gl dl ?_)
  simp only [Int.toNat_natCast, gone]
  refine wpAny_bind (wpAny_rule (wpAny_bind (wpAny_setField go dd (by simp) ?_)))
  show wpAny _ _ (newExc (.type "StopIteration") [] >>= _) _ _ _
  refine wpAny_bind ?_
  simp only [newExc, newTuple]
  refine wpAny_bind (wpAny_newObj_type ?_ (by size_fits))
  refine wpAny_bind (m := firstArgMember _ _) (wpAny_of_eq (a := Value.none) (by first | rfl | (simp only [firstArgMember]; rfl)) ?_)
  refine wpAny_newObj_type ?_ (by size_fits)
  have stay : ∀ (b : Addr) (ob : Obj) (f : Obj → Obj), b ≠ it → s.heap.get? b = some ob → (s.heap.update it f).get? b = some ob := fun b ob f hb q => ((Heap.SameBut.update s.heap it f).2 b hb).trans q
  refine raiseNew_hot ⟨hh, o1, vs1, Heap.get?_push_of_some _ (Heap.get?_push_of_some _ (stay _ _ _ hne e1)), d1, c1⟩ (Nat.ne_of_lt (Heap.lt_size (Heap.get?_push_of_some _ (stay _ _ _ hne e1)))) (Heap.get?_push_size _ rfl) rfl (by first | (simp; done) | (simp; omega)) ?_
  refine wpAny_bind (wpAny_isInstance (T := "StopIteration") (b := true) ⟨_, Heap.get?_update_self _ (Heap.get?_push_size _ rfl) rfl, rfl⟩ isSubtype_stop ?_)
  refine wpAny_pure (kk _ fun b ob hb q => ?_)
  rw [Heap.get?_update_other _ _ (Nat.ne_of_gt (Heap.lt_size (Heap.get?_push_of_some _ (stay _ _ _ hb q))))]
  exact Heap.get?_push_of_some _ (Heap.get?_push_of_some _ (stay _ _ _ hb q))
/-- (a, b, ..) = t -/
theorem unpack_hot {env : Env} {elts : List Expr} {k} {pos : Pos} {t x1 : Addr} {items : Array Value} {Q : Unit → Shared → Prop} (hot : HotAt A x1 s.heap) (isT0 : IsTup s.heap t items) (many : (assignEach elts env).length = items.size) (noStar : (assignEach elts env).findIdx? (·.1) = none)
    (h : ∀ h', Heap.ExtBut s.heap.objs.size s.heap h' → wpAny (model prog w) A (assignInOrder ((assignEach elts env).map (·.2)) items.toList) Q E { s with heap := h' }) : wpAny (model prog w) A (assign (.Tuple elts k pos) env (.ref t)) Q E s := by
  have apart : t ≠ s.heap.objs.size := by obtain ⟨o, go, _⟩ := isT0; exact Nat.ne_of_lt (Heap.lt_size go)
  have hlx : x1 ≠ s.heap.objs.size := by obtain ⟨_, o, _, go, _⟩ := hot; exact Nat.ne_of_lt (Heap.lt_size go)
  rw [assign_Tuple]
  refine wpAny_bind (wpAny_standAt ?_)
  unfold unpack
  rw [many, noStar]
  refine wpAny_bind (wpAny_holding ?_)
  unfold unpackItems
  refine wpAny_bind ?_
  unfold notIterableAtAll
  refine wpAny_bind (wpAny_specialOf isT0.typeIs slot_tuple_iter.lookup ?_)
  refine wpAny_pure ?_
  simp only [Bool.false_eq_true, if_false]
  refine wpAny_bind (wpAny_holding (iter_tuple isT0 ?_))
  refine wpAny_bind (wpAny_holding (draw_tuple apart items.size 0 _ _ ⟨_, Heap.get?_push_size _ rfl, rfl, rfl⟩ (isT0.push _) (by omega) fun h₁ isIt₁ hs₁ => ?_))
  have whole0 : List.take items.size (List.drop 0 items.toList) = items.toList := by
    rw [List.drop_zero]; exact List.take_of_length_le (by simp)
  rw [whole0]
  rw [if_neg (by simp)]
  have isT0₁ : IsTup h₁ t items := (isT0.push _).extBut hs₁.extBut apart
  have hot₁ : HotAt A x1 h₁ := hot_to hot fun o q => hs₁.extBut x1 o hlx (Heap.get?_push_of_some _ q)
  refine wpAny_bind (wpAny_holding (tupEnd_hot hot₁ hlx isIt₁ isT0₁ (by simp) fun h₂ he₂ => ?_))
  simp only [Option.isSome_none, Bool.false_eq_true, if_false]
  exact wpAny_pure (h h₂ fun b o hb e => he₂ b o hb (hs₁.extBut b o hb (Heap.get?_push_of_some _ e)))
/-- zip at the end of its first list -/
theorem zipEnd_hot {z TI TO i1 i2 l1 l2 x1 : Addr} {k1 k2 : Nat} {xs ys : Array Value} {a b : Value} {Q : Option Value → Shared → Prop} (hot : HotAt A x1 s.heap) (nz : x1 ≠ z) (n1 : x1 ≠ i1) (D : ZipApart z TI TO i1 i2 l1 l2)
    (gz : IsZip s.heap z TI TO .none) (gI : IsPair s.heap TI (.ref i1) (.ref i2)) (gO : IsPair s.heap TO a b)
    (h1 : s.heap.IsListIter i1 l1 k1) (h2 : s.heap.IsListIter i2 l2 k2) (hl1 : s.heap.IsList l1 xs) (hl2 : s.heap.IsList l2 ys) (gone : xs[k1]? = none)
    (kk : ∀ h', (∀ c o, c ≠ z → c ≠ TO → c ≠ i1 → c ≠ i2 → s.heap.get? c = some o → h'.get? c = some o) → Q none { s with heap := h' }) : wpAny (model prog w) A (pyNext (.ref z)) Q E s := by
  have tyZ : s.TypeIs (.ref z) "zip" := ⟨_, gz, rfl⟩
  unfold pyNext
  refine wpAny_bind (wpAny_attempt (wpAny_callSpecial?_slot (name := Str.ofString "__next__") tyZ F.slot_zip_next (wpAny_call_entry F.slot_zip_next tyZ F.entry_zip_next ?_ (F.args_zip_next_1 _))))
  show wpAny _ _ (field (.ref z) 2 >>= _) _ _ _
  refine wpAny_bind (wpAny_field gz rfl (x := .bool false) rfl ?_)
  show wpAny _ _ (field (.ref z) 3 >>= _) _ _ _
  refine wpAny_bind (wpAny_field gz rfl (x := .ref TI) rfl ?_)
  refine wpAny_bind (wpAny_seqItems gI rfl ?_)
  show wpAny _ _ (Builtin.SmallTypes.ownedTupleIsFree (.ref z) >>= _) _ _ _
  refine wpAny_bind ?_
  unfold Builtin.SmallTypes.ownedTupleIsFree
  refine wpAny_bind (wpAny_field gz rfl (x := .none) rfl (wpAny_pure ?_))
  simp only [if_true]
  refine wpAny_bind (wpAny_rule ?_)
  refine wpAny_bind (wpAny_field gz rfl (x := .ref TO) rfl ?_)
  refine wpAny_bind (wpAny_setField_rec gz (by simp) fun h₁ gz₁ hs₁ => ?_)
  replace gz₁ : IsZip h₁ z TI TO .ellipsis := gz₁
  refine wpAny_bind ?_
  simp only [List.zipIdx_cons, List.zipIdx_nil, List.forIn_cons, List.forIn_nil]
  refine wpAny_bind (wpAny_bind (wpAny_onRaise ?_))
  show wpAny _ _ (Builtin.SmallTypes.nextOf (.ref i1) >>= _) _ _ _
  have hot₁ : HotAt A x1 h₁ := hot_to hot fun o q => hs₁.extBut x1 o nz q
  refine wpAny_bind (listEnd_hot (x1 := x1) hot₁ n1 (h1.extBut hs₁.extBut D.i1z) (hl1.extBut hs₁.extBut D.l1z) gone fun h₂ e hs₂ he => ?_)
  obtain ⟨oe, goe, coe⟩ := he
  have gz₂ : IsZip h₂ z TI TO .ellipsis := hs₂ _ _ D.i1z.symm gz₁
  have nez : e ≠ z := fun x => by subst x; rw [gz₂] at goe; cases goe; simp at coe
  refine wpAny_setField_rec gz₂ (by simp) fun h₃ _ hs₃ => ?_
  refine wpAny_bind (wpAny_isInstance (T := "StopIteration") (b := true) ⟨oe, hs₃.extBut _ _ nez goe, coe⟩ isSubtype_stop ?_)
  exact wpAny_pure (kk _ fun c o c1 _ c3 _ x => hs₃.extBut _ _ c1 (hs₂ _ _ c3 (hs₁.extBut _ _ c1 x)))
end
end K2H

namespace K2H
open PySem PySem.Spec PyProof.Rows L2 HotX L2H
set_option Elab.async false
set_option linter.all false
set_option maxRecDepth 100000
set_option maxHeartbeats 4000000
abbrev St := L2.St
/-! ### zip of two lists, the first at xv end first -/
def ItzF (K : PySem.W.Frag) (a b : Addr) : It :=
  ⟨(Itz K a b).go, (Itz K a b).yld, fun i H => ∃ xs ys : List V, SqL K H a xs ∧ SqL K H b ys ∧ xs.length ≤ i⟩
theorem five {z TI TO i1 i2 c : Addr} (h : c ∈ [z, TI, TO, i1, i2]) : c = z ∨ c = TI ∨ c = TO ∨ c = i1 ∨ c = i2 := by simpa using h
theorem five_no {z TI TO i1 i2 c : Addr} (h : c ∉ [z, TI, TO, i1, i2]) : c ≠ z ∧ c ≠ TI ∧ c ≠ TO ∧ c ≠ i1 ∧ c ≠ i2 := by simpa [not_or] using h
theorem turn_zipH {P : Program} {w : World} {K : PySem.W.Frag} {elts : List Expr} {kk : Nat} {tpos : Pos} {a b z TI TO i1 i2 : Addr} (D : ZipApart z TI TO i1 i2 a b) :
    TurnH P w K (.Tuple elts kk tpos) (ItzF K a b) [z, TI, TO, i1, i2] z (fun i h => IsZip h z TI TO .none ∧ IsPair h TI (.ref i1) (.ref i2) ∧ (∃ x y, IsPair h TO x y) ∧ h.IsListIter i1 a i ∧ h.IsListIter i2 b i) where
  mem := List.mem_cons_self
  obj := fun i h ⟨gz, gI, ⟨x, y, gO⟩, ⟨o1, e1, _, d1⟩, ⟨o2, e2, _, d2⟩⟩ c hc => by
    rcases five hc with rfl | rfl | rfl | rfl | rfl
    · exact ⟨_, gz, fun v q => nomatch q⟩
    · exact ⟨_, gI, fun v q => nomatch q⟩
    · exact ⟨_, gO, fun v q => nomatch q⟩
    · exact ⟨o1, e1, fun v q => by rw [d1] at q; cases q⟩
    · exact ⟨o2, e2, fun v q => by rw [d2] at q; cases q⟩
  keep := fun i h h' ⟨gz, gI, ⟨x, y, gO⟩, h1, h2⟩ k => ⟨k z (by simp) _ gz, k TI (by simp) _ gI, ⟨x, y, k TO (by simp) _ gO⟩, h1.at fun o q => k i1 (by simp) o q, h2.at fun o q => k i2 (by simp) o q⟩
  item := by
    intro X hP hw hK _ i pins s σ H E I apt st goes
    subst hP hw hK
    obtain ⟨gz, gI, ⟨u0, v0, gO⟩, h1, h2⟩ := st
    obtain ⟨xs, ys, x, y, sx, sy, hx, hy⟩ := goes
    obtain ⟨xv, wx, p, _⟩ := I.list sx
    obtain ⟨yv2, wy, p2, _⟩ := I.list sy
    obtain ⟨u, gu, relU⟩ := wx.get hx
    obtain ⟨u2, gu2, relU2⟩ := wy.get hy
    have below : z < s.heap.objs.size := Heap.lt_size gz
    refine wpAny_pyNext_zip_item D gz gI gO h1 h2 p.isList p2.isList (x := u) (y := u2) (by simpa using gu) (by simpa using gu2) fun h' z' TO' h1' h2' hT eS keepK => ?_
    refine ⟨_, rfl, wpAny_letOwnedTupleGo_zip (s := { s with heap := h' }) z' fun h'' z'' but => ?_⟩
    have stay : ∀ c o, c ∉ [z, TI, TO, i1, i2] → s.heap.get? c = some o → h''.get? c = some o := fun c o hc q => by
      obtain ⟨c1, c2, c3, c4, c5⟩ := five_no hc
      exact (but.2 c c1).trans (keepK c o c1 c3 c4 c5 q)
    have new : ObjOk X.prog X.w (upd H s.heap.objs.size (.tup [x, y])) h'' s.heap.objs.size (.tup [x, y]) :=
      ⟨by show 2 ≤ sizeLine; decide, [u, u2], .cons relU (.cons relU2 .nil), ⟨_, (but.2 _ (Nat.ne_of_gt below)).trans hT, rfl, _, rfl⟩⟩
    refine ⟨.ref s.heap.objs.size, _, I.turnedNew (t' := s.toks) (ch := [z, TI, TO, i1, i2]) stay apt (Nat.le_refl _) new, rfl, ⟨_, x, y, rfl, I.hok.fresh (Nat.le_refl _), rfl, fun l el => by rw [I.list_inj el sx]; exact hx, fun l el => by rw [I.list_inj el sy]; exact hy⟩,
      ⟨z'', (but.2 _ D.TIz).trans (keepK _ _ D.TIz D.TITO D.TIi1 D.TIi2 gI), ⟨u, u2, (but.2 _ D.TOz).trans TO'⟩, h1'.at fun o q => (but.2 _ D.i1z).trans q, h2'.at fun o q => (but.2 _ D.i2z).trans q⟩, fun c inC => ?_⟩
    have hlt : c < s.heap.objs.size := by
      obtain ⟨_, e1, _⟩ := h1
      obtain ⟨_, e2, _⟩ := h2
      rcases five inC with rfl | rfl | rfl | rfl | rfl
      · exact below
      · exact Heap.lt_size gI
      · exact Heap.lt_size gO
      · exact Heap.lt_size e1
      · exact Heap.lt_size e2
    rw [upd_ne (Nat.ne_of_lt hlt)]
    exact (apt c inC).1
  done := by
    intro X hP hw hK hc i pins s σ H E I apt st goes
    subst hP hw hK
    obtain ⟨gz, gI, ⟨u0, v0, gO⟩, h1, h2⟩ := st
    obtain ⟨xs, ys, sx, sy, short⟩ := goes
    obtain ⟨xv, wx, p, _⟩ := I.list sx
    obtain ⟨yv2, wy, p2, _⟩ := I.list sy
    have l1 := wx.length
    obtain ⟨q, ⟨hh, v1, e1, c1⟩, hq⟩ := hc
    have P1 := I.pin q (List.mem_append_left _ hq)
    have nz := (apt z (by simp)).2.2.2.2.2 q (List.mem_append_left _ hq)
    have n1 := (apt i1 (by simp)).2.2.2.2.2 q (List.mem_append_left _ hq)
    exact zipEnd_hot ⟨hh, q.2, v1, P1.1, e1, c1⟩ nz n1 D gz gI gO h1 h2 p.isList p2.isList (by simp; omega) fun h' keepK => ⟨rfl, I.turnedL (t' := s.toks) (ch := [z, TI, TO, i1, i2]) (fun c o hb q' => by
      obtain ⟨c1, c2, c3, c4, c5⟩ := five_no hb
      exact keepK c o c1 c3 c4 c5 q') apt⟩
  self := fun A i s Q E st h => wpAny_pyIter_zip st.1 h
def iZipF (K : PySem.W.Frag) (ta : TA) : TI := fun σ H R => ta σ H fun vs G1 => ∃ a b xs ys, vs = [.ref a, .ref b] ∧ SqL K G1 a xs ∧ SqL K G1 b ys ∧ R (ItzF K a b) G1
theorem pi_zipH {X : Cx} {e e2 : Expr} {ta : TA} {p pos tpos : Pos} {elts : List Expr} {kk : Nat} (goes : Gl X "zip") (lt1 : X.mg "zip" = none) (ha : PA X [e, e2] ta)
    (hs : starEach [e, e2] X.env = (false, eval e X.env) :: starEach [e2] X.env := by rfl) (hpl : (backTo pos (starEach [e2] X.env)).any (·.1) = false := by rfl) :
    PIH X (.Tuple elts kk tpos) (.Call (.Name "zip" p) [e, e2] [] pos) (iZipF X.K ta) := by
  refine ⟨fun pins s σ H R I h => Call_ (ld_blt I goes lt1 PyProof.Rows.boot_zip (PyProof.Rows.callWith_type1 (thn (ha.run pos pins s σ H _ I h) fun us t1 ⟨vs, G1, J1, r1, a, b, xs, ys, ex, sx, sy, q⟩ => ?_) hs hpl))⟩
  subst ex
  have eus : us = [.ref a, .ref b] := by
    cases r1 with
    | cons r rr =>
      cases r
      cases rr with
      | cons r' rr' =>
        cases r'
        cases rr'
        rfl
  subst eus
  obtain ⟨xv, wx, p1, _⟩ := J1.list sx
  obtain ⟨yv2, wy, p2, _⟩ := J1.list sy
  refine call_zip_2 p1.isList p2.isList fun h' gz gI gO h1 h2 eS keepK => wpAny_pyIter_zip gz ?_
  have J2 : Inv X pins σ G1 { t1 with heap := h' } := J1.kept (t' := t1.toks) keepK
  refine ⟨t1.heap.objs.size + 4, [t1.heap.objs.size + 4, t1.heap.objs.size + 2, t1.heap.objs.size + 3, t1.heap.objs.size, t1.heap.objs.size + 1], _, _, G1, rfl, J2, turn_zipH (PySem.W.ktu_apart t1.heap.objs.size a b p1.lt p2.lt), ⟨gz, gI, ⟨_, _, gO⟩, h1, h2⟩, fun c inC => ?_, q⟩
  have above : t1.heap.objs.size ≤ c := by
    rcases five inC with z | z | z | z | z
    · rw [z]; exact Nat.le_add_right _ _
    · rw [z]; exact Nat.le_add_right _ _
    · rw [z]; exact Nat.le_add_right _ _
    · rw [z]; exact Nat.le_refl _
    · rw [z]; exact Nat.le_add_right _ _
  exact J1.fpOk above (J1.hok.fresh above)
/-- (x, y) = a tuple, an exception being handled -/
theorem pg_tupH (K : PySem.W.Frag) {X : Cx} {es : List Expr} {k : Nat} {t : TGs} {n : Nat} {pos : Pos} (hc : HotC X) (h : PGs X es t) (hK : X.K = K := by rfl) (nsC : (assignEach es X.env).length = n := by rfl) (hst : (assignEach es X.env).findIdx? (·.1) = none := by rfl) :
    PG X (.Tuple es k pos) (gTup K n t) := by
  subst hK
  refine ⟨fun pins s σ H v u Q I r ⟨a, xs, e1, hq, el, hw⟩ => ?_⟩
  subst e1
  cases r
  obtain ⟨xv, wx, ht, gz⟩ := I.tuple hq
  obtain ⟨x1, hot⟩ := hc.at I
  exact unpack_hot hot ht (by simp [nsC, ← el, wx.length]) hst fun h' hx => h.run pins _ σ H xs _ Q (I.kept (t' := s.toks) fun b o e => hx b o (Nat.ne_of_lt (Heap.lt_size e)) e) (by simpa using wx) hw
/-! ### the block of a comprehension, an exception being handled -/
abbrev blkH (X : Cx) (s : Shared) (H : Hp) (scope : Scope) (cenv : Env) (fp : List Addr) : Cx := { X.blk s H scope cenv fp with pn := X.pn }
theorem blk_up {X : Cx} {s : Shared} {H : Hp} {scope : Scope} {cenv : Env} {fp : List Addr} {σ : St} {Gz : Hp} {tz : Shared} (I : Inv (X.blk s H scope cenv fp) X.pn σ Gz tz) : Inv (blkH X s H scope cenv fp) [] σ Gz tz :=
  ⟨⟨I.ok.mod, I.ok.kind, I.ok.glob, I.ok.blt, I.ok.above, I.ok.inj, I.ok.has, I.ok.cab, I.ok.hd, I.ok.frames, I.ok.stk, I.ok.exf, I.ok.bs, I.ok.bsz, I.ok.noex, I.ok.exfs, I.ok.funs, I.ok.frf⟩,
    I.os, I.bare, I.base, I.loc, I.cell, I.free, I.freeC, fun p hp => I.pin p (by simpa using hp), I.hok, I.len⟩
theorem lcH {X : Cx} {pins : List (Addr × Obj)} {s : Shared} {σ : St} {H : Hp} {Q : VK} {elt tg iter : Expr} {ifs : List Expr} {scope : Scope} {own : List (Str × Nat)} {pos pos' : Pos} {wi : TI} {g : TG} {tt : TT} {te : TE}
    (hc : HotC X) (hN : X.N.Nodup) (I : Inv X pins σ H s) (hi : PIH X tg iter wi) (ok : BlkOk X.N X.env.scope scope own)
    (goes : ∀ (s : Shared) (H : Hp) (C : Addr) (cl : List (Str × Addr)) (fp : List Addr), PG (blkH X s H scope (compEnvC scope cl C X.env) fp) tg g) (ht : ∀ (s : Shared) (H : Hp) (C : Addr) (cl : List (Str × Addr)) (fp : List Addr), PTs (blkH X s H scope (compEnvC scope cl C X.env) fp) ifs tt)
    (he : ∀ (s : Shared) (H : Hp) (C : Addr) (cl : List (Str × Addr)) (fp : List Addr), PE (blkH X s H scope (compEnvC scope cl C X.env) fp) elt te) (hs : ∀ x, foldedSetIterable iter X.env x = pure x)
    (h : tLc wi g tt te (own.map (·.2)) σ H Q) :
    wpAny (model X.prog X.w) X.A (comprehension (.ListComp elt [⟨tg, iter, ifs, 0⟩] scope pos) scope X.env pos' (newList []) false (eval iter X.env) none) (EP X pins σ Q) X.xe s := by
  have caught : ∀ y ∈ scope.names, y.2 = .free → ∃ c, X.env.cells.lookup y.1 = some c := fun y hy e => (ok.free y hy e).elim (fun k => I.ok.has _ (.inl k)) fun k => I.ok.has _ (.inr k)
  refine wpAny_comprehension_free (use := none) rfl hs (closure_ok caught) ok.kind (fun y hy e => by rw [ok.uniq y hy, e]) (thn (hi.run pins s σ H _ I h) fun xv t1 hx => thn hx fun itv t2 ⟨it, fp, tn, J, G2, e, J2, T, on2, ap2, q⟩ => ?_)
  subst e
  refine wpAny_newObj_type (newEnv_comp ?_) (by show 0 ≤ sizeLine; decide)
  generalize eD : t2.heap.objs.size = D
  have newD : G2 D = none := J2.hok.fresh (Nat.le_of_eq eD)
  obtain ⟨W, ⟨mA, wA⟩, each⟩ := q D newD
  generalize e3 : ({ t2 with heap := t2.heap.push { cls := .type "list", data := .seq ([] : List Value).toArray } } : Shared) = t3
  have q3 : t3.heap = t2.heap.push { cls := .type "list", data := .seq ([] : List Value).toArray } := by rw [← e3]
  have J3 : Inv X pins σ (upd G2 D (.lst [])) t3 := by
    rw [← e3]
    refine J2.laid (t' := t2.toks) (fun b o e => Heap.get?_push_of_some _ e) (Nat.le_of_eq eD) ⟨Nat.zero_le _, [], 0, .nil, ?_⟩
    rw [← eD]
    exact Heap.get?_push_size _ rfl
  have ap3 : ∀ b ∈ fp, FpOk X pins (upd G2 D (.lst [])) b ∧ b < t3.heap.objs.size := fun b hb => by
    obtain ⟨o, e, _⟩ := T.obj _ _ on2 b hb
    have hlt := Heap.lt_size e
    refine ⟨⟨?_, (ap2 b hb).2⟩, by rw [q3, Heap.size_push]; exact Nat.lt_succ_of_lt hlt⟩
    rw [upd_ne (by rw [← eD]; exact Nat.ne_of_lt hlt)]
    exact (ap2 b hb).1
  have on3 : tn 0 t3.heap := T.keep _ _ _ on2 fun b _ o e => by rw [q3]; exact Heap.get?_push_of_some _ e
  have J4 := block_start J3 ok hN ap3
  have rg := goes t3 (upd G2 D (.lst [])) t3.heap.objs.size (cellsFrom (t3.heap.objs.size + 1) scope.names (cloFrom X.env.cells scope.names [])) fp
  have rt := ht t3 (upd G2 D (.lst [])) t3.heap.objs.size (cellsFrom (t3.heap.objs.size + 1) scope.names (cloFrom X.env.cells scope.names [])) fp
  have ev := he t3 (upd G2 D (.lst [])) t3.heap.objs.size (cellsFrom (t3.heap.objs.size + 1) scope.names (cloFrom X.env.cells scope.names [])) fp
  show codeAny _ _ (.compStart (.ListComp elt [⟨tg, iter, ifs, 0⟩] scope pos) 0 (.ref it) (.ref D) (compEnvC scope (cellsFrom (t3.heap.objs.size + 1) scope.names (cloFrom X.env.cells scope.names [])) t3.heap.objs.size X.env)) (compPost (model X.prog X.w) X.A X.xe none (EP X pins σ Q) (.ref D) t3.heap.objs.size) { t3 with heap := pushCells (t3.heap.push { cls := .type "dict", data := .dict #[] }) scope.names }
  have apN : ∀ b ∈ fp, (upd G2 D (.lst [])) b = none := fun b hb => (ap3 b hb).1.1
  generalize eC : compEnvC scope (cellsFrom (t3.heap.objs.size + 1) scope.names (cloFrom X.env.cells scope.names [])) t3.heap.objs.size X.env = ce at J4 rg rt ev ⊢
  have locC : ce.locals = t3.heap.objs.size := by subst eC; rfl
  generalize eG : upd G2 D (.lst []) = G3 at J3 J4 rg rt ev wA apN ap3
  generalize e4 : ({ t3 with heap := pushCells (t3.heap.push { cls := .type "dict", data := .dict #[] }) scope.names } : Shared) = t4 at J4 ⊢
  have up4 : ∀ b o, t3.heap.get? b = some o → t4.heap.get? b = some o := fun b o e => by rw [← e4]; exact pushCells_keeps _ _ _ _ (Heap.get?_push_of_some _ e)
  have on4 : tn 0 t4.heap := T.keep _ _ _ on3 fun b _ o e => up4 b o e
  have J5 : Inv (blkH X t3 G3 scope ce fp) [] (wipe σ (own.map (·.2))) G3 t4 := blk_up (J4.pins_of fun p hp => by
    have P1 := J3.pin p (List.mem_append_left _ hp)
    refine ⟨up4 _ _ P1.1, P1.2.1, ?_, fun lt1 => ?_, P1.2.2.2.2⟩
    · show p.1 ≠ ce.locals
      rw [locC]
      exact Nat.ne_of_lt (Heap.lt_size P1.1)
    · exact (List.mem_cons.mp (J3.stkSub p.1 lt1)).elim P1.2.2.1 P1.2.2.2.1)
  have hcB : HotC (blkH X t3 G3 scope ce fp) := hc
  have stat : ∀ {σ' : St} {Gz : Hp} {tz : Shared}, Inv (blkH X t3 G3 scope ce fp) [] σ' Gz tz → (∀ b ∈ fp, Gz b = none) → ∀ b ∈ fp, FpOk (blkH X t3 G3 scope ce fp) [] Gz b := fun {σ' Gz tz} Jn nsC b hb =>
    ⟨nsC b hb, (Jn.ok.exf b hb).1, Jn.ok.exfs b hb, .inl hb, fun x c e => (Jn.ok.exf b hb).2 x c e, fun p hp => (ap3 b hb).1.2.2.2.2.2 p (List.mem_append_left _ (by simpa using hp))⟩
  have loop : codeAny (model X.prog X.w) X.A (.compLoop (.ListComp elt [⟨tg, iter, ifs, 0⟩] scope pos) 0 (.ref it) (.ref D) ce) (compPost (model X.prog X.w) X.A X.xe none (EP X pins σ Q) (.ref D) t3.heap.objs.size) t4 := by
    refine compLoop_any (fun n tz => ∃ i Gz, Inv (blkH X t3 G3 scope ce fp) [] (wipe σ (own.map (·.2))) Gz tz ∧ tn i tz.heap ∧ (∀ b ∈ fp, Gz b = none) ∧ W i n Gz) ?_ mA ⟨0, G3, J5, on4, apN, wA⟩
    rintro n t5 ⟨i, G5, J5, on5, un5, wN⟩
    rcases each i n G5 wN with ⟨stop, qq⟩ | ⟨go, Nz, toN, step⟩
    · refine thnF (T.done (blkH X t3 G3 scope ce fp) rfl rfl rfl hcB i [] t5 _ G5 (fun _ _ => False) J5 (stat J5 un5) on5 stop) fun r t6 ⟨hr, J6⟩ => ?_
      subst hr
      have J7 : Inv X pins σ G5 t6 := J3.call' (ch := fp) J6.os J6.base J6.hok J6.bare fun b hb => ⟨(ap3 b hb).1.2.2.2.1, (ap3 b hb).1.2.1, (ap3 b hb).1.2.2.2.2.1, (ap3 b hb).1.2.2.2.2.2⟩
      have frC : G5 t3.heap.objs.size = none := by
        have z : G5 ce.locals = none := J6.free
        rw [locC] at z
        exact z
      obtain ⟨m, nsC, _⟩ := J6.loc
      have nsC : t6.heap.Ns ce.locals m := nsC
      rw [locC] at nsC
      have f : FpOk X pins G5 t3.heap.objs.size := J3.fpOk (Nat.le_refl _) frC
      exact ⟨m, nsC, fun h'' but => ⟨.ref D, G5, J7.turned (t' := t6.toks) (fun b o hb e => (but.2 b hb).trans e) f.1 f.2.1 f.2.2.2.1 f.2.2.2.2.1 f.2.2.2.2.2, rfl, qq⟩⟩
    · refine thnF (T.item (blkH X t3 G3 scope ce fp) rfl rfl rfl hcB i [] t5 _ G5 (fun _ _ => False) J5 (stat J5 un5) on5 go) fun r t6 ⟨u, hr, h6⟩ => ?_
      subst hr
      refine thnF h6 fun _ t7 ⟨x, G7, J7, rel7, got7, on7, un7⟩ => ?_
      have J7p := J7.pinned (stat J7 un7) (T.obj _ _ on7)
      refine thnF (rg.run _ t7 _ G7 x u _ J7p rel7 (step x G7 got7)) fun _ t8 ⟨σ8, G8, J8, same8, k8⟩ => ?_
      refine thnF (rt.run _ t8 σ8 G8 _ J8 k8) fun b t9 ⟨G9, J9, k9⟩ => ?_
      have end1 : ∀ {tz : Shared} {Gz : Hp}, Inv (blkH X t3 G3 scope ce fp) ([] ++ pinsAt fp t7.heap) σ8 Gz tz → Nz Gz → ∃ m, m < n ∧ ∃ i Gz, Inv (blkH X t3 G3 scope ce fp) [] (wipe σ (own.map (·.2))) Gz tz ∧ tn i tz.heap ∧ (∀ b ∈ fp, Gz b = none) ∧ W i m Gz := fun {tz Gz} Jn nz => by
        obtain ⟨m1, lt1, w1⟩ := toN Gz nz
        have held : ∀ b ∈ fp, ∀ o, t7.heap.get? b = some o → tz.heap.get? b = some o ∧ Gz b = none := fun b hb o e =>
          let z := Jn.pin (b, o) (List.mem_append_right _ (List.mem_append_right _ (mem_pinsAt hb e)))
          ⟨z.1, z.2.1⟩
        refine ⟨m1, lt1, i + 1, Gz, (Jn.unpinned (pins := [])).weak (by rw [← same8, wipe_length]) (fun j v e => ?_), T.keep _ _ _ on7 fun b hb o e => (held b hb o e).1, fun b hb => ?_, w1⟩
        · rw [← same8] at e
          exact (wipe_some e).1
        · obtain ⟨o, e, _⟩ := T.obj _ _ on7 b hb
          exact (held b hb o e).2
      cases b with
      | false =>
        simp only [Bool.false_eq_true, if_false] at k9 ⊢
        exact end1 J9 k9
      | true =>
        simp only [if_true] at k9 ⊢
        refine thnF (ev.run _ t9 σ8 G9 _ J9 k9) fun z t10 ⟨yw, G10, J10, rel10, acc, at10, len10, nz⟩ => ?_
        exact app_ok (X := blkH X t3 G3 scope ce fp) J10 at10 len10 rel10 fun t11 J11 => end1 J11 nz
  exact codeAny_compStart_list loop (T.self X.A 0 _ _ _ on4 loop)
theorem pe_lcH {X : Cx} {elt tg iter : Expr} {ifs : List Expr} {scope : Scope} {own : List (Str × Nat)} {pos : Pos} {wi : TI} {g : TG} {tt : TT} {te : TE} (hc : HotC X) (hN : X.N.Nodup) (hi : PIH X tg iter wi) (ok : BlkOk X.N X.env.scope scope own)
    (goes : ∀ (s : Shared) (H : Hp) (C : Addr) (cl : List (Str × Addr)) (fp : List Addr), PG (blkH X s H scope (compEnvC scope cl C X.env) fp) tg g) (ht : ∀ (s : Shared) (H : Hp) (C : Addr) (cl : List (Str × Addr)) (fp : List Addr), PTs (blkH X s H scope (compEnvC scope cl C X.env) fp) ifs tt)
    (he : ∀ (s : Shared) (H : Hp) (C : Addr) (cl : List (Str × Addr)) (fp : List Addr), PE (blkH X s H scope (compEnvC scope cl C X.env) fp) elt te) (hs : ∀ x, foldedSetIterable iter X.env x = pure x := by intro _; rfl) :
    PE X (.ListComp elt [⟨tg, iter, ifs, 0⟩] scope pos) (tLc wi g tt te (own.map (·.2))) := by
  refine ⟨fun pins s σ H Q I h => ?_⟩
  rw [eval_ListComp]
  exact lcH hc hN I hi ok goes ht he hs h
end K2H

namespace K2
open PySem PySem.Spec PyProof.Rows L2 HotX L2H K2H
open Evl (Ex)
set_option Elab.async false
set_option linter.all false
set_option maxRecDepth 100000
set_option maxHeartbeats 4000000
/-! ### the name of a caught error -/
def ten : List (Str × Str) := [("InvalidOrder", "order"), ("InvalidMany", "many"), ("InvalidExchange", "exchange"), ("InvalidRow", "row"), ("InvalidPairs", "pairs"), ("InvalidCode", "code"), ("InvalidNumber", "number"), ("InvalidRings", "rings"), ("Unlike", "unlike"), ("TooMany", "toomany")]
def four : List (Str × Str) := [("InvalidOrder", "order"), ("InvalidMany", "many"), ("InvalidExchange", "exchange"), ("InvalidRow", "row")]
/-- what the top has left of the classes -/
structure Top2 (K : PySem.W.Frag) (mg : Str → Option Value) : Prop where
  cls : ∀ p ∈ ten, ∃ D, mg p.1 = some (.ref D)
  raised : ∀ p ∈ four, ∀ C, mg p.1 = some (.ref C) → ExcC K C ∧ ∀ q ∈ ten, ∀ D, mg q.1 = some (.ref D) → PySem.W.kitOne K (.ref C) (.ref D) = some (decide (q.2 = p.2))
  oe : ∃ D, mg "OrderError" = some (.ref D) ∧ ∀ p ∈ four, ∀ C, mg p.1 = some (.ref C) → PySem.W.exmOne K (.ref C) (.ref D) = some true
def NameOf (mg : Str → Option Value) (cls : Value) (nm : Str) : Prop := ∃ p ∈ four, ∃ C, p.2 = nm ∧ cls = .ref C ∧ mg p.1 = some (.ref C)
theorem call_isP {X : Cx} {p : Addr × Obj} {C : Addr} (EC : ExcC X.K C) (hp : p ∈ X.pn) (hc : p.2.cls = .ref C) (hd : p.2.dict = none) (hf : ∃ vs, p.2.data = .fields vs) : CallR X (.builtin "isinstance") (rIsE X.K C p.1) := by
  intro pins s σ H xs us Q I r h
  obtain ⟨c, cv, b, rfl, hcv, e, q⟩ := h
  cases r with
  | cons rx rr =>
    cases rr with
    | cons rt rr =>
      cases rr
      cases rx
      have ec := hcv _ rt
      subst ec
      obtain ⟨hget, _⟩ := I.pin p (List.mem_append_left _ hp)
      obtain ⟨vs, hv⟩ := hf
      have J : PySem.W.InstAt s.heap p.1 p.2 C none := by
        obtain ⟨pa, oc, od, oda, osl⟩ := p
        dsimp only at hc hd hv
        subst hc hd hv
        exact ⟨hget, rfl, rfl, trivial⟩
      exact PySem.W.kia_one (PySem.W.handS_kitx_exc EC.hg EC.hk EC.hs EC.hd EC.ha EC.hn EC.ht EC.hm) I.kIn J e (fun z => nomatch z) fun tk => ⟨.bl b, H, I.kept (t' := tk) fun _ _ z => z, rfl, q⟩
theorem cg_isE {K : PySem.W.Frag} {C a D : Addr} {H : Hp} {b : Bool} (e : PySem.W.kitOne K (.ref C) (.ref D) = some b) : CbG (rIsE K C a) [isV (.ref a), isV (.ref D)] H (isV (.bl b)) := fun H1 _ vs hvs Q q => by
  obtain ⟨x, y, rfl, h1, h2⟩ := all2 hvs
  rw [show x = V.ref a from h1, show y = V.ref D from h2]
  exact ⟨.ref D, .ref D, b, rfl, fun u r => r, e, q _ H1 (Ex.refl H1) rfl⟩
section
variable {K : PySem.W.Frag} {σ σ2 : L2.St} {H H' : Hp} {te tl : TE} {t : TT} {f : Nat → Bool} {Rv : Nat → Is} {d : Addr} {i j j' : Nat}
theorem eg_lcZ {ta : TA} {vs : List Nat} {xs ys : List V} (f : Nat → Bool) (Rv : Nat → Is) (firm : ∀ k, Firm (Rv k)) (h : EvAs ta σ H [isL K xs, isL K ys]) (hl : xs.length = ys.length) (hz : xs.length ≤ 40000) (hw : ∀ x y, wipe (((wipe σ vs).set j (some x)).set j' (some y)) vs = wipe σ vs)
    (ht : ∀ (i : Nat) (x y : V) H1, Ex H H1 → xs[i]? = some x → ys[i]? = some y → EvB t (((wipe σ vs).set j (some x)).set j' (some y)) H1 (f i))
    (he : ∀ (i : Nat) (x y : V) H1, Ex H H1 → xs[i]? = some x → ys[i]? = some y → f i = true → EvG te (((wipe σ vs).set j (some x)).set j' (some y)) H1 (Rv i)) :
    EvG (tLc (iZipF K ta) (gTwo K j j') t te vs) σ H (isLs K (kept xs.length f Rv)) := fun H0 e Q q => h H0 e _ fun us H1 e1 hus => by
  obtain ⟨v, u, rfl, ⟨a, rfl, hx⟩, ⟨b, rfl, hy⟩⟩ := all2 hus
  refine ⟨a, b, xs, ys, rfl, hx, hy, fun D hD => ⟨fun i m H' => m = xs.length - i ∧ i ≤ xs.length ∧ Cwd H1 f Rv D i H', ⟨_, rfl, Nat.zero_le _, cwd_start hD⟩, fun i m H' ⟨hm, hi, p⟩ => ?_⟩⟩
  have hqx : SqL K H' a xs := Evl.ex_l p.2.1 hx
  have hqy : SqL K H' b ys := Evl.ex_l p.2.1 hy
  by_cases hlt : i < xs.length
  · have hxi : xs[i]? = some xs[i] := List.getElem?_eq_getElem hlt
    have hyi : ys[i]? = some (ys[i]'(by omega)) := List.getElem?_eq_getElem _
    refine .inr ⟨⟨xs, ys, _, _, hqx, hqy, hxi, hyi⟩, fun H2 => Cwd H1 f Rv D (i + 1) H2, fun H2 c => ⟨xs.length - (i + 1), by omega, rfl, hlt, c⟩, fun u H2 ⟨tt, x, y, e1', nt, e2', hallx, hally⟩ => ?_⟩
    subst e1' e2'
    have ex := hallx xs hqx
    have ey := hally ys hqy
    exact g_two (.inl (.inl upd_same)) ⟨hw _ _, cwd_turn firm (p.new nt) (by omega) (ht i _ _ H1 (e.trans e1) ex ey) (fun hf => he i _ _ H1 (e.trans e1) ex ey hf)⟩
  · have ei : i = xs.length := by omega
    subst ei
    obtain ⟨p1, p2, acc, p3, p4⟩ := p
    exact .inl ⟨⟨xs, ys, hqx, hqy, Nat.le_refl _⟩, q _ H' (e1.trans p2) ⟨D, acc, rfl, p3, p4⟩⟩
theorem eg_split {to te : TE} {a b : Str} {ys : List Str} (ho : EvG to σ H (isV (.str a))) (he : EvG te σ H (isV (.str b))) (hb : (b.length == 0) = false) (hz : a.length + 2 ≤ 100000) (hy : Txt.split a b = ys) :
    EvG (tM1 (fun x xs H Q => ∃ a b, x = .str a ∧ xs = [.str b] ∧ (b.length == 0) = false ∧ a.length + 2 ≤ sizeLine ∧ rNewStrs (Txt.split a b) H Q) to te) σ H (isL K (ys.map V.str)) := fun H1 e Q q =>
  ho H1 e _ fun v H2 e2 hv => ⟨⟨a, hv⟩, he H2 (e.trans e2) _ fun u H3 e3 hu => ⟨a, b, hv, by rw [show u = V.str b from hu], hb, Evl.sz_of hz, fun p hp => q _ _ ((e2.trans e3).trans (Ex.new hp)) ⟨p, rfl, by rw [hy]; exact .inl (.inl upd_same)⟩⟩⟩
theorem eg_join1 {to te : TE} {a b : Str} (ho : EvG to σ H (isV (.str a))) (he : EvG te σ H (isL K [V.str b])) (hz : b.length + a.length ≤ 16777216) (hj : Txt.join a [b] = b) :
    EvG (tM1 (fun x xs H Q => ∃ a p, ∃ ys : List Str, x = .str a ∧ xs = [.ref p] ∧ (SqL K H p (ys.map V.str) ∨ SqT K H p (ys.map V.str)) ∧ (ys.map (·.length)).sum + ys.length * a.length ≤ 16777216 ∧ Q (.str (Txt.join a ys)) H) to te) σ H (isV (.str b)) := fun H1 e Q q =>
  ho H1 e _ fun v H2 e2 hv => ⟨⟨a, hv⟩, he H2 (e.trans e2) _ fun u H3 e3 ⟨p, hp, hs⟩ => ⟨a, p, [b], hv, by rw [hp], .inl hs, by simpa using hz, by rw [hj]; exact q _ H3 (e2.trans e3) rfl⟩⟩
end
/-- what _law_name promises -/
structure FnE (P : Program) (w : World) (K : PySem.W.Frag) (mg : Str → Option Value) (base : Heap) (k : Nat) (f : Addr) (fd : FuncData) : Prop where
  run : ∀ (A : Around) (outer : List Env) (s : Shared) (H : Hp) (args : Args) (us : List Value) (Q : VK) (p : Addr × Obj) (nm : Str), RoomH k A → Hot1 A p → NameOf mg p.2.cls nm → p.2.dict = none → PinOk outer H s p → Env0 P w K mg base A outer s H →
    BindsTo s fd args ((["_law_e"] : List Str).zip us) → Vals [.ref p.1] us → (∀ H2, Ex H H2 → Q (.str nm) H2) → codeAny (model P w) A (.call (.ref f) args) (CR CX0 outer P w H s Q E0) s
abbrev nName : List Str := ["_law_e", "_law_some", "_law_labels", "_law_label", "_law_good"]
theorem sc50 : FnScope nName ["_law_e"] (defScope (topS 50)) := ⟨rfl, rfl, rfl, by decide +kernel, rfl, by decide +kernel, by decide +kernel⟩
def labs : List Str := ten.map (·.2)
theorem split_labs : Txt.split "order many exchange row pairs code number rings unlike toomany" " " = labs := by decide +kernel
section
variable {P : Program} {w : World} {K : PySem.W.Frag} {mg : Str → Option Value} {base : Heap}
theorem pick {xs : List V} {n : Str} (h : xs = (ten.map fun p => V.bl (decide (p.2 = n)))) : xs.length = 10 := by rw [h]; rfl
/-- the body -/
theorem name_body (T : Top K mg) (T2 : Top2 K mg) (f : Addr) (cdv : Value) (A : Around) (outer : List Env) (s : Shared) (H : Hp) (Q : VK) (p : Addr × Obj) (nm : Str) (hot : Hot1 A p) (hn : NameOf mg p.2.cls nm) (hd : p.2.dict = none) (q : ∀ H2, Ex H H2 → Q (.str nm) H2) :
    ∃ t, PSs (cxH CX0 P w K mg base nName "_law_name" (defScope (topS 50)) f cdv A outer s H E0 p) (defBody (topS 50)) t ∧ t { nx := fun _ H' => Q .non H', rt := Q } (L2.start nName [.ref p.1]) H := by
  obtain ⟨⟨cn, nn⟩, hp4, C, en, ec, eg⟩ := hn
  dsimp only at en eg
  subst en
  obtain ⟨EC, kt⟩ := T2.raised _ hp4 C eg
  have hf : ∃ vs, p.2.data = .fields vs := let ⟨_, vs, e, _⟩ := hot; ⟨vs, e⟩
  have hot' : Hot1 A p := hot
  have hc : HotC (cxH CX0 P w K mg base nName "_law_name" (defScope (topS 50)) f cdv A outer s H E0 p) := ⟨p, hot', List.mem_singleton.mpr rfl⟩
  have isi : CallR (cxH CX0 P w K mg base nName "_law_name" (defScope (topS 50)) f cdv A outer s H E0 p) (.builtin "isinstance") (rIsE K C p.1) := call_isP EC (List.mem_singleton.mpr rfl) ec hd hf
  obtain ⟨D0, g0⟩ := T2.cls ("InvalidOrder", "order") (by decide)
  obtain ⟨D1, g1⟩ := T2.cls ("InvalidMany", "many") (by decide)
  obtain ⟨D2, g2⟩ := T2.cls ("InvalidExchange", "exchange") (by decide)
  obtain ⟨D3, g3⟩ := T2.cls ("InvalidRow", "row") (by decide)
  obtain ⟨D4, g4⟩ := T2.cls ("InvalidPairs", "pairs") (by decide)
  obtain ⟨D5, g5⟩ := T2.cls ("InvalidCode", "code") (by decide)
  obtain ⟨D6, g6⟩ := T2.cls ("InvalidNumber", "number") (by decide)
  obtain ⟨D7, g7⟩ := T2.cls ("InvalidRings", "rings") (by decide)
  obtain ⟨D8, g8⟩ := T2.cls ("Unlike", "unlike") (by decide)
  obtain ⟨D9, g9⟩ := T2.cls ("TooMany", "toomany") (by decide)
  have b0 := T.b "isinstance" (by decide)
  refine ⟨_, pss_cons (ps_set (i := 1) sc50.nd rfl (.inl rfl) (pe_lst (pa_cons (pe_callB isi (by rfl) b0 (by decide +kernel) (pa_cons (pv 0) (pa_cons (pe_glob (v := .ref D0) (by rfl) g0 rfl) pa_nil))) (pa_cons (pe_callB isi (by rfl) b0 (by decide +kernel) (pa_cons (pv 0) (pa_cons (pe_glob (v := .ref D1) (by rfl) g1 rfl) pa_nil)))
      (pa_cons (pe_callB isi (by rfl) b0 (by decide +kernel) (pa_cons (pv 0) (pa_cons (pe_glob (v := .ref D2) (by rfl) g2 rfl) pa_nil))) pa_nil)))))
    (pss_cons (ps_set (i := 1) sc50.nd rfl (.inl rfl) (pe_op op_cat (pv 1) (pe_lst (pa_cons (pe_callB isi (by rfl) b0 (by decide +kernel) (pa_cons (pv 0) (pa_cons (pe_glob (v := .ref D3) (by rfl) g3 rfl) pa_nil))) (pa_cons (pe_callB isi (by rfl) b0 (by decide +kernel) (pa_cons (pv 0) (pa_cons (pe_glob (v := .ref D4) (by rfl) g4 rfl) pa_nil)))
      (pa_cons (pe_callB isi (by rfl) b0 (by decide +kernel) (pa_cons (pv 0) (pa_cons (pe_glob (v := .ref D5) (by rfl) g5 rfl) pa_nil))) pa_nil))))))
    (pss_cons (ps_set (i := 1) sc50.nd rfl (.inl rfl) (pe_op op_cat (pv 1) (pe_lst (pa_cons (pe_callB isi (by rfl) b0 (by decide +kernel) (pa_cons (pv 0) (pa_cons (pe_glob (v := .ref D6) (by rfl) g6 rfl) pa_nil))) (pa_cons (pe_callB isi (by rfl) b0 (by decide +kernel) (pa_cons (pv 0) (pa_cons (pe_glob (v := .ref D7) (by rfl) g7 rfl) pa_nil)))
      (pa_cons (pe_callB isi (by rfl) b0 (by decide +kernel) (pa_cons (pv 0) (pa_cons (pe_glob (v := .ref D8) (by rfl) g8 rfl) pa_nil))) pa_nil))))))
    (pss_cons (ps_set (i := 1) sc50.nd rfl (.inl rfl) (pe_op op_cat (pv 1) (pe_lst (pa_cons (pe_callB isi (by rfl) b0 (by decide +kernel) (pa_cons (pv 0) (pa_cons (pe_glob (v := .ref D9) (by rfl) g9 rfl) pa_nil))) pa_nil))))
    (pss_cons (ps_set (i := 2) sc50.nd rfl (.inl rfl) (pe_split pe_str pe_str))
    (pss_one (ps_ret (pe_join pe_str (pe_lcH (own := [("_law_label", 3), ("_law_good", 4)]) (g := gTwo K 3 4) hc sc50.nd (pi_zipH (by rfl) (T.b "zip" (by decide)) (pa_cons (pv 2) (pa_cons (pv 1) pa_nil)))
      (blkOk_by (N := nName) (sc := defScope (topS 50)) (own := [("_law_label", 3), ("_law_good", 4)]) (by decide +kernel))
      (fun _ _ _ _ _ => pg_tupH K hc (pgs_cons (pg_name (i := 3) sc50.nd rfl (.inl rfl)) (pgs_cons (pg_name (i := 4) sc50.nd rfl (.inl rfl)) pgs_nil)))
      (fun _ _ _ _ _ => pts_one (pt_val (pv 4))) (fun _ _ _ _ _ => pv 3))))))))), ?_⟩
  have is : ∀ (q : Str × Str) (D : Addr), q ∈ ten → mg q.1 = some (.ref D) → ∀ {H1 : Hp} {σ : L2.St}, σ[0]? = some (some (.ref p.1)) → EvG (tCB (rIsE K C p.1) (tCons (tVar 0) (tCons (tC (.ref D)) tNil))) σ H1 (isV (.bl (decide (q.2 = nn)))) := fun q D hq g H1 σ hσ =>
    eg_cb (as_cons (eg_v hσ) (as_cons eg_c as_nil)) (cg_isE (kt q hq D g))
  let bl : List (Str × Str) → List Is := fun l => (l.map fun q => V.bl (decide (q.2 = nn))).map isV
  refine q_asg (R := isLs K (bl (ten.take 3))) (eg_lst (Rs := bl (ten.take 3)) (as_cons (is _ D0 (by decide) g0 rfl) (as_cons (is _ D1 (by decide) g1 rfl) (as_cons (is _ D2 (by decide) g2 rfl) as_nil))) (by show 3 ≤ 100000; decide)) fun v1 H1 e1 hv1 => ?_
  refine q_asg (R := isLs K (bl (ten.take 6))) (eg_op (R1 := isLs K (bl (ten.take 3))) (eg_var rfl hv1) (eg_lst (Rs := bl ((ten.drop 3).take 3)) (as_cons (is _ D3 (by decide) g3 rfl) (as_cons (is _ D4 (by decide) g4 rfl) (as_cons (is _ D5 (by decide) g5 rfl) as_nil))) (by show 3 ≤ 100000; decide)) (og_catL (by show 3 + 3 ≤ 100000; decide))) fun v2 H2 e2 hv2 => ?_
  refine q_asg (R := isLs K (bl (ten.take 9))) (eg_op (R1 := isLs K (bl (ten.take 6))) (eg_var rfl hv2) (eg_lst (Rs := bl ((ten.drop 6).take 3)) (as_cons (is _ D6 (by decide) g6 rfl) (as_cons (is _ D7 (by decide) g7 rfl) (as_cons (is _ D8 (by decide) g8 rfl) as_nil))) (by show 3 ≤ 100000; decide)) (og_catL (by show 6 + 3 ≤ 100000; decide))) fun v3 H3 e3 hv3 => ?_
  refine q_asg (R := isLs K (bl ten)) (eg_op (R1 := isLs K (bl (ten.take 9))) (eg_var rfl hv3) (eg_lst (Rs := bl (ten.drop 9)) (as_cons (is _ D9 (by decide) g9 rfl) as_nil) (by show 1 ≤ 100000; decide)) (og_catL (by show 9 + 1 ≤ 100000; decide))) fun v4 H4 e4 hv4 => ?_
  refine q_asg (eg_split (K := K) eg_c eg_c rfl (by decide) split_labs) fun v5 H5 e5 hv5 => ?_
  have hv4' : (isL K (ten.map fun q => V.bl (decide (q.2 = nn)))).p v4 H5 := (isL K _).st _ _ _ e5 (isLs_L hv4)
  refine s_ret (eg_join1 eg_c (EvG.L (xs := [V.str nn]) (EvG.imp (eg_lcZ (K := K) (xs := labs.map V.str) (ys := ten.map fun q => V.bl (decide (q.2 = nn))) (fun i => decide ((ten.getD i ("", "")).2 = nn)) (fun i => isV (.str (ten.getD i ("", "")).2)) (fun _ => firm_V)
    (as_cons (eg_var rfl hv5) (as_cons (eg_var rfl hv4') as_nil)) rfl (by decide) (fun _ _ => rfl) (fun i x y H6 e6 hx hy => ?_) (fun i x y H6 e6 hx hy _ => ?_)) fun v6 H6 e6 hv6 => ?_)) ?_ ?_) fun v7 H7 e7 hv7 => ?_
  · rw [List.getElem?_map] at hy
    obtain ⟨u, hu, rfl⟩ := Option.map_eq_some_iff.mp hy
    rw [getD_of hu]
    exact eb_B (eg_v rfl)
  · rw [List.getElem?_map, labs, List.getElem?_map] at hx
    obtain ⟨u, hu, rfl⟩ := Option.map_eq_some_iff.mp hx
    obtain ⟨u2, hu2, rfl⟩ := Option.map_eq_some_iff.mp hu
    rw [getD_of hu2]
    exact eg_v rfl
  · have ek : kept (labs.map V.str).length (fun i => decide ((ten.getD i ("", "")).2 = nn)) (fun i => isV (.str (ten.getD i ("", "")).2)) = [V.str nn].map isV := by
      have h4 : (cn, nn) = (("InvalidOrder", "order") : Str × Str) ∨ (cn, nn) = (("InvalidMany", "many") : Str × Str) ∨ (cn, nn) = (("InvalidExchange", "exchange") : Str × Str) ∨ (cn, nn) = (("InvalidRow", "row") : Str × Str) := by
        unfold four at hp4
        rcases List.mem_cons.mp hp4 with h | h
        · exact .inl h
        · rcases List.mem_cons.mp h with h | h
          · exact .inr (.inl h)
          · rcases List.mem_cons.mp h with h | h
            · exact .inr (.inr (.inl h))
            · exact .inr (.inr (.inr (List.mem_singleton.mp h)))
      rcases h4 with h | h | h | h <;> cases h <;> rfl
    rw [ek] at hv6
    exact hv6
  · have h4 : nn ∈ four.map (·.2) := List.mem_map.mpr ⟨_, hp4, rfl⟩
    have hz : ∀ x ∈ four.map (·.2), x.length + (" " : Str).length ≤ 16777216 := by decide +kernel
    exact hz nn h4
  · have h4 : nn ∈ four.map (·.2) := List.mem_map.mpr ⟨_, hp4, rfl⟩
    have hz : ∀ x ∈ four.map (·.2), Txt.join " " [x] = x := by decide +kernel
    exact hz nn h4
  · show Q v7 H7
    rw [show v7 = V.str nn from hv7]
    exact q H7 (((((e1.trans e2).trans e3).trans e4).trans e5).trans e7)
end
end K2

namespace K2
open PySem PySem.Spec PyProof.Rows L2 HotX L2H K2H
open Evl (Ex)
set_option Elab.async false
set_option linter.all false
set_option maxRecDepth 100000
set_option maxHeartbeats 4000000
/-- _law_name as it stands behind the top -/
def ClE (P : Program) (w : World) (K : PySem.W.Frag) (mg : Str → Option Value) (base : Heap) : Prop := ∃ (f : Addr) (fd : FuncData), FnE P w K mg base 1 f fd ∧ mg "_law_name" = some (.ref f) ∧ PySem.W.keepIn K (.ref f) = true ∧ Binds K fd ["_law_e"] []
section
variable {P : Program} {w : World} {K : PySem.W.Frag} {mg : Str → Option Value} {base : Heap}
theorem cl_name (T : Top K mg) (T2 : Top2 K mg) : ClE P w K mg base := by
  obtain ⟨f, fd, F, g⟩ := T.d (50, "_law_name") (by decide)
  refine ⟨f, fd, ⟨fun A outer s H args us Q p nm hr hot hn hd hpin e0 hb r q => ?_⟩, g, F.kp, F.binds (fun _ _ _ _ _ _ us hl => match us, hl with | [_], _ => rfl)⟩
  obtain ⟨oc, od, kV, doc, pm, an, cdv, ct, osl, rfl, lk, hcd⟩ := F.ex
  have S : FnScope nName ["_law_e"] (defScope (topS 50)) := sc50
  have KX : K.In s.heap := e0.mod.kin.keeps fun b o e => (e0.bs b o e).1
  have lim : s.heap.NoLimit := e0.mod.nolimit.keeps fun b o e => (e0.bs b o e).1
  have hkind : ∀ y ∈ (["_law_e"] : List Str).zip us, (defScope (topS 50)).names.lookup y.1 = some .local ∨ ((defScope (topS 50)).names.lookup y.1 = some .cell ∧ ((cellsFrom (s.heap.objs.size + 1) (defScope (topS 50)).names []).lookup y.1).isSome = true) := fun ⟨n, v⟩ hy => (S.par n (List.of_mem_zip hy).1).elim .inl fun z => .inr ⟨z, PySem.W.cellsFrom_some _ _ _ (.inl z)⟩
  refine codeAny_call_function hr.depth (KX _ _ lk) rfl S.co S.gen rfl (PySem.W.codeRec_of KX hcd) (hb _ _ _ _ ?_)
  refine wpAny_newFunctionEnv_cells S.kind hkind fun env he s1 x => ?_
  subst he
  refine ⟨lim.keeps x.toInCall.keep, codeAny_func ?_⟩
  obtain ⟨t, ht, hq⟩ := name_body (P := P) (w := w) (base := base) T T2 f cdv A outer s H Q p nm hot hn hd q
  have I := inv_startH (CX := CX0) (E := E0) S hpin e0 rfl r x
  refine wpAny_mono (ht.run [] s1 (L2.start nName [V.ref p.1]) H _ I hq) (fun fl s' hs => ?_) fun e s' hs => hs
  cases fl with
  | ret u =>
    obtain ⟨v, σ', H', J, rv, z⟩ := hs
    exact ⟨v, H', J.os, J.bare, J.base, J.hok, rv, z⟩
  | next =>
    obtain ⟨σ', H', J, z⟩ := hs
    exact ⟨.non, H', J.os, J.bare, J.base, J.hok, rfl, z⟩
  | brk => exact hs.elim fun _ h => h.elim fun _ h => h.2.elim
  | cont => exact hs.elim fun _ h => h.elim fun _ h => h.2.elim
end
/-- its call in the suite that holds the error -/
def tNm (mg : Str → Option Value) (i : Nat) (a : Addr) (cls : Value) (d : Option Addr) : TE := fun σ H Q => σ[i]? = some (some (.ref a)) ∧ d = none ∧ ∃ nm, NameOf mg cls nm ∧ ∀ H2, Ex H H2 → Q (.str nm) H2
theorem pe_name {X : Cx} {a : Addr} {oe : Obj} {cls : Value} {d : Option Addr} {pn : List (Addr × Obj)} {i : Nat} {p p2 pos : Pos} (c : ClE X.prog X.w X.K X.mg X.base) (hr : Room 1 X.A) (hz : L2N.Zn cls d oe) (hf : ∃ vs, oe.data = .fields vs) (hg : Gl X "_law_name")
    (he : PE (X.suite a ((a, oe) :: pn)) (.Name "_law_e" p2) (tVar i)) : PE (X.suite a ((a, oe) :: pn)) (.Call (.Name "_law_name" p) [.Name "_law_e" p2] [] pos) (tNm X.mg i a cls d) := by
  obtain ⟨f, fd, F, g, kp, b⟩ := c
  refine ⟨fun pins s σ H Q I h => ?_⟩
  obtain ⟨hσ, hd, nm, hn, q⟩ := h
  refine wpAny_Call_Name_kw (ld_glob (X := X.suite a ((a, oe) :: pn)) I hg g ?_ (by decide))
  refine PySem.W.callWith_K (h₀ := X.base) I.ok.mod.kin kp (thn ((pa_cons he pa_nil).run pos pins s σ H (fun vs H1 => vs = [V.ref a] ∧ H1 = H) I ⟨.ref a, hσ, rfl, rfl⟩) fun us s1 ⟨vs, H1, I1, r, ev, eH⟩ => ⟨I1.kIn, ?_⟩) rfl rfl
  subst ev eH
  have hb := b s1 us I1.kIn (by rw [List.append_nil, ← r.length]; rfl)
  rw [List.append_nil] at hb
  have P1 := I1.pin (a, oe) (List.mem_append_left _ List.mem_cons_self)
  have hpin : PinOk X.stack H1 s1 (a, oe) := ⟨P1.1, P1.2.1, fun hm => (List.mem_cons.mp (I1.stkSub a hm)).elim P1.2.2.1 P1.2.2.2.1, P1.2.2.2.2⟩
  obtain ⟨vs, hv⟩ := hf
  refine wpAny_call (codeAny_mono (F.run (X.suite a ((a, oe) :: pn)).A X.stack s1 H1 ⟨us, []⟩ us Q (a, oe) nm ⟨hr.dp, hr.un⟩ ⟨rfl, vs, hv, hz.2.2 vs hv⟩ (by rw [show (a, oe).2.cls = cls from hz.1]; exact hn) (hz.2.1.trans hd) hpin I1.env0 hb r q) fun r s' hq => ?_)
  cases r with
  | error e => exact False.elim hq
  | ok fl =>
    cases fl with
    | ret u => exact I1.after hq
    | next => exact False.elim hq
    | brk => exact False.elim hq
    | cont => exact False.elim hq
end K2

namespace K2
open PySem PySem.Spec PyProof.Rows L2 HotX L2H K2H LamX NdefX
open Evl (Ex)
set_option Elab.async false
set_option linter.all false
set_option maxRecDepth 100000
set_option maxHeartbeats 4000000
/-! ### a lambda with parameters: its call -/
structure Rdy (F : NF) (body : Expr) (fr : List Str) (ws : List (Option V)) (f : Addr) (h : Heap) (H : Hp) : Prop where
  fo : ∃ pm ctv, h.get? f = some (PySem.W.kla_obj F.name F.qual F.params body F.scope F.cl pm F.c ctv)
  fn : H f = none
  co : H F.c = some (CodeO F.c F.qual)
  ce : CellsAt F.cl fr ws h H
theorem lam_call {P : Program} {w : World} {K : PySem.W.Frag} {mg : Str → Option Value} {base : Heap} {k : Nat} {N ps fr : List Str} {F : NF} {f : Addr} {body : Expr} {t : XK → TE} {A : Around} {outer : List Env} {s : Shared} {H : Hp} {us : List Value} {vs : List V} {ws : List (Option V)} {Q : VK} {E : XK}
    (S : NScope N ps fr F.scope) (hb : ∀ (pm ctv : Value) (us : List Value), us.length = ps.length → bindArgs (PySem.W.kla_fn F.name F.qual F.params body F.scope F.cl pm (.ref F.c) ctv) ⟨us, []⟩ = pure (ps.zip us))
    (hbody : Room k (A.deeper (envF F f s.heap.objs.size)) → PE (ncx (L2N.CX P w) P w K mg base N F f A outer s H E) body (t E)) (hr : Room (k + 1) A) (e0 : Env0 P w K mg base A outer s H) (R : Rdy F body fr ws f s.heap H) (hl : vs.length = ps.length) (r : Vals vs us) (q : t E (startF N vs ws) H Q) :
    codeAny (model P w) A (.call (.ref f) ⟨us, []⟩) (CR (L2N.CX P w) outer P w H s Q E) s := by
  have lim : s.heap.NoLimit := e0.mod.nolimit.keeps fun b o e => (e0.bs b o e).1
  obtain ⟨pm, ctv, ho⟩ := R.fo
  refine PySem.W.kla_callFunE hr.depth ho rfl S.co S.gen rfl (codeO_at e0.hok R.co) ?_
  rw [hb pm ctv us (by rw [← r.length]; exact hl)]
  refine wpAny_pure (wpAny_newFunctionEnv S.nocell (fun ⟨n, _⟩ hy => S.par n (List.of_mem_zip hy).1) (fun h₁ hns hsb => ⟨lim.fresh _ hsb, ?_⟩) S.kind)
  show codeAny _ _ (.expr body (envF F f s.heap.objs.size)) _ _
  have kp : ∀ b o, s.heap.get? b = some o → h₁.get? b = some o := fun b o e => hsb.extBut b o (Nat.ne_of_lt (Heap.lt_size e)) (Heap.get?_push_of_some _ e)
  have I : Inv (ncx (L2N.CX P w) P w K mg base N F f A outer s H E) [] (startF N vs ws) H { s with heap := h₁, toks := s.toks + (ps.zip us).length } := inv_startN S hr.hd e0 hl r R.ce hns kp
  refine PySem.W.kla_codeExpr (wpAny_mono ((hbody (hr.deeper _)).run [] _ _ H Q I q) (fun v s' hq => ?_) fun e s' hq => hq)
  obtain ⟨w', H', J', rv, q⟩ := hq
  exact ⟨w', H', J'.os, J'.bare, J'.base, J'.hok, rv, q⟩
/-- what was ready at the entry is ready still -/
theorem Rdy.later {X : Cx} {F : NF} {body : Expr} {fr : List Str} {ws : List (Option V)} {f : Addr} {pins : List (Addr × Obj)} {σ : L2.St} {H : Hp} {s : Shared} (R : Rdy F body fr ws f X.s_0.heap X.H_0) (I : Inv X pins σ H s) (hf : f ∉ X.fs) (nf : ∀ y c, F.cl.lookup y = some c → c ∉ X.fs) (hx : X.ex = [])
    (co : H F.c = some (CodeO F.c F.qual)) : Rdy F body fr ws f s.heap H := by
  have nx : ∀ b : Addr, b ∉ X.ex := fun b z => by rw [hx] at z; cases z
  obtain ⟨pm, ctv, ho⟩ := R.fo
  exact ⟨⟨pm, ctv, I.base.keep f _ ho R.fn hf (nx f)⟩, I.base.free f _ ho R.fn (nx f), co, R.ce.later nf (fun y c _ => nx c) I⟩
/-- x(y), x the lambda: in a def that got it -/
def tAct (i j : Nat) (f : Addr) (F : NF) (t : TE) (N : List Str) (ws : List (Option V)) : TE := fun σ H Q => σ[i]? = some (some (.ref f)) ∧ H F.c = some (CodeO F.c F.qual) ∧ ∃ v, σ[j]? = some (some v) ∧ t (startF N [v] ws) H Q
theorem pe_act1 {Z : Cx} {pn : List (Addr × Obj)} {xe : Value → Shared → Prop} {W : WX} {k i j : Nat} {N fr : List Str} {p : Str} {F : NF} {f : Addr} {body : Expr} {t : XK → TE} {ws : List (Option V)} {x y : Str} {p1 p2 p3 : Pos} (tk : L2N.Takes (Z.tr pn xe) W)
    (S : NScope N [p] fr F.scope) (hb : ∀ (pm ctv : Value) (us : List Value), us.length = 1 → bindArgs (PySem.W.kla_fn F.name F.qual F.params body F.scope F.cl pm (.ref F.c) ctv) ⟨us, []⟩ = pure (([p] : List Str).zip us))
    (hbody : ∀ (s : Shared) (H : Hp) (E : XK), Room k (Z.A.deeper (envF F f s.heap.objs.size)) → PE (ncx (L2N.CX Z.prog Z.w) Z.prog Z.w Z.K Z.mg Z.base N F f Z.A Z.stack s H E) body (t E)) (hr : Room (k + 1) Z.A) (R : Rdy F body fr ws f Z.s_0.heap Z.H_0) (hf : f ∉ Z.fs) (nf : ∀ y c, F.cl.lookup y = some c → c ∉ Z.fs) (hx : Z.ex = [])
    (hN : Z.N[i]? = some x) (hv : Vis Z.env.scope x) (hN2 : Z.N[j]? = some y) (hv2 : Vis Z.env.scope y) (hd : (x == ("__debug__" : Str)) = false := by decide) (hcd : (x == ("__classdict__" : Str)) = false := by decide) (hd2 : (y == ("__debug__" : Str)) = false := by decide) (hcd2 : (y == ("__classdict__" : Str)) = false := by decide) :
    PE (Z.tr pn xe) (.Call (.Name x p1) [.Name y p2] [] p3) (fun σ H Q => tAct i j f F (t (WE W σ)) N ws σ H Q) := by
  refine ⟨fun pins s σ H Q I h => ?_⟩
  obtain ⟨hs, hc, v, hv0, q⟩ := h
  refine wpAny_Call_Name_kw (thn ((pe_var (X := Z.tr pn xe) (pos := p1) (i := i) hN hv hd hcd).run pins s σ H (fun v H1 => v = .ref f ∧ H1 = H) I ⟨.ref f, hs, rfl, rfl⟩) fun u s1 ⟨v1, H1, I1, r1, ev, eH⟩ => ?_)
  subst ev eH
  obtain rfl : u = Value.ref f := r1
  have ofZ : Rdy F body fr ws f s1.heap H1 := R.later (X := Z.tr pn xe) I1 hf nf hx hc
  have fnAt : ∀ {s' : Shared}, Rdy F body fr ws f s'.heap H1 → PySem.W.FnAt f s'.heap := fun R' => let ⟨_, _, ho⟩ := R'.fo; ⟨_, _, _, _, ho⟩
  refine PySem.W.callWith_F (first := []) (fnAt ofZ) (thn ((pa_cons (pe_var (X := Z.tr pn xe) (pos := p2) (i := j) hN2 hv2 hd2 hcd2) pa_nil).run p3 pins s1 σ H1 (fun vs H2 => vs = [v] ∧ H2 = H1) I1 ⟨v, hv0, rfl, rfl⟩) fun us s2 ⟨vs, H2, I2, r2, ev2, eH2⟩ => ?_) rfl rfl
  subst ev2 eH2
  have R2 : Rdy F body fr ws f s2.heap H2 := R.later (X := Z.tr pn xe) I2 hf nf hx hc
  refine ⟨fnAt R2, ?_⟩
  show wpAny _ _ (call (.ref f) us) _ _ _
  refine wpAny_call (codeAny_mono (lam_call (t := t) S hb (hbody s2 H2 (WE W σ)) hr I2.env0 R2 rfl r2 q) fun r s' hq => ?_)
  cases r with
  | error e => exact L2N.passAt tk σ pins H2 s2 e s' I2 hq
  | ok fl =>
    cases fl with
    | ret u => exact I2.after hq
    | next => exact False.elim hq
    | brk => exact False.elim hq
    | cont => exact False.elim hq
end K2

namespace K2
open PySem PySem.Spec PyProof.Rows L2 HotX L2H K2H LamX NdefX
open Evl (Ex)
set_option Elab.async false
set_option linter.all false
set_option maxRecDepth 100000
set_option maxHeartbeats 4000000
theorem takes0N {X : Cx} : L2N.Takes X (fun _ _ _ _ => False) := fun _ _ x => by
  obtain ⟨_, _, _, _, _, _, _, _, _, _, _, _, _, _, _, _, z⟩ := x
  exact z.elim
abbrev nWords : List Str := ["_law_call", "_law_odds", "_law_found", "_law_odd", "_law_e"]
theorem sc51 : FnScope nWords ["_law_call", "_law_odds"] (defScope (topS 51)) := ⟨rfl, rfl, rfl, by decide +kernel, rfl, by decide +kernel, by decide +kernel⟩
/-- at every item the call raises C -/
def Throws (t : XK → TE) (N : List Str) (ws : List (Option V)) (C : Addr) (Rs : List Is) (H : Hp) : Prop := ∀ R ∈ Rs, ∀ v H3, Ex H H3 → R.p v H3 → ∀ (E : XK) (Q : VK), (∀ H', Ex H3 H' → E (.ref C) none H') → t E (startF N [v] ws) H3 Q
theorem s_forA {K : PySem.W.Frag} {σ : L2.St} {H : Hp} {D : Ends} {g : TG} {tu : TS} {xs : List V} {l : Addr} {j : Nat} (hσ : σ[j]? = some (some (.ref l))) (h : SqL K H l xs) (Pv : Nat → L2.St → Hp → Prop) (h0 : Pv 0 σ H) (h1 : ∀ i σ' H', Pv i σ' H' → SqL K H' l xs)
    (h2 : ∀ i x σ' H', xs[i]? = some x → Pv i σ' H' → g x σ' H' fun σ2 H2 => tu { D with nx := Pv (i + 1), ct := Pv (i + 1), bk := D.nx } σ2 H2) (h3 : ∀ σ' H', Pv xs.length σ' H' → D.nx σ' H') : tFor (iList K (tVar j)) g tu D σ H :=
  ⟨.ref l, hσ, l, rfl, ⟨xs, h⟩, for_list (xs := xs) Pv h0 (fun i σ' H' _ p => h1 i σ' H' p) h2 h3⟩
section
variable {P : Program} {w : World} {K : PySem.W.Frag} {mg : Str → Option Value} {base : Heap}
theorem words_body (T : Top K mg) (T2 : Top2 K mg) {k : Nat} {g f l : Addr} {cdg : Value} {A : Around} {outer : List Env} {s : Shared} {H : Hp} {F : NF} {body : Expr} {t : XK → TE} {N fr : List Str} {ws : List (Option V)} {Rs : List Is} {us : List V} {nm : Str} {C : Addr} {Q : VK}
    (S : NScope N ["_law_odd"] fr F.scope) (hb : ∀ (pm ctv : Value) (us : List Value), us.length = 1 → bindArgs (PySem.W.kla_fn F.name F.qual F.params body F.scope F.cl pm (.ref F.c) ctv) ⟨us, []⟩ = pure ((["_law_odd"] : List Str).zip us))
    (hbody : ∀ (A : Around) (outer : List Env) (s : Shared) (H : Hp) (E : XK), Room k (A.deeper (envF F f s.heap.objs.size)) → PE (ncx (L2N.CX P w) P w K mg base N F f A outer s H E) body (t E))
    (hr : Room (k + 1) (A.deeper (envOfC "_law_words" (defScope (topS 51)) s.heap.objs.size g cdg))) (R : Rdy F body fr ws f s.heap H) (hf : f ∉ frs outer) (nf : ∀ y c, F.cl.lookup y = some c → c ∉ frs outer)
    (hl : H l = some (.lst us)) (hRs : AllIs Rs us H) (hz : us.length ≤ 1000) (hn : NameOf mg (.ref C) nm) (thr : Throws t N ws C Rs H) (q : ∀ v H4, Ex H H4 → (isLs K (List.replicate us.length (isV (.str nm)))).p v H4 → Q v H4) :
    ∃ tt, PSs (cxOf CX0 P w K mg base nWords "_law_words" (defScope (topS 51)) g cdg A outer s H E0).nox (defBody (topS 51)) tt ∧ tt { nx := fun _ H' => Q .non H', rt := Q } (L2.start nWords [.ref f, .ref l]) H := by
  have CE : ClE P w K mg base := cl_name T T2
  obtain ⟨D, gD, hD⟩ := T2.oe
  have hgl : Gl (cxOf CX0 P w K mg base nWords "_law_words" (defScope (topS 51)) g cdg A outer s H E0).nox "OrderError" := by rfl
  refine ⟨_, pss_cons (ps_set (i := 2) sc51.nd rfl (.inl rfl) (pe_lst pa_nil)) (pss_cons (ps_for PassesOwn.never rfl (pi_list (pv 1)) (pg_name (i := 3) sc51.nd rfl (.inl rfl))
      (pss_one (L2N.ps_try_as (X := (cxOf CX0 P w K mg base nWords "_law_words" (defScope (topS 51)) g cdg A outer s H E0).nox) (i := 4) (c := .ref D) (tb := fun W => tSeq (tDrop (fun σ H Q => tAct 0 3 f F (t (WE W σ)) N ws σ H Q)) (tDrop (tBM K "list" rAppend (tVar 2) (tCons (tC (.str "none")) tNil)))) (ts := fun a cls d => tDrop (tBM K "list" rAppend (tVar 2) (tCons (tNm mg 4 a cls d) tNil))) rfl rfl sc51.nd rfl rfl ⟨hgl, by decide, .inl gD⟩ takes0N
        (fun W pn xe tk _ => pss_cons (ps_expr (pe_act1 (Z := (cxOf CX0 P w K mg base nWords "_law_words" (defScope (topS 51)) g cdg A outer s H E0).nox) (i := 0) (j := 3) tk S hb (fun s2 H2 E hr2 => hbody _ _ s2 H2 E hr2) hr R hf nf rfl rfl (.inl rfl) rfl (.inl rfl)))
          (pss_one (ps_expr (pe_bm (X := ((cxOf CX0 P w K mg base nWords "_law_words" (defScope (topS 51)) g cdg A outer s H E0).nox).tr pn xe) PySem.F.plainAttrs_list PySem.F.slot_list_append PySem.F.type_list_append mt_append (pv 2) (pa_cons pe_str pa_nil)))))
        (fun a oe cls d pn hz hf => pss_one (ps_expr (pe_bm (X := ((cxOf CX0 P w K mg base nWords "_law_words" (defScope (topS 51)) g cdg A outer s H E0).nox).suite a ((a, oe) :: pn)) PySem.F.plainAttrs_list PySem.F.slot_list_append PySem.F.type_list_append mt_append (pv 2) (pa_cons (pe_name (X := (cxOf CX0 P w K mg base nWords "_law_words" (defScope (topS 51)) g cdg A outer s H E0).nox) (i := 4) CE (hr.mono (by omega)) hz hf (by rfl) (pv 4)) pa_nil)))))))
    (pss_one (ps_ret (pv 2)))), ?_⟩
  refine q_asg (R := isNew H []) (eg_lstN (Rs := []) as_nil (by show 0 ≤ 100000; decide)) fun v H1 e1 ⟨d, vs0, ev, nd, hd, hv0⟩ => ?_
  subst ev
  have ev0 : vs0 = [] := allV (xs := []) hv0
  subst ev0
  refine s_forA (l := l) (xs := us) rfl (.inl (.inl (e1 _ _ hl))) (fun i σ H' => ∃ o, σ = [some (.ref f), some (.ref l), some (.ref d), o, none] ∧ Ex H H' ∧ H' d = some (.lst (List.replicate i (V.str nm))))
    ⟨none, rfl, e1, hd⟩ (fun i σ H' ⟨_, _, ex, _⟩ => .inl (.inl (ex _ _ hl))) (fun i x σ H' hx ⟨o, eσ, ex, hd'⟩ => ?_) (fun σ H' ⟨o, eσ, ex, hd'⟩ => ?_)
  · subst eσ
    have hi : i < us.length := (List.getElem?_eq_some_iff.mp hx).1
    obtain ⟨Rx, hRx, px⟩ := hRs.get hx
    refine ⟨rfl, ex _ _ R.co, x, rfl, thr Rx (List.mem_of_getElem? hRx) x H' ex (Rx.st _ _ _ ex px) _ _ fun H3 e3 => ?_⟩
    refine ⟨true, ?_, fun _ a2 na => ?_, fun z => nomatch z⟩
    · obtain ⟨p, hp, C', hnm, ec, eg⟩ := hn
      cases ec
      exact hD p hp C eg
    · refine ⟨.ref d, rfl, .inl ⟨rfl, _, .inl (.inl (e3 _ _ hd'))⟩, rfl, rfl, nm, hn, fun H4 e4 => ?_⟩
      exact ⟨d, _, V.str nm, rfl, rfl, e4 _ _ (e3 _ _ hd'), Evl.sz_lt (by rw [List.length_replicate]; omega), _, rfl, Ex.mut ((ex.trans e3).trans e4) nd, by rw [upd_same, List.replicate_succ']⟩
  · subst eσ
    refine s_ret (R := isLs K (List.replicate us.length (isV (.str nm)))) (eg_var rfl ⟨d, _, rfl, hd', ?_⟩) fun v H3 e3 hv => q v H3 (ex.trans e3) hv
    have := allV_self (H := H') (List.replicate us.length (V.str nm))
    rw [List.map_replicate] at this
    exact this
end
end K2

namespace K2
open PySem PySem.Spec PyProof.Rows L2 HotX L2H K2H LamX NdefX
open Evl (Ex)
set_option Elab.async false
set_option linter.all false
set_option maxRecDepth 100000
set_option maxHeartbeats 4000000
/-- the lambda as it is made in X -/
abbrev lamF (X : Cx) (params : Arguments) (scope : Scope) (c' : Addr) : NF := ⟨"<lambda>", X.env.qual ++ "<lambda>", params, [], scope, cloFrom X.env.cells scope.names [], c'⟩
def tWords (K : PySem.W.Frag) (mg : Str → Option Value) (TT : List (Addr × Str)) (N : List Str) (js : List Nat) (t : XK → TE) (te : TE) : TE := fun σ H Q => Tabs TT H ∧ ∀ H1, ExtN H H1 → Tabs TT H1 → ∃ (Rs : List Is) (C : Addr) (nm : Str), Rs.length ≤ 1000 ∧ EvG te σ H1 (isLs K Rs) ∧ NameOf mg (.ref C) nm ∧
  Throws t N (js.map (slotAt σ)) C Rs H1 ∧ ∀ v H4, Ex H1 H4 → (isLs K (List.replicate Rs.length (isV (.str nm)))).p v H4 → Q v H4
section
variable {X : Cx}
theorem pe_words (T : Top X.K X.mg) (T2 : Top2 X.K X.mg) {TT : List (Addr × Str)} {c P : Addr} {k : Nat} {params : Arguments} {body e2 : Expr} {scope : Scope} {t : XK → TE} {te : TE} {N fr : List Str} {js : List Nat} {p lpos pos : Pos} (TB : TabB X.base X.mg c P) (hcode : X.env.code = .ref c) (hmT : (P, X.env.qual ++ "<lambda>") ∈ TT)
    (hu : ∀ p ∈ TT, p.1 = P → p.2 = X.env.qual ++ "<lambda>") (hr : Room (k + 2) X.A) (hst : X.stack = X.env :: X.outer) (hfm : X.env.frame = some X.env.locals) (hfn : ∀ y, X.fn y = true) (S : NScope N ["_law_odd"] fr scope)
    (hfree : ∀ y ∈ scope.names, y.2 = .free → X.env.scope.names.lookup y.1 = some .cell ∨ X.env.scope.names.lookup y.1 = some .free) (hfr : ∀ y ∈ fr, (y, NameKind.free) ∈ scope.names) (hjs : js.map (fun j => X.N[j]?) = fr.map some) (hdef : defaultsOf params X.env = ([], []))
    (hb : ∀ (q : Str) (cl : List (Str × Addr)) (pm cv ctv : Value) (us : List Value), us.length = 1 → bindArgs (PySem.W.kla_fn "<lambda>" q params body scope cl pm cv ctv) ⟨us, []⟩ = pure ((["_law_odd"] : List Str).zip us))
    (hbody : ∀ (c' f : Addr) (A : Around) (outer : List Env) (s : Shared) (H : Hp) (E : XK), Room k (A.deeper (envF (lamF X params scope c') f s.heap.objs.size)) → PE (ncx (L2N.CX X.prog X.w) X.prog X.w X.K X.mg X.base N (lamF X params scope c') f A outer s H E) body (t E))
    (he : PE X e2 te) (hg : Gl X "_law_words" := by rfl) (hs : starEach [e2] X.env = (false, eval e2 X.env) :: starEach [] X.env := by rfl) (hpl : (backTo pos (starEach [e2] X.env)).any (·.1) = false := by rfl) (hs1 : starEach [.Lambda params body scope lpos, e2] X.env = (false, eval (.Lambda params body scope lpos) X.env) :: starEach [e2] X.env := by rfl) :
    PE X (.Call (.Name "_law_words" p) [.Lambda params body scope lpos, e2] [] pos) (tWords X.K X.mg TT N js t te) := by
  obtain ⟨g, fd, Fn, gm⟩ := T.d (51, "_law_words") (by decide)
  obtain ⟨oc, od, kV, doc, pmg, an, cdv, ct, osl, efd, lk, hcd⟩ := Fn.ex
  refine ⟨fun pins s σ H Q I h => ?_⟩
  obtain ⟨hT, h⟩ := h
  refine wpAny_Call_Name_kw (ld_glob I hg gm ?_ (by decide))
  refine PySem.W.callWith_K (h₀ := X.base) I.ok.mod.kin Fn.kp ?_ hs1 hpl
  rw [hs1]
  show wpAny _ _ (spliced ((false, eval (.Lambda params body scope lpos) X.env) :: backTo pos (starEach [e2] X.env))) _ _ s
  have hfr' : ∀ y ∈ scope.names, y.2 = .free → ∃ c, X.env.cells.lookup y.1 = some c := fun y hy e => (hfree y hy e).elim (fun z => I.ok.has _ (.inl z)) fun z => I.ok.has _ (.inr z)
  refine Calls.spliced_cons (lam_make2 I TB hcode hmT hu hT hdef hfr' fun f c' pm ctv H1 s1 I1 eN T1 hf hfnn hff hco => ?_)
  obtain ⟨Rs, C, nm, hz, hev, hnm, thr, q⟩ := h H1 eN T1
  have fL : f ≠ X.env.locals ∧ f ∉ X.fs := by
    rw [hst] at hff
    have e : frs (X.env :: X.outer) = X.env.locals :: frs X.outer := by
      unfold frs
      rw [List.filterMap_cons, hfm]
    rw [e] at hff
    exact ⟨fun z => hff (by rw [z]; exact List.mem_cons_self), fun z => hff (List.mem_cons_of_mem _ z)⟩
  have Ip : Inv X (pins ++ [(f, PySem.W.kla_obj "<lambda>" (X.env.qual ++ "<lambda>") params body scope (cloFrom X.env.cells scope.names []) pm c' ctv)]) σ H1 s1 := I1.pins_of fun p hp => by
    rcases List.mem_append.mp hp with z | z
    · exact I1.pin p (List.mem_append_right _ z)
    · rw [List.mem_singleton.mp z]
      exact ⟨hf, hfnn, fL.1, fL.2, fun v z => nomatch z⟩
  refine thn ((pa_cons he pa_nil hs).run pos _ s1 σ H1 (fun vs H2 => ∃ v, vs = [v] ∧ Ex H1 H2 ∧ (isLs X.K Rs).p v H2) Ip (hev H1 (Ex.refl H1) _ fun v H2 e2' hv => ⟨v, rfl, e2', hv⟩)) fun us s2 ⟨vs, H2, I2, r2, v, ev, ex, l, xs, el, hl, hal⟩ => ?_
  subst ev el
  have P2 := I2.pin (f, PySem.W.kla_obj "<lambda>" (X.env.qual ++ "<lambda>") params body scope (cloFrom X.env.cells scope.names []) pm c' ctv) (List.mem_append_right _ (List.mem_append_right _ List.mem_cons_self))
  have J2 : Inv X pins σ H2 s2 := I2.unpinned
  have R : Rdy (lamF X params scope c') body fr (js.map (slotAt σ)) f s2.heap H2 := ⟨⟨pm, ctv, P2.1⟩, P2.2.1, ex _ _ hco, cells_of J2 (Caps.made J2.ok hfree hfr hjs)⟩
  have nf : ∀ y c, (lamF X params scope c').cl.lookup y = some c → c ∉ frs X.stack := fun y a e hm => by
    have ea := clo_cm hfr' e
    rcases List.mem_cons.mp (J2.stkSub a hm) with z | z
    · exact J2.cne y a ea z
    · have h1 := J2.ok.cab y a (hfn y) ea
      obtain ⟨_, o, ho, _⟩ := J2.ok.funs.mem z
      exact absurd (Heap.lt_size ho) (Nat.not_lt.mpr h1)
  refine ⟨J2.kIn, ?_⟩
  show wpAny _ _ (call (.ref g) (.ref f :: us)) _ _ _
  have eus : us = [.ref l] := by
    cases r2 with
    | cons r rr =>
      cases r
      cases rr
      rfl
  subst eus
  have lenR : xs.length = Rs.length := hal.len
  have rc : codeAny (model X.prog X.w) X.A (.call (.ref g) ⟨[.ref f, .ref l], []⟩) (CR CX0 X.stack X.prog X.w H2 s2 Q E0) s2 := by
    have hbd : Binds X.K fd ["_law_call", "_law_odds"] [] := Fn.binds (fun _ _ _ _ _ _ us hl => match us, hl with | [_, _], _ => rfl)
    have hb2 := hbd s2 [.ref f, .ref l] J2.kIn rfl
    rw [List.append_nil, efd] at hb2
    rw [efd] at lk
    refine run_ofS (k := k + 1) (N := nWords) (ps := ["_law_call", "_law_odds"]) (us := [.ref f, .ref l]) (vs := [.ref f, .ref l]) lk hcd sc51 hr J2.env0 hb2 (.cons rfl (.cons rfl .nil)) rfl fun hr' => ?_
    obtain ⟨tt, ht, hq⟩ := words_body (base := X.base) (Q := Q) (g := g) (cdg := cdv) T T2 S (fun pm ctv us hl => hb _ _ pm _ ctv us hl) (fun A outer s H E hr2 => hbody c' f A outer s H E hr2) hr' R hff nf hl hal (by omega) hnm (fun Rx hRx v H3 e3 => thr Rx hRx v H3 (ex.trans e3)) (fun v H4 e4 hv => q v H4 (ex.trans e4) (by rw [← lenR]; exact hv))
    exact ⟨tt, ht.nox, hq⟩
  refine wpAny_call (codeAny_mono rc fun r s' hq => ?_)
  cases r with
  | error e => exact (show False from hq).elim
  | ok fl =>
    cases fl with
    | ret u => exact J2.after hq
    | next => exact False.elim hq
    | brk => exact False.elim hq
    | cont => exact False.elim hq
end
end K2

namespace K2
open PySem PySem.Spec PyProof.Rows L2 HotX L2H K2H LamX NdefX
open Evl (Ex)
set_option Elab.async false
set_option linter.all false
set_option maxRecDepth 100000
set_option maxHeartbeats 4000000
/-! ### more of what moves the pot -/
theorem PotAt.upd {a d : Addr} {o : HO} {H : Hp} (p : PotAt a H) (n : a ≠ d) : PotAt a (upd H d o) := let ⟨g, c, h, r⟩ := p; ⟨g, c, by rw [upd_ne n]; exact h, r⟩
theorem PotAt.ne {a d : Addr} {H : Hp} (p : PotAt a H) (n : H d = none) : d ≠ a := fun z => by
  obtain ⟨_, _, h, _⟩ := p
  rw [← z, n] at h
  cases h
theorem ExB.put {a d : Addr} {o : HO} {H H1 : Hp} (e : ExB a H H1) (n : H d = none) : ExB a H (L2.upd H1 d o) := fun b u hb h => by
  rw [upd_ne (ne_of_none h n)]
  exact e b u hb h
section
variable {K : PySem.W.Frag} {σ : L2.St} {H : Hp} {te ta tb te0 : TE} {t : TT} {R : Is} {a : Addr} {b : Bool}
theorem EvG.M (h : EvG te σ H R) : EvM a te σ H R := fun H1 e p Q q => h H1 e Q fun v H2 e2 hv => q v H2 (ExB.of e2) (p.ex e2) hv
theorem em_if (h : EvB t σ H b) (h1 : b = true → EvM a ta σ H R) (h2 : b = false → EvM a tb σ H R) : EvM a (tIf t ta tb) σ H R := fun H1 e p Q q => h H1 e _ fun H2 e2 => by
  cases b with
  | true => exact h1 rfl H2 (e.trans e2) (p.ex e2) _ fun v H3 e3 p3 hv => q v H3 ((ExB.of e2).trans e3) p3 hv
  | false => exact h2 rfl H2 (e.trans e2) (p.ex e2) _ fun v H3 e3 p3 hv => q v H3 ((ExB.of e2).trans e3) p3 hv
/-- a row below m, shorter than b -/
def isRwL (K : PySem.W.Frag) (m b : Nat) : Is := ⟨fun v H => ∃ r : List Nat, r.length < b ∧ (∀ i ∈ r, i < m) ∧ (isL K (iV r)).p v H, fun _ _ _ e ⟨r, h1, h2, h3⟩ => ⟨r, h1, h2, (isL K _).st _ _ _ e h3⟩⟩
def isRwT (K : PySem.W.Frag) (m b : Nat) : Is := ⟨fun v H => ∃ r : List Nat, r.length < b ∧ (∀ i ∈ r, i < m) ∧ (isT K (iV r)).p v H, fun _ _ _ e ⟨r, h1, h2, h3⟩ => ⟨r, h1, h2, (isT K _).st _ _ _ e h3⟩⟩
theorem firm_RwT {m b : Nat} : Firm (isRwT K m b) := fun v H d xs ys hd ⟨r, h1, h2, h3⟩ => ⟨r, h1, h2, firm_T v H d xs ys hd h3⟩
theorem em_tupRow {m b : Nat} (h : EvM a te σ H (isRwL K m b)) : EvM a (tThen te (kTup K)) σ H (isRwT K m b) := fun H1 e p Q q => h H1 e p _ fun v H2 e2 p2 ⟨r, h1, h2, d, hv, hs⟩ =>
  .inl ⟨d, iV r, hv, hs, fun c hc => q _ _ (e2.trans (ExB.of (Ex.new hc))) (p2.ex (Ex.new hc)) ⟨r, h1, h2, c, rfl, .inl (.inl upd_same)⟩⟩
theorem em_lcR {m b j : Nat} {vs : List Nat} (h : EvM a te0 σ H (isB b)) (hb : b ≤ 1000) (hw : ∀ x, wipe ((wipe σ vs).set j (some x)) vs = wipe σ vs) (he : ∀ (i : Nat) H', ExB a H H' → PotAt a H' → EvM a te ((wipe σ vs).set j (some (.int (i : Int)))) H' (isB m)) :
    EvM a (tLc (iRng1 (tCons te0 tNil)) (gName j) tYes te vs) σ H (isRwL K m b) := fun H1 e p Q q => h H1 e p _ fun v H2 e2 p2 ⟨k, ev, hk⟩ => by
  subst ev
  refine ⟨(k : Int), rfl, by omega, by omega, fun D hD => ?_⟩
  have nD := p2.ne hD
  refine lc_range (lo := 0) (n := (k : Int).toNat) (fun i H' => ExB a H2 H' ∧ PotAt a H' ∧ ∃ r : List Nat, H' D = some (.lst (iV r)) ∧ r.length = i ∧ ∀ x ∈ r, x < m) ⟨ExB.of (Ex.new hD), p2.ex (Ex.new hD), [], upd_same, rfl, fun _ z => by cases z⟩ (fun i H' hi ⟨x1, x2, r, x3, x4, x5⟩ => ?_) (fun H' ⟨x1, x2, r, x3, x4, x5⟩ => ?_)
  · have e0 : (0 : Int) + (i : Int) = (i : Int) := Int.zero_add _
    show wipe ((wipe σ vs).set j (some (.int ((0 : Int) + (i : Int))))) vs = wipe σ vs ∧ te ((wipe σ vs).set j (some (.int ((0 : Int) + (i : Int))))) H' fun y H4 => ∃ acc, H4 D = some (.lst acc) ∧ acc.length < sizeLine ∧ _
    rw [e0]
    refine ⟨hw _, he i H' (((ExB.of e).trans e2).trans x1) x2 H' (Ex.refl H') x2 _ fun y H4 e4 p4 ⟨z, ey, hz⟩ => ?_⟩
    subst ey
    have h4 : H4 D = some (.lst (iV r)) := e4 D _ nD x3
    refine ⟨iV r, h4, Evl.sz_lt (by rw [iV_length]; omega), (x1.trans e4).put hD, p4.upd nD.symm, r ++ [z], by rw [upd_same, iV_app]; rfl, by rw [List.length_append, x4]; rfl, fun x hx => ?_⟩
    rcases List.mem_append.mp hx with hx | hx
    · exact x5 x hx
    · rw [List.mem_singleton.mp hx]; exact hz
  · exact q _ H' (e2.trans x1) x2 ⟨r, by rw [x4]; omega, x5, D, rfl, .inl (.inl x3)⟩
end
/-! ### the law -/
abbrev nLaw : List Str := ["_law_script", "_law_pot_here", "_law_many_here", "_law_order_here", "_law_size", "_law_row", "_law_least", "_law_thing", "_law_names", "_law_few", "_law_known", "_law_short", "_law_there", "_law_odds", "_law_call", "_law_turn", "_law_one_here", "_law_odd"]
theorem sc55 : FnScope nLaw ["_law_script"] (defScope (topS 55)) := ⟨rfl, rfl, rfl, by decide +kernel, rfl, by decide +kernel, by decide +kernel⟩
abbrev lawX (P : Program) (w : World) (K : PySem.W.Frag) (mg : Str → Option Value) (base : Heap) (f : Addr) (cdv : Value) (A : Around) (outer : List Env) (s : Shared) (H : Hp) (E : XK) : Cx := (cxOf CX0 P w K mg base nLaw "law" (defScope (topS 55)) f cdv A outer s H E).nox
/-- the law's statements by place -/
def lawS (i : Nat) : Stmt := (defBody (topS 55)).getD i (.Pass ⟨0, 0, 0, 0⟩)
/-- one statement: from Pre it goes on to Post -/
def Step (X : Cx) (st : Stmt) (Pre Post : L2.St → Hp → Prop) : Prop := ∃ t, PS X st t ∧ ∀ (D : Ends) σ H, Pre σ H → (∀ σ' H', Post σ' H' → D.nx σ' H') → t D σ H
def StepR (X : Cx) (st : Stmt) (Pre : L2.St → Hp → Prop) : Prop := ∃ t, PS X st t ∧ ∀ (D : Ends) σ H, Pre σ H → (∀ H', D.rt (.bl true) H') → t D σ H
abbrev qL : Str := ("law" ++ ".<locals>.") ++ "<lambda>"
/-- what stays through the whole law: the pot, the tables, the order -/
structure LS (K : PySem.W.Frag) (Pt : Addr) (p : Addr) (l : List Nat) (o : V) (H : Hp) : Prop where
  pot : PotAt p H
  tab : Tabs [(Pt, qL)] H
  ord : (isT K (iV l)).p o H
theorem tabs_but {T : List (Addr × Str)} {p : Addr} {H H' : Hp} (t : Tabs T H) (pt : PotAt p H) (e : ExB p H H') : Tabs T H' := fun q hq => by
  obtain ⟨ps, h1, h2, h3⟩ := t q hq
  obtain ⟨_, _, hp, _⟩ := pt
  refine ⟨ps, e _ _ (fun z => by rw [z, hp] at h1; cases h1) h1, h2, fun pos cv hc => ?_⟩
  obtain ⟨c, e1, e2⟩ := h3 pos cv hc
  exact ⟨c, e1, e _ _ (fun z => by rw [z, hp] at e2; unfold CodeO at e2; cases e2) e2⟩
theorem LS.ex {K : PySem.W.Frag} {Pt p : Addr} {l : List Nat} {o : V} {H H' : Hp} (h : LS K Pt p l o H) (e : Ex H H') : LS K Pt p l o H' := ⟨h.pot.ex e, h.tab.ext e, (isT K _).st _ _ _ e h.ord⟩
theorem LS.exB {K : PySem.W.Frag} {Pt p : Addr} {l : List Nat} {o : V} {H H' : Hp} (h : LS K Pt p l o H) (e : ExB p H H') (p' : PotAt p H') : LS K Pt p l o H' := ⟨p', tabs_but h.tab h.pot e, firm_T.keep h.pot p' e h.ord⟩
end K2

namespace K2
open PySem PySem.Spec PyProof.Rows L2 HotX L2H K2H LamX NdefX
open Evl (Ex)
set_option Elab.async false
set_option linter.all false
set_option maxRecDepth 100000
set_option maxHeartbeats 4000000
theorem EvM.imp {σ : L2.St} {H : Hp} {te : TE} {R1 R : Is} {a : Addr} (h : EvM a te σ H R1) (k : ∀ v H1, R1.p v H1 → R.p v H1) : EvM a te σ H R := fun H1 e p Q q => h H1 e p Q fun v H2 e2 p2 hv => q v H2 e2 p2 (k v H2 hv)
theorem s_asgM {σ : L2.St} {H : Hp} {te : TE} {R : Is} {a : Addr} {D : Ends} {i : Nat} (h : EvM a te σ H R) (p : PotAt a H) (k : ∀ v H1, ExB a H H1 → PotAt a H1 → R.p v H1 → D.nx (σ.set i (some v)) H1) : tAsg te (gName i) D σ H := h H (Ex.refl H) p _ k
/-- numbers of things that an order of l has -/
structure Sz (n : Nat) (l : List Nat) : Prop where
  o : Ord l
  len : l.length = n
  lo : 1 ≤ n
  hi : n ≤ 30
section
variable {P : Program} {w : World} {K : PySem.W.Frag} {mg : Str → Option Value} {base : Heap} {f : Addr} {cdv : Value} {A : Around} {outer : List Env} {s : Shared} {H0 : Hp}
variable (Pt : Addr)
def P0 (K : PySem.W.Frag) (σ : L2.St) (H : Hp) : Prop := ∃ (a : V) (ns : List Int), σ = L2.start nLaw [a] ∧ (isL K (ns.map V.int)).p a H ∧ ns.length ≤ 1000 ∧ Tabs [(Pt, qL)] H
def P1 (σ : L2.St) (H : Hp) : Prop := ∃ (a : V) (p : Addr), σ = [some a, some (.ref p), none, none, none, none, none, none, none, none, none, none, none, none, none, none, none, none] ∧ PotAt p H ∧ Tabs [(Pt, qL)] H
def P2 (σ : L2.St) (H : Hp) : Prop := ∃ (a : V) (p : Addr) (n : Nat), σ = [some a, some (.ref p), some (.int (n : Int)), none, none, none, none, none, none, none, none, none, none, none, none, none, none, none] ∧ PotAt p H ∧ Tabs [(Pt, qL)] H ∧ 1 ≤ n ∧ n ≤ 30
def P3 (K : PySem.W.Frag) (σ : L2.St) (H : Hp) : Prop := ∃ (a : V) (p : Addr) (n : Nat) (o : V) (l : List Nat), σ = [some a, some (.ref p), some (.int (n : Int)), some o, none, none, none, none, none, none, none, none, none, none, none, none, none, none] ∧ LS K Pt p l o H ∧ Sz n l
def P4 (K : PySem.W.Frag) (σ : L2.St) (H : Hp) : Prop := ∃ (a : V) (p : Addr) (n : Nat) (o : V) (l : List Nat) (k : Nat), σ = [some a, some (.ref p), some (.int (n : Int)), some o, some (.int (k : Int)), none, none, none, none, none, none, none, none, none, none, none, none, none] ∧ LS K Pt p l o H ∧ Sz n l ∧ k < 12 ∧ (n = 1 → k = 0)
def P5 (K : PySem.W.Frag) (σ : L2.St) (H : Hp) : Prop := ∃ (a : V) (p : Addr) (n : Nat) (o : V) (l : List Nat) (x4 v : V) (r : List Nat), σ = [some a, some (.ref p), some (.int (n : Int)), some o, some x4, some v, none, none, none, none, none, none, none, none, none, none, none, none] ∧ LS K Pt p l o H ∧ Sz n l ∧ Row n r ∧ (isT K (iV r)).p v H
theorem step0 (T : Top K mg) (hr : Room 7 (lawX P w K mg base f cdv A outer s H0 E0).A) : Step (lawX P w K mg base f cdv A outer s H0 E0) (lawS 0) (P0 Pt K) (P1 Pt) := by
  have C : Cl P w K mg base CX0 1 "_law_pot" ["_law_script", "_law_turn"] (spPot K) := cl_pot T
  refine ⟨_, ps_set (i := 1) sc55.nd rfl (.inr rfl) (pe_cl C hr (by decide) pass0 (pa_cons (pv 0) (pa_cons pe_int pa_nil))), fun D σ H ⟨a, ns, eσ, ha, hl, ht⟩ k => ?_⟩
  subst eσ
  exact s_asg (eg_call (as_cons (eg_var rfl ha) (as_cons eg_c as_nil)) (sg_pot hl)) fun v H1 e1 ⟨p, ev, hp⟩ => by subst ev; exact k _ _ ⟨a, p, rfl, hp, ht.ext e1⟩
theorem step1 (T : Top K mg) (hr : Room 7 (lawX P w K mg base f cdv A outer s H0 E0).A) : Step (lawX P w K mg base f cdv A outer s H0 E0) (lawS 1) (P1 Pt) (P2 Pt) := by
  have C : Cl P w K mg base CX0 3 "_law_many" ["_law_pot_here"] spMany := cl_many T
  refine ⟨_, ps_set (i := 2) sc55.nd rfl (.inr rfl) (pe_cl C hr (by decide) pass0 (pa_cons (pv 1) pa_nil)), fun D σ H ⟨a, p, eσ, hp, ht⟩ k => ?_⟩
  subst eσ
  exact s_asgM (em_call (as_cons (eg_v rfl) as_nil) sm_many) hp fun v H1 e1 p1 ⟨n, ev, h1, h2⟩ => by subst ev; exact k _ _ ⟨a, p, n, rfl, p1, tabs_but ht hp e1, h1, h2⟩
theorem step2 (T : Top K mg) (hr : Room 7 (lawX P w K mg base f cdv A outer s H0 E0).A) : Step (lawX P w K mg base f cdv A outer s H0 E0) (lawS 2) (P2 Pt) (P3 Pt K) := by
  have C : Cl P w K mg base CX0 3 "_law_order" ["_law_pot_here", "_law_many_here"] (spOrder K) := cl_order T
  refine ⟨_, ps_set (i := 3) sc55.nd rfl (.inr rfl) (pe_cl C hr (by decide) pass0 (pa_cons (pv 1) (pa_cons (pv 2) pa_nil))), fun D σ H ⟨a, p, n, eσ, hp, ht, h1, h2⟩ k => ?_⟩
  subst eσ
  exact s_asgM (em_call (as_cons (eg_v rfl) (as_cons (eg_v rfl) as_nil)) (sm_order h2)) hp fun v H1 e1 p1 ⟨l, ol, hl, hv⟩ => k _ _ ⟨a, p, n, v, l, rfl, ⟨p1, tabs_but ht hp e1, hv⟩, ⟨ol, hl, h1, h2⟩⟩
theorem step3 (T : Top K mg) (hr : Room 7 (lawX P w K mg base f cdv A outer s H0 E0).A) : Step (lawX P w K mg base f cdv A outer s H0 E0) (lawS 3) (P3 Pt K) (P4 Pt K) := by
  have C : Cl P w K mg base CX0 1 "_law_dip" ["_law_pot_here", "_law_many_here"] spDip := cl_dip T
  refine ⟨_, ps_set (i := 4) sc55.nd rfl (.inl rfl) (pe_ifExp (pt_cmpR op_gt (pv 2) pe_int (nomark _)) (pe_cl C hr (by decide) pass0 (pa_cons (pv 1) (pa_cons pe_int pa_nil))) pe_int), fun D σ H ⟨a, p, n, o, l, eσ, hL, hS⟩ k => ?_⟩
  subst eσ
  refine s_asgM (a := p) (R := ⟨fun v _ => ∃ k : Nat, v = .int (k : Int) ∧ k < 12 ∧ (n = 1 → k = 0), fun _ _ _ _ h => h⟩) (em_if (b := decide ((1 : Int) < (n : Int))) (eb_test (eg_op (eg_v rfl) eg_c og_I0)) (fun hb => EvM.imp (R1 := isB 12) (em_call (as_cons (eg_v rfl) (as_cons eg_c as_nil)) (sm_dip (m := 12) (by decide))) fun v H1 ⟨z, ev, hz⟩ => ⟨z, ev, hz, fun e => (by rw [e] at hb; simp at hb)⟩)
    (fun _ => EvG.M (EvG.imp (R1 := isV (.int 0)) eg_c fun v H1 _ hv => ⟨0, hv, by decide, fun _ => rfl⟩))) hL.pot fun v H1 e1 p1 ⟨z, ev, h1, h2⟩ => ?_
  subst ev
  exact k _ _ ⟨a, p, n, o, l, z, rfl, hL.exB e1 p1, hS, h1, h2⟩
theorem step4 (T : Top K mg) (hr : Room 7 (lawX P w K mg base f cdv A outer s H0 E0).A) : Step (lawX P w K mg base f cdv A outer s H0 E0) (lawS 4) (P4 Pt K) (P5 Pt K) := by
  have C : Cl P w K mg base CX0 1 "_law_dip" ["_law_pot_here", "_law_many_here"] spDip := cl_dip T
  refine ⟨_, ps_set (i := 5) sc55.nd rfl (.inl rfl) (pe_tupleOf (by rfl) (T.b "tuple" (by decide)) (pe_lc (own := [("_law_turn", 15)]) (g := gName 15) (tt := tYes) rfl sc55.nd (pi_range1 (by rfl) (T.b "range" (by decide)) (pa_cons (pv 4) pa_nil)) (blkOk_by (N := nLaw) (sc := defScope (topS 55)) (own := [("_law_turn", 15)]) (by decide +kernel))
    (fun _ _ _ _ _ => pg_name (i := 15) sc55.nd rfl (.inl rfl)) (fun _ _ _ _ _ => pts_nil) (fun _ _ _ _ _ => pe_cl C hr (by decide) pass0 (pa_cons (pv 1) (pa_cons (pe_op op_sub (pv 2) pe_int) pa_nil))))), fun D σ H ⟨a, p, n, o, l, z, eσ, hL, hS, hz, h1⟩ k => ?_⟩
  subst eσ
  refine s_asgM (a := p) (R := isRwT K (n - 1) 12) ?_ hL.pot fun v H1 e1 p1 ⟨r, hr1, hr2, hv⟩ => k _ _ ⟨a, p, n, o, l, _, v, r, rfl, hL.exB e1 p1, hS, ⟨fun i hi => by have := hr2 i hi; omega, by omega⟩, hv⟩
  by_cases hn : n = 1
  · have hk := h1 hn
    subst hk
    refine em_tupRow (EvG.M (EvG.imp (eg_lcR (K := K) (n := 0) (fun _ => true) (fun i => isV (.int (i : Int))) (fun _ => firm_V) (as_cons (eg_v rfl) as_nil) (by omega) (fun _ => wipe_one _ _ _) (fun _ _ _ _ => eb_yes) (fun i H1 _ hi _ => by omega)) fun v H1 _ hv => ⟨[], by decide, (fun _ z => by cases z), isLs_L (xs := []) hv⟩))
  · have e1 : ((n : Int) - 1) = ((n - 1 : Nat) : Int) := by have := hS.lo; omega
    exact em_tupRow (em_lcR (b := 12) (m := n - 1) ((eg_var (R := isB 12) rfl ⟨z, rfl, hz⟩).M) (by decide) (fun _ => wipe_one _ _ _) (fun i H' _ _ => em_call (as_cons (eg_v rfl) (as_cons (eg_is (eg_op (eg_v rfl) eg_c og_I0) (by rw [e1])) as_nil)) (sm_dip (by have := hS.lo; have := hS.hi; omega))))
theorem step5 (T : Top K mg) (hr : Room 7 (lawX P w K mg base f cdv A outer s H0 E0).A) : Step (lawX P w K mg base f cdv A outer s H0 E0) (lawS 5) (P5 Pt K) (P5 Pt K) := by
  have C : Cl P w K mg base CX0 5 "_law_right" ["_law_order_here", "_law_row"] (spRight K) := cl_right T
  refine ⟨_, ps_if (pt_not (pt_val (pe_cl C hr (by decide) pass0 (pa_cons (pv 3) (pa_cons (pv 5) pa_nil))))) (pss_one (ps_ret pe_bl)) pss_nil, fun D σ H ⟨a, p, n, o, l, x4, v, r, eσ, hL, hS, hR, hv⟩ k => ?_⟩
  subst eσ
  refine s_if (b := false) (eb_not (a := true) (eb_B (eg_call (as_cons (eg_var rfl hL.ord) (as_cons (eg_var rfl hv) as_nil)) (sg_right ⟨hS.o, by have := hS.lo; have := hS.len; omega, by have := hS.hi; have := hS.len; omega, by rw [hS.len]; exact hR⟩)))) (fun z => by cases z) (fun _ H1 e1 => k _ _ ⟨a, p, n, o, l, x4, v, r, rfl, hL.ex e1, hS, hR, (isT K _).st _ _ _ e1 hv⟩)
end
end K2

namespace K2
open PySem PySem.Spec PyProof.Rows L2 HotX L2H K2H LamX NdefX
open Evl (Ex)
set_option Elab.async false
set_option linter.all false
set_option maxRecDepth 100000
set_option maxHeartbeats 4000000
theorem inv_half : ∀ l : List Nat, 2 * inv l ≤ l.length * (l.length - 1)
  | [] => by simp [inv]
  | a :: r => by
    have ih := inv_half r
    have h1 : (less a r).length ≤ r.length := List.length_filter_le _ _
    have e : inv (a :: r) = (less a r).length + inv r := rfl
    rw [e, List.length_cons, Nat.add_sub_cancel]
    cases hr : r.length with
    | zero => rw [hr] at ih h1; simp at ih; omega
    | succ n =>
      rw [hr, Nat.add_sub_cancel] at ih
      rw [hr] at h1
      have : (n + 1 + 1) * (n + 1) = (n + 1) * n + 2 * (n + 1) := by simp only [Nat.add_mul, Nat.mul_add, Nat.one_mul, Nat.mul_one]; omega
      omega
theorem inv_435 {l : List Nat} (h : l.length ≤ 30) : inv l ≤ 435 := by
  have h1 := inv_half l
  have h2 : l.length * (l.length - 1) ≤ 30 * 29 := Nat.mul_le_mul h (by omega)
  omega
section
variable {P : Program} {w : World} {K : PySem.W.Frag} {mg : Str → Option Value} {base : Heap} {f : Addr} {cdv : Value} {A : Around} {outer : List Env} {s : Shared} {H0 : Hp}
variable (Pt : Addr)
def P6 (K : PySem.W.Frag) (σ : L2.St) (H : Hp) : Prop := ∃ (a : V) (p : Addr) (n : Nat) (o : V) (l : List Nat) (x4 x5 v : V) (r : List Nat), σ = [some a, some (.ref p), some (.int (n : Int)), some o, some x4, some x5, some v, none, none, none, none, none, none, none, none, none, none, none] ∧ LS K Pt p l o H ∧ Sz n l ∧ LeastOf l r ∧ (isT K (iV r)).p v H
def P9 (K : PySem.W.Frag) (σ : L2.St) (H : Hp) : Prop := ∃ (a : V) (p : Addr) (n : Nat) (o : V) (l : List Nat) (x4 x5 x6 : V) (x7 x8 : Option V), σ = [some a, some (.ref p), some (.int (n : Int)), some o, some x4, some x5, some x6, x7, x8, none, none, none, none, none, none, none, none, none] ∧ LS K Pt p l o H ∧ Sz n l
theorem least_row {l r : List Nat} {n : Nat} (hS : Sz n l) (h : LeastOf l r) : Row n r ∧ r.length ≤ 435 := by
  have h1 := inv_435 (l := l) (by have := hS.len; have := hS.hi; omega)
  exact ⟨⟨fun i hi => by have := h.1 i hi; have := hS.len; omega, by rw [h.2.2]; omega⟩, by rw [h.2.2]; exact h1⟩
theorem step6 (T : Top K mg) (hr : Room 7 (lawX P w K mg base f cdv A outer s H0 E0).A) : Step (lawX P w K mg base f cdv A outer s H0 E0) (lawS 6) (P5 Pt K) (P6 Pt K) := by
  have C : Cl P w K mg base CX0 4 "some_row" ["order"] (spSomeRow K) := cl_someRow T
  refine ⟨_, ps_set (i := 6) sc55.nd rfl (.inl rfl) (pe_cl C hr (by decide) pass0 (pa_cons (pv 3) pa_nil)), fun D σ H ⟨a, p, n, o, l, x4, v, r, eσ, hL, hS, hR, hv⟩ k => ?_⟩
  subst eσ
  exact s_asg (eg_call (as_cons (eg_var rfl hL.ord) as_nil) (sg_someRow ⟨hS.o, by have := hS.lo; have := hS.len; omega, by have := hS.hi; have := hS.len; omega⟩)) fun v1 H1 e1 ⟨r1, h1, h2⟩ => k _ _ ⟨a, p, n, o, l, x4, v, v1, r1, rfl, hL.ex e1, hS, h1, h2⟩
theorem step7 (T : Top K mg) (hr : Room 7 (lawX P w K mg base f cdv A outer s H0 E0).A) : Step (lawX P w K mg base f cdv A outer s H0 E0) (lawS 7) (P6 Pt K) (P6 Pt K) := by
  have CZ : Cl P w K mg base CX0 4 "size_of" ["order"] (spSizeOf K) := cl_sizeOf T
  have CB : Cl P w K mg base (L2N.CX P w) 4 "order_behind" ["many", "row"] (spMR K mg (GB K)) := cl_ordB T
  refine ⟨_, ps_if (PW.pt (pw_or (pt_cmpR op_ne (pe_callB (call_lenK K) (by rfl) (T.b "len" (by decide)) PySem.boot_len (pa_cons (pv 6) pa_nil)) (pe_cl CZ hr (by decide) pass0 (pa_cons (pv 3) pa_nil)) (nomark _))
    (pw_or1 (pt_cmpR (op_neD hr.units) (pe_cl CB hr (by decide) passN (pa_cons (pv 2) (pa_cons (pv 6) pa_nil))) (pv 3) (nomark _))))) (pss_one (ps_ret pe_bl)) pss_nil, fun D σ H ⟨a, p, n, o, l, x4, x5, v, r, eσ, hL, hS, hR, hv⟩ k => ?_⟩
  subst eσ
  have hRw := least_row hS hR
  refine s_if (b := false) (eb_is (eb_or (eb_test (eg_op (eg_cb (as_cons (eg_var rfl hv) as_nil) cgk_lenT) (eg_call (as_cons (eg_var rfl hL.ord) as_nil) (sg_sizeOf ⟨hS.o, by have := hS.lo; have := hS.len; omega, by have := hS.hi; have := hS.len; omega⟩)) (og_ne rfl)))
    (fun _ => eb_test (eg_op (eg_call (as_cons (eg_v rfl) (as_cons (eg_var rfl hv) as_nil)) (sg_MR (mg := mg) ⟨hS.lo, hS.hi⟩ hRw.1)) (eg_var rfl hL.ord) og_neT))) ?_) (fun z => by cases z) (fun _ H1 e1 => k _ _ ⟨a, p, n, o, l, x4, x5, v, r, rfl, hL.ex e1, hS, hR, (isT K _).st _ _ _ e1 hv⟩)
  have e1 : behind (List.range n) r = l := by rw [← hS.len]; exact hR.2.1
  rw [iV_length, hR.2.2, e1]
  simp
theorem step8 (T : Top K mg) (hr : Room 7 (lawX P w K mg base f cdv A outer s H0 E0).A) : Step (lawX P w K mg base f cdv A outer s H0 E0) (lawS 8) (P6 Pt K) (P6 Pt K) := by
  have CB : Cl P w K mg base (L2N.CX P w) 4 "is_least_row" ["many", "row"] (spMR K mg GL) := cl_isLeast T
  refine ⟨_, ps_if (pt_cmpR op_notBl (pe_cl CB hr (by decide) passN (pa_cons (pv 2) (pa_cons (pv 6) pa_nil))) pe_bl (nomark _)) (pss_one (ps_ret pe_bl)) pss_nil, fun D σ H ⟨a, p, n, o, l, x4, x5, v, r, eσ, hL, hS, hR, hv⟩ k => ?_⟩
  subst eσ
  have hRw := least_row hS hR
  refine s_if (b := false) (eb_is (eb_test (eg_op (eg_call (as_cons (eg_v rfl) (as_cons (eg_var rfl hv) as_nil)) (sg_MR (G := GL) (mg := mg) ⟨hS.lo, hS.hi⟩ hRw.1)) eg_c og_notB)) ?_) (fun z => by cases z) (fun _ H1 e1 => k _ _ ⟨a, p, n, o, l, x4, x5, v, r, rfl, hL.ex e1, hS, hR, (isT K _).st _ _ _ e1 hv⟩)
  have e1 : behind (List.range n) r = l := by rw [← hS.len]; exact hR.2.1
  rw [e1, hR.2.2]
  simp
theorem EvG.castT {te : TE} {σ : L2.St} {H : Hp} {xs ys : List V} (e : xs = ys) (h : EvG te σ H (isT K xs)) : EvG te σ H (isT K ys) := e ▸ h
theorem two_names (t x : Nat) : (valV (mergeK [] [((Sum.inl (t : Int) : Key), V.int ((t : Int) + 1)), (Sum.inl ((t : Int) + 1), V.int (t : Int))]) (Sum.inl (x : Int))).getD (V.int (x : Int)) = V.int ((tau t x : Nat) : Int) := by
  show (valV (putK (putK [] (Sum.inl (t : Int) : Key) (V.int ((t : Int) + 1))) (Sum.inl ((t : Int) + 1)) (V.int (t : Int))) (Sum.inl (x : Int))).getD (V.int (x : Int)) = _
  rw [valV_put, valV_put, valV_nil]
  unfold tau
  by_cases h1 : x = t
  · subst h1
    rw [if_neg (fun z => by have := Sum.inl.inj z; omega), if_pos rfl, if_pos rfl]
    rfl
  · by_cases h2 : x = t + 1
    · subst h2
      rw [if_pos (by congr 1), if_neg h1, if_pos rfl]
      rfl
    · rw [if_neg (fun z => by have := Sum.inl.inj z; omega), if_neg (fun z => by have := Sum.inl.inj z; omega), if_neg h1, if_neg h2]
      rfl
theorem eg_dget2 {σ : L2.St} {H : Hp} {ta tb tc : TE} {kvs : List (Key × V)} {k : Key} {d : V} (ha : EvG ta σ H (isD kvs)) (hb : EvG tb σ H (isV (kV k))) (hc : EvG tc σ H (isV d)) : EvG (tDGet2 ta tb tc) σ H (isV ((valV kvs k).getD d)) := fun H1 e Q q =>
  ha H1 e _ fun x H2 e2 ⟨a, hx, hd⟩ => ⟨a, hx, .inl ⟨kvs, .inl hd⟩, hb H2 (e.trans e2) _ fun y H3 e3 hy => hc H3 ((e.trans e2).trans e3) _ fun z H4 e4 hz => ⟨valV kvs k, by
    cases (show y = kV k from hy)
    exact DGet.k (e4 _ _ (e3 _ _ hd)), by
    cases (show z = d from hz)
    exact q _ H4 ((e2.trans e3).trans e4) rfl⟩⟩
theorem eg_disp2 {σ : L2.St} {H : Hp} {ka va kb vb : TE} {k1 k2 : Key} {v1 v2 : V} (h1 : EvG ka σ H (isV (kV k1))) (h2 : EvG va σ H (isV v1)) (h3 : EvG kb σ H (isV (kV k2))) (h4 : EvG vb σ H (isV v2)) : EvG (tDisp [(ka, va), (kb, vb)]) σ H (isD (mergeK [] [(k1, v1), (k2, v2)])) := fun H1 e Q q p hp => by
  have e0 : Ex H1 (L2.upd H1 p (.dK [])) := Ex.new hp
  refine h1 _ (e.trans e0) _ fun x1 H2 e2 hx1 => h2 H2 ((e.trans e0).trans e2) _ fun x2 H3 e3 hx2 => h3 H3 (((e.trans e0).trans e2).trans e3) _ fun x3 H4 e4 hx3 => h4 H4 ((((e.trans e0).trans e2).trans e3).trans e4) _ fun x4 H5 e5 hx4 => ?_
  have e25 := ((e2.trans e3).trans e4).trans e5
  have hd : H5 p = some (.dK []) := e25 _ _ upd_same
  refine ⟨hd, [(k1, v1), (k2, v2)], ?_, by show 2 ≤ 15; decide, q _ _ (Ex.mut (e0.trans e25) hp) ⟨p, rfl, upd_same⟩⟩
  rw [show x1 = kV k1 from hx1, show x2 = v1 from hx2, show x3 = kV k2 from hx3, show x4 = v2 from hx4]
  rfl
theorem step9 (T : Top K mg) (hr : Room 7 (lawX P w K mg base f cdv A outer s H0 E0).A) : Step (lawX P w K mg base f cdv A outer s H0 E0) (lawS 9) (P6 Pt K) (P9 Pt K) := by
  have CD : Cl P w K mg base CX0 1 "_law_dip" ["_law_pot_here", "_law_many_here"] spDip := cl_dip T
  have CR : Cl P w K mg base (L2N.CX P w) 4 "renamed" ["order", "exchange"] (spExch K mg fun l t => l.map (tau t)) := cl_renamed T
  have CB : Cl P w K mg base (L2N.CX P w) 4 "is_least_row" ["many", "row"] (spMR K mg GL) := cl_isLeast T
  refine ⟨_, ps_if (pt_cmpR op_gt (pv 2) pe_int (nomark _))
    (pss_cons (ps_set (i := 7) sc55.nd rfl (.inl rfl) (pe_cl CD hr (by decide) pass0 (pa_cons (pv 1) (pa_cons (pe_op op_sub (pv 2) pe_int) pa_nil))))
    (pss_cons (ps_set (i := 8) sc55.nd rfl (.inr rfl) (pe_disp (pps_cons (pv 7) (pe_op op_add (pv 7) pe_int) (pps_cons (pe_op op_add (pv 7) pe_int) (pv 7) pps_nil)) rfl rfl (by decide) (by decide)))
    (pss_cons (ps_if (pt_cmpR (op_neD hr.units) (pe_cl CR hr (by decide) passN (pa_cons (pv 3) (pa_cons (pv 7) pa_nil))) (pe_tupleOf (by rfl) (T.b "tuple" (by decide)) (pe_lc (own := [("_law_one_here", 16)]) (g := gName 16) (tt := tYes) rfl sc55.nd (pi_tup (pv 3)) (blkOk_by (N := nLaw) (sc := defScope (topS 55)) (own := [("_law_one_here", 16)]) (by decide +kernel))
        (fun _ _ _ _ _ => pg_name (i := 16) sc55.nd rfl (.inl rfl)) (fun _ _ _ _ _ => pts_nil) (fun _ _ _ _ _ => pe_dget2 (hu_of hr) (pv 8) (pv 16) (pv 16) ⟨rfl, rfl, rfl, rfl⟩))) (nomark _)) (pss_one (ps_ret pe_bl)) pss_nil)
    (pss_one (ps_if (pt_cmpR op_notBl (pe_cl CB hr (by decide) passN (pa_cons (pv 2) (pa_cons (pe_op op_catA (pv 6) (pe_tup (pa_cons (pv 7) (pa_cons (pv 7) pa_nil)))) pa_nil))) pe_bl (nomark _)) (pss_one (ps_ret pe_bl)) pss_nil))))) pss_nil, fun D σ H ⟨a, p, n, o, l, x4, x5, v, r, eσ, hL, hS, hR, hv⟩ k => ?_⟩
  subst eσ
  have hRw := least_row hS hR
  have ln := hS.len
  have lo := hS.lo
  have hi := hS.hi
  refine s_if (b := decide ((1 : Int) < (n : Int))) (eb_test (eg_op (eg_v rfl) eg_c og_I0)) (fun hb H1 e1 => ?_) (fun _ H1 e1 => k _ _ ⟨a, p, n, o, l, x4, x5, v, none, none, rfl, hL.ex e1, hS⟩)
  have hn : 1 < n := by have := of_decide_eq_true hb; omega
  have en : ((n : Int) - 1) = ((n - 1 : Nat) : Int) := by omega
  have hL1 := hL.ex e1
  have hv1 := (isT K _).st _ _ _ e1 hv
  refine q_asgM (a := p) (em_call (as_cons (eg_v rfl) (as_cons (eg_is (eg_op (eg_v rfl) eg_c og_I0) (by rw [en])) as_nil)) (sm_dip (m := n - 1) (by omega))) hL1.pot fun v2 H2 e2 p2 ⟨t, ev2, ht⟩ => ?_
  subst ev2
  have hL2 := hL1.exB e2 p2
  have hv2 := firm_T.keep hL1.pot p2 e2 hv1
  have et : ((t : Int) + 1) = ((t + 1 : Nat) : Int) := rfl
  refine q_asg (eg_disp2 (k1 := Sum.inl (t : Int)) (k2 := Sum.inl ((t : Int) + 1)) (v1 := V.int ((t : Int) + 1)) (v2 := V.int (t : Int)) (eg_v rfl) (eg_op (eg_v rfl) eg_c og_I0) (eg_op (eg_v rfl) eg_c og_I0) (eg_v rfl)) fun v3 H3 e3 hv3 => ?_
  have hL3 := hL2.ex e3
  have hv3' := (isT K _).st _ _ _ e3 hv2
  refine q_when (b := false) (eb_is (eb_test (eg_op (eg_call (as_cons (eg_var rfl hL3.ord) (as_cons (eg_v rfl) as_nil)) (sg_exch (mg := mg) (g := fun l t => l.map (tau t)) hS.o (by omega) (by omega)))
    (EvG.T (eg_tupleOf (EvG.vals (iV (l.map (tau t))) (eg_lcT (xs := iV l) (fun _ => true) _ (fun _ => firm_V) (eg_var rfl hL3.ord) (by rw [iV_length]; omega) (fun _ => wipe_one _ _ _) (fun _ _ _ _ _ => eb_yes) (fun i x H4 e4 hx _ => ?_)) ?_))) og_neT)) ?_) (fun z => by cases z) (fun _ H4 e4 => ?_)
  · rw [iV_get] at hx
    obtain ⟨m, hm, rfl⟩ := Option.map_eq_some_iff.mp hx
    rw [getD_iV (l := l.map (tau t)) (n := tau t m) (by rw [List.getElem?_map, hm]; rfl)]
    exact eg_is (eg_dget2 (k := Sum.inl (m : Int)) (eg_var rfl ((isD _).st _ _ _ e4 hv3)) (eg_v rfl) (eg_v rfl)) (two_names t m)
  · rw [iV_length, iV_length, List.length_map]
  · simp
  · have hL4 := hL3.ex e4
    refine s_if (b := false) (eb_is (eb_test (eg_op (eg_call (as_cons (eg_v rfl) (as_cons (EvG.castT (iV_app r [t, t]).symm (eg_op (R1 := isT K (iV r)) (eg_var rfl ((isT K _).st _ _ _ e4 hv3')) (eg_tup (xs := iV [t, t]) (as_cons (eg_v rfl) (as_cons (eg_v rfl) as_nil)) (by show 2 ≤ 100000; decide)) (og_cat (by rw [iV_length]; show _ + 2 ≤ _; omega)))) as_nil)) (sg_MR (r := r ++ [t, t]) (G := GL) (mg := mg) ⟨hS.lo, hS.hi⟩ ⟨fun i hi => ?_, ?_⟩)) eg_c og_notB)) ?_) (fun z => by cases z)
      (fun _ H5 e5 => k _ _ ⟨a, p, n, o, l, x4, x5, v, _, _, rfl, hL4.ex e5, hS⟩)
    · rcases List.mem_append.mp hi with h | h
      · exact hRw.1.1 i h
      · have : i = t := by simpa using h
        omega
    · rw [List.length_append]; show _ + 2 ≤ _; omega
    · have e1 : behind (List.range n) (r ++ [t, t]) = l := by
        rw [behind_app, show behind (List.range n) r = l by rw [← ln]; exact hR.2.1]
        exact sw_sw l t
      rw [e1, List.length_append, hR.2.2]
      simp
end
end K2

namespace K2
open PySem PySem.Spec PyProof.Rows L2 HotX L2H K2H LamX NdefX
open Evl (Ex)
set_option Elab.async false
set_option linter.all false
set_option maxRecDepth 100000
set_option maxHeartbeats 4000000
/-! ### tuples that are tracked -/
section
variable {K : PySem.W.Frag} {H : Hp}
theorem og_catU1 {xs ys : List V} (hl : xs.length + ys.length ≤ 100000) (ne : ys ≠ []) : OpG (rCatA K) (isT K xs) (isU ys) H (isU (xs ++ ys)) := fun H1 _ x y ⟨a, hx, hs⟩ ⟨b, hy, hb⟩ Q q =>
  ⟨a, b, xs, ys, hx, hy, hs, .inl (.inl hb), Evl.sz_of hl, fun e => q _ H1 (Ex.refl H1) ⟨b, rfl, by rw [e]; exact hb⟩, fun _ e => absurd e ne, fun _ _ p hp => q _ _ (Ex.new hp) ⟨p, rfl, upd_same⟩⟩
theorem og_catU2 {xs ys : List V} (hl : xs.length + ys.length ≤ 100000) (ne : xs ≠ []) : OpG (rCatA K) (isU xs) (isT K ys) H (isU (xs ++ ys)) := fun H1 _ x y ⟨a, hx, ha⟩ ⟨b, hy, hs⟩ Q q =>
  ⟨a, b, xs, ys, hx, hy, .inl (.inl ha), hs, Evl.sz_of hl, fun e => absurd e ne, fun _ e => q _ H1 (Ex.refl H1) ⟨a, rfl, by rw [e, List.append_nil]; exact ha⟩, fun _ _ p hp => q _ _ (Ex.new hp) ⟨p, rfl, upd_same⟩⟩
end
section
variable {P : Program} {w : World} {K : PySem.W.Frag} {mg : Str → Option Value} {base : Heap}
def spSwapU (K : PySem.W.Frag) : Sp := fun vs H Q _ => ∃ (l : List Nat) (i : Nat), AllIs [isT K (iV l), isV (.int (i : Int))] vs H ∧ (i + 1 < l.length ∧ l.length ≤ 1000) ∧ Gives (isU (iV (sw l i))) H Q
theorem sg_swapU {H : Hp} {l : List Nat} {i : Nat} (h : i + 1 < l.length ∧ l.length ≤ 1000) : SpG (spSwapU K) [isT K (iV l), isV (.int (i : Int))] H (isU (iV (sw l i))) := fun _ _ _ hvs _ _ q => ⟨l, i, hvs, h, q⟩
theorem cl_swapU (T : Top K mg) : Cl P w K mg base CX0 1 "swapped_at" ["order", "place"] (spSwapU K) := by
  refine cl0 (T.d (19, _) (by decide)) sc19 (fun vs H Q E ⟨_, _, h, _⟩ => h.len) (fun _ _ _ _ _ _ us hl => match us, hl with | [_, _], _ => rfl) (fun f cdv A outer s H vs Q E hr h => ?_)
  obtain ⟨l, i, hvs, ⟨hi, hl⟩, q⟩ := h
  obtain ⟨a, b, rfl, ⟨p, rfl, hs⟩, hb⟩ := all2 hvs
  cases (show b = V.int i from hb)
  refine ⟨_, pss_one (ps_ret (pe_op op_catA (pe_op op_catA (pe_slice sl_tupA (pv 0) po_none (po_some (pv 1))) (pe_tup (pa_cons (pe_ix ix_tup (pv 0) (pe_op op_add (pv 1) pe_int) (fun _ _ => rfl)) (pa_cons (pe_ix ix_tup (pv 0) (pv 1) (fun _ _ => rfl)) pa_nil))))
    (pe_slice sl_tupA (pv 0) (po_some (pe_op op_add (pv 1) pe_int)) po_none))), ?_⟩
  have hx : l[i]? = some (l[i]'(by omega)) := List.getElem?_eq_getElem _
  have hy : l[i + 1]? = some l[i + 1] := List.getElem?_eq_getElem hi
  have e2 : ((i : Int) + 2) = ((i + 2 : Nat) : Int) := by omega
  have e1 : ((i : Int) + 1) = ((i + 1 : Nat) : Int) := by omega
  have vT : EvG (tVar 0) (L2.start ["order", "place"] [V.ref p, V.int i]) H (isT K (iV l)) := eg_vT rfl hs
  have ef : cutV (iV l) none (some (i : Int)) ++ [V.int (l[i + 1] : Nat), V.int (l[i]'(by omega) : Nat)] ++ cutV (iV l) (some ((i : Int) + 2)) none = iV (sw l i) := by
    rw [cut_take, e2, cut_drop, sw_cut l i _ _ hx hy, iV_app, iV_app]
    rfl
  rw [← ef] at q
  refine s_ret (eg_op (eg_op (eg_slT vT eo_none (eo_some (eg_v rfl))) (eg_tupU (xs := [V.int (l[i + 1] : Nat), V.int (l[i]'(by omega) : Nat)]) (as_cons (eg_op vT (eg_op (eg_v rfl) eg_c og_I0) (og_ixT (by rw [e1]; exact at_iV hy))) (as_cons (eg_op vT (eg_v rfl) (og_ixT (at_iV hx))) as_nil)) (by show 2 ≤ 100000; decide)) (og_catU1 ?_ (by simp)))
      (eg_slT vT (eo_some (eg_op (eg_v rfl) eg_c og_I0)) eo_none) (og_catU2 ?_ (by simp))) q
  · rw [cut_take, iV_length, List.length_take]
    show _ + 2 ≤ _
    omega
  · rw [List.length_append, cut_take, iV_length, List.length_take, e2, cut_drop, iV_length, List.length_drop]
    show _ + 2 + _ ≤ _
    omega
def spBehindU (K : PySem.W.Frag) : Sp := fun vs H Q _ => ∃ (l r : List Nat), AllIs [isU (iV l), isT K (iV r)] vs H ∧ ((∀ i ∈ r, i + 1 < l.length) ∧ l.length ≤ 1000) ∧ Gives (isU (iV (behind l r))) H Q
theorem sg_behindU {H : Hp} {l r : List Nat} (h : (∀ i ∈ r, i + 1 < l.length) ∧ l.length ≤ 1000) : SpG (spBehindU K) [isU (iV l), isT K (iV r)] H (isU (iV (behind l r))) := fun _ _ _ hvs _ _ q => ⟨l, r, hvs, h, q⟩
theorem cl_behindU (T : Top K mg) : Cl P w K mg base CX0 2 "behind_row" ["order", "row"] (spBehindU K) := by
  have CS : Cl P w K mg base CX0 1 "swapped_at" ["order", "place"] (spSwapU K) := cl_swapU T
  refine cl0 (T.d (22, _) (by decide)) sc22 (fun vs H Q E ⟨_, _, h, _⟩ => h.len) (fun _ _ _ _ _ _ us hl => match us, hl with | [_, _], _ => rfl) (fun f cdv A outer s H vs Q E hr h => ?_)
  obtain ⟨l, r, hvs, ⟨hi, hl⟩, q⟩ := h
  obtain ⟨a, b, rfl, ha, ⟨p2, rfl, hs2⟩⟩ := all2 hvs
  refine ⟨_, pss_cons (ps_for PassesOwn.never rfl (pi_tup (pv 1)) (pg_name (i := 2) sc22.nd rfl (.inl rfl))
      (pss_one (ps_set (i := 0) sc22.nd rfl (.inl rfl) (pe_cl CS hr (by decide) pass0 (pa_cons (pv 0) (pa_cons (pv 2) pa_nil))))))
    (pss_one (ps_ret (pv 0))), ?_⟩
  refine s_forT (eg_vT rfl hs2) fun a2 H1 e1 hq => ⟨fun i σ H' => ∃ o c, σ = [some o, some (.ref p2), c] ∧ Ex H1 H' ∧ (isU (iV (behind l (r.take i)))).p o H', ⟨_, none, rfl, Ex.refl _, (isU _).st _ _ _ e1 ha⟩,
    fun i σ H' ⟨_, _, _, e, _⟩ => Evl.ex_t e hq, fun i x σ H' hx ⟨o, c, eσ, e, ho⟩ => ?_, fun σ H' ⟨o, c, eσ, e, ho⟩ => ?_⟩
  · subst eσ
    rw [iV_get] at hx
    obtain ⟨n, hn, rfl⟩ := Option.map_eq_some_iff.mp hx
    have hb : behind l (r.take (i + 1)) = sw (behind l (r.take i)) n := by rw [List.take_add_one, hn]; exact behind_snoc _ _ _
    exact s_asg (eg_call (as_cons (eg_var (R := isT K _) rfl (isU_T ho)) (as_cons (eg_v rfl) as_nil)) (sg_swapU ⟨by rw [behind_length]; exact hi n (List.mem_of_getElem? hn), by rw [behind_length]; exact hl⟩)) fun v H2 e2 hv => ⟨v, some _, rfl, e.trans e2, by rw [hb]; exact hv⟩
  · subst eσ
    rw [iV_length, List.take_length] at ho
    exact s_ret (eg_var rfl ho) fun v H2 e2 hv => q v H2 ((e1.trans e).trans e2) hv
abbrev GBU : Nat → List Nat → Is := fun n r => isU (iV (behind (List.range n) r))
theorem cl_ordBU (T : Top K mg) : Cl P w K mg base (L2N.CX P w) 4 "order_behind" ["many", "row"] (spMR K mg GBU) := by
  have CM : Cl P w K mg base (L2N.CX P w) 2 "need_many" ["value"] (spNeedM K mg) := cl_needM T
  have CR : Cl P w K mg base (L2N.CX P w) 3 "need_row" ["many", "value"] (spNeedR K mg) := cl_needR T
  have CB : Cl P w K mg base CX0 2 "behind_row" ["order", "row"] (spBehindU K) := cl_behindU T
  refine clN (T.d (32, _) (by decide)) sc32 (fun vs H Q E ⟨_, _, h, _⟩ => h.len) (fun _ _ _ _ _ _ us hl => match us, hl with | [_, _], _ => rfl) (fun f cdv A outer s H vs Q E hr h => ?_)
  obtain ⟨u, o, hvs, qm, q⟩ := h
  obtain ⟨a, b, rfl, ha, hb⟩ := all2 hvs
  have hb : OddR K H b o := hb
  refine ⟨_, pss_cons (ps_expr (pe_cl CM hr (by decide) pass_up (pa_cons (pv 0) pa_nil))) (pss_cons (ps_expr (pe_cl CR hr (by decide) pass_up (pa_cons (pv 0) (pa_cons (pv 1) pa_nil))))
    (pss_one (ps_ret (pe_cl CB hr (by decide) pass0 (pa_cons (pe_tupRg rfl (by rfl) (T.b "tuple" (by decide)) (prg_1 (by rfl) (T.b "range" (by decide)) (pv 0))) (pa_cons (pv 1) pa_nil)))))), ?_⟩
  refine q_chk (mg := mg) (as_cons (eg_var rfl ha) as_nil) ck_many (fun hw H1 e1 => ?_) qm
  obtain ⟨z, rfl, h3, h4⟩ := whole_int hw
  have ez : z = ((z.toNat : Nat) : Int) := by omega
  rw [ez] at ha q
  obtain ⟨q1, q2⟩ := q z.toNat rfl ⟨by omega, by omega⟩
  refine q_chk (mg := mg) (as_cons (eg_var rfl ha.1) (as_cons (eg_var rfl (hb.ex e1)) as_nil)) ck_row (fun hf H2 e2 => ?_) (fun hf => (q1 hf).ex e1)
  obtain ⟨xs, rfl⟩ := fits_some hf
  obtain ⟨r, rfl, hrw⟩ := fitsR_row hf
  have hlen : (List.range z.toNat).length = z.toNat := List.length_range
  exact s_ret (eg_call (as_cons (eg_tupRg (eg_var rfl ha.1) (by omega)) (as_cons (eg_var rfl ((isT K _).st _ _ _ (e1.trans e2) (oddR_fits hb))) as_nil)) (sg_behindU ⟨fun i hi => by rw [hlen]; exact hrw.1 i hi, by rw [hlen]; omega⟩))
    fun v H3 e3 hv => q2 r rfl hrw v H3 ((e1.trans e2).trans e3) hv
end
end K2

namespace K2
open PySem PySem.Spec PyProof.Rows L2 HotX L2H K2H LamX NdefX
open Evl (Ex)
set_option Elab.async false
set_option linter.all false
set_option maxRecDepth 100000
set_option maxHeartbeats 4000000
section
variable {K : PySem.W.Frag} {σ : L2.St} {H : Hp}
theorem cg_lenLeast {l : List Nat} : CbG (rLenK K) [isLeast K l] H (isV (.int (inv l : Nat))) := fun H1 _ vs hvs Q q => by
  obtain ⟨a, rfl, r, hr, b, rfl, hs⟩ := all1 hvs
  exact ⟨b, iV r, rfl, .inr hs, q _ H1 (Ex.refl H1) (by rw [iV_length, hr.2.2]; rfl)⟩
theorem eg_dgetT {ta tb : TE} {k : Kn} {l : List Nat} {v : Nat} (ha : EvG ta σ H (isKn k)) (hb : EvG tb σ H (isU (iV l))) (hv : lk k l = some v) : EvG (tDGet ta tb) σ H (isV (.int (v : Int))) := fun H1 e Q q =>
  ha H1 e _ fun x H2 e2 ⟨a, hx, hd⟩ => hb H2 (e.trans e2) _ fun y H3 e3 ⟨b, hy, ht⟩ => ⟨a, .int (v : Int), hx, by
    subst hy
    have := dget_kn (e3 _ _ hd) ht
    rw [hv] at this
    exact this, q _ H3 (e2.trans e3) rfl⟩
/-- a dict's keys looked through: none is kept -/
theorem eg_lcK {tt : TT} {te : TE} {i j : Nat} {d : Addr} {kn : Kn} (hσ : σ[i]? = some (some (.ref d))) (hi : i ≠ j) (hd : H d = some (.dT (kvT kn))) (hz : kn.length ≤ 1000)
    (ht : ∀ (od : Obj) (l : List Nat) (v : Nat) (q : Addr) H1, (l, v) ∈ kn → H1 d = some (.frz od (.dT (kvT kn))) → H1 q = some (.tup (iV l)) → EvB tt ((wipe σ [j]).set j (some (.ref q))) H1 false) :
    EvG (tLockE (tLc (iKeys (tVar i)) (gName j) tt te [j])) σ H (isL K []) := fun H1 e Q q => by
  have hd1 := e _ _ hd
  refine ⟨d, .dT (kvT kn), hd1, trivial, fun od => ⟨.ref d, hσ, d, od, rfl, .inr ⟨kvT kn, upd_same, fun D hD => ?_⟩⟩⟩
  have nDd : D ≠ d := fun z => by rw [z, upd_same] at hD; cases hD
  have x0 : Ex (L2.upd H1 d (.frz od (.dT (kvT kn)))) (L2.upd (L2.upd H1 d (.frz od (.dT (kvT kn)))) D (.lst [])) := Ex.new hD
  refine ⟨fun i m H' => m = (kvT kn).length - i ∧ i ≤ (kvT kn).length ∧ Ex (L2.upd H1 d (.frz od (.dT (kvT kn)))) H' ∧ H' D = some (.lst []), ⟨_, rfl, Nat.zero_le _, x0, upd_same⟩, fun i m H' ⟨hm, hle, x, hD'⟩ => ?_⟩
  have hf : H' d = some (.frz od (.dT (kvT kn))) := x _ _ upd_same
  by_cases hlt : i < (kvT kn).length
  · refine .inr ⟨⟨hf, hlt⟩, fun H2 => Ex (L2.upd H1 d (.frz od (.dT (kvT kn)))) H2 ∧ H2 D = some (.lst []), fun H2 ⟨a, b⟩ => ⟨(kvT kn).length - (i + 1), by omega, rfl, hlt, a, b⟩, fun y H2 ⟨eH, k, v, q2, hk, ey, hq⟩ => ?_⟩
    subst eH ey
    unfold kvT at hk
    rw [List.getElem?_map] at hk
    obtain ⟨pr, hpr, epr⟩ := Option.map_eq_some_iff.mp hk
    obtain ⟨ek, ev⟩ := Prod.mk.inj epr
    subst ek ev
    rw [key_V] at hq
    refine ⟨wipe_one _ _ _, ht od pr.1 pr.2 q2 H2 (List.mem_of_getElem? hpr) hf hq H2 (Ex.refl _) _ fun H3 e3 => ?_⟩
    exact ⟨x.trans e3, e3 _ _ hD'⟩
  · refine .inl ⟨⟨hf, by omega⟩, hf, q _ _ (fun b o hb => ?_) ⟨D, rfl, .inl (.inl (by rw [upd_ne nDd]; exact hD'))⟩⟩
    by_cases hbd : b = d
    · rw [hbd, upd_same, ← hd1, ← hbd]
      exact hb
    · rw [upd_ne hbd]
      exact x b o (by rw [upd_ne hbd]; exact hb)
end
section
variable {P : Program} {w : World} {K : PySem.W.Frag} {mg : Str → Option Value} {base : Heap} {f : Addr} {cdv : Value} {A : Around} {outer : List Env} {s : Shared} {H0 : Hp}
variable (Pt : Addr)
def P10 (K : PySem.W.Frag) (σ : L2.St) (H : Hp) : Prop := ∃ (a : V) (p : Addr) (n : Nat) (o : V) (l : List Nat) (x4 x5 x6 x7 x8 : Option V) (m : Nat), σ = [some a, some (.ref p), some (.int (n : Int)), some o, x4, x5, x6, x7, x8, some (.int (m : Int)), none, none, none, none, none, none, none, none] ∧ LS K Pt p l o H ∧ Sz n l ∧ m ∈ [2, 3, 4]
def P11 (K : PySem.W.Frag) (σ : L2.St) (H : Hp) : Prop := ∃ (a : V) (p : Addr) (n : Nat) (o : V) (l : List Nat) (x4 x5 x6 x7 x8 : Option V) (m : Nat) (d : Addr), σ = [some a, some (.ref p), some (.int (n : Int)), some o, x4, x5, x6, x7, x8, some (.int (m : Int)), some (.ref d), none, none, none, none, none, none, none] ∧ LS K Pt p l o H ∧ Sz n l ∧ m ∈ [2, 3, 4] ∧ H d = some (.dT (kvT (known m)))
def P12 (K : PySem.W.Frag) (σ : L2.St) (H : Hp) : Prop := ∃ (a : V) (p : Addr) (n : Nat) (o : V) (l : List Nat) (x4 x5 x6 x7 x8 : Option V) (m : Nat) (d : Addr) (v : V) (r : List Nat), σ = [some a, some (.ref p), some (.int (n : Int)), some o, x4, x5, x6, x7, x8, some (.int (m : Int)), some (.ref d), some v, none, none, none, none, none, none] ∧ LS K Pt p l o H ∧ Sz n l ∧ m ∈ [2, 3, 4] ∧ H d = some (.dT (kvT (known m))) ∧
  Row m r ∧ (isT K (iV r)).p v H
def P13 (K : PySem.W.Frag) (σ : L2.St) (H : Hp) : Prop := ∃ (a : V) (p : Addr) (n : Nat) (o : V) (l : List Nat) (x4 x5 x6 x7 x8 : Option V) (m : Nat) (d : Addr) (v : V) (r : List Nat) (u : V), σ = [some a, some (.ref p), some (.int (n : Int)), some o, x4, x5, x6, x7, x8, some (.int (m : Int)), some (.ref d), some v, some u, none, none, none, none, none] ∧ LS K Pt p l o H ∧ Sz n l ∧ m ∈ [2, 3, 4] ∧ H d = some (.dT (kvT (known m))) ∧
  Row m r ∧ (isT K (iV r)).p v H ∧ (isU (iV (behind (List.range m) r))).p u H
def P15 (K : PySem.W.Frag) (σ : L2.St) (H : Hp) : Prop := ∃ (a : V) (p : Addr) (n : Nat) (o : V) (l : List Nat) (x4 x5 x6 x7 x8 x9 x10 x11 x12 : Option V), σ = [some a, some (.ref p), some (.int (n : Int)), some o, x4, x5, x6, x7, x8, x9, x10, x11, x12, none, none, none, none, none] ∧ LS K Pt p l o H ∧ Sz n l
theorem m_small {m : Nat} (h : m ∈ [2, 3, 4]) : 2 ≤ m ∧ m ≤ 4 := by
  have : ∀ m ∈ [2, 3, 4], 2 ≤ m ∧ m ≤ 4 := by decide
  exact this m h
theorem step10 (T : Top K mg) (hr : Room 7 (lawX P w K mg base f cdv A outer s H0 E0).A) : Step (lawX P w K mg base f cdv A outer s H0 E0) (lawS 10) (P9 Pt K) (P10 Pt K) := by
  have C : Cl P w K mg base CX0 2 "_law_one" ["_law_pot_here", "_law_some"] (spOne K) := cl_one T
  refine ⟨_, ps_set (i := 9) sc55.nd rfl (.inr rfl) (pe_cl C hr (by decide) pass0 (pa_cons (pv 1) (pa_cons (pe_lst (pa_cons pe_int (pa_cons pe_int (pa_cons pe_int (pa_cons pe_int pa_nil))))) pa_nil))), fun D σ H ⟨a, p, n, o, l, x4, x5, x6, x7, x8, eσ, hL, hS⟩ k => ?_⟩
  subst eσ
  refine s_asgM (em_call (as_cons (eg_v rfl) (as_cons (eg_lstN (Rs := ([2, 3, 3, 4] : List Int).map fun i => isV (.int i)) (as_cons eg_c (as_cons eg_c (as_cons eg_c (as_cons eg_c as_nil)))) (by decide)) as_nil)) (sm_oneN (K := K) (xs := ([2, 3, 3, 4] : List Int).map V.int) hL.pot (by decide))) hL.pot fun v H1 e1 p1 hv => ?_
  obtain ⟨i, hi, rfl⟩ := List.mem_map.mp (show v ∈ _ from hv)
  have hb : ∀ i ∈ ([2, 3, 3, 4] : List Int), i.toNat ∈ [2, 3, 4] ∧ ((i.toNat : Nat) : Int) = i := by decide
  obtain ⟨h1, h2⟩ := hb i hi
  rw [← h2]
  exact k _ _ ⟨a, p, n, o, l, some x4, some x5, some x6, x7, x8, i.toNat, rfl, hL.exB e1 p1, hS, h1⟩
theorem step11 (T : Top K mg) (hr : Room 7 (lawX P w K mg base f cdv A outer s H0 E0).A) : Step (lawX P w K mg base f cdv A outer s H0 E0) (lawS 11) (P10 Pt K) (P11 Pt K) := by
  have C : Cl P w K mg base CX0 2 "_law_steps" ["_law_many_here"] spSteps := cl_steps T
  refine ⟨_, ps_set (i := 10) sc55.nd rfl (.inr rfl) (pe_cl C hr (by decide) pass0 (pa_cons (pv 9) pa_nil)), fun D σ H ⟨a, p, n, o, l, x4, x5, x6, x7, x8, m, eσ, hL, hS, hm⟩ k => ?_⟩
  subst eσ
  exact s_asg (eg_call (as_cons (eg_v rfl) as_nil) (sg_steps hm)) fun v H1 e1 ⟨d, ev, hd⟩ => by subst ev; exact k _ _ ⟨a, p, n, o, l, x4, x5, x6, x7, x8, m, d, rfl, hL.ex e1, hS, hm, hd⟩
theorem step12 (T : Top K mg) (hr : Room 7 (lawX P w K mg base f cdv A outer s H0 E0).A) : Step (lawX P w K mg base f cdv A outer s H0 E0) (lawS 12) (P11 Pt K) (P12 Pt K) := by
  have C : Cl P w K mg base CX0 1 "_law_dip" ["_law_pot_here", "_law_many_here"] spDip := cl_dip T
  refine ⟨_, ps_set (i := 11) sc55.nd rfl (.inl rfl) (pe_tupleOf (by rfl) (T.b "tuple" (by decide)) (pe_lc (own := [("_law_turn", 15)]) (g := gName 15) (tt := tYes) rfl sc55.nd (pi_range1 (by rfl) (T.b "range" (by decide)) (pa_cons (pe_cl C hr (by decide) pass0 (pa_cons (pv 1) (pa_cons pe_int pa_nil))) pa_nil)) (blkOk_by (N := nLaw) (sc := defScope (topS 55)) (own := [("_law_turn", 15)]) (by decide +kernel))
    (fun _ _ _ _ _ => pg_name (i := 15) sc55.nd rfl (.inl rfl)) (fun _ _ _ _ _ => pts_nil) (fun _ _ _ _ _ => pe_cl C hr (by decide) pass0 (pa_cons (pv 1) (pa_cons (pe_op op_sub (pv 9) pe_int) pa_nil))))), fun D σ H ⟨a, p, n, o, l, x4, x5, x6, x7, x8, m, d, eσ, hL, hS, hm, hd⟩ k => ?_⟩
  subst eσ
  have ms := m_small hm
  have e1 : ((m : Int) - 1) = ((m - 1 : Nat) : Int) := by omega
  refine s_asgM (a := p) (R := isRwT K (m - 1) 7) (em_tupRow (em_lcR (b := 7) (m := m - 1) (em_call (as_cons (eg_v rfl) (as_cons eg_c as_nil)) (sm_dip (m := 7) (by decide))) (by decide) (fun _ => wipe_one _ _ _) (fun i H' _ _ => em_call (as_cons (eg_v rfl) (as_cons (eg_is (eg_op (eg_v rfl) eg_c og_I0) (by rw [e1])) as_nil)) (sm_dip (by omega))))) hL.pot
    fun v H1 e1 p1 ⟨r, hr1, hr2, hv⟩ => k _ _ ⟨a, p, n, o, l, x4, x5, x6, x7, x8, m, d, v, r, rfl, hL.exB e1 p1, hS, hm, ?_, ⟨fun i hi => by have := hr2 i hi; omega, by omega⟩, hv⟩
  obtain ⟨d', ed, hd'⟩ := firm_Kn.keep (R := isKn (known m)) hL.pot p1 e1 (v := .ref d) ⟨d, rfl, hd⟩
  cases ed
  exact hd'
theorem step13 (T : Top K mg) (hr : Room 7 (lawX P w K mg base f cdv A outer s H0 E0).A) : Step (lawX P w K mg base f cdv A outer s H0 E0) (lawS 13) (P12 Pt K) (P13 Pt K) := by
  have C : Cl P w K mg base (L2N.CX P w) 4 "order_behind" ["many", "row"] (spMR K mg GBU) := cl_ordBU T
  refine ⟨_, ps_set (i := 12) sc55.nd rfl (.inl rfl) (pe_cl C hr (by decide) passN (pa_cons (pv 9) (pa_cons (pv 11) pa_nil))), fun D σ H ⟨a, p, n, o, l, x4, x5, x6, x7, x8, m, d, v, r, eσ, hL, hS, hm, hd, hR, hv⟩ k => ?_⟩
  subst eσ
  have ms := m_small hm
  exact s_asg (eg_call (as_cons (eg_v rfl) (as_cons (eg_var rfl hv) as_nil)) (sg_MR (mg := mg) (G := GBU) ⟨by omega, by omega⟩ hR)) fun u H1 e1 hu => k _ _ ⟨a, p, n, o, l, x4, x5, x6, x7, x8, m, d, v, r, u, rfl, hL.ex e1, hS, hm, e1 _ _ hd, hR, (isT K _).st _ _ _ e1 hv, hu⟩
theorem step14 (T : Top K mg) (hr : Room 7 (lawX P w K mg base f cdv A outer s H0 E0).A) : Step (lawX P w K mg base f cdv A outer s H0 E0) (lawS 14) (P13 Pt K) (P13 Pt K) := by
  have C : Cl P w K mg base (L2N.CX P w) 4 "is_least_row" ["many", "row"] (spMR K mg GL) := cl_isLeast T
  refine ⟨_, ps_if (pt_cmpR op_ne (pe_cl C hr (by decide) passN (pa_cons (pv 9) (pa_cons (pv 11) pa_nil))) (pe_cmpR op_eq (pe_dget (hu_of hr) (pv 10) (pv 12) (fun _ _ => rfl)) (pe_callB (call_lenK K) (by rfl) (T.b "len" (by decide)) PySem.boot_len (pa_cons (pv 11) pa_nil)) (nomark _)) (nomark _)) (pss_one (ps_ret pe_bl)) pss_nil,
    fun D σ H ⟨a, p, n, o, l, x4, x5, x6, x7, x8, m, d, v, r, u, eσ, hL, hS, hm, hd, hR, hv, hu⟩ k => ?_⟩
  subst eσ
  have ms := m_small hm
  refine s_if (b := false) (eb_is (eb_test (eg_op (eg_call (as_cons (eg_v rfl) (as_cons (eg_var rfl hv) as_nil)) (sg_MR (mg := mg) (G := GL) ⟨by omega, by omega⟩ hR)) (eg_op (eg_dgetT (eg_var (R := isKn (known m)) rfl ⟨d, rfl, hd⟩) (eg_var rfl hu) (known_at hm hR.1)) (eg_is (eg_cb (as_cons (eg_var rfl hv) as_nil) cgk_lenT) (by rw [iV_length])) og_eqN) (og_ne rfl))) ?_) (fun z => by cases z)
    (fun _ H1 e1 => k _ _ ⟨a, p, n, o, l, x4, x5, x6, x7, x8, m, d, v, r, u, rfl, hL.ex e1, hS, hm, e1 _ _ hd, hR, (isT K _).st _ _ _ e1 hv, (isU _).st _ _ _ e1 hu⟩)
  simp
theorem step15 (T : Top K mg) (hr : Room 7 (lawX P w K mg base f cdv A outer s H0 E0).A) : Step (lawX P w K mg base f cdv A outer s H0 E0) (lawS 15) (P13 Pt K) (P15 Pt K) := by
  have C : Cl P w K mg base CX0 4 "some_row" ["order"] (spSomeRow K) := cl_someRow T
  refine ⟨_, ps_if (pt_cmpR (op_neD hr.units) (pe_lock (pe_lc (own := [("_law_one_here", 16)]) (g := gName 16) rfl sc55.nd (pi_keys (pv 10)) (blkOk_by (N := nLaw) (sc := defScope (topS 55)) (own := [("_law_one_here", 16)]) (by decide +kernel))
        (fun _ _ _ _ _ => pg_name (i := 16) sc55.nd rfl (.inl rfl)) (fun _ _ _ _ _ => pts_one (pt_cmpR op_ne (pe_callB (call_lenK K) (by rfl) (T.b "len" (by decide)) PySem.boot_len (pa_cons (pe_cl C hr (by decide) pass0 (pa_cons (pv 16) pa_nil)) pa_nil)) (pe_dget (hu_of hr) (pv 10) (pv 16) (fun _ _ => rfl)) (nomark _))) (fun _ _ _ _ _ => pv 16))) (pe_lst pa_nil) (nomark _)) (pss_one (ps_ret pe_bl)) pss_nil,
    fun D σ H ⟨a, p, n, o, l, x4, x5, x6, x7, x8, m, d, v, r, u, eσ, hL, hS, hm, hd, hR, hv, hu⟩ k => ?_⟩
  subst eσ
  have ms := m_small hm
  refine s_if (b := false) (eb_is (eb_test (eg_op (R1 := isL K (iV [])) (eg_lcK (d := d) (kn := known m) rfl (by decide) hd ?_ (fun od l' v' q H1 hmem hf hq => ?_)) (EvG.L (xs := iV []) (eg_lst as_nil (by show 0 ≤ 100000; decide))) og_neL)) (by simp)) (fun z => by cases z)
    (fun _ H1 e1 => k _ _ ⟨a, p, n, o, l, x4, x5, x6, x7, x8, _, _, _, _, rfl, hL.ex e1, hS⟩)
  · have : ∀ m ∈ [2, 3, 4], (known m).length ≤ 1000 := by decide +kernel
    exact this m hm
  · obtain ⟨ko, kl, ki⟩ := known_ord hm hmem
    refine eb_is (eb_test (eg_op (eg_cb (as_cons (eg_call (as_cons (eg_var (R := isT K (iV l')) rfl ⟨q, rfl, .inl (.inl hq)⟩) as_nil) (sg_someRow ⟨ko, by show 1 ≤ l'.length; have : l'.length = m := kl; omega, by show l'.length ≤ 30; have : l'.length = m := kl; omega⟩)) as_nil) cg_lenLeast)
      (fun H2 e2 Q q' => ⟨.ref d, rfl, .ref q, rfl, d, V.int (v' : Int), rfl, .inr ⟨kvT (known m), keyOf l', q, .inr ⟨od, e2 _ _ hf⟩, rfl, by rw [key_V]; exact e2 _ _ hq, ?_⟩, q' _ H2 (Ex.refl H2) rfl⟩) (og_ne rfl))) ?_
    · obtain ⟨v2, hv2, hm2⟩ := lk_mem (k := known m) (l := l') (List.mem_map.mpr ⟨_, hmem, rfl⟩)
      have e4 : v2 = inv l' := (known_ord hm hm2).2.2
      have e5 : v' = inv l' := ki
      rw [kvT_val, hv2, e4, e5]
      rfl
    · have e3 : v' = inv l' := ki
      rw [e3]
      simp
end
end K2

namespace K2
open PySem PySem.Spec PyProof.Rows L2 HotX L2H K2H LamX NdefX
open Evl (Ex)
set_option Elab.async false
set_option linter.all false
set_option maxRecDepth 100000
set_option maxHeartbeats 4000000
/-! ### lists of one text -/
def dS (n : Nat) (x : Str) : List PyData := List.replicate n (PyData.str x)
theorem dpS {K : PySem.W.Frag} {H : Hp} (x : Str) : ∀ n : Nat, DpAll K H (List.replicate n (V.str x)) (dS n x)
  | 0 => .nil
  | n + 1 => .cons (.str x) (dpS x n)
theorem layS (x : Str) (hx : (PyData.str x).canLay0 = true) : ∀ n : Nat, PyData.canLayAll0 (dS n x) = true
  | 0 => rfl
  | n + 1 => by
    have ih := layS x hx n
    unfold dS at ih ⊢
    rw [List.replicate_succ, PyData.canLayAll0, ih, hx]
    rfl
theorem depS (x : Str) : ∀ n : Nat, PyData.depthAll (dS n x) ≤ 1
  | 0 => by simp [dS, PyData.depthAll]
  | n + 1 => by
    have ih := depS x n
    unfold dS at ih ⊢
    rw [List.replicate_succ, PyData.depthAll, PyData.depth]
    omega
theorem shS (n : Nat) (x : Str) (hx : (PyData.str x).canLay0 = true) : SeqAt.shaped (.list (dS n x)) = true := by
  unfold SeqAt.shaped
  rw [Bool.and_eq_true, decide_eq_true_eq, PyData.canLay0, PyData.depth]
  exact ⟨layS x hx n, by have := depS x n; omega⟩
theorem eqvS (x : Str) : ∀ n : Nat, PyData.eqvAll (dS n x) (dS n x) = true
  | 0 => by simp [dS, PyData.eqvAll]
  | n + 1 => by
    have ih := eqvS x n
    unfold dS at ih ⊢
    rw [List.replicate_succ, PyData.eqvAll, ih, PyData.eqv]
    simp
section
variable {K : PySem.W.Frag} {σ : L2.St} {H : Hp} {te ta tb : TE}
theorem og_neS {n : Nat} {x : Str} (hx : (PyData.str x).canLay0 = true) : OpG (rNeD K) (isL K (List.replicate n (.str x))) (isL K (List.replicate n (.str x))) H (isV (.bl false)) := fun H1 _ y z ⟨a, hy, hs⟩ ⟨b, hz, hs'⟩ Q q => by
  subst hy hz
  refine ⟨.list (dS n x), .list (dS n x), .lst hs (dpS x n), .lst hs' (dpS x n), shS n x hx, shS n x hx, ?_⟩
  rw [PyData.eqv, eqvS]
  exact q _ H1 (Ex.refl H1) rfl
theorem isLs_S {n : Nat} {x : Str} {v : V} (h : (isLs K (List.replicate n (isV (.str x)))).p v H) : (isL K (List.replicate n (.str x))).p v H := isLs_L (xs := List.replicate n (.str x)) (by rw [List.map_replicate]; exact h)
theorem eg_rep {x : Str} {n : Nat} (h : EvG ta σ H (isLs K ([V.str x].map isV))) (hb : EvG tb σ H (isV (.int (n : Int)))) (hn : n ≤ 1000) : EvG (tOp rRep ta tb) σ H (isL K (List.replicate n (.str x))) := fun H1 e Q q =>
  h H1 e _ fun u H2 e2 ⟨a, vs, hu, ha, hv⟩ => hb H2 (e.trans e2) _ fun w H3 e3 hw => ⟨a, (n : Int), vs, hu, hw, e3 _ _ ha, by omega, by omega, by
    rw [allV (xs := [V.str x]) hv]
    show 1 * _ ≤ _
    exact Evl.sz_of (by omega), fun p hp => q _ _ ((e2.trans e3).trans (Ex.new hp)) ⟨p, rfl, .inl (.inl (by
      rw [upd_same, allV (xs := [V.str x]) hv]
      have e4 : ∀ k : Nat, (List.replicate k [V.str x]).flatten = List.replicate k (V.str x) := fun k => by
        induction k with
        | zero => rfl
        | succ k ih => rw [List.replicate_succ, List.flatten_cons, ih]; rfl
      rw [e4]
      rfl))⟩⟩
theorem eg_repT {n : Nat} (h : EvG ta σ H (isT K [V.int 0])) (hb : EvG tb σ H (isV (.int (n : Int)))) (hn : 2 ≤ n ∧ n ≤ 1000) : EvG (tOp (rRepT K) ta tb) σ H (isT K (iV (List.replicate n 0))) := fun H1 e Q q =>
  h H1 e _ fun u H2 e2 ⟨a, hu, ha⟩ => hb H2 (e.trans e2) _ fun w H3 e3 hw => ⟨a, (n : Int), [V.int 0], hu, hw, Evl.ex_t e3 ha, by simp, by omega, by omega, by decide, fun p hp => q _ _ ((e2.trans e3).trans (Ex.new hp)) ⟨p, rfl, .inl (.inl (by
      rw [upd_same]
      have e4 : ∀ k : Nat, (List.replicate k [V.int 0]).flatten = iV (List.replicate k 0) := fun k => by
        induction k with
        | zero => rfl
        | succ k ih => rw [List.replicate_succ, List.flatten_cons, ih]; rfl
      rw [e4]
      rfl))⟩⟩
/-- what is no row of n things -/
def isBadR (K : PySem.W.Frag) (n : Nat) : Is := ⟨fun v H => ∃ o, OddR K H v o ∧ fitsR (n : Int) o = false, fun _ _ _ e ⟨o, h1, h2⟩ => ⟨o, h1.ex e, h2⟩⟩
theorem badR_o {n : Nat} {R : Is} {s : String} (h : EvG te σ H R) (k : ∀ v H1, R.p v H1 → KTy K H1 v s) (hs : kitB s "tuple" = some false) : EvG te σ H (isBadR K n) := h.imp fun v H1 _ hv => ⟨none, .oth (k v H1 hv) hs, rfl⟩
theorem badR_t {n : Nat} {xs : List V} (h : EvG te σ H (isT K xs)) (hz : xs.length ≤ 1000) (hk : xs.length ≤ 450 → ∀ H, ∀ x ∈ xs, Knd K H x) (hf : fitsR (n : Int) (some xs) = false) : EvG te σ H (isBadR K n) := h.imp fun v H1 _ ⟨a, e, hs⟩ => ⟨some xs, by rw [e]; exact .tup hs hz fun z x hx => hk z H1 x hx, hf⟩
theorem badR_1 {n : Nat} {u : V} (h : EvG te σ H (isT K [u])) (hk : ∀ H, Knd K H u) (hf : whole u 0 ((n : Int) - 2) = false) : EvG te σ H (isBadR K n) := badR_t h (by show 1 ≤ 1000; decide) (fun _ H x hx => by rw [List.mem_singleton.mp hx]; exact hk H) (by
  show (decide (1 ≤ 450) && wholes [u] 0 ((n : Int) - 2)) = false
  unfold wholes
  simp [hf])
theorem kept_none (n : Nat) (Rv : Nat → Is) : kept n (fun _ => false) Rv = [] := by simp [kept]
end
section
variable {P : Program} {w : World} {K : PySem.W.Frag} {mg : Str → Option Value} {base : Heap} {f : Addr} {cdv : Value} {A : Around} {outer : List Env} {s : Shared} {H0 : Hp}
variable (Pt : Addr)
def P16 (K : PySem.W.Frag) (σ : L2.St) (H : Hp) : Prop := ∃ (a : V) (p : Addr) (n : Nat) (o : V) (l : List Nat) (x4 x5 x6 x7 x8 x9 x10 x11 x12 : Option V) (v : V) (x14 : Option V), σ = [some a, some (.ref p), some (.int (n : Int)), some o, x4, x5, x6, x7, x8, x9, x10, x11, x12, some v, x14, none, none, none] ∧ LS K Pt p l o H ∧ Sz n l ∧ (isLs K (List.replicate 8 (isBadR K n))).p v H
theorem step16 (T : Top K mg) (hr : Room 7 (lawX P w K mg base f cdv A outer s H0 E0).A) : Step (lawX P w K mg base f cdv A outer s H0 E0) (lawS 16) (P15 Pt K) (P16 Pt K) := by
  refine ⟨_, ps_set (i := 13) sc55.nd rfl (.inl rfl) (pe_lst (pa_cons pe_non (pa_cons (pe_lst (pa_cons pe_int pa_nil)) (pa_cons (pe_tup (pa_cons (pe_op op_sub (pv 2) pe_int) pa_nil)) (pa_cons (pe_tup (pa_cons (pe_un un_neg pe_int) pa_nil)) (pa_cons (pe_tup (pa_cons pe_bl pa_nil)) (pa_cons (pe_tup (pa_cons pe_str pa_nil)) (pa_cons (pe_op op_repT (pe_tup (pa_cons pe_int pa_nil)) pe_int) (pa_cons pe_int pa_nil))))))))),
    fun D σ H ⟨a, p, n, o, l, x4, x5, x6, x7, x8, x9, x10, x11, x12, eσ, hL, hS⟩ k => ?_⟩
  subst eσ
  refine s_asg (R := isLs K (List.replicate 8 (isBadR K n))) (eg_lst (as_cons (badR_o (R := isV .non) (s := "NoneType") eg_c (fun v H1 hv => by rw [show v = V.non from hv]; exact .non) (by decide +kernel)) (as_cons (badR_o (R := isLs K ([V.int 0].map isV)) (s := "list") (eg_lst (as_cons eg_c as_nil) (by show 1 ≤ 100000; decide)) (fun v H1 hv => by obtain ⟨b, e, hb⟩ := isLs_L hv; rw [e]; exact .lst hb) (by decide +kernel))
    (as_cons (badR_1 (u := .int ((n : Int) - 1)) (eg_tup (xs := [V.int ((n : Int) - 1)]) (as_cons (eg_op (eg_v rfl) eg_c og_I0) as_nil) (by show 1 ≤ 100000; decide)) (fun _ => .int _) (by simp [whole])) (as_cons (badR_1 (u := .int (-1)) (eg_tup (xs := [V.int (-1)]) (as_cons (eg_neg eg_c) as_nil) (by show 1 ≤ 100000; decide)) (fun _ => .int _) (by simp [whole]))
    (as_cons (badR_1 (u := .bl true) (eg_tup (xs := [V.bl true]) (as_cons eg_c as_nil) (by show 1 ≤ 100000; decide)) (fun _ => .bl _) rfl) (as_cons (badR_1 (eg_tup (xs := [V.str _]) (as_cons eg_c as_nil) (by show 1 ≤ 100000; decide)) (fun _ => .str _) rfl)
    (as_cons (badR_t (n := n) (xs := iV (List.replicate 451 0)) (eg_repT (n := 451) (eg_tup (xs := [V.int 0]) (as_cons eg_c as_nil) (by show 1 ≤ 100000; decide)) eg_c (by decide)) (by decide) (fun z => absurd z (by decide)) (by show (decide ((iV (List.replicate 451 0)).length ≤ 450) && wholes (iV (List.replicate 451 0)) 0 ((n : Int) - 2)) = false; rw [decide_eq_false (by decide), Bool.false_and]))
    (as_cons (badR_o (R := isV (.int 0)) (s := "int") eg_c (fun v H1 hv => by rw [show v = V.int 0 from hv]; exact .int 0) (by decide +kernel)) as_nil)))))))) (by show 8 ≤ 100000; decide)) fun v H1 e1 hv => k _ _ ⟨a, p, n, o, l, x4, x5, x6, x7, x8, x9, x10, x11, x12, v, none, rfl, hL.ex e1, hS, hv⟩
theorem step17 (T : Top K mg) (hr : Room 7 (lawX P w K mg base f cdv A outer s H0 E0).A) : Step (lawX P w K mg base f cdv A outer s H0 E0) (lawS 17) (P16 Pt K) (P16 Pt K) := by
  have C : Cl P w K mg base CX0 3 "is_row" ["many", "value"] (spIsRow K) := cl_isRow T
  refine ⟨_, ps_if (PW.pt (pw_or (pt_cmpR (op_neD hr.units) (pe_lc (own := [("_law_odd", 17)]) (g := gName 17) rfl sc55.nd (pi_list (pv 13)) (blkOk_by (N := nLaw) (sc := defScope (topS 55)) (own := [("_law_odd", 17)]) (by decide +kernel))
        (fun _ _ _ _ _ => pg_name (i := 17) sc55.nd rfl (.inl rfl)) (fun _ _ _ _ _ => pts_one (pt_val (pe_cl C hr (by decide) pass0 (pa_cons (pv 2) (pa_cons (pv 17) pa_nil))))) (fun _ _ _ _ _ => pv 17)) (pe_lst pa_nil) (nomark _))
      (pw_or1 (pt_cmpR op_notBl (pe_cl C hr (by decide) pass0 (pa_cons pe_int (pa_cons (pe_op op_repT (pe_tup (pa_cons pe_int pa_nil)) pe_int) pa_nil))) pe_bl (nomark _))))) (pss_one (ps_ret pe_bl)) pss_nil,
    fun D σ H ⟨a, p, n, o, l, x4, x5, x6, x7, x8, x9, x10, x11, x12, v, x14, eσ, hL, hS, hv⟩ k => ?_⟩
  subst eσ
  obtain ⟨b, vs, ev, hb, hal⟩ := id hv
  subst ev
  have lvs : vs.length = 8 := hal.len
  refine s_if (b := false) (eb_is (eb_or (eb_test (eg_op (EvG.L (xs := iV []) (EvG.imp (eg_lcL (K := K) (xs := vs) (fun _ => false) (fun _ => isV .non) (fun _ => firm_V) (eg_vL rfl (.inl (.inl hb))) (by omega) (fun _ => wipe_one _ _ _) (fun i x H1 e1 hx => ?_) (fun i x H1 e1 hx hf => by cases hf)) fun u H1 _ hu => ?_))
      (EvG.L (xs := iV []) (eg_lst as_nil (by show 0 ≤ 100000; decide))) og_neL))
    (fun _ => eb_test (eg_op (eg_call (as_cons eg_c (as_cons (EvG.imp (R := isOddR K (some (iV (List.replicate 450 0)))) (eg_repT (K := K) (n := 450) (eg_tup (xs := [V.int 0]) (as_cons eg_c as_nil) (by show 1 ≤ 100000; decide)) eg_c (by decide)) fun u H1 _ hu => oddR_iV hu (by decide)) as_nil)) (sg_isRow (n := 2) (by decide))) eg_c og_notB))) ?_) (fun z => by cases z)
    (fun _ H1 e1 => k _ _ ⟨a, p, n, o, l, x4, x5, x6, x7, x8, x9, x10, x11, x12, _, x14, rfl, hL.ex e1, hS, (isLs K _).st _ _ _ e1 hv⟩)
  · obtain ⟨Rx, hRx, px⟩ := hal.get hx
    have eR : Rx = isBadR K n := List.eq_of_mem_replicate (List.mem_of_getElem? hRx)
    subst eR
    obtain ⟨od, h1, h2⟩ := (isBadR K n).st _ _ _ e1 px
    exact eb_B (eg_is (eg_call (as_cons (eg_v rfl) (as_cons (eg_var (R := isOddR K od) rfl h1) as_nil)) (sg_isRow ⟨hS.lo, hS.hi⟩)) (by rw [h2]))
  · rw [kept_none] at hu
    exact hu
  · have e2 : fitsR 2 (some (iV (List.replicate 450 0))) = true := by decide +kernel
    show (!decide (([] : List Nat) = []) || !decide (fitsR ((2 : Nat) : Int) (some (iV (List.replicate 450 0))) = true)) = false
    rw [show (((2 : Nat) : Int)) = 2 from rfl, e2]
    simp
end
end K2

namespace K2
open PySem PySem.Spec PyProof.Rows L2 HotX L2H K2H LamX NdefX
open Evl (Ex)
set_option Elab.async false
set_option linter.all false
set_option maxRecDepth 100000
set_option maxHeartbeats 4000000
/-! ### what stays while only tables grow -/
section
variable {K : PySem.W.Frag} {H H' : Hp}
theorem rd_N {a : Addr} {u : HO} (e : ExtN H H') (n : ∀ ps, u ≠ .tbl ps) (h : Rd H a u) : Rd H' a u := by
  rcases h with h | ⟨o, h⟩
  · exact .inl (e _ _ h n)
  · exact .inr ⟨o, e _ _ h (fun ps z => by cases z)⟩
theorem sqT_N {a : Addr} {xs : List V} (e : ExtN H H') (h : SqT K H a xs) : SqT K H' a xs := h.elim (fun h => .inl (rd_N e (fun ps z => by cases z) h)) .inr
theorem sqL_N {a : Addr} {xs : List V} (e : ExtN H H') (h : SqL K H a xs) : SqL K H' a xs := h.elim (fun h => .inl (rd_N e (fun ps z => by cases z) h)) .inr
theorem Knd.N {v : V} (e : ExtN H H') (h : Knd K H v) : Knd K H' v := by
  cases h with
  | non => exact .non
  | bl b => exact .bl b
  | int i => exact .int i
  | str x => exact .str x
  | lst h => exact .lst (sqL_N e h)
  | tup h => exact .tup (sqT_N e h)
theorem KTy.N {v : V} {n : String} (e : ExtN H H') (h : KTy K H v n) : KTy K H' v n := by
  cases h with
  | non => exact .non
  | bl b => exact .bl b
  | int i => exact .int i
  | str x => exact .str x
  | lst h => exact .lst (sqL_N e h)
  | tup h => exact .tup (sqT_N e h)
theorem OddR.N {v : V} {o : Option (List V)} (e : ExtN H H') (h : OddR K H v o) : OddR K H' v o := by
  cases h with
  | tup h hz hk => exact .tup (sqT_N e h) hz fun z x hx => (hk z x hx).N e
  | oth h hn => exact .oth (h.N e) hn
def NSt (R : Is) : Prop := ∀ v H H', ExtN H H' → R.p v H → R.p v H'
theorem ns_T {xs : List V} : NSt (isT K xs) := fun _ _ _ e ⟨a, h1, h2⟩ => ⟨a, h1, sqT_N e h2⟩
theorem ns_K {u : V} : NSt (isK K u) := fun _ _ _ e ⟨h1, h2⟩ => ⟨h1, h2.N e⟩
theorem ns_BadR {n : Nat} : NSt (isBadR K n) := fun _ _ _ e ⟨o, h1, h2⟩ => ⟨o, h1.N e, h2⟩
theorem ns_all {Rs : List Is} (h : ∀ R ∈ Rs, NSt R) (e : ExtN H H') : ∀ {vs : List V}, AllIs Rs vs H → AllIs Rs vs H' := by
  induction Rs with
  | nil =>
    intro vs h2
    cases vs with
    | nil => trivial
    | cons => exact h2.elim
  | cons R Rs ih =>
    intro vs h2
    cases vs with
    | nil => exact h2.elim
    | cons v vs => exact ⟨h R List.mem_cons_self v H H' e h2.1, ih (fun R' hR => h R' (List.mem_cons_of_mem _ hR)) h2.2⟩
theorem ns_Ls {Rs : List Is} (h : ∀ R ∈ Rs, NSt R) : NSt (isLs K Rs) := fun _ _ _ e ⟨a, vs, h1, h2, h3⟩ => ⟨a, vs, h1, e _ _ h2 (fun ps z => by cases z), ns_all h e h3⟩
theorem LS.N {Pt p : Addr} {l : List Nat} {o : V} (h : LS K Pt p l o H) (e : ExtN H H') (t : Tabs [(Pt, qL)] H') : LS K Pt p l o H' := ⟨let ⟨g, c, h1, r⟩ := h.pot; ⟨g, c, e _ _ h1 (fun ps z => by cases z), r⟩, t, ns_T _ _ _ e h.ord⟩
end
/-! ### a name that holds one of some defs -/
def tCallD (i : Nat) (D : Addr → Prop) (sp : Sp) (E : XK) (t : TA) : TE := fun σ H Q => ∃ f, D f ∧ σ[i]? = some (some (.ref f)) ∧ t σ H fun vs H1 => sp vs H1 Q E
theorem pe_callD {X : Cx} {CX : CXT} {D : Addr → Prop} {sp : Sp} {E : XK} {k j i : Nat} {x : Str} {e : Expr} {es : List Expr} {t : TA} {p pos : Pos} (A : ∀ f, D f → ∃ fd ps, FnOk X.prog X.w X.K X.mg X.base CX k f fd ps sp ∧ PySem.W.keepIn X.K (.ref f) = true ∧ Binds X.K fd ps []) (hr : Room j X.A) (hk : k ≤ j)
    (hx : Passes CX X E) (ha : PA X (e :: es) t) (hN : X.N[i]? = some x := by rfl) (hv : Vis X.env.scope x := by first | exact Or.inl rfl | exact Or.inr (Or.inl rfl) | exact Or.inr (Or.inr rfl)) (hdb : (x == ("__debug__" : Str)) = false := by decide) (hcd : (x == ("__classdict__" : Str)) = false := by decide)
    (he : starEach (e :: es) X.env = (false, eval e X.env) :: starEach es X.env := by rfl) (hpl : (backTo pos (starEach es X.env)).any (·.1) = false := by rfl) : PE X (.Call (.Name x p) (e :: es) [] pos) (tCallD i D sp E t) := by
  refine ⟨fun pins s σ H Q I h => ?_⟩
  obtain ⟨f, hD, hs, ht⟩ := h
  obtain ⟨fd, ps, F, kp, b⟩ := A f hD
  refine (pe_callL (i := i) (f := f) (sp := sp) (dvs := []) (E := E) (F.mono hk) hr hN hv kp b .nil hx ha hdb hcd he hpl).run pins s σ H Q I ⟨hs, ?_⟩
  have e0 : (fun (vs : List V) (H1 : Hp) => sp (vs ++ []) H1 Q E) = fun vs H1 => sp vs H1 Q E := by
    funext vs H1
    rw [List.append_nil]
  show t σ H (fun vs H1 => sp (vs ++ []) H1 Q E)
  rw [e0]
  exact ht
theorem pass_lam {P : Program} {w : World} {K : PySem.W.Frag} {mg : Str → Option Value} {base : Heap} {N : List Str} {F : NF} {f : Addr} {A : Around} {outer : List Env} {s : Shared} {H : Hp} {E : XK} : Passes (L2N.CX P w) (ncx (L2N.CX P w) P w K mg base N F f A outer s H E) E :=
  L2N.passes_call (L2N.takes_of (E := E) rfl rfl rfl rfl) (fun _ _ _ _ h => h)
/-! ### promises that only raise -/
def spMRx (K : PySem.W.Frag) (mg : Str → Option Value) : Sp := fun vs H Q E => ∃ (u : V) (o : Option (List V)), AllIs [isK K u, isOddR K o] vs H ∧ ((whole u 1 30 = false ∧ Errs mg "InvalidMany" H E) ∨ ∃ n : Nat, u = .int (n : Int) ∧ (1 ≤ n ∧ n ≤ 30) ∧ fitsR (n : Int) o = false ∧ Errs mg "InvalidRow" H E)
theorem mrx {K : PySem.W.Frag} {mg : Str → Option Value} {G : Nat → List Nat → Is} {vs : List V} {H : Hp} {Q : VK} {E : XK} (h : spMRx K mg vs H Q E) : spMR K mg G vs H Q E := by
  obtain ⟨u, o, hv, h⟩ := h
  rcases h with ⟨hw, he⟩ | ⟨n, eu, hn, hf, he⟩
  · exact ⟨u, o, hv, fun _ => he, fun n eu hn => (by rw [eu, many_ok hn] at hw; cases hw)⟩
  · refine ⟨u, o, hv, fun z => (by rw [eu, many_ok hn] at z; cases z), fun m em _ => ?_⟩
    have e2 : n = m := by rw [eu] at em; have := V.int.inj em; omega
    subst e2
    exact ⟨fun _ => he, fun r er hr => (by rw [er, row_fits hr] at hf; cases hf)⟩
def spXx (K : PySem.W.Frag) (mg : Str → Option Value) : Sp := fun vs H Q E => ∃ (xs : List V) (u : V), AllIs [isOdd K xs, isK K u] vs H ∧ ((u = .non ∧ fitsO xs = false ∧ Errs mg "InvalidOrder" H E) ∨ (fitsO xs = true ∧ whole u 0 ((xs.length : Int) - 2) = false ∧ Errs mg "InvalidExchange" H E))
theorem exx {K : PySem.W.Frag} {mg : Str → Option Value} {g : List Nat → Nat → List Nat} {vs : List V} {H : Hp} {Q : VK} {E : XK} (h : spXx K mg vs H Q E) : spExch K mg g vs H Q E := by
  obtain ⟨xs, u, hv, h⟩ := h
  rcases h with ⟨eu, hf, he⟩ | ⟨hf, hw, he⟩
  · exact ⟨xs, u, hv, fun _ => he, fun z => (by rw [hf] at z; cases z), fun l i _ ei => by rw [eu] at ei; cases ei⟩
  · refine ⟨xs, u, hv, fun z => (by rw [hf] at z; cases z), fun _ _ => he, fun l i ex ei _ hi => ?_⟩
    rw [ei, ex, iV_length] at hw
    have : whole (V.int (i : Int)) 0 ((l.length : Int) - 2) = true := by simp [whole]; omega
    rw [this] at hw
    cases hw
theorem errs_of {mg : Str → Option Value} {x : Str} {C : Addr} {H : Hp} {E : XK} (g : mg x = some (.ref C)) (h : ∀ H', Ex H H' → E (.ref C) none H') : Errs mg x H E := fun C' g' H2 e => by
  rw [g] at g'
  cases g'
  exact h H2 e
/-! ### if _law_words(..) != ['..'] * n -/
theorem s_words {K : PySem.W.Frag} {mg : Str → Option Value} {TT : List (Addr × Str)} {N : List Str} {js : List Nat} {t : XK → TE} {te tb : TE} {tu tw : TS} {D : Ends} {σ : L2.St} {H : Hp} (hT : Tabs TT H)
    (h : ∀ H1, ExtN H H1 → Tabs TT H1 → ∃ (Rs : List Is) (C : Addr) (nm : Str), (PyData.str nm).canLay0 = true ∧ Rs.length ≤ 1000 ∧ EvG te σ H1 (isLs K Rs) ∧ NameOf mg (.ref C) nm ∧ Throws t N (js.map (slotAt σ)) C Rs H1 ∧ EvG tb σ H1 (isL K (List.replicate Rs.length (.str nm))))
    (k : ∀ H1, ExtN H H1 → Tabs TT H1 → tw D σ H1) : tIfS (tTest (tOp (rNeD K) (tWords K mg TT N js t te) tb)) tu tw D σ H :=
  ⟨hT, fun H1 eN T1 => by
    obtain ⟨Rs, C, nm, hc, hz, he, hn, thr, hb⟩ := h H1 eN T1
    refine ⟨Rs, C, nm, hz, he, hn, thr, fun v H4 e4 hv => hb H4 e4 _ fun y H5 e5 hy => og_neS hc H5 (Ex.refl H5) v y ((isL K _).st _ _ _ e5 (isLs_S hv)) hy _ fun z H6 e6 hz => ⟨false, hz, ?_⟩⟩
    exact k H6 (eN.trans (ExtN.of ((e4.trans e5).trans e6))) (T1.ext ((e4.trans e5).trans e6))⟩
end K2

namespace K2
open PySem PySem.Spec PyProof.Rows L2 HotX L2H K2H LamX NdefX
open Evl (Ex)
set_option Elab.async false
set_option linter.all false
set_option maxRecDepth 100000
set_option maxHeartbeats 4000000
section
variable {P : Program} {w : World} {K : PySem.W.Frag} {mg : Str → Option Value} {base : Heap} {f c : Addr} {A : Around} {outer : List Env} {s : Shared} {H0 : Hp}
variable (Pt : Addr)
theorem nameOf {mg : Str → Option Value} {x nm : Str} {C : Addr} (h : (x, nm) ∈ four) (g : mg x = some (.ref C)) : NameOf mg (.ref C) nm := ⟨(x, nm), h, C, rfl, rfl, g⟩
/-- step 19: led_on -/
theorem step19 (T : Top K mg) (T2 : Top2 K mg) (TB : TabB base mg c Pt) (hr : Room 7 (lawX P w K mg base f (.ref c) A outer s H0 E0).A) : Step (lawX P w K mg base f (.ref c) A outer s H0 E0) (lawS 19) (P16 Pt K) (P16 Pt K) := by
  have CN : Cl P w K mg base (L2N.CX P w) 4 "led_on" ["order", "row"] (spLedOn K mg) := cl_ledOn T
  obtain ⟨C, eC⟩ := T.er "InvalidRow" (by decide)
  refine ⟨_, ps_if (pt_cmpR (op_neD hr.units) (pe_words (X := lawX P w K mg base f (.ref c) A outer s H0 E0) (N := ["_law_odd", "_law_order_here"]) (fr := ["_law_order_here"]) (js := [3]) (k := 4) (t := fun E => tCall (spLedOn K mg) [] E (tCons (tVar 1) (tCons (tVar 0) tNil))) T T2 (TT := [(Pt, qL)]) TB rfl (List.mem_singleton.mpr rfl) (fun p hp _ => by rw [List.mem_singleton.mp hp]; rfl) (hr.mono (by decide)) rfl rfl (fun _ => rfl)
      (nscope_by (by decide +kernel)) (ndef_free (sc := defScope (topS 55)) (fr := ["_law_order_here"]) (by decide +kernel)) (ndef_fr (sc := defScope (topS 55)) (by decide +kernel)) rfl rfl (fun _ _ _ _ _ us hl => match us, hl with | [_], _ => rfl)
      (fun c' f A outer s H E hr2 => pe_cl CN hr2 (by decide) pass_lam (pa_cons (pv 1) (pa_cons (pv 0) pa_nil))) (pv 13)) (pe_op op_rep (pe_lst (pa_cons pe_str pa_nil)) pe_int) (nomark _)) (pss_one (ps_ret pe_bl)) pss_nil,
    fun D σ H ⟨a, p, n, o, l, x4, x5, x6, x7, x8, x9, x10, x11, x12, v, x14, eσ, hL, hS, hv⟩ k => ?_⟩
  subst eσ
  refine s_words hL.tab (fun H1 eN T1 => ⟨List.replicate 8 (isBadR K n), C, "row", by decide +kernel, by rw [List.length_replicate]; decide, eg_var rfl (ns_Ls (fun R hR => by rw [List.eq_of_mem_replicate hR]; exact ns_BadR) _ _ _ eN hv), nameOf (by decide) eC.g, fun R hR u H3 e3 hu E Q hE => ?_, eg_rep (n := 8) (eg_lst (Rs := [V.str "row"].map isV) (as_cons eg_c as_nil) (by show 1 ≤ 100000; decide)) eg_c (by decide)⟩)
    (fun H1 eN T1 => k _ _ ⟨a, p, n, o, l, x4, x5, x6, x7, x8, x9, x10, x11, x12, v, x14, rfl, hL.N eN T1, hS, ns_Ls (fun R hR => by rw [List.eq_of_mem_replicate hR]; exact ns_BadR) _ _ _ eN hv⟩)
  rw [List.eq_of_mem_replicate hR] at hu
  obtain ⟨ob, ho, hf⟩ := hu
  refine ⟨o, rfl, u, rfl, l, ob, ⟨(isT K _).st _ _ _ e3 (ns_T _ _ _ eN hL.ord), ho, trivial⟩, ⟨hS.o, by have := hS.lo; have := hS.len; omega, by have := hS.hi; have := hS.len; omega⟩, fun _ => errs_of eC.g hE, fun r er hr => ?_⟩
  rw [hS.len] at hr
  rw [er, row_fits hr] at hf
  cases hf
/-- the defs that the first loop calls -/
def DMR (mg : Str → Option Value) (g : Addr) : Prop := mg "order_behind" = some (.ref g) ∨ mg "is_least_row" = some (.ref g)
theorem a_MR (T : Top K mg) : ∀ g, DMR mg g → ∃ fd ps, FnOk P w K mg base (L2N.CX P w) 4 g fd ps (spMRx K mg) ∧ PySem.W.keepIn K (.ref g) = true ∧ Binds K fd ps [] := fun g h => by
  obtain ⟨g1, fd1, F1, m1, kp1, b1⟩ : Cl P w K mg base (L2N.CX P w) 4 "order_behind" ["many", "row"] (spMR K mg (GB K)) := cl_ordB T
  obtain ⟨g2, fd2, F2, m2, kp2, b2⟩ : Cl P w K mg base (L2N.CX P w) 4 "is_least_row" ["many", "row"] (spMR K mg GL) := cl_isLeast T
  rcases h with h | h
  · rw [m1] at h
    cases h
    exact ⟨fd1, _, F1.imp (fun _ _ _ _ h => mrx h), kp1, b1⟩
  · rw [m2] at h
    cases h
    exact ⟨fd2, _, F2.imp (fun _ _ _ _ h => mrx h), kp2, b2⟩
def DX (mg : Str → Option Value) (g : Addr) : Prop := mg "swapped" = some (.ref g) ∨ mg "renamed" = some (.ref g)
theorem a_X (T : Top K mg) : ∀ g, DX mg g → ∃ fd ps, FnOk P w K mg base (L2N.CX P w) 4 g fd ps (spXx K mg) ∧ PySem.W.keepIn K (.ref g) = true ∧ Binds K fd ps [] := fun g h => by
  obtain ⟨g1, fd1, F1, m1, kp1, b1⟩ : Cl P w K mg base (L2N.CX P w) 4 "swapped" ["order", "exchange"] (spExch K mg sw) := cl_swapped T
  obtain ⟨g2, fd2, F2, m2, kp2, b2⟩ : Cl P w K mg base (L2N.CX P w) 4 "renamed" ["order", "exchange"] (spExch K mg fun l t => l.map (tau t)) := cl_renamed T
  rcases h with h | h
  · rw [m1] at h
    cases h
    exact ⟨fd1, _, F1.imp (fun _ _ _ _ h => exx h), kp1, b1⟩
  · rw [m2] at h
    cases h
    exact ⟨fd2, _, F2.imp (fun _ _ _ _ h => exx h), kp2, b2⟩
theorem ns_Ks {us : List V} : ∀ R ∈ us.map (isK K), NSt R := fun R hR => by
  obtain ⟨u, _, rfl⟩ := List.mem_map.mp hR
  exact ns_K
theorem ns_BadRs {n : Nat} : ∀ R ∈ List.replicate 8 (isBadR K n), NSt R := fun R hR => by rw [List.eq_of_mem_replicate hR]; exact ns_BadR
/-- step 18: order_behind, is_least_row -/
theorem step18 (T : Top K mg) (T2 : Top2 K mg) (TB : TabB base mg c Pt) (hr : Room 7 (lawX P w K mg base f (.ref c) A outer s H0 E0).A) : Step (lawX P w K mg base f (.ref c) A outer s H0 E0) (lawS 18) (P16 Pt K) (P16 Pt K) := by
  obtain ⟨C, eC⟩ := T.er "InvalidRow" (by decide)
  obtain ⟨C2, eC2⟩ := T.er "InvalidMany" (by decide)
  obtain ⟨g1, _, _, m1⟩ := T.d (32, "order_behind") (by decide)
  obtain ⟨g2, _, _, m2⟩ := T.d (41, "is_least_row") (by decide)
  refine ⟨_, ps_for PassesOwn.never rfl (pi_tup (pe_tup (pa_cons (pe_glob (v := .ref g1) (by rfl) m1 rfl) (pa_cons (pe_glob (v := .ref g2) (by rfl) m2 rfl) pa_nil)))) (pg_name (i := 14) sc55.nd rfl (.inr rfl))
    (pss_cons (ps_if (pt_cmpR (op_neD hr.units) (pe_words (X := lawX P w K mg base f (.ref c) A outer s H0 E0) (N := ["_law_odd", "_law_call", "_law_many_here"]) (fr := ["_law_call", "_law_many_here"]) (js := [14, 2]) (k := 4) (t := fun E => tCallD 1 (DMR mg) (spMRx K mg) E (tCons (tVar 2) (tCons (tVar 0) tNil))) T T2 (TT := [(Pt, qL)]) TB rfl (List.mem_singleton.mpr rfl) (fun p hp _ => by rw [List.mem_singleton.mp hp]; rfl) (hr.mono (by decide)) rfl rfl (fun _ => rfl)
      (nscope_by (by decide +kernel)) (ndef_free (sc := defScope (topS 55)) (fr := ["_law_call", "_law_many_here"]) (by decide +kernel)) (ndef_fr (sc := defScope (topS 55)) (by decide +kernel)) rfl rfl (fun _ _ _ _ _ us hl => match us, hl with | [_], _ => rfl)
      (fun c' f A outer s H E hr2 => pe_callD (a_MR T) hr2 (by decide) pass_lam (pa_cons (pv 2) (pa_cons (pv 0) pa_nil))) (pv 13)) (pe_op op_rep (pe_lst (pa_cons pe_str pa_nil)) pe_int) (nomark _)) (pss_one (ps_ret pe_bl)) pss_nil)
    (pss_one (ps_if (pt_cmpR (op_neD hr.units) (pe_words (X := lawX P w K mg base f (.ref c) A outer s H0 E0) (N := ["_law_odd", "_law_call"]) (fr := ["_law_call"]) (js := [14]) (k := 4) (t := fun E => tCallD 1 (DMR mg) (spMRx K mg) E (tCons (tVar 0) (tCons (tC .non) tNil))) T T2 (TT := [(Pt, qL)]) TB rfl (List.mem_singleton.mpr rfl) (fun p hp _ => by rw [List.mem_singleton.mp hp]; rfl) (hr.mono (by decide)) rfl rfl (fun _ => rfl)
      (nscope_by (by decide +kernel)) (ndef_free (sc := defScope (topS 55)) (fr := ["_law_call"]) (by decide +kernel)) (ndef_fr (sc := defScope (topS 55)) (by decide +kernel)) rfl rfl (fun _ _ _ _ _ us hl => match us, hl with | [_], _ => rfl)
      (fun c' f A outer s H E hr2 => pe_callD (a_MR T) hr2 (by decide) pass_lam (pa_cons (pv 0) (pa_cons pe_non pa_nil))) (pe_lst (pa_cons pe_non (pa_cons pe_int (pa_cons pe_int (pa_cons pe_bl pa_nil)))))) (pe_op op_rep (pe_lst (pa_cons pe_str pa_nil)) pe_int) (nomark _)) (pss_one (ps_ret pe_bl)) pss_nil))),
    fun D σ H hP k => ?_⟩
  obtain ⟨a0, p0, n0, o0, l0, y4, y5, y6, y7, y8, y9, y10, y11, y12, v0, y14, eσ, hL0, hS0, hv0⟩ := id hP
  subst eσ
  refine s_forT (xs := [V.ref g1, V.ref g2]) (eg_tup (as_cons eg_c (as_cons eg_c as_nil)) (by show 2 ≤ 100000; decide)) fun a2 H1 e1 hq => ⟨fun i σ H' => P16 Pt K σ H' ∧ SqT K H' a2 [V.ref g1, V.ref g2], ⟨⟨a0, p0, n0, o0, l0, y4, y5, y6, y7, y8, y9, y10, y11, y12, v0, y14, rfl, hL0.ex e1, hS0, (isLs K _).st _ _ _ e1 hv0⟩, hq⟩,
    fun i σ' H' h => h.2, fun i x σ' H' hx ⟨⟨a, p, n, o, l, x4, x5, x6, x7, x8, x9, x10, x11, x12, v, x14, eσ, hL, hS, hv⟩, hq'⟩ => ?_, fun σ' H' h => k σ' H' h.1⟩
  subst eσ
  have hg : ∃ g, x = V.ref g ∧ DMR mg g := by
    match i, hx with
    | 0, hx => cases hx; exact ⟨g1, rfl, .inl m1⟩
    | 1, hx => cases hx; exact ⟨g2, rfl, .inr m2⟩
  obtain ⟨g, rfl, hD⟩ := hg
  refine s_words hL.tab (fun H1 eN T1 => ⟨List.replicate 8 (isBadR K n), C, "row", by decide +kernel, by rw [List.length_replicate]; decide, eg_var rfl (ns_Ls ns_BadRs _ _ _ eN hv), nameOf (by decide) eC.g, fun R hR u H3 e3 hu E Q hE => ?_, eg_rep (n := 8) (eg_lst (Rs := [V.str "row"].map isV) (as_cons eg_c as_nil) (by show 1 ≤ 100000; decide)) eg_c (by decide)⟩)
    (fun H1 eN T1 => ?_)
  · rw [List.eq_of_mem_replicate hR] at hu
    obtain ⟨ob, ho, hf⟩ := hu
    exact ⟨g, hD, rfl, .int (n : Int), rfl, u, rfl, .int (n : Int), ob, ⟨⟨rfl, .int _⟩, ho, trivial⟩, .inr ⟨n, rfl, ⟨hS.lo, hS.hi⟩, hf, errs_of eC.g hE⟩⟩
  · have hL1 := hL.N eN T1
    refine s_words hL1.tab (fun H2 eN2 T12 => ⟨([V.non, V.int 0, V.int 31, V.bl true]).map (isK K), C2, "many", by decide +kernel, by show 4 ≤ 1000; decide, eg_lst (as_cons (eg_c.imp fun v H1 _ hv => ⟨hv, .non⟩) (as_cons (eg_c.imp fun v H1 _ hv => ⟨hv, .int _⟩) (as_cons (eg_c.imp fun v H1 _ hv => ⟨hv, .int _⟩) (as_cons (eg_c.imp fun v H1 _ hv => ⟨hv, .bl _⟩) as_nil)))) (by show 4 ≤ 100000; decide), nameOf (by decide) eC2.g, fun R hR u H3 e3 hu E Q hE => ?_,
      eg_rep (n := 4) (eg_lst (Rs := [V.str "many"].map isV) (as_cons eg_c as_nil) (by show 1 ≤ 100000; decide)) eg_c (by decide)⟩)
      (fun H2 eN2 T12 => ⟨⟨a, p, n, o, l, x4, x5, x6, x7, x8, x9, x10, x11, x12, v, _, rfl, hL1.N eN2 T12, hS, ns_Ls ns_BadRs _ _ _ (eN.trans eN2) hv⟩, sqT_N (eN.trans eN2) hq'⟩)
    obtain ⟨b, hb, rfl⟩ := List.mem_map.mp hR
    obtain ⟨rfl, kb⟩ := hu
    have hw : ∀ b ∈ ([V.non, V.int 0, V.int 31, V.bl true] : List V), whole b 1 30 = false := by decide
    exact ⟨g, hD, rfl, u, rfl, u, none, ⟨⟨rfl, kb⟩, .oth .non (by decide +kernel), trivial⟩, .inl ⟨hw u hb, errs_of eC2.g hE⟩⟩
end
end K2

namespace K2
open PySem PySem.Spec PyProof.Rows L2 HotX L2H K2H LamX NdefX
open Evl (Ex)
set_option Elab.async false
set_option linter.all false
set_option maxRecDepth 100000
set_option maxHeartbeats 4000000
section
variable {P : Program} {w : World} {K : PySem.W.Frag} {mg : Str → Option Value} {base : Heap} {f c : Addr} {A : Around} {outer : List Env} {s : Shared} {H0 : Hp}
variable (Pt : Addr)
def oddX (n : Nat) : List V := [V.non, V.int (-1), V.int ((n : Int) - 1), V.bl true, V.str "0"]
def P20 (K : PySem.W.Frag) (σ : L2.St) (H : Hp) : Prop := ∃ (a : V) (p : Addr) (n : Nat) (o : V) (l : List Nat) (x4 x5 x6 x7 x8 x9 x10 x11 x12 : Option V) (v : V) (x14 : Option V), σ = [some a, some (.ref p), some (.int (n : Int)), some o, x4, x5, x6, x7, x8, x9, x10, x11, x12, some v, x14, none, none, none] ∧ LS K Pt p l o H ∧ Sz n l ∧ (isLs K ((oddX n).map (isK K))).p v H
theorem step20 (T : Top K mg) (hr : Room 7 (lawX P w K mg base f (.ref c) A outer s H0 E0).A) : Step (lawX P w K mg base f (.ref c) A outer s H0 E0) (lawS 20) (P16 Pt K) (P20 Pt K) := by
  refine ⟨_, ps_set (i := 13) sc55.nd rfl (.inl rfl) (pe_lst (pa_cons pe_non (pa_cons (pe_un un_neg pe_int) (pa_cons (pe_op op_sub (pv 2) pe_int) (pa_cons pe_bl (pa_cons pe_str pa_nil)))))),
    fun D σ H ⟨a, p, n, o, l, x4, x5, x6, x7, x8, x9, x10, x11, x12, v, x14, eσ, hL, hS, hv⟩ k => ?_⟩
  subst eσ
  exact s_asg (R := isLs K ((oddX n).map (isK K))) (eg_lst (as_cons (EvG.imp (R1 := isV .non) eg_c fun v H1 _ hv => ⟨hv, .non⟩) (as_cons (EvG.imp (R1 := isV (.int (-1))) (eg_neg eg_c) fun v H1 _ hv => ⟨hv, .int _⟩) (as_cons (EvG.imp (R1 := isV (.int ((n : Int) - 1))) (eg_op (eg_v rfl) eg_c og_I0) fun v H1 _ hv => ⟨hv, .int _⟩)
    (as_cons (EvG.imp (R1 := isV (.bl true)) eg_c fun v H1 _ hv => ⟨hv, .bl _⟩) (as_cons (EvG.imp (R1 := isV (.str "0")) eg_c fun v H1 _ hv => ⟨hv, .str _⟩) as_nil))))) (by show 5 ≤ 100000; decide)) fun u H1 e1 hu => k _ _ ⟨a, p, n, o, l, x4, x5, x6, x7, x8, x9, x10, x11, x12, u, x14, rfl, hL.ex e1, hS, hu⟩
/-- step 21: swapped, renamed -/
theorem step21 (T : Top K mg) (T2 : Top2 K mg) (TB : TabB base mg c Pt) (hr : Room 7 (lawX P w K mg base f (.ref c) A outer s H0 E0).A) : Step (lawX P w K mg base f (.ref c) A outer s H0 E0) (lawS 21) (P20 Pt K) (P20 Pt K) := by
  have CBad : Cl P w K mg base CX0 1 "_law_bad_orders" [] (spBad K) := cl_bad T
  obtain ⟨C, eC⟩ := T.er "InvalidExchange" (by decide)
  obtain ⟨C2, eC2⟩ := T.er "InvalidOrder" (by decide)
  obtain ⟨g1, _, _, m1⟩ := T.d (29, "swapped") (by decide)
  obtain ⟨g2, _, _, m2⟩ := T.d (30, "renamed") (by decide)
  refine ⟨_, ps_for PassesOwn.never rfl (pi_tup (pe_tup (pa_cons (pe_glob (v := .ref g1) (by rfl) m1 rfl) (pa_cons (pe_glob (v := .ref g2) (by rfl) m2 rfl) pa_nil)))) (pg_name (i := 14) sc55.nd rfl (.inr rfl))
    (pss_cons (ps_if (pt_cmpR (op_neD hr.units) (pe_words (X := lawX P w K mg base f (.ref c) A outer s H0 E0) (N := ["_law_odd", "_law_call", "_law_order_here"]) (fr := ["_law_call", "_law_order_here"]) (js := [14, 3]) (k := 4) (t := fun E => tCallD 1 (DX mg) (spXx K mg) E (tCons (tVar 2) (tCons (tVar 0) tNil))) T T2 (TT := [(Pt, qL)]) TB rfl (List.mem_singleton.mpr rfl) (fun p hp _ => by rw [List.mem_singleton.mp hp]; rfl) (hr.mono (by decide)) rfl rfl (fun _ => rfl)
      (nscope_by (by decide +kernel)) (ndef_free (sc := defScope (topS 55)) (fr := ["_law_call", "_law_order_here"]) (by decide +kernel)) (ndef_fr (sc := defScope (topS 55)) (by decide +kernel)) rfl rfl (fun _ _ _ _ _ us hl => match us, hl with | [_], _ => rfl)
      (fun c' f A outer s H E hr2 => pe_callD (a_X T) hr2 (by decide) pass_lam (pa_cons (pv 2) (pa_cons (pv 0) pa_nil))) (pv 13)) (pe_op op_rep (pe_lst (pa_cons pe_str pa_nil)) pe_int) (nomark _)) (pss_one (ps_ret pe_bl)) pss_nil)
    (pss_one (ps_if (pt_cmpR (op_neD hr.units) (pe_words (X := lawX P w K mg base f (.ref c) A outer s H0 E0) (N := ["_law_odd", "_law_call"]) (fr := ["_law_call"]) (js := [14]) (k := 4) (t := fun E => tCallD 1 (DX mg) (spXx K mg) E (tCons (tVar 0) (tCons (tC .non) tNil))) T T2 (TT := [(Pt, qL)]) TB rfl (List.mem_singleton.mpr rfl) (fun p hp _ => by rw [List.mem_singleton.mp hp]; rfl) (hr.mono (by decide)) rfl rfl (fun _ => rfl)
      (nscope_by (by decide +kernel)) (ndef_free (sc := defScope (topS 55)) (fr := ["_law_call"]) (by decide +kernel)) (ndef_fr (sc := defScope (topS 55)) (by decide +kernel)) rfl rfl (fun _ _ _ _ _ us hl => match us, hl with | [_], _ => rfl)
      (fun c' f A outer s H E hr2 => pe_callD (a_X T) hr2 (by decide) pass_lam (pa_cons (pv 0) (pa_cons pe_non pa_nil))) (pe_cl0 CBad hr (by decide) pass0)) (pe_op op_rep (pe_lst (pa_cons pe_str pa_nil)) pe_int) (nomark _)) (pss_one (ps_ret pe_bl)) pss_nil))),
    fun D σ H hP k => ?_⟩
  obtain ⟨a0, p0, n0, o0, l0, y4, y5, y6, y7, y8, y9, y10, y11, y12, v0, y14, eσ, hL0, hS0, hv0⟩ := id hP
  subst eσ
  refine s_forT (xs := [V.ref g1, V.ref g2]) (eg_tup (as_cons eg_c (as_cons eg_c as_nil)) (by show 2 ≤ 100000; decide)) fun a2 H1 e1 hq => ⟨fun i σ H' => P20 Pt K σ H' ∧ SqT K H' a2 [V.ref g1, V.ref g2], ⟨⟨a0, p0, n0, o0, l0, y4, y5, y6, y7, y8, y9, y10, y11, y12, v0, y14, rfl, hL0.ex e1, hS0, (isLs K _).st _ _ _ e1 hv0⟩, hq⟩,
    fun i σ' H' h => h.2, fun i x σ' H' hx ⟨⟨a, p, n, o, l, x4, x5, x6, x7, x8, x9, x10, x11, x12, v, x14, eσ, hL, hS, hv⟩, hq'⟩ => ?_, fun σ' H' h => k σ' H' h.1⟩
  subst eσ
  have hg : ∃ g, x = V.ref g ∧ DX mg g := by
    match i, hx with
    | 0, hx => cases hx; exact ⟨g1, rfl, .inl m1⟩
    | 1, hx => cases hx; exact ⟨g2, rfl, .inr m2⟩
  obtain ⟨g, rfl, hD⟩ := hg
  have ln := hS.len
  have lo := hS.lo
  have hi := hS.hi
  refine s_words hL.tab (fun H1 eN T1 => ⟨(oddX n).map (isK K), C, "exchange", by decide +kernel, by show 5 ≤ 1000; decide, eg_var rfl (ns_Ls ns_Ks _ _ _ eN hv), nameOf (by decide) eC.g, fun R hR u H3 e3 hu E Q hE => ?_, eg_rep (n := 5) (eg_lst (Rs := [V.str "exchange"].map isV) (as_cons eg_c as_nil) (by show 1 ≤ 100000; decide)) eg_c (by decide)⟩)
    (fun H1 eN T1 => ?_)
  · obtain ⟨b, hb, rfl⟩ := List.mem_map.mp hR
    obtain ⟨rfl, kb⟩ := hu
    refine ⟨g, hD, rfl, o, rfl, u, rfl, iV l, u, ⟨odd_iV ((isT K _).st _ _ _ e3 (ns_T _ _ _ eN hL.ord)), ⟨rfl, kb⟩, trivial⟩, .inr ⟨ord_fits hS.o (by omega) (by omega), ?_, errs_of eC.g hE⟩⟩
    rw [iV_length, ln]
    unfold oddX at hb
    rcases List.mem_cons.mp hb with e | hb
    · rw [e]; rfl
    rcases List.mem_cons.mp hb with e | hb
    · rw [e]; simp [whole]
    rcases List.mem_cons.mp hb with e | hb
    · rw [e]; simp [whole]
    rcases List.mem_cons.mp hb with e | hb
    · rw [e]; rfl
    · rw [List.mem_singleton.mp hb]; rfl
  · have hL1 := hL.N eN T1
    refine s_words hL1.tab (fun H2 eN2 T12 => ⟨List.replicate 14 (isBadO K), C2, "order", by decide +kernel, by rw [List.length_replicate]; decide, eg_call as_nil sg_bad, nameOf (by decide) eC2.g, fun R hR u H3 e3 hu E Q hE => ?_,
      eg_rep (n := 14) (eg_lst (Rs := [V.str "order"].map isV) (as_cons eg_c as_nil) (by show 1 ≤ 100000; decide)) eg_c (by decide)⟩)
      (fun H2 eN2 T12 => ⟨⟨a, p, n, o, l, x4, x5, x6, x7, x8, x9, x10, x11, x12, v, _, rfl, hL1.N eN2 T12, hS, ns_Ls ns_Ks _ _ _ (eN.trans eN2) hv⟩, sqT_N (eN.trans eN2) hq'⟩)
    rw [List.eq_of_mem_replicate hR] at hu
    obtain ⟨xs, ho, hf⟩ := hu
    exact ⟨g, hD, rfl, u, rfl, xs, .non, ⟨ho, ⟨rfl, .non⟩, trivial⟩, .inl ⟨rfl, hf, errs_of eC2.g hE⟩⟩
theorem step22 (T : Top K mg) (hr : Room 7 (lawX P w K mg base f (.ref c) A outer s H0 E0).A) : Step (lawX P w K mg base f (.ref c) A outer s H0 E0) (lawS 22) (P20 Pt K) (P20 Pt K) := by
  have CB : Cl P w K mg base (L2N.CX P w) 4 "order_behind" ["many", "row"] (spMR K mg (GB K)) := cl_ordB T
  have CN : Cl P w K mg base (L2N.CX P w) 4 "led_on" ["order", "row"] (spLedOn K mg) := cl_ledOn T
  refine ⟨_, ps_if (PW.pt (pw_or (pt_cmpR (op_neD hr.units) (pe_cl CB hr (by decide) passN (pa_cons pe_int (pa_cons (pe_tup (pa_cons pe_int (pa_cons pe_int pa_nil))) pa_nil))) (pe_tup (pa_cons pe_int (pa_cons pe_int (pa_cons pe_int pa_nil)))) (nomark _))
      (pw_or1 (pt_cmpR (op_neD hr.units) (pe_cl CN hr (by decide) passN (pa_cons (pe_tup (pa_cons pe_int (pa_cons pe_int (pa_cons pe_int (pa_cons pe_int pa_nil))))) (pa_cons (pe_tup (pa_cons pe_int (pa_cons pe_int pa_nil))) pa_nil))) (pe_tup (pa_cons pe_int (pa_cons pe_int (pa_cons pe_int (pa_cons pe_int pa_nil))))) (nomark _))))) (pss_one (ps_ret pe_bl)) pss_nil,
    fun D σ H ⟨a, p, n, o, l, x4, x5, x6, x7, x8, x9, x10, x11, x12, v, x14, eσ, hL, hS, hv⟩ k => ?_⟩
  subst eσ
  have t2 : ∀ {σ : L2.St} {H : Hp} (x y : Nat), EvG (tTup (tCons (tC (.int (x : Int))) (tCons (tC (.int (y : Int))) tNil))) σ H (isT K (iV [x, y])) := fun x y => eg_tup (xs := iV [x, y]) (as_cons eg_c (as_cons eg_c as_nil)) (by show 2 ≤ 100000; decide)
  refine s_if (b := false) (eb_is (eb_or (eb_test (eg_op (eg_call (as_cons eg_c (as_cons (t2 0 1) as_nil)) (sg_MR (mg := mg) (n := 3) (r := [0, 1]) (by decide) ⟨by decide, by decide⟩)) (eg_tup (xs := iV [1, 2, 0]) (as_cons eg_c (as_cons eg_c (as_cons eg_c as_nil))) (by show 3 ≤ 100000; decide)) og_neT))
    (fun _ => eb_test (eg_op (eg_call (as_cons (eg_tup (xs := iV [3, 2, 1, 0]) (as_cons eg_c (as_cons eg_c (as_cons eg_c (as_cons eg_c as_nil)))) (by show 4 ≤ 100000; decide)) (as_cons (t2 0 2) as_nil)) (sg_ledOn (mg := mg) (l := [3, 2, 1, 0]) (r := [0, 2]) ⟨ord_of (by decide) (by decide), by decide, by decide⟩ ⟨by decide, by decide⟩)) (eg_tup (xs := iV [2, 3, 0, 1]) (as_cons eg_c (as_cons eg_c (as_cons eg_c (as_cons eg_c as_nil)))) (by show 4 ≤ 100000; decide)) og_neT))) (by decide)) (fun z => by cases z)
    (fun _ H1 e1 => k _ _ ⟨a, p, n, o, l, x4, x5, x6, x7, x8, x9, x10, x11, x12, v, x14, rfl, hL.ex e1, hS, (isLs K _).st _ _ _ e1 hv⟩)
theorem step23 (T : Top K mg) (hr : Room 7 (lawX P w K mg base f (.ref c) A outer s H0 E0).A) : StepR (lawX P w K mg base f (.ref c) A outer s H0 E0) (lawS 23) (P20 Pt K) := by
  have CB : Cl P w K mg base (L2N.CX P w) 4 "is_least_row" ["many", "row"] (spMR K mg GL) := cl_isLeast T
  refine ⟨_, ps_ret (pe_and (pe_cmpR op_isBl (pe_cl CB hr (by decide) passN (pa_cons pe_int (pa_cons (pe_tup (pa_cons pe_int (pa_cons pe_int (pa_cons pe_int pa_nil)))) pa_nil))) pe_bl (nomark _))
      (pe_one (pe_cmpR op_isBl (pe_cl CB hr (by decide) passN (pa_cons pe_int (pa_cons (pe_tup (pa_cons pe_int (pa_cons pe_int pa_nil))) pa_nil))) pe_bl (nomark _)))), fun D σ H ⟨a, p, n, o, l, x4, x5, x6, x7, x8, x9, x10, x11, x12, v, x14, eσ, hL, hS, hv⟩ k => ?_⟩
  subst eσ
  refine s_ret (R := isV (.bl true)) (eg_is (eg_andV (eg_op (eg_call (as_cons eg_c (as_cons (eg_tup (xs := iV [0, 1, 0]) (as_cons eg_c (as_cons eg_c (as_cons eg_c as_nil))) (by show 3 ≤ 100000; decide)) as_nil)) (sg_MR (mg := mg) (G := GL) (n := 3) (r := [0, 1, 0]) (by decide) ⟨by decide, by decide⟩)) eg_c og_isB)
    (fun _ => eg_op (eg_call (as_cons eg_c (as_cons (eg_tup (xs := iV [0, 0]) (as_cons eg_c (as_cons eg_c as_nil)) (by show 2 ≤ 100000; decide)) as_nil)) (sg_MR (mg := mg) (G := GL) (n := 3) (r := [0, 0]) (by decide) ⟨by decide, by decide⟩)) eg_c og_isB)) (by decide)) fun v H1 e1 hv => ?_
  rw [show v = V.bl true from hv]
  exact k H1
end
end K2

namespace K2
open PySem PySem.Spec PyProof.Rows L2 HotX L2H K2H LamX NdefX
open Evl (Ex)
set_option Elab.async false
set_option linter.all false
set_option maxRecDepth 100000
set_option maxHeartbeats 4000000
section
variable {P : Program} {w : World} {K : PySem.W.Frag} {mg : Str → Option Value} {base : Heap}
def spLaw (K : PySem.W.Frag) (Pt : Addr) : Sp := fun vs H Q _ => ∃ (a : V) (ns : List Int), vs = [a] ∧ (isL K (ns.map V.int)).p a H ∧ ns.length ≤ 1000 ∧ Tabs [(Pt, qL)] H ∧ ∀ H', Q (.bl true) H'
theorem law_body : defBody (topS 55) = [lawS 0, lawS 1, lawS 2, lawS 3, lawS 4, lawS 5, lawS 6, lawS 7, lawS 8, lawS 9, lawS 10, lawS 11, lawS 12, lawS 13, lawS 14, lawS 15, lawS 16, lawS 17, lawS 18, lawS 19, lawS 20, lawS 21, lawS 22, lawS 23] := by rfl
theorem law_ok (T : Top K mg) (T2 : Top2 K mg) {c Pt f : Addr} (TB : TabB base mg c Pt) {oc kV doc pm ct : Value} {od an : Option Addr} {osl : Array (Option Value)}
    (lk : K.lookup f = some ⟨oc, od, .func (PySem.W.fnOf "law" "law" (defArgs (topS 55)) (defBody (topS 55)) (defScope (topS 55)) .none kV doc pm an (.ref c) ct), osl⟩) (hcd : PySem.W.codeIn K (.ref c) "law" = true) :
    FnOk P w K mg base CX0 8 f (PySem.W.fnOf "law" "law" (defArgs (topS 55)) (defBody (topS 55)) (defScope (topS 55)) .none kV doc pm an (.ref c) ct) ["_law_script"] (spLaw K Pt) := by
  refine fn_of lk hcd sc55 (fun vs H Q E ⟨_, _, h, _⟩ => by rw [h]; rfl) fun A outer s H vs Q E hr hsp => ?_
  obtain ⟨a, ns, rfl, ha, hl, ht, q⟩ := hsp
  obtain ⟨t0, h0, q0⟩ := step0 (P := P) (w := w) (base := base) (f := f) (A := A) (outer := outer) (cdv := .ref c) (s := s) (H0 := H) Pt T hr
  obtain ⟨t1, h1, q1⟩ := step1 (P := P) (w := w) (base := base) (f := f) (A := A) (outer := outer) (cdv := .ref c) (s := s) (H0 := H) Pt T hr
  obtain ⟨t2, h2, q2⟩ := step2 (P := P) (w := w) (base := base) (f := f) (A := A) (outer := outer) (cdv := .ref c) (s := s) (H0 := H) Pt T hr
  obtain ⟨t3, h3, q3⟩ := step3 (P := P) (w := w) (base := base) (f := f) (A := A) (outer := outer) (cdv := .ref c) (s := s) (H0 := H) Pt T hr
  obtain ⟨t4, h4, q4⟩ := step4 (P := P) (w := w) (base := base) (f := f) (A := A) (outer := outer) (cdv := .ref c) (s := s) (H0 := H) Pt T hr
  obtain ⟨t5, h5, q5⟩ := step5 (P := P) (w := w) (base := base) (f := f) (A := A) (outer := outer) (cdv := .ref c) (s := s) (H0 := H) Pt T hr
  obtain ⟨t6, h6, q6⟩ := step6 (P := P) (w := w) (base := base) (f := f) (A := A) (outer := outer) (cdv := .ref c) (s := s) (H0 := H) Pt T hr
  obtain ⟨t7, h7, q7⟩ := step7 (P := P) (w := w) (base := base) (f := f) (A := A) (outer := outer) (cdv := .ref c) (s := s) (H0 := H) Pt T hr
  obtain ⟨t8, h8, q8⟩ := step8 (P := P) (w := w) (base := base) (f := f) (A := A) (outer := outer) (cdv := .ref c) (s := s) (H0 := H) Pt T hr
  obtain ⟨t9, h9, q9⟩ := step9 (P := P) (w := w) (base := base) (f := f) (A := A) (outer := outer) (cdv := .ref c) (s := s) (H0 := H) Pt T hr
  obtain ⟨t10, h10, q10⟩ := step10 (P := P) (w := w) (base := base) (f := f) (A := A) (outer := outer) (cdv := .ref c) (s := s) (H0 := H) Pt T hr
  obtain ⟨t11, h11, q11⟩ := step11 (P := P) (w := w) (base := base) (f := f) (A := A) (outer := outer) (cdv := .ref c) (s := s) (H0 := H) Pt T hr
  obtain ⟨t12, h12, q12⟩ := step12 (P := P) (w := w) (base := base) (f := f) (A := A) (outer := outer) (cdv := .ref c) (s := s) (H0 := H) Pt T hr
  obtain ⟨t13, h13, q13⟩ := step13 (P := P) (w := w) (base := base) (f := f) (A := A) (outer := outer) (cdv := .ref c) (s := s) (H0 := H) Pt T hr
  obtain ⟨t14, h14, q14⟩ := step14 (P := P) (w := w) (base := base) (f := f) (A := A) (outer := outer) (cdv := .ref c) (s := s) (H0 := H) Pt T hr
  obtain ⟨t15, h15, q15⟩ := step15 (P := P) (w := w) (base := base) (f := f) (A := A) (outer := outer) (cdv := .ref c) (s := s) (H0 := H) Pt T hr
  obtain ⟨t16, h16, q16⟩ := step16 (P := P) (w := w) (base := base) (f := f) (A := A) (outer := outer) (cdv := .ref c) (s := s) (H0 := H) Pt T hr
  obtain ⟨t17, h17, q17⟩ := step17 (P := P) (w := w) (base := base) (f := f) (A := A) (outer := outer) (cdv := .ref c) (s := s) (H0 := H) Pt T hr
  obtain ⟨t18, h18, q18⟩ := step18 (P := P) (w := w) (base := base) (f := f) (A := A) (outer := outer) (s := s) (H0 := H) Pt T T2 TB hr
  obtain ⟨t19, h19, q19⟩ := step19 (P := P) (w := w) (base := base) (f := f) (A := A) (outer := outer) (s := s) (H0 := H) Pt T T2 TB hr
  obtain ⟨t20, h20, q20⟩ := step20 (P := P) (w := w) (base := base) (f := f) (A := A) (outer := outer) (s := s) (H0 := H) Pt T hr
  obtain ⟨t21, h21, q21⟩ := step21 (P := P) (w := w) (base := base) (f := f) (A := A) (outer := outer) (s := s) (H0 := H) Pt T T2 TB hr
  obtain ⟨t22, h22, q22⟩ := step22 (P := P) (w := w) (base := base) (f := f) (A := A) (outer := outer) (s := s) (H0 := H) Pt T hr
  obtain ⟨t23, h23, q23⟩ := step23 (P := P) (w := w) (base := base) (f := f) (A := A) (outer := outer) (s := s) (H0 := H) Pt T hr
  rw [law_body]
  refine ⟨_, L2.PSs.nox (X := cxOf CX0 P w K mg base nLaw "law" (defScope (topS 55)) f (.ref c) A outer s H E) (pss_cons h0 (pss_cons h1 (pss_cons h2 (pss_cons h3 (pss_cons h4 (pss_cons h5 (pss_cons h6 (pss_cons h7 (pss_cons h8 (pss_cons h9 (pss_cons h10 (pss_cons h11 (pss_cons h12 (pss_cons h13 (pss_cons h14 (pss_cons h15 (pss_cons h16 (pss_cons h17 (pss_cons h18 (pss_cons h19 (pss_cons h20 (pss_cons h21 (pss_cons h22 (pss_one h23)))))))))))))))))))))))), ?_⟩
  refine q0 _ _ _ ⟨a, ns, rfl, ha, hl, ht⟩ fun σ1 H1 p1 => ?_
  refine q1 _ _ _ p1 fun σ2 H2 p2 => ?_
  refine q2 _ _ _ p2 fun σ3 H3 p3 => ?_
  refine q3 _ _ _ p3 fun σ4 H4 p4 => ?_
  refine q4 _ _ _ p4 fun σ5 H5 p5 => ?_
  refine q5 _ _ _ p5 fun σ6 H6 p6 => ?_
  refine q6 _ _ _ p6 fun σ7 H7 p7 => ?_
  refine q7 _ _ _ p7 fun σ8 H8 p8 => ?_
  refine q8 _ _ _ p8 fun σ9 H9 p9 => ?_
  refine q9 _ _ _ p9 fun σ10 H10 p10 => ?_
  refine q10 _ _ _ p10 fun σ11 H11 p11 => ?_
  refine q11 _ _ _ p11 fun σ12 H12 p12 => ?_
  refine q12 _ _ _ p12 fun σ13 H13 p13 => ?_
  refine q13 _ _ _ p13 fun σ14 H14 p14 => ?_
  refine q14 _ _ _ p14 fun σ15 H15 p15 => ?_
  refine q15 _ _ _ p15 fun σ16 H16 p16 => ?_
  refine q16 _ _ _ p16 fun σ17 H17 p17 => ?_
  refine q17 _ _ _ p17 fun σ18 H18 p18 => ?_
  refine q18 _ _ _ p18 fun σ19 H19 p19 => ?_
  refine q19 _ _ _ p19 fun σ20 H20 p20 => ?_
  refine q20 _ _ _ p20 fun σ21 H21 p21 => ?_
  refine q21 _ _ _ p21 fun σ22 H22 p22 => ?_
  refine q22 _ _ _ p22 fun σ23 H23 p23 => ?_
  exact q23 _ _ _ p23 fun H' => q H'
end
end K2

namespace K2
open PySem PySem.Spec PyProof.Rows L2 HotX L2H K2H LamX NdefX
open Evl (Ex)
set_option Elab.async false
set_option linter.all false
set_option maxRecDepth 100000
set_option maxHeartbeats 4000000
/-! ### what the top has written -/
section
variable {w : World} {K : PySem.W.Frag} {h : Heap} {mg : Str → Option Value}
abbrev DefX (_ : K.In h) (mg : Str → Option Value) (i : Nat) (x : Str) : Prop := DefAt K mg i x
abbrev ErrX (_ : K.In h) (mg : Str → Option Value) (x : Str) : Prop := ∃ C, ErrAt K mg x C
abbrev TopX (_ : K.In h) (mg : Str → Option Value) : Prop := Top K mg
abbrev Top2X (_ : K.In h) (mg : Str → Option Value) : Prop := Top2 K mg
theorem def_mk (X : K.In h) (G : h.Ns mainGlobals mg) {i : Nat} {x : Str} {f : Addr} {oc kV doc pm cdv ct : Value} {od an : Option Addr} {osl : Array (Option Value)} (a : PySem.W.nsIn K mainGlobals x = some (some (.ref f)))
    (l : K.lookup f = some ⟨oc, od, .func (PySem.W.fnOf x x (defArgs (topS i)) (defBody (topS i)) (defScope (topS i)) .none kV doc pm an cdv ct), osl⟩) (c : PySem.W.codeIn K cdv x = true) (k : PySem.W.keepIn K (.ref f) = true) : DefAt K mg i x :=
  ⟨f, _, fun_mk l c k, PySem.W.mg_of X G a⟩
theorem err_mk (X : K.In h) (G : h.Ns mainGlobals mg) {x : Str} {C : Addr} (a : PySem.W.nsIn K mainGlobals x = some (some (.ref C))) (k : PySem.W.keepIn K (.ref C) = true) (s : PySem.W.subIn K (.ref C) (.type "BaseException") = some true) (t : PySem.W.typeIn K (.ref C) = some (.type "type")) (i : PySem.W.isClsIn K C = true)
    (e : PySem.W.excIn K C [.type "ValueError", .type "Exception", .type "BaseException", .type "object"] "ValueError.__new__" = true) : ∃ C, ErrAt K mg x C := ⟨C, PySem.W.mg_of X G a, k, s, t, i, e⟩
/-- each raised class against each of the ten -/
def kits (K : PySem.W.Frag) (Cs Ds : List Addr) : Bool := (four.zip Cs).all fun p => (ten.zip Ds).all fun q => match PySem.W.kitOne K (.ref p.2) (.ref q.2) with
  | some b => b == decide (q.1.2 = p.1.2)
  | none => false
/-- .. what its instances are asked by -/
def excB (K : PySem.W.Frag) (D : Addr) : Prop := PySem.W.findIn K (.ref D) "__getattribute__" = some (some (.builtin "BaseException.__getattribute__")) ∧ PySem.W.findIn K (.ref D) "__getattr__" = some none ∧ PySem.W.hasDictIn K D = true ∧ PySem.W.findIn K (.ref D) "__class__" = some (some (.builtin "object.__class__")) ∧ PySem.W.mroIn K D (.type "object") = some true
theorem top2_mk (X : K.In h) (G : h.Ns mainGlobals mg) {D0 D1 D2 D3 D4 D5 D6 D7 D8 D9 DE : Addr}
    (a0 : PySem.W.nsIn K mainGlobals "InvalidOrder" = some (some (.ref D0))) (a1 : PySem.W.nsIn K mainGlobals "InvalidMany" = some (some (.ref D1))) (a2 : PySem.W.nsIn K mainGlobals "InvalidExchange" = some (some (.ref D2))) (a3 : PySem.W.nsIn K mainGlobals "InvalidRow" = some (some (.ref D3)))
    (a4 : PySem.W.nsIn K mainGlobals "InvalidPairs" = some (some (.ref D4))) (a5 : PySem.W.nsIn K mainGlobals "InvalidCode" = some (some (.ref D5))) (a6 : PySem.W.nsIn K mainGlobals "InvalidNumber" = some (some (.ref D6))) (a7 : PySem.W.nsIn K mainGlobals "InvalidRings" = some (some (.ref D7)))
    (a8 : PySem.W.nsIn K mainGlobals "Unlike" = some (some (.ref D8))) (a9 : PySem.W.nsIn K mainGlobals "TooMany" = some (some (.ref D9))) (aE : PySem.W.nsIn K mainGlobals "OrderError" = some (some (.ref DE)))
    (kt : kits K [D0, D1, D2, D3] [D0, D1, D2, D3, D4, D5, D6, D7, D8, D9] = true)
    (s0 : PySem.W.subIn K (.ref D0) (.type "BaseException") = some true) (s1 : PySem.W.subIn K (.ref D1) (.type "BaseException") = some true) (s2 : PySem.W.subIn K (.ref D2) (.type "BaseException") = some true) (s3 : PySem.W.subIn K (.ref D3) (.type "BaseException") = some true) (sE : PySem.W.subIn K (.ref DE) (.type "BaseException") = some true)
    (e0 : PySem.W.subIn K (.ref D0) (.ref DE) = some true) (e1 : PySem.W.subIn K (.ref D1) (.ref DE) = some true) (e2 : PySem.W.subIn K (.ref D2) (.ref DE) = some true) (e3 : PySem.W.subIn K (.ref D3) (.ref DE) = some true) (hE : PySem.W.hasDictIn K DE = true) (tE : PySem.W.typeIn K (.ref DE) = some (.type "type"))
    (b0 : excB K D0) (b1 : excB K D1) (b2 : excB K D2) (b3 : excB K D3) (hn : PySem.W.specialIn K (.builtin "object.__class__") "__get__" = some (some (.builtin "getset_descriptor.__get__"))) (ht : PySem.W.takesIn K (.builtin "object.__class__") = some true) : Top2 K mg := by
  have m : ∀ {x : Str} {C : Addr}, PySem.W.nsIn K mainGlobals x = some (some (.ref C)) → mg x = some (.ref C) := fun e => PySem.W.mg_of X G e
  have fours : ∀ p ∈ four, ∀ C, mg p.1 = some (.ref C) → (p, C) ∈ four.zip [D0, D1, D2, D3] := by
    intro p hp C hC
    unfold four at hp
    rcases List.mem_cons.mp hp with rfl | hp
    · have := (m a0).symm.trans hC; cases this; exact .head _
    rcases List.mem_cons.mp hp with rfl | hp
    · have := (m a1).symm.trans hC; cases this; exact .tail _ (.head _)
    rcases List.mem_cons.mp hp with rfl | hp
    · have := (m a2).symm.trans hC; cases this; exact .tail _ (.tail _ (.head _))
    rw [List.mem_singleton.mp hp] at hC ⊢
    have := (m a3).symm.trans hC; cases this; exact .tail _ (.tail _ (.tail _ (.head _)))
  have tens : ∀ p ∈ ten, ∃ D, mg p.1 = some (.ref D) ∧ (p, D) ∈ ten.zip [D0, D1, D2, D3, D4, D5, D6, D7, D8, D9] := by
    intro p hp
    unfold ten at hp
    rcases List.mem_cons.mp hp with rfl | hp
    · exact ⟨_, m a0, .head _⟩
    rcases List.mem_cons.mp hp with rfl | hp
    · exact ⟨_, m a1, .tail _ (.head _)⟩
    rcases List.mem_cons.mp hp with rfl | hp
    · exact ⟨_, m a2, .tail _ (.tail _ (.head _))⟩
    rcases List.mem_cons.mp hp with rfl | hp
    · exact ⟨_, m a3, .tail _ (.tail _ (.tail _ (.head _)))⟩
    rcases List.mem_cons.mp hp with rfl | hp
    · exact ⟨_, m a4, .tail _ (.tail _ (.tail _ (.tail _ (.head _))))⟩
    rcases List.mem_cons.mp hp with rfl | hp
    · exact ⟨_, m a5, .tail _ (.tail _ (.tail _ (.tail _ (.tail _ (.head _)))))⟩
    rcases List.mem_cons.mp hp with rfl | hp
    · exact ⟨_, m a6, .tail _ (.tail _ (.tail _ (.tail _ (.tail _ (.tail _ (.head _))))))⟩
    rcases List.mem_cons.mp hp with rfl | hp
    · exact ⟨_, m a7, .tail _ (.tail _ (.tail _ (.tail _ (.tail _ (.tail _ (.tail _ (.head _)))))))⟩
    rcases List.mem_cons.mp hp with rfl | hp
    · exact ⟨_, m a8, .tail _ (.tail _ (.tail _ (.tail _ (.tail _ (.tail _ (.tail _ (.tail _ (.head _))))))))⟩
    rw [List.mem_singleton.mp hp]
    exact ⟨_, m a9, .tail _ (.tail _ (.tail _ (.tail _ (.tail _ (.tail _ (.tail _ (.tail _ (.tail _ (.head _)))))))))⟩
  have facts : ∀ p ∈ four, ∀ C, mg p.1 = some (.ref C) → excB K C ∧ PySem.W.subIn K (.ref C) (.type "BaseException") = some true ∧ PySem.W.subIn K (.ref C) (.ref DE) = some true := by
    intro p hp C hC
    unfold four at hp
    rcases List.mem_cons.mp hp with rfl | hp
    · have := (m a0).symm.trans hC; cases this; exact ⟨b0, s0, e0⟩
    rcases List.mem_cons.mp hp with rfl | hp
    · have := (m a1).symm.trans hC; cases this; exact ⟨b1, s1, e1⟩
    rcases List.mem_cons.mp hp with rfl | hp
    · have := (m a2).symm.trans hC; cases this; exact ⟨b2, s2, e2⟩
    rw [List.mem_singleton.mp hp] at hC
    have := (m a3).symm.trans hC; cases this; exact ⟨b3, s3, e3⟩
  refine ⟨fun p hp => let ⟨D, h1, _⟩ := tens p hp; ⟨D, h1⟩, fun p hp C hC => ?_, DE, m aE, fun p hp C hC => ?_⟩
  · obtain ⟨⟨f1, f2, f3, f4, f5⟩, f6, _⟩ := facts p hp C hC
    refine ⟨⟨f1, f2, f6, f3, f4, hn, ht, f5⟩, fun q hq D hD => ?_⟩
    obtain ⟨D', h1, h2⟩ := tens q hq
    have eD := h1.symm.trans hD
    cases eD
    have k1 := List.all_eq_true.mp (List.all_eq_true.mp kt _ (fours p hp C hC)) _ h2
    cases hk : PySem.W.kitOne K (.ref C) (.ref D) with
    | none =>
      dsimp only at k1
      rw [hk] at k1
      cases k1
    | some b =>
      dsimp only at k1
      rw [hk] at k1
      have : b = decide (q.2 = p.2) := eq_of_beq k1
      rw [this]
  · obtain ⟨_, _, f7⟩ := facts p hp C hC
    exact PySem.W.exm_ref sE hE tE f7
theorem law_mk {l : PySem.W.OpenLaw} (X : K.In h) (G : h.Ns mainGlobals mg) {fa f c Pt : Addr} (hmg : mg "law" = some (.ref fa)) (a : PySem.W.nsIn K mainGlobals "law" = some (some (.ref f)))
    {oc kV doc pm ct : Value} {od an : Option Addr} {osl : Array (Option Value)}
    (lk : K.lookup f = some ⟨oc, od, .func (PySem.W.fnOf "law" "law" (defArgs (topS 55)) (defBody (topS 55)) (defScope (topS 55)) .none kV doc pm an (.ref c) ct), osl⟩) (hcd : PySem.W.codeIn K (.ref c) "law" = true)
    (hT : h.get? Pt = some { cls := .none, data := .fields #[] }) (nT : K.lookup Pt = none) (hc : PySem.W.codeHdIn K c Pt = true) (T : Top K mg) (T2 : Top2 K mg) : LawAtS l w K CX0 8 63 "_law_script" mg fa h := by
  have e := hmg.symm.trans (PySem.W.mg_of X G a)
  cases e
  refine ⟨_, [(c, Pt)], spLaw K Pt, fun p hp => by rw [List.mem_singleton.mp hp]; exact hT, fun p hp => by rw [List.mem_singleton.mp hp]; exact nT, fun p hp => by rw [List.mem_singleton.mp hp]; exact PySem.W.codeHd_of_K X hc, fun s u => .of_eq rfl, fun H a ns hl _ hH hS => ?_,
    fun base _ _ hB => law_ok T T2 (hB (c, Pt) List.mem_cons_self) lk hcd⟩
  refine ⟨.ref a, ns, rfl, ⟨a, rfl, hS⟩, by omega, fun p hp => ?_, fun _ => rfl⟩
  rw [List.mem_singleton.mp hp]
  exact TabS.nil (hH (c, Pt) List.mem_cons_self)
end
end K2

open PySem PySem.W PyProof.Rows
set_option Elab.async false
set_option linter.all false
set_option maxRecDepth 100000
set_option maxHeartbeats 0
theorem PySem.Challenge.cw_wiredorders_k02_whole_rows_of_exchanges_holds : PySem.Challenge.rw_wiredorders_k02_whole_rows_of_exchanges.Holds := by
  w_on; o_law; k_head; (case hw => w_witness2)
  k_fill
  refine LamX.walk_ofTs (l := PySem.Challenge.rw_wiredorders_k02_whole_rows_of_exchanges) (n := 63) (k := 8) (x := "_law_script") (CX := fun _ => L2.CX0) rfl (by decide) rfl ⟨rfl, by decide, by decide⟩ (fun w h Y => PySem.W.km_in_of Y) ?F (fun _ _ _ _ _ z => z)
  case F =>
    intro w mg fa h Y KX G hmg
    have hT := PySem.W.km_tabs_of Y _ List.mem_cons_self
    have d15 : K2.DefX KX mg 15 "is_whole" := by
      refine' K2.def_mk KX G (i := 15) (x := "is_whole") ?a ?l ?c ?k
      (case a => k_is); (case l => k_is); (case c => k_is); (case k => k_is)
    have d16 : K2.DefX KX mg 16 "fits_order" := by
      refine' K2.def_mk KX G (i := 16) (x := "fits_order") ?a ?l ?c ?k
      (case a => k_is); (case l => k_is); (case c => k_is); (case k => k_is)
    have d17 : K2.DefX KX mg 17 "opposite_of" := by
      refine' K2.def_mk KX G (i := 17) (x := "opposite_of") ?a ?l ?c ?k
      (case a => k_is); (case l => k_is); (case c => k_is); (case k => k_is)
    have d18 : K2.DefX KX mg 18 "led_by" := by
      refine' K2.def_mk KX G (i := 18) (x := "led_by") ?a ?l ?c ?k
      (case a => k_is); (case l => k_is); (case c => k_is); (case k => k_is)
    have d19 : K2.DefX KX mg 19 "swapped_at" := by
      refine' K2.def_mk KX G (i := 19) (x := "swapped_at") ?a ?l ?c ?k
      (case a => k_is); (case l => k_is); (case c => k_is); (case k => k_is)
    have d20 : K2.DefX KX mg 20 "renamed_at" := by
      refine' K2.def_mk KX G (i := 20) (x := "renamed_at") ?a ?l ?c ?k
      (case a => k_is); (case l => k_is); (case c => k_is); (case k => k_is)
    have d21 : K2.DefX KX mg 21 "fits_row" := by
      refine' K2.def_mk KX G (i := 21) (x := "fits_row") ?a ?l ?c ?k
      (case a => k_is); (case l => k_is); (case c => k_is); (case k => k_is)
    have d22 : K2.DefX KX mg 22 "behind_row" := by
      refine' K2.def_mk KX G (i := 22) (x := "behind_row") ?a ?l ?c ?k
      (case a => k_is); (case l => k_is); (case c => k_is); (case k => k_is)
    have d23 : K2.DefX KX mg 23 "need_order" := by
      refine' K2.def_mk KX G (i := 23) (x := "need_order") ?a ?l ?c ?k
      (case a => k_is); (case l => k_is); (case c => k_is); (case k => k_is)
    have d24 : K2.DefX KX mg 24 "need_many" := by
      refine' K2.def_mk KX G (i := 24) (x := "need_many") ?a ?l ?c ?k
      (case a => k_is); (case l => k_is); (case c => k_is); (case k => k_is)
    have d25 : K2.DefX KX mg 25 "need_exchange" := by
      refine' K2.def_mk KX G (i := 25) (x := "need_exchange") ?a ?l ?c ?k
      (case a => k_is); (case l => k_is); (case c => k_is); (case k => k_is)
    have d26 : K2.DefX KX mg 26 "need_row" := by
      refine' K2.def_mk KX G (i := 26) (x := "need_row") ?a ?l ?c ?k
      (case a => k_is); (case l => k_is); (case c => k_is); (case k => k_is)
    have d27 : K2.DefX KX mg 27 "need_alike" := by
      refine' K2.def_mk KX G (i := 27) (x := "need_alike") ?a ?l ?c ?k
      (case a => k_is); (case l => k_is); (case c => k_is); (case k => k_is)
    have d28 : K2.DefX KX mg 28 "led" := by
      refine' K2.def_mk KX G (i := 28) (x := "led") ?a ?l ?c ?k
      (case a => k_is); (case l => k_is); (case c => k_is); (case k => k_is)
    have d29 : K2.DefX KX mg 29 "swapped" := by
      refine' K2.def_mk KX G (i := 29) (x := "swapped") ?a ?l ?c ?k
      (case a => k_is); (case l => k_is); (case c => k_is); (case k => k_is)
    have d30 : K2.DefX KX mg 30 "renamed" := by
      refine' K2.def_mk KX G (i := 30) (x := "renamed") ?a ?l ?c ?k
      (case a => k_is); (case l => k_is); (case c => k_is); (case k => k_is)
    have d31 : K2.DefX KX mg 31 "is_row" := by
      refine' K2.def_mk KX G (i := 31) (x := "is_row") ?a ?l ?c ?k
      (case a => k_is); (case l => k_is); (case c => k_is); (case k => k_is)
    have d32 : K2.DefX KX mg 32 "order_behind" := by
      refine' K2.def_mk KX G (i := 32) (x := "order_behind") ?a ?l ?c ?k
      (case a => k_is); (case l => k_is); (case c => k_is); (case k => k_is)
    have d33 : K2.DefX KX mg 33 "led_on" := by
      refine' K2.def_mk KX G (i := 33) (x := "led_on") ?a ?l ?c ?k
      (case a => k_is); (case l => k_is); (case c => k_is); (case k => k_is)
    have d35 : K2.DefX KX mg 35 "pairs_of" := by
      refine' K2.def_mk KX G (i := 35) (x := "pairs_of") ?a ?l ?c ?k
      (case a => k_is); (case l => k_is); (case c => k_is); (case k => k_is)
    have d36 : K2.DefX KX mg 36 "size_by" := by
      refine' K2.def_mk KX G (i := 36) (x := "size_by") ?a ?l ?c ?k
      (case a => k_is); (case l => k_is); (case c => k_is); (case k => k_is)
    have d37 : K2.DefX KX mg 37 "falls_of" := by
      refine' K2.def_mk KX G (i := 37) (x := "falls_of") ?a ?l ?c ?k
      (case a => k_is); (case l => k_is); (case c => k_is); (case k => k_is)
    have d38 : K2.DefX KX mg 38 "least_row_of" := by
      refine' K2.def_mk KX G (i := 38) (x := "least_row_of") ?a ?l ?c ?k
      (case a => k_is); (case l => k_is); (case c => k_is); (case k => k_is)
    have d39 : K2.DefX KX mg 39 "is_least" := by
      refine' K2.def_mk KX G (i := 39) (x := "is_least") ?a ?l ?c ?k
      (case a => k_is); (case l => k_is); (case c => k_is); (case k => k_is)
    have d40 : K2.DefX KX mg 40 "size_of" := by
      refine' K2.def_mk KX G (i := 40) (x := "size_of") ?a ?l ?c ?k
      (case a => k_is); (case l => k_is); (case c => k_is); (case k => k_is)
    have d41 : K2.DefX KX mg 41 "is_least_row" := by
      refine' K2.def_mk KX G (i := 41) (x := "is_least_row") ?a ?l ?c ?k
      (case a => k_is); (case l => k_is); (case c => k_is); (case k => k_is)
    have d42 : K2.DefX KX mg 42 "some_row" := by
      refine' K2.def_mk KX G (i := 42) (x := "some_row") ?a ?l ?c ?k
      (case a => k_is); (case l => k_is); (case c => k_is); (case k => k_is)
    have d44 : K2.DefX KX mg 44 "_law_pot" := by
      refine' K2.def_mk KX G (i := 44) (x := "_law_pot") ?a ?l ?c ?k
      (case a => k_is); (case l => k_is); (case c => k_is); (case k => k_is)
    have d45 : K2.DefX KX mg 45 "_law_dip" := by
      refine' K2.def_mk KX G (i := 45) (x := "_law_dip") ?a ?l ?c ?k
      (case a => k_is); (case l => k_is); (case c => k_is); (case k => k_is)
    have d46 : K2.DefX KX mg 46 "_law_one" := by
      refine' K2.def_mk KX G (i := 46) (x := "_law_one") ?a ?l ?c ?k
      (case a => k_is); (case l => k_is); (case c => k_is); (case k => k_is)
    have d47 : K2.DefX KX mg 47 "_law_order" := by
      refine' K2.def_mk KX G (i := 47) (x := "_law_order") ?a ?l ?c ?k
      (case a => k_is); (case l => k_is); (case c => k_is); (case k => k_is)
    have d48 : K2.DefX KX mg 48 "_law_many" := by
      refine' K2.def_mk KX G (i := 48) (x := "_law_many") ?a ?l ?c ?k
      (case a => k_is); (case l => k_is); (case c => k_is); (case k => k_is)
    have d49 : K2.DefX KX mg 49 "_law_swapped" := by
      refine' K2.def_mk KX G (i := 49) (x := "_law_swapped") ?a ?l ?c ?k
      (case a => k_is); (case l => k_is); (case c => k_is); (case k => k_is)
    have d50 : K2.DefX KX mg 50 "_law_name" := by
      refine' K2.def_mk KX G (i := 50) (x := "_law_name") ?a ?l ?c ?k
      (case a => k_is); (case l => k_is); (case c => k_is); (case k => k_is)
    have d51 : K2.DefX KX mg 51 "_law_words" := by
      refine' K2.def_mk KX G (i := 51) (x := "_law_words") ?a ?l ?c ?k
      (case a => k_is); (case l => k_is); (case c => k_is); (case k => k_is)
    have d52 : K2.DefX KX mg 52 "_law_bad_orders" := by
      refine' K2.def_mk KX G (i := 52) (x := "_law_bad_orders") ?a ?l ?c ?k
      (case a => k_is); (case l => k_is); (case c => k_is); (case k => k_is)
    have d53 : K2.DefX KX mg 53 "_law_steps" := by
      refine' K2.def_mk KX G (i := 53) (x := "_law_steps") ?a ?l ?c ?k
      (case a => k_is); (case l => k_is); (case c => k_is); (case k => k_is)
    have d54 : K2.DefX KX mg 54 "_law_right" := by
      refine' K2.def_mk KX G (i := 54) (x := "_law_right") ?a ?l ?c ?k
      (case a => k_is); (case l => k_is); (case c => k_is); (case k => k_is)
    have r0 : K2.ErrX KX mg "InvalidOrder" := by
      refine' K2.err_mk KX G (x := "InvalidOrder") ?a ?k ?s ?t ?i ?e
      (case a => k_is); (case k => k_is); (case s => k_is); (case t => k_is); (case i => k_is); (case e => k_exc)
    have r1 : K2.ErrX KX mg "InvalidMany" := by
      refine' K2.err_mk KX G (x := "InvalidMany") ?a ?k ?s ?t ?i ?e
      (case a => k_is); (case k => k_is); (case s => k_is); (case t => k_is); (case i => k_is); (case e => k_exc)
    have r2 : K2.ErrX KX mg "InvalidExchange" := by
      refine' K2.err_mk KX G (x := "InvalidExchange") ?a ?k ?s ?t ?i ?e
      (case a => k_is); (case k => k_is); (case s => k_is); (case t => k_is); (case i => k_is); (case e => k_exc)
    have r3 : K2.ErrX KX mg "InvalidRow" := by
      refine' K2.err_mk KX G (x := "InvalidRow") ?a ?k ?s ?t ?i ?e
      (case a => k_is); (case k => k_is); (case s => k_is); (case t => k_is); (case i => k_is); (case e => k_exc)
    have r4 : K2.ErrX KX mg "Unlike" := by
      refine' K2.err_mk KX G (x := "Unlike") ?a ?k ?s ?t ?i ?e
      (case a => k_is); (case k => k_is); (case s => k_is); (case t => k_is); (case i => k_is); (case e => k_exc)
    have b_isinstance : mg "isinstance" = none := PySem.W.mg_none_of KX G (by k_is)
    have b_int : mg "int" = none := PySem.W.mg_none_of KX G (by k_is)
    have b_bool : mg "bool" = none := PySem.W.mg_none_of KX G (by k_is)
    have b_tuple : mg "tuple" = none := PySem.W.mg_none_of KX G (by k_is)
    have b_len : mg "len" = none := PySem.W.mg_none_of KX G (by k_is)
    have b_all : mg "all" = none := PySem.W.mg_none_of KX G (by k_is)
    have b_set : mg "set" = none := PySem.W.mg_none_of KX G (by k_is)
    have b_dict : mg "dict" = none := PySem.W.mg_none_of KX G (by k_is)
    have b_enumerate : mg "enumerate" = none := PySem.W.mg_none_of KX G (by k_is)
    have b_range : mg "range" = none := PySem.W.mg_none_of KX G (by k_is)
    have b_sorted : mg "sorted" = none := PySem.W.mg_none_of KX G (by k_is)
    have b_abs : mg "abs" = none := PySem.W.mg_none_of KX G (by k_is)
    have b_list : mg "list" = none := PySem.W.mg_none_of KX G (by k_is)
    have b_zip : mg "zip" = none := PySem.W.mg_none_of KX G (by k_is)
    have c_things : ∃ t, mg "THINGS" = some (.int 30 t) := ⟨_, PySem.W.mg_of KX G (by k_is)⟩
    have c_long : ∃ t, mg "LONG" = some (.int 450 t) := ⟨_, PySem.W.mg_of KX G (by k_is)⟩
    have T : K2.TopX KX mg := by
      refine ⟨fun p hp => ?_, fun x hx => ?_, fun x hx => ?_, c_things, c_long⟩
      · simp only [K2.defs, List.mem_cons, List.not_mem_nil, or_false] at hp
        rcases hp with rfl | rfl | rfl | rfl | rfl | rfl | rfl | rfl | rfl | rfl | rfl | rfl | rfl | rfl | rfl | rfl | rfl | rfl | rfl | rfl | rfl | rfl | rfl | rfl | rfl | rfl | rfl | rfl | rfl | rfl | rfl | rfl | rfl | rfl | rfl | rfl | rfl | rfl
        · exact d15
        · exact d16
        · exact d17
        · exact d18
        · exact d19
        · exact d20
        · exact d21
        · exact d22
        · exact d23
        · exact d24
        · exact d25
        · exact d26
        · exact d27
        · exact d28
        · exact d29
        · exact d30
        · exact d31
        · exact d32
        · exact d33
        · exact d35
        · exact d36
        · exact d37
        · exact d38
        · exact d39
        · exact d40
        · exact d41
        · exact d42
        · exact d44
        · exact d45
        · exact d46
        · exact d47
        · exact d48
        · exact d49
        · exact d50
        · exact d51
        · exact d52
        · exact d53
        · exact d54
      · simp only [K2.blts, List.mem_cons, List.not_mem_nil, or_false] at hx
        rcases hx with rfl | rfl | rfl | rfl | rfl | rfl | rfl | rfl | rfl | rfl | rfl | rfl | rfl | rfl
        · exact b_isinstance
        · exact b_int
        · exact b_bool
        · exact b_tuple
        · exact b_len
        · exact b_all
        · exact b_set
        · exact b_dict
        · exact b_enumerate
        · exact b_range
        · exact b_sorted
        · exact b_abs
        · exact b_list
        · exact b_zip
      · simp only [K2.errs, List.mem_cons, List.not_mem_nil, or_false] at hx
        rcases hx with rfl | rfl | rfl | rfl | rfl
        · exact r0
        · exact r1
        · exact r2
        · exact r3
        · exact r4
    have T2 : K2.Top2X KX mg := by
      refine' K2.top2_mk KX G ?a0 ?a1 ?a2 ?a3 ?a4 ?a5 ?a6 ?a7 ?a8 ?a9 ?aE ?kt ?s0 ?s1 ?s2 ?s3 ?sE ?e0 ?e1 ?e2 ?e3 ?hE ?tE ?b0 ?b1 ?b2 ?b3 ?hn ?ht
      (case a0 => k_is)
      (case a1 => k_is)
      (case a2 => k_is)
      (case a3 => k_is)
      (case a4 => k_is)
      (case a5 => k_is)
      (case a6 => k_is)
      (case a7 => k_is)
      (case a8 => k_is)
      (case a9 => k_is)
      (case aE => k_is)
      (case s0 => k_is)
      (case s1 => k_is)
      (case s2 => k_is)
      (case s3 => k_is)
      (case sE => k_is)
      (case e0 => k_is)
      (case e1 => k_is)
      (case e2 => k_is)
      (case e3 => k_is)
      (case hE => k_is)
      (case tE => k_is)
      (case b0 => exact ⟨by k_is, by k_is, by k_is, by k_is, by k_is⟩)
      (case b1 => exact ⟨by k_is, by k_is, by k_is, by k_is, by k_is⟩)
      (case b2 => exact ⟨by k_is, by k_is, by k_is, by k_is, by k_is⟩)
      (case b3 => exact ⟨by k_is, by k_is, by k_is, by k_is, by k_is⟩)
      (case hn => k_is)
      (case ht => k_is)
      (case kt => kernel_rfl)
    refine' K2.law_mk KX G hmg ?a ?lk9 ?hcd9 hT ?nT9 ?hd9 T T2
    (case a => k_is); (case lk9 => k_is); (case hcd9 => k_is); (case nT9 => kernel_rfl); (case hd9 => kernel_rfl)
