import PyProof.Rows.All
import Wide.All
import OpenK.AllK
import Wide.FinOn
import HandS.ForMost
import HandS.Evl
import HandS.Conv
import HandS.TupAny
import HandS.Style
import HandS.IsInst
import HandS.Deep
import KE.KTupSum
import KE.GoesEnum
import HandS.TupSets
import HandS.Zip
import HandS.DictComp
import HandS.Star
import HandS.Exc
import HandS.ExcField
import HandS.TryMany
import HandS.WordsExc
import HandS.SortInts
import HandS.SortOrd
import HandS.Small
import PyProof.DictMoreH
import HandS.NamedTupSort
import KE.KSortAsk
import KE.KSortTup
import KE.KeyNested
import KE.KDictKeyed
import HandS.Lambda
import HandS.CallLocal
import HandS.Nested
import KE.KExcSuper
import HandS.ExcSuper
import PyProof.ReprRoads
import PyProof.ReprBulk
import HandS.Defaults
import HandS.MakeKwOnly
import HandS.EndTab
import KE.KNestM
import PySem.Challenge.RW_bothplans_k21_whole_stores_put_together
set_option Elab.async false
set_option linter.all false
namespace Bp
/-! rows, their neighbours, joined lists of rows; what is put together of joined ones is joined -/
abbrev Row := List Int
structure Diff1 (k : Nat) (a b : Row) : Prop where
  len : a.length = b.length
  ne : a[k]? ≠ b[k]?
  eq : ∀ j : Nat, j ≠ k → a[j]? = b[j]?
def Box (a b c : Row) : Prop := c.length = a.length ∧ ∀ j : Nat, a[j]? = b[j]? → c[j]? = a[j]?
inductive Star (R : Row → Row → Prop) (a : Row) : Row → Prop
  | refl : Star R a a
  | tail {b c : Row} : Star R a b → R b c → Star R a c
theorem Star.trans {R : Row → Row → Prop} {a b c : Row} (h : Star R a b) (g : Star R b c) : Star R a c := by
  induction g with
  | refl => exact h
  | tail _ r ih => exact .tail ih r
theorem Star.lift {R R' : Row → Row → Prop} {f : Row → Row} {a b : Row} (h : Star R a b) (hf : ∀ x y, Star R a x → R x y → R' (f x) (f y)) : Star R' (f a) (f b) := by
  induction h with
  | refl => exact .refl
  | tail s r ih => exact .tail ih (hf _ _ s r)
theorem Star.mono {R R' : Row → Row → Prop} {a b : Row} (h : Star R a b) (hf : ∀ x y, R x y → R' x y) : Star R' a b := by
  induction h with
  | refl => exact .refl
  | tail s r ih => exact .tail ih (hf _ _ r)
/-- one change of an allowed row, within the box of a and b -/
def Step (S : Row → Prop) (a b : Row) (x y : Row) : Prop := S y ∧ Box a b y ∧ ∃ k, Diff1 k x y
def Joined (S : Row → Prop) : Prop := ∀ a, S a → ∀ b, S b → Star (Step S a b) a b
theorem Step.sym_box {a b c : Row} (hl : a.length = b.length) (h : Box a b c) : Box b a c := ⟨h.1.trans hl, fun j e => (h.2 j e.symm).trans e.symm⟩
theorem Diff1.sym {k : Nat} {a b : Row} (h : Diff1 k a b) : Diff1 k b a := ⟨h.len.symm, fun e => h.ne e.symm, fun j hj => (h.eq j hj).symm⟩
theorem Box.self (a b : Row) : Box a b a := ⟨rfl, fun _ _ => rfl⟩
theorem Box.last {a b : Row} (hl : a.length = b.length) : Box a b b := ⟨hl.symm, fun _ e => e.symm⟩
theorem Star.stays {S : Row → Prop} {a b x : Row} (ha : S a) (h : Star (Step S a b) a x) : S x ∧ Box a b x := by
  cases h with
  | refl => exact ⟨ha, Box.self a b⟩
  | tail _ r => exact ⟨r.1, r.2.1⟩
/-- a crossing of the key k -/
theorem crossing {S : Row → Prop} {a b c : Row} {k : Nat} (ha : S a) (h : Star (Step S a b) a c) : c[k]? = a[k]? ∨ ∃ u v, S u ∧ Box a b u ∧ u[k]? = a[k]? ∧ Step S a b u v ∧ v[k]? ≠ a[k]? := by
  induction h with
  | refl => exact .inl rfl
  | @tail x y s r ih =>
    rcases ih with e | q
    · by_cases e2 : y[k]? = a[k]?
      · exact .inl e2
      · exact .inr ⟨x, y, (s.stays ha).1, (s.stays ha).2, e, r, e2⟩
    · exact .inr q
/-! ### put together -/
/-- what b has on the keys rest -/
def onKeys (rest : List Nat) (b : Row) : Row := rest.map fun j => b.getD j 0
def glue (rest : List Nat) (a b : Row) : Row := a ++ onKeys rest b
theorem onKeys_get (rest : List Nat) (b : Row) (i : Nat) : (onKeys rest b)[i]? = (rest[i]?).map fun j => b.getD j 0 := by
  unfold onKeys; rw [List.getElem?_map]
theorem glue_lt {rest : List Nat} {a b : Row} {i : Nat} (h : i < a.length) : (glue rest a b)[i]? = a[i]? := by
  unfold glue; rw [List.getElem?_append_left h]
theorem glue_ge {rest : List Nat} {a b : Row} {i : Nat} (h : a.length ≤ i) : (glue rest a b)[i]? = (rest[i - a.length]?).map fun j => b.getD j 0 := by
  unfold glue; rw [List.getElem?_append_right h, onKeys_get]
theorem glue_len (rest : List Nat) (a b : Row) : (glue rest a b).length = a.length + rest.length := by
  unfold glue onKeys; rw [List.length_append, List.length_map]
theorem getD_eq {b d : Row} {j : Nat} (h : b[j]? = d[j]?) : b.getD j 0 = d.getD j 0 := by
  rw [List.getD_eq_getElem?_getD, List.getD_eq_getElem?_getD, h]
theorem get_of_getD {b d : Row} {j : Nat} (hb : j < b.length) (hd : j < d.length) (h : b.getD j 0 = d.getD j 0) : b[j]? = d[j]? := by
  rw [List.getD_eq_getElem?_getD, List.getD_eq_getElem?_getD, List.getElem?_eq_getElem hb, List.getElem?_eq_getElem hd] at h
  rw [List.getElem?_eq_getElem hb, List.getElem?_eq_getElem hd]
  exact congrArg some h
section
variable {rest : List Nat} {n m : Nat}
theorem box_glue {a b c d x y : Row} (la : a.length = n) (lc : c.length = n) (lb : b.length = m) (ld : d.length = m) (ly : y.length = m) (hr : ∀ j ∈ rest, j < m) (h1 : Box a c x) (h2 : Box b d y) : Box (glue rest a b) (glue rest c d) (glue rest x y) := by
  refine ⟨by rw [glue_len, glue_len, h1.1], fun j e => ?_⟩
  by_cases hj : j < n
  · rw [glue_lt (by omega), glue_lt (by omega)] at e
    rw [glue_lt (by rw [h1.1]; omega), glue_lt (by omega)]
    exact h1.2 j e
  · rw [glue_ge (by omega), glue_ge (by omega)] at e
    rw [glue_ge (by rw [h1.1]; omega), glue_ge (by omega)]
    rw [h1.1]
    rw [show c.length = a.length by omega] at e
    cases e2 : rest[j - a.length]? with
    | none => rfl
    | some i =>
      rw [e2] at e
      have hi : i < m := hr i (List.mem_of_getElem? e2)
      have e3 : b.getD i 0 = d.getD i 0 := Option.some.inj e
      have e4 := h2.2 i (get_of_getD (by omega) (by omega) e3)
      show some (y.getD i 0) = some (b.getD i 0)
      rw [getD_eq e4]
/-- a change of the first alone -/
theorem diff_left {k : Nat} {x x' y : Row} (h : Diff1 k x x') (hk : k < x.length) : Diff1 k (glue rest x y) (glue rest x' y) := by
  refine ⟨by rw [glue_len, glue_len, h.len], ?_, fun j hj => ?_⟩
  · rw [glue_lt hk, glue_lt (by rw [← h.len]; exact hk)]
    exact h.ne
  · by_cases hl : j < x.length
    · rw [glue_lt hl, glue_lt (by rw [← h.len]; exact hl)]
      exact h.eq j hj
    · rw [glue_ge (by omega), glue_ge (by rw [← h.len]; omega), h.len]
theorem Diff1.lt {k : Nat} {x x' : Row} (h : Diff1 k x x') : k < x.length := by
  by_cases c : k < x.length
  · exact c
  · exfalso
    refine h.ne ?_
    rw [List.getElem?_eq_none (by omega), List.getElem?_eq_none (by rw [← h.len]; omega)]
/-- a change of the second alone, at a key of rest -/
theorem diff_right {k i : Nat} {x y y' : Row} (h : Diff1 k y y') (hn : rest.Nodup) (hi : rest[i]? = some k) : Diff1 (x.length + i) (glue rest x y) (glue rest x y') := by
  have hk := h.lt
  refine ⟨by rw [glue_len, glue_len], ?_, fun j hj => ?_⟩
  · rw [glue_ge (by omega), glue_ge (by omega), show x.length + i - x.length = i by omega, hi]
    intro e
    exact h.ne (get_of_getD hk (by rw [← h.len]; exact hk) (Option.some.inj e))
  · by_cases hl : j < x.length
    · rw [glue_lt hl, glue_lt hl]
    · rw [glue_ge (by omega), glue_ge (by omega)]
      cases e2 : rest[j - x.length]? with
      | none => rfl
      | some q =>
        show some (y.getD q 0) = some (y'.getD q 0)
        have : q ≠ k := by
          intro e
          subst e
          have h1 : j - x.length < rest.length := (List.getElem?_eq_some_iff.mp e2).1
          have h2 : i < rest.length := (List.getElem?_eq_some_iff.mp hi).1
          have : j - x.length = i := by
            have e5 := (List.getElem?_eq_some_iff.mp e2).2
            have e6 := (List.getElem?_eq_some_iff.mp hi).2
            exact (List.getElem_inj hn).mp (e5.trans e6.symm)
          omega
        rw [getD_eq (h.eq q this)]
/-- a change of both at the common key -/
theorem diff_both {k l : Nat} {x x' y y' : Row} (h : Diff1 k x x') (g : Diff1 l y y') (hl : l ∉ rest) : Diff1 k (glue rest x y) (glue rest x' y') := by
  have hk := h.lt
  refine ⟨by rw [glue_len, glue_len, h.len], ?_, fun j hj => ?_⟩
  · rw [glue_lt hk, glue_lt (by rw [← h.len]; exact hk)]
    exact h.ne
  · by_cases c : j < x.length
    · rw [glue_lt c, glue_lt (by rw [← h.len]; exact c)]
      exact h.eq j hj
    · rw [glue_ge (by omega), glue_ge (by rw [← h.len]; omega), h.len]
      cases e2 : rest[j - x'.length]? with
      | none => rfl
      | some q =>
        show some (y.getD q 0) = some (y'.getD q 0)
        have : q ≠ l := fun e => hl (e ▸ List.mem_of_getElem? e2)
        rw [getD_eq (g.eq q this)]
end
/-- the rows put together -/
def Put (S T : Row → Prop) (fit : Row → Row → Prop) (rest : List Nat) (z : Row) : Prop := ∃ a b, S a ∧ T b ∧ fit a b ∧ z = glue rest a b
section
variable {S T : Row → Prop} {rest : List Nat} {n m : Nat}
/-- side by side -/
theorem joined_side (lS : ∀ a, S a → a.length = n) (lT : ∀ b, T b → b.length = m) (hn : rest.Nodup) (hr : ∀ j, j ∈ rest ↔ j < m) (jS : Joined S) (jT : Joined T) : Joined (Put S T (fun _ _ => True) rest) := by
  rintro _ ⟨a, b, ha, hb, _, rfl⟩ _ ⟨c, d, hc, hd, _, rfl⟩
  have s1 : Star (Step (Put S T (fun _ _ => True) rest) (glue rest a b) (glue rest c d)) (glue rest a b) (glue rest c b) := by
    refine Star.lift (f := fun x => glue rest x b) (jS a ha c hc) fun x y hx r => ?_
    obtain ⟨sy, by_, k, dk⟩ := r
    exact ⟨⟨y, b, sy, hb, trivial, rfl⟩, box_glue (lS a ha) (lS c hc) (lT b hb) (lT d hd) (lT b hb) (fun j hj => (hr j).mp hj) by_ (Box.self b d), k, diff_left dk dk.lt⟩
  refine s1.trans ?_
  refine Star.lift (f := fun y => glue rest c y) (jT b hb d hd) fun x y hx r => ?_
  obtain ⟨ty, by_, k, dk⟩ := r
  have hk : k ∈ rest := (hr k).mpr (by have := dk.lt; rw [lT x (hx.stays hb).1] at this; exact this)
  obtain ⟨i, hi⟩ := List.getElem?_of_mem hk
  exact ⟨⟨c, y, hc, ty, trivial, rfl⟩, box_glue (lS a ha) (lS c hc) (lT b hb) (lT d hd) (lT y ty) (fun j hj => (hr j).mp hj) (Box.last (by rw [lS a ha, lS c hc])) by_, _, diff_right dk hn hi⟩
theorem Box.sub {a b u x : Row} (h : Box a b u) (g : Box a u x) : Box a b x := ⟨g.1, fun j e => g.2 j (h.2 j e).symm⟩
/-- from v on to b -/
theorem Box.sub2 {a b v x : Row} (hl : a.length = b.length) (h : Box a b v) (g : Box v b x) : Box a b x := ⟨g.1.trans h.1, fun j e => (g.2 j ((h.2 j e).trans e)).trans (h.2 j e)⟩
/-- joined on one key of two values -/
theorem joined_pair {k l : Nat} (lS : ∀ a, S a → a.length = n) (lT : ∀ b, T b → b.length = m) (hn : rest.Nodup) (hr : ∀ j, j ∈ rest ↔ j < m ∧ j ≠ l)
    (two : ∀ a, S a → a[k]? = some 0 ∨ a[k]? = some 1) (two' : ∀ b, T b → b[l]? = some 0 ∨ b[l]? = some 1) (jS : Joined S) (jT : Joined T) : Joined (Put S T (fun a b => a[k]? = b[l]?) rest) := by
  rintro _ ⟨a, b, ha, hb, fab, rfl⟩ _ ⟨c, d, hc, hd, fcd, rfl⟩
  have hrm : ∀ j ∈ rest, j < m := fun j hj => ((hr j).mp hj).1
  have hl : l ∉ rest := fun h => ((hr l).mp h).2 rfl
  -- the first walks from p to q, the second stands at y; p and q agree at k with y
  have left : ∀ p q y, S p → S q → T y → p[k]? = y[l]? → q[k]? = y[l]? → (∀ x, Box p q x → Box a c x) → Box b d y →
      Star (Step (Put S T (fun a b => a[k]? = b[l]?) rest) (glue rest a b) (glue rest c d)) (glue rest p y) (glue rest q y) := by
    intro p q y hp hq hy e1 e2 hbx hby
    refine Star.lift (f := fun x => glue rest x y) (jS p hp q hq) fun x x' hx r => ?_
    obtain ⟨sx, bx, i, di⟩ := r
    have ex : x'[k]? = p[k]? := bx.2 k (e1.trans e2.symm)
    exact ⟨⟨x', y, sx, hy, ex.trans e1, rfl⟩, box_glue (lS a ha) (lS c hc) (lT b hb) (lT d hd) (lT y hy) hrm (hbx x' bx) hby, i, diff_left di di.lt⟩
  have right : ∀ p q x, T p → T q → S x → x[k]? = p[l]? → x[k]? = q[l]? → (∀ y, Box p q y → Box b d y) → Box a c x →
      Star (Step (Put S T (fun a b => a[k]? = b[l]?) rest) (glue rest a b) (glue rest c d)) (glue rest x p) (glue rest x q) := by
    intro p q x hp hq hx e1 e2 hby hbx
    refine Star.lift (f := fun y => glue rest x y) (jT p hp q hq) fun y y' hy r => ?_
    obtain ⟨ty, by_, i, di⟩ := r
    have ey : y'[l]? = p[l]? := by_.2 l (e1.symm.trans e2)
    have ey0 : y[l]? = p[l]? := (hy.stays hp).2.2 l (e1.symm.trans e2)
    have hi : i ∈ rest := (hr i).mpr ⟨by have := di.lt; rw [lT y (hy.stays hp).1] at this; exact this, fun e => di.ne (by rw [e, ey, ey0])⟩
    obtain ⟨z, hz⟩ := List.getElem?_of_mem hi
    exact ⟨⟨x, y', hx, ty, e1.trans ey.symm, rfl⟩, box_glue (lS a ha) (lS c hc) (lT b hb) (lT d hd) (lT y' ty) hrm hbx (hby y' by_), _, diff_right di hn hz⟩
  have lac : a.length = c.length := by rw [lS a ha, lS c hc]
  have lbd : b.length = d.length := by rw [lT b hb, lT d hd]
  by_cases e : a[k]? = c[k]?
  · exact (left a c b ha hc hb fab (e.symm.trans fab) (fun _ h => h) (Box.self b d)).trans (right b d c hb hd hc (e.symm.trans fab) fcd (fun _ h => h) (Box.last lac))
  · have e' : b[l]? ≠ d[l]? := fun q => e (fab.trans (q.trans fcd.symm))
    obtain q | ⟨u, u', su, bu, eu, ru, nu⟩ := crossing (k := k) ha (jS a ha c hc)
    · exact absurd q.symm e
    obtain q | ⟨v, v', sv, bv, ev, rv, nv⟩ := crossing (k := l) hb (jT b hb d hd)
    · exact absurd q.symm e'
    obtain ⟨su', bu', i, di⟩ := ru
    obtain ⟨sv', bv', j, dj⟩ := rv
    have hik : i = k := by
      by_cases q : i = k
      · exact q
      · exact absurd ((di.eq k (fun z => q z.symm)).symm.trans eu) nu
    have hjl : j = l := by
      by_cases q : j = l
      · exact q
      · exact absurd ((dj.eq l (fun z => q z.symm)).symm.trans ev) nv
    subst hik
    subst hjl
    have eu' : u'[i]? = c[i]? := by
      rcases two a ha with h1 | h1 <;> rcases two c hc with h2 | h2 <;> rcases two u' su' with h3 | h3 <;> rw [h1] at nu e <;> rw [h2] at e <;> rw [h3] at nu <;> simp_all
    have ev' : v'[j]? = d[j]? := by
      rcases two' b hb with h1 | h1 <;> rcases two' d hd with h2 | h2 <;> rcases two' v' sv' with h3 | h3 <;> rw [h1] at nv e' <;> rw [h2] at e' <;> rw [h3] at nv <;> simp_all
    have p1 := left a u b ha su hb fab (eu.trans fab) (fun x h => bu.sub h) (Box.self b d)
    have p2 := right b v u hb sv su (eu.trans fab) (eu.trans (fab.trans ev.symm)) (fun y h => bv.sub h) bu
    have p4 := left u' c v' su' hc sv' (eu'.trans (fcd.trans ev'.symm)) (fcd.trans ev'.symm) (fun x h => bu'.sub2 lac h) bv'
    have p5 := right v' d c sv' hd hc (fcd.trans ev'.symm) fcd (fun y h => bv'.sub2 lbd h) (Box.last lac)
    have s3 : Step (Put S T (fun a b => a[i]? = b[j]?) rest) (glue rest a b) (glue rest c d) (glue rest u v) (glue rest u' v') :=
      ⟨⟨u', v', su', sv', eu'.trans (fcd.trans ev'.symm), rfl⟩, box_glue (lS a ha) (lS c hc) (lT b hb) (lT d hd) (lT v' sv') hrm bu' bv', i, diff_both di dj hl⟩
    exact (((p1.trans p2).tail s3).trans p4).trans p5
end
end Bp

set_option Elab.async false
set_option linter.all false
namespace Bp
/-! all rows of some sizes -/
def grow1 (r : Row) (n : Int) : List Row := (List.range n.toNat).map fun (v : Nat) => r ++ [(v : Int)]
def grow (acc : List Row) (n : Int) : List Row := acc.flatMap fun r => grow1 r n
def allRows (sz : List Int) : List Row := sz.foldl grow [[]]
def prodI (sz : List Int) : Nat := sz.foldl (fun p n => p * n.toNat) 1
structure SzOk (sz : List Int) : Prop where
  ne : sz ≠ []
  len : sz.length ≤ 4
  each : ∀ n ∈ sz, 1 ≤ n ∧ n ≤ 4
  prod : prodI sz ≤ 6
structure RowOk (sz : List Int) (r : Row) : Prop where
  len : r.length = sz.length
  each : ∀ (i : Nat) (x n : Int), r[i]? = some x → sz[i]? = some n → 0 ≤ x ∧ x < n
theorem allRows_nil : allRows [] = [[]] := rfl
theorem allRows_snoc (sz : List Int) (n : Int) : allRows (sz ++ [n]) = grow (allRows sz) n := by unfold allRows; rw [List.foldl_append]; rfl
theorem prodI_snoc (sz : List Int) (n : Int) : prodI (sz ++ [n]) = prodI sz * n.toNat := by unfold prodI; rw [List.foldl_append]; rfl
theorem grow_length (acc : List Row) (n : Int) : (grow acc n).length = acc.length * n.toNat := by
  unfold grow
  induction acc with
  | nil => simp
  | cons r acc ih =>
    rw [List.flatMap_cons, List.length_append, ih]
    unfold grow1
    rw [List.length_map, List.length_range, List.length_cons, Nat.succ_mul, Nat.add_comm]
theorem rev_ind {P : List Int → Prop} (h0 : P []) (h1 : ∀ l n, P l → P (l ++ [n])) : ∀ l, P l := by
  intro l
  have : ∀ k (l : List Int), l.length = k → P l := by
    intro k
    induction k with
    | zero => intro l hl; rw [List.length_eq_zero_iff.mp hl]; exact h0
    | succ k ih =>
      intro l hl
      have hne : l ≠ [] := by intro z; subst z; simp at hl
      rw [← List.dropLast_concat_getLast hne]
      exact h1 _ _ (ih _ (by rw [List.length_dropLast, hl]; rfl))
  exact this _ l rfl
theorem allRows_length (sz : List Int) : (allRows sz).length = prodI sz := by
  induction sz using rev_ind with
  | h0 => rfl
  | h1 l n ih => rw [allRows_snoc, grow_length, ih, prodI_snoc]
theorem mem_grow {acc : List Row} {n : Int} {r : Row} : r ∈ grow acc n ↔ ∃ q ∈ acc, ∃ v : Nat, v < n.toNat ∧ r = q ++ [(v : Int)] := by
  unfold grow grow1
  simp only [List.mem_flatMap, List.mem_map, List.mem_range]
  constructor
  · rintro ⟨q, hq, v, hv, e⟩; exact ⟨q, hq, v, hv, e.symm⟩
  · rintro ⟨q, hq, v, hv, e⟩; exact ⟨q, hq, v, hv, e.symm⟩
theorem RowOk.snoc {sz : List Int} {n : Int} {r : Row} {x : Int} : RowOk (sz ++ [n]) (r ++ [x]) ↔ RowOk sz r ∧ 0 ≤ x ∧ x < n := by
  constructor
  · intro h
    have hl : r.length = sz.length := by have := h.len; simp at this; exact this
    refine ⟨⟨hl, fun i y m h1 h2 => h.each i y m ?_ ?_⟩, h.each r.length x n ?_ ?_⟩
    · rw [List.getElem?_append_left (List.getElem?_eq_some_iff.mp h1).1]; exact h1
    · rw [List.getElem?_append_left (List.getElem?_eq_some_iff.mp h2).1]; exact h2
    · rw [List.getElem?_append_right (Nat.le_refl _)]; simp
    · rw [hl, List.getElem?_append_right (Nat.le_refl _)]; simp
  · rintro ⟨h, h0, h1⟩
    refine ⟨by simp [h.len], fun i y m g1 g2 => ?_⟩
    by_cases c : i < r.length
    · rw [List.getElem?_append_left c] at g1
      rw [List.getElem?_append_left (by rw [← h.len]; exact c)] at g2
      exact h.each i y m g1 g2
    · have hi : i = r.length := by
        have := (List.getElem?_eq_some_iff.mp g1).1
        simp at this; omega
      subst hi
      rw [List.getElem?_append_right (Nat.le_refl _)] at g1
      rw [h.len, List.getElem?_append_right (Nat.le_refl _)] at g2
      simp at g1 g2
      subst g1; subst g2
      exact ⟨h0, h1⟩
theorem mem_allRows (sz : List Int) : ∀ r, r ∈ allRows sz ↔ RowOk sz r := by
  induction sz using rev_ind with
  | h0 =>
    intro r
    rw [allRows_nil, List.mem_singleton]
    constructor
    · rintro rfl; exact ⟨rfl, fun i x n h => by simp at h⟩
    · intro h; exact List.length_eq_zero_iff.mp (by rw [h.len]; rfl)
  | h1 l n ih =>
    intro r
    rw [allRows_snoc, mem_grow]
    constructor
    · rintro ⟨q, hq, v, hv, rfl⟩
      exact RowOk.snoc.mpr ⟨(ih q).mp hq, by omega, by omega⟩
    · intro h
      have hne : r ≠ [] := by intro z; subst z; have := h.len; simp at this
      rw [← List.dropLast_concat_getLast hne] at h ⊢
      obtain ⟨h1, h2, h3⟩ := RowOk.snoc.mp h
      exact ⟨_, (ih _).mpr h1, (r.getLast hne).toNat, by omega, by congr 2; omega⟩
theorem grow1_nodup (r : Row) (n : Int) : (grow1 r n).Nodup := by
  unfold grow1
  refine List.Pairwise.map _ ?_ List.nodup_range
  intro a b h e
  simp at e
  exact h (by omega)
theorem nodup_append_of {l₁ l₂ : List Row} (h1 : l₁.Nodup) (h2 : l₂.Nodup) (h : ∀ a ∈ l₁, a ∉ l₂) : (l₁ ++ l₂).Nodup := List.nodup_append.mpr ⟨h1, h2, fun a ha b hb e => h a ha (e ▸ hb)⟩
theorem grow_nodup {acc : List Row} {n : Int} (h : acc.Nodup) : (grow acc n).Nodup := by
  induction acc with
  | nil => simp [grow]
  | cons r acc ih =>
    rw [List.nodup_cons] at h
    show (grow1 r n ++ grow acc n).Nodup
    refine nodup_append_of (grow1_nodup r n) (ih h.2) fun a ha hb => ?_
    obtain ⟨q, hq, v, hv, rfl⟩ := mem_grow.mp hb
    unfold grow1 at ha
    obtain ⟨u, _, e⟩ := List.mem_map.mp ha
    have := List.append_inj_left' e rfl
    subst this
    exact h.1 hq
theorem allRows_nodup (sz : List Int) : (allRows sz).Nodup := by
  induction sz using rev_ind with
  | h0 => simp [allRows_nil]
  | h1 l n ih => rw [allRows_snoc]; exact grow_nodup ih
theorem prodI_pos {sz : List Int} (h : ∀ n ∈ sz, 1 ≤ n) : 1 ≤ prodI sz := by
  induction sz using rev_ind with
  | h0 => exact Nat.le_refl _
  | h1 l n ih =>
    rw [prodI_snoc]
    have h1 := ih fun m hm => h m (List.mem_append_left _ hm)
    have h2 := h n (List.mem_append_right _ List.mem_cons_self)
    exact Nat.mul_pos h1 (by omega)
theorem prodI_app (l : List Int) : ∀ k : List Int, (∀ n ∈ k, 1 ≤ n) → prodI l ≤ prodI (l ++ k) := by
  intro k
  induction k using rev_ind with
  | h0 => intro _; simp
  | h1 k n ih =>
    intro h
    rw [← List.append_assoc, prodI_snoc]
    have h1 := ih fun m hm => h m (List.mem_append_left _ hm)
    have h2 := h n (List.mem_append_right _ List.mem_cons_self)
    exact Nat.le_trans h1 (Nat.le_mul_of_pos_right _ (by omega))
theorem prodI_take {sz : List Int} (h : ∀ n ∈ sz, 1 ≤ n) (i : Nat) : prodI (sz.take i) ≤ prodI sz := by
  have := prodI_app (sz.take i) (sz.drop i) (fun n hn => h n (List.drop_subset _ _ hn))
  rw [List.take_append_drop] at this
  exact this
theorem SzOk.pos {sz : List Int} (h : SzOk sz) : ∀ n ∈ sz, 1 ≤ n := fun n hn => (h.each n hn).1
theorem SzOk.rows {sz : List Int} (h : SzOk sz) : (allRows sz).length ≤ 6 := by rw [allRows_length]; exact h.prod
theorem SzOk.rows_take {sz : List Int} (h : SzOk sz) (i : Nat) : (allRows (sz.take i)).length ≤ 6 := by rw [allRows_length]; exact Nat.le_trans (prodI_take h.pos i) h.prod
theorem SzOk.rows_ne {sz : List Int} (h : SzOk sz) : allRows sz ≠ [] := by
  intro e
  have := prodI_pos h.pos
  rw [← allRows_length, e] at this
  simp at this
theorem take_snoc {α : Type} {l : List α} {i : Nat} {x : α} (h : l[i]? = some x) : l.take (i + 1) = l.take i ++ [x] := by rw [List.take_add_one, h]; rfl
/-- sizes and states, as the law draws them -/
structure StOk (sz : List Int) (rs : List Row) : Prop where
  ok : SzOk sz
  ne : rs ≠ []
  sub : ∀ r ∈ rs, RowOk sz r
  nd : rs.Nodup
  len : rs.length ≤ 6
theorem StOk.of {sz : List Int} {rs : List Row} (h : SzOk sz) (hs : rs.Sublist (allRows sz)) (ne : rs ≠ []) : StOk sz rs :=
  ⟨h, ne, fun r hr => (mem_allRows sz r).mp (hs.subset hr), hs.nodup (allRows_nodup sz), Nat.le_trans hs.length_le h.rows⟩
end Bp

set_option Elab.async false
set_option linter.all false
namespace Bp
/-! the law's own search -/
def agreeK (a b : Row) : List Nat := (List.range a.length).filter fun k => a[k]? == b[k]?
def asInts (l : List Nat) : List Int := l.map fun (k : Nat) => (k : Int)
theorem mem_agree {a b : Row} {k : Nat} : k ∈ agreeK a b ↔ k < a.length ∧ a[k]? = b[k]? := by
  unfold agreeK; rw [List.mem_filter, List.mem_range]; simp
theorem mem_ints {l : List Nat} {k : Nat} : ((k : Nat) : Int) ∈ asInts l ↔ k ∈ l := by
  unfold asInts
  rw [List.mem_map]
  constructor
  · rintro ⟨j, hj, e⟩
    have : j = k := by omega
    exact this ▸ hj
  · intro h; exact ⟨k, h, rfl⟩
theorem agree_count (a b : Row) : (agreeK a b).length + ((List.range a.length).filter fun k => !(a[k]? == b[k]?)).length = a.length := by
  unfold agreeK
  have h := List.length_eq_countP_add_countP (fun k => a[k]? == b[k]?) (l := List.range a.length)
  rw [List.length_range, List.countP_eq_length_filter, List.countP_eq_length_filter] at h
  have e : (List.filter (fun k => decide ¬((a[k]? == b[k]?) = true)) (List.range a.length)) = (List.range a.length).filter fun k => !(a[k]? == b[k]?) := by
    congr 1
    funext k
    cases (a[k]? == b[k]?) <;> rfl
  rw [e] at h
  omega
theorem one_of {l : List Nat} (nd : l.Nodup) {k : Nat} (hk : k ∈ l) (h : ∀ j ∈ l, j = k) : l.length = 1 := by
  match l, nd, hk, h with
  | [x], _, _, _ => rfl
  | x :: y :: r, nd, _, h =>
    exfalso
    have h1 := h x List.mem_cons_self
    have h2 := h y (List.mem_cons_of_mem _ List.mem_cons_self)
    rw [List.nodup_cons] at nd
    exact nd.1 (h1.trans h2.symm ▸ List.mem_cons_self)
theorem adj_iff {a b : Row} (hl : a.length = b.length) : (agreeK a b).length + 1 = a.length ↔ ∃ k, Diff1 k a b := by
  have hc := agree_count a b
  constructor
  · intro h
    have h1 : ((List.range a.length).filter fun k => !(a[k]? == b[k]?)).length = 1 := by omega
    obtain ⟨k, hk⟩ := List.length_eq_one_iff.mp h1
    have mk : k ∈ ((List.range a.length).filter fun k => !(a[k]? == b[k]?)) := by rw [hk]; exact List.mem_singleton.mpr rfl
    rw [List.mem_filter, List.mem_range] at mk
    refine ⟨k, hl, fun e => ?_, fun j hj => ?_⟩
    · have := mk.2; rw [e] at this; simp at this
    · by_cases c : j < a.length
      · by_cases d : a[j]? = b[j]?
        · exact d
        · exfalso
          have : j ∈ ((List.range a.length).filter fun k => !(a[k]? == b[k]?)) := by
            rw [List.mem_filter, List.mem_range]; exact ⟨c, by simpa using d⟩
          rw [hk] at this
          exact hj (List.mem_singleton.mp this)
      · rw [List.getElem?_eq_none (by omega), List.getElem?_eq_none (by omega)]
  · rintro ⟨k, d⟩
    have : ((List.range a.length).filter fun k => !(a[k]? == b[k]?)).length = 1 := by
      refine one_of (List.Pairwise.filter _ List.nodup_range) (k := k) ?_ ?_
      · rw [List.mem_filter, List.mem_range]; exact ⟨d.lt, by simpa using d.ne⟩
      · intro j hj
        rw [List.mem_filter] at hj
        by_cases e : j = k
        · exact e
        · exact absurd (d.eq j e) (by simpa using hj.2)
    omega
/-- one change, of a key in ks -/
def AdjK (ks : List Int) (a b : Row) : Prop := (agreeK a b).length + 1 = a.length ∧ ∃ k ∈ ks, k ∉ asInts (agreeK a b)
def RStep (S : List Row) (ks : List Int) (a b : Row) : Prop := b ∈ S ∧ AdjK ks a b
/-! how many of S are not in rs -/
def notIn (S rs : List Row) : Nat := S.countP fun x => decide (x ∉ rs)
theorem countP_lt {p q : Row → Bool} : ∀ {l : List Row}, (∀ x ∈ l, p x = true → q x = true) → (∃ x ∈ l, p x = false ∧ q x = true) → l.countP p < l.countP q
  | [], _, ⟨x, hx, _⟩ => by simp at hx
  | y :: l, h, ⟨x, hx, h1, h2⟩ => by
    have le : l.countP p ≤ l.countP q := List.countP_mono_left fun z hz => h z (List.mem_cons_of_mem _ hz)
    rw [List.countP_cons, List.countP_cons]
    rcases List.mem_cons.mp hx with e | hx'
    · subst e; rw [h1, h2]; simp; omega
    · have ih := countP_lt (l := l) (fun z hz => h z (List.mem_cons_of_mem _ hz)) ⟨x, hx', h1, h2⟩
      by_cases c : p y = true
      · rw [c, h y List.mem_cons_self c]; simp; omega
      · have c' : p y = false := by simpa using c
        rw [c']; simp; omega
theorem notIn_lt {S rs : List Row} {x : Row} (h1 : x ∈ S) (h2 : x ∉ rs) : notIn S (rs ++ [x]) < notIn S rs := by
  unfold notIn
  refine countP_lt (fun y _ hy => ?_) ⟨x, h1, by simp, by simpa using h2⟩
  simp at hy ⊢
  exact hy.1
theorem notIn_lt_app {S rs ls : List Row} (hne : ls ≠ []) (h : ∀ x ∈ ls, x ∈ S ∧ x ∉ rs) : notIn S (rs ++ ls) < notIn S rs := by
  cases ls with
  | nil => exact absurd rfl hne
  | cons x ls =>
    unfold notIn
    obtain ⟨h1, h2⟩ := h x List.mem_cons_self
    refine countP_lt (fun y _ hy => ?_) ⟨x, h1, by simp, by simpa using h2⟩
    simp at hy ⊢
    exact hy.1
/-! ### joined, as the law asks it -/
theorem Box.symm {a b x : Row} (hl : a.length = b.length) (h : Box a b x) : Box b a x := Step.sym_box hl h
theorem Star.rev {S : Row → Prop} {a b : Row} (hl : a.length = b.length) (ha : S a) : ∀ {x}, Star (Step S a b) a x → Star (Step S b a) x a := by
  intro x h
  induction h with
  | refl => exact .refl
  | @tail y z s r ih =>
    obtain ⟨sz, bz, k, d⟩ := r
    have sy := s.stays ha
    exact Star.trans (.tail .refl ⟨sy.1, sy.2.symm hl, k, d.sym⟩) ih
def boxOf (S : List Row) (a b : Row) : List Row := S.filter fun r => decide ((agreeK a b).all fun k => r[k]? == a[k]?)
def diffKeys (a b : Row) : List Int := asInts ((List.range a.length).filter fun k => decide (k ∉ agreeK a b))
theorem mem_box {S : List Row} {n : Nat} (hn : ∀ r ∈ S, r.length = n) {a b r : Row} (ha : a.length = n) (hb : b.length = n) : r ∈ boxOf S a b ↔ r ∈ S ∧ Box a b r := by
  unfold boxOf
  rw [List.mem_filter]
  constructor
  · rintro ⟨h1, h2⟩
    refine ⟨h1, by rw [hn r h1, ha], fun j e => ?_⟩
    simp at h2
    by_cases c : j < a.length
    · exact h2 j (mem_agree.mpr ⟨c, e⟩)
    · have lr := hn r h1
      rw [List.getElem?_eq_none (l := r) (by omega), List.getElem?_eq_none (l := a) (by omega)]
  · rintro ⟨h1, h2⟩
    refine ⟨h1, ?_⟩
    simp
    intro k hk
    exact h2.2 k (mem_agree.mp hk).2
theorem rstep_iff {S : List Row} {n : Nat} (hn : ∀ r ∈ S, r.length = n) {a b : Row} (ha : a.length = n) (hb : b.length = n) {x y : Row} (hx : Box a b x) : RStep (boxOf S a b) (diffKeys a b) x y ↔ Step (fun r => r ∈ S) a b x y := by
  constructor
  · rintro ⟨h1, h2, _⟩
    obtain ⟨h3, h4⟩ := (mem_box hn ha hb).mp h1
    exact ⟨h3, h4, (adj_iff (by rw [hx.1, hn y h3, ha])).mp h2⟩
  · rintro ⟨h1, h2, k, d⟩
    refine ⟨(mem_box hn ha hb).mpr ⟨h1, h2⟩, (adj_iff d.len).mpr ⟨k, d⟩, k, ?_, ?_⟩
    · unfold diffKeys
      rw [mem_ints, List.mem_filter, List.mem_range]
      refine ⟨by have := d.lt; rw [hx.1] at this; exact this, decide_eq_true fun h => d.ne ?_⟩
      have e := (mem_agree.mp h).2
      rw [hx.2 k e, h2.2 k e]
    · rw [mem_ints, mem_agree]
      exact fun h => d.ne h.2
theorem star_iff {S : List Row} {n : Nat} (hn : ∀ r ∈ S, r.length = n) {a b : Row} (haS : a ∈ S) (ha : a.length = n) (hb : b.length = n) {x : Row} : Star (RStep (boxOf S a b) (diffKeys a b)) a x ↔ Star (Step (fun r => r ∈ S) a b) a x := by
  constructor
  · intro h
    have : Star (Step (fun r => r ∈ S) a b) a x ∧ Box a b x := by
      induction h with
      | refl => exact ⟨.refl, Box.self a b⟩
      | tail s r ih =>
        have r' := (rstep_iff hn ha hb ih.2).mp r
        exact ⟨.tail ih.1 r', r'.2.1⟩
    exact this.1
  · intro h
    induction h with
    | refl => exact .refl
    | tail s r ih => exact .tail ih ((rstep_iff hn ha hb (s.stays haS).2).mpr r)
/-- what the law's double loop asks -/
def AskJ (S : List Row) : Prop := ∀ (i : Nat) (a : Row), S[i]? = some a → ∀ b ∈ S.take i, Star (RStep (boxOf S a b) (diffKeys a b)) a b
theorem ask_joined {S : List Row} {n : Nat} (hn : ∀ r ∈ S, r.length = n) : AskJ S ↔ Joined (fun r => r ∈ S) := by
  constructor
  · intro h a ha b hb
    obtain ⟨i, hi⟩ := List.getElem?_of_mem ha
    obtain ⟨j, hj⟩ := List.getElem?_of_mem hb
    have la := hn a ha
    have lb := hn b hb
    rcases Nat.lt_trichotomy j i with c | c | c
    · exact (star_iff hn ha la lb).mp (h i a hi b (List.mem_of_getElem? (i := j) (by rw [List.getElem?_take, if_pos c]; exact hj)))
    · subst c
      rw [hi] at hj
      cases hj
      exact .refl
    · have h2 := (star_iff hn hb lb la).mp (h j b hj a (List.mem_of_getElem? (i := i) (by rw [List.getElem?_take, if_pos c]; exact hi)))
      exact Star.rev (by rw [la, lb]) hb h2
  · intro h i a hi b hb
    have ha := List.mem_of_getElem? hi
    have hb' := List.mem_of_mem_take hb
    exact (star_iff hn ha (hn a ha) (hn b hb')).mpr (h a ha b hb')
/-! a round of the search: rs0 what was found ahead of it, ls what is new -/
structure RInv (S : List Row) (ks : List Int) (st : Row) (n : Nat) (rs0 ls : List Row) : Prop where
  here : st ∈ rs0
  reach : ∀ x ∈ rs0 ++ ls, Star (RStep S ks) st x
  new : ∀ x ∈ ls, x ∈ S ∧ x ∉ rs0
  bound : (rs0 ++ ls).length + notIn S (rs0 ++ ls) ≤ S.length + 1
  len : ∀ x ∈ rs0 ++ ls, x.length = n
theorem RInv.add {S : List Row} {ks : List Int} {st : Row} {n : Nat} {rs0 ls : List Row} (h : RInv S ks st n rs0 ls) {f b : Row} (hf : f ∈ rs0) (hb : b ∈ S) (hl : b.length = n) (ha : AdjK ks f b) (hn : b ∉ rs0 ++ ls) : RInv S ks st n rs0 (ls ++ [b]) where
  here := h.here
  reach := fun x hx => by
    rw [← List.append_assoc] at hx
    rcases List.mem_append.mp hx with hx | hx
    · exact h.reach x hx
    · rw [List.mem_singleton.mp hx]
      exact .tail (h.reach f (List.mem_append_left _ hf)) ⟨hb, ha⟩
  new := fun x hx => by
    rcases List.mem_append.mp hx with hx | hx
    · exact h.new x hx
    · rw [List.mem_singleton.mp hx]
      exact ⟨hb, fun z => hn (List.mem_append_left _ z)⟩
  bound := by
    have h1 := h.bound
    have h2 := notIn_lt hb hn
    rw [← List.append_assoc, List.length_append]
    show (rs0 ++ ls).length + 1 + _ ≤ _
    omega
  len := fun x hx => by
    rw [← List.append_assoc] at hx
    rcases List.mem_append.mp hx with hx | hx
    · exact h.len x hx
    · rw [List.mem_singleton.mp hx]; exact hl
/-- ahead of a round: fs are to be looked at -/
structure WInv (S : List Row) (ks : List Int) (st : Row) (n : Nat) (rs fs : List Row) : Prop where
  r : RInv S ks st n rs []
  sub : ∀ x ∈ fs, x ∈ rs
  done : ∀ x ∈ rs, x ∉ fs → ∀ b ∈ S, AdjK ks x b → b ∈ rs
theorem WInv.next {S : List Row} {ks : List Int} {st : Row} {n : Nat} {rs fs ls : List Row} (h : WInv S ks st n rs fs) (r : RInv S ks st n rs ls) (hd : ∀ x ∈ fs, ∀ b ∈ S, AdjK ks x b → b ∈ rs ++ ls) : WInv S ks st n (rs ++ ls) ls where
  r := ⟨List.mem_append_left _ r.here, fun x hx => r.reach x (by simpa using hx), fun x hx => (by simp at hx), by simpa using r.bound, fun x hx => r.len x (by simpa using hx)⟩
  sub := fun x hx => List.mem_append_right _ hx
  done := fun x hx hn b hb ha => by
    rcases List.mem_append.mp hx with hx | hx
    · by_cases c : x ∈ fs
      · exact hd x c b hb ha
      · exact List.mem_append_left _ (h.done x hx c b hb ha)
    · exact absurd hx hn
def wSize (S rs fs : List Row) : Nat := 2 * notIn S rs + (if fs = [] then 0 else 1)
theorem wSize_lt {S rs fs ls : List Row} (hf : fs ≠ []) (h : ∀ x ∈ ls, x ∈ S ∧ x ∉ rs) : wSize S (rs ++ ls) ls < wSize S rs fs := by
  unfold wSize
  rw [if_neg hf]
  by_cases c : ls = []
  · subst c; simp
  · rw [if_neg c]
    have := notIn_lt_app c h
    omega
theorem WInv.all {S : List Row} {ks : List Int} {st : Row} {n : Nat} {rs : List Row} (h : WInv S ks st n rs []) : ∀ x, x ∈ rs ↔ Star (RStep S ks) st x := fun x => by
  constructor
  · intro hx; exact h.r.reach x (by simpa using hx)
  · intro hx
    induction hx with
    | refl => exact h.r.here
    | tail s r ih => exact h.done _ ih (by simp) _ r.1 r.2
theorem notIn_le (S rs : List Row) : notIn S rs ≤ S.length := List.countP_le_length
theorem WInv.start {S : List Row} {ks : List Int} {st : Row} {n : Nat} (hl : st.length = n) : WInv S ks st n [st] [st] where
  r := ⟨List.mem_singleton.mpr rfl, fun x hx => by simp at hx; subst hx; exact .refl, fun x hx => by simp at hx, by have := notIn_le S ([st] ++ []); simp at this ⊢; omega, fun x hx => by simp at hx; subst hx; exact hl⟩
  sub := fun x hx => hx
  done := fun x hx hn => absurd hx hn
end Bp

set_option Elab.async false
set_option linter.all false
set_option maxRecDepth 100000
set_option maxHeartbeats 4000000
namespace Bp
open PySem PySem.Spec PyProof.Rows L2 Evl
/-! ### the text by places; the built-ins' names; a def as it stands behind the top -/
def topS (i : Nat) : Stmt := PySem.Challenge.pw_bothplans_k21_whole_stores_put_together.main.body.getD i (.Pass ⟨0, 0, 0, 0⟩)
structure Blt (mg : Str → Option Value) : Prop where
  len : mg "len" = none
  abs : mg "abs" = none
  int : mg "int" = none
  bool : mg "bool" = none
  sum : mg "sum" = none
  min : mg "min" = none
  any : mg "any" = none
  all : mg "all" = none
  list : mg "list" = none
  tuple : mg "tuple" = none
  set : mg "set" = none
  sorted : mg "sorted" = none
  range : mg "range" = none
  enumerate : mg "enumerate" = none
  zip : mg "zip" = none
  isinstance : mg "isinstance" = none
  repr : mg "repr" = none
  super : mg "super" = none
theorem bt_len : bootBuiltins "len" = some (.builtin "len") := by decide +kernel
theorem bt_abs : bootBuiltins "abs" = some (.builtin "abs") := by decide +kernel
theorem bt_sum : bootBuiltins "sum" = some (.builtin "sum") := by decide +kernel
theorem bt_min : bootBuiltins "min" = some (.builtin "min") := by decide +kernel
theorem bt_any : bootBuiltins "any" = some (.builtin "any") := by decide +kernel
theorem bt_all : bootBuiltins "all" = some (.builtin "all") := by decide +kernel
theorem bt_sorted : bootBuiltins "sorted" = some (.builtin "sorted") := by decide +kernel
theorem bt_isinstance : bootBuiltins "isinstance" = some (.builtin "isinstance") := by decide +kernel
theorem bt_repr : bootBuiltins "repr" = some (.builtin "repr") := by decide +kernel
theorem bt_int : bootBuiltins "int" = some (.type "int") := by decide +kernel
theorem bt_bool : bootBuiltins "bool" = some (.type "bool") := by decide +kernel
theorem bt_list : bootBuiltins "list" = some (.type "list") := by decide +kernel
theorem bt_tuple : bootBuiltins "tuple" = some (.type "tuple") := by decide +kernel
theorem bt_set : bootBuiltins "set" = some (.type "set") := by decide +kernel
structure Dn (K : PySem.W.Frag) (mg : Str → Option Value) (x : Str) (st : Stmt) (ps : List Str) (f : Addr) (fd : FuncData) : Prop where
  F : Fun K x x st f fd
  b : Binds K fd ps []
  g : mg x = some (.ref f)
/-! ### data: tuples of ints, lists of such -/
def IntT (H : Hp) (v : V) (ns : Row) : Prop := ∃ a, v = .ref a ∧ H a = some (.tup (ns.map V.int))
theorem IntT.up {H H' : Hp} {v : V} {ns : Row} (h : IntT H v ns) (e : Ex H H') : IntT H' v ns := let ⟨a, h1, h2⟩ := h; ⟨a, h1, e a _ h2⟩
theorem IntT.inj {H : Hp} {v : V} {ns ms : Row} (h : IntT H v ns) (g : IntT H v ms) : ns = ms := by
  obtain ⟨a, rfl, h2⟩ := h
  obtain ⟨b, e, h3⟩ := g
  cases e
  rw [h2] at h3
  have e1 : ns.map V.int = ms.map V.int := HO.tup.inj (Option.some.inj h3)
  have : ∀ (x y : List Int), x.map V.int = y.map V.int → x = y := by
    intro x
    induction x with
    | nil => intro y e; cases y with
      | nil => rfl
      | cons _ _ => simp at e
    | cons a x ih => intro y e; cases y with
      | nil => simp at e
      | cons b y =>
        simp only [List.map_cons, List.cons.injEq] at e
        obtain ⟨e1, e2⟩ := e
        cases e1
        rw [ih y e2]
  exact this _ _ e1
abbrev RowsOf (H : Hp) : List V → List Row → Prop := Paired (IntT H)
theorem RowsOf.up {H H' : Hp} {vs : List V} {rs : List Row} (h : RowsOf H vs rs) (e : Ex H H') : RowsOf H' vs rs := Paired.mapP h fun _ _ x => x.up e
/-- what is written at a list touches no tuple -/
theorem IntT.wr {H : Hp} {D : Addr} {l : List V} {o : HO} {v : V} {ns : Row} (hD : H D = some (.lst l)) (h : IntT H v ns) : IntT (upd H D o) v ns := by
  obtain ⟨a, h1, h2⟩ := h
  exact ⟨a, h1, by rw [upd_ne (ne_of h2 hD (by intro z; cases z))]; exact h2⟩
theorem RowsOf.wr {H : Hp} {D : Addr} {l : List V} {o : HO} {vs : List V} {rs : List Row} (hD : H D = some (.lst l)) (h : RowsOf H vs rs) : RowsOf (upd H D o) vs rs := Paired.mapP h fun _ _ x => x.wr hD
theorem pairedGet {α β : Type} {F : α → β → Prop} : ∀ {xs : List α} {ys : List β} {i : Nat} {x : α}, Paired F xs ys → xs[i]? = some x → ∃ y, ys[i]? = some y ∧ F x y
  | _, _, _, _, .nil, e => by simp at e
  | _, _, 0, _, .cons r _, e => by simp at e; subst e; exact ⟨_, rfl, r⟩
  | _, _, i + 1, x, .cons _ t, e => by
    obtain ⟨y, h1, h2⟩ := pairedGet (i := i) (x := x) t (by simpa using e)
    exact ⟨y, by simpa using h1, h2⟩
theorem pairedApp {α β : Type} {F : α → β → Prop} : ∀ {xs xs' : List α} {ys ys' : List β}, Paired F xs ys → Paired F xs' ys' → Paired F (xs ++ xs') (ys ++ ys')
  | _, _, _, _, .nil, s => s
  | _, _, _, _, .cons r t, s => .cons r (pairedApp t s)
theorem pairedPerm {α β : Type} {F : α → β → Prop} {xs xs' : List α} (p : xs.Perm xs') : ∀ {ys : List β}, Paired F xs ys → ∃ ys', ys.Perm ys' ∧ Paired F xs' ys' := by
  induction p with
  | nil => intro ys h; cases h; exact ⟨[], .nil, .nil⟩
  | cons x _ ih =>
    intro ys h
    cases h with
    | cons r t =>
      obtain ⟨ys', q, t'⟩ := ih t
      exact ⟨_, q.cons _, .cons r t'⟩
  | swap x y l =>
    intro ys h
    cases h with
    | cons r t =>
      cases t with
      | cons r2 t2 => exact ⟨_, .swap _ _ _, .cons r2 (.cons r t2)⟩
  | trans _ _ ih1 ih2 =>
    intro ys h
    obtain ⟨y1, q1, t1⟩ := ih1 h
    obtain ⟨y2, q2, t2⟩ := ih2 t1
    exact ⟨y2, q1.trans q2, t2⟩
theorem pairedMem {α β : Type} {F : α → β → Prop} : ∀ {xs : List α} {ys : List β} {x : α}, Paired F xs ys → x ∈ xs → ∃ y, y ∈ ys ∧ F x y
  | _, _, _, .cons r t, h => by
    cases h with
    | head => exact ⟨_, List.mem_cons_self, r⟩
    | tail _ h =>
      obtain ⟨y, h1, h2⟩ := pairedMem t h
      exact ⟨y, List.mem_cons_of_mem _ h1, h2⟩
/-! ### as data for ==, in -/
def rowD (r : Row) : PyData := .tuple (r.map .int)
theorem dpInts (K : PySem.W.Frag) (H : Hp) : ∀ ns : List Int, DpAll K H (ns.map V.int) (ns.map PyData.int)
  | [] => .nil
  | n :: r => .cons (.int n) (dpInts K H r)
theorem IntT.dp {K : PySem.W.Frag} {H : Hp} {v : V} {ns : Row} (h : IntT H v ns) : Dp K H v (rowD ns) := by
  obtain ⟨a, rfl, h2⟩ := h
  exact .tup (SqT.of h2) (dpInts K H ns)
theorem RowsOf.dp {K : PySem.W.Frag} {H : Hp} : ∀ {vs : List V} {rs : List Row}, RowsOf H vs rs → DpAll K H vs (rs.map rowD)
  | _, _, .nil => .nil
  | _, _, .cons r t => .cons r.dp (RowsOf.dp t)
/-! ### list comprehensions, with what the list holds so far -/
section
variable {K : PySem.W.Frag} {a : Addr} {xs : List V} {g : TG} {tt : TT} {te : TE} {vs : List Nat} {σ : L2.St} {H1 : Hp} {D : Addr} {Qd : Hp → Prop}
/-- one turn, for any ends Cy (an item y is taken) and Cn (none is) -/
def LcTurn (Rel : Nat → List V → Hp → Prop) (H1 : Hp) (i : Nat) (x : V) (g : TG) (tt : TT) (te : TE) (vs : List Nat) (σ : L2.St) : Prop :=
  ∀ (acc : List V) (H : Hp) (Cy : V → Hp → Prop) (Cn : Hp → Prop), Ex H1 H → Rel i acc H → (∀ y H', Ex H H' → Rel (i + 1) (acc ++ [y]) H' → Cy y H') → (∀ H', Ex H H' → Rel (i + 1) acc H' → Cn H') →
    g x (wipe σ vs) H fun σ2 H2 => wipe σ2 vs = wipe σ vs ∧ tt σ2 H2 fun b H3 => if b = true then te σ2 H3 Cy else Cn H3
/-- what is said of the list holds on when the list's own object is written -/
def LcMono (Rel : Nat → List V → Hp → Prop) (H1 : Hp) : Prop := ∀ i acc (H : Hp) D l o, H1 D = none → Ex H1 H → H D = some (.lst l) → Rel i acc H → Rel i acc (upd H D o)
theorem lcL (Rel : Nat → List V → Hp → Prop) (hD : H1 D = none) (mono : LcMono Rel H1) (h0 : Rel 0 [] H1) (hup : ∀ H, Ex H1 H → Rel 0 [] H1 → Rel 0 [] H) (src : SqL K H1 a xs) (hsz : xs.length ≤ 100000)
    (hs : ∀ i x, xs[i]? = some x → LcTurn Rel H1 i x g tt te vs σ) (hd : ∀ acc H, Ex H1 H → H D = some (.lst acc) → Rel xs.length acc H → acc.length ≤ xs.length → Qd H) :
    ∃ W : Nat → Nat → Hp → Prop, (∃ m, W 0 m (upd H1 D (.lst []))) ∧ ∀ i m H, W i m H →
      ((Itl K a).stop i H ∧ Qd H) ∨ ((Itl K a).go i H ∧ ∃ Nx : Hp → Prop, (∀ H', Nx H' → ∃ m', m' < m ∧ W (i + 1) m' H') ∧ ∀ x H', (Itl K a).yld i H x H' → g x (wipe σ vs) H' fun σ2 H2 => wipe σ2 vs = wipe σ vs ∧ tt σ2 H2 fun b H3 =>
        if b = true then te σ2 H3 fun y H4 => ∃ acc, H4 D = some (.lst acc) ∧ acc.length < sizeLine ∧ Nx (upd H4 D (.lst (acc ++ [y]))) else Nx H3) := by
  refine lc_list (K := K) (a := a) (xs := xs) (fun i H => ∃ acc, Ex H1 H ∧ H D = some (.lst acc) ∧ acc.length ≤ i ∧ Rel i acc H) ⟨[], Ex.new hD, upd_same, Nat.le_refl _, hup _ (Ex.new hD) h0⟩ (fun i H _ h => ex_l h.choose_spec.1 src) (fun i x H hx h => ?_) (fun H h => ?_)
  · obtain ⟨acc, e, hl, hn, r⟩ := h
    refine hs i x hx acc H _ _ e r (fun y H' e' r' => ?_) (fun H' e' r' => ?_)
    · have hl' := e' _ _ hl
      have hi : i < xs.length := (List.getElem?_eq_some_iff.mp hx).1
      refine ⟨acc, hl', Nat.lt_of_lt_of_le (by omega : acc.length < 100000) (by decide), acc ++ [y], (e.trans e').mut hD, upd_same, by rw [List.length_append]; exact Nat.succ_le_succ hn, mono _ _ _ _ _ _ hD (e.trans e') hl' r'⟩
    · exact ⟨acc, e.trans e', e' _ _ hl, Nat.le_succ_of_le hn, r'⟩
  · obtain ⟨acc, e, hl, hn, r⟩ := h
    exact hd acc H e hl r hn
theorem lcT (Rel : Nat → List V → Hp → Prop) (hD : H1 D = none) (mono : LcMono Rel H1) (h0 : Rel 0 [] H1) (hup : ∀ H, Ex H1 H → Rel 0 [] H1 → Rel 0 [] H) (src : SqT K H1 a xs) (hsz : xs.length ≤ 100000)
    (hs : ∀ i x, xs[i]? = some x → LcTurn Rel H1 i x g tt te vs σ) (hd : ∀ acc H, Ex H1 H → H D = some (.lst acc) → Rel xs.length acc H → acc.length ≤ xs.length → Qd H) :
    ∃ W : Nat → Nat → Hp → Prop, (∃ m, W 0 m (upd H1 D (.lst []))) ∧ ∀ i m H, W i m H →
      ((Itt K a).stop i H ∧ Qd H) ∨ ((Itt K a).go i H ∧ ∃ Nx : Hp → Prop, (∀ H', Nx H' → ∃ m', m' < m ∧ W (i + 1) m' H') ∧ ∀ x H', (Itt K a).yld i H x H' → g x (wipe σ vs) H' fun σ2 H2 => wipe σ2 vs = wipe σ vs ∧ tt σ2 H2 fun b H3 =>
        if b = true then te σ2 H3 fun y H4 => ∃ acc, H4 D = some (.lst acc) ∧ acc.length < sizeLine ∧ Nx (upd H4 D (.lst (acc ++ [y]))) else Nx H3) := by
  refine lc_tup (K := K) (a := a) (xs := xs) (fun i H => ∃ acc, Ex H1 H ∧ H D = some (.lst acc) ∧ acc.length ≤ i ∧ Rel i acc H) ⟨[], Ex.new hD, upd_same, Nat.le_refl _, hup _ (Ex.new hD) h0⟩ (fun i H _ h => ex_t h.choose_spec.1 src) (fun i x H hx h => ?_) (fun H h => ?_)
  · obtain ⟨acc, e, hl, hn, r⟩ := h
    refine hs i x hx acc H _ _ e r (fun y H' e' r' => ?_) (fun H' e' r' => ?_)
    · have hl' := e' _ _ hl
      have hi : i < xs.length := (List.getElem?_eq_some_iff.mp hx).1
      refine ⟨acc, hl', Nat.lt_of_lt_of_le (by omega : acc.length < 100000) (by decide), acc ++ [y], (e.trans e').mut hD, upd_same, by rw [List.length_append]; exact Nat.succ_le_succ hn, mono _ _ _ _ _ _ hD (e.trans e') hl' r'⟩
    · exact ⟨acc, e.trans e', e' _ _ hl, Nat.le_succ_of_le hn, r'⟩
  · obtain ⟨acc, e, hl, hn, r⟩ := h
    exact hd acc H e hl r hn
theorem lcR {lo : Int} {n : Nat} (Rel : Nat → List V → Hp → Prop) (hD : H1 D = none) (mono : LcMono Rel H1) (h0 : Rel 0 [] H1) (hup : ∀ H, Ex H1 H → Rel 0 [] H1 → Rel 0 [] H) (hsz : n ≤ 100000)
    (hs : ∀ i, i < n → LcTurn Rel H1 i (.int (lo + i)) g tt te vs σ) (hd : ∀ acc H, Ex H1 H → H D = some (.lst acc) → Rel n acc H → acc.length ≤ n → Qd H) :
    ∃ W : Nat → Nat → Hp → Prop, (∃ m, W 0 m (upd H1 D (.lst []))) ∧ ∀ i m H, W i m H →
      ((Itr lo n).stop i H ∧ Qd H) ∨ ((Itr lo n).go i H ∧ ∃ Nx : Hp → Prop, (∀ H', Nx H' → ∃ m', m' < m ∧ W (i + 1) m' H') ∧ ∀ x H', (Itr lo n).yld i H x H' → g x (wipe σ vs) H' fun σ2 H2 => wipe σ2 vs = wipe σ vs ∧ tt σ2 H2 fun b H3 =>
        if b = true then te σ2 H3 fun y H4 => ∃ acc, H4 D = some (.lst acc) ∧ acc.length < sizeLine ∧ Nx (upd H4 D (.lst (acc ++ [y]))) else Nx H3) := by
  refine lc_range (lo := lo) (n := n) (fun i H => ∃ acc, Ex H1 H ∧ H D = some (.lst acc) ∧ acc.length ≤ i ∧ Rel i acc H) ⟨[], Ex.new hD, upd_same, Nat.le_refl _, hup _ (Ex.new hD) h0⟩ (fun i H hi h => ?_) (fun H h => ?_)
  · obtain ⟨acc, e, hl, hn, r⟩ := h
    refine hs i hi acc H _ _ e r (fun y H' e' r' => ?_) (fun H' e' r' => ?_)
    · have hl' := e' _ _ hl
      refine ⟨acc, hl', Nat.lt_of_lt_of_le (by omega : acc.length < 100000) (by decide), acc ++ [y], (e.trans e').mut hD, upd_same, by rw [List.length_append]; exact Nat.succ_le_succ hn, mono _ _ _ _ _ _ hD (e.trans e') hl' r'⟩
    · exact ⟨acc, e.trans e', e' _ _ hl, Nat.le_succ_of_le hn, r'⟩
  · obtain ⟨acc, e, hl, hn, r⟩ := h
    exact hd acc H e hl r hn
end
/-! ### the deal: a list of a list of numbers and a number, hidden behind its address -/
def IntsO (a : Addr) : HO := .ext fun h => ∃ (its : List Value) (n : Nat) (ns : List Int), h.get? a = some { cls := .type "list", data := .seq its.toArray n } ∧ Vals (ns.map V.int) its ∧ ns.length ≤ 100 ∧ ∀ k ∈ ns, 0 ≤ k
def DealO (a d : Addr) : HO := .ext fun h => ∃ (its : List Value) (n : Nat) (b : Int), h.get? a = some { cls := .type "list", data := .seq its.toArray n } ∧ Vals [V.ref d, V.int b] its ∧ 0 ≤ b ∧ b < 2147483648
def Deal (H : Hp) (v : V) : Prop := ∃ d d0, v = .ref d ∧ H d = some (DealO d d0) ∧ H d0 = some (IntsO d0)
theorem Deal.up {H H' : Hp} {v : V} (h : Deal H v) (e : Ex H H') : Deal H' v := let ⟨d, d0, h1, h2, h3⟩ := h; ⟨d, d0, h1, e _ _ h2, e _ _ h3⟩
structure Dealt (ns : List Int) (b : Int) : Prop where
  len : ns.length ≤ 100
  nn : ∀ k ∈ ns, 0 ≤ k
  lo : 0 ≤ b
  hi : b < 2147483648
theorem intsO_ok {P : Program} {w : World} {H : Hp} {h : Heap} {a : Addr} {ns : List Int} (x : ObjOk P w H h a (.lst (ns.map V.int))) (hl : ns.length ≤ 100) (hn : ∀ k ∈ ns, 0 ≤ k) (H' : Hp) : ObjOk P w H' h a (IntsO a) := by
  obtain ⟨_, its, n, r, e⟩ := x
  refine ⟨⟨its, n, ns, e, r, hl, hn⟩, ⟨_, e⟩, fun h1 h2 p k => ?_⟩
  obtain ⟨its, n, ns, e, r⟩ := p
  exact ⟨its, n, ns, k _ e, r⟩
theorem dealO_ok {P : Program} {w : World} {H : Hp} {h : Heap} {a d : Addr} {b : Int} (x : ObjOk P w H h a (.lst [V.ref d, V.int b])) (h0 : 0 ≤ b) (h1 : b < 2147483648) (H' : Hp) : ObjOk P w H' h a (DealO a d) := by
  obtain ⟨_, its, n, r, e⟩ := x
  refine ⟨⟨its, n, b, e, r, h0, h1⟩, ⟨_, e⟩, fun h1 h2 p k => ?_⟩
  obtain ⟨its, n, b, e, r⟩ := p
  exact ⟨its, n, b, k _ e, r⟩
section
variable {X : Cx} {pins : List (Addr × Obj)} {σ : L2.St} {H : Hp} {s : Shared}
/-- the same heap, told otherwise -/
theorem Inv.retell {x : Addr} {o : HO} (I : Inv X pins σ H s) (mu : Mut (H x)) (new : ObjOk X.prog X.w (upd H x o) s.heap x o) : Inv X pins σ (upd H x o) s := by
  have q := I.write (t' := s.toks) (h' := s.heap) (e := x) (o := o) mu (.inl rfl) (fun b u _ e => e) ?_ new
  · exact q
  · cases e : H x with
    | none => rw [e] at mu; exact mu.elim
    | some u =>
      obtain ⟨z⟩ : Nonempty (∃ o, s.heap.get? x = some o) := by
        have lt := (I.hok x u e).lt
        rw [e] at mu
        have ok := I.hok x u e
        cases u with
        | lst xs => obtain ⟨_, its, n, _, e⟩ := ok; exact ⟨⟨_, e⟩⟩
        | dK kvs => obtain ⟨_, _, _, _, ob, es, ep, e, c⟩ := ok; exact ⟨⟨_, e⟩⟩
        | dT kvs => obtain ⟨_, _, xs, r, ob, es, ep, e, c⟩ := ok; exact ⟨⟨_, e⟩⟩
        | set S n => obtain ⟨ob, es, ep, t, e, c⟩ := ok; exact ⟨⟨_, e⟩⟩
        | ins C dx fs => obtain ⟨d, z, ne, e, _⟩ := ok; exact ⟨⟨_, e⟩⟩
        | ext φ => obtain ⟨p, ⟨o, e⟩, st⟩ := ok; exact ⟨⟨o, e⟩⟩
        | tup _ => exact mu.elim
        | own _ => exact mu.elim
        | xd _ => exact mu.elim
        | met _ _ => exact mu.elim
        | rng _ _ => exact mu.elim
        | frz _ _ => exact mu.elim
        | tbl _ => exact mu.elim
      exact z
/-- a deal is opened -/
theorem Inv.open_deal {d d0 : Addr} (I : Inv X pins σ H s) (h1 : H d = some (DealO d d0)) (h2 : H d0 = some (IntsO d0)) : ∃ ns b, Dealt ns b ∧ d ≠ d0 ∧ Inv X pins σ (upd (upd H d (.lst [.ref d0, .int b])) d0 (.lst (ns.map V.int))) s := by
  obtain ⟨its, n, b, e, r, b0, b1⟩ := (I.hok d _ h1).1
  obtain ⟨its2, n2, ns, e2, r2, hl, hn⟩ := (I.hok d0 _ h2).1
  have ne : d ≠ d0 := by
    intro z
    subst z
    rw [e] at e2
    have e3 : its = its2 := by
      injection e2 with e2
      injection e2 with _ _ e2
      injection e2 with e2
      simpa using congrArg Array.toList e2
    subst e3
    cases ns with
    | nil => exact absurd (r.length.trans r2.length.symm) (by simp)
    | cons k ns =>
      cases r with
      | cons a _ =>
        cases r2 with
        | cons c _ =>
          obtain ⟨t, c⟩ := c
          rw [show _ = Value.ref d from a] at c
          cases c
  have I1 : Inv X pins σ (upd H d (.lst [.ref d0, .int b])) s := Inv.retell I (by rw [h1]; trivial) ⟨by show 2 ≤ sizeLine; decide, its, n, r, e⟩
  have I2 : Inv X pins σ (upd (upd H d (.lst [.ref d0, .int b])) d0 (.lst (ns.map V.int))) s := Inv.retell I1 (by rw [upd_ne ne.symm, h2]; trivial) ⟨by rw [List.length_map]; exact Nat.le_trans hl (by decide), its2, n2, r2, e2⟩
  exact ⟨ns, b, ⟨hl, hn, b0, b1⟩, ne, I2⟩
/-- .. and shut again -/
theorem Inv.shut_deal {d d0 : Addr} {ns : List Int} {b : Int} (I : Inv X pins σ H s) (q : Dealt ns b) (h1 : H d = some (.lst [.ref d0, .int b])) (h2 : H d0 = some (.lst (ns.map V.int))) : Inv X pins σ (upd (upd H d (DealO d d0)) d0 (IntsO d0)) s := by
  have ne : d0 ≠ d := by
    intro z
    subst z
    rw [h1] at h2
    cases ns with
    | nil => cases h2
    | cons k ns => injection h2 with h2; injection h2 with h2; simp at h2
  have I1 : Inv X pins σ (upd H d (DealO d d0)) s := Inv.retell I (by rw [h1]; trivial) (dealO_ok (I.hok d _ h1) q.lo q.hi _)
  exact Inv.retell I1 (by rw [upd_ne ne, h2]; trivial) (intsO_ok (I.hok d0 _ h2) q.len q.nn _)
end
/-- the deal at d shut again, for what follows -/
def Shut (d d0 : Addr) (P : Hp → Prop) (H : Hp) : Prop := ∃ ns b, Dealt ns b ∧ H d = some (.lst [.ref d0, .int b]) ∧ H d0 = some (.lst (ns.map V.int)) ∧ P (upd (upd H d (DealO d d0)) d0 (IntsO d0))
/-- a block run with the deal open -/
def tOpen (t : TS) : TS := fun D σ H => ∃ d d0, H d = some (DealO d d0) ∧ H d0 = some (IntsO d0) ∧ ∀ ns b, Dealt ns b → d ≠ d0 →
  t ⟨fun σ' H' => Shut d d0 (D.nx σ') H', fun v H' => Shut d d0 (D.rt v) H', fun σ' H' => Shut d d0 (D.bk σ') H', fun σ' H' => Shut d d0 (D.ct σ') H'⟩ σ (upd (upd H d (.lst [.ref d0, .int b])) d0 (.lst (ns.map V.int)))
theorem pss_open {X : Cx} {st : List Stmt} {t : TS} (h : PSs X st t) : PSs X st (tOpen t) := by
  refine ⟨fun pins s σ H D I hw => ?_⟩
  obtain ⟨d, d0, h1, h2, q⟩ := hw
  obtain ⟨ns, b, dt, ne, I2⟩ := Inv.open_deal I h1 h2
  refine thn (h.run pins s σ _ _ I2 (q ns b dt ne)) fun f s' hf => ?_
  cases f with
  | next => obtain ⟨σ', H', I', ns', b', dt', e1, e2, p⟩ := hf; exact ⟨σ', _, Inv.shut_deal I' dt' e1 e2, p⟩
  | brk => obtain ⟨σ', H', I', ns', b', dt', e1, e2, p⟩ := hf; exact ⟨σ', _, Inv.shut_deal I' dt' e1 e2, p⟩
  | cont => obtain ⟨σ', H', I', ns', b', dt', e1, e2, p⟩ := hf; exact ⟨σ', _, Inv.shut_deal I' dt' e1 e2, p⟩
  | ret u => obtain ⟨v, σ', H', I', rv, ns', b', dt', e1, e2, p⟩ := hf; exact ⟨v, σ', _, Inv.shut_deal I' dt' e1 e2, rv, p⟩
/-- a new deal, hidden where the block hands it back -/
def tHide (t : TS) : TS := fun D σ H => t ⟨fun _ _ => False, fun v H' => ∃ d d0, v = .ref d ∧ Shut d d0 (D.rt v) H', fun _ _ => False, fun _ _ => False⟩ σ H
theorem pss_hide {X : Cx} {st : List Stmt} {t : TS} (h : PSs X st t) : PSs X st (tHide t) := by
  refine ⟨fun pins s σ H D I hw => ?_⟩
  refine thn (h.run pins s σ _ _ I hw) fun f s' hf => ?_
  cases f with
  | next => obtain ⟨_, _, _, z⟩ := hf; exact z.elim
  | brk => obtain ⟨_, _, _, z⟩ := hf; exact z.elim
  | cont => obtain ⟨_, _, _, z⟩ := hf; exact z.elim
  | ret u => obtain ⟨v, σ', H', I', rv, d, d0, ev, ns', b', dt', e1, e2, p⟩ := hf; exact ⟨v, σ', _, Inv.shut_deal I' dt' e1 e2, rv, p⟩
/-- what the deal's own objects are, all else keeps: H0 the heap at the entry with the deal hidden, H' the one behind -/
theorem ex_shut {H0 H' : Hp} {d d0 : Addr} (h1 : H0 d = some (DealO d d0)) (h2 : H0 d0 = some (IntsO d0)) (k : ∀ a o, a ≠ d → a ≠ d0 → H0 a = some o → H' a = some o) (ne : d ≠ d0) : Ex H0 (upd (upd H' d (DealO d d0)) d0 (IntsO d0)) := by
  intro a o e
  by_cases c : a = d0
  · subst c; rw [upd_same]; rw [h2] at e; exact e
  · rw [upd_ne c]
    by_cases c2 : a = d
    · subst c2; rw [upd_same]; rw [h1] at e; exact e
    · rw [upd_ne c2]; exact k a o c2 c e
end Bp

set_option Elab.async false
set_option linter.all false
set_option maxRecDepth 100000
set_option maxHeartbeats 4000000
namespace Bp
open PySem PySem.Spec PyProof.Rows L2 Evl
mutual
theorem dpUp {K : PySem.W.Frag} {H H' : Hp} (e : Ex H H') : ∀ (d : PyData) (v : V), Dp K H v d → Dp K H' v d
  | .none, _, h => by cases h; exact .non
  | .bool b, _, h => by cases h; exact .bl b
  | .int i, _, h => by cases h; exact .int i
  | .str x, _, h => by cases h; exact .str x
  | .list ds, _, h => by
    cases h with
    | lst s t => exact .lst (ex_l e s) (dpAllUp e ds _ t)
  | .tuple ds, _, h => by
    cases h with
    | tup s t => exact .tup (ex_t e s) (dpAllUp e ds _ t)
  | .dict _, _, h => by cases h
theorem dpAllUp {K : PySem.W.Frag} {H H' : Hp} (e : Ex H H') : ∀ (ds : List PyData) (vs : List V), DpAll K H vs ds → DpAll K H' vs ds
  | [], _, h => by cases h; exact .nil
  | d :: ds, _, h => by
    cases h with
    | cons h1 h2 => exact .cons (dpUp e d _ h1) (dpAllUp e ds _ h2)
end
theorem dpAll_len {K : PySem.W.Frag} {H : Hp} : ∀ {ds : List PyData} {vs : List V}, DpAll K H vs ds → vs.length = ds.length
  | [], _, h => by cases h; rfl
  | d :: ds, _, h => by
    cases h with
    | cons _ h2 => simp [dpAll_len h2]
/-- a value that is data -/
def DataV (K : PySem.W.Frag) (H : Hp) (v : V) : Prop := ∃ d : PyData, Dp K H v d ∧ d.canLay0 = true ∧ d.depth ≤ 8
theorem DataV.up {K : PySem.W.Frag} {H H' : Hp} {v : V} (h : DataV K H v) (e : Ex H H') : DataV K H' v := let ⟨d, h1, h2⟩ := h; ⟨d, dpUp e d v h1, h2⟩
def AllD (K : PySem.W.Frag) (H : Hp) (xs : List V) : Prop := ∀ v ∈ xs, DataV K H v
theorem AllD.up {K : PySem.W.Frag} {H H' : Hp} {xs : List V} (h : AllD K H xs) (e : Ex H H') : AllD K H' xs := fun v hv => (h v hv).up e
theorem AllD.list {K : PySem.W.Frag} {H : Hp} : ∀ {xs : List V}, AllD K H xs → ∃ ds, DpAll K H xs ds ∧ PyData.canLayAll0 ds = true ∧ PyData.depthAll ds ≤ 8
  | [], _ => ⟨[], .nil, rfl, by simp [PyData.depthAll]⟩
  | v :: xs, h => by
    obtain ⟨d, h1, h2, h3⟩ := h v List.mem_cons_self
    obtain ⟨ds, g1, g2, g3⟩ := AllD.list (xs := xs) (fun u hu => h u (List.mem_cons_of_mem _ hu))
    refine ⟨d :: ds, .cons h1 g1, by simp [PyData.canLayAll0, h2, g2], ?_⟩
    simp only [PyData.depthAll]
    omega
theorem canInts : ∀ ns : List Int, PyData.canLayAll0 (ns.map PyData.int) = true
  | [] => rfl
  | n :: r => by
    show PyData.canLayAll0 (.int n :: r.map PyData.int) = true
    rw [PyData.canLayAll0, canInts r]
    simp [PyData.canLay0]
theorem depthInts : ∀ ns : List Int, PyData.depthAll (ns.map PyData.int) = 0
  | [] => by simp [PyData.depthAll]
  | n :: r => by
    show PyData.depthAll (.int n :: r.map PyData.int) = 0
    rw [PyData.depthAll, depthInts r]
    simp [PyData.depth]
theorem canRow (r : Row) : (rowD r).canLay0 = true := by unfold rowD; rw [PyData.canLay0]; exact canInts r
theorem depthRow (r : Row) : (rowD r).depth ≤ 1 := by unfold rowD; rw [PyData.depth, depthInts]; omega
theorem canRows : ∀ rs : List Row, PyData.canLayAll0 (rs.map rowD) = true
  | [] => rfl
  | r :: rs => by
    show PyData.canLayAll0 (rowD r :: rs.map rowD) = true
    rw [PyData.canLayAll0, canRow r, canRows rs]; rfl
theorem depthRows : ∀ rs : List Row, PyData.depthAll (rs.map rowD) ≤ 1
  | [] => by simp [PyData.depthAll]
  | r :: rs => by
    show PyData.depthAll (rowD r :: rs.map rowD) ≤ 1
    have h1 := depthRow r
    have h2 := depthRows rs
    rw [PyData.depthAll]; omega
theorem IntT.data {K : PySem.W.Frag} {H : Hp} {v : V} {r : Row} (h : IntT H v r) : DataV K H v := ⟨_, h.dp, canRow r, Nat.le_trans (depthRow r) (by decide)⟩
theorem RowsOf.data {K : PySem.W.Frag} {H : Hp} {vs : List V} {rs : List Row} (h : RowsOf H vs rs) : AllD K H vs := fun v hv => by
  obtain ⟨r, _, q⟩ := pairedMem h hv
  exact q.data
theorem ints_data {K : PySem.W.Frag} {H : Hp} (ns : List Int) : AllD K H (ns.map V.int) := fun v hv => by
  obtain ⟨n, _, rfl⟩ := List.mem_map.mp hv
  exact ⟨.int n, .int n, by simp [PyData.canLay0], by simp [PyData.depth]⟩
theorem shapedL {ds : List PyData} (h1 : PyData.canLayAll0 ds = true) (h2 : PyData.depthAll ds ≤ 8) : SeqAt.shaped (.list ds) = true := by
  unfold SeqAt.shaped
  rw [PyData.canLay0, h1, PyData.depth]
  simp; omega
theorem shapedRow (r : Row) : SeqAt.shaped (rowD r) = true := by
  unfold SeqAt.shaped
  have := depthRow r
  rw [canRow r]; simp; omega
theorem shapedRowsL (rs : List Row) : SeqAt.shaped (.list (rs.map rowD)) = true := shapedL (canRows rs) (Nat.le_trans (depthRows rs) (by decide))
theorem shapedNil : SeqAt.shaped (.list []) = true := shapedL rfl (by simp [PyData.depthAll])
/-- xs != [] , xs == [] -/
theorem neNil {K : PySem.W.Frag} {H : Hp} {a p : Addr} {xs : List V} {Q : VK} (hs : SqL K H a xs) (hd : AllD K H xs) (hp : H p = some (.lst [])) (q : Q (.bl (!xs.isEmpty)) H) : rNeD K (.ref a) (.ref p) H Q := by
  obtain ⟨ds, h1, h2, h3⟩ := hd.list
  refine ⟨.list ds, .list [], .lst hs h1, .lst (SqL.of hp) .nil, shapedL h2 h3, shapedNil, ?_⟩
  have e : PyData.eqv (.list ds) (.list []) = xs.isEmpty := by
    cases xs with
    | nil => cases h1; simp [PyData.eqv, PyData.eqvAll]
    | cons _ _ => cases h1; simp [PyData.eqv, PyData.eqvAll]
  rw [e]; exact q
theorem eqNil {K : PySem.W.Frag} {H : Hp} {a p : Addr} {xs : List V} {Q : VK} (hs : SqL K H a xs) (hd : AllD K H xs) (hp : H p = some (.lst [])) (q : Q (.bl xs.isEmpty) H) : rEqD K (.ref a) (.ref p) H Q := by
  obtain ⟨ds, h1, h2, h3⟩ := hd.list
  refine ⟨.list ds, .list [], .lst hs h1, .lst (SqL.of hp) .nil, shapedL h2 h3, shapedNil, ?_⟩
  have e : PyData.eqv (.list ds) (.list []) = xs.isEmpty := by
    cases xs with
    | nil => cases h1; simp [PyData.eqv, PyData.eqvAll]
    | cons _ _ => cases h1; simp [PyData.eqv, PyData.eqvAll]
  rw [e]; exact q
theorem eqvAllInts : ∀ ns ms : List Int, PyData.eqvAll (ns.map .int) (ms.map .int) = decide (ns = ms)
  | [], [] => by simp [PyData.eqvAll]
  | [], _ :: _ => by simp [PyData.eqvAll]
  | _ :: _, [] => by simp [PyData.eqvAll]
  | n :: ns, m :: ms => by
    show PyData.eqvAll (.int n :: ns.map .int) (.int m :: ms.map .int) = _
    rw [PyData.eqvAll, eqvAllInts ns ms, PyData.eqv]
    by_cases h : n = m <;> by_cases h2 : ns = ms <;> simp [h, h2]
theorem eqvRow (r q : Row) : PyData.eqv (rowD r) (rowD q) = decide (r = q) := by unfold rowD; rw [PyData.eqv]; exact eqvAllInts r q
/-- t in rows -/
theorem inRows {rs : List Row} {r : Row} : ((rs.map rowD).any fun z => PyData.eqv z (rowD r)) = decide (r ∈ rs) := by
  rw [List.any_map]
  induction rs with
  | nil => simp
  | cons q rs ih =>
    rw [List.any_cons, ih]
    show (PyData.eqv (rowD q) (rowD r) || decide (r ∈ rs)) = _
    rw [eqvRow]
    by_cases h : r = q
    · subst h; simp
    · have h' : ¬ q = r := fun z => h z.symm
      simp [h, h']
/-! ### ints in ints -/
theorem flatInts (ns : List Int) : (ns.map V.int).all flatV = true := by
  rw [List.all_eq_true]; intro v hv; obtain ⟨n, _, rfl⟩ := List.mem_map.mp hv; rfl
theorem inInts (k : Int) : ∀ ns : List Int, inV (.int k) (ns.map V.int) = decide (k ∈ ns)
  | [] => by simp [inV]
  | n :: r => by
    have ih := inInts k r
    unfold inV at ih ⊢
    rw [List.map_cons, List.any_cons, ih]
    show ((n == k) || decide (k ∈ r)) = _
    by_cases h : n = k
    · subst h; simp
    · have : (n == k) = false := by simpa using h
      rw [this]; simp [Ne.symm h, eq_comm]
/-! ### while, by a word and a measure; no monotony is asked of the test -/
theorem whileP {c : TT} {tb : TS} {D : Ends} {σ : L2.St} {H : Hp} (Pv : L2.St → Hp → Prop) (μ : L2.St → Hp → Nat) (h0 : Pv σ H)
    (hs : ∀ σ H, Pv σ H → c σ H fun b H1 => if b = true then ∃ N : L2.St → Hp → Prop, (∀ σ' H', N σ' H' → ∃ m', m' < μ σ H ∧ m' = μ σ' H' ∧ Pv σ' H') ∧ tb { D with nx := N, ct := N, bk := D.nx } σ H1 else D.nx σ H1) : tWhile c tb D σ H :=
  ⟨fun m σ H => m = μ σ H ∧ Pv σ H, ⟨_, rfl, h0⟩, fun m σ H p => by
    obtain ⟨rfl, p⟩ := p
    exact hs σ H p⟩
theorem whileI {c : TT} {tb : TS} {D : Ends} {σ : L2.St} {H : Hp} (W : Nat → L2.St → Hp → Prop) (m0 : Nat) (h0 : W m0 σ H)
    (hs : ∀ m σ H, W m σ H → c σ H fun b H1 => if b = true then ∃ N : L2.St → Hp → Prop, (∀ σ' H', N σ' H' → ∃ m', m' < m ∧ W m' σ' H') ∧ tb { D with nx := N, ct := N, bk := D.nx } σ H1 else D.nx σ H1) : tWhile c tb D σ H := ⟨W, ⟨m0, h0⟩, hs⟩
theorem whileIN {tb : TS} {D : Ends} {σ : L2.St} {H1 : Hp} {m : Nat} (W : Nat → L2.St → Hp → Prop) (h : tb { D with nx := fun σ' H' => ∃ m', m' < m ∧ W m' σ' H', ct := fun σ' H' => ∃ m', m' < m ∧ W m' σ' H', bk := D.nx } σ H1) :
    ∃ N : L2.St → Hp → Prop, (∀ σ' H', N σ' H' → ∃ m', m' < m ∧ W m' σ' H') ∧ tb { D with nx := N, ct := N, bk := D.nx } σ H1 := ⟨_, fun σ' H' q => q, h⟩
theorem whileN {tb : TS} {D : Ends} {σ : L2.St} {H1 : Hp} {m : Nat} (Pv : L2.St → Hp → Prop) (μ : L2.St → Hp → Nat) (h : tb { D with nx := fun σ' H' => Pv σ' H' ∧ μ σ' H' < m, ct := fun σ' H' => Pv σ' H' ∧ μ σ' H' < m, bk := D.nx } σ H1) :
    ∃ N : L2.St → Hp → Prop, (∀ σ' H', N σ' H' → ∃ m', m' < m ∧ m' = μ σ' H' ∧ Pv σ' H') ∧ tb { D with nx := N, ct := N, bk := D.nx } σ H1 := ⟨_, fun σ' H' q => ⟨_, q.2, rfl, q.1⟩, h⟩
/-! ### odds -/
theorem tYesE {te : TE} {σ : L2.St} {H : Hp} {Cy : V → Hp → Prop} {Cn : Hp → Prop} (h : te σ H Cy) : tYes σ H fun b H3 => if b = true then te σ H3 Cy else Cn H3 := by
  show if true = true then te σ H Cy else Cn H
  exact iteT h
theorem atI_of {α : Type} {xs : List α} {i : Int} {j : Nat} {v : α} (hi : i = (j : Int)) (h : xs[j]? = some v) : atI xs i = some v := by rw [hi]; exact atI_nat h
theorem atI_int {xs : List Int} {i : Int} (h0 : 0 ≤ i) (h1 : i < xs.length) : ∃ x, xs[i.toNat]? = some x ∧ atI (xs.map V.int) i = some (.int x) := by
  have hl : i.toNat < xs.length := by omega
  refine ⟨xs[i.toNat], List.getElem?_eq_getElem hl, atI_of (j := i.toNat) (by omega) ?_⟩
  rw [List.getElem?_map, List.getElem?_eq_getElem hl]; rfl
theorem ifE {c : Bool} {A B : Prop} (h1 : c = true → A) (h2 : c = false → B) : if c = true then A else B := by
  cases c
  · exact iteF (h2 rfl)
  · exact iteT (h1 rfl)
theorem ifF {c : Bool} {A B : Prop} (h2 : c = false → B) (h1 : c = true → A) : if c = true then A else B := ifE h1 h2
end Bp

set_option Elab.async false
set_option linter.all false
set_option maxRecDepth 100000
set_option maxHeartbeats 4000000
namespace Bp
open PySem PySem.Spec PyProof.Rows L2 Evl
abbrev s_lawAny : Stmt := topS 36
theorem sc_lawAny : FnScope ["_law_deal", "_law_bound", "_law_rest"] ["_law_deal", "_law_bound"] (defScope s_lawAny) := ⟨rfl, rfl, rfl, by decide +kernel, rfl, by decide +kernel, by decide +kernel⟩
/-- a number from 0 below n -/
def spAny : Sp := fun vs H Q _ => ∃ (dv : V) (n : Int), vs = [dv, .int n] ∧ Deal H dv ∧ 1 ≤ n ∧ n ≤ 1000000 ∧ ∀ k H', Ex H H' → 0 ≤ k → k < n → Q (.int k) H'
section
variable {P : Program} {w : World} {K : PySem.W.Frag} {mg : Str → Option Value} {base : Heap}
/-- the last of a list -/
theorem last_ix {ns : List Int} {x : Int} (h : ns[ns.length - 1]? = some x) : atI (ns.map V.int) (-1) = some (.int x) := by
  have hl : ns.length - 1 < ns.length := (List.getElem?_eq_some_iff.mp h).1
  have e : ns = ns.dropLast ++ [x] := by
    have hne : ns ≠ [] := by intro z; subst z; simp at hl
    have := List.dropLast_concat_getLast hne
    rw [List.getLast_eq_getElem] at this
    have e2 : ns[ns.length - 1] = x := (List.getElem?_eq_some_iff.mp h).2
    rw [e2] at this
    exact this.symm
  rw [e, List.map_append]
  exact atI_last _ _
theorem Dealt.drop {ns : List Int} {b : Int} (h : Dealt ns b) : Dealt ns.dropLast b := ⟨by have := h.len; simp; omega, fun k hk => h.nn k (List.dropLast_subset _ hk), h.lo, h.hi⟩
theorem map_dropLast {ns : List Int} : (ns.map V.int).dropLast = ns.dropLast.map V.int := by simp
theorem ok_lawAny {f : Addr} {fd : FuncData} (F : Fun K "_law_any" "_law_any" s_lawAny f fd) (B : Blt mg) : FnOk P w K mg base CX0 1 f fd ["_law_deal", "_law_bound"] spAny := by
  refine F.ok sc_lawAny (fun vs H Q E h => ?_) (fun cdv A outer s H vs Q E hr h => ?_)
  · obtain ⟨dv, n, rfl, _⟩ := h
    rfl
  · obtain ⟨dv, n, rfl, ⟨d, d0, rfl, h1, h2⟩, n0, n1, q⟩ := h
    refine ⟨_, pss_open (pss_cut (ps_while PassesOwn.never (PW.pt (pw_and (pt_cmpR (op_neD hr.units) (pe_ix ix_list (pv 0) pe_int (fun _ _ => rfl)) (pe_lst pa_nil) (nomark _)) (pw_and1 (pt_cmpR op_eq (pe_ix ix_list (pe_ix ix_list (pv 0) pe_int (fun _ _ => rfl)) (pe_un un_neg pe_int) (fun _ _ => rfl)) pe_int (nomark _)))))
    (pss_one (ps_expr (pe_bm0 PySem.F.plainAttrs_list PySem.F.slot_list_pop PySem.F.type_list_pop mt_pop (pe_ix ix_list (pv 0) pe_int (fun _ _ => rfl))))))
  (pss_cons (ps_if (pt_cmpR (op_neD hr.units) (pe_ix ix_list (pv 0) pe_int (fun _ _ => rfl)) (pe_lst pa_nil) (nomark _))
    (pss_cons (ps_set (i := 2) sc_lawAny.nd rfl (.inl rfl) (pe_callTy call_int1 (by rfl) B.int bt_int (pa_cons (pe_bm0 PySem.F.plainAttrs_list PySem.F.slot_list_pop PySem.F.type_list_pop mt_pop (pe_ix ix_list (pv 0) pe_int (fun _ _ => rfl))) pa_nil)))
  (pss_cons (ps_expr (pe_bm PySem.F.plainAttrs_list PySem.F.slot_list_append PySem.F.type_list_append mt_append (pe_ix ix_list (pv 0) pe_int (fun _ _ => rfl)) (pa_cons (pe_op op_fdiv (pv 2) (pv 1)) pa_nil)))
  (pss_one (ps_ret (pe_op op_mod (pv 2) (pv 1))))))
    pss_nil)
  (pss_cons (ps_asg (pe_op op_mod (pe_callTy call_int1 (by rfl) B.int bt_int (pa_cons (pe_op op_add (pe_op op_mul (pe_ix ix_list (pv 0) pe_int (fun _ _ => rfl)) pe_int) pe_int) pa_nil)) pe_int) (pg_sub (pv 0) pe_int set_list))
  (pss_one (ps_ret (pe_op op_mod (pe_callTy call_int1 (by rfl) B.int bt_int (pa_cons (pe_op op_fdiv (pe_ix ix_list (pv 0) pe_int (fun _ _ => rfl)) pe_int) pa_nil)) (pv 1))))))), ?_⟩
    refine ⟨d, d0, h1, h2, fun ns b dt ne => ?_⟩
    -- what the heap is like while the deal is open
    let Pv : L2.St → Hp → Prop := fun σ H' => σ = [some (.ref d), some (.int n), none] ∧ ∃ ms, Dealt ms b ∧ H' d = some (.lst [.ref d0, .int b]) ∧ H' d0 = some (.lst (ms.map V.int)) ∧ ∀ a o, a ≠ d → a ≠ d0 → H a = some o → H' a = some o
    refine ⟨Pv, whileP Pv (fun σ H' => match H' d0 with | some (.lst xs) => xs.length | _ => 0) ?_ ?_, ?_⟩
    · exact ⟨rfl, ns, dt, by rw [upd_ne ne, upd_same], upd_same, fun a o e1 e2 e => by rw [upd_ne e2, upd_ne e1]; exact e⟩
    · rintro σ H1 ⟨rfl, ms, dm, e1, e2, k1⟩
      -- deal[0] != []
      refine ⟨.ref d, rfl, d, _, 0, .ref d0, rfl, rfl, SqL.of e1, rfl, Nat.zero_le _, fun p hp => ?_⟩
      have e1p : (upd H1 p (.lst [])) d = some (.lst [.ref d0, .int b]) := Ex.new hp _ _ e1
      have e2p : (upd H1 p (.lst [])) d0 = some (.lst (ms.map V.int)) := Ex.new hp _ _ e2
      have k1p : ∀ a o, a ≠ d → a ≠ d0 → H a = some o → (upd H1 p (.lst [])) a = some o := fun a o x y e => Ex.new hp a o (k1 a o x y e)
      refine neNil (SqL.of e2p) (ints_data ms) upd_same ⟨_, rfl, ifE (fun c => ?_) (fun c => ?_)⟩
      · -- .. and deal[0][-1] == 0
        have hne : ms ≠ [] := by intro z; subst z; simp at c
        have hlen : ms.length - 1 < ms.length := by cases ms with | nil => exact absurd rfl hne | cons _ _ => simp
        have hx : ms[ms.length - 1]? = some ms[ms.length - 1] := List.getElem?_eq_getElem hlen
        generalize hxx : ms[ms.length - 1] = x at hx
        refine ⟨.ref d, rfl, d, _, 0, .ref d0, rfl, rfl, SqL.of e1p, rfl, 1, rfl, d0, _, -1, .int x, rfl, rfl, SqL.of e2p, last_ix hx, rfl, _, rfl, ifE (fun c2 => ?_) (fun c2 => ?_)⟩
        · -- deal[0].pop()
          refine whileN Pv _ ?_
          refine ⟨.ref d, rfl, d, _, 0, .ref d0, rfl, rfl, SqL.of e1p, rfl, .inl ⟨rfl, _, SqL.of e2p⟩, d0, _, .int x, rfl, rfl, e2p, ?_, ?_⟩
          · rw [List.length_map, List.getElem?_map, hx]; rfl
          refine ⟨⟨rfl, ms.dropLast, dm.drop, by rw [upd_ne ne]; exact e1p, by rw [upd_same, map_dropLast], fun a o x1 x2 e => by rw [upd_ne x2]; exact k1p a o x1 x2 e⟩, ?_⟩
          rw [upd_same, e2]
          show (ms.map V.int).dropLast.length < (ms.map V.int).length
          rw [List.length_dropLast, List.length_map]
          exact hlen
        · exact ⟨rfl, ms, dm, e1p, e2p, k1p⟩
      · exact ⟨rfl, ms, dm, e1p, e2p, k1p⟩
    · -- behind the loop
      rintro σ H2 ⟨rfl, ms, dm, f1, f2, k2⟩
      refine ⟨.ref d, rfl, d, _, 0, .ref d0, rfl, rfl, SqL.of f1, rfl, Nat.zero_le _, fun p2 hp2 => ?_⟩
      have f1p : (upd H2 p2 (.lst [])) d = some (.lst [.ref d0, .int b]) := Ex.new hp2 _ _ f1
      have f2p : (upd H2 p2 (.lst [])) d0 = some (.lst (ms.map V.int)) := Ex.new hp2 _ _ f2
      have k2p : ∀ a o, a ≠ d → a ≠ d0 → H a = some o → (upd H2 p2 (.lst [])) a = some o := fun a o x y e => Ex.new hp2 a o (k2 a o x y e)
      refine neNil (SqL.of f2p) (ints_data ms) upd_same ⟨_, rfl, ifE (fun c => ?_) (fun c => ?_)⟩
      · -- rest = int(deal[0].pop())
        have hne : ms ≠ [] := by intro z; subst z; simp at c
        have hlen : ms.length - 1 < ms.length := by cases ms with | nil => exact absurd rfl hne | cons _ _ => simp
        have hx : ms[ms.length - 1]? = some ms[ms.length - 1] := List.getElem?_eq_getElem hlen
        have x0 : 0 ≤ ms[ms.length - 1] := dm.nn _ (List.getElem_mem hlen)
        generalize hxx : ms[ms.length - 1] = x at hx x0
        refine ⟨.ref d, rfl, d, _, 0, .ref d0, rfl, rfl, SqL.of f1p, rfl, .inl ⟨rfl, _, SqL.of f2p⟩, d0, _, .int x, rfl, rfl, f2p, ?_, .inl ⟨x, rfl, ?_⟩⟩
        · rw [List.length_map, List.getElem?_map, hx]; rfl
        -- deal[0].append(rest // bound)
        have g1 : (upd (upd H2 p2 (.lst [])) d0 (.lst (ms.map V.int).dropLast)) d = some (.lst [.ref d0, .int b]) := by rw [upd_ne ne]; exact f1p
        refine ⟨.ref d, rfl, d, _, 0, .ref d0, rfl, rfl, SqL.of g1, rfl, .inl ⟨rfl, _, SqL.of upd_same⟩, .int x, rfl, .int n, rfl, x, n, rfl, rfl, ⟨by omega, by omega⟩, d0, _, _, rfl, rfl, upd_same, ?_, ?_⟩
        · have := dm.len
          rw [List.length_dropLast, List.length_map]
          exact Nat.lt_of_lt_of_le (by omega : ms.length - 1 < 100000) (by decide)
        -- return rest % bound
        refine ⟨.int x, rfl, .int n, rfl, x, n, rfl, rfl, by omega, ?_⟩
        have dt2 : Dealt (ms.dropLast ++ [x / n]) b := ⟨by have := dm.len; simp; omega, fun k hk => by
          rcases List.mem_append.mp hk with hk | hk
          · exact dm.nn k (List.dropLast_subset _ hk)
          · rw [List.mem_singleton.mp hk]; exact Int.ediv_nonneg x0 (by omega), dm.lo, dm.hi⟩
        refine ⟨_, b, dt2, by rw [upd_ne ne]; exact g1, by rw [upd_same, map_dropLast, List.map_append]; rfl, ?_⟩
        refine q _ _ (ex_shut h1 h2 (fun a o x1 x2 e => ?_) ne) (Int.emod_nonneg _ (by omega)) (Int.emod_lt_of_pos _ (by omega))
        rw [upd_ne x2, upd_ne x2]; exact k2p a o x1 x2 e
      · -- deal[1] = int(deal[1] * 40693 + 71) % 2147483647
        have b0 := dm.lo
        have b1 := dm.hi
        refine ⟨.ref d, rfl, d, _, 1, .int b, rfl, rfl, SqL.of f1p, rfl, b, 40693, rfl, rfl, .inl ⟨by omega, by omega⟩, _, _, rfl, rfl, .inl ⟨_, rfl, _, _, rfl, rfl, (by show (0 : Int) < 2147483647; decide), ?_⟩⟩
        refine ⟨.ref d, rfl, d, _, 1, 1, rfl, rfl, f1p, rfl, ?_⟩
        -- return int(deal[1] // 64) % bound
        have g2 : (upd (upd H2 p2 (.lst [])) d (.lst ([V.ref d0, V.int b].set 1 (.int ((b * 40693 + 71) % 2147483647))))) d0 = some (.lst (ms.map V.int)) := by rw [upd_ne ne.symm]; exact f2p
        refine ⟨.ref d, rfl, d, _, 1, _, rfl, rfl, SqL.of upd_same, rfl, _, 64, rfl, rfl, ⟨by decide, by decide⟩, .inl ⟨_, rfl, .int n, rfl, _, n, rfl, rfl, by omega, ?_⟩⟩
        have dt2 : Dealt ms ((b * 40693 + 71) % 2147483647) := ⟨dm.len, dm.nn, Int.emod_nonneg _ (by decide), by have := Int.emod_lt_of_pos (b * 40693 + 71) (show (0 : Int) < 2147483647 by decide); omega⟩
        refine ⟨ms, _, dt2, upd_same, g2, ?_⟩
        refine q _ _ (ex_shut h1 h2 (fun a o x1 x2 e => ?_) ne) (Int.emod_nonneg _ (by omega)) (Int.emod_lt_of_pos _ (by omega))
        rw [upd_ne x1]; exact k2p a o x1 x2 e
end
end Bp

set_option Elab.async false
set_option linter.all false
set_option maxRecDepth 100000
set_option maxHeartbeats 4000000
namespace Bp
open PySem PySem.Spec PyProof.Rows L2 Evl
abbrev s_lawOf : Stmt := topS 37
theorem sc_lawOf : FnScope ["_law_deal", "_law_some"] ["_law_deal", "_law_some"] (defScope s_lawOf) := ⟨rfl, rfl, rfl, by decide +kernel, rfl, by decide +kernel, by decide +kernel⟩
/-- one of some things -/
def spOf : Sp := fun vs H Q _ => ∃ (dv : V) (a : Addr) (xs : List V), vs = [dv, .ref a] ∧ Deal H dv ∧ H a = some (.lst xs) ∧ xs ≠ [] ∧ xs.length ≤ 100000 ∧ ∀ x H', Ex H H' → x ∈ xs → Q x H'
abbrev s_lawMixed : Stmt := topS 38
theorem sc_lawMixed : FnScope ["_law_deal", "_law_some", "_law_left", "_law_found"] ["_law_deal", "_law_some"] (defScope s_lawMixed) := ⟨rfl, rfl, rfl, by decide +kernel, rfl, by decide +kernel, by decide +kernel⟩
/-- the things in another order, in a new list -/
def spMixed (K : PySem.W.Frag) : Sp := fun vs H Q _ => ∃ (dv : V) (a : Addr) (xs : List V), vs = [dv, .ref a] ∧ Deal H dv ∧ H a = some (.lst xs) ∧ AllD K H xs ∧ xs.length ≤ 100000 ∧ ∀ p ys H', H p = none → Ex H H' → H' p = some (.lst ys) → ys.Perm xs → Q (.ref p) H'
section
variable {P : Program} {w : World} {K : PySem.W.Frag} {mg : Str → Option Value} {base : Heap}
theorem ok_lawOf {f fA : Addr} {fd fdA : FuncData} (F : Fun K "_law_of" "_law_of" s_lawOf f fd) (B : Blt mg) (D_lawAny : Dn K mg "_law_any" s_lawAny ["_law_deal", "_law_bound"] fA fdA) : FnOk P w K mg base CX0 2 f fd ["_law_deal", "_law_some"] spOf := by
  have G_lawAny : FnOk P w K mg base CX0 1 fA fdA ["_law_deal", "_law_bound"] spAny := ok_lawAny D_lawAny.F B
  refine F.ok sc_lawOf (fun vs H Q E h => ?_) (fun cdv A outer s H vs Q E hr h => ?_)
  · obtain ⟨dv, a, xs, rfl, _⟩ := h
    rfl
  · obtain ⟨dv, a, xs, rfl, hd, ha, hne, hl, q⟩ := h
    refine ⟨_, (pss_one (ps_ret (pe_ix ix_list (pv 1) (pe_call G_lawAny (hr.mono (by decide)) (by rfl) D_lawAny.g D_lawAny.F.kp D_lawAny.b .nil pass0 (pa_cons (pv 0) (pa_cons (pe_callB call_len (by rfl) B.len bt_len (pa_cons (pv 1) pa_nil)) pa_nil))) (fun _ _ => rfl)))), ?_⟩
    have hx : 0 < xs.length := by cases xs with | nil => exact absurd rfl hne | cons _ _ => simp
    refine ⟨.ref a, rfl, dv, rfl, .ref a, rfl, _, xs.length, rfl, .inl ⟨xs, SqL.of ha, rfl⟩, ?_⟩
    refine ⟨dv, xs.length, rfl, hd, by omega, by omega, fun k H' e k0 k1 => ?_⟩
    have hk : k.toNat < xs.length := by omega
    refine ⟨a, xs, k, xs[k.toNat], rfl, rfl, SqL.of (e _ _ ha), atI_of (j := k.toNat) (by omega) (List.getElem?_eq_getElem hk), ?_⟩
    exact q _ _ e (List.getElem_mem hk)
theorem perm_erase {xs : List V} {j : Nat} {y : V} (h : xs[j]? = some y) : xs.Perm (y :: xs.eraseIdx j) := by
  induction xs generalizing j with
  | nil => simp at h
  | cons x xs ih =>
    cases j with
    | zero => simp at h; subst h; simp
    | succ j =>
      simp at h
      rw [List.eraseIdx_cons_succ]
      exact ((ih h).cons x).trans (List.Perm.swap _ _ _)
theorem ok_lawMixed {f fA : Addr} {fd fdA : FuncData} (F : Fun K "_law_mixed" "_law_mixed" s_lawMixed f fd) (B : Blt mg) (D_lawAny : Dn K mg "_law_any" s_lawAny ["_law_deal", "_law_bound"] fA fdA) : FnOk P w K mg base CX0 2 f fd ["_law_deal", "_law_some"] (spMixed K) := by
  have G_lawAny : FnOk P w K mg base CX0 1 fA fdA ["_law_deal", "_law_bound"] spAny := ok_lawAny D_lawAny.F B
  refine F.ok sc_lawMixed (fun vs H Q E h => ?_) (fun cdv A outer s H vs Q E hr h => ?_)
  · obtain ⟨dv, a, xs, rfl, _⟩ := h
    rfl
  · obtain ⟨dv, a, xs, rfl, hd, ha, hD, hl, q⟩ := h
    refine ⟨_, (pss_cons (ps_par (i := 2) (j := 3) rfl sc_lawMixed.nd rfl rfl (by decide) rfl rfl (pa_cons (pe_callTy call_list_of (by rfl) B.list bt_list (pa_cons (pv 1) pa_nil)) (pa_cons (pe_lst pa_nil) pa_nil)) rfl)
  (pss_cut (ps_while PassesOwn.never (pt_cmpR (op_neD hr.units) (pv 2) (pe_lst pa_nil) (nomark _))
    (pss_one (ps_expr (pe_bm PySem.F.plainAttrs_list PySem.F.slot_list_append PySem.F.type_list_append mt_append (pv 3) (pa_cons (pe_bm PySem.F.plainAttrs_list PySem.F.slot_list_pop PySem.F.type_list_pop mt_popAt (pv 2) (pa_cons (pe_call G_lawAny (hr.mono (by decide)) (by rfl) D_lawAny.g D_lawAny.F.kp D_lawAny.b .nil pass0 (pa_cons (pv 0) (pa_cons (pe_callB call_len (by rfl) B.len bt_len (pa_cons (pv 2) pa_nil)) pa_nil))) pa_nil)) pa_nil)))))
  (pss_one (ps_ret (pv 3))))), ?_⟩
    -- left, found = list(some), []
    refine ⟨.ref a, rfl, a, xs, rfl, .inl (SqL.of ha), fun l nl => ⟨Nat.zero_le _, fun o no => ⟨_, _, rfl, ?_⟩⟩⟩
    have lo : l ≠ o := ne_of_none upd_same no
    let Pv : L2.St → Hp → Prop := fun σ H' => σ = [some dv, some (.ref a), some (.ref l), some (.ref o)] ∧ Ex H H' ∧ ∃ ls os : List V, H' l = some (.lst ls) ∧ H' o = some (.lst os) ∧ (os ++ ls).Perm xs
    refine ⟨fun σ H' => σ = [some dv, some (.ref a), some (.ref l), some (.ref o)] ∧ Ex H H' ∧ ∃ os : List V, H' o = some (.lst os) ∧ os.Perm xs, whileP Pv (fun σ H' => match H' l with | some (.lst xs) => xs.length | _ => 0) ?_ ?_, ?_⟩
    · exact ⟨rfl, (Ex.new nl).trans (Ex.new no), xs, [], by rw [upd_ne lo, upd_same], upd_same, List.Perm.refl _⟩
    · rintro σ H1 ⟨rfl, e1, ls, os, h1, h2, pm⟩
      have hln := pm.length_eq
      rw [List.length_append] at hln
      have dls : AllD K H1 ls := fun v hv => (hD.up e1) v (pm.mem_iff.mp (List.mem_append_right _ hv))
      refine ⟨.ref l, rfl, Nat.zero_le _, fun p np => ?_⟩
      have e2 : Ex H1 (upd H1 p (.lst [])) := Ex.new np
      refine neNil (SqL.of (e2 _ _ h1)) (dls.up e2) upd_same ⟨_, rfl, ifE (fun c => ?_) (fun c => ?_)⟩
      · -- found.append(left.pop(any(deal, len(left))))
        refine whileN Pv _ ?_
        have hne : ls ≠ [] := by intro z; subst z; simp at c
        have hx : 0 < ls.length := by cases ls with | nil => exact absurd rfl hne | cons _ _ => simp
        refine ⟨.ref o, rfl, .inl ⟨rfl, _, SqL.of (e2 _ _ h2)⟩, .ref l, rfl, .inl ⟨rfl, _, SqL.of (e2 _ _ h1)⟩, dv, rfl, .ref l, rfl, _, ls.length, rfl, .inl ⟨ls, SqL.of (e2 _ _ h1), rfl⟩, ?_⟩
        refine ⟨dv, ls.length, rfl, (hd.up e1).up e2, by omega, by omega, fun k H2 e3 k0 k1 => ?_⟩
        have hk : k.toNat < ls.length := by omega
        have f1 := e3 _ _ (e2 _ _ h1)
        have f2 := e3 _ _ (e2 _ _ h2)
        have hy : ls[k.toNat]? = some ls[k.toNat] := List.getElem?_eq_getElem hk
        refine ⟨l, ls, k, k.toNat, _, rfl, rfl, f1, by omega, by omega, ?_, hy, ?_⟩
        · unfold seqIndex?
          simp
          omega
        refine ⟨o, os, _, rfl, rfl, by rw [upd_ne lo.symm]; exact f2, Nat.lt_of_lt_of_le (by omega : os.length < 100001) (by decide), ⟨rfl, ?_, ls.eraseIdx k.toNat, os ++ [ls[k.toNat]], by rw [upd_ne lo, upd_same], upd_same, ?_⟩, ?_⟩
        · exact ((((e1.trans e2).trans e3).mut nl).mut (by
            cases hh : H o with
            | none => rfl
            | some u => rw [Ex.new nl o u hh] at no; cases no))
        · rw [List.append_assoc]
          exact (List.Perm.append_left _ (perm_erase hy).symm).trans pm
        · rw [upd_ne lo, upd_same, h1]
          show (ls.eraseIdx k.toNat).length < ls.length
          rw [List.length_eraseIdx_of_lt hk]; omega
      · have hnil : ls = [] := by cases ls with | nil => rfl | cons _ _ => simp at c
        subst hnil
        rw [List.append_nil] at pm
        exact ⟨rfl, e1.trans e2, os, e2 _ _ h2, pm⟩
    · rintro σ H1 ⟨rfl, e1, os, h2, pm⟩
      refine ⟨.ref o, rfl, q o os H1 ?_ e1 h2 pm⟩
      cases hh : H o with
      | none => rfl
      | some u => rw [Ex.new nl o u hh] at no; cases no
end
end Bp

set_option Elab.async false
set_option linter.all false
set_option maxRecDepth 100000
set_option maxHeartbeats 4000000
namespace Bp
open PySem PySem.Spec PyProof.Rows L2 Evl
/-! ### the layer's rules with the written part named (for use within comprehensions) -/
section
variable {X : Cx} {K : PySem.W.Frag}
theorem room65 {k : Nat} {A : Around} (r : Room k A) : A.units + 65 < cLine := by have := r.un; omega
theorem ixLk (h : X.K = K := by rfl) : IxR X (rIxL K) := h ▸ ix_list
theorem ixTk (h : X.K = K := by rfl) : IxR X (rIxT K) := h ▸ ix_tup
theorem slLk (h : X.K = K := by rfl) : SlR X (rSlL K) := h ▸ sl_list
theorem slTk (h : X.K = K := by rfl) : SlR X (rSlA K) := h ▸ sl_tupA
theorem catTk (h : X.K = K := by rfl) : OpR X (binaryOp .Add) (rCatA K) := h ▸ op_catA
theorem inSk (h : X.K = K := by rfl) : OpR X (compareOp .In) (rIn K false) := h ▸ op_in_seq
theorem ninSk (h : X.K = K := by rfl) : OpR X (compareOp .NotIn) (rIn K true) := h ▸ op_notIn_seq
theorem eqDk (hu : X.A.units + 64 < cLine) (h : X.K = K := by rfl) : OpR X (compareOp .Eq) (rEqD K) := h ▸ op_eqD hu
theorem neDk (hu : X.A.units + 64 < cLine) (h : X.K = K := by rfl) : OpR X (compareOp .NotEq) (rNeD K) := h ▸ op_neD hu
theorem inDk (hu : X.A.units + 65 < cLine) (h : X.K = K := by rfl) : OpR X (compareOp .In) (rInD K) := h ▸ op_inD hu
theorem ninDk (hu : X.A.units + 65 < cLine) (h : X.K = K := by rfl) : OpR X (compareOp .NotIn) (rNotInD K) := h ▸ op_notInD hu
theorem piLk {tg l : Expr} {tl : TE} (hl : PE X l tl) (h : X.K = K := by rfl) : PI X tg l (iList K tl) := h ▸ pi_list hl
theorem piTk {tg l : Expr} {tl : TE} (hl : PE X l tl) (h : X.K = K := by rfl) : PI X tg l (iTup K tl) := h ▸ pi_tup hl
theorem pgTk {es : List Expr} {k : Nat} {pos : Pos} {t : TGs} {n : Nat} (hc : X.calm = true) (q : PGs X es t) (hn : (assignEach es X.env).length = n := by rfl) (hst : (assignEach es X.env).findIdx? (·.1) = none := by rfl) (h : X.K = K := by rfl) : PG X (.Tuple es k pos) (gTup K n t) := h ▸ pg_tup hc q hn hst
def rLenK (K : PySem.W.Frag) : List V → Hp → VK → Prop := fun xs H Q => ∃ x n, xs = [x] ∧ LenV K x H n ∧ Q (.int n) H
theorem lenk (h : X.K = K := by rfl) : CallR X (.builtin "len") (rLenK K) := h ▸ call_len
def rTupOf (K : PySem.W.Frag) : List V → Hp → VK → Prop := fun xs H Q => ∃ p ys, xs = [.ref p] ∧ ((SqL K H p ys ∧ ∀ l, H l = none → Q (.ref l) (upd H l (.tup ys))) ∨ (SqT K H p ys ∧ Q (.ref p) H))
theorem tupOfk (h : X.K = K := by rfl) : CallR X (.type "tuple") (rTupOf K) := h ▸ call_tuple_of
def rLstOf (K : PySem.W.Frag) : List V → Hp → VK → Prop := fun xs H Q => ∃ p ys, xs = [.ref p] ∧ (SqL K H p ys ∨ SqT K H p ys) ∧ ∀ l, H l = none → Q (.ref l) (upd H l (.lst ys))
theorem lstOfk (h : X.K = K := by rfl) : CallR X (.type "list") (rLstOf K) := h ▸ call_list_of
theorem sumk (hc : X.calm = true) (h : X.K = K := by rfl) : CallR X (.builtin "sum") (rSum K) := h ▸ cr_sum hc
theorem anyk (hc : X.calm = true) (h : X.K = K := by rfl) : CallR X (.builtin "any") (rAny K) := h ▸ cr_any hc
theorem allk (hc : X.calm = true) (h : X.K = K := by rfl) : CallR X (.builtin "all") (rAll K) := h ▸ cr_all hc
theorem isik (h : X.K = K := by rfl) : CallR X (.builtin "isinstance") (rIsi K) := h ▸ call_isi
theorem isiTk (h : X.K = K := by rfl) : CallR X (.builtin "isinstance") (rIsiT K) := h ▸ call_isiT
theorem enumk {e : Expr} {ta : TA} {p pos tpos : Pos} {elts : List Expr} {kk : Nat} (hg : Gl X "enumerate") (hm : X.mg "enumerate" = none) (ha : PA X [e] ta) (hs : starEach [e] X.env = [(false, eval e X.env)] := by rfl) (h : X.K = K := by rfl) :
    PI X (.Tuple elts kk tpos) (.Call (.Name "enumerate" p) [e] [] pos) (iEnum K ta) := h ▸ pi_enum hg hm ha hs
theorem revk {e : Expr} {te : TE} {k : Nat} {p1 p2 p3 pos : Pos} (he : PE X e te) (h : X.K = K := by rfl) : PE X (.Subscript e (.Slice none none (some (.UnaryOp .USub (.Constant (.int 1) k p1) p2)) p3) pos) (tRevL K te) := h ▸ pe_revL he
theorem fldk {e : Expr} {f : Str} {pos : Pos} {ta : TE} (he : PE X e ta) (hb : attributeBase e f X.env (eval e X.env) = eval e X.env := by rfl) (h : X.K = K := by rfl) : PE X (.Attribute e f pos) (tFld K ta f) := h ▸ pe_fld he hb
/-- the list methods that are used: append, pop -/
theorem appk {o e : Expr} {to : TE} {t : TA} {apos cpos : Pos} (ho : PE X o to) (ha : PA X [e] t) (hbase : attributeBase o "append" X.env (eval o X.env) = eval o X.env := by rfl)
    (hfew : ((backTo cpos (starEach [e] X.env)).all (fun x => !x.1) && (backToKw cpos (keywordEach [] X.env)).all (fun x => x.1.isSome) && decide ([e].length + ([] : List Keyword).length + (if ([] : List Keyword).isEmpty then 0 else 1) < 30)) = true := by rfl)
    (hline : (apos.endLine == cpos.line) = true := by rfl) (hs : starEach [e] X.env = (false, eval e X.env) :: starEach [] X.env := by rfl) (hplain : (backTo cpos (starEach [] X.env)).any (·.1) = false := by rfl) (h : X.K = K := by rfl) :
    PE X (.Call (.Attribute o "append" apos) [e] [] cpos) (tBM K "list" rAppend to t) := h ▸ pe_bm PySem.F.plainAttrs_list PySem.F.slot_list_append PySem.F.type_list_append mt_append ho ha hbase hfew hline hs hplain
theorem popk {o : Expr} {to : TE} {apos cpos : Pos} (ho : PE X o to) (hbase : attributeBase o "pop" X.env (eval o X.env) = eval o X.env := by rfl) (hline : (apos.endLine == cpos.line) = true := by rfl) (h : X.K = K := by rfl) :
    PE X (.Call (.Attribute o "pop" apos) [] [] cpos) (tBM0 K "list" rPop to) := h ▸ pe_bm0 PySem.F.plainAttrs_list PySem.F.slot_list_pop PySem.F.type_list_pop mt_pop ho hbase hline
theorem popAtk {o e : Expr} {to : TE} {t : TA} {apos cpos : Pos} (ho : PE X o to) (ha : PA X [e] t) (hbase : attributeBase o "pop" X.env (eval o X.env) = eval o X.env := by rfl)
    (hfew : ((backTo cpos (starEach [e] X.env)).all (fun x => !x.1) && (backToKw cpos (keywordEach [] X.env)).all (fun x => x.1.isSome) && decide ([e].length + ([] : List Keyword).length + (if ([] : List Keyword).isEmpty then 0 else 1) < 30)) = true := by rfl)
    (hline : (apos.endLine == cpos.line) = true := by rfl) (hs : starEach [e] X.env = (false, eval e X.env) :: starEach [] X.env := by rfl) (hplain : (backTo cpos (starEach [] X.env)).any (·.1) = false := by rfl) (h : X.K = K := by rfl) :
    PE X (.Call (.Attribute o "pop" apos) [e] [] cpos) (tBM K "list" rPopAt to t) := h ▸ pe_bm PySem.F.plainAttrs_list PySem.F.slot_list_pop PySem.F.type_list_pop mt_popAt ho ha hbase hfew hline hs hplain
theorem lck {elt tg iter : Expr} {ifs : List Expr} {scope : Scope} {own : List (Str × Nat)} {pos : Pos} {wi : TI} {g : TG} {tt : TT} {te : TE} (hc : X.calm = true) (hN : X.N.Nodup) (ok : blkC X.N X.env.scope scope own = true) (hi : PI X tg iter wi)
    (hg : ∀ (s : Shared) (H : Hp) (C : Addr) (cl : List (Str × Addr)) (fp : List Addr), PG (X.blk s H scope (compEnvC scope cl C X.env) fp) tg g) (ht : ∀ (s : Shared) (H : Hp) (C : Addr) (cl : List (Str × Addr)) (fp : List Addr), PTs (X.blk s H scope (compEnvC scope cl C X.env) fp) ifs tt)
    (he : ∀ (s : Shared) (H : Hp) (C : Addr) (cl : List (Str × Addr)) (fp : List Addr), PE (X.blk s H scope (compEnvC scope cl C X.env) fp) elt te) (hs : ∀ x, foldedSetIterable iter X.env x = pure x := by intro _; rfl) :
    PE X (.ListComp elt [⟨tg, iter, ifs, 0⟩] scope pos) (tLc wi g tt te (own.map (·.2))) := pe_lc hc hN hi (blkOk_by ok) hg ht he hs
end
end Bp

set_option Elab.async false
set_option linter.all false
set_option maxRecDepth 100000
set_option maxHeartbeats 4000000
namespace Bp
open PySem PySem.Spec PyProof.Rows L2 Evl
abbrev s_lawAll : Stmt := topS 39
abbrev N_lawAll : List Str := ["_law_sizes_here", "_law_found", "_law_size", "_law_longer", "_law_row", "_law_value"]
theorem sc_lawAll : FnScope N_lawAll ["_law_sizes_here"] (defScope s_lawAll) := ⟨rfl, rfl, rfl, by decide +kernel, rfl, by decide +kernel, by decide +kernel⟩
/-- all rows of the sizes, in a new list -/
def spAll : Sp := fun vs H Q _ => ∃ (a : Addr) (sz : List Int), vs = [.ref a] ∧ H a = some (.lst (sz.map V.int)) ∧ SzOk sz ∧ ∀ p ys H', H p = none → Ex H H' → H' p = some (.lst ys) → RowsOf H' ys (allRows sz) → Q (.ref p) H'
theorem growTake {acc : List Row} {n : Int} {j : Nat} {r : Row} (h : acc[j]? = some r) : grow (acc.take (j + 1)) n = grow (acc.take j) n ++ grow1 r n := by
  unfold grow
  rw [take_snoc h, List.flatMap_append]
  simp
theorem intsAt {ns : List Int} {i : Nat} {x : V} (h : (ns.map V.int)[i]? = some x) : ∃ n, ns[i]? = some n ∧ x = .int n := by
  rw [List.getElem?_map] at h
  cases e : ns[i]? with
  | none => rw [e] at h; cases h
  | some n => rw [e] at h; exact ⟨n, rfl, (Option.some.inj h).symm⟩
/-- what is fresh behind an extension was fresh ahead of it -/
theorem freshEx {H H' : Hp} {p : Addr} (e : Ex H H') (h : H' p = none) : H p = none := by
  cases hh : H p with
  | none => rfl
  | some u => rw [e p u hh] at h; cases h
section
variable {P : Program} {w : World} {K : PySem.W.Frag} {mg : Str → Option Value} {base : Heap}
theorem ok_lawAll {f : Addr} {fd : FuncData} (F : Fun K "_law_all" "_law_all" s_lawAll f fd) (B : Blt mg) : FnOk P w K mg base CX0 1 f fd ["_law_sizes_here"] spAll := by
  refine F.ok sc_lawAll (fun vs H Q E h => ?_) (fun cdv A outer s H vs Q E hr h => ?_)
  · obtain ⟨a, sz, rfl, _⟩ := h
    rfl
  · obtain ⟨a, sz, rfl, ha, ok, q⟩ := h
    refine ⟨_, (pss_cons (ps_set (i := 1) sc_lawAll.nd rfl (.inl rfl) (pe_lst (pa_cons (pe_tup pa_nil) pa_nil)))
  (pss_cons (ps_for PassesOwn.never  rfl (piLk (K := K) (pv 0)) (pg_name (i := 2) sc_lawAll.nd rfl (Or.inl rfl))
    (pss_cons (ps_set (i := 3) sc_lawAll.nd rfl (.inl rfl) (pe_lst pa_nil))
  (pss_cons (ps_for PassesOwn.never  rfl (piLk (K := K) (pv 1)) (pg_name (i := 4) sc_lawAll.nd rfl (Or.inr rfl))
    (pss_one (ps_set (i := 3) sc_lawAll.nd rfl (.inl rfl) (pe_op op_cat (pv 3) (lck (own := [("_law_value", 5)]) rfl sc_lawAll.nd (show blkC N_lawAll (defScope s_lawAll) _ _ = true by decide +kernel) (pi_range1 (by rfl) B.range (pa_cons (pv 2) pa_nil)) (fun _ _ _ _ _ => (pg_name (i := 5) sc_lawAll.nd rfl (Or.inl rfl))) (fun _ _ _ _ _ => pts_nil) (fun _ _ _ _ _ => (pe_op (catTk (K := K)) (pv 4) (pe_tup (pa_cons (pv 5) pa_nil)))))))))
  (pss_one (ps_set (i := 1) sc_lawAll.nd rfl (.inl rfl) (pv 3))))))
  (pss_one (ps_ret (pv 1))))), ?_⟩
    -- found = [()]
    refine ⟨Nat.zero_le _, fun t nt => ⟨by show 1 ≤ sizeLine; decide, fun o no => ?_⟩⟩
    have e0 : Ex H (upd (upd H t (.tup [])) o (.lst [.ref t])) := (Ex.new nt).trans (Ex.new no)
    refine ⟨.ref a, rfl, a, rfl, ⟨_, SqL.of (e0 _ _ ha)⟩, for_list (K := K) (a := a) (xs := sz.map V.int)
      (fun i σ H' => ∃ o v2 v3 v4 ys, σ = [some (.ref a), some (.ref o), v2, v3, v4, none] ∧ Ex H H' ∧ H o = none ∧ H' o = some (.lst ys) ∧ RowsOf H' ys (allRows (sz.take i))) ?_ ?_ ?_ ?_⟩
    · exact ⟨o, none, none, none, _, rfl, e0, freshEx (Ex.new nt) no, upd_same, .cons ⟨t, rfl, by rw [upd_ne (ne_of_none upd_same no)]; exact upd_same⟩ .nil⟩
    · rintro i σ H' _ ⟨_, _, _, _, _, _, e, _⟩
      exact SqL.of (e _ _ ha)
    · rintro i x σ H1 hx ⟨o, v2, v3, v4, ys, rfl, e1, no1, ho, ry⟩
      obtain ⟨n, hn, rfl⟩ := intsAt hx
      have hn4 := ok.each n (List.mem_of_getElem? hn)
      have hlen : ys.length ≤ 6 := by rw [ry.length]; exact ok.rows_take i
      -- longer = []
      refine ⟨Nat.zero_le _, fun l nl => ?_⟩
      have el : Ex H1 (upd H1 l (.lst [])) := Ex.new nl
      refine ⟨.ref o, rfl, o, rfl, ⟨_, SqL.of (el _ _ ho)⟩, for_list (K := K) (a := o) (xs := ys)
        (fun j σ H' => ∃ l v4 zs, σ = [some (.ref a), some (.ref o), some (.int n), some (.ref l), v4, none] ∧ Ex H1 H' ∧ H1 l = none ∧ H' l = some (.lst zs) ∧ RowsOf H' zs (grow ((allRows (sz.take i)).take j) n)) ?_ ?_ ?_ ?_⟩
      · exact ⟨l, v4, [], rfl, el, nl, upd_same, by simp [grow]; exact .nil⟩
      · rintro j σ H' _ ⟨_, _, _, _, e, _⟩
        exact SqL.of (e _ _ ho)
      · rintro j x σ H2 hx2 ⟨l, v4, zs, rfl, e2, nl2, hl2, rz⟩
        obtain ⟨r, hr1, hr2⟩ := pairedGet ry hx2
        have hzs : zs.length ≤ 24 := by
          rw [rz.length, grow_length]
          have h1 : ((allRows (sz.take i)).take j).length ≤ 6 := by rw [List.length_take]; exact Nat.le_trans (Nat.min_le_right _ _) (ok.rows_take i)
          have h2 : n.toNat ≤ 4 := by omega
          exact Nat.le_trans (Nat.mul_le_mul h1 h2) (by decide)
        have hr3 := hr2.up e2
        obtain ⟨ta, rfl, hta⟩ := hr3
        -- longer = longer + [row + (value,) for value in range(size)]
        refine ⟨.ref l, rfl, .int n, rfl, n, rfl, by omega, by omega, fun D nD => ?_⟩
        refine lcR (n := n.toNat) (fun v acc H' => RowsOf H' acc ((List.range v).map fun (v : Nat) => r ++ [(v : Int)])) nD (fun v acc H' D l' o' _ _ hD h => h.wr hD) (by simp; exact .nil) (fun H' _ _ => by simp; exact .nil) (by omega) ?_ ?_
        · intro v hv acc H3 Cy Cn e3 rac cy _
          refine ⟨rfl, tYesE ?_⟩
          refine ⟨.ref ta, rfl, .int ((0 : Int) + v), rfl, (by show 1 ≤ sizeLine; decide), fun u nu => ?_⟩
          have e4 : Ex H3 (upd H3 u (.tup [.int ((0 : Int) + v)])) := Ex.new nu
          have hta4 := e4 _ _ (e3 _ _ hta)
          have fin : ∀ p H4, Ex H3 H4 → H4 p = some (.tup ((r ++ [(v : Int)]).map V.int)) → Cy (.ref p) H4 := fun p H4 e hp => cy _ _ e (by
            show RowsOf H4 (acc ++ [.ref p]) ((List.range (v + 1)).map fun (v : Nat) => r ++ [(v : Int)])
            rw [List.range_succ, List.map_append]
            exact (rac.up e).snoc ⟨p, rfl, hp⟩)
          refine ⟨ta, u, _, _, rfl, rfl, SqT.of hta4, SqT.of upd_same, ?_, fun h0 => ?_, fun _ z => (by cases z), fun _ _ p np => ?_⟩
          · have hrl : r.length ≤ 4 := by
              have := (mem_allRows _ r).mp (List.mem_of_getElem? hr1)
              have := this.len
              rw [this]
              rw [List.length_take]; exact Nat.le_trans (Nat.min_le_right _ _) ok.len
            rw [List.length_map]
            show r.length + 1 ≤ sizeLine
            exact Nat.le_trans (by omega : r.length + 1 ≤ 100000) (by decide)
          · have hr0 : r = [] := by simpa using h0
            subst hr0
            exact fin u _ e4 (by rw [upd_same]; simp)
          · refine fin p _ (e4.trans (Ex.new np)) (by rw [upd_same]; simp)
        · intro acc H3 e3 hD rac hacc
          refine ⟨l, D, zs, acc, rfl, rfl, e3 _ _ hl2, hD, Nat.le_trans (by omega : zs.length + acc.length ≤ 100000) (by decide), fun p np => ?_⟩
          refine ⟨p, _, _, rfl, (e2.trans e3).trans (Ex.new np), freshEx (e2.trans e3) np, upd_same, ?_⟩
          rw [growTake hr1]
          exact pairedApp ((rz.up e3).up (Ex.new np)) (rac.up (Ex.new np))
      · rintro σ H2 ⟨l, v4, zs, rfl, e2, nl2, hl2, rz⟩
        refine ⟨.ref l, rfl, l, _, _, _, zs, rfl, e1.trans e2, freshEx e1 nl2, hl2, ?_⟩
        rw [take_snoc hn, allRows_snoc]
        rw [show ys.length = (allRows (sz.take i)).length from ry.length, List.take_length] at rz
        exact rz
    · rintro σ H1 ⟨o, v2, v3, v4, ys, rfl, e1, no1, ho, ry⟩
      rw [List.length_map, List.take_length] at ry
      exact ⟨.ref o, rfl, q o ys H1 no1 e1 ho ry⟩
end
end Bp

set_option Elab.async false
set_option linter.all false
set_option maxRecDepth 100000
set_option maxHeartbeats 4000000
namespace Bp
open PySem PySem.Spec PyProof.Rows L2 Evl
abbrev s_lawSizes : Stmt := topS 40
abbrev N_lawSizes : List Str := ["_law_deal", "_law_most", "_law_found", "_law_rows", "_law_turn", "_law_size"]
theorem sc_lawSizes : FnScope N_lawSizes ["_law_deal", "_law_most"] (defScope s_lawSizes) := ⟨rfl, rfl, rfl, by decide +kernel, rfl, by decide +kernel, by decide +kernel⟩
/-- drawn sizes, in a new list -/
def spSizes : Sp := fun vs H Q _ => ∃ (dv : V), vs = [dv, .int 6] ∧ Deal H dv ∧ ∀ p sz H', H p = none → Ex H H' → H' p = some (.lst (sz.map V.int)) → SzOk sz → Q (.ref p) H'
theorem menu7 {x : V} (h : x ∈ ([.int 1, .int 2, .int 2, .int 3, .int 3, .int 3, .int 4] : List V) ∨ x ∈ ([.int 1, .int 2, .int 2, .int 2, .int 3, .int 3, .int 4] : List V)) : ∃ k : Int, x = .int k ∧ 1 ≤ k ∧ k ≤ 4 := by
  rcases h with h | h <;> simp at h <;> rcases h with h | h | h | h <;> exact ⟨_, h, by decide, by decide⟩
section
variable {P : Program} {w : World} {K : PySem.W.Frag} {mg : Str → Option Value} {base : Heap}
theorem ok_lawSizes {f fA : Addr} {fd fdA : FuncData} (F : Fun K "_law_sizes" "_law_sizes" s_lawSizes f fd) (B : Blt mg) (D_lawOf : Dn K mg "_law_of" s_lawOf ["_law_deal", "_law_some"] fA fdA) (G_lawOf : FnOk P w K mg base CX0 2 fA fdA ["_law_deal", "_law_some"] spOf) : FnOk P w K mg base CX0 3 f fd ["_law_deal", "_law_most"] spSizes := by
  refine F.ok sc_lawSizes (fun vs H Q E h => ?_) (fun cdv A outer s H vs Q E hr h => ?_)
  · obtain ⟨dv, rfl, _⟩ := h
    rfl
  · obtain ⟨dv, rfl, hd, q⟩ := h
    refine ⟨_, (pss_cons (ps_par (i := 2) (j := 3) rfl sc_lawSizes.nd rfl rfl (by decide) rfl rfl (pa_cons (pe_lst pa_nil) (pa_cons pe_int pa_nil)) rfl)
  (pss_cons (ps_for PassesOwn.never  rfl (pi_range1 (by rfl) B.range (pa_cons (pe_call G_lawOf (hr.mono (by decide)) (by rfl) D_lawOf.g D_lawOf.F.kp D_lawOf.b .nil pass0 (pa_cons (pv 0) (pa_cons (pe_lst (pa_cons pe_int (pa_cons pe_int (pa_cons pe_int (pa_cons pe_int (pa_cons pe_int (pa_cons pe_int (pa_cons pe_int pa_nil)))))))) pa_nil))) pa_nil)) (pg_name (i := 4) sc_lawSizes.nd rfl (Or.inl rfl))
    (pss_cons (ps_set (i := 5) sc_lawSizes.nd rfl (.inl rfl) (pe_call G_lawOf (hr.mono (by decide)) (by rfl) D_lawOf.g D_lawOf.F.kp D_lawOf.b .nil pass0 (pa_cons (pv 0) (pa_cons (pe_lst (pa_cons pe_int (pa_cons pe_int (pa_cons pe_int (pa_cons pe_int (pa_cons pe_int (pa_cons pe_int (pa_cons pe_int pa_nil)))))))) pa_nil))))
  (pss_one (ps_if (pt_cmpR op_le (pe_op op_mul (pv 3) (pv 5)) (pv 1) (nomark _))
    (pss_cons (ps_expr (appk (K := K) (pv 2) (pa_cons (pv 5) pa_nil)))
  (pss_one (ps_set (i := 3) sc_lawSizes.nd rfl (.inl rfl) (pe_op op_mul (pv 3) (pv 5)))))
    pss_nil))))
  (pss_one (ps_ret (pe_ifExp (pt_cmpR (neDk hr.units (K := K)) (pv 2) (pe_lst pa_nil) (nomark _)) (pv 2) (pe_lst (pa_cons pe_int pa_nil))))))), ?_⟩
    -- found, rows = [], 1
    refine ⟨Nat.zero_le _, fun o no => ⟨_, _, rfl, ?_⟩⟩
    have e0 : Ex H (upd H o (.lst [])) := Ex.new no
    -- range(of(deal, [..]))
    refine ⟨dv, rfl, by show 7 ≤ sizeLine; decide, fun l nl => ?_⟩
    have e1 := Ex.new (o := .lst [.int 1, .int 2, .int 2, .int 3, .int 3, .int 3, .int 4]) nl
    refine ⟨dv, l, _, rfl, (hd.up e0).up e1, upd_same, by simp, by simp, fun x H1 e2 hx => ?_⟩
    obtain ⟨k, rfl, k1, k4⟩ := menu7 (.inl hx)
    refine ⟨k, rfl, by omega, by omega, for_range (n := k.toNat) (fun i σ H' => ∃ v4 v5 ns, σ = [some dv, some (.int 6), some (.ref o), some (.int (prodI ns)), v4, v5] ∧ Ex H H' ∧ H' o = some (.lst (ns.map V.int)) ∧ ns.length ≤ i ∧ (∀ n ∈ ns, 1 ≤ n ∧ n ≤ 4) ∧ prodI ns ≤ 6) ?_ ?_ ?_⟩
    · exact ⟨none, none, [], rfl, (e0.trans e1).trans e2, e2 _ _ (e1 _ _ upd_same), Nat.le_refl _, by simp, by decide⟩
    · rintro i σ H2 hi ⟨v4, v5, ns, rfl, e3, ho, hl, h4, hp⟩
      -- size = of(deal, [..])
      refine ⟨dv, rfl, by show 7 ≤ sizeLine; decide, fun l nl => ?_⟩
      have e4 := Ex.new (o := .lst [.int 1, .int 2, .int 2, .int 2, .int 3, .int 3, .int 4]) nl
      refine ⟨dv, l, _, rfl, (hd.up e3).up e4, upd_same, by simp, by simp, fun x H3 e5 hx => ?_⟩
      obtain ⟨m, rfl, m1, m4⟩ := menu7 (.inr hx)
      have ho3 := e5 _ _ (e4 _ _ ho)
      -- if rows * size <= most
      refine ⟨_, rfl, .int m, rfl, _, m, rfl, rfl, .inl ⟨by omega, by omega⟩, .int 6, rfl, _, _, rfl, rfl, _, rfl, ifE (fun c => ?_) (fun c => ?_)⟩
      · have c' : ((prodI ns : Nat) : Int) * m ≤ 6 := of_decide_eq_true c
        have em : ((prodI (ns ++ [m]) : Nat) : Int) = (prodI ns : Int) * m := by rw [prodI_snoc, Int.natCast_mul, Int.toNat_of_nonneg (by omega)]
        refine ⟨.ref o, rfl, .inl ⟨rfl, _, SqL.of ho3⟩, .int m, rfl, o, _, _, rfl, rfl, ho3, by rw [List.length_map]; exact Nat.lt_of_lt_of_le (by omega : ns.length < 100000) (by decide), ?_⟩
        refine ⟨_, rfl, .int m, rfl, _, m, rfl, rfl, .inl ⟨by omega, by omega⟩, ?_⟩
        refine ⟨_, _, ns ++ [m], by rw [em]; rfl, (((e3.trans e4).trans e5).mut no), by rw [upd_same, List.map_append]; rfl, by simp; omega, fun n hn => ?_, by omega⟩
        rcases List.mem_append.mp hn with hn | hn
        · exact h4 n hn
        · rw [List.mem_singleton.mp hn]; exact ⟨m1, m4⟩
      · exact ⟨_, _, ns, rfl, (e3.trans e4).trans e5, ho3, by omega, h4, hp⟩
    · rintro σ H2 ⟨v4, v5, ns, rfl, e3, ho, hl, h4, hp⟩
      -- return found if found != [] else [2]
      refine ⟨.ref o, rfl, Nat.zero_le _, fun p np => ?_⟩
      have e4 := Ex.new (o := .lst []) np
      refine neNil (SqL.of (e4 _ _ ho)) (ints_data ns) upd_same ⟨_, rfl, ifE (fun c => ?_) (fun c => ?_)⟩
      · have hne : ns ≠ [] := by intro z; subst z; simp at c
        exact ⟨.ref o, rfl, q o ns _ no (e3.trans e4) (e4 _ _ ho) ⟨hne, by omega, h4, hp⟩⟩
      · refine ⟨by show 1 ≤ sizeLine; decide, fun r nr => ?_⟩
        exact q r [2] _ (freshEx (e3.trans e4) nr) ((e3.trans e4).trans (Ex.new nr)) upd_same ⟨by simp, by decide, by simp, by decide⟩
end
end Bp

set_option Elab.async false
set_option linter.all false
set_option maxRecDepth 100000
set_option maxHeartbeats 4000000
namespace Bp
open PySem PySem.Spec PyProof.Rows L2 Evl
abbrev s_lawAgree : Stmt := topS 41
abbrev N_lawAgree : List Str := ["_law_one", "_law_other", "_law_key"]
theorem sc_lawAgree : FnScope N_lawAgree ["_law_one", "_law_other"] (defScope s_lawAgree) := ⟨rfl, rfl, rfl, by decide +kernel, rfl, by decide +kernel, by decide +kernel⟩
/-- the keys on which two rows agree, a new tuple -/
def spAgree : Sp := fun vs H Q _ => ∃ (x y : V) (a b : Row), vs = [x, y] ∧ IntT H x a ∧ IntT H y b ∧ a.length = b.length ∧ a.length ≤ 100 ∧ ∀ v H', Ex H H' → IntT H' v (asInts (agreeK a b)) → Q v H'
theorem rowAt {a : Row} {k : Nat} (h : k < a.length) : ∃ x : Int, a[k]? = some x ∧ atI (a.map V.int) ((0 : Int) + k) = some (.int x) :=
  ⟨a[k], List.getElem?_eq_getElem h, atI_of (j := k) (by omega) (by rw [List.getElem?_map, List.getElem?_eq_getElem h]; rfl)⟩
theorem agree_take {a b : Row} {i : Nat} {x y : Int} (hx : a[i]? = some x) (hy : b[i]? = some y) : (List.range (i + 1)).filter (fun k => a[k]? == b[k]?) = (List.range i).filter (fun k => a[k]? == b[k]?) ++ (if x = y then [i] else []) := by
  rw [List.range_succ, List.filter_append]
  congr 1
  by_cases c : x = y
  · rw [if_pos c]; simp [hx, hy, c]
  · rw [if_neg c]; simp [hx, hy, c]
section
variable {P : Program} {w : World} {K : PySem.W.Frag} {mg : Str → Option Value} {base : Heap}
theorem ok_lawAgree {f : Addr} {fd : FuncData} (F : Fun K "_law_agree" "_law_agree" s_lawAgree f fd) (B : Blt mg) : FnOk P w K mg base CX0 1 f fd ["_law_one", "_law_other"] spAgree := by
  refine F.ok sc_lawAgree (fun vs H Q E h => ?_) (fun cdv A outer s H vs Q E hr h => ?_)
  · obtain ⟨x, y, a, b, rfl, _⟩ := h
    rfl
  · obtain ⟨x, y, a, b, rfl, ⟨xa, rfl, hx⟩, ⟨ya, rfl, hy⟩, hl, h100, q⟩ := h
    refine ⟨_, (pss_one (ps_ret (pe_callTy (tupOfk (K := K)) (by rfl) B.tuple bt_tuple (pa_cons (lck (own := [("_law_key", 2)]) rfl sc_lawAgree.nd (show blkC N_lawAgree (defScope s_lawAgree) _ _ = true by decide +kernel) (pi_range1 (by rfl) B.range (pa_cons (pe_callB (lenk (K := K)) (by rfl) B.len bt_len (pa_cons (pv 0) pa_nil)) pa_nil)) (fun _ _ _ _ _ => (pg_name (i := 2) sc_lawAgree.nd rfl (Or.inl rfl))) (fun _ _ _ _ _ => (pts_one (pt_cmpR op_eq (pe_ix (ixTk (K := K)) (pv 0) (pv 2) (fun _ _ => rfl)) (pe_ix (ixTk (K := K)) (pv 1) (pv 2) (fun _ _ => rfl)) (nomark _)))) (fun _ _ _ _ _ => (pv 2))) pa_nil)))), ?_⟩
    refine ⟨.ref xa, rfl, _, a.length, rfl, .inr ⟨_, SqT.of hx, by rw [List.length_map]⟩, a.length, rfl, by omega, by omega, fun D nD => ?_⟩
    refine lcR (n := ((a.length : Nat) : Int).toNat) (fun i acc _ => acc = (asInts ((List.range i).filter fun k => a[k]? == b[k]?)).map V.int) nD (fun _ _ _ _ _ _ _ _ _ h => h) rfl (fun _ _ h => h) (by omega) ?_ ?_
    · intro i hi acc H1 Cy Cn e1 rac cy cn
      have hi' : i < a.length := by omega
      obtain ⟨u, hu1, hu2⟩ := rowAt hi'
      obtain ⟨v, hv1, hv2⟩ := rowAt (a := b) (k := i) (by omega)
      refine ⟨rfl, .ref xa, rfl, .int ((0 : Int) + i), rfl, xa, _, _, _, rfl, rfl, SqT.of (e1 _ _ hx), hu2, .ref ya, rfl, .int ((0 : Int) + i), rfl, ya, _, _, _, rfl, rfl, SqT.of (e1 _ _ hy), hv2, rfl, _, rfl, ifE (fun c => ?_) (fun c => ?_)⟩
      · refine ⟨.int ((0 : Int) + i), rfl, cy _ _ (Ex.refl _) ?_⟩
        have c' : u = v := by have := of_decide_eq_true c; cases this; rfl
        show acc ++ [_] = _
        rw [rac, agree_take hu1 hv1, if_pos c']
        unfold asInts
        simp
      · refine cn _ (Ex.refl _) ?_
        have c' : u ≠ v := by intro z; subst z; simp at c
        show acc = _
        rw [rac, agree_take hu1 hv1, if_neg c']
        simp
    · intro acc H1 e1 hD rac _
      refine ⟨D, acc, rfl, .inl ⟨SqL.of hD, fun t nt => q _ _ (e1.trans (Ex.new nt)) ⟨t, rfl, ?_⟩⟩⟩
      rw [upd_same, rac]
      have : ((a.length : Nat) : Int).toNat = a.length := by omega
      rw [this]; rfl
end
end Bp

set_option Elab.async false
set_option linter.all false
set_option maxRecDepth 100000
set_option maxHeartbeats 4000000
namespace Bp
open PySem PySem.Spec PyProof.Rows L2 Evl
abbrev s_lawReached : Stmt := topS 42
abbrev N_lawReached : List Str := ["_law_states", "_law_state", "_law_keys", "_law_found", "_law_fresh", "_law_later", "_law_one", "_law_other", "_law_agree_here", "_law_key"]
theorem sc_lawReached : FnScope N_lawReached ["_law_states", "_law_state", "_law_keys"] (defScope s_lawReached) := ⟨rfl, rfl, rfl, by decide +kernel, rfl, by decide +kernel, by decide +kernel⟩
/-- the states joined to a state by single changes of some keys -/
def spReached : Sp := fun vs H Q _ => ∃ (a kl : Addr) (sv : V) (ss : List V) (S : List Row) (ks : List Int) (st : Row) (n : Nat), vs = [.ref a, sv, .ref kl] ∧ H a = some (.lst ss) ∧ RowsOf H ss S ∧ IntT H sv st ∧ H kl = some (.lst (ks.map V.int)) ∧
  (∀ r ∈ S, r.length = n) ∧ st.length = n ∧ n ≤ 100 ∧ S.length ≤ 1000 ∧ ks.length ≤ 1000 ∧ ∀ p ys rs H', H p = none → Ex H H' → H' p = some (.lst ys) → RowsOf H' ys rs → (∀ x, x ∈ rs ↔ Star (RStep S ks) st x) → rs.length ≤ 1001 → Q (.ref p) H'
theorem filterTake {α : Type} (p : α → Bool) {l : List α} {i : Nat} {x : α} (h : l[i]? = some x) : (l.take (i + 1)).filter p = (l.take i).filter p ++ (if p x = true then [x] else []) := by
  rw [take_snoc h, List.filter_append]
  cases c : p x <;> simp [c]
/-- the heap of a round -/
structure RHp (H H' : Hp) (fo ff lo : Addr) (rs0 ls fs : List Row) : Prop where
  ex : Ex H H'
  nfo : H fo = none
  nlo : H lo = none
  ne : fo ≠ lo
  ne2 : ff ≠ lo
  ne3 : ff ≠ fo
  hff : ∃ lv, H' ff = some (.lst lv) ∧ RowsOf H' lv fs
  hfo : ∃ fv lv, H' fo = some (.lst (fv ++ lv)) ∧ H' lo = some (.lst lv) ∧ RowsOf H' fv rs0 ∧ RowsOf H' lv ls
theorem RHp.up {H H1 H2 : Hp} {fo ff lo : Addr} {rs0 ls fs : List Row} (h : RHp H H1 fo ff lo rs0 ls fs) (e : Ex H1 H2) : RHp H H2 fo ff lo rs0 ls fs :=
  let ⟨lv, a1, a2⟩ := h.hff
  let ⟨fv, lv2, b1, b2, b3, b4⟩ := h.hfo
  ⟨h.ex.trans e, h.nfo, h.nlo, h.ne, h.ne2, h.ne3, ⟨lv, e _ _ a1, a2.up e⟩, ⟨fv, lv2, e _ _ b1, e _ _ b2, b3.up e, b4.up e⟩⟩
section
variable {P : Program} {w : World} {K : PySem.W.Frag} {mg : Str → Option Value} {base : Heap}
theorem ok_lawReached {f fA : Addr} {fd fdA : FuncData} (F : Fun K "_law_reached" "_law_reached" s_lawReached f fd) (B : Blt mg) (D_lawAgree : Dn K mg "_law_agree" s_lawAgree ["_law_one", "_law_other"] fA fdA) : FnOk P w K mg base CX0 2 f fd ["_law_states", "_law_state", "_law_keys"] spReached := by
  have G_lawAgree : FnOk P w K mg base CX0 1 fA fdA ["_law_one", "_law_other"] spAgree := ok_lawAgree D_lawAgree.F B
  refine F.ok sc_lawReached (fun vs H Q E h => ?_) (fun cdv A outer s H vs Q E hr h => ?_)
  · obtain ⟨a, kl, sv, ss, S, ks, st, n, rfl, _⟩ := h
    rfl
  · obtain ⟨a, kl, sv, ss, S, ks, st, n, rfl, ha, rS, hst, hk, hn, hsn, n100, S1000, k1000, q⟩ := h
    refine ⟨_, (pss_cons (ps_par (i := 3) (j := 4) rfl sc_lawReached.nd rfl rfl (by decide) rfl rfl (pa_cons (pe_lst (pa_cons (pv 1) pa_nil)) (pa_cons (pe_lst (pa_cons (pv 1) pa_nil)) pa_nil)) rfl)
  (pss_cut (ps_while PassesOwn.never (pt_cmpR (neDk hr.units (K := K)) (pv 4) (pe_lst pa_nil) (nomark _))
    (pss_cons (ps_set (i := 5) sc_lawReached.nd rfl (.inl rfl) (pe_lst pa_nil))
  (pss_cons (ps_for PassesOwn.never  rfl (piLk (K := K) (pv 4)) (pg_name (i := 6) sc_lawReached.nd rfl (Or.inl rfl))
    (pss_one (ps_for PassesOwn.never  rfl (piLk (K := K) (pv 0)) (pg_name (i := 7) sc_lawReached.nd rfl (Or.inl rfl))
    (pss_cons (ps_set (i := 8) sc_lawReached.nd rfl (.inr rfl) (pe_call G_lawAgree (hr.mono (by decide)) (by rfl) D_lawAgree.g D_lawAgree.F.kp D_lawAgree.b .nil pass0 (pa_cons (pv 6) (pa_cons (pv 7) pa_nil))))
  (pss_one (ps_if (PW.pt (pw_and (pt_cmpR op_eq (pe_callB (lenk (K := K)) (by rfl) B.len bt_len (pa_cons (pv 8) pa_nil)) (pe_op op_sub (pe_callB (lenk (K := K)) (by rfl) B.len bt_len (pa_cons (pv 6) pa_nil)) pe_int) (nomark _)) (pw_and1 (pt_cmpR (ninDk (room65 hr) (K := K)) (pv 7) (pv 3) rfl))))
    (pss_one (ps_if (pt_cmpR (neDk hr.units (K := K)) (lck (own := [("_law_key", 9)]) rfl sc_lawReached.nd (show blkC N_lawReached (defScope s_lawReached) _ _ = true by decide +kernel) (piLk (K := K) (pv 2)) (fun _ _ _ _ _ => (pg_name (i := 9) sc_lawReached.nd rfl (Or.inl rfl))) (fun _ _ _ _ _ => (pts_one (pt_cmpR (ninSk (K := K)) (pv 9) (pv 8) rfl))) (fun _ _ _ _ _ => (pv 9))) (pe_lst pa_nil) (nomark _))
    (pss_cons (ps_expr (appk (K := K) (pv 3) (pa_cons (pv 7) pa_nil)))
  (pss_one (ps_expr (appk (K := K) (pv 5) (pa_cons (pv 7) pa_nil)))))
    pss_nil))
    pss_nil))))))
  (pss_one (ps_set (i := 4) sc_lawReached.nd rfl (.inl rfl) (pv 5))))))
  (pss_one (ps_ret (pv 3))))), ?_⟩
    -- found, fresh = [state], [state]
    refine ⟨sv, rfl, (by show 1 ≤ sizeLine; decide), fun fo nfo => ⟨sv, rfl, (by show 1 ≤ sizeLine; decide), fun ff nff => ⟨_, _, rfl, ?_⟩⟩⟩
    have e0 : Ex H (upd (upd H fo (.lst [sv])) ff (.lst [sv])) := (Ex.new nfo).trans (Ex.new nff)
    have ne0 : fo ≠ ff := ne_of_none upd_same nff
    refine ⟨fun σ H' => ∃ fo ff v5 v6 v7 v8 fv rs, σ = [some (.ref a), some sv, some (.ref kl), some (.ref fo), some (.ref ff), v5, v6, v7, v8, none] ∧ Ex H H' ∧ H fo = none ∧ H' fo = some (.lst fv) ∧ RowsOf H' fv rs ∧ WInv S ks st n rs [],
      whileI (fun m σ H' => ∃ fo ff v5 v6 v7 v8 fv rs lv fs, σ = [some (.ref a), some sv, some (.ref kl), some (.ref fo), some (.ref ff), v5, v6, v7, v8, none] ∧ m = wSize S rs fs ∧ Ex H H' ∧ H fo = none ∧ ff ≠ fo ∧ H' fo = some (.lst fv) ∧ RowsOf H' fv rs ∧ H' ff = some (.lst lv) ∧ RowsOf H' lv fs ∧ WInv S ks st n rs fs) (wSize S [st] [st]) ?_ ?_, ?_⟩
    · exact ⟨fo, ff, none, none, none, none, _, [st], _, [st], rfl, rfl, e0, nfo, ne0.symm, Ex.new nff _ _ upd_same, .cons (hst.up e0) .nil, upd_same, .cons (hst.up e0) .nil, WInv.start hsn⟩
    · rintro m σ H1 ⟨fo, ff, v5, v6, v7, v8, fv, rs, lv, fs, rfl, rfl, e1, nfo, ne3, h1, r1, h2, r2, wi⟩
      -- fresh != []
      refine ⟨.ref ff, rfl, Nat.zero_le _, fun p np => ?_⟩
      have e2 := Ex.new (o := .lst []) np
      refine neNil (SqL.of (e2 _ _ h2)) (r2.up e2).data upd_same ⟨_, rfl, ifF (fun c => ?_) (fun c => ?_)⟩
      · have : lv = [] := by cases lv with | nil => rfl | cons _ _ => simp at c
        subst this
        cases r2
        exact ⟨fo, ff, v5, v6, v7, v8, fv, rs, rfl, e1.trans e2, nfo, e2 _ _ h1, r1.up e2, wi⟩
      have hfs : fs ≠ [] := by intro z; subst z; cases r2; simp at c
      refine whileIN _ ?_
      -- later = []
      refine ⟨Nat.zero_le _, fun lo nlo => ?_⟩
      have e3 := e2.trans (Ex.new (o := .lst []) nlo)
      have ffl : (upd (upd H1 p (.lst [])) lo (.lst [])) ff = some (.lst lv) := e3 _ _ h2
      refine ⟨.ref ff, rfl, ff, rfl, ⟨_, SqL.of ffl⟩, for_list (K := K) (a := ff) (xs := lv) (fun i σ H' => ∃ v6 v7 v8 ls, σ = [some (.ref a), some sv, some (.ref kl), some (.ref fo), some (.ref ff), some (.ref lo), v6, v7, v8, none] ∧ RHp H H' fo ff lo rs ls fs ∧ H' ff = some (.lst lv) ∧ RInv S ks st n rs ls ∧ ∀ x ∈ fs.take i, ∀ b ∈ S, AdjK ks x b → b ∈ rs ++ ls) ?_ ?_ ?_ ?_⟩
      · refine ⟨v6, v7, v8, [], rfl, ⟨e1.trans e3, nfo, freshEx (e1.trans e2) nlo, ne_of_none (e2 _ _ h1) nlo, ne_of_none (e2 _ _ h2) nlo, ne3, ⟨lv, ffl, r2.up e3⟩, ⟨fv, [], by rw [List.append_nil]; exact e3 _ _ h1, upd_same, r1.up e3, .nil⟩⟩, ffl, wi.r, by simp⟩
      · rintro i σ H' _ ⟨_, _, _, _, _, _, h, _⟩
        exact SqL.of h
      · rintro i x σ H2 hx ⟨v6, v7, v8, ls, rfl, rh, hff, ri, dn⟩
        obtain ⟨lv', q1, q2⟩ := rh.hff
        rw [hff] at q1
        cases q1
        obtain ⟨fr, hfr, hxf⟩ := pairedGet q2 hx
        have hfrs : fr ∈ rs := wi.sub fr (List.mem_of_getElem? hfr)
        have lfr : fr.length = n := ri.len fr (List.mem_append_left _ hfrs)
        have ha2 := rh.ex _ _ ha
        refine ⟨.ref a, rfl, a, rfl, ⟨_, SqL.of ha2⟩, for_list (K := K) (a := a) (xs := ss) (fun j σ H' => ∃ v7 v8 ls, σ = [some (.ref a), some sv, some (.ref kl), some (.ref fo), some (.ref ff), some (.ref lo), some x, v7, v8, none] ∧ Ex H H' ∧ IntT H' x fr ∧ RHp H H' fo ff lo rs ls fs ∧ H' ff = some (.lst lv) ∧ RInv S ks st n rs ls ∧ (∀ x ∈ fs.take i, ∀ b ∈ S, AdjK ks x b → b ∈ rs ++ ls) ∧ ∀ b ∈ S.take j, AdjK ks fr b → b ∈ rs ++ ls) ?_ ?_ ?_ ?_⟩
        · exact ⟨v7, v8, ls, rfl, rh.ex, hxf, rh, hff, ri, dn, by simp⟩
        · rintro j σ H' _ ⟨_, _, _, _, e, _⟩
          exact SqL.of (e _ _ ha)
        · rintro j y σ H3 hy ⟨v7, v8, ls, rfl, e3, hxf, rh, hff, ri, dn, dj⟩
          obtain ⟨b, hb, hyb⟩ := pairedGet rS hy
          have hbS := List.mem_of_getElem? hb
          have lb := hn b hbS
          have hyb3 := hyb.up e3
          have step : ∀ (P : Prop), (AdjK ks fr b → b ∈ rs ++ ls) → (∀ c ∈ S.take (j + 1), AdjK ks fr c → c ∈ rs ++ ls) := by
            intro _ h c hc
            rw [take_snoc hb] at hc
            rcases List.mem_append.mp hc with hc | hc
            · exact dj c hc
            · rw [List.mem_singleton.mp hc]; exact h
          -- agree_here = agree(one, other)
          refine ⟨x, rfl, y, rfl, x, y, fr, b, rfl, hxf, hyb3, by rw [lfr, lb], by omega, fun ag H4 e4 hag => ?_⟩
          have rh4 := rh.up e4
          have hxf4 := hxf.up e4
          have hyb4 := hyb3.up e4
          have hff4 := e4 _ _ hff
          obtain ⟨xa, rfl, hxa⟩ := hxf4
          obtain ⟨aa, rfl, haa⟩ := hag
          have hlen : ((asInts (agreeK fr b)).map V.int).length = (agreeK fr b).length := by unfold asInts; simp
          -- if len(agree_here) == len(one) - 1
          refine ⟨.ref aa, rfl, _, (agreeK fr b).length, rfl, .inr ⟨_, SqT.of haa, hlen.symm⟩, .ref xa, rfl, _, fr.length, rfl, .inr ⟨_, SqT.of hxa, by simp⟩, _, _, rfl, rfl, rfl, _, rfl, ifF (fun c => ?_) (fun c => ?_)⟩
          · refine ⟨_, _, ls, rfl, e3.trans e4, ⟨xa, rfl, hxa⟩, rh4, hff4, ri, dn, step True fun h => absurd h.1 ?_⟩
            intro h
            refine absurd c ?_
            simp
            omega
          have hadj : (agreeK fr b).length + 1 = fr.length := by
            have := of_decide_eq_true c
            have : (((agreeK fr b).length : Nat) : Int) = (fr.length : Int) - 1 := V.int.inj this
            omega
          -- .. and other not in found
          obtain ⟨fv, lv2, b1, b2, b3, b4⟩ := rh4.hfo
          refine ⟨y, rfl, .ref fo, rfl, rowD b, (rs ++ ls).map rowD, hyb4.dp, .lst (SqL.of b1) (RowsOf.dp (pairedApp b3 b4)), shapedRow _, shapedRowsL _, _, rfl, ifF (fun c2 => ?_) (fun c2 => ?_)⟩
          · rw [inRows] at c2
            have hin : b ∈ rs ++ ls := by
              cases h : decide (b ∈ rs ++ ls) with
              | true => exact of_decide_eq_true h
              | false => rw [h] at c2; cases c2
            exact ⟨_, _, ls, rfl, e3.trans e4, ⟨xa, rfl, hxa⟩, rh4, hff4, ri, dn, step True fun _ => hin⟩
          rw [inRows] at c2
          have hnin : b ∉ rs ++ ls := by
            cases h : decide (b ∈ rs ++ ls) with
            | false => exact of_decide_eq_false h
            | true => rw [h] at c2; cases c2
          -- if [key for key in keys if key not in agree_here] != []
          have hk4 := (e3.trans e4) _ _ hk
          refine ⟨.ref kl, rfl, kl, rfl, ⟨_, SqL.of hk4⟩, fun D nD => ?_⟩
          refine lcL (xs := ks.map V.int) (fun i acc _ => acc = ((ks.take i).filter fun k => decide (k ∉ asInts (agreeK fr b))).map V.int) nD (fun _ _ _ _ _ _ _ _ _ h => h) rfl (fun _ _ h => h) (SqL.of hk4) (by simp; omega) ?_ ?_
          · intro i x hx acc H5 Cy Cn e5 rac cy cn
            obtain ⟨k, hk5, rfl⟩ := intsAt hx
            refine ⟨rfl, .int k, rfl, .ref aa, rfl, aa, _, rfl, .inr (SqT.of (e5 _ _ haa)), rfl, flatInts _, _, rfl, ifE (fun c3 => ?_) (fun c3 => ?_)⟩
            · refine ⟨.int k, rfl, cy _ _ (Ex.refl _) ?_⟩
              show acc ++ [_] = _
              have c4 : k ∉ asInts (agreeK fr b) := by
                have : (!inV (.int k) ((asInts (agreeK fr b)).map V.int)) = true := c3
                rw [inInts] at this; simpa using this
              rw [rac, filterTake _ hk5, if_pos (decide_eq_true c4), List.map_append]
              rfl
            · refine cn _ (Ex.refl _) ?_
              show acc = _
              have c4 : k ∈ asInts (agreeK fr b) := by
                have : (!inV (.int k) ((asInts (agreeK fr b)).map V.int)) = false := c3
                rw [inInts] at this; simpa using this
              rw [rac, filterTake _ hk5, if_neg (by simpa using c4), List.append_nil]
          · intro acc H5 e5 hD rac _
            rw [List.length_map, List.take_length] at rac
            refine ⟨Nat.zero_le _, fun p np => ?_⟩
            have e6 := e5.trans (Ex.new (o := .lst []) np)
            have hDl := Ex.new (o := .lst []) np _ _ hD
            have dac : AllD K (upd H5 p (.lst [])) acc := by rw [rac]; exact ints_data _
            refine neNil (SqL.of hDl) dac upd_same ⟨_, rfl, ifF (fun c3 => ?_) (fun c3 => ?_)⟩
            · have hnil : acc = [] := by cases acc with | nil => rfl | cons _ _ => simp at c3
              refine ⟨_, _, ls, rfl, (e3.trans e4).trans e6, ⟨xa, rfl, e6 _ _ hxa⟩, rh4.up e6, e6 _ _ hff4, ri, dn, step True fun h => ?_⟩
              exfalso
              obtain ⟨k, hk6, hk7⟩ := h.2
              have : k ∈ ks.filter fun k => decide (k ∉ asInts (agreeK fr b)) := List.mem_filter.mpr ⟨hk6, decide_eq_true hk7⟩
              rw [hnil] at rac
              have e7 : (ks.filter fun k => decide (k ∉ asInts (agreeK fr b))) = [] := List.map_eq_nil_iff.mp rac.symm
              rw [e7] at this
              simp at this
            have hadjK : AdjK ks fr b := by
              refine ⟨hadj, ?_⟩
              cases e7 : (ks.filter fun k => decide (k ∉ asInts (agreeK fr b))) with
              | nil => rw [e7] at rac; rw [rac] at c3; simp at c3
              | cons k r =>
                have : k ∈ ks.filter fun k => decide (k ∉ asInts (agreeK fr b)) := by rw [e7]; exact List.mem_cons_self
                rw [List.mem_filter] at this
                exact ⟨k, this.1, of_decide_eq_true this.2⟩
            -- found.append(other); later.append(other)
            have rh6 := rh4.up e6
            have hyb6 := hyb4.up e6
            obtain ⟨fv, lv2, b1, b2, b3, b4⟩ := rh6.hfo
            have hb := ri.bound
            rw [List.length_append] at hb
            have hfl : (fv ++ lv2).length ≤ 1001 := by
              rw [List.length_append, b3.length, b4.length]
              omega
            refine ⟨.ref fo, rfl, .inl ⟨rfl, _, SqL.of b1⟩, y, rfl, fo, _, _, rfl, rfl, b1, Nat.lt_of_le_of_lt hfl (by decide), ?_⟩
            have g2 : (upd (upd H5 p (.lst [])) fo (.lst ((fv ++ lv2) ++ [y]))) lo = some (.lst lv2) := by rw [upd_ne rh6.ne.symm]; exact b2
            refine ⟨.ref lo, rfl, .inl ⟨rfl, _, SqL.of g2⟩, y, rfl, lo, _, _, rfl, rfl, g2, Nat.lt_of_le_of_lt (by rw [List.length_append] at hfl; omega : lv2.length ≤ 1001) (by decide), ?_⟩
            have up2 : ∀ {vs rs}, RowsOf (upd H5 p (.lst [])) vs rs → RowsOf (upd (upd (upd H5 p (.lst [])) fo (.lst ((fv ++ lv2) ++ [y]))) lo (.lst (lv2 ++ [y]))) vs rs := fun h => (h.wr b1).wr g2
            have ri2 := ri.add hfrs hbS lb hadjK hnin
            have e8 : Ex H (upd (upd (upd H5 p (.lst [])) fo (.lst ((fv ++ lv2) ++ [y]))) lo (.lst (lv2 ++ [y]))) := ((((e3.trans e4).trans e6).mut rh.nfo).mut rh.nlo)
            obtain ⟨lvx, z1, z2⟩ := rh6.hff
            rw [e6 _ _ hff4] at z1
            cases z1
            have hffz : (upd (upd (upd H5 p (.lst [])) fo (.lst ((fv ++ lv2) ++ [y]))) lo (.lst (lv2 ++ [y]))) ff = some (.lst lv) := by rw [upd_ne rh.ne2, upd_ne rh.ne3]; exact e6 _ _ hff4
            refine ⟨_, _, ls ++ [b], rfl, e8, ?_, ⟨e8, rh.nfo, rh.nlo, rh.ne, rh.ne2, rh.ne3, ⟨lv, hffz, up2 z2⟩, ⟨fv, lv2 ++ [y], by rw [upd_ne rh.ne, upd_same, List.append_assoc], upd_same, up2 b3, (up2 b4).snoc ((hyb6.wr b1).wr g2)⟩⟩, hffz, ri2, fun x hx c hc h => ?_, fun c hc h => ?_⟩
            · exact (IntT.wr b1 ⟨xa, rfl, e6 _ _ hxa⟩).wr g2
            · rw [← List.append_assoc]; exact List.mem_append_left _ (dn x hx c hc h)
            · rw [← List.append_assoc]
              rw [take_snoc ‹S[j]? = some b›] at hc
              rcases List.mem_append.mp hc with hc | hc
              · exact List.mem_append_left _ (dj c hc h)
              · rw [List.mem_singleton.mp hc]; exact List.mem_append_right _ (List.mem_singleton.mpr rfl)
        · rintro σ H3 ⟨v7, v8, ls, rfl, e3, hxf, rh, hff, ri, dn, dj⟩
          refine ⟨_, _, _, ls, rfl, rh, hff, ri, fun z hz b hb h => ?_⟩
          rw [take_snoc hfr] at hz
          rcases List.mem_append.mp hz with hz | hz
          · exact dn z hz b hb h
          · rw [List.mem_singleton.mp hz] at h
            refine dj b ?_ h
            rw [rS.length, List.take_length]
            exact hb
      · rintro σ H2 ⟨v6, v7, v8, ls, rfl, rh, hff, ri, dn⟩
        -- fresh = later
        obtain ⟨fv2, lv2, b1, b2, b3, b4⟩ := rh.hfo
        obtain ⟨lvx, z1, z2⟩ := rh.hff
        rw [hff] at z1
        cases z1
        rw [z2.length, List.take_length] at dn
        refine ⟨.ref lo, rfl, _, wSize_lt hfs ri.new, fo, lo, _, _, _, _, _, rs ++ ls, _, ls, rfl, rfl, rh.ex, nfo, rh.ne.symm, b1, pairedApp b3 b4, b2, b4, wi.next ri dn⟩
    · rintro σ H1 ⟨fo, ff, v5, v6, v7, v8, fv, rs, rfl, e1, nfo, h1, r1, wi⟩
      refine ⟨.ref fo, rfl, q fo fv rs H1 nfo e1 h1 r1 wi.all ?_⟩
      have hb := wi.r.bound
      simp at hb
      omega
end
end Bp

set_option Elab.async false
set_option linter.all false
set_option maxRecDepth 100000
set_option maxHeartbeats 4000000
namespace Bp
open PySem PySem.Spec PyProof.Rows L2 Evl
/-! ### enumerate; slices -/
section
variable {K : PySem.W.Frag} {a : Addr} {xs : List V}
theorem forE {g : TG} {tb : TS} {D : Ends} {σ : L2.St} {H : Hp} (Pv : Nat → L2.St → Hp → Prop) (h0 : Pv 0 σ H) (hl : ∀ i σ H, i ≤ xs.length → Pv i σ H → SqL K H a xs)
    (hs : ∀ (i : Nat) (x : V) (T : Addr) (σ : L2.St) (H : Hp), xs[i]? = some x → Pv i σ H → H T = none → g (.ref T) σ (upd H T (.tup [.int (i : Int), x])) fun σ2 H2 => tb { D with nx := Pv (i + 1), ct := Pv (i + 1), bk := D.nx } σ2 H2) (hd : ∀ σ H, Pv xs.length σ H → D.nx σ H) :
    ∃ W : Nat → Nat → L2.St → Hp → Prop, (∃ m, W 0 m σ H) ∧ ∀ i m σ H, W i m σ H →
      ((Ite K a).stop i H ∧ D.nx σ H) ∨ ((Ite K a).go i H ∧ ∃ N : L2.St → Hp → Prop, (∀ σ' H', N σ' H' → ∃ m', m' < m ∧ W (i + 1) m' σ' H') ∧ ∀ v H', (Ite K a).yld i H v H' → g v σ H' fun σ2 H2 => tb { D with nx := N, ct := N, bk := D.nx } σ2 H2) := by
  refine ⟨fun i m σ H => m = xs.length - i ∧ i ≤ xs.length ∧ Pv i σ H, ⟨xs.length, rfl, Nat.zero_le _, h0⟩, fun i m σ H q => ?_⟩
  obtain ⟨rfl, hi, p⟩ := q
  have src := hl i σ H hi p
  by_cases c : i < xs.length
  · refine .inr ⟨⟨xs, xs[i], src, List.getElem?_eq_getElem c⟩, fun σ' H' => Pv (i + 1) σ' H', fun σ' H' q => ⟨xs.length - (i + 1), by omega, rfl, c, q⟩, fun v H' y => ?_⟩
    obtain ⟨T, x, rfl, nT, rfl, hx⟩ := y
    exact hs i x T σ H (hx xs src) p nT
  · have : i = xs.length := by omega
    subst this
    exact .inl ⟨⟨xs, src, Nat.le_refl _⟩, hd σ H p⟩
theorem lcE {g : TG} {tt : TT} {te : TE} {vs : List Nat} {σ : L2.St} {H1 : Hp} {D : Addr} {Qd : Hp → Prop} (Rel : Nat → List V → Hp → Prop) (hD : H1 D = none) (mono : LcMono Rel H1) (h0 : Rel 0 [] H1) (hup : ∀ H, Ex H1 H → Rel 0 [] H1 → Rel 0 [] H) (src : SqL K H1 a xs) (hsz : xs.length ≤ 100000)
    (hs : ∀ (i : Nat) (x : V), xs[i]? = some x → ∀ (acc : List V) (H : Hp) (Cy : V → Hp → Prop) (Cn : Hp → Prop), Ex H1 H → Rel i acc H → (∀ y H', Ex H H' → Rel (i + 1) (acc ++ [y]) H' → Cy y H') → (∀ H', Ex H H' → Rel (i + 1) acc H' → Cn H') →
      ∀ T, H T = none → g (.ref T) (wipe σ vs) (upd H T (.tup [.int (i : Int), x])) fun σ2 H2 => wipe σ2 vs = wipe σ vs ∧ tt σ2 H2 fun b H3 => if b = true then te σ2 H3 Cy else Cn H3)
    (hd : ∀ acc H, Ex H1 H → H D = some (.lst acc) → Rel xs.length acc H → acc.length ≤ xs.length → Qd H) :
    ∃ W : Nat → Nat → Hp → Prop, (∃ m, W 0 m (upd H1 D (.lst []))) ∧ ∀ i m H, W i m H →
      ((Ite K a).stop i H ∧ Qd H) ∨ ((Ite K a).go i H ∧ ∃ Nx : Hp → Prop, (∀ H', Nx H' → ∃ m', m' < m ∧ W (i + 1) m' H') ∧ ∀ x H', (Ite K a).yld i H x H' → g x (wipe σ vs) H' fun σ2 H2 => wipe σ2 vs = wipe σ vs ∧ tt σ2 H2 fun b H3 =>
        if b = true then te σ2 H3 fun y H4 => ∃ acc, H4 D = some (.lst acc) ∧ acc.length < sizeLine ∧ Nx (upd H4 D (.lst (acc ++ [y]))) else Nx H3) := by
  refine ⟨fun i m H => m = xs.length - i ∧ i ≤ xs.length ∧ ∃ acc, Ex H1 H ∧ H D = some (.lst acc) ∧ acc.length ≤ i ∧ Rel i acc H, ⟨xs.length, rfl, Nat.zero_le _, [], Ex.new hD, upd_same, Nat.le_refl _, hup _ (Ex.new hD) h0⟩, fun i m H q => ?_⟩
  obtain ⟨rfl, hi, acc, e, hl, hn, r⟩ := q
  have srcH := ex_l e src
  by_cases c : i < xs.length
  · refine .inr ⟨⟨xs, xs[i], srcH, List.getElem?_eq_getElem c⟩, fun H' => ∃ acc, Ex H1 H' ∧ H' D = some (.lst acc) ∧ acc.length ≤ i + 1 ∧ Rel (i + 1) acc H', fun H' q => ⟨xs.length - (i + 1), by omega, rfl, c, q⟩, fun v H' y => ?_⟩
    obtain ⟨T, x, rfl, nT, rfl, hx⟩ := y
    refine hs i x (hx xs srcH) acc H _ _ e r (fun y H' e' r' => ?_) (fun H' e' r' => ?_) T nT
    · have hl' := e' _ _ hl
      exact ⟨acc, hl', Nat.lt_of_lt_of_le (by omega : acc.length < 100000) (by decide), acc ++ [y], (e.trans e').mut hD, upd_same, by rw [List.length_append]; exact Nat.succ_le_succ hn, mono _ _ _ _ _ _ hD (e.trans e') hl' r'⟩
    · exact ⟨acc, e.trans e', e' _ _ hl, Nat.le_succ_of_le hn, r'⟩
  · have : i = xs.length := by omega
    subst this
    exact .inl ⟨⟨xs, srcH, Nat.le_refl _⟩, hd acc H e hl r hn⟩
end
theorem cut_take (xs : List V) (i : Nat) : cutV xs none (some (i : Int)) = xs.take i := by
  unfold cutV
  rw [HT.sIx_none, HT.sIx_nat]
  simp
theorem cut_drop (xs : List V) (i : Nat) : cutV xs (some (i : Int)) none = xs.drop i := by
  unfold cutV
  rw [HT.sIx_none, HT.sIx_nat]
  by_cases c : i ≤ xs.length
  · rw [Nat.min_eq_left c]
    exact List.take_of_length_le (by simp)
  · rw [List.drop_eq_nil_of_le (by omega), List.drop_eq_nil_of_le (by omega)]
    simp
theorem notT {b : Bool} (h : (!b) = true) : b = false := by cases b <;> simp_all
theorem notF {b : Bool} (h : (!b) = false) : b = true := by cases b <;> simp_all
end Bp

set_option Elab.async false
set_option linter.all false
set_option maxRecDepth 100000
set_option maxHeartbeats 4000000
namespace Bp
open PySem PySem.Spec PyProof.Rows L2 Evl
abbrev s_lawJoined : Stmt := topS 43
abbrev N_lawJoined : List Str := ["_law_states", "_law_at", "_law_one", "_law_other", "_law_agree_here", "_law_keys", "_law_key", "_law_row"]
theorem sc_lawJoined : FnScope N_lawJoined ["_law_states"] (defScope s_lawJoined) := ⟨rfl, rfl, rfl, by decide +kernel, rfl, by decide +kernel, by decide +kernel⟩
/-- whether the states are joined, by the law's own search -/
def spJoined : Sp := fun vs H Q _ => ∃ (a : Addr) (ss : List V) (S : List Row) (n : Nat), vs = [.ref a] ∧ H a = some (.lst ss) ∧ RowsOf H ss S ∧ (∀ r ∈ S, r.length = n) ∧ n ≤ 100 ∧ S.length ≤ 1000 ∧
  ∀ b H', Ex H H' → (b = true ↔ Joined (fun r => r ∈ S)) → Q (.bl b) H'
theorem natAt {l : List Nat} {i : Nat} {x : V} (h : ((asInts l).map V.int)[i]? = some x) : ∃ k : Nat, l[i]? = some k ∧ x = .int (k : Int) := by
  obtain ⟨n, h1, h2⟩ := intsAt h
  unfold asInts at h1
  rw [List.getElem?_map] at h1
  cases e : l[i]? with
  | none => rw [e] at h1; cases h1
  | some k => rw [e] at h1; exact ⟨k, rfl, by rw [h2]; exact congrArg V.int (Option.some.inj h1).symm⟩
theorem boxTake {S : List Row} {a b r : Row} {i : Nat} (h : S[i]? = some r) : boxOf (S.take (i + 1)) a b = boxOf (S.take i) a b ++ (if (agreeK a b).all (fun k => r[k]? == a[k]?) = true then [r] else []) := by
  unfold boxOf
  rw [filterTake _ h]
  cases c : (agreeK a b).all (fun k => r[k]? == a[k]?) <;> simp [c]
theorem rowAt' {a : Row} {k : Nat} (h : k < a.length) : ∃ x : Int, a[k]? = some x ∧ atI (a.map V.int) (k : Int) = some (.int x) :=
  ⟨a[k], List.getElem?_eq_getElem h, atI_of (j := k) rfl (by rw [List.getElem?_map, List.getElem?_eq_getElem h]; rfl)⟩
theorem ints_len (l : List Nat) : ((asInts l).map V.int).length = l.length := by unfold asInts; simp
section
variable {P : Program} {w : World} {K : PySem.W.Frag} {mg : Str → Option Value} {base : Heap}
theorem ok_lawJoined {f fA fR : Addr} {fd fdA fdR : FuncData} (F : Fun K "_law_joined" "_law_joined" s_lawJoined f fd) (B : Blt mg) (D_lawAgree : Dn K mg "_law_agree" s_lawAgree ["_law_one", "_law_other"] fA fdA)
    (D_lawReached : Dn K mg "_law_reached" s_lawReached ["_law_states", "_law_state", "_law_keys"] fR fdR) : FnOk P w K mg base CX0 3 f fd ["_law_states"] spJoined := by
  have G_lawAgree : FnOk P w K mg base CX0 1 fA fdA ["_law_one", "_law_other"] spAgree := ok_lawAgree D_lawAgree.F B
  have G_lawReached : FnOk P w K mg base CX0 2 fR fdR ["_law_states", "_law_state", "_law_keys"] spReached := ok_lawReached D_lawReached.F B D_lawAgree
  refine F.ok sc_lawJoined (fun vs H Q E h => ?_) (fun cdv A outer s H vs Q E hr h => ?_)
  · obtain ⟨a, ss, S, n, rfl, _⟩ := h
    rfl
  · obtain ⟨a, ss, S, n, rfl, ha, rS, hn, n100, S1000, q⟩ := h
    refine ⟨_, (pss_cons (ps_for PassesOwn.never  rfl (enumk (K := K) (by rfl) B.enumerate (pa_cons (pv 0) pa_nil)) (pgTk (K := K) (n := 2) rfl (pgs_cons (pg_name (i := 1) sc_lawJoined.nd rfl (Or.inl rfl)) (pgs_cons (pg_name (i := 2) sc_lawJoined.nd rfl (Or.inr rfl)) pgs_nil)))
    (pss_one (ps_for PassesOwn.never  rfl (piLk (K := K) (pe_slice (slLk (K := K)) (pv 0) po_none (po_some (pv 1)))) (pg_name (i := 3) sc_lawJoined.nd rfl (Or.inl rfl))
    (pss_cons (ps_set (i := 4) sc_lawJoined.nd rfl (.inr rfl) (pe_call G_lawAgree (hr.mono (by decide)) (by rfl) D_lawAgree.g D_lawAgree.F.kp D_lawAgree.b .nil pass0 (pa_cons (pv 2) (pa_cons (pv 3) pa_nil))))
  (pss_cons (ps_setLc (i := 5) (own := [("_law_key", 6)]) rfl sc_lawJoined.nd rfl rfl (sw_true rfl rfl rfl (by decide +kernel)) (pi_range1 (by rfl) B.range (pa_cons (pe_callB (lenk (K := K)) (by rfl) B.len bt_len (pa_cons (pv 2) pa_nil)) pa_nil)) (blkOk_by (show blkC N_lawJoined (defScope s_lawJoined) _ _ = true by decide +kernel)) (fun _ _ _ _ _ => (pg_name (i := 6) sc_lawJoined.nd rfl (Or.inl rfl))) (fun _ _ _ _ _ => (pts_one (pt_cmpR (ninSk (K := K)) (pv 6) (pv 4) rfl))) (fun _ _ _ _ _ => (pv 6)))
  (pss_one (ps_if (pt_cmpR (ninDk (room65 hr) (K := K)) (pv 3) (pe_call G_lawReached (hr.mono (by decide)) (by rfl) D_lawReached.g D_lawReached.F.kp D_lawReached.b .nil pass0 (pa_cons (lck (own := [("_law_row", 7)]) rfl sc_lawJoined.nd (show blkC N_lawJoined (defScope s_lawJoined) _ _ = true by decide +kernel) (piLk (K := K) (pv 0)) (fun _ _ _ _ _ => (pg_name (i := 7) sc_lawJoined.nd rfl (Or.inr rfl))) (fun _ _ _ _ _ => (pts_one (pt_cmpR (eqDk hr.units (K := K)) (lck (own := [("_law_key", 6)]) rfl sc_lawJoined.nd (by kernel_rfl) (piTk (K := K) (pv 4)) (fun _ _ _ _ _ => (pg_name (i := 6) sc_lawJoined.nd rfl (Or.inl rfl))) (fun _ _ _ _ _ => (pts_one (pt_cmpR op_ne (pe_ix (ixTk (K := K)) (pv 7) (pv 6) (fun _ _ => rfl)) (pe_ix (ixTk (K := K)) (pv 2) (pv 6) (fun _ _ => rfl)) (nomark _)))) (fun _ _ _ _ _ => (pv 6))) (pe_lst pa_nil) (nomark _)))) (fun _ _ _ _ _ => (pv 7))) (pa_cons (pv 2) (pa_cons (pv 5) pa_nil)))) rfl)
    (pss_one (ps_ret pe_bl))
    pss_nil)))))))
  (pss_one (ps_ret pe_bl))), ?_⟩
    refine ⟨.ref a, rfl, a, ss, rfl, SqL.of ha, forE (K := K) (a := a) (xs := ss) (fun i σ H' => ∃ v1 v2 v3 v4 v5, σ = [some (.ref a), v1, v2, v3, v4, v5, none, none] ∧ Ex H H' ∧ ∀ i' x, i' < i → S[i']? = some x → ∀ b ∈ S.take i', Star (RStep (boxOf S x b) (diffKeys x b)) x b) ?_ ?_ ?_ ?_⟩
    · exact ⟨none, none, none, none, none, rfl, Ex.refl _, fun i' x h => absurd h (Nat.not_lt_zero _)⟩
    · rintro i σ H' _ ⟨_, _, _, _, _, _, e, _⟩
      exact SqL.of (e _ _ ha)
    · rintro i x T σ H1 hx ⟨v1, v2, v3, v4, v5, rfl, e1, dn⟩ nT
      obtain ⟨one, hone, hxo⟩ := pairedGet rS hx
      have e1' := e1.trans (Ex.new (o := .tup [.int (i : Int), x]) nT)
      have lone := hn one (List.mem_of_getElem? hone)
      refine ⟨T, [.int (i : Int), x], rfl, SqT.of upd_same, rfl, .int (i : Int), [x], rfl, x, [], rfl, rfl, ?_⟩
      -- for other in states[:at]
      refine ⟨.ref a, rfl, .int (i : Int), rfl, i, rfl, a, ss, rfl, SqL.of (e1' _ _ ha), fun c nc => ⟨c, rfl, ⟨_, SqL.of upd_same⟩, ?_⟩⟩
      have e2 := e1'.trans (Ex.new (o := .lst (cutV ss none (some (i : Int)))) nc)
      rw [cut_take] at e2 ⊢
      refine for_list (K := K) (a := c) (xs := ss.take i) (fun j σ H' => ∃ v3 v4 v5, σ = [some (.ref a), some (.int (i : Int)), some x, v3, v4, v5, none, none] ∧ Ex H H' ∧ H' c = some (.lst (ss.take i)) ∧ ∀ b ∈ (S.take i).take j, Star (RStep (boxOf S one b) (diffKeys one b)) one b) ?_ ?_ ?_ ?_
      · exact ⟨v3, v4, v5, rfl, e2, upd_same, by simp⟩
      · rintro j σ H' _ ⟨_, _, _, _, _, h, _⟩
        exact SqL.of h
      · rintro j y σ H2 hy ⟨v3, v4, v5, rfl, e3, hc, dj⟩
        have rT : RowsOf H (ss.take i) (S.take i) := by
          have : ∀ (k : Nat) (vs : List V) (rs : List Row), RowsOf H vs rs → RowsOf H (vs.take k) (rs.take k) := by
            intro k
            induction k with
            | zero => intro vs rs _; simp; exact .nil
            | succ k ih => intro vs rs h; cases h with
              | nil => simp; exact .nil
              | cons a b => simp; exact .cons a (ih _ _ b)
          exact this i ss S rS
        obtain ⟨oth, hoth, hyo⟩ := pairedGet rT hy
        have hothS : oth ∈ S := List.mem_of_mem_take (List.mem_of_getElem? hoth)
        have loth := hn oth hothS
        -- agree_here = agree(one, other)
        refine ⟨x, rfl, y, rfl, x, y, one, oth, rfl, hxo.up e3, hyo.up e3, by rw [lone, loth], by omega, fun ag H3 e4 hag => ?_⟩
        have e34 := e3.trans e4
        obtain ⟨xa, rfl, hxa⟩ := hxo.up e34
        obtain ⟨aa, rfl, haa⟩ := hag
        -- keys = [key for key in range(len(one)) if key not in agree_here]
        refine ⟨.ref xa, rfl, _, one.length, rfl, .inr ⟨_, SqT.of hxa, by simp⟩, one.length, rfl, by omega, by omega, fun D nD => ?_⟩
        refine lcR (n := ((one.length : Nat) : Int).toNat) (fun k acc _ => acc = (asInts ((List.range k).filter fun k => decide (k ∉ agreeK one oth))).map V.int) nD (fun _ _ _ _ _ _ _ _ _ h => h) rfl (fun _ _ h => h) (by omega) ?_ ?_
        · intro k hk acc H4 Cy Cn e5 rac cy cn
          have hin : inV (.int ((0 : Int) + k)) ((asInts (agreeK one oth)).map V.int) = decide (k ∈ agreeK one oth) := by
            rw [inInts, Int.zero_add]
            exact decide_eq_decide.mpr mem_ints
          refine ⟨rfl, .int ((0 : Int) + k), rfl, .ref aa, rfl, aa, _, rfl, .inr (SqT.of (e5 _ _ haa)), rfl, flatInts _, _, rfl, ifE (fun c3 => ?_) (fun c3 => ?_)⟩
          · refine ⟨.int ((0 : Int) + k), rfl, cy _ _ (Ex.refl _) ?_⟩
            have c4 : k ∉ agreeK one oth := of_decide_eq_false (hin ▸ notT c3)
            show acc ++ [_] = _
            rw [rac, List.range_succ, List.filter_append]
            simp [c4, asInts]
          · refine cn _ (Ex.refl _) ?_
            have c4 : k ∈ agreeK one oth := of_decide_eq_true (hin ▸ notF c3)
            show acc = _
            rw [rac, List.range_succ, List.filter_append]
            simp [c4]
        · intro kacc H4 e5 hD rk _
          rw [show ((one.length : Nat) : Int).toNat = one.length by omega] at rk
          have rk' : kacc = (diffKeys one oth).map V.int := rk
          subst rk'
          have e45 := e34.trans e5
          have hxa4 := e5 _ _ hxa
          have haa4 := e5 _ _ haa
          -- other not in reached([..], one, keys)
          refine ⟨y, rfl, .ref a, rfl, a, rfl, ⟨_, SqL.of (e45 _ _ ha)⟩, fun Bx nB => ?_⟩
          refine lcL (xs := ss) (fun k acc H' => RowsOf H' acc (boxOf (S.take k) one oth)) nB (fun k acc H' D l' o' _ _ hD h => h.wr hD) (by simp [boxOf]; exact .nil) (fun H' _ _ => by simp [boxOf]; exact .nil) (SqL.of (e45 _ _ ha)) (by rw [rS.length]; omega) ?_ ?_
          · intro k z hz acc H5 Cy Cn e6 rac cy cn
            obtain ⟨row, hrow, hzr⟩ := pairedGet rS hz
            have lrow := hn row (List.mem_of_getElem? hrow)
            obtain ⟨za, rfl, hza⟩ := hzr.up (e45.trans e6)
            -- [key for key in agree_here if row[key] != one[key]] == []
            refine ⟨rfl, .ref aa, rfl, aa, rfl, ⟨_, SqT.of (e6 _ _ haa4)⟩, fun D2 nD2 => ?_⟩
            refine lcT (xs := (asInts (agreeK one oth)).map V.int) (fun j acc _ => acc = (asInts (((agreeK one oth).take j).filter fun k => !(row[k]? == one[k]?))).map V.int) nD2 (fun _ _ _ _ _ _ _ _ _ h => h) rfl (fun _ _ h => h) (SqT.of (e6 _ _ haa4)) (by rw [ints_len]; have := agree_count one oth; omega) ?_ ?_
            · intro j v hv acc2 H6 Cy2 Cn2 e7 rac2 cy2 cn2
              obtain ⟨k2, hk2, rfl⟩ := natAt hv
              have mk := mem_agree.mp (List.mem_of_getElem? hk2)
              obtain ⟨u1, hu1, hu2⟩ := rowAt' (a := row) (k := k2) (by omega)
              obtain ⟨u3, hu3, hu4⟩ := rowAt' (a := one) (k := k2) (by omega)
              refine ⟨rfl, .ref za, rfl, .int (k2 : Int), rfl, za, _, _, _, rfl, rfl, SqT.of (e7 _ _ hza), hu2, .ref xa, rfl, .int (k2 : Int), rfl, xa, _, _, _, rfl, rfl, SqT.of (e7 _ _ (e6 _ _ hxa4)), hu4, rfl, _, rfl, ifE (fun c3 => ?_) (fun c3 => ?_)⟩
              · refine ⟨.int (k2 : Int), rfl, cy2 _ _ (Ex.refl _) ?_⟩
                have c4 : u1 ≠ u3 := by intro z; subst z; simp at c3
                show acc2 ++ [_] = _
                rw [rac2, filterTake _ hk2, hu1, hu3]
                simp [c4, asInts]
              · refine cn2 _ (Ex.refl _) ?_
                have c4 : u1 = u3 := by
                  have := notF c3
                  exact V.int.inj (of_decide_eq_true this)
                show acc2 = _
                rw [rac2, filterTake _ hk2, hu1, hu3]
                simp [c4]
            · intro acc2 H6 e7 hD2 rac2 _
              rw [ints_len, List.take_length] at rac2
              refine ⟨Nat.zero_le _, fun p np => ?_⟩
              have e8 := Ex.new (o := .lst []) np
              refine eqNil (SqL.of (e8 _ _ hD2)) (by rw [rac2]; exact ints_data _) upd_same ⟨_, rfl, ?_⟩
              have hall : acc2.isEmpty = (agreeK one oth).all (fun k => row[k]? == one[k]?) := by
                rw [rac2]
                have : ∀ l : List Nat, ((asInts (l.filter fun k => !(row[k]? == one[k]?))).map V.int).isEmpty = l.all (fun k => row[k]? == one[k]?) := by
                  intro l
                  induction l with
                  | nil => rfl
                  | cons k l ih => 
                    rw [List.all_cons, List.filter_cons]
                    cases (row[k]? == one[k]?) with
                    | true => simpa using ih
                    | false => simp [asInts]
                exact this _
              rw [hall]
              refine ifE (fun c3 => ?_) (fun c3 => ?_)
              · refine ⟨.ref za, rfl, cy _ _ (e7.trans e8) ?_⟩
                show RowsOf _ (acc ++ [_]) _
                rw [boxTake hrow, if_pos c3]
                exact (rac.up (e7.trans e8)).snoc ⟨za, rfl, (e7.trans e8) _ _ hza⟩
              · refine cn _ (e7.trans e8) ?_
                show RowsOf _ acc _
                rw [boxTake hrow, if_neg (by rw [c3]; exact Bool.false_ne_true), List.append_nil]
                exact rac.up (e7.trans e8)
          · intro bacc H5 e6 hB rb _
            rw [show ss.length = S.length from rS.length, List.take_length] at rb
            have e46 := e45.trans e6
            refine ⟨.ref xa, rfl, .ref D, rfl, Bx, D, .ref xa, bacc, boxOf S one oth, diffKeys one oth, one, n, rfl, hB, rb, ⟨xa, rfl, e6 _ _ hxa4⟩, e6 _ _ hD, fun r hr => hn r (List.mem_filter.mp hr).1, lone, n100, Nat.le_trans (List.length_filter_le _ _) S1000, ?_, fun pr ys rs H6 npr e7 hpr rr hall hlr => ?_⟩
            · unfold diffKeys asInts
              rw [List.length_map]
              exact Nat.le_trans (List.length_filter_le _ _) (by rw [List.length_range]; omega)
            have e47 := e46.trans e7
            refine ⟨rowD oth, rs.map rowD, (hyo.up e47).dp, .lst (SqL.of hpr) (RowsOf.dp rr), shapedRow _, shapedRowsL _, _, rfl, ?_⟩
            rw [inRows]
            refine ifE (fun c3 => ?_) (fun c3 => ?_)
            · -- return False
              have hno : oth ∉ rs := of_decide_eq_false (notT c3)
              refine q false H6 e47 ⟨fun z => (by cases z), fun z => ?_⟩
              have := (ask_joined hn).mpr z
              exact absurd ((hall oth).mpr (this i one hone oth (List.mem_of_getElem? hoth))) hno
            · have hyes : oth ∈ rs := of_decide_eq_true (notF c3)
              refine ⟨_, _, _, rfl, e47, ((e4.trans e5).trans (e6.trans e7)) _ _ hc, fun b hb => ?_⟩
              rw [take_snoc hoth] at hb
              rcases List.mem_append.mp hb with hb | hb
              · exact dj b hb
              · rw [List.mem_singleton.mp hb]; exact (hall oth).mp hyes
      · rintro σ H2 ⟨v3, v4, v5, rfl, e3, hc, dj⟩
        refine ⟨_, _, _, _, _, rfl, e3, fun i' x' h' hx' b hb => ?_⟩
        by_cases c : i' < i
        · exact dn i' x' c hx' b hb
        · have : i' = i := by omega
          subst this
          rw [hone] at hx'
          cases hx'
          refine dj b ?_
          rw [List.take_of_length_le]
          · exact hb
          · rw [List.length_take, List.length_take, rS.length]; omega
    · rintro σ H1 ⟨v1, v2, v3, v4, v5, rfl, e1, dn⟩
      refine q true H1 e1 ⟨fun _ => (ask_joined hn).mp fun i x hx b hb => dn i x ?_ hx b hb, fun _ => rfl⟩
      rw [rS.length]
      exact (List.getElem?_eq_some_iff.mp hx).1
end
end Bp

set_option Elab.async false
set_option linter.all false
set_option maxRecDepth 100000
set_option maxHeartbeats 4000000
namespace Bp
open PySem PySem.Spec PyProof.Rows L2 Evl
abbrev s_lawDraw : Stmt := topS 35
abbrev N_lawDraw : List Str := ["_law_script", "_law_salt", "_law_cell", "_law_cells", "_law_blend"]
theorem sc_lawDraw : FnScope N_lawDraw ["_law_script", "_law_salt"] (defScope s_lawDraw) := ⟨rfl, rfl, rfl, by decide +kernel, rfl, by decide +kernel, by decide +kernel⟩
/-- a new deal -/
def spDraw (K : PySem.W.Frag) : Sp := fun vs H Q _ => ∃ (a : Addr) (ns : List Int), vs = [.ref a, .int 21] ∧ SqL K H a (ns.map V.int) ∧ ns.length ≤ 63 ∧ ∀ v H', Ex H H' → Deal H' v → Q v H'
theorem cutInts (ns : List Int) : cutV (ns.map V.int) none (some 48) = (ns.take 48).map V.int := by
  have := cut_take (ns.map V.int) 48
  rw [List.map_take]
  exact this
section
variable {P : Program} {w : World} {K : PySem.W.Frag} {mg : Str → Option Value} {base : Heap}
theorem ok_lawDraw {f : Addr} {fd : FuncData} (F : Fun K "_law_draw" "_law_draw" s_lawDraw f fd) (B : Blt mg) : FnOk P w K mg base CX0 1 f fd ["_law_script", "_law_salt"] (spDraw K) := by
  refine F.ok sc_lawDraw (fun vs H Q E h => ?_) (fun cdv A outer s H vs Q E hr h => ?_)
  · obtain ⟨a, ns, rfl, _⟩ := h
    rfl
  · obtain ⟨a, ns, rfl, ha, h63, q⟩ := h
    refine ⟨_, (pss_hide (pss_cons (ps_setLc (i := 3) (own := [("_law_cell", 2)]) rfl sc_lawDraw.nd rfl rfl (sw_true rfl rfl rfl (by decide +kernel)) (piLk (K := K) (pe_slice (slLk (K := K)) (pv 0) po_none (po_some pe_int))) (blkOk_by (show blkC N_lawDraw (defScope s_lawDraw) _ _ = true by decide +kernel)) (fun _ _ _ _ _ => (pg_name (i := 2) sc_lawDraw.nd rfl (Or.inl rfl))) (fun _ _ _ _ _ => pts_nil) (fun _ _ _ _ _ => (pe_callB call_abs (by rfl) B.abs bt_abs (pa_cons (pe_callTy call_int1 (by rfl) B.int bt_int (pa_cons (pv 2) pa_nil)) pa_nil))))
  (pss_cons (ps_set (i := 4) sc_lawDraw.nd rfl (.inl rfl) (pe_op op_add pe_int (pe_op op_mul pe_int (pv 1))))
  (pss_cons (ps_for PassesOwn.never  rfl (piLk (K := K) (pv 3)) (pg_name (i := 2) sc_lawDraw.nd rfl (Or.inl rfl))
    (pss_one (ps_set (i := 4) sc_lawDraw.nd rfl (.inl rfl) (pe_op op_mod (pe_callTy call_int1 (by rfl) B.int bt_int (pa_cons (pe_op op_add (pe_op op_add (pe_op op_mul (pv 4) pe_int) (pe_op op_mod (pv 2) pe_int)) pe_int) pa_nil)) pe_int))))
  (pss_one (ps_ret (pe_lst (pa_cons (revk (K := K) (lck (own := [("_law_cell", 2)]) rfl sc_lawDraw.nd (show blkC N_lawDraw (defScope s_lawDraw) _ _ = true by decide +kernel) (piLk (K := K) (pv 3)) (fun _ _ _ _ _ => (pg_name (i := 2) sc_lawDraw.nd rfl (Or.inl rfl))) (fun _ _ _ _ _ => (pts_one (pt_cmpR op_ge (pv 2) (pe_op op_pow pe_int pe_int) (nomark _)))) (fun _ _ _ _ _ => (pv 2)))) (pa_cons (pv 4) pa_nil))))))))), ?_⟩
    -- cells = [abs(int(cell)) for cell in script[:48]]
    refine ⟨.ref a, rfl, 48, rfl, a, _, rfl, ha, fun c nc => ⟨c, rfl, ⟨_, SqL.of upd_same⟩, fun D nD => ?_⟩⟩
    rw [cutInts] at nD ⊢
    have e1 : Ex H (upd H c (.lst ((ns.take 48).map V.int))) := Ex.new nc
    refine lcL (xs := (ns.take 48).map V.int) (fun i acc _ => ∃ ms : List Int, acc = ms.map V.int ∧ ∀ k ∈ ms, 0 ≤ k) nD (fun _ _ _ _ _ _ _ _ _ h => h) ⟨[], rfl, by simp⟩ (fun _ _ h => h) (SqL.of upd_same) (by simp; omega) ?_ ?_
    · intro i x hx acc H1 Cy Cn e2 rac cy cn
      obtain ⟨k, hk, rfl⟩ := intsAt hx
      obtain ⟨ms, rfl, hms⟩ := rac
      refine ⟨rfl, tYesE ?_⟩
      refine ⟨.int k, rfl, .inl ⟨k, rfl, k, rfl, cy _ _ (Ex.refl _) ⟨ms ++ [if k < 0 then -k else k], by rw [List.map_append]; rfl, fun j hj => ?_⟩⟩⟩
      rcases List.mem_append.mp hj with hj | hj
      · exact hms j hj
      · rw [List.mem_singleton.mp hj]; split <;> omega
    · intro acc H1 e2 hD rac hacc
      obtain ⟨ms, rfl, hms⟩ := rac
      have hl : ms.length ≤ 48 := by simp at hacc; omega
      have e3 := e1.trans e2
      -- blend = 7919 + 104729 * salt
      refine ⟨.int 21, rfl, 104729, 21, rfl, rfl, .inl (by decide), 7919, 2199309, rfl, rfl, ?_⟩
      refine ⟨.ref D, rfl, D, rfl, ⟨_, SqL.of hD⟩, for_list (K := K) (a := D) (xs := ms.map V.int) (fun i σ H' => ∃ v2 b, σ = [some (.ref a), some (.int 21), v2, some (.ref D), some (.int b)] ∧ Ex H H' ∧ H' D = some (.lst (ms.map V.int)) ∧ 0 ≤ b ∧ b < 2147483648) ?_ ?_ ?_ ?_⟩
      · exact ⟨none, _, rfl, e3, hD, by decide, by decide⟩
      · rintro i σ H' _ ⟨_, _, _, _, h, _⟩
        exact SqL.of h
      · rintro i x σ H2 hx ⟨v2, b, rfl, e4, hD2, b0, b1⟩
        obtain ⟨k, hk, rfl⟩ := intsAt hx
        refine ⟨.int b, rfl, b, 48271, rfl, rfl, .inl ⟨by omega, by omega⟩, .int k, rfl, k, 2147483549, rfl, rfl, (by show (0 : Int) < 2147483549; decide), _, _, rfl, rfl, _, 11, rfl, rfl, .inl ⟨_, rfl, _, _, rfl, rfl, (by show (0 : Int) < 2147483647; decide), ?_⟩⟩
        refine ⟨_, _, rfl, e4, hD2, Int.emod_nonneg _ (by decide), ?_⟩
        have := Int.emod_lt_of_pos (b * 48271 + k % 2147483549 + 11) (show (0 : Int) < 2147483647 by decide)
        omega
      · rintro σ H2 ⟨v2, b, rfl, e4, hD2, b0, b1⟩
        -- return [[cell for cell in cells if cell >= 10 ** 18][::-1], blend]
        refine ⟨.ref D, rfl, D, rfl, ⟨_, SqL.of hD2⟩, fun D2 nD2 => ?_⟩
        refine lcL (xs := ms.map V.int) (fun i acc _ => ∃ ls : List Int, acc = ls.map V.int ∧ ∀ k ∈ ls, 0 ≤ k) nD2 (fun _ _ _ _ _ _ _ _ _ h => h) ⟨[], rfl, by simp⟩ (fun _ _ h => h) (SqL.of hD2) (by simp; omega) ?_ ?_
        · intro i x hx acc H3 Cy Cn e5 rac cy cn
          obtain ⟨k, hk, rfl⟩ := intsAt hx
          obtain ⟨ls, rfl, hls⟩ := rac
          refine ⟨rfl, .int k, rfl, 10, 18, rfl, rfl, ⟨by decide, by decide, by decide⟩, k, _, rfl, rfl, _, rfl, ifE (fun c => ?_) (fun c => ?_)⟩
          · refine ⟨.int k, rfl, cy _ _ (Ex.refl _) ⟨ls ++ [k], by rw [List.map_append]; rfl, fun j hj => ?_⟩⟩
            rcases List.mem_append.mp hj with hj | hj
            · exact hls j hj
            · rw [List.mem_singleton.mp hj]; exact hms k (List.mem_of_getElem? hk)
          · exact cn _ (Ex.refl _) ⟨ls, rfl, hls⟩
        · intro acc H3 e5 hD3 rac hacc
          obtain ⟨ls, rfl, hls⟩ := rac
          have hl2 : ls.length ≤ 48 := by simp at hacc; omega
          refine ⟨D2, _, rfl, SqL.of hD3, fun r nr => ⟨.int b, rfl, (by show 2 ≤ sizeLine; decide), fun d nd => ?_⟩⟩
          have hr : (upd (upd H3 r (.lst (ls.map V.int).reverse)) d (.lst [.ref r, .int b])) r = some (.lst (ls.map V.int).reverse) := Ex.new nd _ _ upd_same
          refine ⟨d, r, rfl, ls.reverse, b, ⟨by simp; omega, fun k hk => hls k (List.mem_reverse.mp hk), b0, b1⟩, upd_same, by rw [hr, List.map_reverse], ?_⟩
          have e6 : Ex H H3 := e4.trans e5
          have nHr : H r = none := freshEx e6 nr
          have nHd : H d = none := freshEx (e6.trans (Ex.new (o := .lst (ls.map V.int).reverse) nr)) nd
          have ne : d ≠ r := by intro z; subst z; rw [upd_same] at nd; cases nd
          refine q (.ref d) _ ?_ ⟨d, r, rfl, by rw [upd_ne ne]; exact upd_same, upd_same⟩
          exact (((e6.mut nHr).mut nHd).mut nHd).mut nHr
end
end Bp

set_option Elab.async false
set_option linter.all false
set_option maxRecDepth 100000
set_option maxHeartbeats 4000000
namespace Bp
open PySem PySem.Spec PyProof.Rows L2 Evl
/-! ### sum of a tuple of ints -/
section
variable {prog : Program} {w : World} {A : Around} {E : Value → Shared → Prop} {s : Shared}
theorem sumTup {t : Addr} {its : List Value} {ns : List Int} {Q : Value → Shared → Prop} (hh : A.handled = none) (ht : s.heap.IsTuple t its.toArray) (hi : IntsAre its ns)
    (h : ∀ h' tk t', (∀ b o, s.heap.get? b = some o → h'.get? b = some o) → Q (.int ns.sum t') { s with heap := h', toks := tk }) : wpAny (model prog w) A (call (.builtin "sum") [.ref t]) Q E s := by
  obtain ⟨xs, hx⟩ := hi.allInts.items
  have hn : numsOf its.toArray.toList = ns := by rw [show its.toArray.toList = its from rfl, hi.numsOf]
  rw [hx] at ht hn
  rw [nums_intItems] at hn
  refine PySem.W.ktm_sumG hh ht fun h' tk t' hk => ?_
  rw [preSum_eq, List.take_of_length_le (by simp), hn]
  exact h h' tk t' hk
end
def rSumT (K : PySem.W.Frag) : List V → Hp → VK → Prop := fun vs H Q => ∃ (a : Addr) (ns : List Int), vs = [V.ref a] ∧ SqT K H a (ns.map V.int) ∧ Q (.int ns.sum) H
theorem sumTk {X : Cx} {K : PySem.W.Frag} (hc : X.calm = true) (hK : X.K = K := by rfl) : CallR X (.builtin "sum") (rSumT K) := by
  intro pins s σ H vs us Q I r h
  obtain ⟨a, ns, rfl, hs, q⟩ := h
  subst hK
  obtain ⟨its, rv, ht, _⟩ := I.tuple hs
  rw [Vals.ref1 r]
  exact sumTup (I.ok.hd hc) ht rv.ints fun h' tk t' hk => ⟨.int _, H, I.kept hk, ⟨_, rfl⟩, q⟩
/-! ### an iterator of new tuples, from the library's walk -/
theorem turnOfWalk {P : Program} {w : World} {K : PySem.W.Frag} {elts : List Expr} {kk : Nat} {tpos : Pos} {J : It} {it : Addr} {fp : List Addr} {tn : Nat → Heap → Prop} (mem : it ∈ fp)
    (obj : ∀ i h, tn i h → ∀ b ∈ fp, ∃ o, h.get? b = some o ∧ ∀ v, o.data ≠ .cell v)
    (keep : ∀ i h h', tn i h → (∀ b ∈ fp, ∀ o, h.get? b = some o → h'.get? b = some o) → tn i h')
    (self : ∀ (A : Around) (i : Nat) (s : Shared) (Q : Value → Shared → Prop) (E : Value → Shared → Prop), tn i s.heap → Q (.ref it) s → wpAny (model P w) A (pyIter (.ref it)) Q E s)
    (get : ∀ (X : Cx), X.prog = P → X.w = w → X.K = K → X.calm = true → ∀ (i : Nat) (pins : List (Addr × Obj)) (s : Shared) (σ : L2.St) (H : Hp), Inv X pins σ H s → tn i s.heap → (J.go i H ∨ J.stop i H) →
      ∃ (fpW wr : List Addr) (n : Nat) (Pt : Nat → Array Value → Prop) (St : Nat → Heap → Prop) (Mid : Nat → Addr → Heap → Prop), WalksT P w X.A it fpW wr n Pt St Mid ∧ St i s.heap ∧ (∀ b ∈ wr, b ∈ fp) ∧ (∀ h', St (i + 1) h' → tn (i + 1) h') ∧ (J.go i H → i < n) ∧ (J.stop i H → i = n) ∧
        ∀ vals, Pt i vals → ∃ xs : List V, Vals xs vals.toList ∧ xs.length ≤ sizeLine ∧ ∀ T, H T = none → J.yld i H (.ref T) (upd H T (.tup xs))) : Turn P w K (.Tuple elts kk tpos) J fp it tn where
  mem := mem
  obj := obj
  keep := keep
  self := self
  item := by
    intro X hP hw hK hc i pins s σ H E I hf st hg
    obtain ⟨fpW, wr, n, Pt, St, Mid, W, hst, hwr, hnx, hgo, _, hy⟩ := get X hP hw hK hc i pins s σ H I st (.inl hg)
    subst hP hw
    refine W.item i s _ _ (hgo hg) hst fun T vals h' tk hPt hT tup mid hk => ⟨.ref T, rfl, ?_⟩
    have ap := W.apart i T h' mid
    refine W.go elts kk tpos i T { s with heap := h', toks := tk } _ _ mid fun h'' st'' hk'' => ?_
    obtain ⟨xs, rv, hz, yl⟩ := hy vals hPt
    have kk2 : ∀ b o, b ∉ fp → s.heap.get? b = some o → h''.get? b = some o := fun b o hb e => hk'' b o (fun z => hb (hwr b z)) (hk b o (fun z => hb (hwr b z)) e)
    have new : ObjOk X.prog X.w (upd H T (.tup xs)) h'' T (.tup xs) := ⟨hz, vals.toList, rv, by
      obtain ⟨o, ho, hc, m, hd⟩ := tup
      exact ⟨o, hk'' T o ap ho, hc, m, by simpa using hd⟩⟩
    have nT : H T = none := I.hok.fresh hT
    refine ⟨.ref T, _, I.turnedNew (t' := tk) (ch := fp) kk2 hf hT new, rfl, yl T nT, hnx _ st'', fun b hb => ?_⟩
    obtain ⟨o, ho, _⟩ := obj i s.heap st b hb
    rw [upd_ne (Nat.ne_of_lt (Nat.lt_of_lt_of_le (Heap.lt_size ho) hT))]
    exact (hf b hb).1
  done := by
    intro X hP hw hK hc i pins s σ H E I hf st hg
    obtain ⟨fpW, wr, n, Pt, St, Mid, W, hst, hwr, hnx, _, hsp, hy⟩ := get X hP hw hK hc i pins s σ H I st (.inr hg)
    have e := hsp hg
    subst e
    subst hP hw
    exact W.done s _ _ hst fun h' tk hk => ⟨rfl, I.turnedL (t' := tk) (ch := fp) (fun b o hb e => hk b o (fun z => hb (hwr b z)) e) hf⟩
/-! ### zip of a list and a tuple -/
def ItzM (K : PySem.W.Frag) (a b : Addr) : It :=
  ⟨fun i H => ∃ (xs ys : List V) (x y : V), SqL K H a xs ∧ SqT K H b ys ∧ xs[i]? = some x ∧ ys[i]? = some y,
    fun i H v H' => ∃ T x y, v = .ref T ∧ H T = none ∧ H' = upd H T (.tup [x, y]) ∧ (∀ xs, SqL K H a xs → xs[i]? = some x) ∧ ∀ ys, SqT K H b ys → ys[i]? = some y,
    fun i H => ∃ xs ys : List V, SqL K H a xs ∧ SqT K H b ys ∧ i = min xs.length ys.length⟩
theorem turnZipM {P : Program} {w : World} {K : PySem.W.Frag} {elts : List Expr} {kk : Nat} {tpos : Pos} {a b : Addr} {N : Nat} (ha : a < N) (hb : b < N) :
    Turn P w K (.Tuple elts kk tpos) (ItzM K a b) [N + 4, N + 2, N + 3, N, N + 1] (N + 4) (fun i h => IsZip h (N + 4) (N + 2) (N + 3) .none ∧ IsTupOf2 h (N + 2) (.ref N) (.ref (N + 1)) ∧ (∃ x y, IsTupOf2 h (N + 3) x y) ∧ h.IsListIter N a i ∧ h.IsTupleIter (N + 1) b i) := by
  refine turnOfWalk (by simp) (fun i h st c hc => ?_) (fun i h h' st k => ?_) (fun A i s Q E st h => wpAny_pyIter_zip st.1 h) fun X hP hw hK hc i pins s σ H I st hJ => ?_
  · obtain ⟨hz, hTI, ⟨x, y, hTO⟩, ⟨o1, e1, _, d1⟩, ⟨o2, e2, _, d2⟩⟩ := st
    have e' : c = N + 4 ∨ c = N + 2 ∨ c = N + 3 ∨ c = N ∨ c = N + 1 := by simpa using hc
    rcases e' with q | q | q | q | q
    · rw [q]; exact ⟨_, hz, fun v q => nomatch q⟩
    · rw [q]; exact ⟨_, hTI, fun v q => nomatch q⟩
    · rw [q]; exact ⟨_, hTO, fun v q => nomatch q⟩
    · rw [q]; exact ⟨o1, e1, fun v q => by rw [d1] at q; cases q⟩
    · rw [q]; exact ⟨o2, e2, fun v q => by rw [d2] at q; cases q⟩
  · obtain ⟨hz, hTI, ⟨x, y, hTO⟩, h1, h2⟩ := st
    exact ⟨k _ (by simp) _ hz, k _ (by simp) _ hTI, ⟨x, y, k _ (by simp) _ hTO⟩, h1.at fun o q => k _ (by simp) o q, h2.at fun o q => k _ (by simp) o q⟩
  · subst hP hw hK
    obtain ⟨xs, ys, qx, qy⟩ : ∃ xs ys, SqL X.K H a xs ∧ SqT X.K H b ys := by
      rcases hJ with ⟨xs, ys, _, _, h1, h2, _⟩ | ⟨xs, ys, h1, h2, _⟩
      · exact ⟨xs, ys, h1, h2⟩
      · exact ⟨xs, ys, h1, h2⟩
    obtain ⟨hz, hTI, hTO, h1, h2⟩ := st
    obtain ⟨its, rv, p, _⟩ := I.list qx
    obtain ⟨its2, rv2, p2, _⟩ := I.tuple qy
    have l1 := rv.length
    have l2 := rv2.length
    have hh : X.A.in1.handled = none := I.ok.hd hc
    have D1 := Draws.list (prog := X.prog) (w := X.w) (A := X.A.in1) hh N a (Nat.ne_of_lt ha) its.toArray
    have D2 := Draws.tuple (prog := X.prog) (w := X.w) (A := X.A.in1) hh (N + 1) b (Nat.ne_of_lt (Nat.lt_succ_of_lt hb)) its2.toArray
    have W := WalksT.zipD2 (A := X.A) (zip_sep2 (N := N) (fp1 := [a]) (fp2 := [b]) (fun c hc => by rw [List.mem_singleton.mp hc]; exact ha) (fun c hc => by rw [List.mem_singleton.mp hc]; exact hb)) D1 D2
    refine ⟨_, _, _, _, _, _, W, ⟨hz, hTI, hTO, ⟨h1, p.isList⟩, ⟨h2, p2⟩⟩, ?_, fun h' s' => ⟨s'.1, s'.2.1, s'.2.2.1, s'.2.2.2.1.1, s'.2.2.2.2.1⟩, ?_, ?_, ?_⟩
    · intro c hc
      have e' : c = N + 4 ∨ c = N + 3 ∨ c = N ∨ c = N + 1 := by simpa using hc
      rcases e' with q | q | q | q <;> rw [q] <;> simp
    · rintro ⟨xs', ys', x, y, g1, g2, g3, g4⟩
      rw [I.list_inj g1 qx] at g3
      rw [I.tuple_inj g2 qy] at g4
      have := (List.getElem?_eq_some_iff.mp g3).1
      have := (List.getElem?_eq_some_iff.mp g4).1
      simp; omega
    · rintro ⟨xs', ys', g1, g2, g3⟩
      rw [I.list_inj g1 qx, I.tuple_inj g2 qy] at g3
      simp; omega
    · rintro vals ⟨x1, x2, e1, e2, rfl⟩
      have e1' : its[i]? = some x1 := by simpa using e1
      have e2' : its2[i]? = some x2 := by simpa using e2
      have i1 := (List.getElem?_eq_some_iff.mp e1').1
      have i2 := (List.getElem?_eq_some_iff.mp e2').1
      have i1' : i < xs.length := by omega
      have i2' : i < ys.length := by omega
      obtain ⟨u1, hu1, r1⟩ := rv.get (List.getElem?_eq_getElem i1')
      obtain ⟨u2, hu2, r2⟩ := rv2.get (List.getElem?_eq_getElem i2')
      rw [e1'] at hu1
      rw [e2'] at hu2
      cases hu1
      cases hu2
      refine ⟨[xs[i], ys[i]], .cons r1 (.cons r2 .nil), by show 2 ≤ sizeLine; decide, fun T nT => ⟨T, _, _, rfl, nT, rfl, fun l hl => ?_, fun l hl => ?_⟩⟩
      · rw [I.list_inj hl qx]; exact List.getElem?_eq_getElem i1'
      · rw [I.tuple_inj hl qy]; exact List.getElem?_eq_getElem i2'
def iZipM (K : PySem.W.Frag) (ta : TA) : TI := fun σ H R => ta σ H fun vs H1 => ∃ a b xs ys, vs = [.ref a, .ref b] ∧ SqL K H1 a xs ∧ SqT K H1 b ys ∧ R (ItzM K a b) H1
theorem piZipM {X : Cx} {K : PySem.W.Frag} {e e2 : Expr} {ta : TA} {p pos tpos : Pos} {elts : List Expr} {kk : Nat} (hg : Gl X "zip") (hm : X.mg "zip" = none) (ha : PA X [e, e2] ta) (hs : starEach [e, e2] X.env = (false, eval e X.env) :: starEach [e2] X.env := by rfl)
    (hpl : (backTo pos (starEach [e2] X.env)).any (·.1) = false := by rfl) (hK : X.K = K := by rfl) : PI X (.Tuple elts kk tpos) (.Call (.Name "zip" p) [e, e2] [] pos) (iZipM K ta) := by
  subst hK
  refine ⟨fun pins s σ H R I h => ?_⟩
  refine Call_ (ld_blt I hg hm PyProof.Rows.boot_zip (PyProof.Rows.callWith_type1 (thn (ha.run pos pins s σ H _ I h) fun us s1 hh => ?_) hs hpl))
  obtain ⟨vs, H1, I1, r1, a, b, xs, ys, ex, qx, qy, q⟩ := hh
  subst ex
  cases r1 with
  | cons r rr =>
    cases rr with
    | cons r' rr =>
      cases rr
      cases r
      cases r'
      obtain ⟨its, rv, p1, _⟩ := I1.list qx
      obtain ⟨its2, rv2, p2, _⟩ := I1.tuple qy
      have la : a < s1.heap.objs.size := p1.lt
      have lb : b < s1.heap.objs.size := by obtain ⟨o, ho, _⟩ := id p2; exact Heap.lt_size ho
      refine zip_begins2 (begins_list a its.toArray) (begins_tuple b its2.toArray) p1.isList p2 fun h' hz hTI hTO o1 o2 hsz hk => wpAny_pyIter_zip hz ?_
      have I2 : Inv X pins σ H1 { s1 with heap := h' } := I1.kept (t' := s1.toks) hk
      refine ⟨s1.heap.objs.size + 4, [s1.heap.objs.size + 4, s1.heap.objs.size + 2, s1.heap.objs.size + 3, s1.heap.objs.size, s1.heap.objs.size + 1], _, _, H1, rfl, I2, turnZipM la lb, ⟨hz, hTI, ⟨_, _, hTO⟩, ⟨_, o1, rfl, rfl⟩, ⟨_, o2, rfl, rfl⟩⟩, fun c hcm => ?_, q⟩
      have e' : c = s1.heap.objs.size + 4 ∨ c = s1.heap.objs.size + 2 ∨ c = s1.heap.objs.size + 3 ∨ c = s1.heap.objs.size ∨ c = s1.heap.objs.size + 1 := by simpa using hcm
      have hle : s1.heap.objs.size ≤ c := by
        rcases e' with z | z | z | z | z <;> rw [z] <;> first | exact Nat.le_add_right _ _ | exact Nat.le_refl _
      exact I1.fpOk hle (I1.hok.fresh hle)
/-! ### enumerate over a tuple -/
set_option maxHeartbeats 4000000 in
theorem enumNew1 {v : Value} {o : Obj} {H : Heap → Prop} (Bg : Begins v o H) :
    Meets (Builtin.«enumerate.__new__» ⟨[.type "enumerate", v], []⟩) (fun _ R s => H s.heap ∧
      R (.ok (.ret (.ref (s.heap.push o).objs.size))) { s with heap := (s.heap.push o).push { cls := .type "enumerate", data := .fields #[.none, .bool false, .ref s.heap.objs.size, rawInt 0, .none, .none] } }) :=
  .of_wp fun prog w A R s h => by
    obtain ⟨hp, g, d, tk, os⟩ := s
    obtain ⟨h1, h2⟩ := h
    have hsub := sub_enumerate
    have q1 : ∀ {A' : Around} {E : Value → Shared → Prop} {Q : Value → Shared → Prop}, Q (.ref hp.objs.size) ⟨hp.push o, g, d, tk, os⟩ → wpAny (model prog w) A' (pyIter v) Q E ⟨hp, g, d, tk, os⟩ :=
      fun q => Bg.iter prog w _ _ ⟨hp, g, d, tk, os⟩ _ h1 q
    wp_walk using q1
    refine wpAny_stack_any fun st => wpAny_pure ?_
    split
    · rename_i c _ _ _ _ _
      cases (c == Value.type "enumerate") <;> (wp_walk using q1; exact ⟨_, rfl, h2⟩)
    · wp_walk using q1
      exact ⟨_, rfl, h2⟩
theorem enumTup {prog : Program} {w : World} {A : Around} {E : Value → Shared → Prop} {s : Shared} {v : Value} {o : Obj} {H : Heap → Prop} {Q : Value → Shared → Prop} (Bg : Begins v o H) (h1 : H s.heap)
    (h : ∀ h', IsEnum h' (s.heap.objs.size + 1) s.heap.objs.size 0 .none → h'.get? s.heap.objs.size = some o → h'.objs.size = s.heap.objs.size + 2 → (∀ b o, s.heap.get? b = some o → h'.get? b = some o) → Q (.ref (s.heap.objs.size + 1)) { s with heap := h' }) :
    wpAny (model prog w) A (call (.type "enumerate") [v]) Q E s := by
  refine callType_new F.called_enumerate (by decide) (F.typeCall_enumerate_1 _) (F.newCall_enumerate_1 _) (fun obj => F.args_object_init_2 obj _) F.entry_enumerate_new (enumNew1 Bg) ⟨h1, ?_⟩
  have hz : (s.heap.push o).objs.size = s.heap.objs.size + 1 := Heap.size_push ..
  show _ ∧ _
  rw [hz]
  have he : IsEnum ((s.heap.push o).push { cls := .type "enumerate", data := .fields #[.none, .bool false, .ref s.heap.objs.size, rawInt 0, .none, .none] }) (s.heap.objs.size + 1) s.heap.objs.size 0 .none := by
    have q := Heap.get?_push_size (s.heap.push o) (o := { cls := .type "enumerate", data := .fields #[.none, .bool false, .ref s.heap.objs.size, rawInt 0, .none, .none] }) rfl
    rw [hz] at q
    exact q
  exact ⟨⟨_, he, rfl⟩, h _ he (Heap.get?_push_of_some _ (Heap.get?_push_size _ Bg.free)) (by rw [Heap.size_push, hz]) fun b o x => Heap.get?_push_of_some _ (Heap.get?_push_of_some _ x)⟩
def IteT (K : PySem.W.Frag) (a : Addr) : It :=
  ⟨fun i H => ∃ (xs : List V) (x : V), SqT K H a xs ∧ xs[i]? = some x, fun i H v H' => ∃ T x, v = .ref T ∧ H T = none ∧ H' = upd H T (.tup [.int (i : Nat), x]) ∧ ∀ xs, SqT K H a xs → xs[i]? = some x, fun i H => ∃ xs : List V, SqT K H a xs ∧ i = xs.length⟩
theorem turnEnumT {P : Program} {w : World} {K : PySem.W.Frag} {elts : List Expr} {kk : Nat} {tpos : Pos} {a : Addr} {N : Nat} (ha : a < N) :
    Turn P w K (.Tuple elts kk tpos) (IteT K a) [N + 1, N] (N + 1) (fun i h => (∃ old, IsEnum h (N + 1) N ((i : Nat) : Int) old) ∧ h.IsTupleIter N a i) := by
  refine turnOfWalk (by simp) (fun i h st c hc => ?_) (fun i h h' st k => ?_) (fun A i s Q E st h => let ⟨⟨_, he⟩, _⟩ := st; wpAny_pyIter_enum he h) fun X hP hw hK hc i pins s σ H I st hJ => ?_
  · obtain ⟨⟨old, he⟩, ⟨o1, e1, _, d1⟩⟩ := st
    have e' : c = N + 1 ∨ c = N := by simpa using hc
    rcases e' with q | q
    · rw [q]; exact ⟨_, he, fun v q => nomatch q⟩
    · rw [q]; exact ⟨o1, e1, fun v q => by rw [d1] at q; cases q⟩
  · obtain ⟨⟨old, he⟩, h1⟩ := st
    exact ⟨⟨old, k _ (by simp) _ he⟩, h1.at fun o q => k _ (by simp) o q⟩
  · subst hP hw hK
    obtain ⟨xs, qx⟩ : ∃ xs, SqT X.K H a xs := by
      rcases hJ with ⟨xs, _, h1, _⟩ | ⟨xs, h1, _⟩
      · exact ⟨xs, h1⟩
      · exact ⟨xs, h1⟩
    obtain ⟨he, h1⟩ := st
    obtain ⟨its, rv, p, _⟩ := I.tuple qx
    have l1 := rv.length
    have hh : X.A.in1.handled = none := I.ok.hd hc
    have D1 := Draws.tuple (prog := X.prog) (w := X.w) (A := X.A.in1) hh N a (Nat.ne_of_lt ha) its.toArray
    have W := WalksT.enumerateD (A := X.A) D1 (N + 1) (Nat.succ_ne_self _) (fun hm => by
      rcases List.mem_cons.mp hm with e | hm
      · exact Nat.succ_ne_self _ e
      · exact Nat.ne_of_gt (Nat.lt_succ_of_lt ha) (List.mem_singleton.mp hm)) (by simp)
    refine ⟨_, _, _, _, _, _, W, ⟨he, h1, p⟩, ?_, fun h' s' => ⟨s'.1, s'.2.1⟩, ?_, ?_, ?_⟩
    · intro c hc
      have e' : c = N + 1 ∨ c = N := by simpa using hc
      rcases e' with q | q <;> rw [q] <;> simp
    · rintro ⟨xs', x, g1, g3⟩
      rw [I.tuple_inj g1 qx] at g3
      have := (List.getElem?_eq_some_iff.mp g3).1
      simp; omega
    · rintro ⟨xs', g1, g3⟩
      rw [I.tuple_inj g1 qx] at g3
      simp; omega
    · rintro vals ⟨t, x1, e1, rfl⟩
      have e1' : its[i]? = some x1 := by simpa using e1
      have i1 := (List.getElem?_eq_some_iff.mp e1').1
      have i1' : i < xs.length := by omega
      obtain ⟨u1, hu1, r1⟩ := rv.get (List.getElem?_eq_getElem i1')
      rw [e1'] at hu1
      cases hu1
      refine ⟨[.int (i : Nat), xs[i]], .cons ⟨t, rfl⟩ (.cons r1 .nil), by show 2 ≤ sizeLine; decide, fun T nT => ⟨T, _, rfl, nT, rfl, fun l hl => ?_⟩⟩
      rw [I.tuple_inj hl qx]; exact List.getElem?_eq_getElem i1'
def iEnumT (K : PySem.W.Frag) (ta : TA) : TI := fun σ H R => ta σ H fun vs H1 => ∃ a xs, vs = [.ref a] ∧ SqT K H1 a xs ∧ R (IteT K a) H1
theorem enumTk {X : Cx} {K : PySem.W.Frag} {e : Expr} {ta : TA} {p pos tpos : Pos} {elts : List Expr} {kk : Nat} (hg : Gl X "enumerate") (hm : X.mg "enumerate" = none) (ha : PA X [e] ta) (hs : starEach [e] X.env = [(false, eval e X.env)] := by rfl) (hK : X.K = K := by rfl) :
    PI X (.Tuple elts kk tpos) (.Call (.Name "enumerate" p) [e] [] pos) (iEnumT K ta) := by
  subst hK
  refine ⟨fun pins s σ H R I h => ?_⟩
  refine Call_ (ld_blt I hg hm boot_enumerate (PyProof.Rows.callWith_type1 (thn (ha.run pos pins s σ H _ I h) fun us s1 hh => ?_) hs rfl))
  obtain ⟨vs, H1, I1, r1, a, xs, ex, qx, q⟩ := hh
  subst ex
  cases r1 with
  | cons r rr =>
    cases rr
    cases r
    obtain ⟨its, rv, p2, _⟩ := I1.tuple qx
    have la : a < s1.heap.objs.size := by obtain ⟨o, ho, _⟩ := id p2; exact Heap.lt_size ho
    refine enumTup (begins_tuple a its.toArray) p2 fun h' he o1 hsz hk => wpAny_pyIter_enum he ?_
    have I2 : Inv X pins σ H1 { s1 with heap := h' } := I1.kept (t' := s1.toks) hk
    refine ⟨s1.heap.objs.size + 1, [s1.heap.objs.size + 1, s1.heap.objs.size], _, _, H1, rfl, I2, turnEnumT la, ⟨⟨_, he⟩, ⟨_, o1, rfl, rfl⟩⟩, fun c hcm => ?_, q⟩
    have e' : c = s1.heap.objs.size + 1 ∨ c = s1.heap.objs.size := by simpa using hcm
    have hle : s1.heap.objs.size ≤ c := by
      rcases e' with z | z <;> rw [z] <;> first | exact Nat.le_add_right _ _ | exact Nat.le_refl _
    exact I1.fpOk hle (I1.hok.fresh hle)
end Bp

set_option Elab.async false
set_option linter.all false
set_option maxRecDepth 100000
set_option maxHeartbeats 4000000
namespace Bp
open PySem PySem.Spec PyProof.Rows L2 Evl
abbrev s_lawJoinedStore : Stmt := topS 44
abbrev N_lawJoinedStore : List Str := ["_law_deal", "_law_most", "_law_sizes_here", "_law_form", "_law_rows", "_law_keys", "_law_some", "_law_low", "_law_way", "_law_states", "_law_one", "_law_other", "_law_p", "_law_q", "_law_turn", "_law_row", "_law_top", "_law_key"]
theorem sc_lawJoinedStore : FnScope N_lawJoinedStore ["_law_deal", "_law_most"] (defScope s_lawJoinedStore) := ⟨rfl, rfl, rfl, by decide +kernel, rfl, by decide +kernel, by decide +kernel⟩
/-- sizes and states, in a new tuple -/
def StoreT (H : Hp) (v : V) : Prop := ∃ (t z s : Addr) (sz : List Int) (ys : List V) (rs : List Row), v = .ref t ∧ H t = some (.tup [.ref z, .ref s]) ∧ H z = some (.lst (sz.map V.int)) ∧ H s = some (.lst ys) ∧ RowsOf H ys rs ∧ StOk sz rs
theorem StoreT.up {H H' : Hp} {v : V} (h : StoreT H v) (e : Ex H H') : StoreT H' v :=
  let ⟨t, z, s, sz, ys, rs, h1, h2, h3, h4, h5, h6⟩ := h; ⟨t, z, s, sz, ys, rs, h1, e _ _ h2, e _ _ h3, e _ _ h4, h5.up e, h6⟩
def spStore : Sp := fun vs H Q _ => ∃ (dv : V), vs = [dv, .int 6] ∧ Deal H dv ∧ ∀ v H', Ex H H' → StoreT H' v → Q v H'
/-- [row for row in rows if TEST]: some of the rows, in their order; among them all that kp tells -/
theorem lcSub {K : PySem.W.Frag} {a D : Addr} {xs : List V} {rs : List Row} {g : TG} {tt : TT} {te : TE} {vs : List Nat} {σ : L2.St} {H1 : Hp} {Qd : Hp → Prop} (kp : Row → Prop) (hD : H1 D = none) (src : SqL K H1 a xs) (rr : RowsOf H1 xs rs) (hsz : xs.length ≤ 100000)
    (hs : ∀ (i : Nat) (x : V) (r : Row), xs[i]? = some x → rs[i]? = some r → IntT H1 x r → ∀ (H : Hp) (Cy : V → Hp → Prop) (Cn : Hp → Prop), Ex H1 H → (∀ H', Ex H H' → Cy x H') → (∀ H', Ex H H' → ¬ kp r → Cn H') → g x (wipe σ vs) H fun σ2 H2 => wipe σ2 vs = wipe σ vs ∧ tt σ2 H2 fun b H3 => if b = true then te σ2 H3 Cy else Cn H3)
    (hd : ∀ acc rs' H, Ex H1 H → H D = some (.lst acc) → RowsOf H acc rs' → rs'.Sublist rs → (∀ r ∈ rs, kp r → r ∈ rs') → Qd H) :
    ∃ W : Nat → Nat → Hp → Prop, (∃ m, W 0 m (upd H1 D (.lst []))) ∧ ∀ i m H, W i m H →
      ((Itl K a).stop i H ∧ Qd H) ∨ ((Itl K a).go i H ∧ ∃ Nx : Hp → Prop, (∀ H', Nx H' → ∃ m', m' < m ∧ W (i + 1) m' H') ∧ ∀ x H', (Itl K a).yld i H x H' → g x (wipe σ vs) H' fun σ2 H2 => wipe σ2 vs = wipe σ vs ∧ tt σ2 H2 fun b H3 =>
        if b = true then te σ2 H3 fun y H4 => ∃ acc, H4 D = some (.lst acc) ∧ acc.length < sizeLine ∧ Nx (upd H4 D (.lst (acc ++ [y]))) else Nx H3) := by
  refine lcL (xs := xs) (fun i acc H' => ∃ rs', RowsOf H' acc rs' ∧ rs'.Sublist (rs.take i) ∧ ∀ r ∈ rs.take i, kp r → r ∈ rs') hD ?_ ⟨[], .nil, by simp, by simp⟩ (fun _ _ _ => ⟨[], .nil, by simp, by simp⟩) src hsz ?_ ?_
  · rintro i acc H D l o _ _ hl ⟨rs', h1, h2⟩
    exact ⟨rs', h1.wr hl, h2⟩
  · rintro i x hx acc H Cy Cn e ⟨rs', h1, h2, h3⟩ cy cn
    obtain ⟨r, hr, hxr⟩ := pairedGet rr hx
    refine hs i x r hx hr hxr H Cy Cn e (fun H' e' => cy x H' e' ⟨rs' ++ [r], (h1.up e').snoc ((hxr.up e).up e'), ?_, fun q hq k => ?_⟩) (fun H' e' nk => cn H' e' ⟨rs', h1.up e', ?_, fun q hq k => ?_⟩)
    · rw [take_snoc hr]; exact h2.append (List.Sublist.refl _)
    · rw [take_snoc hr] at hq
      rcases List.mem_append.mp hq with hq | hq
      · exact List.mem_append_left _ (h3 q hq k)
      · exact List.mem_append_right _ hq
    · rw [take_snoc hr]; exact h2.trans (List.sublist_append_left _ _)
    · rw [take_snoc hr] at hq
      rcases List.mem_append.mp hq with hq | hq
      · exact h3 q hq k
      · rw [List.mem_singleton.mp hq] at k; exact absurd k nk
  · rintro acc H e hl ⟨rs', h1, h2, h3⟩ _
    rw [show xs.length = rs.length from rr.length, List.take_length] at h2 h3
    exact hd acc rs' H e hl h1 h2 h3
/-- a row with a told sum -/
theorem sumRow : ∀ (sz : List Int), (∀ n ∈ sz, 1 ≤ n) → ∀ t : Int, 0 ≤ t → t ≤ sz.sum - sz.length → ∃ r, RowOk sz r ∧ r.sum = t := by
  intro sz
  induction sz with
  | nil => intro _ t h0 h1; exact ⟨[], ⟨rfl, fun i x n h => by simp at h⟩, by simp at h1 ⊢; omega⟩
  | cons n sz ih =>
    intro h t h0 h1
    have hn := h n List.mem_cons_self
    have h2 : (0 : Int) ≤ sz.sum - sz.length := by
      have : ∀ l : List Int, (∀ n ∈ l, 1 ≤ n) → (0 : Int) ≤ l.sum - l.length := by
        intro l
        induction l with
        | nil => intro _; simp
        | cons m l ih =>
          intro h
          have h1 := h m List.mem_cons_self
          have h2 := ih fun k hk => h k (List.mem_cons_of_mem _ hk)
          simp only [List.sum_cons, List.length_cons]
          omega
      exact this sz fun m hm => h m (List.mem_cons_of_mem _ hm)
    simp only [List.sum_cons, List.length_cons] at h1
    obtain ⟨x, x0, xn, xt⟩ : ∃ x : Int, 0 ≤ x ∧ x < n ∧ 0 ≤ t - x ∧ t - x ≤ sz.sum - sz.length := by
      by_cases c : t ≤ n - 1
      · exact ⟨t, h0, by omega, by omega, by omega⟩
      · exact ⟨n - 1, by omega, by omega, by omega, by omega⟩
    obtain ⟨r, hr, hs⟩ := ih (fun m hm => h m (List.mem_cons_of_mem _ hm)) (t - x) xt.1 xt.2
    refine ⟨x :: r, ⟨by simp [hr.len], fun i y m g1 g2 => ?_⟩, by simp [hs]; omega⟩
    cases i with
    | zero => simp at g1 g2; subst g1; subst g2; exact ⟨x0, xn⟩
    | succ i => exact hr.each i y m (by simpa using g1) (by simpa using g2)
theorem sizesSum {sz : List Int} (ok : SzOk sz) : (0 : Int) ≤ sz.sum - sz.length ∧ sz.sum ≤ 16 := by
  have h : ∀ l : List Int, (∀ n ∈ l, 1 ≤ n ∧ n ≤ 4) → (0 : Int) ≤ l.sum - l.length ∧ l.sum ≤ 4 * l.length := by
    intro l
    induction l with
    | nil => intro _; simp
    | cons m l ih =>
      intro h
      have h1 := h m List.mem_cons_self
      have h2 := ih fun k hk => h k (List.mem_cons_of_mem _ hk)
      simp only [List.sum_cons, List.length_cons]
      omega
  have h1 := h sz ok.each
  have := ok.len
  exact ⟨h1.1, by omega⟩
theorem StoreT.mk {H : Hp} {t z s : Addr} {sz : List Int} {ys : List V} {rs : List Row} (nt : H t = none) (hz : H z = some (.lst (sz.map V.int))) (hs : H s = some (.lst ys)) (rr : RowsOf H ys rs) (ok : StOk sz rs) : StoreT (upd H t (.tup [.ref z, .ref s])) (.ref t) :=
  ⟨t, z, s, sz, ys, rs, rfl, upd_same, Ex.new nt _ _ hz, Ex.new nt _ _ hs, rr.up (Ex.new nt), ok⟩
/-- the row of a key of the sizes -/
theorem rowKey {r : Row} {n k : Nat} (hl : r.length = n) (hk : k < n) : ∃ x : Int, r[k]? = some x ∧ atI (r.map V.int) (k : Int) = some (.int x) := rowAt' (by omega)
theorem eqI {a b : Int} (h : decide (V.int a = V.int b) = true) : a = b := V.int.inj (of_decide_eq_true h)
theorem neI {a b : Int} (h : decide (V.int a = V.int b) = false) : a ≠ b := fun e => of_decide_eq_false h (congrArg V.int e)
theorem rgAt {n i : Nat} {x : V} (h : (rgV 0 (n : Int))[i]? = some x) : i < n ∧ x = .int (i : Int) := by
  unfold rgV at h
  rw [List.getElem?_map] at h
  have e : ((n : Int) - 0).toNat = n := by omega
  rw [e] at h
  by_cases c : i < n
  · rw [List.getElem?_range c] at h
    exact ⟨c, by simpa using (Option.some.inj h).symm⟩
  · rw [List.getElem?_eq_none (by simp; omega)] at h
    cases h
theorem rowsTake {H : Hp} : ∀ (k : Nat) {vs : List V} {rs : List Row}, RowsOf H vs rs → RowsOf H (vs.take k) (rs.take k)
  | 0, _, _, _ => by simp; exact .nil
  | k + 1, _, _, .nil => by simp; exact .nil
  | k + 1, _, _, .cons a b => by simp; exact .cons a (rowsTake k b)
theorem ne_sub {rs' : List Row} {r : Row} (h : r ∈ rs') : rs' ≠ [] := by intro z; subst z; simp at h
section
variable {P : Program} {w : World} {K : PySem.W.Frag} {mg : Str → Option Value} {base : Heap}
theorem ok_lawJoinedStore {f fS fA fL fO fJ : Addr} {fd fdS fdA fdL fdO fdJ : FuncData} (F : Fun K "_law_joined_store" "_law_joined_store" s_lawJoinedStore f fd) (B : Blt mg)
    (D_lawSizes : Dn K mg "_law_sizes" s_lawSizes ["_law_deal", "_law_most"] fS fdS) (G_lawSizes : FnOk P w K mg base CX0 3 fS fdS ["_law_deal", "_law_most"] spSizes)
    (D_lawAny : Dn K mg "_law_any" s_lawAny ["_law_deal", "_law_bound"] fA fdA) (G_lawAny : FnOk P w K mg base CX0 1 fA fdA ["_law_deal", "_law_bound"] spAny)
    (D_lawAll : Dn K mg "_law_all" s_lawAll ["_law_sizes_here"] fL fdL) (G_lawAll : FnOk P w K mg base CX0 1 fL fdL ["_law_sizes_here"] spAll)
    (D_lawOf : Dn K mg "_law_of" s_lawOf ["_law_deal", "_law_some"] fO fdO) (G_lawOf : FnOk P w K mg base CX0 2 fO fdO ["_law_deal", "_law_some"] spOf)
    (D_lawJoined : Dn K mg "_law_joined" s_lawJoined ["_law_states"] fJ fdJ) (G_lawJoined : FnOk P w K mg base CX0 3 fJ fdJ ["_law_states"] spJoined) : FnOk P w K mg base CX0 4 f fd ["_law_deal", "_law_most"] spStore := by
  refine F.ok sc_lawJoinedStore (fun vs H Q E h => ?_) (fun cdv A outer s H vs Q E hr h => ?_)
  · obtain ⟨dv, rfl, _⟩ := h
    rfl
  · obtain ⟨dv, rfl, hd, q⟩ := h
    refine ⟨_, (pss_cons (ps_asg (pe_tup (pa_cons (pe_call G_lawSizes (hr.mono (by decide)) (by rfl) D_lawSizes.g D_lawSizes.F.kp D_lawSizes.b .nil pass0 (pa_cons (pv 0) (pa_cons (pv 1) pa_nil))) (pa_cons (pe_call G_lawAny (hr.mono (by decide)) (by rfl) D_lawAny.g D_lawAny.F.kp D_lawAny.b .nil pass0 (pa_cons (pv 0) (pa_cons pe_int pa_nil))) pa_nil))) (pgTk (K := K) (n := 2) rfl (pgs_cons (pg_name (i := 2) sc_lawJoinedStore.nd rfl (Or.inr rfl)) (pgs_cons (pg_name (i := 3) sc_lawJoinedStore.nd rfl (Or.inr rfl)) pgs_nil))))
  (pss_cons (ps_asg (pe_tup (pa_cons (pe_call G_lawAll (hr.mono (by decide)) (by rfl) D_lawAll.g D_lawAll.F.kp D_lawAll.b .nil pass0 (pa_cons (pv 2) pa_nil)) (pa_cons (pe_listRg rfl (by rfl) B.list (prg_1 (by rfl) B.range (pe_callB (lenk (K := K)) (by rfl) B.len bt_len (pa_cons (pv 2) pa_nil)))) pa_nil))) (pgTk (K := K) (n := 2) rfl (pgs_cons (pg_name (i := 4) sc_lawJoinedStore.nd rfl (Or.inr rfl)) (pgs_cons (pg_name (i := 5) sc_lawJoinedStore.nd rfl (Or.inr rfl)) pgs_nil))))
  (pss_cons (ps_set (i := 6) sc_lawJoinedStore.nd rfl (.inr rfl) (lck (own := [("_law_turn", 14)]) rfl sc_lawJoinedStore.nd (show blkC N_lawJoinedStore (defScope s_lawJoinedStore) _ _ = true by decide +kernel) (pi_range1 (by rfl) B.range (pa_cons (pe_op op_add pe_int (pe_call G_lawAny (hr.mono (by decide)) (by rfl) D_lawAny.g D_lawAny.F.kp D_lawAny.b .nil pass0 (pa_cons (pv 0) (pa_cons pe_int pa_nil)))) pa_nil)) (fun _ _ _ _ _ => (pg_name (i := 14) sc_lawJoinedStore.nd rfl (Or.inl rfl))) (fun _ _ _ _ _ => pts_nil) (fun _ _ _ _ _ => (pe_call G_lawOf (hr.mono (by decide)) (by rfl) D_lawOf.g D_lawOf.F.kp D_lawOf.b .nil pass0 (pa_cons (pv 0) (pa_cons (pv 4) pa_nil))))))
  (pss_cons (ps_if (pt_cmpR op_lt (pv 3) pe_int (nomark _))
    (pss_cons (ps_set (i := 7) sc_lawJoinedStore.nd rfl (.inr rfl) (pe_call G_lawAny (hr.mono (by decide)) (by rfl) D_lawAny.g D_lawAny.F.kp D_lawAny.b .nil pass0 (pa_cons (pv 0) (pa_cons (pe_op op_add (pe_op op_sub (pe_callB (sumk rfl (K := K)) (by rfl) B.sum bt_sum (pa_cons (pv 2) pa_nil)) (pe_callB (lenk (K := K)) (by rfl) B.len bt_len (pa_cons (pv 2) pa_nil))) pe_int) pa_nil))))
  (pss_one (ps_ret (pe_tup (pa_cons (pv 2) (pa_cons (lck (own := [("_law_row", 15)]) rfl sc_lawJoinedStore.nd (show blkC N_lawJoinedStore (defScope s_lawJoinedStore) _ _ = true by decide +kernel) (piLk (K := K) (pv 4)) (fun _ _ _ _ _ => (pg_name (i := 15) sc_lawJoinedStore.nd rfl (Or.inl rfl))) (fun _ _ _ _ _ => (pts_one (pt_chain op_le op_le (pv 7) (pe_callB (sumTk rfl (K := K)) (by rfl) B.sum bt_sum (pa_cons (pv 15) pa_nil)) (pe_op op_add (pe_op op_add (pv 7) pe_int) (pv 3))))) (fun _ _ _ _ _ => (pv 15))) pa_nil))))))
    pss_nil)
  (pss_cons (ps_if (PW.pt (pw_or (pt_cmpR op_eq (pv 3) pe_int (nomark _)) (pw_or1 (pt_cmpR op_eq (pv 3) pe_int (nomark _)))))
    (pss_cut (ps_set (i := 8) sc_lawJoinedStore.nd rfl (.inr rfl) (pe_ifExp (pt_cmpR op_eq (pv 3) pe_int (nomark _)) pe_int (pe_un un_neg pe_int)))
  (pss_cons (ps_setLc (i := 9) (own := [("_law_row", 15)]) rfl sc_lawJoinedStore.nd rfl rfl (sw_true rfl rfl rfl (by decide +kernel)) (piLk (K := K) (pv 4)) (blkOk_by (show blkC N_lawJoinedStore (defScope s_lawJoinedStore) _ _ = true by decide +kernel)) (fun _ _ _ _ _ => (pg_name (i := 15) sc_lawJoinedStore.nd rfl (Or.inr rfl))) (fun _ _ _ _ _ => (pts_one (pt_cmpR (neDk hr.units (K := K)) (lck (own := [("_law_top", 16)]) rfl sc_lawJoinedStore.nd (by kernel_rfl) (piLk (K := K) (pv 6)) (fun _ _ _ _ _ => (pg_name (i := 16) sc_lawJoinedStore.nd rfl (Or.inr rfl))) (fun _ _ _ _ _ => (pts_one (pt_cmpR (eqDk hr.units (K := K)) (lck (own := [("_law_key", 17)]) rfl sc_lawJoinedStore.nd (by kernel_rfl) (piLk (K := K) (pv 5)) (fun _ _ _ _ _ => (pg_name (i := 17) sc_lawJoinedStore.nd rfl (Or.inl rfl))) (fun _ _ _ _ _ => (pts_one (pt_cmpR op_gt (pe_op op_mul (pv 8) (pe_ix (ixTk (K := K)) (pv 15) (pv 17) (fun _ _ => rfl))) (pe_op op_mul (pv 8) (pe_ix (ixTk (K := K)) (pv 16) (pv 17) (fun _ _ => rfl))) (nomark _)))) (fun _ _ _ _ _ => (pv 17))) (pe_lst pa_nil) (nomark _)))) (fun _ _ _ _ _ => (pv 16))) (pe_lst pa_nil) (nomark _)))) (fun _ _ _ _ _ => (pv 15)))
  (pss_one (ps_ret (pe_tup (pa_cons (pv 2) (pa_cons (pv 9) pa_nil)))))))
    pss_nil)
  (pss_cons (ps_if (PW.pt (pw_and (pt_cmpR op_eq (pv 3) pe_int (nomark _)) (pw_and1 (pt_cmpR op_gt (pe_callB (lenk (K := K)) (by rfl) B.len bt_len (pa_cons (pv 2) pa_nil)) pe_int (nomark _)))))
    (pss_cons (ps_asg (pe_tup (pa_cons pe_int (pa_cons (pe_op op_sub (pe_callB (lenk (K := K)) (by rfl) B.len bt_len (pa_cons (pv 2) pa_nil)) pe_int) (pa_cons (pe_op op_add pe_int (pe_call G_lawAny (hr.mono (by decide)) (by rfl) D_lawAny.g D_lawAny.F.kp D_lawAny.b .nil pass0 (pa_cons (pv 0) (pa_cons pe_int pa_nil)))) (pa_cons (pe_op op_add pe_int (pe_call G_lawAny (hr.mono (by decide)) (by rfl) D_lawAny.g D_lawAny.F.kp D_lawAny.b .nil pass0 (pa_cons (pv 0) (pa_cons pe_int pa_nil)))) pa_nil))))) (pgTk (K := K) (n := 4) rfl (pgs_cons (pg_name (i := 10) sc_lawJoinedStore.nd rfl (Or.inr rfl)) (pgs_cons (pg_name (i := 11) sc_lawJoinedStore.nd rfl (Or.inr rfl)) (pgs_cons (pg_name (i := 12) sc_lawJoinedStore.nd rfl (Or.inr rfl)) (pgs_cons (pg_name (i := 13) sc_lawJoinedStore.nd rfl (Or.inr rfl)) pgs_nil))))))
  (pss_one (ps_ret (pe_tup (pa_cons (pv 2) (pa_cons (lck (own := [("_law_row", 15)]) rfl sc_lawJoinedStore.nd (show blkC N_lawJoinedStore (defScope s_lawJoinedStore) _ _ = true by decide +kernel) (piLk (K := K) (pv 4)) (fun _ _ _ _ _ => (pg_name (i := 15) sc_lawJoinedStore.nd rfl (Or.inl rfl))) (fun _ _ _ _ _ => (pts_one (PW.pt (pw_or (pt_cmpR op_lt (pe_ix (ixTk (K := K)) (pv 15) (pv 10) (fun _ _ => rfl)) (pv 12) (nomark _)) (pw_or1 (pt_cmpR op_ge (pe_ix (ixTk (K := K)) (pv 15) (pv 11) (fun _ _ => rfl)) (pe_callB (call_min2 rfl) (by rfl) B.min bt_min (pa_cons (pv 13) (pa_cons (pe_op op_sub (pe_ix (ixLk (K := K)) (pv 2) (pv 11) (fun _ _ => rfl)) pe_int) pa_nil))) (nomark _))))))) (fun _ _ _ _ _ => (pv 15))) pa_nil))))))
    pss_nil)
  (pss_cons (ps_if (PW.pt (pw_or (pt_cmpR op_eq (pv 3) pe_int (nomark _)) (pw_or1 (pt_cmpR op_eq (pv 3) pe_int (nomark _)))))
    (pss_cons (ps_set (i := 9) sc_lawJoinedStore.nd rfl (.inl rfl) (pe_slice (slLk (K := K)) (lck (own := [("_law_row", 15)]) rfl sc_lawJoinedStore.nd (show blkC N_lawJoinedStore (defScope s_lawJoinedStore) _ _ = true by decide +kernel) (piLk (K := K) (pv 4)) (fun _ _ _ _ _ => (pg_name (i := 15) sc_lawJoinedStore.nd rfl (Or.inl rfl))) (fun _ _ _ _ _ => (pts_one (pt_cmpR op_gt (pe_call G_lawAny (hr.mono (by decide)) (by rfl) D_lawAny.g D_lawAny.F.kp D_lawAny.b .nil pass0 (pa_cons (pv 0) (pa_cons pe_int pa_nil))) pe_int (nomark _)))) (fun _ _ _ _ _ => (pv 15))) po_none (po_some pe_int)))
  (pss_one (ps_if (PW.pt (pw_and (pt_cmpR (neDk hr.units (K := K)) (pv 9) (pe_lst pa_nil) (nomark _)) (pw_and1 (pt_val (pe_call G_lawJoined (hr.mono (by decide)) (by rfl) D_lawJoined.g D_lawJoined.F.kp D_lawJoined.b .nil pass0 (pa_cons (pv 9) pa_nil))))))
    (pss_one (ps_ret (pe_tup (pa_cons (pv 2) (pa_cons (pv 9) pa_nil)))))
    pss_nil)))
    pss_nil)
  (pss_one (ps_ret (pe_tup (pa_cons (pv 2) (pa_cons (pv 4) pa_nil)))))))))))), ?_⟩
    -- sizes_here, form = sizes(deal, most), any(deal, 8)
    refine ⟨dv, rfl, .int 6, rfl, dv, rfl, hd, fun z sz H1 nz e1 hz ok => ?_⟩
    refine ⟨dv, rfl, dv, 8, rfl, hd.up e1, by omega, by omega, fun form H2 e2 f0 f8 => ?_⟩
    refine ⟨by show 2 ≤ sizeLine; decide, fun t nt => ?_⟩
    have e3 := Ex.new (o := .tup [.ref z, .int form]) nt
    refine ⟨t, _, rfl, SqT.of upd_same, rfl, _, _, rfl, _, _, rfl, rfl, ?_⟩
    have e03 := (e1.trans e2).trans e3
    have hz3 := (e2.trans e3) _ _ hz
    -- rows, keys
    refine ⟨.ref z, rfl, z, sz, rfl, hz3, ok, fun r ys H4 nr e4 hr rr => ?_⟩
    have hl6 : ys.length ≤ 6 := by rw [rr.length]; exact ok.rows
    refine ⟨.ref z, rfl, _, sz.length, rfl, .inl ⟨_, SqL.of (e4 _ _ hz3), by rw [List.length_map]⟩, ?_⟩
    refine ⟨sz.length, rfl, ⟨by omega, by omega, by omega, by have := ok.len; omega, by have := ok.len; omega⟩, fun kl nkl => ?_⟩
    have e5 := Ex.new (o := .lst (rgV 0 (sz.length : Int))) nkl
    refine ⟨by show 2 ≤ sizeLine; decide, fun t2 nt2 => ?_⟩
    have e6 := Ex.new (o := .tup [.ref r, .ref kl]) nt2
    refine ⟨t2, _, rfl, SqT.of upd_same, rfl, _, _, rfl, _, _, rfl, rfl, ?_⟩
    have e06 := ((e03.trans e4).trans e5).trans e6
    have hz6 := (e4.trans (e5.trans e6)) _ _ hz3
    have hr6 := (e5.trans e6) _ _ hr
    have rr6 := rr.up (e5.trans e6)
    have hkl6 := e6 _ _ (upd_same (H := H4) (a := kl) (o := .lst (rgV 0 (sz.length : Int))))
    -- some
    refine ⟨dv, rfl, dv, 4, rfl, hd.up e06, by omega, by omega, fun more H7 e7 m0 m4 => ?_⟩
    refine ⟨_, _, rfl, rfl, _, rfl, by omega, by omega, fun D0 nD => ?_⟩
    refine lcR (n := ((1 + more : Int)).toNat) (fun i acc H' => ∃ tops, RowsOf H' acc tops ∧ (∀ u ∈ tops, u ∈ allRows sz) ∧ tops.length = i) nD ?_ ⟨[], .nil, by simp, rfl⟩ (fun _ _ _ => ⟨[], .nil, by simp, rfl⟩) (by omega) ?_ ?_
    · rintro i acc H D l o _ _ hl ⟨rs', h1, h2⟩
      exact ⟨rs', h1.wr hl, h2⟩
    · rintro i hi acc H8 Cy Cn e8 ⟨tops, rt, ht, hlt⟩ cy _
      refine ⟨rfl, tYesE ⟨dv, rfl, .ref r, rfl, dv, r, ys, rfl, (hd.up (e06.trans e7)).up e8, (e7.trans e8) _ _ hr6, ?_, by omega, fun x H9 e9 hx => cy x H9 e9 ?_⟩⟩
      · intro z2; subst z2
        have := rr.length
        exact ok.rows_ne (List.length_eq_zero_iff.mp this.symm)
      · obtain ⟨u, hu, hxu⟩ := pairedMem rr hx
        refine ⟨tops ++ [u], (rt.up e9).snoc (hxu.up ((e5.trans (e6.trans e7)).trans (e8.trans e9))), fun v hv => ?_, by simp [hlt]⟩
        rcases List.mem_append.mp hv with hv | hv
        · exact ht v hv
        · rw [List.mem_singleton.mp hv]; exact hu
    rintro sacc H8 e8 hsD ⟨tops, rt, ht, hlt⟩ _
    have hne : tops ≠ [] := by intro z2; subst z2; simp at hlt; omega
    obtain ⟨top0, htop0⟩ := List.exists_mem_of_ne_nil _ hne
    have e08 := (e06.trans e7).trans e8
    have e68 := e7.trans e8
    have hz8 := e68 _ _ hz6
    have hr8 := e68 _ _ hr6
    have rr8 := rr6.up e68
    have hkl8 := e68 _ _ hkl6
    have hd8 := hd.up e08
    have sums := sizesSum ok
    have l4 := ok.len
    clear e03 e1 e2 e3 e4 e5 e6 e7 e8 nt nt2 nkl nz nr nD
    -- if form < 2
    refine ⟨_, rfl, _, _, rfl, rfl, _, rfl, ifE (fun c => ?_) (fun c0 => ?_)⟩
    · have c' := of_decide_eq_true c
      refine ⟨dv, rfl, .ref z, rfl, z, sz, rfl, SqL.of hz8, .ref z, rfl, _, sz.length, rfl, .inl ⟨_, SqL.of hz8, by rw [List.length_map]⟩, _, _, rfl, rfl, _, _, rfl, rfl, ?_⟩
      refine ⟨dv, _, rfl, hd8, by omega, by omega, fun low H9 e9 l0 l1 => ?_⟩
      refine ⟨.ref z, rfl, .ref r, rfl, r, rfl, ⟨_, SqL.of (e9 _ _ hr8)⟩, fun D nD => ?_⟩
      refine lcSub (xs := ys) (rs := allRows sz) (fun u => u.sum = low) nD (SqL.of (e9 _ _ hr8)) (rr8.up e9) (by omega) ?_ ?_
      · rintro i x u hx hu hxu H10 Cy Cn e10 cy cn
        obtain ⟨xa, rfl, hxa⟩ := hxu
        refine ⟨rfl, .int low, rfl, .ref xa, rfl, xa, u, rfl, SqT.of (e10 _ _ hxa), _, _, rfl, rfl, _, rfl, ?_⟩
        refine ifE (fun c1 => ⟨.int low, rfl, _, _, rfl, rfl, .int form, rfl, _, _, rfl, rfl, _, _, rfl, rfl, _, rfl, ifE (fun c2 => ⟨_, rfl, cy _ (Ex.refl _)⟩) (fun c2 => cn _ (Ex.refl _) fun e => ?_)⟩) (fun c1 => ⟨_, rfl, iteF (cn _ (Ex.refl _) fun e => ?_)⟩)
        · have := of_decide_eq_false c2; omega
        · have := of_decide_eq_false c1; omega
      · rintro acc rs' H10 e10 hacc racc hsub hall
        obtain ⟨u, hu, hs⟩ := sumRow sz ok.pos low l0 (by omega)
        have st : StOk sz rs' := StOk.of ok hsub (ne_sub (hall u ((mem_allRows sz u).mpr hu) hs))
        exact ⟨by show 2 ≤ sizeLine; decide, fun t nt => q _ _ ((e08.trans (e9.trans e10)).trans (Ex.new nt)) (StoreT.mk nt ((e9.trans e10) _ _ hz8) hacc racc st)⟩
    -- if form == 2 or form == 3
    refine ⟨_, rfl, rfl, _, rfl, ifE (fun c => iteT ?k1) (fun c1 => ⟨_, rfl, rfl, _, rfl, ifE (fun c => ?k2) (fun c2 => ?k3)⟩)⟩
    case k1 | k2 =>
      refine ⟨fun σ H' => ∃ way : Int, -1 ≤ way ∧ way ≤ 1 ∧ H' = H8 ∧ σ = [some dv, some (.int 6), some (.ref z), some (.int form), some (.ref r), some (.ref kl), some (.ref D0), none, some (.int way), none, none, none, none, none, none, none, none, none], ?_, ?_⟩
      · exact ⟨_, rfl, rfl, _, rfl, ifE (fun _ => ⟨1, by omega, by omega, rfl, rfl⟩) (fun _ => ⟨1, rfl, -1, by omega, by omega, rfl, rfl⟩)⟩
      rintro σ _ ⟨way, w0, w1, rfl, rfl⟩
      -- states = [..]
      refine ⟨.ref r, rfl, r, rfl, ⟨_, SqL.of hr8⟩, fun D nD => ?_⟩
      refine lcSub (σ := [some dv, some (.int 6), some (.ref z), some (.int form), some (.ref r), some (.ref kl), some (.ref D0), none, some (.int way), none, none, none, none, none, none, none, none, none]) (xs := ys) (rs := allRows sz) (fun u => u ∈ tops) nD (SqL.of hr8) rr8 (by omega) ?_ ?_
      · rintro i x u hx hu hxu H9 Cy Cn e9 cy cn
        have hru : RowOk sz u := (mem_allRows sz u).mp (List.mem_of_getElem? hu)
        obtain ⟨xa, rfl, hxa⟩ := hxu
        -- [top for top in some if [..] == []] != []
        refine ⟨rfl, .ref D0, rfl, D0, rfl, ⟨_, SqL.of (e9 _ _ hsD)⟩, fun D2 nD2 => ?_⟩
        refine lcSub (σ := [some dv, some (.int 6), some (.ref z), some (.int form), some (.ref r), some (.ref kl), some (.ref D0), none, some (.int way), none, none, none, none, none, none, some (.ref xa), none, none]) (xs := sacc) (rs := tops) (fun v => v = u) nD2 (SqL.of (e9 _ _ hsD)) (rt.up e9) (by have := rt.length; omega) ?_ ?_
        · rintro j y v hy hv hyv H10 Cy2 Cn2 e10 cy2 cn2
          have hrv : RowOk sz v := (mem_allRows sz v).mp (ht v (List.mem_of_getElem? hv))
          obtain ⟨ya, rfl, hya⟩ := hyv.up e10
          have e910 := e9.trans e10
          refine ⟨rfl, .ref kl, rfl, kl, rfl, ⟨_, SqL.of (e910 _ _ hkl8)⟩, fun D3 nD3 => ?_⟩
          refine lcL (σ := [some dv, some (.int 6), some (.ref z), some (.int form), some (.ref r), some (.ref kl), some (.ref D0), none, some (.int way), none, none, none, none, none, none, some (.ref xa), some (.ref ya), none]) (xs := rgV 0 (sz.length : Int)) (fun i acc _ => (v = u → acc = []) ∧ ∃ ns : List Int, acc = ns.map V.int) nD3 (fun _ _ _ _ _ _ _ _ _ h => h) ⟨fun _ => rfl, [], rfl⟩ (fun _ _ h => h) (SqL.of (e910 _ _ hkl8)) (by rw [rgV_length]; omega) ?_ ?_
          · intro k w hw2 acc H11 Cy3 Cn3 e11 ⟨rac, ns, rns⟩ cy3 cn3
            obtain ⟨hk, rfl⟩ := rgAt hw2
            obtain ⟨a1, ha1, ha2⟩ := rowKey (r := u) hru.len hk
            obtain ⟨b1, hb1, hb2⟩ := rowKey (r := v) hrv.len hk
            have ra := hru.each k a1
            refine ⟨rfl, .int way, rfl, .ref xa, rfl, .int (k : Int), rfl, xa, _, _, _, rfl, rfl, SqT.of (((e9.trans e10).trans e11) _ _ hxa), ha2, _, _, rfl, rfl, .inl ⟨by omega, by omega⟩, .int way, rfl, .ref ya, rfl, .int (k : Int), rfl, ya, _, _, _, rfl, rfl, SqT.of (e11 _ _ hya), hb2, _, _, rfl, rfl, .inl ⟨by omega, by omega⟩, _, _, rfl, rfl, _, rfl, ifE (fun c => ?_) (fun c => ?_)⟩
            · refine ⟨.int (k : Int), rfl, cy3 _ _ (Ex.refl _) ?_⟩
              have g : (v = u → acc ++ [V.int (k : Int)] = []) ∧ ∃ ns : List Int, acc ++ [V.int (k : Int)] = ns.map V.int := by
                refine ⟨fun e => ?_, ns ++ [(k : Int)], by rw [rns]; simp⟩
                subst e
                rw [ha1] at hb1
                cases hb1
                have := of_decide_eq_true c
                omega
              exact g
            · exact cn3 _ (Ex.refl _) ⟨rac, ns, rns⟩
          · rintro acc H11 e11 hD3 ⟨rac, ns, rns⟩ _
            refine ⟨Nat.zero_le _, fun p np => ?_⟩
            have e12 := Ex.new (o := .lst []) np
            refine eqNil (SqL.of (e12 _ _ hD3)) (by rw [rns]; exact ints_data _) upd_same ⟨_, rfl, ifE (fun c => ⟨_, rfl, cy2 _ (e11.trans e12)⟩) (fun c => cn2 _ (e11.trans e12) fun e => ?_)⟩
            rw [rac e] at c
            simp at c
        · rintro acc tops' H10 e10 hacc racc hsub hall
          refine ⟨Nat.zero_le _, fun p np => ?_⟩
          have e12 := Ex.new (o := .lst []) np
          refine neNil (SqL.of (e12 _ _ hacc)) (racc.up e12).data upd_same ⟨_, rfl, ifE (fun c => ⟨_, rfl, cy _ (e10.trans e12)⟩) (fun c => cn _ (e10.trans e12) fun e => ?_)⟩
          have hm := hall u e rfl
          rw [notF c |> List.isEmpty_iff.mp] at racc
          cases racc
          simp at hm
      · rintro acc rs' H10 e10 hacc racc hsub hall
        have st : StOk sz rs' := StOk.of ok hsub (ne_sub (hall top0 (ht _ htop0) htop0))
        refine ⟨.ref z, rfl, _, rfl, by show 2 ≤ sizeLine; decide, fun t nt => ?_⟩
        exact q _ _ ((e08.trans e10).trans (Ex.new nt)) (StoreT.mk nt (e10 _ _ hz8) hacc racc st)
    case k3 =>
    -- if form == 4 and len(sizes) > 1
    have hfin : ∀ H9, Ex H8 H9 → ∀ t, H9 t = none → Q (.ref t) (upd H9 t (.tup [.ref z, .ref r])) := fun H9 e9 t nt =>
      q _ _ ((e08.trans e9).trans (Ex.new nt)) (StoreT.mk nt (e9 _ _ hz8) (e9 _ _ hr8) (rr8.up e9) (StOk.of ok (List.Sublist.refl _) ok.rows_ne))
    have h56 : ∀ (σ : L2.St), σ = [some dv, some (.int 6), some (.ref z), some (.int form), some (.ref r), some (.ref kl), some (.ref D0), none, none, none, none, none, none, none, none, none, none, none] → True := fun _ _ => trivial
    refine ⟨_, rfl, rfl, _, rfl, ifE (fun c => ⟨.ref z, rfl, _, sz.length, rfl, .inl ⟨_, SqL.of hz8, by rw [List.length_map]⟩, _, _, rfl, rfl, _, rfl, ifE (fun c4 => ?_) (fun c4 => ?k5)⟩) (fun c => iteF ?k6)⟩
    · have c4' := of_decide_eq_true c4
      refine ⟨.ref z, rfl, _, sz.length, rfl, .inl ⟨_, SqL.of hz8, by rw [List.length_map]⟩, _, _, rfl, rfl, dv, rfl, dv, 2, rfl, hd8, by omega, by omega, fun p H9 e9 p0 p2 => ?_⟩
      refine ⟨_, _, rfl, rfl, dv, rfl, dv, 2, rfl, hd8.up e9, by omega, by omega, fun p' H10 e10 p0' p2' => ⟨_, _, rfl, rfl, by show 4 ≤ sizeLine; decide, fun t nt => ?_⟩⟩
      have e11 := (e9.trans e10).trans (Ex.new (o := .tup [.int 0, .int ((sz.length : Int) - 1), .int (1 + p), .int (1 + p')]) nt)
      refine ⟨t, _, rfl, SqT.of upd_same, rfl, _, _, rfl, _, _, rfl, _, _, rfl, _, _, rfl, rfl, ?_⟩
      refine ⟨.ref z, rfl, .ref r, rfl, r, rfl, ⟨_, SqL.of (e11 _ _ hr8)⟩, fun D nD => ?_⟩
      refine lcSub (σ := [some dv, some (.int 6), some (.ref z), some (.int form), some (.ref r), some (.ref kl), some (.ref D0), none, none, none, some (.int 0), some (.int ((sz.length : Int) - 1)), some (.int (1 + p)), some (.int (1 + p')), none, none, none, none]) (xs := ys) (rs := allRows sz) (fun u => u[0]? = some 0) nD (SqL.of (e11 _ _ hr8)) (rr8.up e11) (by omega) ?_ ?_
      · rintro i x u hx hu hxu H12 Cy Cn e12 cy cn
        have hru : RowOk sz u := (mem_allRows sz u).mp (List.mem_of_getElem? hu)
        obtain ⟨xa, rfl, hxa⟩ := hxu
        obtain ⟨a1, ha1, ha2⟩ := rowKey (r := u) (k := 0) hru.len (by omega)
        obtain ⟨b1, hb1, hb2⟩ := atI_int (xs := u) (i := (sz.length : Int) - 1) (by omega) (by rw [hru.len]; omega)
        obtain ⟨n1, hn1, hn2⟩ := atI_int (xs := sz) (i := (sz.length : Int) - 1) (by omega) (by omega)
        refine ⟨rfl, .ref xa, rfl, .int 0, rfl, xa, _, _, _, rfl, rfl, SqT.of (e12 _ _ hxa), ha2, .int (1 + p), rfl, _, _, rfl, rfl, _, rfl, ifE (fun c5 => iteT ⟨_, rfl, cy _ (Ex.refl _)⟩) (fun c5 => ?_)⟩
        refine ⟨.ref xa, rfl, .int ((sz.length : Int) - 1), rfl, xa, _, _, _, rfl, rfl, SqT.of (e12 _ _ hxa), hb2, .int (1 + p'), rfl, .ref z, rfl, .int ((sz.length : Int) - 1), rfl, z, _, _, _, rfl, rfl, SqL.of ((e11.trans e12) _ _ hz8), hn2, _, _, rfl, rfl, _, _, rfl, _, _, rfl, rfl, _, rfl, ifE (fun c6 => ⟨_, rfl, cy _ (Ex.refl _)⟩) (fun c6 => cn _ (Ex.refl _) fun e => ?_)⟩
        rw [ha1] at e
        have := of_decide_eq_false c5
        cases e
        omega
      · rintro acc rs' H12 e12 hacc racc hsub hall
        have hz0 : RowOk sz (List.replicate sz.length 0) := ⟨by simp, fun i x n g1 g2 => by
          have hn := ok.each n (List.mem_of_getElem? g2)
          have : x = 0 := List.eq_of_mem_replicate (List.mem_of_getElem? g1)
          omega⟩
        have st : StOk sz rs' := StOk.of ok hsub (ne_sub (hall _ ((mem_allRows sz _).mpr hz0) (by rw [List.getElem?_replicate]; rw [if_pos (by omega)])))
        exact ⟨by show 2 ≤ sizeLine; decide, fun t nt => q _ _ ((e08.trans (e11.trans e12)).trans (Ex.new nt)) (StoreT.mk nt ((e11.trans e12) _ _ hz8) hacc racc st)⟩
    case k5 | k6 =>
      -- if form == 5 or form == 6
      refine ⟨_, rfl, rfl, _, rfl, ifE (fun c => iteT ?j1) (fun c1 => ⟨_, rfl, rfl, _, rfl, ifE (fun c => ?j2) (fun c2 => ⟨.ref z, rfl, .ref r, rfl, by show 2 ≤ sizeLine; decide, fun t nt => hfin _ (Ex.refl _) t nt⟩)⟩)⟩
      case j1 | j2 =>
        refine ⟨.ref r, rfl, r, rfl, ⟨_, SqL.of hr8⟩, fun D nD => ?_⟩
        refine lcSub (σ := [some dv, some (.int 6), some (.ref z), some (.int form), some (.ref r), some (.ref kl), some (.ref D0), none, none, none, none, none, none, none, none, none, none, none]) (xs := ys) (rs := allRows sz) (fun _ => False) nD (SqL.of hr8) rr8 (by omega) ?_ ?_
        · rintro i x u hx hu hxu H9 Cy Cn e9 cy cn
          exact ⟨rfl, dv, rfl, dv, 3, rfl, hd8.up e9, by omega, by omega, fun k H10 e10 _ _ => ⟨_, _, rfl, rfl, _, rfl, ifE (fun _ => ⟨_, rfl, cy _ e10⟩) (fun _ => cn _ e10 (fun z => z))⟩⟩
        · rintro acc rs' H9 e9 hacc racc hsub _
          have hcut : RowsOf H9 (acc.take 8) (rs'.take 8) := rowsTake 8 racc
          refine ⟨8, rfl, D, _, rfl, SqL.of hacc, fun c nc => ?_⟩
          rw [show cutV acc none (some 8) = acc.take 8 from cut_take acc 8]
          have e10 := Ex.new (o := .lst (acc.take 8)) nc
          have hsub8 : (rs'.take 8).Sublist (allRows sz) := (List.take_sublist 8 rs').trans hsub
          refine ⟨.ref c, rfl, Nat.zero_le _, fun p np => ?_⟩
          have e11 := Ex.new (o := .lst []) np
          have e8 := e9.trans (e10.trans e11)
          have hc11 := e11 _ _ (upd_same (H := H9) (a := c) (o := .lst (acc.take 8)))
          have rc11 := hcut.up (e10.trans e11)
          refine neNil (SqL.of hc11) rc11.data upd_same ⟨_, rfl, ifE (fun c3 => ?_) (fun c3 => iteF ⟨.ref z, rfl, .ref r, rfl, by show 2 ≤ sizeLine; decide, fun t nt => hfin _ e8 t nt⟩)⟩
          have hne8 : rs'.take 8 ≠ [] := by
            intro z2
            rw [z2] at rc11
            cases e9 : acc.take 8 with
            | nil => rw [e9] at c3; simp at c3
            | cons _ _ => rw [e9] at rc11; cases rc11
          have st : StOk sz (rs'.take 8) := StOk.of ok hsub8 hne8
          refine ⟨.ref c, rfl, c, _, rs'.take 8, sz.length, rfl, hc11, rc11, fun r hr => (st.sub r hr).len, by omega, by have := st.len; omega, fun b H12 e12 _ => ⟨_, rfl, ifE (fun _ => ?_) (fun _ => ?_)⟩⟩
          · exact ⟨.ref z, rfl, .ref c, rfl, by show 2 ≤ sizeLine; decide, fun t nt => q _ _ ((e08.trans (e8.trans e12)).trans (Ex.new nt)) (StoreT.mk nt ((e8.trans e12) _ _ hz8) (e12 _ _ hc11) (rc11.up e12) st)⟩
          · exact ⟨.ref z, rfl, .ref r, rfl, by show 2 ≤ sizeLine; decide, fun t nt => hfin _ (e8.trans e12) t nt⟩
end
end Bp

set_option Elab.async false
set_option linter.all false
set_option maxRecDepth 100000
set_option maxHeartbeats 4000000
namespace Bp
open PySem PySem.Spec PyProof.Rows L2 Evl
/-! ### loops and comprehensions over any iterator of known length -/
section
variable {J : It} {n : Nat}
theorem forJ {g : TG} {tb : TS} {D : Ends} {σ : L2.St} {H : Hp} (Pv : Nat → L2.St → Hp → Prop) (h0 : Pv 0 σ H) (hgo : ∀ i σ H, i < n → Pv i σ H → J.go i H) (hst : ∀ σ H, Pv n σ H → J.stop n H)
    (hs : ∀ (i : Nat) (σ : L2.St) (H : Hp), i < n → Pv i σ H → ∀ v H', J.yld i H v H' → g v σ H' fun σ2 H2 => tb { D with nx := Pv (i + 1), ct := Pv (i + 1), bk := D.nx } σ2 H2) (hd : ∀ σ H, Pv n σ H → D.nx σ H) :
    ∃ W : Nat → Nat → L2.St → Hp → Prop, (∃ m, W 0 m σ H) ∧ ∀ i m σ H, W i m σ H →
      (J.stop i H ∧ D.nx σ H) ∨ (J.go i H ∧ ∃ N : L2.St → Hp → Prop, (∀ σ' H', N σ' H' → ∃ m', m' < m ∧ W (i + 1) m' σ' H') ∧ ∀ v H', J.yld i H v H' → g v σ H' fun σ2 H2 => tb { D with nx := N, ct := N, bk := D.nx } σ2 H2) := by
  refine ⟨fun i m σ H => m = n - i ∧ i ≤ n ∧ Pv i σ H, ⟨n, rfl, Nat.zero_le _, h0⟩, fun i m σ H q => ?_⟩
  obtain ⟨rfl, hi, p⟩ := q
  by_cases c : i < n
  · exact .inr ⟨hgo i σ H c p, fun σ' H' => Pv (i + 1) σ' H', fun σ' H' q => ⟨n - (i + 1), by omega, rfl, c, q⟩, fun v H' y => hs i σ H c p v H' y⟩
  · have : i = n := by omega
    subst this
    exact .inl ⟨hst σ H p, hd σ H p⟩
theorem lcJ {g : TG} {tt : TT} {te : TE} {vs : List Nat} {σ : L2.St} {H1 : Hp} {D : Addr} {Qd : Hp → Prop} (Rel : Nat → List V → Hp → Prop) (hD : H1 D = none) (mono : LcMono Rel H1) (h0 : Rel 0 [] H1) (hup : ∀ H, Ex H1 H → Rel 0 [] H1 → Rel 0 [] H) (hsz : n ≤ 100000)
    (hgo : ∀ i H, i < n → Ex H1 H → J.go i H) (hst : ∀ H, Ex H1 H → J.stop n H)
    (hs : ∀ (i : Nat), i < n → ∀ (acc : List V) (H : Hp) (Cy : V → Hp → Prop) (Cn : Hp → Prop), Ex H1 H → Rel i acc H → (∀ y H', Ex H H' → Rel (i + 1) (acc ++ [y]) H' → Cy y H') → (∀ H', Ex H H' → Rel (i + 1) acc H' → Cn H') →
      ∀ x H', J.yld i H x H' → g x (wipe σ vs) H' fun σ2 H2 => wipe σ2 vs = wipe σ vs ∧ tt σ2 H2 fun b H3 => if b = true then te σ2 H3 Cy else Cn H3)
    (hd : ∀ acc H, Ex H1 H → H D = some (.lst acc) → Rel n acc H → acc.length ≤ n → Qd H) :
    ∃ W : Nat → Nat → Hp → Prop, (∃ m, W 0 m (upd H1 D (.lst []))) ∧ ∀ i m H, W i m H →
      (J.stop i H ∧ Qd H) ∨ (J.go i H ∧ ∃ Nx : Hp → Prop, (∀ H', Nx H' → ∃ m', m' < m ∧ W (i + 1) m' H') ∧ ∀ x H', J.yld i H x H' → g x (wipe σ vs) H' fun σ2 H2 => wipe σ2 vs = wipe σ vs ∧ tt σ2 H2 fun b H3 =>
        if b = true then te σ2 H3 fun y H4 => ∃ acc, H4 D = some (.lst acc) ∧ acc.length < sizeLine ∧ Nx (upd H4 D (.lst (acc ++ [y]))) else Nx H3) := by
  refine ⟨fun i m H => m = n - i ∧ i ≤ n ∧ ∃ acc, Ex H1 H ∧ H D = some (.lst acc) ∧ acc.length ≤ i ∧ Rel i acc H, ⟨n, rfl, Nat.zero_le _, [], Ex.new hD, upd_same, Nat.le_refl _, hup _ (Ex.new hD) h0⟩, fun i m H q => ?_⟩
  obtain ⟨rfl, hi, acc, e, hl, hn, r⟩ := q
  by_cases c : i < n
  · refine .inr ⟨hgo i H c e, fun H' => ∃ acc, Ex H1 H' ∧ H' D = some (.lst acc) ∧ acc.length ≤ i + 1 ∧ Rel (i + 1) acc H', fun H' q => ⟨n - (i + 1), by omega, rfl, c, q⟩, fun v H' y => ?_⟩
    refine hs i c acc H _ _ e r (fun y H' e' r' => ?_) (fun H' e' r' => ?_) v H' y
    · have hl' := e' _ _ hl
      exact ⟨acc, hl', Nat.lt_of_lt_of_le (by omega : acc.length < 100000) (by decide), acc ++ [y], (e.trans e').mut hD, upd_same, by rw [List.length_append]; exact Nat.succ_le_succ hn, mono _ _ _ _ _ _ hD (e.trans e') hl' r'⟩
    · exact ⟨acc, e.trans e', e' _ _ hl, Nat.le_succ_of_le hn, r'⟩
  · have : i = n := by omega
    subst this
    exact .inl ⟨hst H e, hd acc H e hl r hn⟩
end
/-- what a zip of a list and a tuple hands out -/
theorem itzGo {K : PySem.W.Frag} {a b : Addr} {xs ys : List V} {n : Nat} {H : Hp} (ha : SqL K H a xs) (hb : SqT K H b ys) (hx : xs.length = n) (hy : ys.length = n) {i : Nat} (hi : i < n) : (ItzM K a b).go i H :=
  ⟨xs, ys, xs[i], ys[i], ha, hb, List.getElem?_eq_getElem _, List.getElem?_eq_getElem _⟩
theorem itzStop {K : PySem.W.Frag} {a b : Addr} {xs ys : List V} {n : Nat} {H : Hp} (ha : SqL K H a xs) (hb : SqT K H b ys) (hx : xs.length = n) (hy : ys.length = n) : (ItzM K a b).stop n H := ⟨xs, ys, ha, hb, by omega⟩
theorem itzYld {K : PySem.W.Frag} {a b : Addr} {xs ys : List V} {H H' : Hp} {v : V} {i : Nat} (ha : SqL K H a xs) (hb : SqT K H b ys) (h : (ItzM K a b).yld i H v H') : ∃ T x y, v = .ref T ∧ H T = none ∧ H' = upd H T (.tup [x, y]) ∧ xs[i]? = some x ∧ ys[i]? = some y := by
  obtain ⟨T, x, y, h1, h2, h3, h4, h5⟩ := h
  exact ⟨T, x, y, h1, h2, h3, h4 _ ha, h5 _ hb⟩
theorem iteGo {K : PySem.W.Frag} {a : Addr} {xs : List V} {H : Hp} (ha : SqT K H a xs) {i : Nat} (hi : i < xs.length) : (IteT K a).go i H := ⟨xs, xs[i], ha, List.getElem?_eq_getElem hi⟩
end Bp

set_option Elab.async false
set_option linter.all false
set_option maxRecDepth 100000
set_option maxHeartbeats 4000000
namespace Bp
open PySem PySem.Spec PyProof.Rows L2 Evl
abbrev s_lawStore : Stmt := topS 45
abbrev N_lawStore : List Str := ["_law_deal", "_law_most", "_law_sizes_here", "_law_rows", "_law_form", "_law_many", "_law_keys", "_law_total", "_law_states", "_law_low", "_law_high", "_law_one", "_law_other", "_law_p", "_law_q", "_law_prime", "_law_weights", "_law_part", "_law_kept", "_law_row", "_law_key", "_law_at", "_law_w", "_law_x"]
theorem sc_lawStore : FnScope N_lawStore ["_law_deal", "_law_most"] (defScope s_lawStore) := ⟨rfl, rfl, rfl, by decide +kernel, rfl, by decide +kernel, by decide +kernel⟩
theorem rg_ne {sz : List Int} (ok : SzOk sz) : rgV 0 (sz.length : Int) ≠ [] := by
  intro e
  have := congrArg List.length e
  rw [rgV_length] at this
  have h2 : ((sz.length : Int) - 0).toNat = 0 := this
  exact ok.ne (List.length_eq_zero_iff.mp (by omega))
theorem noWhole {sz u : List Int} (ok : SzOk sz) (hl : u.length = sz.length) : HT.sIx (u.map V.int).length (u.map V.int).length (some ((sz.length : Int) / 2)) ≠ (u.map V.int).length := by
  have hk : (sz.length : Int) / 2 = ((sz.length / 2 : Nat) : Int) := by omega
  rw [hk, HT.sIx_nat, List.length_map, hl]
  have := List.length_pos_iff.mpr ok.ne
  omega
theorem rg_mem {n : Nat} {x : V} (h : x ∈ rgV 0 (n : Int)) : ∃ k : Nat, k < n ∧ x = .int (k : Int) := by
  obtain ⟨i, hi⟩ := List.getElem?_of_mem h
  obtain ⟨h1, h2⟩ := rgAt hi
  exact ⟨i, h1, h2⟩
section
variable {P : Program} {w : World} {K : PySem.W.Frag} {mg : Str → Option Value} {base : Heap}
theorem ok_lawStore {f fS fA fL fO : Addr} {fd fdS fdA fdL fdO : FuncData} (F : Fun K "_law_store" "_law_store" s_lawStore f fd) (B : Blt mg)
    (D_lawSizes : Dn K mg "_law_sizes" s_lawSizes ["_law_deal", "_law_most"] fS fdS) (G_lawSizes : FnOk P w K mg base CX0 3 fS fdS ["_law_deal", "_law_most"] spSizes)
    (D_lawAny : Dn K mg "_law_any" s_lawAny ["_law_deal", "_law_bound"] fA fdA) (G_lawAny : FnOk P w K mg base CX0 1 fA fdA ["_law_deal", "_law_bound"] spAny)
    (D_lawAll : Dn K mg "_law_all" s_lawAll ["_law_sizes_here"] fL fdL) (G_lawAll : FnOk P w K mg base CX0 1 fL fdL ["_law_sizes_here"] spAll)
    (D_lawOf : Dn K mg "_law_of" s_lawOf ["_law_deal", "_law_some"] fO fdO) (G_lawOf : FnOk P w K mg base CX0 2 fO fdO ["_law_deal", "_law_some"] spOf) : FnOk P w K mg base CX0 4 f fd ["_law_deal", "_law_most"] spStore := by
  refine F.ok sc_lawStore (fun vs H Q E h => ?_) (fun cdv A outer s H vs Q E hr h => ?_)
  · obtain ⟨dv, rfl, _⟩ := h
    rfl
  · obtain ⟨dv, rfl, hd, q⟩ := h
    refine ⟨_, (pss_cons (ps_set (i := 2) sc_lawStore.nd rfl (.inr rfl) (pe_call G_lawSizes (hr.mono (by decide)) (by rfl) D_lawSizes.g D_lawSizes.F.kp D_lawSizes.b .nil pass0 (pa_cons (pv 0) (pa_cons (pv 1) pa_nil))))
  (pss_cons (ps_par (i := 3) (j := 4) rfl sc_lawStore.nd rfl rfl (by decide) rfl rfl (pa_cons (pe_call G_lawAll (hr.mono (by decide)) (by rfl) D_lawAll.g D_lawAll.F.kp D_lawAll.b .nil pass0 (pa_cons (pv 2) pa_nil)) (pa_cons (pe_call G_lawAny (hr.mono (by decide)) (by rfl) D_lawAny.g D_lawAny.F.kp D_lawAny.b .nil pass0 (pa_cons (pv 0) (pa_cons pe_int pa_nil))) pa_nil)) rfl)
  (pss_cons (ps_asg (pe_tup (pa_cons (pe_callB (lenk (K := K)) (by rfl) B.len bt_len (pa_cons (pv 2) pa_nil)) (pa_cons (pe_listRg rfl (by rfl) B.list (prg_1 (by rfl) B.range (pe_callB (lenk (K := K)) (by rfl) B.len bt_len (pa_cons (pv 2) pa_nil)))) pa_nil))) (pgTk (K := K) (n := 2) rfl (pgs_cons (pg_name (i := 5) sc_lawStore.nd rfl (Or.inr rfl)) (pgs_cons (pg_name (i := 6) sc_lawStore.nd rfl (Or.inl rfl)) pgs_nil))))
  (pss_cons (ps_if (pt_cmpR op_eq (pv 4) pe_int (nomark _))
    (pss_one (ps_ret (pe_tup (pa_cons (pv 2) (pa_cons (pv 3) pa_nil)))))
    pss_nil)
  (pss_cut (ps_if (pt_cmpR op_eq (pv 4) pe_int (nomark _))
    (pss_cons (ps_set (i := 7) sc_lawStore.nd rfl (.inr rfl) (pe_call G_lawAny (hr.mono (by decide)) (by rfl) D_lawAny.g D_lawAny.F.kp D_lawAny.b .nil pass0 (pa_cons (pv 0) (pa_cons (pe_op op_add (pe_op op_sub (pe_callB (sumk rfl (K := K)) (by rfl) B.sum bt_sum (pa_cons (pv 2) pa_nil)) (pv 5)) pe_int) pa_nil))))
  (pss_one (ps_setLc (i := 8) (own := [("_law_row", 19)]) rfl sc_lawStore.nd rfl rfl (sw_true rfl rfl rfl (by decide +kernel)) (piLk (K := K) (pv 3)) (blkOk_by (show blkC N_lawStore (defScope s_lawStore) _ _ = true by decide +kernel)) (fun _ _ _ _ _ => (pg_name (i := 19) sc_lawStore.nd rfl (Or.inl rfl))) (fun _ _ _ _ _ => (pts_one (pt_cmpR op_eq (pe_callB (sumTk rfl (K := K)) (by rfl) B.sum bt_sum (pa_cons (pv 19) pa_nil)) (pv 7) (nomark _)))) (fun _ _ _ _ _ => (pv 19)))))
    (pss_one (ps_if (pt_cmpR op_eq (pv 4) pe_int (nomark _))
    (pss_cons (ps_set (i := 9) sc_lawStore.nd rfl (.inr rfl) (pe_call G_lawAny (hr.mono (by decide)) (by rfl) D_lawAny.g D_lawAny.F.kp D_lawAny.b .nil pass0 (pa_cons (pv 0) (pa_cons (pe_op op_add (pe_op op_sub (pe_callB (sumk rfl (K := K)) (by rfl) B.sum bt_sum (pa_cons (pv 2) pa_nil)) (pv 5)) pe_int) pa_nil))))
  (pss_cons (ps_set (i := 10) sc_lawStore.nd rfl (.inr rfl) (pe_op op_add (pe_op op_add (pv 9) pe_int) (pe_call G_lawAny (hr.mono (by decide)) (by rfl) D_lawAny.g D_lawAny.F.kp D_lawAny.b .nil pass0 (pa_cons (pv 0) (pa_cons pe_int pa_nil)))))
  (pss_one (ps_setLc (i := 8) (own := [("_law_row", 19)]) rfl sc_lawStore.nd rfl rfl (sw_true rfl rfl rfl (by decide +kernel)) (piLk (K := K) (pv 3)) (blkOk_by (show blkC N_lawStore (defScope s_lawStore) _ _ = true by decide +kernel)) (fun _ _ _ _ _ => (pg_name (i := 19) sc_lawStore.nd rfl (Or.inl rfl))) (fun _ _ _ _ _ => (pts_one (pt_chain op_le op_le (pv 9) (pe_callB (sumTk rfl (K := K)) (by rfl) B.sum bt_sum (pa_cons (pv 19) pa_nil)) (pv 10)))) (fun _ _ _ _ _ => (pv 19))))))
    (pss_one (ps_if (pt_cmpR op_eq (pv 4) pe_int (nomark _))
    (pss_cons (ps_asg (pe_tup (pa_cons (pe_call G_lawOf (hr.mono (by decide)) (by rfl) D_lawOf.g D_lawOf.F.kp D_lawOf.b .nil pass0 (pa_cons (pv 0) (pa_cons (pv 6) pa_nil))) (pa_cons (pe_call G_lawOf (hr.mono (by decide)) (by rfl) D_lawOf.g D_lawOf.F.kp D_lawOf.b .nil pass0 (pa_cons (pv 0) (pa_cons (pv 6) pa_nil))) (pa_cons (pe_op op_add pe_int (pe_call G_lawAny (hr.mono (by decide)) (by rfl) D_lawAny.g D_lawAny.F.kp D_lawAny.b .nil pass0 (pa_cons (pv 0) (pa_cons pe_int pa_nil)))) (pa_cons (pe_op op_add pe_int (pe_call G_lawAny (hr.mono (by decide)) (by rfl) D_lawAny.g D_lawAny.F.kp D_lawAny.b .nil pass0 (pa_cons (pv 0) (pa_cons pe_int pa_nil)))) pa_nil))))) (pgTk (K := K) (n := 4) rfl (pgs_cons (pg_name (i := 11) sc_lawStore.nd rfl (Or.inr rfl)) (pgs_cons (pg_name (i := 12) sc_lawStore.nd rfl (Or.inr rfl)) (pgs_cons (pg_name (i := 13) sc_lawStore.nd rfl (Or.inr rfl)) (pgs_cons (pg_name (i := 14) sc_lawStore.nd rfl (Or.inr rfl)) pgs_nil))))))
  (pss_one (ps_setLc (i := 8) (own := [("_law_row", 19)]) rfl sc_lawStore.nd rfl rfl (sw_true rfl rfl rfl (by decide +kernel)) (piLk (K := K) (pv 3)) (blkOk_by (show blkC N_lawStore (defScope s_lawStore) _ _ = true by decide +kernel)) (fun _ _ _ _ _ => (pg_name (i := 19) sc_lawStore.nd rfl (Or.inl rfl))) (fun _ _ _ _ _ => (pts_one (PW.pt (pw_or (pt_cmpR op_lt (pe_ix (ixTk (K := K)) (pv 19) (pv 11) (fun _ _ => rfl)) (pv 13) (nomark _)) (pw_or1 (pt_cmpR op_ge (pe_ix (ixTk (K := K)) (pv 19) (pv 12) (fun _ _ => rfl)) (pe_callB (call_min2 rfl) (by rfl) B.min bt_min (pa_cons (pv 14) (pa_cons (pe_op op_sub (pe_ix (ixLk (K := K)) (pv 2) (pv 12) (fun _ _ => rfl)) pe_int) pa_nil))) (nomark _))))))) (fun _ _ _ _ _ => (pv 19)))))
    (pss_one (ps_if (pt_cmpR op_eq (pv 4) pe_int (nomark _))
    (pss_cons (ps_asg (pe_tup (pa_cons (pe_call G_lawOf (hr.mono (by decide)) (by rfl) D_lawOf.g D_lawOf.F.kp D_lawOf.b .nil pass0 (pa_cons (pv 0) (pa_cons (pe_lst (pa_cons pe_int (pa_cons pe_int (pa_cons pe_int pa_nil)))) pa_nil))) (pa_cons (lck (own := [("_law_key", 20)]) rfl sc_lawStore.nd (show blkC N_lawStore (defScope s_lawStore) _ _ = true by decide +kernel) (piLk (K := K) (pv 6)) (fun _ _ _ _ _ => (pg_name (i := 20) sc_lawStore.nd rfl (Or.inl rfl))) (fun _ _ _ _ _ => pts_nil) (fun _ _ _ _ _ => (pe_call G_lawAny (hr.mono (by decide)) (by rfl) D_lawAny.g D_lawAny.F.kp D_lawAny.b .nil pass0 (pa_cons (pv 0) (pa_cons pe_int pa_nil))))) pa_nil))) (pgTk (K := K) (n := 2) rfl (pgs_cons (pg_name (i := 15) sc_lawStore.nd rfl (Or.inr rfl)) (pgs_cons (pg_name (i := 16) sc_lawStore.nd rfl (Or.inr rfl)) pgs_nil))))
  (pss_one (ps_setLc (i := 8) (own := [("_law_row", 19)]) rfl sc_lawStore.nd rfl rfl (sw_true rfl rfl rfl (by decide +kernel)) (piLk (K := K) (pv 3)) (blkOk_by (show blkC N_lawStore (defScope s_lawStore) _ _ = true by decide +kernel)) (fun _ _ _ _ _ => (pg_name (i := 19) sc_lawStore.nd rfl (Or.inl rfl))) (fun _ _ _ _ _ => (pts_one (pt_cmpR op_eq (pe_op op_mod (pe_callTy call_int1 (by rfl) B.int bt_int (pa_cons (pe_callB (sumk rfl (K := K)) (by rfl) B.sum bt_sum (pa_cons (lck (own := [("_law_w", 22), ("_law_x", 23)]) rfl sc_lawStore.nd (by kernel_rfl) (piZipM (K := K) (by rfl) B.zip (pa_cons (pv 16) (pa_cons (pv 19) pa_nil))) (fun _ _ _ _ _ => (pgTk (K := K) (n := 2) rfl (pgs_cons (pg_name (i := 22) sc_lawStore.nd rfl (Or.inl rfl)) (pgs_cons (pg_name (i := 23) sc_lawStore.nd rfl (Or.inl rfl)) pgs_nil)))) (fun _ _ _ _ _ => pts_nil) (fun _ _ _ _ _ => (pe_op op_mul (pv 22) (pv 23)))) pa_nil)) pa_nil)) (pv 15)) pe_int (nomark _)))) (fun _ _ _ _ _ => (pv 19)))))
    (pss_one (ps_if (pt_cmpR op_eq (pv 4) pe_int (nomark _))
    (pss_cons (ps_asg (pe_tup (pa_cons (pe_call G_lawOf (hr.mono (by decide)) (by rfl) D_lawOf.g D_lawOf.F.kp D_lawOf.b .nil pass0 (pa_cons (pv 0) (pa_cons (pv 6) pa_nil))) (pa_cons (pe_call G_lawOf (hr.mono (by decide)) (by rfl) D_lawOf.g D_lawOf.F.kp D_lawOf.b .nil pass0 (pa_cons (pv 0) (pa_cons (pv 6) pa_nil))) pa_nil))) (pgTk (K := K) (n := 2) rfl (pgs_cons (pg_name (i := 11) sc_lawStore.nd rfl (Or.inr rfl)) (pgs_cons (pg_name (i := 12) sc_lawStore.nd rfl (Or.inr rfl)) pgs_nil))))
  (pss_one (ps_setLc (i := 8) (own := [("_law_row", 19)]) rfl sc_lawStore.nd rfl rfl (sw_true rfl rfl rfl (by decide +kernel)) (piLk (K := K) (pv 3)) (blkOk_by (show blkC N_lawStore (defScope s_lawStore) _ _ = true by decide +kernel)) (fun _ _ _ _ _ => (pg_name (i := 19) sc_lawStore.nd rfl (Or.inl rfl))) (fun _ _ _ _ _ => (pts_one (pt_cmpR op_eq (pe_op op_mod (pe_callTy call_int1 (by rfl) B.int bt_int (pa_cons (pe_op op_sub (pe_ix (ixTk (K := K)) (pv 19) (pv 11) (fun _ _ => rfl)) (pe_ix (ixTk (K := K)) (pv 19) (pv 12) (fun _ _ => rfl))) pa_nil)) pe_int) pe_int (nomark _)))) (fun _ _ _ _ _ => (pv 19)))))
    (pss_one (ps_if (pt_cmpR op_eq (pv 4) pe_int (nomark _))
    (pss_one (ps_setLc (i := 8) (own := [("_law_row", 19)]) rfl sc_lawStore.nd rfl rfl (sw_true rfl rfl rfl (by decide +kernel)) (piLk (K := K) (pv 3)) (blkOk_by (show blkC N_lawStore (defScope s_lawStore) _ _ = true by decide +kernel)) (fun _ _ _ _ _ => (pg_name (i := 19) sc_lawStore.nd rfl (Or.inl rfl))) (fun _ _ _ _ _ => (pts_one (pt_cmpR op_gt (pe_call G_lawAny (hr.mono (by decide)) (by rfl) D_lawAny.g D_lawAny.F.kp D_lawAny.b .nil pass0 (pa_cons (pv 0) (pa_cons pe_int pa_nil))) pe_int (nomark _)))) (fun _ _ _ _ _ => (pv 19))))
    (pss_one (ps_if (pt_cmpR op_eq (pv 4) pe_int (nomark _))
    (pss_one (ps_setLc (i := 8) (own := [("_law_row", 19)]) rfl sc_lawStore.nd rfl rfl (sw_true rfl rfl rfl (by decide +kernel)) (piLk (K := K) (pv 3)) (blkOk_by (show blkC N_lawStore (defScope s_lawStore) _ _ = true by decide +kernel)) (fun _ _ _ _ _ => (pg_name (i := 19) sc_lawStore.nd rfl (Or.inl rfl))) (fun _ _ _ _ _ => (pts_one (pt_cmpR op_eq (pe_call G_lawAny (hr.mono (by decide)) (by rfl) D_lawAny.g D_lawAny.F.kp D_lawAny.b .nil pass0 (pa_cons (pv 0) (pa_cons pe_int pa_nil))) pe_int (nomark _)))) (fun _ _ _ _ _ => (pv 19))))
    (pss_one (ps_if (pt_cmpR op_eq (pv 4) pe_int (nomark _))
    (pss_one (ps_setLc (i := 8) (own := [("_law_row", 19)]) rfl sc_lawStore.nd rfl rfl (sw_true rfl rfl rfl (by decide +kernel)) (piLk (K := K) (pv 3)) (blkOk_by (show blkC N_lawStore (defScope s_lawStore) _ _ = true by decide +kernel)) (fun _ _ _ _ _ => (pg_name (i := 19) sc_lawStore.nd rfl (Or.inl rfl))) (fun _ _ _ _ _ => (pts_one (pt_cmpR op_eq (pe_call G_lawAny (hr.mono (by decide)) (by rfl) D_lawAny.g D_lawAny.F.kp D_lawAny.b .nil pass0 (pa_cons (pv 0) (pa_cons pe_int pa_nil))) pe_int (nomark _)))) (fun _ _ _ _ _ => (pv 19))))
    (pss_cons (ps_set (i := 17) sc_lawStore.nd rfl (.inr rfl) (lck (own := [("_law_row", 19)]) rfl sc_lawStore.nd (show blkC N_lawStore (defScope s_lawStore) _ _ = true by decide +kernel) (piLk (K := K) (pv 3)) (fun _ _ _ _ _ => (pg_name (i := 19) sc_lawStore.nd rfl (Or.inl rfl))) (fun _ _ _ _ _ => pts_nil) (fun _ _ _ _ _ => (pe_slice (slTk (K := K)) (pv 19) po_none (po_some (pe_op op_fdiv (pv 5) pe_int))))))
  (pss_cons (ps_set (i := 18) sc_lawStore.nd rfl (.inr rfl) (lck (own := [("_law_at", 21), ("_law_one", 11)]) rfl sc_lawStore.nd (show blkC N_lawStore (defScope s_lawStore) _ _ = true by decide +kernel) (enumk (K := K) (by rfl) B.enumerate (pa_cons (pv 17) pa_nil)) (fun _ _ _ _ _ => (pgTk (K := K) (n := 2) rfl (pgs_cons (pg_name (i := 21) sc_lawStore.nd rfl (Or.inl rfl)) (pgs_cons (pg_name (i := 11) sc_lawStore.nd rfl (Or.inl rfl)) pgs_nil)))) (fun _ _ _ _ _ => (pts_one (PW.pt (pw_and (pt_cmpR (ninDk (room65 hr) (K := K)) (pv 11) (pe_slice (slLk (K := K)) (pv 17) po_none (po_some (pv 21))) rfl) (pw_and1 (pt_cmpR op_gt (pe_call G_lawAny (hr.mono (by decide)) (by rfl) D_lawAny.g D_lawAny.F.kp D_lawAny.b .nil pass0 (pa_cons (pv 0) (pa_cons pe_int pa_nil))) pe_int (nomark _))))))) (fun _ _ _ _ _ => (pv 11))))
  (pss_one (ps_setLc (i := 8) (own := [("_law_row", 19)]) rfl sc_lawStore.nd rfl rfl (sw_true rfl rfl rfl (by decide +kernel)) (piLk (K := K) (pv 3)) (blkOk_by (show blkC N_lawStore (defScope s_lawStore) _ _ = true by decide +kernel)) (fun _ _ _ _ _ => (pg_name (i := 19) sc_lawStore.nd rfl (Or.inl rfl))) (fun _ _ _ _ _ => (pts_one (pt_cmpR (inDk (room65 hr) (K := K)) (pe_slice (slTk (K := K)) (pv 19) po_none (po_some (pe_op op_fdiv (pv 5) pe_int))) (pv 18) rfl))) (fun _ _ _ _ _ => (pv 19)))))))))))))))))))))
  (pss_one (ps_ret (pe_tup (pa_cons (pv 2) (pa_cons (pe_ifExp (pt_cmpR (neDk hr.units (K := K)) (pv 8) (pe_lst pa_nil) (nomark _)) (pv 8) (pe_lst (pa_cons (pe_call G_lawOf (hr.mono (by decide)) (by rfl) D_lawOf.g D_lawOf.F.kp D_lawOf.b .nil pass0 (pa_cons (pv 0) (pa_cons (pv 3) pa_nil))) pa_nil))) pa_nil)))))))))), ?_⟩
    -- sizes_here
    refine ⟨dv, rfl, .int 6, rfl, dv, rfl, hd, fun z sz H1 nz e1 hz ok => ?_⟩
    have l4 := ok.len
    have sums := sizesSum ok
    -- rows, form
    refine ⟨.ref z, rfl, z, sz, rfl, hz, ok, fun r ys H2 nr e2 hr rr => ?_⟩
    have hl6 : ys.length ≤ 6 := by rw [rr.length]; exact ok.rows
    refine ⟨dv, rfl, dv, 10, rfl, (hd.up e1).up e2, by omega, by omega, fun form H3 e3 f0 f10 => ⟨_, _, rfl, ?_⟩⟩
    -- many, keys
    have hz3 := (e2.trans e3) _ _ hz
    refine ⟨.ref z, rfl, _, sz.length, rfl, .inl ⟨_, SqL.of hz3, by rw [List.length_map]⟩, ?_⟩
    refine ⟨.ref z, rfl, _, sz.length, rfl, .inl ⟨_, SqL.of hz3, by rw [List.length_map]⟩, sz.length, rfl, ⟨by omega, by omega, by omega, by omega, by omega⟩, fun kl nkl => ?_⟩
    have e4 := Ex.new (o := .lst (rgV 0 (sz.length : Int))) nkl
    refine ⟨by show 2 ≤ sizeLine; decide, fun t nt => ?_⟩
    have e5 := Ex.new (o := .tup [.int (sz.length : Int), .ref kl]) nt
    refine ⟨t, _, rfl, SqT.of upd_same, rfl, _, _, rfl, _, _, rfl, rfl, ?_⟩
    have e25 := e3.trans (e4.trans e5)
    have e05 := (e1.trans e2).trans e25
    have hz8 := (e2.trans e25) _ _ hz
    have hr8 := e25 _ _ hr
    have rr8 := rr.up e25
    have hkl8 := e5 _ _ (upd_same (H := H3) (a := kl) (o := .lst (rgV 0 (sz.length : Int))))
    have hd8 := hd.up e05
    generalize (upd (upd H3 kl (.lst (rgV 0 (sz.length : Int)))) t (.tup [.int (sz.length : Int), .ref kl])) = H8 at *
    clear e1 e2 e3 e4 e5 e25 nt nkl nz nr hz3
    have hfin : ∀ H9, Ex H8 H9 → ∀ t s ys rs, H9 t = none → H9 s = some (.lst ys) → RowsOf H9 ys rs → rs.Sublist (allRows sz) → rs ≠ [] → Q (.ref t) (upd H9 t (.tup [.ref z, .ref s])) := fun H9 e9 t s ys rs nt h1 h2 h3 h4 =>
      q _ _ ((e05.trans e9).trans (Ex.new nt)) (StoreT.mk nt (e9 _ _ hz8) h1 h2 (StOk.of ok h3 h4))
    -- if form == 0
    refine ⟨_, rfl, rfl, _, rfl, ifE (fun c => ⟨.ref z, rfl, .ref r, rfl, by show 2 ≤ sizeLine; decide, fun t nt => hfin _ (Ex.refl _) t r ys _ nt hr8 rr8 (List.Sublist.refl _) ok.rows_ne⟩) (fun c0 => ?_)⟩
    refine ⟨fun σ H' => ∃ (sl : Addr) (acc : List V) (rs' : List Row), Ex H8 H' ∧ H' sl = some (.lst acc) ∧ RowsOf H' acc rs' ∧ rs'.Sublist (allRows sz) ∧ σ[0]? = some (some dv) ∧ σ[2]? = some (some (.ref z)) ∧ σ[3]? = some (some (.ref r)) ∧ σ[8]? = some (some (.ref sl)), ?_, ?_⟩
    rotate_left
    · rintro σ H9 ⟨sl, acc, rs', e9, hsl, racc, hsub, s0, s2, s3, s8⟩
      refine ⟨_, s2, .ref sl, s8, Nat.zero_le _, fun p np => ?_⟩
      have e10 := Ex.new (o := .lst []) np
      refine neNil (SqL.of (e10 _ _ hsl)) (racc.up e10).data upd_same ⟨_, rfl, ifE (fun c => ?_) (fun c => ?_)⟩
      · refine ⟨_, s8, by show 2 ≤ sizeLine; decide, fun t nt => hfin _ (e9.trans e10) t sl acc rs' nt (e10 _ _ hsl) (racc.up e10) hsub fun z2 => ?_⟩
        subst z2
        cases racc
        simp at c
      · refine ⟨_, s0, _, s3, dv, r, ys, rfl, hd8.up (e9.trans e10), (e9.trans e10) _ _ hr8, ?_, by omega, fun x H11 e11 hx => ⟨by show 1 ≤ sizeLine; decide, fun o no => ⟨by show 2 ≤ sizeLine; decide, fun t nt => ?_⟩⟩⟩
        · intro z2; subst z2
          exact ok.rows_ne (List.length_eq_zero_iff.mp rr.length.symm)
        · obtain ⟨u, hu, hxu⟩ := pairedMem rr8 hx
          have e12 := Ex.new (o := .lst [x]) no
          exact hfin _ (((e9.trans e10).trans e11).trans e12) t o [x] [u] nt upd_same (.cons (hxu.up (((e9.trans e10).trans e11).trans e12)) .nil) (List.singleton_sublist.mpr hu) (by simp)
    refine ⟨_, rfl, rfl, _, rfl, ifE (fun c => ?_) (fun c => ?k1)⟩
    · refine ⟨dv, rfl, .ref z, rfl, z, sz, rfl, SqL.of hz8, .int (sz.length : Int), rfl, _, _, rfl, rfl, _, _, rfl, rfl, dv, _, rfl, hd8, by omega, by omega, fun total H9 e9 l0 l1 => ?_⟩
      refine ⟨.ref r, rfl, r, rfl, ⟨_, SqL.of (e9 _ _ hr8)⟩, fun D nD => ?_⟩
      refine lcSub (σ := [some (dv), some (.int 6), some (.ref z), some (.ref r), some (.int form), some (.int (sz.length : Int)), some (.ref kl), some (.int total), none, none, none, none, none, none, none, none, none, none, none, none, none, none, none, none]) (xs := ys) (rs := allRows sz) (fun _ => False) nD (SqL.of (e9 _ _ hr8)) (rr8.up e9) (by omega) ?_ (fun acc rs' H20 e20 hacc racc hsub _ => ⟨D, acc, rs', e9.trans e20, hacc, racc, hsub, rfl, rfl, rfl, rfl⟩)
      rintro i x u hx hu hxu H12 Cy Cn e12 cy cn
      have hru : RowOk sz u := (mem_allRows sz u).mp (List.mem_of_getElem? hu)
      obtain ⟨xa, rfl, hxa⟩ := hxu
      exact ⟨rfl, .ref xa, rfl, xa, u, rfl, SqT.of (e12 _ _ hxa), .int total, rfl, rfl, _, rfl, ifE (fun _ => ⟨_, rfl, cy _ (Ex.refl _)⟩) (fun _ => cn _ (Ex.refl _) (fun z => z))⟩
    case k1 =>
    refine ⟨_, rfl, rfl, _, rfl, ifE (fun c => ?_) (fun c => ?k2)⟩
    · refine ⟨dv, rfl, .ref z, rfl, z, sz, rfl, SqL.of hz8, .int (sz.length : Int), rfl, _, _, rfl, rfl, _, _, rfl, rfl, dv, _, rfl, hd8, by omega, by omega, fun low H9 e9 l0 l1 => ?_⟩
      refine ⟨.int low, rfl, _, _, rfl, rfl, dv, rfl, dv, 2, rfl, hd8.up e9, by omega, by omega, fun more H10 e10 m0 m1 => ⟨_, _, rfl, rfl, ?_⟩⟩
      refine ⟨.ref r, rfl, r, rfl, ⟨_, SqL.of ((e9.trans e10) _ _ hr8)⟩, fun D nD => ?_⟩
      refine lcSub (σ := [some (dv), some (.int 6), some (.ref z), some (.ref r), some (.int form), some (.int (sz.length : Int)), some (.ref kl), none, none, some (.int low), some (.int (low + 1 + more)), none, none, none, none, none, none, none, none, none, none, none, none, none]) (xs := ys) (rs := allRows sz) (fun _ => False) nD (SqL.of ((e9.trans e10) _ _ hr8)) (rr8.up (e9.trans e10)) (by omega) ?_ (fun acc rs' H20 e20 hacc racc hsub _ => ⟨D, acc, rs', (e9.trans e10).trans e20, hacc, racc, hsub, rfl, rfl, rfl, rfl⟩)
      rintro i x u hx hu hxu H12 Cy Cn e12 cy cn
      have hru : RowOk sz u := (mem_allRows sz u).mp (List.mem_of_getElem? hu)
      obtain ⟨xa, rfl, hxa⟩ := hxu
      exact ⟨rfl, .int low, rfl, .ref xa, rfl, xa, u, rfl, SqT.of (e12 _ _ hxa), _, _, rfl, rfl, _, rfl, ifE (fun _ => ⟨_, rfl, _, _, rfl, rfl, _, rfl, ifE (fun _ => ⟨_, rfl, cy _ (Ex.refl _)⟩) (fun _ => cn _ (Ex.refl _) (fun z => z))⟩) (fun _ => ⟨_, rfl, iteF (cn _ (Ex.refl _) (fun z => z))⟩)⟩
    case k2 =>
    refine ⟨_, rfl, rfl, _, rfl, ifE (fun c => ?_) (fun c => ?k3)⟩
    · refine ⟨dv, rfl, .ref kl, rfl, dv, kl, _, rfl, hd8, hkl8, rg_ne ok, by rw [rgV_length]; omega, fun one H9 e9 h1 => ?_⟩
      refine ⟨dv, rfl, .ref kl, rfl, dv, kl, _, rfl, hd8.up e9, e9 _ _ hkl8, rg_ne ok, by rw [rgV_length]; omega, fun other H10 e10 h2 => ?_⟩
      obtain ⟨k1, k1l, rfl⟩ := rg_mem h1
      obtain ⟨k2, k2l, rfl⟩ := rg_mem h2
      refine ⟨dv, rfl, dv, 2, rfl, hd8.up (e9.trans e10), by omega, by omega, fun p H11 e11 p0 p2 => ⟨_, _, rfl, rfl, dv, rfl, dv, 2, rfl, hd8.up ((e9.trans e10).trans e11), by omega, by omega, fun p' H13 e13 p0' p2' => ⟨_, _, rfl, rfl, by show 4 ≤ sizeLine; decide, fun t nt => ?_⟩⟩⟩
      have e14 := (((e9.trans e10).trans e11).trans e13).trans (Ex.new (o := .tup [.int (k1 : Int), .int (k2 : Int), .int (1 + p), .int (1 + p')]) nt)
      refine ⟨t, _, rfl, SqT.of upd_same, rfl, _, _, rfl, _, _, rfl, _, _, rfl, _, _, rfl, rfl, ?_⟩
      refine ⟨.ref r, rfl, r, rfl, ⟨_, SqL.of (e14 _ _ hr8)⟩, fun D nD => ?_⟩
      refine lcSub (σ := [some (dv), some (.int 6), some (.ref z), some (.ref r), some (.int form), some (.int (sz.length : Int)), some (.ref kl), none, none, none, none, some (.int (k1 : Int)), some (.int (k2 : Int)), some (.int (1 + p)), some ((.int (1 + p'))), none, none, none, none, none, none, none, none, none]) (xs := ys) (rs := allRows sz) (fun _ => False) nD (SqL.of (e14 _ _ hr8)) (rr8.up e14) (by omega) ?_ (fun acc rs' H20 e20 hacc racc hsub _ => ⟨D, acc, rs', e14.trans e20, hacc, racc, hsub, rfl, rfl, rfl, rfl⟩)
      rintro i x u hx hu hxu H12 Cy Cn e12 cy cn
      have hru : RowOk sz u := (mem_allRows sz u).mp (List.mem_of_getElem? hu)
      obtain ⟨xa, rfl, hxa⟩ := hxu
      obtain ⟨a1, ha1, ha2⟩ := rowKey (r := u) hru.len k1l
      obtain ⟨b1, hb1, hb2⟩ := rowKey (r := u) hru.len k2l
      obtain ⟨n1, hn1, hn2⟩ := rowKey (r := sz) rfl k2l
      refine ⟨rfl, .ref xa, rfl, .int (k1 : Int), rfl, xa, _, _, _, rfl, rfl, SqT.of (e12 _ _ hxa), ha2, .int (1 + p), rfl, _, _, rfl, rfl, _, rfl, ifE (fun c5 => iteT ⟨_, rfl, cy _ (Ex.refl _)⟩) (fun c5 => ?_)⟩
      exact ⟨.ref xa, rfl, .int (k2 : Int), rfl, xa, _, _, _, rfl, rfl, SqT.of (e12 _ _ hxa), hb2, .int (1 + p'), rfl, .ref z, rfl, .int (k2 : Int), rfl, z, _, _, _, rfl, rfl, SqL.of ((e14.trans e12) _ _ hz8), hn2, _, _, rfl, rfl, _, _, rfl, _, _, rfl, rfl, _, rfl, ifE (fun _ => ⟨_, rfl, cy _ (Ex.refl _)⟩) (fun _ => cn _ (Ex.refl _) (fun z => z))⟩
    case k3 =>
    refine ⟨_, rfl, rfl, _, rfl, ifE (fun c => ?_) (fun c => ?k4)⟩
    · refine ⟨dv, rfl, by show 3 ≤ sizeLine; decide, fun l nl => ?_⟩
      have e9 := Ex.new (o := .lst [.int 2, .int 2, .int 3]) nl
      refine ⟨dv, l, _, rfl, hd8.up e9, upd_same, by simp, by simp, fun prv H10 e10 hpr => ?_⟩
      obtain ⟨pr, rfl, pr2⟩ : ∃ pr : Int, prv = .int pr ∧ 0 < pr := by
        simp at hpr
        rcases hpr with h | h <;> exact ⟨_, h, by decide⟩
      have e910 := e9.trans e10
      -- weights
      refine ⟨.ref kl, rfl, kl, rfl, ⟨_, SqL.of (e910 _ _ hkl8)⟩, fun D nD => ?_⟩
      refine lcL (σ := [some (dv), some (.int 6), some (.ref z), some (.ref r), some (.int form), some (.int (sz.length : Int)), some (.ref kl), none, none, none, none, none, none, none, none, none, none, none, none, none, none, none, none, none]) (xs := rgV 0 (sz.length : Int)) (fun i acc _ => ∃ ws : List Int, acc = ws.map V.int ∧ ws.length = i ∧ ∀ w ∈ ws, 0 ≤ w ∧ w ≤ 2) nD (fun _ _ _ _ _ _ _ _ _ h => h) ⟨[], rfl, rfl, by simp⟩ (fun _ _ h => h) (SqL.of (e910 _ _ hkl8)) (by rw [rgV_length]; omega) ?_ ?_
      · rintro i x hx acc H11 Cy Cn e11 ⟨ws, rfl, hws, hw2⟩ cy _
        refine ⟨rfl, tYesE ⟨dv, rfl, dv, 3, rfl, hd8.up (e910.trans e11), by omega, by omega, fun k H12 e12 k0 k3 => cy _ _ e12 ⟨ws ++ [k], by simp, by simp [hws], fun w hw => ?_⟩⟩⟩
        rcases List.mem_append.mp hw with hw | hw
        · exact hw2 w hw
        · rw [List.mem_singleton.mp hw]; omega
      rintro wacc H11 e11 hD ⟨ws, rfl, hws, hw2⟩ _
      rw [rgV_length] at hws
      refine ⟨by show 2 ≤ sizeLine; decide, fun t nt => ?_⟩
      have e12' := Ex.new (o := .tup [.int pr, .ref D]) nt
      refine ⟨t, _, rfl, SqT.of upd_same, rfl, _, _, rfl, _, _, rfl, rfl, ?_⟩
      have e13 := (e910.trans e11).trans e12'
      have hD' := e12' _ _ hD
      refine ⟨.ref r, rfl, r, rfl, ⟨_, SqL.of (e13 _ _ hr8)⟩, fun D4 nD4 => ?_⟩
      refine lcSub (σ := [some (dv), some (.int 6), some (.ref z), some (.ref r), some (.int form), some (.int (sz.length : Int)), some (.ref kl), none, none, none, none, none, none, none, none, some (.int pr), some (.ref D), none, none, none, none, none, none, none]) (xs := ys) (rs := allRows sz) (fun _ => False) nD4 (SqL.of (e13 _ _ hr8)) (rr8.up e13) (by omega) ?_ (fun acc rs' H20 e20 hacc racc hsub _ => ⟨D4, acc, rs', e13.trans e20, hacc, racc, hsub, rfl, rfl, rfl, rfl⟩)
      rintro i x u hx hu hxu H14 Cy Cn e14 cy cn
      have hru : RowOk sz u := (mem_allRows sz u).mp (List.mem_of_getElem? hu)
      obtain ⟨xa, rfl, hxa⟩ := hxu.up e14
      have hx14 := hxa
      have hD14 := e14 _ _ hD'
      refine ⟨rfl, .ref D, rfl, .ref xa, rfl, D, xa, _, _, rfl, SqL.of hD14, SqT.of hx14, fun D5 nD5 => ?_⟩
      refine lcJ (n := sz.length) (σ := [some (dv), some (.int 6), some (.ref z), some (.ref r), some (.int form), some (.int (sz.length : Int)), some (.ref kl), none, none, none, none, none, none, none, none, some (.int pr), some (.ref D), none, none, some (.ref xa), none, none, none, none]) (fun i acc _ => ∃ ns : List Int, acc = ns.map V.int) nD5 (fun _ _ _ _ _ _ _ _ _ h => h) ⟨[], rfl⟩ (fun _ _ h => h) (by omega) (fun i H15 hi e15 => itzGo (SqL.of (e15 _ _ hD14)) (SqT.of (e15 _ _ hx14)) (by simp; omega) (by simp [hru.len]) hi) (fun H15 e15 => itzStop (SqL.of (e15 _ _ hD14)) (SqT.of (e15 _ _ hx14)) (by simp; omega) (by simp [hru.len])) ?_ ?_
      · rintro j hj acc H15 Cy2 Cn2 e15 ⟨ns, rfl⟩ cy2 _ v H16 hy
        obtain ⟨T, wv, xv, rfl, nT, rfl, h1, h2⟩ := itzYld (SqL.of (e15 _ _ hD14)) (SqT.of (e15 _ _ hx14)) hy
        obtain ⟨w1, hw1, rfl⟩ := intsAt h1
        obtain ⟨x1, hx1, rfl⟩ := intsAt h2
        have hw := hw2 w1 (List.mem_of_getElem? hw1)
        refine ⟨T, [.int w1, .int x1], rfl, SqT.of upd_same, rfl, .int w1, [.int x1], rfl, .int x1, [], rfl, rfl, rfl, tYesE ?_⟩
        exact ⟨.int w1, rfl, .int x1, rfl, _, _, rfl, rfl, .inl ⟨by omega, by omega⟩, cy2 _ _ (Ex.new nT) ⟨ns ++ [w1 * x1], by simp⟩⟩
      · rintro acc H15 e15 hD5 ⟨ns, rfl⟩ _
        exact ⟨D5, ns, rfl, SqL.of hD5, .inl ⟨_, rfl, .int pr, rfl, _, _, rfl, rfl, pr2, rfl, _, rfl, ifE (fun _ => ⟨_, rfl, cy _ e15⟩) (fun _ => cn _ e15 (fun z => z))⟩⟩
    case k4 =>
    refine ⟨_, rfl, rfl, _, rfl, ifE (fun c => ?_) (fun c => ?k5)⟩
    · refine ⟨dv, rfl, .ref kl, rfl, dv, kl, _, rfl, hd8, hkl8, rg_ne ok, by rw [rgV_length]; omega, fun one H9 e9 h1 => ?_⟩
      refine ⟨dv, rfl, .ref kl, rfl, dv, kl, _, rfl, hd8.up e9, e9 _ _ hkl8, rg_ne ok, by rw [rgV_length]; omega, fun other H10 e10 h2 => ?_⟩
      obtain ⟨k1, k1l, rfl⟩ := rg_mem h1
      obtain ⟨k2, k2l, rfl⟩ := rg_mem h2
      refine ⟨by show 2 ≤ sizeLine; decide, fun t nt => ?_⟩
      have e14 := (e9.trans e10).trans (Ex.new (o := .tup [.int (k1 : Int), .int (k2 : Int)]) nt)
      refine ⟨t, _, rfl, SqT.of upd_same, rfl, _, _, rfl, _, _, rfl, rfl, ?_⟩
      refine ⟨.ref r, rfl, r, rfl, ⟨_, SqL.of (e14 _ _ hr8)⟩, fun D nD => ?_⟩
      refine lcSub (σ := [some (dv), some (.int 6), some (.ref z), some (.ref r), some (.int form), some (.int (sz.length : Int)), some (.ref kl), none, none, none, none, some (.int (k1 : Int)), some (.int (k2 : Int)), none, none, none, none, none, none, none, none, none, none, none]) (xs := ys) (rs := allRows sz) (fun _ => False) nD (SqL.of (e14 _ _ hr8)) (rr8.up e14) (by omega) ?_ (fun acc rs' H20 e20 hacc racc hsub _ => ⟨D, acc, rs', e14.trans e20, hacc, racc, hsub, rfl, rfl, rfl, rfl⟩)
      rintro i x u hx hu hxu H12 Cy Cn e12 cy cn
      have hru : RowOk sz u := (mem_allRows sz u).mp (List.mem_of_getElem? hu)
      obtain ⟨xa, rfl, hxa⟩ := hxu
      obtain ⟨a1, ha1, ha2⟩ := rowKey (r := u) hru.len k1l
      obtain ⟨b1, hb1, hb2⟩ := rowKey (r := u) hru.len k2l
      exact ⟨rfl, .ref xa, rfl, .int (k1 : Int), rfl, xa, _, _, _, rfl, rfl, SqT.of (e12 _ _ hxa), ha2, .ref xa, rfl, .int (k2 : Int), rfl, xa, _, _, _, rfl, rfl, SqT.of (e12 _ _ hxa), hb2, _, _, rfl, rfl, .inl ⟨_, rfl, _, _, rfl, rfl, (by decide : (0 : Int) < 2), rfl, _, rfl, ifE (fun _ => ⟨_, rfl, cy _ (Ex.refl _)⟩) (fun _ => cn _ (Ex.refl _) (fun z => z))⟩⟩
    case k5 =>
    refine ⟨_, rfl, rfl, _, rfl, ifE (fun c => ?_) (fun c => ?k6)⟩
    · refine ⟨.ref r, rfl, r, rfl, ⟨_, SqL.of ((Ex.refl _) _ _ hr8)⟩, fun D nD => ?_⟩
      refine lcSub (σ := [some (dv), some (.int 6), some (.ref z), some (.ref r), some (.int form), some (.int (sz.length : Int)), some (.ref kl), none, none, none, none, none, none, none, none, none, none, none, none, none, none, none, none, none]) (xs := ys) (rs := allRows sz) (fun _ => False) nD (SqL.of ((Ex.refl _) _ _ hr8)) (rr8.up (Ex.refl _)) (by omega) ?_ (fun acc rs' H20 e20 hacc racc hsub _ => ⟨D, acc, rs', (Ex.refl _).trans e20, hacc, racc, hsub, rfl, rfl, rfl, rfl⟩)
      rintro i x u hx hu hxu H12 Cy Cn e12 cy cn
      have hru : RowOk sz u := (mem_allRows sz u).mp (List.mem_of_getElem? hu)
      obtain ⟨xa, rfl, hxa⟩ := hxu
      exact ⟨rfl, dv, rfl, dv, 4, rfl, hd8.up e12, by omega, by omega, fun k H13 e13 _ _ => ⟨_, _, rfl, rfl, _, rfl, ifE (fun _ => ⟨_, rfl, cy _ e13⟩) (fun _ => cn _ e13 (fun z => z))⟩⟩
    case k6 =>
    refine ⟨_, rfl, rfl, _, rfl, ifE (fun c => ?_) (fun c => ?k7)⟩
    · refine ⟨.ref r, rfl, r, rfl, ⟨_, SqL.of ((Ex.refl _) _ _ hr8)⟩, fun D nD => ?_⟩
      refine lcSub (σ := [some (dv), some (.int 6), some (.ref z), some (.ref r), some (.int form), some (.int (sz.length : Int)), some (.ref kl), none, none, none, none, none, none, none, none, none, none, none, none, none, none, none, none, none]) (xs := ys) (rs := allRows sz) (fun _ => False) nD (SqL.of ((Ex.refl _) _ _ hr8)) (rr8.up (Ex.refl _)) (by omega) ?_ (fun acc rs' H20 e20 hacc racc hsub _ => ⟨D, acc, rs', (Ex.refl _).trans e20, hacc, racc, hsub, rfl, rfl, rfl, rfl⟩)
      rintro i x u hx hu hxu H12 Cy Cn e12 cy cn
      have hru : RowOk sz u := (mem_allRows sz u).mp (List.mem_of_getElem? hu)
      obtain ⟨xa, rfl, hxa⟩ := hxu
      exact ⟨rfl, dv, rfl, dv, 2, rfl, hd8.up e12, by omega, by omega, fun k H13 e13 _ _ => ⟨rfl, _, rfl, ifE (fun _ => ⟨_, rfl, cy _ e13⟩) (fun _ => cn _ e13 (fun z => z))⟩⟩
    case k7 =>
    refine ⟨_, rfl, rfl, _, rfl, ifE (fun c => ?_) (fun c => ?k8)⟩
    · refine ⟨.ref r, rfl, r, rfl, ⟨_, SqL.of ((Ex.refl _) _ _ hr8)⟩, fun D nD => ?_⟩
      refine lcSub (σ := [some (dv), some (.int 6), some (.ref z), some (.ref r), some (.int form), some (.int (sz.length : Int)), some (.ref kl), none, none, none, none, none, none, none, none, none, none, none, none, none, none, none, none, none]) (xs := ys) (rs := allRows sz) (fun _ => False) nD (SqL.of ((Ex.refl _) _ _ hr8)) (rr8.up (Ex.refl _)) (by omega) ?_ (fun acc rs' H20 e20 hacc racc hsub _ => ⟨D, acc, rs', (Ex.refl _).trans e20, hacc, racc, hsub, rfl, rfl, rfl, rfl⟩)
      rintro i x u hx hu hxu H12 Cy Cn e12 cy cn
      have hru : RowOk sz u := (mem_allRows sz u).mp (List.mem_of_getElem? hu)
      obtain ⟨xa, rfl, hxa⟩ := hxu
      exact ⟨rfl, dv, rfl, dv, 5, rfl, hd8.up e12, by omega, by omega, fun k H13 e13 _ _ => ⟨rfl, _, rfl, ifE (fun _ => ⟨_, rfl, cy _ e13⟩) (fun _ => cn _ e13 (fun z => z))⟩⟩
    case k8 =>
      let k := sz.length / 2
      have hk : (sz.length : Int) / 2 = ((sz.length / 2 : Nat) : Int) := by omega
      -- part
      refine ⟨.ref r, rfl, r, rfl, ⟨_, SqL.of hr8⟩, fun D nD => ?_⟩
      refine lcL (σ := [some (dv), some (.int 6), some (.ref z), some (.ref r), some (.int form), some (.int (sz.length : Int)), some (.ref kl), none, none, none, none, none, none, none, none, none, none, none, none, none, none, none, none, none]) (xs := ys) (fun i acc H' => RowsOf H' acc (((allRows sz).take i).map fun (u : Row) => u.take (sz.length / 2))) nD (fun _ _ _ _ _ _ _ _ hl h => h.wr hl) (by simp; exact .nil) (fun _ _ _ => by simp; exact .nil) (SqL.of hr8) (by omega) ?_ ?_
      · rintro i x hx acc H9 Cy Cn e9 racc cy _
        obtain ⟨u, hu, hxu⟩ := pairedGet rr8 hx
        have hru : RowOk sz u := (mem_allRows sz u).mp (List.mem_of_getElem? hu)
        obtain ⟨xa, rfl, hxa⟩ := hxu.up e9
        refine ⟨rfl, tYesE ⟨.ref xa, rfl, .int (sz.length : Int), rfl, _, _, rfl, rfl, ⟨by decide, by decide⟩, _, rfl, xa, _, rfl, SqT.of hxa, fun z2 => absurd z2.2 (noWhole ok hru.len), fun _ p np => ?_⟩⟩
        have hc : cutV (u.map V.int) none (some ((sz.length : Int) / 2)) = (u.take (sz.length / 2)).map V.int := by
          rw [hk, cut_take, List.map_take]
        rw [hc]
        refine cy _ _ (Ex.new np) ?_
        show RowsOf _ (acc ++ [_]) _
        rw [take_snoc hu, List.map_append]
        exact (racc.up (Ex.new np)).snoc ⟨p, rfl, upd_same⟩
      rintro pacc H9 e9 hD racc _
      rw [show ys.length = (allRows sz).length from rr.length, List.take_length] at racc
      have hpl : pacc.length ≤ 6 := by rw [racc.length, List.length_map]; exact ok.rows
      -- kept
      refine ⟨.ref D, rfl, D, pacc, rfl, SqL.of hD, fun D2 nD2 => ?_⟩
      refine lcE (σ := [some (dv), some (.int 6), some (.ref z), some (.ref r), some (.int form), some (.int (sz.length : Int)), some (.ref kl), none, none, none, none, none, none, none, none, none, none, some (.ref D), none, none, none, none, none, none]) (xs := pacc) (fun i acc H' => ∃ rs', RowsOf H' acc rs') nD2 (fun _ _ _ _ _ _ _ _ hl h => ⟨h.choose, h.choose_spec.wr hl⟩) ⟨[], .nil⟩ (fun _ _ _ => ⟨[], .nil⟩) (SqL.of hD) (by omega) ?_ ?_
      · rintro i x hx acc H10 Cy Cn e10 ⟨rs', racc'⟩ cy cn T nT
        obtain ⟨u, hu, hxu⟩ := pairedGet racc hx
        have e11 := e10.trans (Ex.new (o := .tup [.int (i : Int), x]) nT)
        refine ⟨T, [.int (i : Int), x], rfl, SqT.of upd_same, rfl, .int (i : Int), [x], rfl, x, [], rfl, rfl, rfl, ?_⟩
        refine ⟨x, rfl, .ref D, rfl, .int (i : Int), rfl, i, rfl, D, _, rfl, SqL.of (e11 _ _ hD), fun p np => ?_⟩
        rw [cut_take]
        have e12 := e11.trans (Ex.new (o := .lst (pacc.take i)) np)
        refine ⟨_, _, (hxu.up e12).dp, .lst (SqL.of upd_same) (RowsOf.dp (rowsTake i (racc.up e12))), shapedRow _, shapedRowsL _, _, rfl, ifE (fun c3 => ?_) (fun c3 => iteF (cn _ ((Ex.new nT).trans (Ex.new np)) ⟨rs', racc'.up ((Ex.new nT).trans (Ex.new np))⟩))⟩
        refine ⟨dv, rfl, dv, 3, rfl, hd8.up (e9.trans e12), by omega, by omega, fun k H13 e13 _ _ => ⟨_, _, rfl, rfl, _, rfl, ifE (fun _ => ⟨x, rfl, cy _ _ (((Ex.new nT).trans (Ex.new np)).trans e13) ⟨rs' ++ [u], ?_⟩⟩) (fun _ => cn _ (((Ex.new nT).trans (Ex.new np)).trans e13) ⟨rs', racc'.up (((Ex.new nT).trans (Ex.new np)).trans e13)⟩)⟩⟩
        exact (racc'.up (((Ex.new nT).trans (Ex.new np)).trans e13)).snoc (hxu.up (e12.trans e13))
      rintro kacc H10 e10 hD2 ⟨rs2, rk⟩ _
      have e910 := e9.trans e10
      -- states
      refine ⟨.ref r, rfl, r, rfl, ⟨_, SqL.of (e910 _ _ hr8)⟩, fun D3 nD3 => ?_⟩
      refine lcSub (σ := [some (dv), some (.int 6), some (.ref z), some (.ref r), some (.int form), some (.int (sz.length : Int)), some (.ref kl), none, none, none, none, none, none, none, none, none, none, some (.ref D), some (.ref D2), none, none, none, none, none]) (xs := ys) (rs := allRows sz) (fun _ => False) nD3 (SqL.of (e910 _ _ hr8)) (rr8.up e910) (by omega) ?_ (fun acc rs' H20 e20 hacc racc hsub _ => ⟨D3, acc, rs', e910.trans e20, hacc, racc, hsub, rfl, rfl, rfl, rfl⟩)
      rintro i x u hx hu hxu H12 Cy Cn e12 cy cn
      have hru : RowOk sz u := (mem_allRows sz u).mp (List.mem_of_getElem? hu)
      obtain ⟨xa, rfl, hxa⟩ := hxu.up e12
      refine ⟨rfl, .ref xa, rfl, .int (sz.length : Int), rfl, _, _, rfl, rfl, ⟨by decide, by decide⟩, _, rfl, xa, _, rfl, SqT.of hxa, fun z2 => absurd z2.2 (noWhole ok hru.len), fun _ p np => ?_⟩
      have hc : cutV (u.map V.int) none (some ((sz.length : Int) / 2)) = (u.take (sz.length / 2)).map V.int := by
        rw [hk, cut_take, List.map_take]
      rw [hc]
      have e13 := Ex.new (o := .tup ((u.take (sz.length / 2)).map V.int)) np
      exact ⟨.ref D2, rfl, _, _, IntT.dp ⟨p, rfl, upd_same⟩, .lst (SqL.of ((e12.trans e13) _ _ hD2)) (RowsOf.dp (rk.up (e12.trans e13))), shapedRow _, shapedRowsL _, _, rfl, ifE (fun _ => ⟨_, rfl, cy _ e13⟩) (fun _ => cn _ e13 (fun z => z))⟩
end
end Bp

set_option Elab.async false
set_option linter.all false
set_option maxRecDepth 100000
set_option maxHeartbeats 4000000
namespace Bp
open PySem PySem.Spec PyProof.Rows L2 Evl
abbrev s_lawTwoStores : Stmt := topS 46
abbrev N_lawTwoStores : List Str := ["_law_deal", "_law_most", "_law_turn"]
theorem sc_lawTwoStores : FnScope N_lawTwoStores ["_law_deal", "_law_most"] (defScope s_lawTwoStores) := ⟨rfl, rfl, rfl, by decide +kernel, rfl, by decide +kernel, by decide +kernel⟩
/-- two stores, in a new list -/
def spTwo : Sp := fun vs H Q _ => ∃ (dv : V), vs = [dv, .int 6] ∧ Deal H dv ∧ ∀ p a b H', H p = none → Ex H H' → H' p = some (.lst [a, b]) → StoreT H' a → StoreT H' b → Q (.ref p) H'
theorem StoreT.wr {H : Hp} {D : Addr} {acc : List V} {o : HO} {v : V} (hD : H D = some (.lst acc)) (ha : ∀ u ∈ acc, StoreT H u) (h : StoreT H v) : StoreT (upd H D o) v := by
  obtain ⟨t, z, s, sz, ys, rs, h1, h2, h3, h4, h5, h6⟩ := h
  have nt : t ≠ D := ne_of h2 hD (by intro e; cases e)
  have nz : z ≠ D := by
    intro e
    subst e
    rw [h3] at hD
    cases hD
    obtain ⟨n, hn⟩ := List.exists_mem_of_ne_nil _ h6.ok.ne
    obtain ⟨_, _, _, _, _, _, e, _⟩ := ha (.int n) (List.mem_map_of_mem hn)
    cases e
  have ns : s ≠ D := by
    intro e
    subst e
    rw [h4] at hD
    cases hD
    cases h5 with
    | nil => exact h6.ne rfl
    | cons r _ =>
      obtain ⟨t', z', s', _, _, _, e, h2', _⟩ := ha _ List.mem_cons_self
      obtain ⟨a', e', h3'⟩ := r
      rw [e] at e'
      cases e'
      rw [h2'] at h3'
      have no : ∀ r0 : Row, some (HO.tup [V.ref z', V.ref s']) = some (HO.tup (r0.map V.int)) → False := by intro r0 e; cases r0 <;> simp at e
      exact no _ h3'
  exact ⟨t, z, s, sz, ys, rs, h1, by rw [upd_ne nt]; exact h2, by rw [upd_ne nz]; exact h3, by rw [upd_ne ns]; exact h4, h5.wr hD, h6⟩
section
variable {g : TG} {tt : TT} {te : TE} {vs : List Nat} {σ : L2.St} {H1 : Hp} {D : Addr} {Qd : Hp → Prop}
theorem lcR' {lo : Int} {n : Nat} (Rel : Nat → List V → Hp → Prop) (hD : H1 D = none) (mono : ∀ i acc y H, Ex H1 H → H D = some (.lst acc) → Rel i (acc ++ [y]) H → Rel i (acc ++ [y]) (upd H D (.lst (acc ++ [y])))) (h0 : Rel 0 [] H1) (hup : ∀ H, Ex H1 H → Rel 0 [] H1 → Rel 0 [] H) (hsz : n ≤ 100000)
    (hs : ∀ i, i < n → LcTurn Rel H1 i (.int (lo + i)) g tt te vs σ) (hd : ∀ acc H, Ex H1 H → H D = some (.lst acc) → Rel n acc H → acc.length ≤ n → Qd H) :
    ∃ W : Nat → Nat → Hp → Prop, (∃ m, W 0 m (upd H1 D (.lst []))) ∧ ∀ i m H, W i m H →
      ((Itr lo n).stop i H ∧ Qd H) ∨ ((Itr lo n).go i H ∧ ∃ Nx : Hp → Prop, (∀ H', Nx H' → ∃ m', m' < m ∧ W (i + 1) m' H') ∧ ∀ x H', (Itr lo n).yld i H x H' → g x (wipe σ vs) H' fun σ2 H2 => wipe σ2 vs = wipe σ vs ∧ tt σ2 H2 fun b H3 =>
        if b = true then te σ2 H3 fun y H4 => ∃ acc, H4 D = some (.lst acc) ∧ acc.length < sizeLine ∧ Nx (upd H4 D (.lst (acc ++ [y]))) else Nx H3) := by
  refine lc_range (lo := lo) (n := n) (fun i H => ∃ acc, Ex H1 H ∧ H D = some (.lst acc) ∧ acc.length ≤ i ∧ Rel i acc H) ⟨[], Ex.new hD, upd_same, Nat.le_refl _, hup _ (Ex.new hD) h0⟩ (fun i H hi h => ?_) (fun H h => ?_)
  · obtain ⟨acc, e, hl, hn, r⟩ := h
    refine hs i hi acc H _ _ e r (fun y H' e' r' => ?_) (fun H' e' r' => ?_)
    · have hl' := e' _ _ hl
      refine ⟨acc, hl', Nat.lt_of_lt_of_le (by omega : acc.length < 100000) (by decide), acc ++ [y], (e.trans e').mut hD, upd_same, by rw [List.length_append]; exact Nat.succ_le_succ hn, mono _ _ _ _ (e.trans e') hl' r'⟩
    · exact ⟨acc, e.trans e', e' _ _ hl, Nat.le_succ_of_le hn, r'⟩
  · obtain ⟨acc, e, hl, hn, r⟩ := h
    exact hd acc H e hl r hn
end
section
variable {P : Program} {w : World} {K : PySem.W.Frag} {mg : Str → Option Value} {base : Heap}
theorem ok_lawTwoStores {f fS fA fJ : Addr} {fd fdS fdA fdJ : FuncData} (F : Fun K "_law_two_stores" "_law_two_stores" s_lawTwoStores f fd) (B : Blt mg)
    (D_lawAny : Dn K mg "_law_any" s_lawAny ["_law_deal", "_law_bound"] fA fdA) (G_lawAny : FnOk P w K mg base CX0 1 fA fdA ["_law_deal", "_law_bound"] spAny)
    (D_lawStore : Dn K mg "_law_store" s_lawStore ["_law_deal", "_law_most"] fS fdS) (G_lawStore : FnOk P w K mg base CX0 4 fS fdS ["_law_deal", "_law_most"] spStore)
    (D_lawJoinedStore : Dn K mg "_law_joined_store" s_lawJoinedStore ["_law_deal", "_law_most"] fJ fdJ) (G_lawJoinedStore : FnOk P w K mg base CX0 4 fJ fdJ ["_law_deal", "_law_most"] spStore) : FnOk P w K mg base CX0 5 f fd ["_law_deal", "_law_most"] spTwo := by
  refine F.ok sc_lawTwoStores (fun vs H Q E h => ?_) (fun cdv A outer s H vs Q E hr h => ?_)
  · obtain ⟨dv, rfl, _⟩ := h
    rfl
  · obtain ⟨dv, rfl, hd, q⟩ := h
    refine ⟨_, (pss_one (ps_ret (lck (own := [("_law_turn", 2)]) rfl sc_lawTwoStores.nd (show blkC N_lawTwoStores (defScope s_lawTwoStores) _ _ = true by decide +kernel) (pi_range1 (by rfl) B.range (pa_cons pe_int pa_nil)) (fun _ _ _ _ _ => (pg_name (i := 2) sc_lawTwoStores.nd rfl (Or.inl rfl))) (fun _ _ _ _ _ => pts_nil) (fun _ _ _ _ _ => (pe_ifExp (pt_cmpR op_eq (pe_call G_lawAny (hr.mono (by decide)) (by rfl) D_lawAny.g D_lawAny.F.kp D_lawAny.b .nil pass0 (pa_cons (pv 0) (pa_cons pe_int pa_nil))) pe_int (nomark _)) (pe_call G_lawStore (hr.mono (by decide)) (by rfl) D_lawStore.g D_lawStore.F.kp D_lawStore.b .nil pass0 (pa_cons (pv 0) (pa_cons (pv 1) pa_nil))) (pe_call G_lawJoinedStore (hr.mono (by decide)) (by rfl) D_lawJoinedStore.g D_lawJoinedStore.F.kp D_lawJoinedStore.b .nil pass0 (pa_cons (pv 0) (pa_cons (pv 1) pa_nil)))))))), ?_⟩
    refine ⟨2, rfl, by omega, by omega, fun D nD => ?_⟩
    refine lcR' (n := 2) (fun i acc H' => acc.length = i ∧ ∀ v ∈ acc, StoreT H' v) nD ?_ ⟨rfl, by simp⟩ (fun _ _ h => ⟨rfl, by simp⟩) (by omega) ?_ ?_
    · rintro i acc y H' e hl ⟨h1, h2⟩
      exact ⟨h1, fun v hv => (h2 v hv).wr hl fun u hu => h2 u (List.mem_append_left _ hu)⟩
    · rintro i hi acc H1 Cy Cn e1 ⟨h1, h2⟩ cy _
      refine ⟨rfl, tYesE ⟨dv, rfl, dv, 2, rfl, hd.up e1, by omega, by omega, fun k H2 e2 _ _ => ⟨rfl, _, rfl, ifE (fun _ => ?_) (fun _ => ?_)⟩⟩⟩
      all_goals
        refine ⟨dv, rfl, .int 6, rfl, dv, rfl, hd.up (e1.trans e2), fun v H3 e3 hv => cy v H3 (e2.trans e3) ⟨by simp [h1], fun u hu => ?_⟩⟩
        rcases List.mem_append.mp hu with hu | hu
        · exact (h2 u hu).up (e2.trans e3)
        · rw [List.mem_singleton.mp hu]; exact hv
    · rintro acc H1 e1 hl ⟨h1, h2⟩ _
      match acc, h1 with
      | [a, b], _ => exact q D a b H1 nD e1 hl (h2 a (by simp)) (h2 b (by simp))
end
end Bp

set_option Elab.async false
set_option linter.all false
set_option maxRecDepth 100000
set_option maxHeartbeats 4000000
namespace Bp
open PySem PySem.Spec PyProof.Rows L2 Evl
/-! ### rows in order; the rows put together as a list -/
theorem code_inj {B : Int} : ∀ {r q : Row}, r.length = q.length → TS.Bd B r → TS.Bd B q → TS.code B r = TS.code B q → r = q
  | [], [], _, _, _, _ => rfl
  | [], _ :: _, h, _, _, _ => by simp at h
  | _ :: _, [], h, _, _, _ => by simp at h
  | d :: r, e :: q, hl, h1, h2, h => by
    have hl' : r.length = q.length := by simpa using hl
    have de : d = e := by
      rcases Int.lt_trichotomy d e with y | y | y
      · have := TS.code_lt hl' h1.tail h2.tail y; omega
      · exact y
      · have := TS.code_lt hl'.symm h2.tail h1.tail y; omega
    subst de
    have : TS.code B r = TS.code B q := by
      have h3 : d * B ^ r.length + TS.code B r = d * B ^ q.length + TS.code B q := h
      rw [hl'] at h3
      omega
    rw [code_inj hl' h1.tail h2.tail this]
/-- ascending by code -/
def Asc (rs : List Row) : Prop := rs.Pairwise fun x y => TS.code 4 x ≤ TS.code 4 y
def Bd4 (n : Nat) (rs : List Row) : Prop := ∀ r ∈ rs, r.length = n ∧ TS.Bd 4 r
theorem asc_uniq {n : Nat} {rs qs : List Row} (h1 : Asc rs) (h2 : Asc qs) (b : Bd4 n rs) (p : rs.Perm qs) : rs = qs := by
  refine List.Perm.eq_of_pairwise (le := fun x y => TS.code 4 x ≤ TS.code 4 y) (fun x y hx hy h3 h4 => ?_) h1 h2 p
  have bx := b x hx
  have by' := b y (p.mem_iff.mpr hy)
  exact code_inj (bx.1.trans by'.1.symm) bx.2 by'.2 (by omega)
def fits (ps : List (Nat × Nat)) (a b : Row) : Bool := ps.all fun p => a[p.1]? == b[p.2]?
def putL (S T : List Row) (ps : List (Nat × Nat)) (rest : List Nat) : List Row := S.flatMap fun a => (T.filter (fits ps a)).map (glue rest a)
theorem mem_putL {S T : List Row} {ps : List (Nat × Nat)} {rest : List Nat} {z : Row} : z ∈ putL S T ps rest ↔ ∃ a ∈ S, ∃ b ∈ T, fits ps a b = true ∧ z = glue rest a b := by
  unfold putL
  rw [List.mem_flatMap]
  constructor
  · rintro ⟨a, ha, h⟩
    obtain ⟨b, hb, e⟩ := List.mem_map.mp h
    obtain ⟨h1, h2⟩ := List.mem_filter.mp hb
    exact ⟨a, ha, b, h1, h2, e.symm⟩
  · rintro ⟨a, ha, b, hb, h1, e⟩
    exact ⟨a, ha, List.mem_map.mpr ⟨b, List.mem_filter.mpr ⟨hb, h1⟩, e.symm⟩⟩
theorem putL_take {S T : List Row} {ps : List (Nat × Nat)} {rest : List Nat} {i : Nat} {a : Row} (h : S[i]? = some a) : putL (S.take (i + 1)) T ps rest = putL (S.take i) T ps rest ++ (T.filter (fits ps a)).map (glue rest a) := by
  unfold putL
  rw [take_snoc h, List.flatMap_append]
  simp
theorem putL_len (S T : List Row) (ps : List (Nat × Nat)) (rest : List Nat) : (putL S T ps rest).length ≤ S.length * T.length := by
  unfold putL
  induction S with
  | nil => simp
  | cons a S ih =>
    rw [List.flatMap_cons, List.length_append, List.length_map, List.length_cons, Nat.succ_mul]
    have := List.length_filter_le (fits ps a) T
    omega
/-- what is told of the pairs and of the rest -/
structure PairsOk (n m : Nat) (ps : List (Nat × Nat)) (rest : List Nat) : Prop where
  lt : ∀ p ∈ ps, p.1 < n ∧ p.2 < m
  nd2 : (ps.map (·.2)).Nodup
  nd1 : (ps.map (·.1)).Nodup
  mem : ∀ j, j ∈ rest ↔ j < m ∧ j ∉ ps.map (·.2)
  rnd : rest.Nodup
theorem glue_inj {n m : Nat} {ps : List (Nat × Nat)} {rest : List Nat} (h : PairsOk n m ps rest) {a b c d : Row} (la : a.length = n) (lc : c.length = n) (lb : b.length = m) (ld : d.length = m) (f1 : fits ps a b = true) (f2 : fits ps c d = true) (e : glue rest a b = glue rest c d) : a = c ∧ b = d := by
  have e1 : a = c := List.append_inj_left e (by rw [la, lc])
  subst e1
  refine ⟨rfl, List.ext_getElem? fun j => ?_⟩
  have e2 : onKeys rest b = onKeys rest d := List.append_cancel_left e
  by_cases hj : j < m
  · by_cases hp : j ∈ ps.map (·.2)
    · obtain ⟨p, hp1, rfl⟩ := List.mem_map.mp hp
      unfold fits at f1 f2
      rw [List.all_eq_true] at f1 f2
      have g1 := f1 p hp1
      have g2 := f2 p hp1
      rw [beq_iff_eq] at g1 g2
      rw [← g1, g2]
    · have hr := (h.mem j).mpr ⟨hj, hp⟩
      obtain ⟨i, hi⟩ := List.getElem?_of_mem hr
      have g : (onKeys rest b)[i]? = (onKeys rest d)[i]? := by rw [e2]
      rw [onKeys_get, onKeys_get, hi] at g
      exact get_of_getD (by omega) (by omega) (Option.some.inj g)
  · rw [List.getElem?_eq_none (by omega), List.getElem?_eq_none (by omega)]
theorem putL_nodup {n m : Nat} {S T : List Row} {ps : List (Nat × Nat)} {rest : List Nat} (h : PairsOk n m ps rest) (lS : ∀ a ∈ S, a.length = n) (lT : ∀ b ∈ T, b.length = m) (nS : S.Nodup) (nT : T.Nodup) : (putL S T ps rest).Nodup := by
  induction S with
  | nil => simp [putL]
  | cons a S ih =>
    rw [List.nodup_cons] at nS
    show ((T.filter (fits ps a)).map (glue rest a) ++ putL S T ps rest).Nodup
    have la := lS a List.mem_cons_self
    refine nodup_append_of ?_ (ih (fun b hb => lS b (List.mem_cons_of_mem _ hb)) nS.2) fun z hz hz2 => ?_
    · refine List.pairwise_map.mpr (List.Pairwise.imp_of_mem (fun {b d} hb hd hne e => ?_) (nT.filter (fits ps a)))
      obtain ⟨hb1, hb2⟩ := List.mem_filter.mp hb
      obtain ⟨hd1, hd2⟩ := List.mem_filter.mp hd
      exact hne (glue_inj h la la (lT b hb1) (lT d hd1) hb2 hd2 e).2
    · obtain ⟨b, hb, rfl⟩ := List.mem_map.mp hz
      obtain ⟨hb1, hb2⟩ := List.mem_filter.mp hb
      obtain ⟨c, hc, d, hd, f, e⟩ := mem_putL.mp hz2
      have := (glue_inj h la (lS c (List.mem_cons_of_mem _ hc)) (lT b hb1) (lT d hd) hb2 f e).1
      exact nS.1 (this ▸ hc)
theorem RowOk.bd {sz : List Int} {r : Row} (ok : SzOk sz) (h : RowOk sz r) : TS.Bd 4 r := fun x hx => by
  obtain ⟨i, hi⟩ := List.getElem?_of_mem hx
  have hl : i < sz.length := by have := (List.getElem?_eq_some_iff.mp hi).1; rw [h.len] at this; exact this
  have := h.each i x sz[i] hi (List.getElem?_eq_getElem hl)
  have := ok.each sz[i] (List.getElem_mem hl)
  omega
theorem glue_bd {rest : List Nat} {a b : Row} {n m : Nat} (la : a.length = n) (lb : b.length = m) (ba : TS.Bd 4 a) (bb : TS.Bd 4 b) (hr : ∀ j ∈ rest, j < m) : (glue rest a b).length = n + rest.length ∧ TS.Bd 4 (glue rest a b) := by
  refine ⟨by rw [glue_len, la], fun x hx => ?_⟩
  unfold glue onKeys at hx
  rcases List.mem_append.mp hx with hx | hx
  · exact ba x hx
  · obtain ⟨j, hj, rfl⟩ := List.mem_map.mp hx
    have hl : j < b.length := by rw [lb]; exact hr j hj
    rw [List.getD_eq_getElem?_getD, List.getElem?_eq_getElem hl]
    exact bb _ (List.getElem_mem hl)
end Bp

set_option Elab.async false
set_option linter.all false
set_option maxRecDepth 100000
set_option maxHeartbeats 4000000
namespace Bp
open PySem PySem.Spec PyProof.Rows L2 Evl
abbrev s_lawPut : Stmt := topS 48
abbrev N_lawPut : List Str := ["_law_states", "_law_rows", "_law_pairs", "_law_rest", "_law_found", "_law_state", "_law_row", "_law_pair", "_law_key"]
theorem sc_lawPut : FnScope N_lawPut ["_law_states", "_law_rows", "_law_pairs", "_law_rest"] (defScope s_lawPut) := ⟨rfl, rfl, rfl, by decide +kernel, rfl, by decide +kernel, by decide +kernel⟩
def pairRows (ps : List (Nat × Nat)) : List Row := ps.map fun p => [(p.1 : Int), (p.2 : Int)]
/-- the rows put together, in order, in a new list -/
def spPut : Sp := fun vs H Q _ => ∃ (a b c e : Addr) (ss ts pvs : List V) (S T : List Row) (ps : List (Nat × Nat)) (rest : List Nat) (n m : Nat), vs = [.ref a, .ref b, .ref c, .ref e] ∧ H a = some (.lst ss) ∧ RowsOf H ss S ∧ H b = some (.lst ts) ∧ RowsOf H ts T ∧
  H c = some (.lst pvs) ∧ RowsOf H pvs (pairRows ps) ∧ H e = some (.lst ((asInts rest).map V.int)) ∧ 1 ≤ n ∧ n ≤ 100 ∧ Bd4 n S ∧ Bd4 m T ∧ S.length ≤ 6 ∧ T.length ≤ 6 ∧ ps.length ≤ 100 ∧ rest.length ≤ 100 ∧ (∀ p ∈ ps, p.1 < n ∧ p.2 < m) ∧ (∀ j ∈ rest, j < m) ∧
  ∀ p ys zs H', H p = none → Ex H H' → H' p = some (.lst ys) → RowsOf H' ys zs → zs.Perm (putL S T ps rest) → Asc zs → Q (.ref p) H'
theorem tupI_of {K : PySem.W.Frag} {H : Hp} {v : V} {r : Row} (h : IntT H v r) : TupI K H v r := let ⟨a, h1, h2⟩ := h; ⟨a, h1, SqT.of h2⟩
/-- a list of rows, sorted by their codes -/
theorem sortRows {K : PySem.W.Frag} {H : Hp} {n : Nat} {xs ys : List V} {rs : List Row} (rr : RowsOf H xs rs) (hb : Bd4 n rs) (pm : ys.Perm xs) (pw : ys.Pairwise (fun x y => ∀ n m, TupI K H x n → TupI K H y m → TS.code 4 n ≤ TS.code 4 m)) : ∃ zs, RowsOf H ys zs ∧ zs.Perm rs ∧ Asc zs := by
  obtain ⟨zs, p, r⟩ := pairedPerm pm.symm rr
  refine ⟨zs, r, p.symm, ?_⟩
  unfold Asc
  clear pm p
  induction r with
  | nil => exact .nil
  | cons h t ih =>
    rw [List.pairwise_cons] at pw ⊢
    refine ⟨fun z hz => ?_, ih pw.2⟩
    obtain ⟨i, hi⟩ := List.getElem?_of_mem hz
    have hl := (List.getElem?_eq_some_iff.mp hi).1
    rw [← t.length] at hl
    obtain ⟨z', hz', hv⟩ := pairedGet t (List.getElem?_eq_getElem hl)
    rw [hi] at hz'
    cases hz'
    exact pw.1 _ (List.getElem_mem hl) _ _ (tupI_of h) (tupI_of hv)
theorem fitsTake {ps : List (Nat × Nat)} {a b : Row} {i : Nat} {p : Nat × Nat} (h : ps[i]? = some p) : ((ps.take (i + 1)).filter fun p => !(a[p.1]? == b[p.2]?)) = ((ps.take i).filter fun p => !(a[p.1]? == b[p.2]?)) ++ (if (!(a[p.1]? == b[p.2]?)) = true then [p] else []) := filterTake _ h
section
variable {P : Program} {w : World} {K : PySem.W.Frag} {mg : Str → Option Value} {base : Heap}
theorem ok_lawPut {f : Addr} {fd : FuncData} (F : Fun K "_law_put" "_law_put" s_lawPut f fd) (B : Blt mg) : FnOk P w K mg base CX0 1 f fd ["_law_states", "_law_rows", "_law_pairs", "_law_rest"] spPut := by
  refine F.ok sc_lawPut (fun vs H Q E h => ?_) (fun cdv A outer s H vs Q E hr h => ?_)
  · obtain ⟨a, b, c, e, _, _, _, _, _, _, _, _, _, rfl, _⟩ := h
    rfl
  · obtain ⟨a, b, c, e, ss, ts, pvs, S, T, ps, rest, n, m, rfl, ha, rS, hb, rT, hc, rP, he, n1, n100, bS, bT, S6, T6, ps100, rest100, hps, hrest, q⟩ := h
    have hd1 : 1 ≤ n + rest.length := by omega
    refine ⟨_, (pss_cons (ps_set (i := 4) sc_lawPut.nd rfl (.inl rfl) (pe_lst pa_nil))
  (pss_cons (ps_for PassesOwn.never  rfl (piLk (K := K) (pv 0)) (pg_name (i := 5) sc_lawPut.nd rfl (Or.inr rfl))
    (pss_one (ps_for PassesOwn.never  rfl (piLk (K := K) (pv 1)) (pg_name (i := 6) sc_lawPut.nd rfl (Or.inr rfl))
    (pss_one (ps_if (pt_cmpR (eqDk hr.units (K := K)) (lck (own := [("_law_pair", 7)]) rfl sc_lawPut.nd (show blkC N_lawPut (defScope s_lawPut) _ _ = true by decide +kernel) (piLk (K := K) (pv 2)) (fun _ _ _ _ _ => (pg_name (i := 7) sc_lawPut.nd rfl (Or.inl rfl))) (fun _ _ _ _ _ => (pts_one (pt_cmpR op_ne (pe_ix (ixTk (K := K)) (pv 5) (pe_ix (ixTk (K := K)) (pv 7) pe_int (fun _ _ => rfl)) (fun _ _ => rfl)) (pe_ix (ixTk (K := K)) (pv 6) (pe_ix (ixTk (K := K)) (pv 7) pe_int (fun _ _ => rfl)) (fun _ _ => rfl)) (nomark _)))) (fun _ _ _ _ _ => (pv 7))) (pe_lst pa_nil) (nomark _))
    (pss_one (ps_expr (appk (K := K) (pv 4) (pa_cons (pe_op (catTk (K := K)) (pv 5) (pe_callTy (tupOfk (K := K)) (by rfl) B.tuple bt_tuple (pa_cons (lck (own := [("_law_key", 8)]) rfl sc_lawPut.nd (show blkC N_lawPut (defScope s_lawPut) _ _ = true by decide +kernel) (piLk (K := K) (pv 3)) (fun _ _ _ _ _ => (pg_name (i := 8) sc_lawPut.nd rfl (Or.inl rfl))) (fun _ _ _ _ _ => pts_nil) (fun _ _ _ _ _ => (pe_ix (ixTk (K := K)) (pv 6) (pv 8) (fun _ _ => rfl)))) pa_nil))) pa_nil))))
    pss_nil)))))
  (pss_one (ps_ret (pe_callB (cr_sortT (d := n + rest.length) (B := 4) hd1) (by rfl) B.sorted bt_sorted (pa_cons (pv 4) pa_nil)))))), ?_⟩
    refine ⟨Nat.zero_le _, fun o no => ?_⟩
    have e0 := Ex.new (H := H) (o := .lst []) no
    let Pv : Nat → L2.St → Hp → List Row → Prop := fun i σ H' zs => True
    refine ⟨.ref a, rfl, a, rfl, ⟨_, SqL.of (e0 _ _ ha)⟩, for_list (K := K) (a := a) (xs := ss) (fun i σ H' => ∃ v5 v6 fv, σ = [some (.ref a), some (.ref b), some (.ref c), some (.ref e), some (.ref o), v5, v6, none, none] ∧ Ex H H' ∧ H' o = some (.lst fv) ∧ RowsOf H' fv (putL (S.take i) T ps rest)) ?_ ?_ ?_ ?_⟩
    · exact ⟨none, none, [], rfl, e0, upd_same, .nil⟩
    · rintro i σ H' _ ⟨_, _, _, _, ex, _⟩
      exact SqL.of (ex _ _ ha)
    · rintro i x σ H1 hx ⟨v5, v6, fv, rfl, e1, ho, rf⟩
      obtain ⟨st, hst, hxs⟩ := pairedGet rS hx
      have lst := (bS st (List.mem_of_getElem? hst)).1
      refine ⟨.ref b, rfl, b, rfl, ⟨_, SqL.of (e1 _ _ hb)⟩, for_list (K := K) (a := b) (xs := ts) (fun j σ H' => ∃ v6 fv, σ = [some (.ref a), some (.ref b), some (.ref c), some (.ref e), some (.ref o), some x, v6, none, none] ∧ Ex H H' ∧ H' o = some (.lst fv) ∧ RowsOf H' fv (putL (S.take i) T ps rest ++ ((T.take j).filter (fits ps st)).map (glue rest st))) ?_ ?_ ?_ ?_⟩
      · exact ⟨v6, fv, rfl, e1, ho, by simpa using rf⟩
      · rintro j σ H' _ ⟨_, _, _, ex, _⟩
        exact SqL.of (ex _ _ hb)
      · rintro j y σ H2 hy ⟨v6, fv, rfl, e2, ho, rf⟩
        obtain ⟨row, hrow, hyr⟩ := pairedGet rT hy
        have lrow := (bT row (List.mem_of_getElem? hrow)).1
        obtain ⟨xa, rfl, hxa⟩ := hxs.up e2
        obtain ⟨ya, rfl, hya⟩ := hyr.up e2
        -- [pair for pair in pairs if state[pair[0]] != row[pair[1]]] == []
        refine ⟨.ref c, rfl, c, rfl, ⟨_, SqL.of (e2 _ _ hc)⟩, fun D nD => ?_⟩
        refine lcL (σ := [some (.ref a), some (.ref b), some (.ref c), some (.ref e), some (.ref o), some (.ref xa), some (.ref ya), none, none]) (xs := pvs) (fun k acc H' => RowsOf H' acc (pairRows ((ps.take k).filter fun p => !(st[p.1]? == row[p.2]?)))) nD (fun _ _ _ _ _ _ _ _ hl h => h.wr hl) .nil (fun _ _ _ => .nil) (SqL.of (e2 _ _ hc)) (by have := rP.length; unfold pairRows at this; rw [List.length_map] at this; omega) ?_ ?_
        · rintro k z hz acc H3 Cy Cn e3 racc cy cn
          obtain ⟨pr, hpr, hzp⟩ := pairedGet rP hz
          unfold pairRows at hpr
          rw [List.getElem?_map] at hpr
          obtain ⟨p, hp, hpe⟩ : ∃ p, ps[k]? = some p ∧ pr = [(p.1 : Int), (p.2 : Int)] := by
            cases e9 : ps[k]? with
            | none => rw [e9] at hpr; cases hpr
            | some p => rw [e9] at hpr; exact ⟨p, rfl, (Option.some.inj hpr).symm⟩
          subst hpe
          have hlt := hps p (List.mem_of_getElem? hp)
          obtain ⟨za, rfl, hza⟩ := hzp.up (e2.trans e3)
          obtain ⟨u1, hu1, hu2⟩ := rowAt' (a := st) (k := p.1) (by omega)
          obtain ⟨u3, hu3, hu4⟩ := rowAt' (a := row) (k := p.2) (by omega)
          refine ⟨rfl, .ref xa, rfl, .ref za, rfl, za, [.int (p.1 : Int), .int (p.2 : Int)], 0, .int (p.1 : Int), rfl, rfl, SqT.of hza, rfl, xa, _, _, _, rfl, rfl, SqT.of (e3 _ _ hxa), hu2, .ref ya, rfl, .ref za, rfl, za, [.int (p.1 : Int), .int (p.2 : Int)], 1, .int (p.2 : Int), rfl, rfl, SqT.of hza, rfl, ya, _, _, _, rfl, rfl, SqT.of (e3 _ _ hya), hu4, rfl, _, rfl, ifE (fun c3 => ?_) (fun c3 => ?_)⟩
          · refine ⟨.ref za, rfl, cy _ _ (Ex.refl _) ?_⟩
            have c4 : u1 ≠ u3 := by intro z; subst z; simp at c3
            show RowsOf _ (acc ++ [_]) _
            rw [fitsTake hp, hu1, hu3, if_pos (by simpa using c4)]
            unfold pairRows at racc ⊢
            rw [List.map_append]
            exact racc.snoc ⟨za, rfl, hza⟩
          · refine cn _ (Ex.refl _) ?_
            have c4 : u1 = u3 := eqI (notF c3)
            show RowsOf _ acc _
            rw [fitsTake hp, hu1, hu3, if_neg (by simp [c4]), List.append_nil]
            exact racc
        · rintro acc H3 e3 hD racc _
          rw [show pvs.length = ps.length by have := rP.length; unfold pairRows at this; rw [List.length_map] at this; exact this, List.take_length] at racc
          refine ⟨Nat.zero_le _, fun p np => ?_⟩
          have e4 := Ex.new (o := .lst []) np
          have hall : acc.isEmpty = fits ps st row := by
            have h1 := racc.length
            unfold pairRows at h1
            rw [List.length_map] at h1
            unfold fits
            rw [Bool.eq_iff_iff, List.isEmpty_iff_length_eq_zero, h1, List.length_eq_zero_iff, List.filter_eq_nil_iff, List.all_eq_true]
            simp
          refine eqNil (SqL.of (e4 _ _ hD)) (racc.up e4).data upd_same ⟨_, rfl, ?_⟩
          rw [hall]
          have e24 := e2.trans (e3.trans e4)
          have ho4 := (e3.trans e4) _ _ ho
          have rf4 := rf.up (e3.trans e4)
          have hxa4 := (e3.trans e4) _ _ hxa
          have hya4 := (e3.trans e4) _ _ hya
          generalize (upd H3 p (.lst [])) = H4 at *
          refine ifE (fun c3 => ?_) (fun c3 => ?_)
          · -- found.append(state + tuple([row[key] for key in rest]))
            have hfl : fv.length ≤ 1000 := by
              rw [rf4.length, List.length_append, List.length_map]
              have h1 := putL_len (S.take i) T ps rest
              have h2 := List.length_filter_le (fits ps st) (T.take j)
              rw [List.length_take] at h1 h2
              have h3 : min i S.length * T.length ≤ 6 * 6 := Nat.mul_le_mul (by omega) T6
              omega
            refine ⟨.ref o, rfl, .inl ⟨rfl, _, SqL.of ho4⟩, .ref xa, rfl, .ref e, rfl, e, rfl, ⟨_, SqL.of (e24 _ _ he)⟩, fun D2 nD2 => ?_⟩
            refine lcL (σ := [some (.ref a), some (.ref b), some (.ref c), some (.ref e), some (.ref o), some (.ref xa), some (.ref ya), none, none]) (xs := (asInts rest).map V.int) (fun k acc _ => acc = (onKeys (rest.take k) row).map V.int) nD2 (fun _ _ _ _ _ _ _ _ _ h => h) rfl (fun _ _ h => h) (SqL.of (e24 _ _ he)) (by rw [ints_len]; omega) ?_ ?_
            · rintro k v hv acc2 H5 Cy Cn e5 racc2 cy _
              obtain ⟨k2, hk2, rfl⟩ := natAt hv
              obtain ⟨u1, hu1, hu2⟩ := rowAt' (a := row) (k := k2) (by have := hrest k2 (List.mem_of_getElem? hk2); omega)
              refine ⟨rfl, tYesE ⟨.ref ya, rfl, .int (k2 : Int), rfl, ya, _, _, _, rfl, rfl, SqT.of (e5 _ _ hya4), hu2, cy _ _ (Ex.refl _) ?_⟩⟩
              show acc2 ++ [_] = _
              rw [racc2, take_snoc hk2]
              unfold onKeys
              simp [List.getD_eq_getElem?_getD, hu1]
            · rintro acc2 H5 e5 hD2 racc2 _
              rw [ints_len, List.take_length] at racc2
              refine ⟨D2, acc2, rfl, .inl ⟨SqL.of hD2, fun t nt => ?_⟩⟩
              have e6 := e5.trans (Ex.new (o := .tup acc2) nt)
              have hne : st.map V.int ≠ [] := by intro z; have := congrArg List.length z; simp at this; rw [this] at lst; simp at lst; omega
              have ho6 := e6 _ _ ho4
              have fin : ∀ u H7, Ex H4 H7 → H7 u = some (.tup ((glue rest st row).map V.int)) → ∀ Nx : Hp → Prop, (∀ H8, Ex H H8 → H8 o = some (.lst (fv ++ [.ref u])) → RowsOf H8 (fv ++ [.ref u]) (putL (S.take i) T ps rest ++ ((T.take (j + 1)).filter (fits ps st)).map (glue rest st)) → Nx H8) → Nx (upd H7 o (.lst (fv ++ [.ref u]))) := by
                intro u H7 e7 hu Nx nx
                have ho7 := e7 _ _ ho4
                refine nx _ ((e24.trans e7).mut no) upd_same ?_
                rw [filterTake _ hrow, if_pos c3, List.map_append, ← List.append_assoc]
                exact RowsOf.wr ho7 ((rf4.up e7).snoc ⟨u, rfl, hu⟩)
              have hgl : (glue rest st row).map V.int = st.map V.int ++ acc2 := by
                rw [racc2]; unfold glue; rw [List.map_append]
              refine ⟨xa, t, _, acc2, rfl, rfl, SqT.of (e6 _ _ hxa4), SqT.of upd_same, ?_, fun z => absurd z hne, fun _ z => ?_, fun _ _ u nu => ?_⟩
              · rw [racc2, List.length_map, List.length_map]
                unfold onKeys
                rw [List.length_map]
                exact Nat.le_trans (by omega : st.length + rest.length ≤ 200) (by decide)
              · refine ⟨o, fv, .ref xa, rfl, rfl, ho6, Nat.lt_of_lt_of_le (by omega : fv.length < 100000) (by decide), ?_⟩
                refine fin xa _ e6 (by rw [hgl, show st.map V.int ++ acc2 = st.map V.int by rw [z, List.append_nil]]; exact e6 _ _ hxa4) (fun H8 => _) fun H8 e8 h1 h2 => ?_
                exact ⟨_, _, rfl, e8, h1, h2⟩
              · have e7 := e6.trans (Ex.new (o := .tup (st.map V.int ++ acc2)) nu)
                refine ⟨o, fv, .ref u, rfl, rfl, e7 _ _ ho4, Nat.lt_of_lt_of_le (by omega : fv.length < 100000) (by decide), ?_⟩
                refine fin u _ e7 (by rw [hgl]; exact upd_same) (fun H8 => _) fun H8 e8 h1 h2 => ?_
                exact ⟨_, _, rfl, e8, h1, h2⟩
          · refine ⟨_, _, rfl, e24, ho4, ?_⟩
            rw [filterTake _ hrow, if_neg (by rw [c3]; simp), List.append_nil]
            exact rf4
      · rintro σ H2 ⟨v6, fv, rfl, e2, ho, rf⟩
        refine ⟨_, _, _, rfl, e2, ho, ?_⟩
        rw [putL_take hst]
        rw [rT.length, List.take_length] at rf
        exact rf
    · rintro σ H1 ⟨v5, v6, fv, rfl, e1, ho, rf⟩
      rw [show ss.length = S.length from rS.length, List.take_length] at rf
      have hb4 : Bd4 (n + rest.length) (putL S T ps rest) := fun z hz => by
        obtain ⟨a, ha, b, hb, _, rfl⟩ := mem_putL.mp hz
        exact glue_bd (bS a ha).1 (bT b hb).1 (bS a ha).2 (bT b hb).2 hrest
      have hlen : (putL S T ps rest).length ≤ 36 := Nat.le_trans (putL_len S T ps rest) (Nat.mul_le_mul S6 T6)
      refine ⟨.ref o, rfl, o, fv, rfl, SqL.of ho, by rw [rf.length]; omega, fun x hx => ?_, fun ys p pm pw np => ?_⟩
      · obtain ⟨r, hr, hxr⟩ := pairedMem rf hx
        exact ⟨r, tupI_of hxr, (hb4 r hr).1, (hb4 r hr).2⟩
      · obtain ⟨zs, rz, pz, az⟩ := sortRows rf hb4 pm pw
        exact q p ys zs _ (freshEx e1 np) (e1.trans (Ex.new np)) upd_same (rz.up (Ex.new np)) pz az
end
end Bp

set_option Elab.async false
set_option linter.all false
set_option maxRecDepth 100000
set_option maxHeartbeats 4000000
namespace Bp
open PySem PySem.Spec PyProof.Rows L2 Evl
abbrev s_lawPairsOf : Stmt := topS 49
abbrev N_lawPairsOf : List Str := ["_law_deal", "_law_sizes_here", "_law_others", "_law_most", "_law_found", "_law_one", "_law_fit", "_law_key", "_law_pair"]
theorem sc_lawPairsOf : FnScope N_lawPairsOf ["_law_deal", "_law_sizes_here", "_law_others", "_law_most"] (defScope s_lawPairsOf) := ⟨rfl, rfl, rfl, by decide +kernel, rfl, by decide +kernel, by decide +kernel⟩
/-- pairs of keys of one size, in a new list -/
def spPairsOf : Sp := fun vs H Q _ => ∃ (dv : V) (a b : Addr) (sz sy : List Int) (most : Int), vs = [dv, .ref a, .ref b, .int most] ∧ Deal H dv ∧ H a = some (.lst (sz.map V.int)) ∧ H b = some (.lst (sy.map V.int)) ∧ sz.length ≤ 100 ∧ sy.length ≤ 100 ∧
  ∀ p pvs ps H', H p = none → Ex H H' → H' p = some (.lst pvs) → RowsOf H' pvs (pairRows ps) → (∀ q ∈ ps, q.1 < sz.length ∧ q.2 < sy.length ∧ sz[q.1]? = sy[q.2]?) → (ps.map (·.1)).Nodup → (ps.map (·.2)).Nodup → Q (.ref p) H'
theorem pairRow {H : Hp} {pvs : List V} {ps : List (Nat × Nat)} {k : Nat} {z : V} (rP : RowsOf H pvs (pairRows ps)) (hz : pvs[k]? = some z) : ∃ p, ps[k]? = some p ∧ IntT H z [(p.1 : Int), (p.2 : Int)] := by
  obtain ⟨pr, hpr, hzp⟩ := pairedGet rP hz
  unfold pairRows at hpr
  rw [List.getElem?_map] at hpr
  cases e9 : ps[k]? with
  | none => rw [e9] at hpr; cases hpr
  | some p => rw [e9] at hpr; rw [← Option.some.inj hpr] at hzp; exact ⟨p, rfl, hzp⟩
theorem pairs_len {H : Hp} {pvs : List V} {ps : List (Nat × Nat)} (rP : RowsOf H pvs (pairRows ps)) : pvs.length = ps.length := by have := rP.length; unfold pairRows at this; rw [List.length_map] at this; exact this
/-- an order of 0 .. n - 1 -/
theorem perm_rg {n : Nat} {ys : List V} (pm : ys.Perm (rgV 0 (n : Int))) : ∃ ks : List Nat, ys = (asInts ks).map V.int ∧ ks.Nodup ∧ (∀ k ∈ ks, k < n) ∧ ks.length = n := by
  have h0 : rgV 0 (n : Int) = (asInts (List.range n)).map V.int := by
    unfold rgV asInts
    rw [List.map_map]
    have : ((n : Int) - 0).toNat = n := by omega
    rw [this]
    refine List.map_congr_left fun k _ => ?_
    simp
  have hm : ∀ v ∈ ys, ∃ k : Nat, v = V.int (k : Int) ∧ k < n := fun v hv => by
    obtain ⟨k, h1, h2⟩ := rg_mem (pm.mem_iff.mp hv)
    exact ⟨k, h2, h1⟩
  have hex : ∀ l : List V, (∀ v ∈ l, ∃ k : Nat, v = V.int (k : Int) ∧ k < n) → ∃ ks : List Nat, l = (asInts ks).map V.int ∧ ∀ k ∈ ks, k < n := by
    intro l
    induction l with
    | nil => intro _; exact ⟨[], rfl, by simp⟩
    | cons v l ih =>
      intro h
      obtain ⟨k, rfl, hk⟩ := h v List.mem_cons_self
      obtain ⟨ks, rfl, h2⟩ := ih fun u hu => h u (List.mem_cons_of_mem _ hu)
      exact ⟨k :: ks, rfl, fun j hj => by
        rcases List.mem_cons.mp hj with e | hj
        · rw [e]; exact hk
        · exact h2 j hj⟩
  obtain ⟨ks, rfl, hk⟩ := hex ys hm
  have inj : ∀ a b : Nat, V.int (a : Int) = V.int (b : Int) → a = b := fun a b e => by have := V.int.inj e; omega
  refine ⟨ks, rfl, ?_, hk, ?_⟩
  · have nd : (rgV 0 (n : Int)).Nodup := by
      rw [h0]
      unfold asInts
      rw [List.map_map]
      exact List.pairwise_map.mpr (List.Pairwise.imp (fun {a b} h e => h (inj a b e)) List.nodup_range)
    have := pm.nodup_iff.mpr nd
    unfold asInts at this
    rw [List.map_map] at this
    exact List.Pairwise.imp (fun {a b} h e => h (by rw [e])) (List.pairwise_map.mp this)
  · have := pm.length_eq
    rw [rgV_length, ints_len] at this
    omega
section
variable {P : Program} {w : World} {K : PySem.W.Frag} {mg : Str → Option Value} {base : Heap}
theorem ok_lawPairsOf {f fM fO : Addr} {fd fdM fdO : FuncData} (F : Fun K "_law_pairs_of" "_law_pairs_of" s_lawPairsOf f fd) (B : Blt mg)
    (D_lawMixed : Dn K mg "_law_mixed" s_lawMixed ["_law_deal", "_law_some"] fM fdM) (G_lawMixed : FnOk P w K mg base CX0 2 fM fdM ["_law_deal", "_law_some"] (spMixed K))
    (D_lawOf : Dn K mg "_law_of" s_lawOf ["_law_deal", "_law_some"] fO fdO) (G_lawOf : FnOk P w K mg base CX0 2 fO fdO ["_law_deal", "_law_some"] spOf) : FnOk P w K mg base CX0 3 f fd ["_law_deal", "_law_sizes_here", "_law_others", "_law_most"] spPairsOf := by
  refine F.ok sc_lawPairsOf (fun vs H Q E h => ?_) (fun cdv A outer s H vs Q E hr h => ?_)
  · obtain ⟨dv, a, b, sz, sy, most, rfl, _⟩ := h
    rfl
  · obtain ⟨dv, a, b, sz, sy, most, rfl, hd, ha, hb, z100, y100, q⟩ := h
    refine ⟨_, (pss_cons (ps_set (i := 4) sc_lawPairsOf.nd rfl (.inr rfl) (pe_lst pa_nil))
  (pss_cons (ps_for PassesOwn.never  rfl (piLk (K := K) (pe_call G_lawMixed (hr.mono (by decide)) (by rfl) D_lawMixed.g D_lawMixed.F.kp D_lawMixed.b .nil pass0 (pa_cons (pv 0) (pa_cons (pe_listRg rfl (by rfl) B.list (prg_1 (by rfl) B.range (pe_callB (lenk (K := K)) (by rfl) B.len bt_len (pa_cons (pv 1) pa_nil)))) pa_nil)))) (pg_name (i := 5) sc_lawPairsOf.nd rfl (Or.inr rfl))
    (pss_cons (ps_setLc (i := 6) (own := [("_law_key", 7)]) rfl sc_lawPairsOf.nd rfl rfl (sw_true rfl rfl rfl (by decide +kernel)) (pi_range1 (by rfl) B.range (pa_cons (pe_callB (lenk (K := K)) (by rfl) B.len bt_len (pa_cons (pv 2) pa_nil)) pa_nil)) (blkOk_by (show blkC N_lawPairsOf (defScope s_lawPairsOf) _ _ = true by decide +kernel)) (fun _ _ _ _ _ => (pg_name (i := 7) sc_lawPairsOf.nd rfl (Or.inr rfl))) (fun _ _ _ _ _ => (pts_one (PW.pt (pw_and (pt_cmpR op_eq (pe_ix (ixLk (K := K)) (pv 2) (pv 7) (fun _ _ => rfl)) (pe_ix (ixLk (K := K)) (pv 1) (pv 5) (fun _ _ => rfl)) (nomark _)) (pw_and1 (pt_cmpR (eqDk hr.units (K := K)) (lck (own := [("_law_pair", 8)]) rfl sc_lawPairsOf.nd (by kernel_rfl) (piLk (K := K) (pv 4)) (fun _ _ _ _ _ => (pg_name (i := 8) sc_lawPairsOf.nd rfl (Or.inl rfl))) (fun _ _ _ _ _ => (pts_one (pt_cmpR op_eq (pe_ix (ixTk (K := K)) (pv 8) pe_int (fun _ _ => rfl)) (pv 7) (nomark _)))) (fun _ _ _ _ _ => (pv 8))) (pe_lst pa_nil) (nomark _))))))) (fun _ _ _ _ _ => (pv 7)))
  (pss_one (ps_if (PW.pt (pw_and (pt_cmpR (neDk hr.units (K := K)) (pv 6) (pe_lst pa_nil) (nomark _)) (pw_and1 (pt_cmpR op_lt (pe_callB (lenk (K := K)) (by rfl) B.len bt_len (pa_cons (pv 4) pa_nil)) (pv 3) (nomark _)))))
    (pss_one (ps_expr (appk (K := K) (pv 4) (pa_cons (pe_tup (pa_cons (pv 5) (pa_cons (pe_call G_lawOf (hr.mono (by decide)) (by rfl) D_lawOf.g D_lawOf.F.kp D_lawOf.b .nil pass0 (pa_cons (pv 0) (pa_cons (pv 6) pa_nil))) pa_nil))) pa_nil))))
    pss_nil))))
  (pss_one (ps_ret (pv 4))))), ?_⟩
    refine ⟨Nat.zero_le _, fun o no => ?_⟩
    have e0 := Ex.new (H := H) (o := .lst []) no
    -- for one in mixed(deal, list(range(len(sizes))))
    refine ⟨dv, rfl, .ref a, rfl, _, sz.length, rfl, .inl ⟨_, SqL.of (e0 _ _ ha), by rw [List.length_map]⟩, sz.length, rfl, ⟨by omega, by omega, by omega, by omega, by omega⟩, fun l nl => ?_⟩
    have e1 := e0.trans (Ex.new (o := .lst (rgV 0 (sz.length : Int))) nl)
    have ho1 := (Ex.new (o := .lst (rgV 0 (sz.length : Int))) nl) _ _ (upd_same (H := H) (a := o) (o := .lst []))
    refine ⟨dv, l, _, rfl, hd.up e1, upd_same, ?_, by rw [rgV_length]; omega, fun p1 ys H2 np1 e2 hp1 pm => ?_⟩
    · intro v hv
      obtain ⟨k, _, rfl⟩ := rg_mem hv
      exact ⟨.int (k : Int), .int _, by simp [PyData.canLay0], by simp [PyData.depth]⟩
    obtain ⟨ks, rfl, kn, klt, kl⟩ := perm_rg pm
    have po : p1 ≠ o := fun z => by subst z; rw [np1] at ho1; cases ho1
    refine ⟨p1, rfl, ⟨_, SqL.of hp1⟩, for_list (K := K) (a := p1) (xs := (asInts ks).map V.int) (fun i σ H' => ∃ v5 v6 fv ps, σ = [some dv, some (.ref a), some (.ref b), some (.int most), some (.ref o), v5, v6, none, none] ∧ Ex H H' ∧ H' p1 = some (.lst ((asInts ks).map V.int)) ∧ H' o = some (.lst fv) ∧ RowsOf H' fv (pairRows ps) ∧
      (∀ q ∈ ps, q.1 < sz.length ∧ q.2 < sy.length ∧ sz[q.1]? = sy[q.2]?) ∧ (ps.map (·.1)).Nodup ∧ (ps.map (·.2)).Nodup ∧ (∀ q ∈ ps, q.1 ∈ ks.take i) ∧ ps.length ≤ i) ?_ ?_ ?_ ?_⟩
    · exact ⟨none, none, [], [], rfl, e1.trans e2, hp1, e2 _ _ ho1, .nil, by simp, by simp, by simp, by simp, by simp⟩
    · rintro i σ H' _ ⟨_, _, _, _, _, _, h, _⟩
      exact SqL.of h
    · rintro i x σ H3 hx ⟨v5, v6, fv, ps, rfl, e3, hp3, ho3, rf, hps, n1, n2, hsub, hpl⟩
      obtain ⟨k1, hk1, rfl⟩ := natAt hx
      have k1lt := klt k1 (List.mem_of_getElem? hk1)
      have hi : i < ks.length := (List.getElem?_eq_some_iff.mp hk1).1
      obtain ⟨s1, hs1, hs2⟩ := rowAt' (a := sz) (k := k1) k1lt
      -- fit
      refine ⟨.ref b, rfl, _, sy.length, rfl, .inl ⟨_, SqL.of (e3 _ _ hb), by rw [List.length_map]⟩, sy.length, rfl, by omega, by omega, fun D nD => ?_⟩
      refine lcR (σ := [some dv, some (.ref a), some (.ref b), some (.int most), some (.ref o), some (.int (k1 : Int)), v6, none, none]) (n := ((sy.length : Nat) : Int).toNat) (fun k acc _ => ∃ ft : List Nat, acc = (asInts ft).map V.int ∧ ∀ j ∈ ft, j < sy.length ∧ sz[k1]? = sy[j]? ∧ j ∉ ps.map (fun p : Nat × Nat => p.2)) nD (fun _ _ _ _ _ _ _ _ _ h => h) ⟨[], rfl, by simp⟩ (fun _ _ h => h) (by omega) ?_ ?_
      · rintro k hk acc H4 Cy Cn e4 ⟨ft, rfl, hft⟩ cy cn
        have hk' : k < sy.length := by omega
        obtain ⟨t1, ht1, ht2⟩ := rowAt' (a := sy) (k := k) hk'
        rw [Int.zero_add]
        have e34 := e3.trans e4
        refine ⟨rfl, .ref b, rfl, .int (k : Int), rfl, b, _, _, _, rfl, rfl, SqL.of (e34 _ _ hb), ht2, .ref a, rfl, .int (k1 : Int), rfl, a, _, _, _, rfl, rfl, SqL.of (e34 _ _ ha), hs2, rfl, _, rfl, ifE (fun c1 => ?_) (fun c1 => iteF (cn _ (Ex.refl _) ⟨ft, rfl, hft⟩))⟩
        have c1' := eqI c1
        have ho4 := e4 _ _ ho3
        refine ⟨.ref o, rfl, o, rfl, ⟨_, SqL.of ho4⟩, fun D2 nD2 => ?_⟩
        refine lcL (σ := [some dv, some (.ref a), some (.ref b), some (.int most), some (.ref o), some (.int (k1 : Int)), v6, some (.int (k : Int)), none]) (xs := fv) (fun j acc H' => RowsOf H' acc (pairRows ((ps.take j).filter fun p => p.2 == k))) nD2 (fun _ _ _ _ _ _ _ _ hl h => h.wr hl) .nil (fun _ _ _ => .nil) (SqL.of ho4) (by rw [pairs_len rf]; omega) ?_ ?_
        · rintro j z hz acc2 H5 Cy2 Cn2 e5 racc cy2 cn2
          obtain ⟨p, hp, hzp⟩ := pairRow rf hz
          obtain ⟨za, rfl, hza⟩ := hzp.up (e4.trans e5)
          refine ⟨rfl, .ref za, rfl, za, [.int (p.1 : Int), .int (p.2 : Int)], 1, .int (p.2 : Int), rfl, rfl, SqT.of hza, rfl, .int (k : Int), rfl, rfl, _, rfl, ifE (fun c3 => ?_) (fun c3 => ?_)⟩
          · have c4 := eqI c3
            refine ⟨.ref za, rfl, cy2 _ _ (Ex.refl _) ?_⟩
            show RowsOf _ (acc2 ++ [_]) _
            rw [filterTake (fun p : Nat × Nat => p.2 == k) hp, if_pos (by simp; omega)]
            unfold pairRows at racc ⊢
            rw [List.map_append]
            exact racc.snoc ⟨za, rfl, hza⟩
          · have c4 := neI c3
            refine cn2 _ (Ex.refl _) ?_
            show RowsOf _ acc2 _
            rw [filterTake (fun p : Nat × Nat => p.2 == k) hp, if_neg (by simp; omega), List.append_nil]
            exact racc
        · rintro acc2 H5 e5 hD2 racc _
          rw [pairs_len rf, List.take_length] at racc
          refine ⟨Nat.zero_le _, fun p np => ?_⟩
          have e6 := Ex.new (o := .lst []) np
          refine eqNil (SqL.of (e6 _ _ hD2)) (racc.up e6).data upd_same ⟨_, rfl, ifE (fun c3 => ?_) (fun c3 => cn _ (e5.trans e6) ⟨ft, rfl, hft⟩)⟩
          refine ⟨.int (k : Int), rfl, cy _ _ (e5.trans e6) ⟨ft ++ [k], by simp [asInts], fun j hj => ?_⟩⟩
          rcases List.mem_append.mp hj with hj | hj
          · exact hft j hj
          · rw [List.mem_singleton.mp hj]
            refine ⟨hk', by rw [hs1, ht1, c1'], fun hm => ?_⟩
            obtain ⟨p, hp, e⟩ := List.mem_map.mp hm
            have h1 := pairs_len racc
            rw [List.isEmpty_iff_length_eq_zero, h1, List.length_eq_zero_iff, List.filter_eq_nil_iff] at c3
            exact c3 p hp (by simpa using e)
      rintro facc H4 e4 hD ⟨ft, rfl, hft⟩ hfl
      have e34 := e3.trans e4
      -- if fit != [] and len(found) < most
      refine ⟨.ref D, rfl, Nat.zero_le _, fun p np => ?_⟩
      have e5 := e4.trans (Ex.new (o := .lst []) np)
      have hD5 := (Ex.new (o := .lst []) np) _ _ hD
      have hpn := upd_same (H := H4) (a := p) (o := .lst [])
      generalize (upd H4 p (.lst [])) = H5 at *
      have keep : ∀ H6, Ex H3 H6 → ∃ v5 v6 fv ps, [some dv, some (.ref a), some (.ref b), some (.int most), some (.ref o), some (.int (k1 : Int)), some (.ref D), none, none] = [some dv, some (.ref a), some (.ref b), some (.int most), some (.ref o), v5, v6, none, none] ∧ Ex H H6 ∧ H6 p1 = some (.lst ((asInts ks).map V.int)) ∧ H6 o = some (.lst fv) ∧ RowsOf H6 fv (pairRows ps) ∧
          (∀ q ∈ ps, q.1 < sz.length ∧ q.2 < sy.length ∧ sz[q.1]? = sy[q.2]?) ∧ (ps.map (·.1)).Nodup ∧ (ps.map (·.2)).Nodup ∧ (∀ q ∈ ps, q.1 ∈ ks.take (i + 1)) ∧ ps.length ≤ i + 1 := fun H6 e6 =>
        ⟨_, _, fv, ps, rfl, e3.trans e6, e6 _ _ hp3, e6 _ _ ho3, rf.up e6, hps, n1, n2, fun q hq => by rw [take_snoc hk1]; exact List.mem_append_left _ (hsub q hq), by omega⟩
      refine neNil (SqL.of hD5) (ints_data _) hpn ⟨_, rfl, ifE (fun c1 => ?_) (fun c1 => iteF (keep _ e5))⟩
      refine ⟨.ref o, rfl, _, fv.length, rfl, .inl ⟨_, SqL.of (e5 _ _ ho3), rfl⟩, .int most, rfl, _, _, rfl, rfl, _, rfl, ifE (fun c2 => ?_) (fun c2 => keep _ e5)⟩
      have hne : (asInts ft).map V.int ≠ [] := by intro z; rw [z] at c1; simp at c1
      refine ⟨.ref o, rfl, .inl ⟨rfl, _, SqL.of (e5 _ _ ho3)⟩, .int (k1 : Int), rfl, dv, rfl, .ref D, rfl, dv, D, _, rfl, hd.up (e3.trans e5), hD5, hne, by rw [ints_len]; rw [ints_len] at hfl; omega, fun x H6 e6 hx => ⟨by show 2 ≤ sizeLine; decide, fun t nt => ?_⟩⟩
      obtain ⟨j, hj⟩ := List.getElem?_of_mem hx
      obtain ⟨k2, hk2, rfl⟩ := natAt hj
      obtain ⟨h1, h2, h3⟩ := hft k2 (List.mem_of_getElem? hk2)
      have e7 := (e5.trans e6).trans (Ex.new (o := .tup [.int (k1 : Int), .int (k2 : Int)]) nt)
      refine ⟨o, fv, .ref t, rfl, rfl, e7 _ _ ho3, by rw [pairs_len rf]; exact Nat.lt_of_lt_of_le (by omega : ps.length < 100000) (by decide), ?_⟩
      refine ⟨_, _, _, ps ++ [(k1, k2)], rfl, (e3.trans e7).mut no, by rw [upd_ne po]; exact e7 _ _ hp3, upd_same, ?_, fun q hq => ?_, ?_, ?_, fun q hq => ?_, by simp; omega⟩
      · unfold pairRows
        rw [List.map_append]
        exact RowsOf.wr (e7 _ _ ho3) ((rf.up e7).snoc ⟨t, rfl, upd_same⟩)
      · rcases List.mem_append.mp hq with hq | hq
        · exact hps q hq
        · rw [List.mem_singleton.mp hq]; exact ⟨k1lt, h1, h2⟩
      · rw [List.map_append]
        refine List.nodup_append.mpr ⟨n1, by simp, fun x hx y hy e => ?_⟩
        obtain ⟨q', hq', rfl⟩ := List.mem_map.mp hx
        rw [List.mem_singleton.mp hy] at e
        have hm := hsub q' hq'
        rw [show q'.1 = k1 from e] at hm
        obtain ⟨i2, hi2⟩ := List.getElem?_of_mem hm
        rw [List.getElem?_take] at hi2
        have hl : i2 < i := by
          by_cases c : i2 < i
          · exact c
          · rw [if_neg c] at hi2; cases hi2
        rw [if_pos hl] at hi2
        have := (List.getElem?_inj (i := i2) (j := i) (by omega) kn).mp (hi2.trans hk1.symm)
        omega
      · rw [List.map_append]
        refine List.nodup_append.mpr ⟨n2, by simp, fun x hx y hy e => ?_⟩
        rw [List.mem_singleton.mp hy] at e
        have e' : x = k2 := e
        rw [e'] at hx
        exact h3 hx
      · rw [take_snoc hk1]
        rcases List.mem_append.mp hq with hq | hq
        · exact List.mem_append_left _ (hsub q hq)
        · rw [List.mem_singleton.mp hq]; exact List.mem_append_right _ (List.mem_singleton.mpr rfl)
    · rintro σ H3 ⟨v5, v6, fv, ps, rfl, e3, hp3, ho3, rf, hps, n1, n2, hsub, hpl⟩
      exact ⟨.ref o, rfl, q o fv ps H3 no e3 ho3 rf hps n1 n2⟩
end
end Bp

set_option Elab.async false
set_option linter.all false
set_option maxRecDepth 100000
set_option maxHeartbeats 4000000
namespace Bp
open PySem PySem.Spec PyProof.Rows L2 Evl
abbrev s_lawBad : Stmt := topS 50
abbrev N_lawBad : List Str := ["_law_deal", "_law_sizes_here", "_law_others", "_law_pairs", "_law_odd", "_law_one", "_law_at", "_law_key"]
theorem sc_lawBad : FnScope N_lawBad ["_law_deal", "_law_sizes_here", "_law_others", "_law_pairs"] (defScope s_lawBad) := ⟨rfl, rfl, rfl, by decide +kernel, rfl, by decide +kernel, by decide +kernel⟩
/-- no key below n -/
def NotKey (n : Nat) (u : V) : Prop := u = .non ∨ u = .bl true ∨ (∃ s, u = .str s) ∨ ∃ i : Int, u = .int i ∧ ¬(0 ≤ i ∧ i < n)
/-- no pair that may follow the pairs prev -/
inductive Odd (H : Hp) (sz sy : List Int) (prev : List (Nat × Nat)) : V → Prop
  | non : Odd H sz sy prev .non
  | lst (a : Addr) (xs : List V) : H a = some (.lst xs) → Odd H sz sy prev (.ref a)
  | len (a : Addr) (xs : List V) : H a = some (.tup xs) → xs.length ≠ 2 → xs.length ≤ 10 → Odd H sz sy prev (.ref a)
  | fst (a : Addr) (u v : V) : H a = some (.tup [u, v]) → NotKey sz.length u → Odd H sz sy prev (.ref a)
  | snd (a : Addr) (k : Nat) (v : V) : H a = some (.tup [.int (k : Int), v]) → k < sz.length → NotKey sy.length v → Odd H sz sy prev (.ref a)
  | size (a : Addr) (k l : Nat) : H a = some (.tup [.int (k : Int), .int (l : Int)]) → k < sz.length → l < sy.length → sz[k]? ≠ sy[l]? → Odd H sz sy prev (.ref a)
  | twice (a : Addr) (k l : Nat) (p : Nat × Nat) : H a = some (.tup [.int (k : Int), .int (l : Int)]) → k < sz.length → l < sy.length → p ∈ prev → (k = p.1 ∨ l = p.2) → Odd H sz sy prev (.ref a)
theorem Odd.up {H H' : Hp} {sz sy : List Int} {prev : List (Nat × Nat)} {x : V} (h : Odd H sz sy prev x) (e : Ex H H') : Odd H' sz sy prev x := by
  cases h with
  | non => exact .non
  | lst a xs h => exact .lst a xs (e _ _ h)
  | len a xs h h2 h3 => exact .len a xs (e _ _ h) h2 h3
  | fst a u v h h2 => exact .fst a u v (e _ _ h) h2
  | snd a k v h h2 h3 => exact .snd a k v (e _ _ h) h2 h3
  | size a k l h h2 h3 h4 => exact .size a k l (e _ _ h) h2 h3 h4
  | twice a k l p h h2 h3 h4 h5 => exact .twice a k l p (e _ _ h) h2 h3 h4 h5
theorem Odd.more {H : Hp} {sz sy : List Int} {prev prev' : List (Nat × Nat)} {x : V} (h : Odd H sz sy prev x) (e : ∀ p ∈ prev, p ∈ prev') : Odd H sz sy prev' x := by
  cases h with
  | non => exact .non
  | lst a xs h => exact .lst a xs h
  | len a xs h h2 h3 => exact .len a xs h h2 h3
  | fst a u v h h2 => exact .fst a u v h h2
  | snd a k v h h2 h3 => exact .snd a k v h h2 h3
  | size a k l h h2 h3 h4 => exact .size a k l h h2 h3 h4
  | twice a k l p h h2 h3 h4 h5 => exact .twice a k l p h h2 h3 (e p h4) h5
/-- no sequence -/
inductive NoSeq (H : Hp) : V → Prop
  | non : NoSeq H .non
  | int (k : Int) : NoSeq H (.int k)
  | str (z : Str) : NoSeq H (.str z)
  | bl (b : Bool) : NoSeq H (.bl b)
  | dict (a : Addr) : H a = some (.dK []) → NoSeq H (.ref a)
theorem NoSeq.up {H H' : Hp} {x : V} (h : NoSeq H x) (e : Ex H H') : NoSeq H' x := by
  cases h with
  | non => exact .non
  | int k => exact .int k
  | str z => exact .str z
  | bl b => exact .bl b
  | dict a h => exact .dict a (e _ _ h)
/-- what is no list of pairs, with where it goes wrong -/
def BadT (H : Hp) (pvs : List V) (ps : List (Nat × Nat)) (sz sy : List Int) (v : V) : Prop := ∃ (t : Addr) (x : V) (at' : Nat), v = .ref t ∧ H t = some (.tup [x, .int (at' : Int)]) ∧
  ((NoSeq H x ∧ at' = 0) ∨ ∃ (l : Addr) (y : V) (more : List V), x = .ref l ∧ at' ≤ ps.length ∧ H l = some (.lst (pvs.take at' ++ [y] ++ more)) ∧ Odd H sz sy (ps.take at') y ∧ more.length ≤ 10)
def spBad : Sp := fun vs H Q _ => ∃ (dv : V) (a b c : Addr) (sz sy : List Int) (pvs : List V) (ps : List (Nat × Nat)), vs = [dv, .ref a, .ref b, .ref c] ∧ Deal H dv ∧ H a = some (.lst (sz.map V.int)) ∧ H b = some (.lst (sy.map V.int)) ∧ H c = some (.lst pvs) ∧ RowsOf H pvs (pairRows ps) ∧
  sz ≠ [] ∧ sy ≠ [] ∧ sz.length ≤ 4 ∧ sy.length ≤ 4 ∧ (∀ p ∈ ps, p.1 < sz.length ∧ p.2 < sy.length) ∧ ps.length ≤ 4 ∧ ∀ v H', Ex H H' → BadT H' pvs ps sz sy v → Q v H'
section
variable {P : Program} {w : World} {K : PySem.W.Frag} {mg : Str → Option Value} {base : Heap}
theorem ok_lawBad {f fA fO : Addr} {fd fdA fdO : FuncData} (F : Fun K "_law_bad" "_law_bad" s_lawBad f fd) (B : Blt mg)
    (D_lawAny : Dn K mg "_law_any" s_lawAny ["_law_deal", "_law_bound"] fA fdA) (G_lawAny : FnOk P w K mg base CX0 1 fA fdA ["_law_deal", "_law_bound"] spAny)
    (D_lawOf : Dn K mg "_law_of" s_lawOf ["_law_deal", "_law_some"] fO fdO) (G_lawOf : FnOk P w K mg base CX0 2 fO fdO ["_law_deal", "_law_some"] spOf) : FnOk P w K mg base CX0 3 f fd ["_law_deal", "_law_sizes_here", "_law_others", "_law_pairs"] spBad := by
  refine F.ok sc_lawBad (fun vs H Q E h => ?_) (fun cdv A outer s H vs Q E hr h => ?_)
  · obtain ⟨dv, a, b, c, sz, sy, pvs, ps, rfl, _⟩ := h
    rfl
  · obtain ⟨dv, a, b, c, sz, sy, pvs, ps, rfl, hd, ha, hb, hc, rP, zne, yne, z4, y4, hps, ps4, q⟩ := h
    have zpos := List.length_pos_iff.mpr zne
    have ypos := List.length_pos_iff.mpr yne
    refine ⟨_, (pss_cons (ps_if (pt_cmpR op_eq (pe_call G_lawAny (hr.mono (by decide)) (by rfl) D_lawAny.g D_lawAny.F.kp D_lawAny.b .nil pass0 (pa_cons (pv 0) (pa_cons pe_int pa_nil))) pe_int (nomark _))
    (pss_one (ps_ret (pe_tup (pa_cons (pe_call G_lawOf (hr.mono (by decide)) (by rfl) D_lawOf.g D_lawOf.F.kp D_lawOf.b .nil pass0 (pa_cons (pv 0) (pa_cons (pe_lst (pa_cons pe_non (pa_cons pe_int (pa_cons pe_str (pa_cons pe_dnewK (pa_cons pe_bl pa_nil)))))) pa_nil))) (pa_cons pe_int pa_nil)))))
    pss_nil)
  (pss_cons (ps_set (i := 4) sc_lawBad.nd rfl (.inl rfl) (pe_lst (pa_cons pe_non (pa_cons (pe_tup (pa_cons pe_int pa_nil)) (pa_cons (pe_tup (pa_cons pe_int (pa_cons pe_int (pa_cons pe_int pa_nil)))) (pa_cons (pe_lst (pa_cons pe_int (pa_cons pe_int pa_nil))) (pa_cons (pe_tup (pa_cons (pe_callB (lenk (K := K)) (by rfl) B.len bt_len (pa_cons (pv 1) pa_nil)) (pa_cons pe_int pa_nil))) (pa_cons (pe_tup (pa_cons pe_int (pa_cons (pe_callB (lenk (K := K)) (by rfl) B.len bt_len (pa_cons (pv 2) pa_nil)) pa_nil))) (pa_cons (pe_tup (pa_cons (pe_un un_neg pe_int) (pa_cons pe_int pa_nil))) (pa_cons (pe_tup (pa_cons pe_non (pa_cons pe_int pa_nil))) (pa_cons (pe_tup (pa_cons pe_bl (pa_cons pe_int pa_nil))) (pa_cons (pe_tup (pa_cons pe_int (pa_cons pe_str pa_nil))) pa_nil))))))))))))
  (pss_cons (ps_for PassesOwn.never  rfl (pi_range1 (by rfl) B.range (pa_cons (pe_callB (lenk (K := K)) (by rfl) B.len bt_len (pa_cons (pv 1) pa_nil)) pa_nil)) (pg_name (i := 5) sc_lawBad.nd rfl (Or.inr rfl))
    (pss_one (ps_set (i := 4) sc_lawBad.nd rfl (.inl rfl) (pe_op op_cat (pv 4) (pe_slice (slLk (K := K)) (lck (own := [("_law_key", 7)]) rfl sc_lawBad.nd (show blkC N_lawBad (defScope s_lawBad) _ _ = true by decide +kernel) (pi_range1 (by rfl) B.range (pa_cons (pe_callB (lenk (K := K)) (by rfl) B.len bt_len (pa_cons (pv 2) pa_nil)) pa_nil)) (fun _ _ _ _ _ => (pg_name (i := 7) sc_lawBad.nd rfl (Or.inl rfl))) (fun _ _ _ _ _ => (pts_one (pt_cmpR op_ne (pe_ix (ixLk (K := K)) (pv 1) (pv 5) (fun _ _ => rfl)) (pe_ix (ixLk (K := K)) (pv 2) (pv 7) (fun _ _ => rfl)) (nomark _)))) (fun _ _ _ _ _ => (pe_tup (pa_cons (pv 5) (pa_cons (pv 7) pa_nil))))) po_none (po_some pe_int))))))
  (pss_cons (ps_set (i := 6) sc_lawBad.nd rfl (.inl rfl) (pe_call G_lawAny (hr.mono (by decide)) (by rfl) D_lawAny.g D_lawAny.F.kp D_lawAny.b .nil pass0 (pa_cons (pv 0) (pa_cons (pe_op op_add (pe_callB (lenk (K := K)) (by rfl) B.len bt_len (pa_cons (pv 3) pa_nil)) pe_int) pa_nil))))
  (pss_cut (ps_if (pt_cmpR op_gt (pv 6) pe_int (nomark _))
    (pss_one (ps_set (i := 4) sc_lawBad.nd rfl (.inl rfl) (pe_op op_cat (pv 4) (pe_lst (pa_cons (pe_ix (ixLk (K := K)) (pv 3) pe_int (fun _ _ => rfl)) (pa_cons (pe_tup (pa_cons (pe_ix (ixTk (K := K)) (pe_ix (ixLk (K := K)) (pv 3) pe_int (fun _ _ => rfl)) pe_int (fun _ _ => rfl)) (pa_cons (pe_call G_lawAny (hr.mono (by decide)) (by rfl) D_lawAny.g D_lawAny.F.kp D_lawAny.b .nil pass0 (pa_cons (pv 0) (pa_cons (pe_callB (lenk (K := K)) (by rfl) B.len bt_len (pa_cons (pv 2) pa_nil)) pa_nil))) pa_nil))) (pa_cons (pe_tup (pa_cons (pe_call G_lawAny (hr.mono (by decide)) (by rfl) D_lawAny.g D_lawAny.F.kp D_lawAny.b .nil pass0 (pa_cons (pv 0) (pa_cons (pe_callB (lenk (K := K)) (by rfl) B.len bt_len (pa_cons (pv 1) pa_nil)) pa_nil))) (pa_cons (pe_ix (ixTk (K := K)) (pe_ix (ixLk (K := K)) (pv 3) pe_int (fun _ _ => rfl)) pe_int (fun _ _ => rfl)) pa_nil))) pa_nil)))))))
    pss_nil)
  (pss_one (ps_ret (pe_tup (pa_cons (pe_op op_cat (pe_op op_cat (pe_slice (slLk (K := K)) (pv 3) po_none (po_some (pv 6))) (pe_lst (pa_cons (pe_call G_lawOf (hr.mono (by decide)) (by rfl) D_lawOf.g D_lawOf.F.kp D_lawOf.b .nil pass0 (pa_cons (pv 0) (pa_cons (pv 4) pa_nil))) pa_nil))) (pe_op op_rep (pe_lst (pa_cons pe_non pa_nil)) (pe_call G_lawAny (hr.mono (by decide)) (by rfl) D_lawAny.g D_lawAny.F.kp D_lawAny.b .nil pass0 (pa_cons (pv 0) (pa_cons pe_int pa_nil))))) (pa_cons (pv 6) pa_nil)))))))))), ?_⟩
    -- if any(deal, 5) == 0
    refine ⟨dv, rfl, dv, 5, rfl, hd, by omega, by omega, fun k5 H1 e1 _ _ => ⟨rfl, _, rfl, ifE (fun c0 => ?_) (fun c0 => ?_)⟩⟩
    · refine ⟨dv, rfl, fun d nd => ⟨by show 5 ≤ sizeLine; decide, fun l nl => ?_⟩⟩
      have e2 := Ex.new (H := H1) (o := .dK []) nd
      have hd2 := upd_same (H := H1) (a := d) (o := .dK [])
      have e3 := Ex.new (o := .lst [.non, .int 3, .str "01", .ref d, .bl true]) nl
      refine ⟨dv, l, _, rfl, hd.up ((e1.trans e2).trans e3), upd_same, by simp, by simp, fun x H2 e4 hx => ⟨by show 2 ≤ sizeLine; decide, fun t nt => ?_⟩⟩
      have e5 := Ex.new (o := .tup [x, .int 0]) nt
      refine q _ _ ((((e1.trans e2).trans e3).trans e4).trans e5) ⟨t, x, 0, rfl, upd_same, .inl ⟨?_, rfl⟩⟩
      simp only [List.mem_cons, List.not_mem_nil, or_false] at hx
      rcases hx with rfl | rfl | rfl | rfl | rfl
      · exact .non
      · exact .int _
      · exact .str _
      · exact .dict d ((e3.trans (e4.trans e5)) _ _ hd2)
      · exact .bl _
    -- odd
    clear c0
    refine ⟨by show 1 ≤ sizeLine; decide, fun t0 n0 => ?_⟩
    have f0 := Ex.new (o := .tup [.int 0]) n0
    have o0 : Odd (upd H1 t0 (.tup [.int 0])) sz sy [] (.ref t0) := .len t0 _ upd_same (by decide) (by decide)
    have g0 := e1.trans f0
    generalize upd H1 t0 (.tup [.int 0]) = G1 at *
    refine ⟨by show 3 ≤ sizeLine; decide, fun t1 n1 => ?_⟩
    have f1 := Ex.new (o := .tup [.int 0, .int 0, .int 0]) n1
    have o1 : Odd (upd G1 t1 (.tup [.int 0, .int 0, .int 0])) sz sy [] (.ref t1) := .len t1 _ upd_same (by decide) (by decide)
    have g1 := g0.trans f1
    generalize upd G1 t1 (.tup [.int 0, .int 0, .int 0]) = G2 at *
    refine ⟨by show 2 ≤ sizeLine; decide, fun t2 n2 => ?_⟩
    have f2 := Ex.new (o := .lst [.int 0, .int 0]) n2
    have o2 : Odd (upd G2 t2 (.lst [.int 0, .int 0])) sz sy [] (.ref t2) := .lst t2 _ upd_same
    have g2 := g1.trans f2
    generalize upd G2 t2 (.lst [.int 0, .int 0]) = G3 at *
    refine ⟨.ref a, rfl, _, sz.length, rfl, .inl ⟨_, SqL.of (g2 _ _ ha), by rw [List.length_map]⟩, by show 2 ≤ sizeLine; decide, fun t3 n3 => ?_⟩
    have f3 := Ex.new (o := .tup [.int (sz.length : Int), .int 0]) n3
    have o3 : Odd (upd G3 t3 (.tup [.int (sz.length : Int), .int 0])) sz sy [] (.ref t3) := .fst t3 _ _ upd_same (.inr (.inr (.inr ⟨_, rfl, by omega⟩)))
    have g3 := g2.trans f3
    generalize upd G3 t3 (.tup [.int (sz.length : Int), .int 0]) = G4 at *
    refine ⟨.ref b, rfl, _, sy.length, rfl, .inl ⟨_, SqL.of (g3 _ _ hb), by rw [List.length_map]⟩, by show 2 ≤ sizeLine; decide, fun t4 n4 => ?_⟩
    have f4 := Ex.new (o := .tup [.int 0, .int (sy.length : Int)]) n4
    have o4 : Odd (upd G4 t4 (.tup [.int 0, .int (sy.length : Int)])) sz sy [] (.ref t4) := .snd t4 0 _ upd_same zpos (.inr (.inr (.inr ⟨_, rfl, by omega⟩)))
    have g4 := g3.trans f4
    generalize upd G4 t4 (.tup [.int 0, .int (sy.length : Int)]) = G5 at *
    refine ⟨1, rfl, by show 2 ≤ sizeLine; decide, fun t5 n5 => ?_⟩
    have f5 := Ex.new (o := .tup [.int (-1), .int 0]) n5
    have o5 : Odd (upd G5 t5 (.tup [.int (-1), .int 0])) sz sy [] (.ref t5) := .fst t5 _ _ upd_same (.inr (.inr (.inr ⟨_, rfl, by omega⟩)))
    have g5 := g4.trans f5
    generalize upd G5 t5 (.tup [.int (-1), .int 0]) = G6 at *
    refine ⟨by show 2 ≤ sizeLine; decide, fun t6 n6 => ?_⟩
    have f6 := Ex.new (o := .tup [.non, .int 0]) n6
    have o6 : Odd (upd G6 t6 (.tup [.non, .int 0])) sz sy [] (.ref t6) := .fst t6 _ _ upd_same (.inl rfl)
    have g6 := g5.trans f6
    generalize upd G6 t6 (.tup [.non, .int 0]) = G7 at *
    refine ⟨by show 2 ≤ sizeLine; decide, fun t7 n7 => ?_⟩
    have f7 := Ex.new (o := .tup [.bl true, .int 0]) n7
    have o7 : Odd (upd G7 t7 (.tup [.bl true, .int 0])) sz sy [] (.ref t7) := .fst t7 _ _ upd_same (.inr (.inl rfl))
    have g7 := g6.trans f7
    generalize upd G7 t7 (.tup [.bl true, .int 0]) = G8 at *
    refine ⟨by show 2 ≤ sizeLine; decide, fun t8 n8 => ?_⟩
    have f8 := Ex.new (o := .tup [.int 0, .str "0"]) n8
    have o8 : Odd (upd G8 t8 (.tup [.int 0, .str "0"])) sz sy [] (.ref t8) := .snd t8 0 _ upd_same zpos (.inr (.inr (.inl ⟨_, rfl⟩)))
    have g8 := g7.trans f8
    generalize upd G8 t8 (.tup [.int 0, .str "0"]) = G9 at *
    refine ⟨by show 10 ≤ sizeLine; decide, fun o no => ?_⟩
    have g9 := g8.trans (Ex.new (o := .lst [.non, .ref t0, .ref t1, .ref t2, .ref t3, .ref t4, .ref t5, .ref t6, .ref t7, .ref t8]) no)
    have hov : ∀ x ∈ ([.non, .ref t0, .ref t1, .ref t2, .ref t3, .ref t4, .ref t5, .ref t6, .ref t7, .ref t8] : List V), Odd (upd G9 o (.lst [.non, .ref t0, .ref t1, .ref t2, .ref t3, .ref t4, .ref t5, .ref t6, .ref t7, .ref t8])) sz sy [] x := by
      intro x hx
      simp only [List.mem_cons, List.not_mem_nil, or_false] at hx
      rcases hx with rfl | rfl | rfl | rfl | rfl | rfl | rfl | rfl | rfl | rfl
      · exact .non
      · exact ((((((((o0.up f1).up f2).up f3).up f4).up f5).up f6).up f7).up f8).up (Ex.new no)
      · exact (((((((o1.up f2).up f3).up f4).up f5).up f6).up f7).up f8).up (Ex.new no)
      · exact ((((((o2.up f3).up f4).up f5).up f6).up f7).up f8).up (Ex.new no)
      · exact (((((o3.up f4).up f5).up f6).up f7).up f8).up (Ex.new no)
      · exact ((((o4.up f5).up f6).up f7).up f8).up (Ex.new no)
      · exact (((o5.up f6).up f7).up f8).up (Ex.new no)
      · exact ((o6.up f7).up f8).up (Ex.new no)
      · exact (o7.up f8).up (Ex.new no)
      · exact o8.up (Ex.new no)
    have ho := upd_same (H := G9) (a := o) (o := .lst [.non, .ref t0, .ref t1, .ref t2, .ref t3, .ref t4, .ref t5, .ref t6, .ref t7, .ref t8])
    generalize upd G9 o (.lst [.non, .ref t0, .ref t1, .ref t2, .ref t3, .ref t4, .ref t5, .ref t6, .ref t7, .ref t8]) = G at *
    have ovl : ([.non, .ref t0, .ref t1, .ref t2, .ref t3, .ref t4, .ref t5, .ref t6, .ref t7, .ref t8] : List V).length ≤ 10 ∧ ([.non, .ref t0, .ref t1, .ref t2, .ref t3, .ref t4, .ref t5, .ref t6, .ref t7, .ref t8] : List V) ≠ [] := ⟨by simp, by simp⟩
    generalize ([.non, .ref t0, .ref t1, .ref t2, .ref t3, .ref t4, .ref t5, .ref t6, .ref t7, .ref t8] : List V) = ov0 at *
    obtain ⟨hov0, ovne⟩ := ovl
    clear f0 f1 f2 f3 f4 f5 f6 f7 f8 g0 g1 g2 g3 g4 g5 g6 g7 g8 o0 o1 o2 o3 o4 o5 o6 o7 o8
    -- for one in range(len(sizes))
    refine ⟨.ref a, rfl, _, sz.length, rfl, .inl ⟨_, SqL.of (g9 _ _ ha), by rw [List.length_map]⟩, sz.length, rfl, by omega, by omega, for_range (n := ((sz.length : Nat) : Int).toNat) (fun i σ H' => ∃ (o : Addr) (ov : List V) (v5 : Option V), σ = [some dv, some (.ref a), some (.ref b), some (.ref c), some (.ref o), v5, none, none] ∧ Ex H H' ∧ H' o = some (.lst ov) ∧ (∀ x ∈ ov, Odd H' sz sy [] x) ∧ ov ≠ [] ∧ ov.length ≤ 10 + 2 * i) ?_ ?_ ?_⟩
    · exact ⟨o, ov0, none, rfl, g9, ho, hov, ovne, hov0⟩
    · rintro i σ H2 hi ⟨o, ov, v5, rfl, e2, ho2, hov2, one, ol⟩
      have hi' : i < sz.length := by omega
      obtain ⟨s1, hs1, hs2⟩ := rowAt' (a := sz) (k := i) hi'
      rw [Int.zero_add]
      refine ⟨.ref o, rfl, .ref b, rfl, _, sy.length, rfl, .inl ⟨_, SqL.of (e2 _ _ hb), by rw [List.length_map]⟩, sy.length, rfl, by omega, by omega, fun D nD => ?_⟩
      refine lcR (σ := [some dv, some (.ref a), some (.ref b), some (.ref c), some (.ref o), some (.int (i : Int)), none, none]) (n := ((sy.length : Nat) : Int).toNat) (fun k acc H' => ∀ x ∈ acc, ∃ (t : Addr) (l : Nat), x = .ref t ∧ H' t = some (.tup [.int (i : Int), .int (l : Int)]) ∧ l < sy.length ∧ sz[i]? ≠ sy[l]?) nD ?_ (by simp) (fun _ _ _ => by simp) (by omega) ?_ ?_
      · intro k acc H' D' l' o' _ _ hl h x hx
        obtain ⟨t, l, h1, h2, h3⟩ := h x hx
        exact ⟨t, l, h1, by rw [upd_ne (ne_of h2 hl (by intro z; cases z))]; exact h2, h3⟩
      · rintro k hk acc H3 Cy Cn e3 hacc cy cn
        have hk' : k < sy.length := by omega
        obtain ⟨t1, ht1, ht2⟩ := rowAt' (a := sy) (k := k) hk'
        rw [Int.zero_add]
        have e23 := e2.trans e3
        refine ⟨rfl, .ref a, rfl, .int (i : Int), rfl, a, _, _, _, rfl, rfl, SqL.of (e23 _ _ ha), hs2, .ref b, rfl, .int (k : Int), rfl, b, _, _, _, rfl, rfl, SqL.of (e23 _ _ hb), ht2, rfl, _, rfl, ifE (fun c1 => ?_) (fun c1 => cn _ (Ex.refl _) hacc)⟩
        have c2 : s1 ≠ t1 := by intro z; subst z; simp at c1
        refine ⟨.int (i : Int), rfl, .int (k : Int), rfl, by show 2 ≤ sizeLine; decide, fun t nt => cy _ _ (Ex.new nt) fun x hx => ?_⟩
        rcases List.mem_append.mp hx with hx | hx
        · obtain ⟨t', l, h1, h2, h3⟩ := hacc x hx
          exact ⟨t', l, h1, Ex.new nt _ _ h2, h3⟩
        · rw [List.mem_singleton.mp hx]
          exact ⟨t, k, rfl, upd_same, hk', by rw [hs1, ht1]; simpa using c2⟩
      · rintro acc H3 e3 hD hacc hal
        refine ⟨2, rfl, D, acc, rfl, SqL.of hD, fun p np => ?_⟩
        rw [show cutV acc none (some 2) = acc.take 2 from cut_take acc 2]
        have e4 := e3.trans (Ex.new (o := .lst (acc.take 2)) np)
        have t2 : (acc.take 2).length ≤ 2 := by rw [List.length_take]; omega
        refine ⟨o, p, ov, acc.take 2, rfl, rfl, e4 _ _ ho2, upd_same, Nat.le_trans (by omega : ov.length + (acc.take 2).length ≤ 100) (by decide), fun r nr => ?_⟩
        have e5 := e4.trans (Ex.new (o := .lst (ov ++ acc.take 2)) nr)
        refine ⟨r, ov ++ acc.take 2, _, rfl, e2.trans e5, upd_same, fun x hx => ?_, by simp [one], by rw [List.length_append]; omega⟩
        rcases List.mem_append.mp hx with hx | hx
        · exact (hov2 x hx).up e5
        · obtain ⟨t, l, rfl, h2, h3, h4⟩ := hacc x (List.mem_of_mem_take hx)
          exact (Odd.size t i l h2 hi' h3 h4).up ((Ex.new np).trans (Ex.new nr))
    · rintro σ H2 ⟨o, ov, v5, rfl, e2, ho2, hov2, one, ol⟩
      -- at = any(deal, len(pairs) + 1)
      refine ⟨dv, rfl, .ref c, rfl, _, pvs.length, rfl, .inl ⟨_, SqL.of (e2 _ _ hc), rfl⟩, _, _, rfl, rfl, dv, _, rfl, hd.up e2, by omega, by have := pairs_len rP; omega, fun at0 H3 e3 a0 a1 => ?_⟩
      have hpl := pairs_len rP
      obtain ⟨at', rfl⟩ : ∃ n : Nat, at0 = (n : Int) := ⟨at0.toNat, by omega⟩
      have atl : at' ≤ ps.length := by omega
      have e23 := e2.trans e3
      -- if at > 0
      refine ⟨fun σ H' => ∃ (o : Addr) (ov : List V), σ = [some dv, some (.ref a), some (.ref b), some (.ref c), some (.ref o), v5, some (.int (at' : Int)), none] ∧ Ex H H' ∧ H' o = some (.lst ov) ∧ (∀ x ∈ ov, Odd H' sz sy (ps.take at') x) ∧ ov ≠ [] ∧ ov.length ≤ 100, ?_, ?_⟩
      · have hbase : ∀ x ∈ ov, Odd H3 sz sy (ps.take at') x := fun x hx => ((hov2 x hx).up e3).more (by simp)
        have ho3 := e3 _ _ ho2
        refine ⟨_, rfl, _, _, rfl, rfl, _, rfl, ifE (fun c1 => ?_) (fun c1 => ⟨o, ov, rfl, e23, ho3, hbase, one, by omega⟩)⟩
        have c1' := of_decide_eq_true c1
        have hp0 : 0 < ps.length := by omega
        obtain ⟨p0, hp0e⟩ : ∃ p, ps[0]? = some p := ⟨ps[0], List.getElem?_eq_getElem hp0⟩
        have hp0m : p0 ∈ ps.take at' := List.mem_of_getElem? (i := 0) (by rw [List.getElem?_take, if_pos (by omega)]; exact hp0e)
        obtain ⟨z0, hz0⟩ : ∃ z, pvs[0]? = some z := ⟨pvs[0], List.getElem?_eq_getElem (by omega)⟩
        obtain ⟨p0', hp0', hzp⟩ := pairRow rP hz0
        rw [hp0e] at hp0'
        cases hp0'
        obtain ⟨za, rfl, hza⟩ := hzp
        have hlt := hps p0 (List.mem_of_getElem? hp0e)
        refine ⟨.ref o, rfl, .ref c, rfl, c, _, _, _, rfl, rfl, SqL.of (e23 _ _ hc), atI_of (j := 0) rfl hz0, ?_⟩
        -- (pairs[0][0], any(deal, len(others)))
        refine ⟨.ref c, rfl, c, _, _, _, rfl, rfl, SqL.of (e23 _ _ hc), atI_of (j := 0) rfl hz0, za, [.int (p0.1 : Int), .int (p0.2 : Int)], 0, .int (p0.1 : Int), rfl, rfl, SqT.of (e23 _ _ hza), rfl, ?_⟩
        refine ⟨dv, rfl, .ref b, rfl, _, sy.length, rfl, .inl ⟨_, SqL.of (e23 _ _ hb), by rw [List.length_map]⟩, dv, _, rfl, hd.up e23, by omega, by omega, fun k4 H4 e4 k40 k41 => ?_⟩
        obtain ⟨l4, rfl⟩ : ∃ n : Nat, k4 = (n : Int) := ⟨k4.toNat, by omega⟩
        refine ⟨by show 2 ≤ sizeLine; decide, fun t1 n1 => ?_⟩
        have e5 := e4.trans (Ex.new (o := .tup [.int (p0.1 : Int), .int (l4 : Int)]) n1)
        have o1 : Odd (upd H4 t1 (.tup [.int (p0.1 : Int), .int (l4 : Int)])) sz sy (ps.take at') (.ref t1) := .twice t1 p0.1 l4 p0 upd_same hlt.1 (by omega) hp0m (.inl rfl)
        generalize upd H4 t1 (.tup [.int (p0.1 : Int), .int (l4 : Int)]) = H5 at *
        have e25 := e23.trans e5
        -- (any(deal, len(sizes)), pairs[0][1])
        refine ⟨dv, rfl, .ref a, rfl, _, sz.length, rfl, .inl ⟨_, SqL.of (e25 _ _ ha), by rw [List.length_map]⟩, dv, _, rfl, hd.up e25, by omega, by omega, fun k6 H6 e6 k60 k61 => ?_⟩
        obtain ⟨l6, rfl⟩ : ∃ n : Nat, k6 = (n : Int) := ⟨k6.toNat, by omega⟩
        have e26 := e25.trans e6
        refine ⟨.ref c, rfl, c, _, _, _, rfl, rfl, SqL.of (e26 _ _ hc), atI_of (j := 0) rfl hz0, za, [.int (p0.1 : Int), .int (p0.2 : Int)], 1, .int (p0.2 : Int), rfl, rfl, SqT.of (e26 _ _ hza), rfl, by show 2 ≤ sizeLine; decide, fun t2 n2 => ?_⟩
        have e7 := e6.trans (Ex.new (o := .tup [.int (l6 : Int), .int (p0.2 : Int)]) n2)
        have o2 : Odd (upd H6 t2 (.tup [.int (l6 : Int), .int (p0.2 : Int)])) sz sy (ps.take at') (.ref t2) := .twice t2 l6 p0.2 p0 upd_same (by omega) hlt.2 hp0m (.inr rfl)
        generalize upd H6 t2 (.tup [.int (l6 : Int), .int (p0.2 : Int)]) = H7 at *
        refine ⟨by show 3 ≤ sizeLine; decide, fun l nl => ?_⟩
        have e8 := Ex.new (o := .lst [.ref za, .ref t1, .ref t2]) nl
        have e38 := (e5.trans e7).trans e8
        refine ⟨o, l, ov, _, rfl, rfl, e38 _ _ ho3, upd_same, Nat.le_trans (by show ov.length + 3 ≤ 100; omega) (by decide), fun r nr => ?_⟩
        have e9 := Ex.new (o := .lst (ov ++ [.ref za, .ref t1, .ref t2])) nr
        have e39 := e38.trans e9
        refine ⟨r, _, rfl, e23.trans e39, upd_same, fun x hx => ?_, by simp, by simp; omega⟩
        rcases List.mem_append.mp hx with hx | hx
        · exact (hbase x hx).up e39
        · simp only [List.mem_cons, List.not_mem_nil, or_false] at hx
          rcases hx with rfl | rfl | rfl
          · exact .twice za p0.1 p0.2 p0 ((e23.trans e39) _ _ hza) hlt.1 hlt.2 hp0m (.inl rfl)
          · exact o1.up ((e7.trans e8).trans e9)
          · exact o2.up (e8.trans e9)
      · rintro σ H4 ⟨o, ov, rfl, e4, ho4, hov4, one4, ol4⟩
        -- return (pairs[:at] + [of(deal, odd)] + [None] * any(deal, 2), at)
        refine ⟨.ref c, rfl, .int (at' : Int), rfl, at', rfl, c, _, rfl, SqL.of (e4 _ _ hc), fun p np => ?_⟩
        rw [cut_take]
        have e5 := e4.trans (Ex.new (o := .lst (pvs.take at')) np)
        have f5 := Ex.new (o := .lst (pvs.take at')) np
        have hp5 := upd_same (H := H4) (a := p) (o := .lst (pvs.take at'))
        generalize upd H4 p (.lst (pvs.take at')) = H5 at *
        refine ⟨dv, rfl, .ref o, rfl, dv, o, ov, rfl, hd.up e5, f5 _ _ ho4, one4, by omega, fun x H6 e6 hx => ⟨by show 1 ≤ sizeLine; decide, fun l nl => ?_⟩⟩
        have e7 := e6.trans (Ex.new (o := .lst [x]) nl)
        have hl7 := upd_same (H := H6) (a := l) (o := .lst [x])
        generalize upd H6 l (.lst [x]) = H7 at *
        have tl : (pvs.take at').length ≤ 4 := by rw [List.length_take]; omega
        refine ⟨p, l, _, _, rfl, rfl, e7 _ _ hp5, hl7, Nat.le_trans (by show (pvs.take at').length + 1 ≤ 100; omega) (by decide), fun r nr => ?_⟩
        have e8 := e7.trans (Ex.new (o := .lst (pvs.take at' ++ [x])) nr)
        have hr8 := upd_same (H := H7) (a := r) (o := .lst (pvs.take at' ++ [x]))
        generalize upd H7 r (.lst (pvs.take at' ++ [x])) = H8 at *
        refine ⟨by show 1 ≤ sizeLine; decide, fun l2 nl2 => ?_⟩
        have e9 := e8.trans (Ex.new (o := .lst [.non]) nl2)
        have f9 := Ex.new (o := .lst [.non]) nl2
        have hl9 := upd_same (H := H8) (a := l2) (o := .lst [.non])
        generalize upd H8 l2 (.lst [.non]) = H9 at *
        refine ⟨dv, rfl, dv, 2, rfl, hd.up (e5.trans e9), by omega, by omega, fun m H10 e10 m0 m2 => ?_⟩
        have ml : (List.replicate m.toNat [V.non]).flatten.length ≤ 2 := by
          rw [List.length_flatten, List.map_replicate, List.sum_replicate_nat]
          show m.toNat * 1 ≤ 2
          omega
        refine ⟨l2, m, _, rfl, rfl, e10 _ _ hl9, by omega, by omega, Nat.le_trans (by show 1 * m.toNat ≤ 2; omega) (by decide), fun l3 nl3 => ?_⟩
        have e11 := e10.trans (Ex.new (o := .lst (List.replicate m.toNat [V.non]).flatten) nl3)
        have hl11 := upd_same (H := H10) (a := l3) (o := .lst (List.replicate m.toNat [V.non]).flatten)
        generalize upd H10 l3 (.lst (List.replicate m.toNat [V.non]).flatten) = H11 at *
        refine ⟨r, l3, _, _, rfl, rfl, (f9.trans e11) _ _ hr8, hl11, Nat.le_trans (by rw [List.length_append]; show (pvs.take at').length + 1 + (List.replicate m.toNat [V.non]).flatten.length ≤ 100; omega) (by decide), fun u nu => ?_⟩
        refine ⟨.int (at' : Int), rfl, by show 2 ≤ sizeLine; decide, fun t nt => ?_⟩
        have e13 := (Ex.new (o := .lst (pvs.take at' ++ [x] ++ (List.replicate m.toNat [V.non]).flatten)) nu).trans (Ex.new (o := .tup [.ref u, .int (at' : Int)]) nt)
        refine q _ _ ((e5.trans e9).trans (e11.trans e13)) ⟨t, .ref u, at', rfl, upd_same, .inr ⟨u, x, _, rfl, atl, Ex.new nt _ _ upd_same, (hov4 x hx).up ((f5.trans e9).trans (e11.trans e13)), by omega⟩⟩
end
end Bp

set_option Elab.async false
set_option linter.all false
set_option maxRecDepth 100000
set_option maxHeartbeats 4000000
namespace Bp
open PySem PySem.Spec PyProof.Rows L2 Evl
abbrev s_isInteger : Stmt := topS 8
abbrev N_isInteger : List Str := ["value"]
theorem sc_isInteger : FnScope N_isInteger ["value"] (defScope s_isInteger) := ⟨rfl, rfl, rfl, by decide +kernel, rfl, by decide +kernel, by decide +kernel⟩
abbrev s_isNumber : Stmt := topS 9
abbrev N_isNumber : List Str := ["value"]
theorem sc_isNumber : FnScope N_isNumber ["value"] (defScope s_isNumber) := ⟨rfl, rfl, rfl, by decide +kernel, rfl, by decide +kernel, by decide +kernel⟩
abbrev s_isIndex : Stmt := topS 10
abbrev N_isIndex : List Str := ["value", "many"]
theorem sc_isIndex : FnScope N_isIndex ["value", "many"] (defScope s_isIndex) := ⟨rfl, rfl, rfl, by decide +kernel, rfl, by decide +kernel, by decide +kernel⟩
abbrev s_isSequence : Stmt := topS 11
abbrev N_isSequence : List Str := ["value"]
theorem sc_isSequence : FnScope N_isSequence ["value"] (defScope s_isSequence) := ⟨rfl, rfl, rfl, by decide +kernel, rfl, by decide +kernel, by decide +kernel⟩
/-- a value that is no object of the heap -/
inductive Scal : V → Prop
  | non : Scal .non
  | bl (b : Bool) : Scal (.bl b)
  | str (z : Str) : Scal (.str z)
  | int (i : Int) : Scal (.int i)
def isIntV : V → Bool
  | .int _ => true
  | _ => false
def isNatV : V → Bool
  | .int i => decide (0 ≤ i)
  | _ => false
def isIdxV (n : Int) : V → Bool
  | .int i => decide (0 ≤ i) && decide (i < n)
  | _ => false
def spIsInteger : Sp := fun vs H Q _ => ∃ x, vs = [x] ∧ Scal x ∧ ∀ H', Ex H H' → Q (.bl (isIntV x)) H'
def spIsNumber : Sp := fun vs H Q _ => ∃ x, vs = [x] ∧ Scal x ∧ ∀ H', Ex H H' → Q (.bl (isNatV x)) H'
def spIsIndex : Sp := fun vs H Q _ => ∃ x n, vs = [x, .int n] ∧ Scal x ∧ ∀ H', Ex H H' → Q (.bl (isIdxV n x)) H'
def spIsSequence : Sp := fun vs H Q _ => ∃ x, vs = [x] ∧ (((∃ a xs, x = .ref a ∧ (H a = some (.lst xs) ∨ H a = some (.tup xs))) ∧ ∀ H', Ex H H' → Q (.bl true) H') ∨ (NoSeq H x ∧ ∀ H', Ex H H' → Q (.bl false) H'))
theorem Scal.cases {x : V} (h : Scal x) : (∃ i, x = .int i) ∨ (isIntV x = false ∧ isNatV x = false ∧ ∀ n, isIdxV n x = false) := by
  cases h with
  | int i => exact .inl ⟨i, rfl⟩
  | non => exact .inr ⟨rfl, rfl, fun _ => rfl⟩
  | bl b => exact .inr ⟨rfl, rfl, fun _ => rfl⟩
  | str z => exact .inr ⟨rfl, rfl, fun _ => rfl⟩
section
variable {P : Program} {w : World} {K : PySem.W.Frag} {mg : Str → Option Value} {base : Heap}
theorem ok_isInteger {f : Addr} {fd : FuncData} (F : Fun K "is_integer" "is_integer" s_isInteger f fd) (B : Blt mg) : FnOk P w K mg base CX0 1 f fd ["value"] spIsInteger := by
  refine F.ok sc_isInteger (fun vs H Q E h => ?_) (fun cdv A outer s H vs Q E hr h => ?_)
  · obtain ⟨x, rfl, _⟩ := h
    rfl
  · obtain ⟨x, rfl, hx, q⟩ := h
    refine ⟨_, (pss_one (ps_ret (pe_and (pe_callB (isik (K := K)) (by rfl) B.isinstance bt_isinstance (pa_cons (pv 0) (pa_cons (pe_bltn (v := .ty "int") (by rfl) B.int bt_int rfl) pa_nil))) (pe_one (pe_not (pe_callB (isik (K := K)) (by rfl) B.isinstance bt_isinstance (pa_cons (pv 0) (pa_cons (pe_bltn (v := .ty "bool") (by rfl) B.bool bt_bool rfl) pa_nil)))))))), ?_⟩
    have q' := q H (Ex.refl H)
    cases hx with
    | int i => exact ⟨_, rfl, _, .ty "int", _, _, true, rfl, .ty _, .base (.int i), kit_ty (by decide +kernel), _, rfl, iteT ⟨_, rfl, _, .ty "bool", _, _, false, rfl, .ty _, .base (.int i), kit_ty (by decide +kernel), _, rfl, q'⟩⟩
    | non => exact ⟨_, rfl, _, .ty "int", _, _, false, rfl, .ty _, .base .non, kit_ty (by decide +kernel), _, rfl, iteF q'⟩
    | str z => exact ⟨_, rfl, _, .ty "int", _, _, false, rfl, .ty _, .base (.str z), kit_ty (by decide +kernel), _, rfl, iteF q'⟩
    | bl b => exact ⟨_, rfl, _, .ty "int", _, _, true, rfl, .ty _, .base (.bl b), kit_ty (by decide +kernel), _, rfl, iteT ⟨_, rfl, _, .ty "bool", _, _, true, rfl, .ty _, .base (.bl b), kit_ty (by decide +kernel), _, rfl, q'⟩⟩
theorem ok_isNumber {f fI : Addr} {fd fdI : FuncData} (F : Fun K "is_number" "is_number" s_isNumber f fd) (B : Blt mg) (D_isInteger : Dn K mg "is_integer" s_isInteger ["value"] fI fdI) : FnOk P w K mg base CX0 2 f fd ["value"] spIsNumber := by
  have G_isInteger : FnOk P w K mg base CX0 1 fI fdI ["value"] spIsInteger := ok_isInteger D_isInteger.F B
  refine F.ok sc_isNumber (fun vs H Q E h => ?_) (fun cdv A outer s H vs Q E hr h => ?_)
  · obtain ⟨x, rfl, _⟩ := h
    rfl
  · obtain ⟨x, rfl, hx, q⟩ := h
    refine ⟨_, (pss_one (ps_ret (pe_and (pe_call G_isInteger (hr.mono (by decide)) (by rfl) D_isInteger.g D_isInteger.F.kp D_isInteger.b .nil pass0 (pa_cons (pv 0) pa_nil)) (pe_one (pe_cmpR op_ge (pv 0) pe_int (nomark _)))))), ?_⟩
    refine ⟨x, rfl, x, rfl, hx, fun H1 e1 => ⟨_, rfl, ?_⟩⟩
    rcases hx.cases with ⟨i, rfl⟩ | ⟨h1, h2, _⟩
    · exact iteT ⟨.int i, rfl, _, _, rfl, rfl, q _ e1⟩
    · rw [h1]
      have := q _ e1
      rw [h2] at this
      exact iteF this
theorem ok_isIndex {f fI fN : Addr} {fd fdI fdN : FuncData} (F : Fun K "is_index" "is_index" s_isIndex f fd) (B : Blt mg) (D_isInteger : Dn K mg "is_integer" s_isInteger ["value"] fI fdI) (D_isNumber : Dn K mg "is_number" s_isNumber ["value"] fN fdN) : FnOk P w K mg base CX0 3 f fd ["value", "many"] spIsIndex := by
  have G_isNumber : FnOk P w K mg base CX0 2 fN fdN ["value"] spIsNumber := ok_isNumber D_isNumber.F B D_isInteger
  refine F.ok sc_isIndex (fun vs H Q E h => ?_) (fun cdv A outer s H vs Q E hr h => ?_)
  · obtain ⟨x, n, rfl, _⟩ := h
    rfl
  · obtain ⟨x, n, rfl, hx, q⟩ := h
    refine ⟨_, (pss_one (ps_ret (pe_and (pe_call G_isNumber (hr.mono (by decide)) (by rfl) D_isNumber.g D_isNumber.F.kp D_isNumber.b .nil pass0 (pa_cons (pv 0) pa_nil)) (pe_one (pe_cmpR op_lt (pv 0) (pv 1) (nomark _)))))), ?_⟩
    refine ⟨x, rfl, x, rfl, hx, fun H1 e1 => ⟨_, rfl, ?_⟩⟩
    rcases hx.cases with ⟨i, rfl⟩ | ⟨_, h2, h3⟩
    · refine ifE (fun c => ⟨.int i, rfl, .int n, rfl, _, _, rfl, rfl, ?_⟩) (fun c => ?_)
      · have := q _ e1
        have c' : decide (0 ≤ i) = true := c
        have this : Q (.bl (decide (0 ≤ i) && decide (i < n))) H1 := this
        rw [c', Bool.true_and] at this
        exact this
      · have := q _ e1
        have c' : decide (0 ≤ i) = false := c
        have this : Q (.bl (decide (0 ≤ i) && decide (i < n))) H1 := this
        rw [c', Bool.false_and] at this
        exact this
    · rw [h2]
      have := q _ e1
      rw [h3] at this
      exact iteF this
theorem ok_isSequence {f : Addr} {fd : FuncData} (F : Fun K "is_sequence" "is_sequence" s_isSequence f fd) (B : Blt mg) : FnOk P w K mg base CX0 1 f fd ["value"] spIsSequence := by
  refine F.ok sc_isSequence (fun vs H Q E h => ?_) (fun cdv A outer s H vs Q E hr h => ?_)
  · obtain ⟨x, rfl, _⟩ := h
    rfl
  · obtain ⟨x, rfl, h⟩ := h
    refine ⟨_, (pss_one (ps_ret (pe_callB (isiTk (K := K)) (by rfl) B.isinstance bt_isinstance (pa_cons (pv 0) (pa_cons (pe_tup (pa_cons (pe_bltn (v := .ty "list") (by rfl) B.list bt_list rfl) (pa_cons (pe_bltn (v := .ty "tuple") (by rfl) B.tuple bt_tuple rfl) pa_nil))) pa_nil))))), ?_⟩
    refine ⟨x, rfl, by show 2 ≤ sizeLine; decide, fun t nt => ?_⟩
    have e := Ex.new (o := .tup [.ty "list", .ty "tuple"]) nt
    have cs : Paired ClsV [V.ty "list", V.ty "tuple"] [Value.type "list", Value.type "tuple"] := .cons (.ty _) (.cons (.ty _) .nil)
    have k1 : ∀ {t : Value}, PySem.W.kitOne K t (.type "list") = some true → PySem.W.kitAny K t [.type "list", .type "tuple"] = some true := fun h => kitAny_cons (b := true) h (fun z => nomatch z) (fun _ => rfl)
    have k2 : ∀ {t : Value} {b : Bool}, PySem.W.kitOne K t (.type "list") = some false → PySem.W.kitOne K t (.type "tuple") = some b → PySem.W.kitAny K t [.type "list", .type "tuple"] = some b := fun {t b} h h2 => kitAny_cons (b := false) h (fun _ => kitAny_cons (b := b) h2 (fun z => by rw [z]; rfl) (fun z => z)) (fun z => nomatch z)
    rcases h with ⟨⟨a, xs, rfl, h | h⟩, q⟩ | ⟨h, q⟩
    · exact ⟨_, t, _, _, _, true, rfl, upd_same, cs, .base (.lst (e _ _ h)), k1 (kit_ty (by decide +kernel)), q _ e⟩
    · exact ⟨_, t, _, _, _, true, rfl, upd_same, cs, .base (.tup (e _ _ h)), k2 (kit_ty (by decide +kernel)) (kit_ty (by decide +kernel)), q _ e⟩
    · cases h with
      | non => exact ⟨_, t, _, _, _, false, rfl, upd_same, cs, .base .non, k2 (kit_ty (by decide +kernel)) (kit_ty (by decide +kernel)), q _ e⟩
      | int i => exact ⟨_, t, _, _, _, false, rfl, upd_same, cs, .base (.int i), k2 (kit_ty (by decide +kernel)) (kit_ty (by decide +kernel)), q _ e⟩
      | str z => exact ⟨_, t, _, _, _, false, rfl, upd_same, cs, .base (.str z), k2 (kit_ty (by decide +kernel)) (kit_ty (by decide +kernel)), q _ e⟩
      | bl b => exact ⟨_, t, _, _, _, false, rfl, upd_same, cs, .base (.bl b), k2 (kit_ty (by decide +kernel)) (kit_ty (by decide +kernel)), q _ e⟩
      | dict a h => exact ⟨_, t, _, _, _, false, rfl, upd_same, cs, .base (.dK (e _ _ h)), k2 (kit_ty (by decide +kernel)) (kit_ty (by decide +kernel)), q _ e⟩
end
end Bp

set_option Elab.async false
set_option linter.all false
set_option maxRecDepth 100000
set_option maxHeartbeats 4000000
namespace Bp
open PySem PySem.Spec PyProof.Rows L2 Evl
/-! ### zip of a tuple and a list -/
def ItzN (K : PySem.W.Frag) (a b : Addr) : It :=
  ⟨fun i H => ∃ (xs ys : List V) (x y : V), SqT K H a xs ∧ SqL K H b ys ∧ xs[i]? = some x ∧ ys[i]? = some y,
    fun i H v H' => ∃ T x y, v = .ref T ∧ H T = none ∧ H' = upd H T (.tup [x, y]) ∧ (∀ xs, SqT K H a xs → xs[i]? = some x) ∧ ∀ ys, SqL K H b ys → ys[i]? = some y,
    fun i H => ∃ xs ys : List V, SqT K H a xs ∧ SqL K H b ys ∧ i = min xs.length ys.length⟩
theorem turnZipN {P : Program} {w : World} {K : PySem.W.Frag} {elts : List Expr} {kk : Nat} {tpos : Pos} {a b : Addr} {N : Nat} (ha : a < N) (hb : b < N) :
    Turn P w K (.Tuple elts kk tpos) (ItzN K a b) [N + 4, N + 2, N + 3, N, N + 1] (N + 4) (fun i h => IsZip h (N + 4) (N + 2) (N + 3) .none ∧ IsTupOf2 h (N + 2) (.ref N) (.ref (N + 1)) ∧ (∃ x y, IsTupOf2 h (N + 3) x y) ∧ h.IsTupleIter N a i ∧ h.IsListIter (N + 1) b i) := by
  refine turnOfWalk (by simp) (fun i h st c hc => ?_) (fun i h h' st k => ?_) (fun A i s Q E st h => wpAny_pyIter_zip st.1 h) fun X hP hw hK hc i pins s σ H I st hJ => ?_
  · obtain ⟨hz, hTI, ⟨x, y, hTO⟩, ⟨o1, e1, _, d1⟩, ⟨o2, e2, _, d2⟩⟩ := st
    have e' : c = N + 4 ∨ c = N + 2 ∨ c = N + 3 ∨ c = N ∨ c = N + 1 := by simpa using hc
    rcases e' with q | q | q | q | q
    · rw [q]; exact ⟨_, hz, fun v q => nomatch q⟩
    · rw [q]; exact ⟨_, hTI, fun v q => nomatch q⟩
    · rw [q]; exact ⟨_, hTO, fun v q => nomatch q⟩
    · rw [q]; exact ⟨o1, e1, fun v q => by rw [d1] at q; cases q⟩
    · rw [q]; exact ⟨o2, e2, fun v q => by rw [d2] at q; cases q⟩
  · obtain ⟨hz, hTI, ⟨x, y, hTO⟩, h1, h2⟩ := st
    exact ⟨k _ (by simp) _ hz, k _ (by simp) _ hTI, ⟨x, y, k _ (by simp) _ hTO⟩, h1.at fun o q => k _ (by simp) o q, h2.at fun o q => k _ (by simp) o q⟩
  · subst hP hw hK
    obtain ⟨xs, ys, qx, qy⟩ : ∃ xs ys, SqT X.K H a xs ∧ SqL X.K H b ys := by
      rcases hJ with ⟨xs, ys, _, _, h1, h2, _⟩ | ⟨xs, ys, h1, h2, _⟩
      · exact ⟨xs, ys, h1, h2⟩
      · exact ⟨xs, ys, h1, h2⟩
    obtain ⟨hz, hTI, hTO, h1, h2⟩ := st
    obtain ⟨its, rv, p, _⟩ := I.tuple qx
    obtain ⟨its2, rv2, p2, _⟩ := I.list qy
    have l1 := rv.length
    have l2 := rv2.length
    have hh : X.A.in1.handled = none := I.ok.hd hc
    have D1 := Draws.tuple (prog := X.prog) (w := X.w) (A := X.A.in1) hh N a (Nat.ne_of_lt ha) its.toArray
    have D2 := Draws.list (prog := X.prog) (w := X.w) (A := X.A.in1) hh (N + 1) b (Nat.ne_of_lt (Nat.lt_succ_of_lt hb)) its2.toArray
    have W := WalksT.zipD2 (A := X.A) (zip_sep2 (N := N) (fp1 := [a]) (fp2 := [b]) (fun c hc => by rw [List.mem_singleton.mp hc]; exact ha) (fun c hc => by rw [List.mem_singleton.mp hc]; exact hb)) D1 D2
    refine ⟨_, _, _, _, _, _, W, ⟨hz, hTI, hTO, ⟨h1, p⟩, ⟨h2, p2.isList⟩⟩, ?_, fun h' s' => ⟨s'.1, s'.2.1, s'.2.2.1, s'.2.2.2.1.1, s'.2.2.2.2.1⟩, ?_, ?_, ?_⟩
    · intro c hc
      have e' : c = N + 4 ∨ c = N + 3 ∨ c = N ∨ c = N + 1 := by simpa using hc
      rcases e' with q | q | q | q <;> rw [q] <;> simp
    · rintro ⟨xs', ys', x, y, g1, g2, g3, g4⟩
      rw [I.tuple_inj g1 qx] at g3
      rw [I.list_inj g2 qy] at g4
      have := (List.getElem?_eq_some_iff.mp g3).1
      have := (List.getElem?_eq_some_iff.mp g4).1
      simp; omega
    · rintro ⟨xs', ys', g1, g2, g3⟩
      rw [I.tuple_inj g1 qx, I.list_inj g2 qy] at g3
      simp; omega
    · rintro vals ⟨x1, x2, e1, e2, rfl⟩
      have e1' : its[i]? = some x1 := by simpa using e1
      have e2' : its2[i]? = some x2 := by simpa using e2
      have i1 := (List.getElem?_eq_some_iff.mp e1').1
      have i2 := (List.getElem?_eq_some_iff.mp e2').1
      have i1' : i < xs.length := by omega
      have i2' : i < ys.length := by omega
      obtain ⟨u1, hu1, r1⟩ := rv.get (List.getElem?_eq_getElem i1')
      obtain ⟨u2, hu2, r2⟩ := rv2.get (List.getElem?_eq_getElem i2')
      rw [e1'] at hu1
      rw [e2'] at hu2
      cases hu1
      cases hu2
      refine ⟨[xs[i], ys[i]], .cons r1 (.cons r2 .nil), by show 2 ≤ sizeLine; decide, fun T nT => ⟨T, _, _, rfl, nT, rfl, fun l hl => ?_, fun l hl => ?_⟩⟩
      · rw [I.tuple_inj hl qx]; exact List.getElem?_eq_getElem i1'
      · rw [I.list_inj hl qy]; exact List.getElem?_eq_getElem i2'
def iZipN (K : PySem.W.Frag) (ta : TA) : TI := fun σ H R => ta σ H fun vs H1 => ∃ a b xs ys, vs = [.ref a, .ref b] ∧ SqT K H1 a xs ∧ SqL K H1 b ys ∧ R (ItzN K a b) H1
theorem piZipN {X : Cx} {K : PySem.W.Frag} {e e2 : Expr} {ta : TA} {p pos tpos : Pos} {elts : List Expr} {kk : Nat} (hg : Gl X "zip") (hm : X.mg "zip" = none) (ha : PA X [e, e2] ta) (hs : starEach [e, e2] X.env = (false, eval e X.env) :: starEach [e2] X.env := by rfl)
    (hpl : (backTo pos (starEach [e2] X.env)).any (·.1) = false := by rfl) (hK : X.K = K := by rfl) : PI X (.Tuple elts kk tpos) (.Call (.Name "zip" p) [e, e2] [] pos) (iZipN K ta) := by
  subst hK
  refine ⟨fun pins s σ H R I h => ?_⟩
  refine Call_ (ld_blt I hg hm PyProof.Rows.boot_zip (PyProof.Rows.callWith_type1 (thn (ha.run pos pins s σ H _ I h) fun us s1 hh => ?_) hs hpl))
  obtain ⟨vs, H1, I1, r1, a, b, xs, ys, ex, qx, qy, q⟩ := hh
  subst ex
  cases r1 with
  | cons r rr =>
    cases rr with
    | cons r' rr =>
      cases rr
      cases r
      cases r'
      obtain ⟨its, rv, p1, _⟩ := I1.tuple qx
      obtain ⟨its2, rv2, p2, _⟩ := I1.list qy
      have la : a < s1.heap.objs.size := by obtain ⟨o, ho, _⟩ := id p1; exact Heap.lt_size ho
      have lb : b < s1.heap.objs.size := p2.lt
      refine zip_begins2 (begins_tuple a its.toArray) (begins_list b its2.toArray) p1 p2.isList fun h' hz hTI hTO o1 o2 hsz hk => wpAny_pyIter_zip hz ?_
      have I2 : Inv X pins σ H1 { s1 with heap := h' } := I1.kept (t' := s1.toks) hk
      refine ⟨s1.heap.objs.size + 4, [s1.heap.objs.size + 4, s1.heap.objs.size + 2, s1.heap.objs.size + 3, s1.heap.objs.size, s1.heap.objs.size + 1], _, _, H1, rfl, I2, turnZipN la lb, ⟨hz, hTI, ⟨_, _, hTO⟩, ⟨_, o1, rfl, rfl⟩, ⟨_, o2, rfl, rfl⟩⟩, fun c hcm => ?_, q⟩
      have e' : c = s1.heap.objs.size + 4 ∨ c = s1.heap.objs.size + 2 ∨ c = s1.heap.objs.size + 3 ∨ c = s1.heap.objs.size ∨ c = s1.heap.objs.size + 1 := by simpa using hcm
      have hle : s1.heap.objs.size ≤ c := by
        rcases e' with z | z | z | z | z <;> rw [z] <;> first | exact Nat.le_add_right _ _ | exact Nat.le_refl _
      exact I1.fpOk hle (I1.hok.fresh hle)

theorem itnGo {K : PySem.W.Frag} {a b : Addr} {xs ys : List V} {n : Nat} {H : Hp} (ha : SqT K H a xs) (hb : SqL K H b ys) (hx : xs.length = n) (hy : ys.length = n) {i : Nat} (hi : i < n) : (ItzN K a b).go i H :=
  ⟨xs, ys, xs[i], ys[i], ha, hb, List.getElem?_eq_getElem _, List.getElem?_eq_getElem _⟩
theorem itnStop {K : PySem.W.Frag} {a b : Addr} {xs ys : List V} {n : Nat} {H : Hp} (ha : SqT K H a xs) (hb : SqL K H b ys) (hx : xs.length = n) (hy : ys.length = n) : (ItzN K a b).stop n H := ⟨xs, ys, ha, hb, by omega⟩
theorem itnYld {K : PySem.W.Frag} {a b : Addr} {xs ys : List V} {H H' : Hp} {v : V} {i : Nat} (ha : SqT K H a xs) (hb : SqL K H b ys) (h : (ItzN K a b).yld i H v H') : ∃ T x y, v = .ref T ∧ H T = none ∧ H' = upd H T (.tup [x, y]) ∧ xs[i]? = some x ∧ ys[i]? = some y := by
  obtain ⟨T, x, y, h1, h2, h3, h4, h5⟩ := h
  exact ⟨T, x, y, h1, h2, h3, h4 _ ha, h5 _ hb⟩
theorem ittGo {K : PySem.W.Frag} {a b : Addr} {xs ys : List V} {n : Nat} {H : Hp} (ha : SqT K H a xs) (hb : SqT K H b ys) (hx : xs.length = n) (hy : ys.length = n) {i : Nat} (hi : i < n) : (RZ.ItzT K a b).go i H :=
  ⟨xs, ys, xs[i], ys[i], ha, hb, List.getElem?_eq_getElem _, List.getElem?_eq_getElem _⟩
theorem ittStop {K : PySem.W.Frag} {a b : Addr} {xs ys : List V} {n : Nat} {H : Hp} (ha : SqT K H a xs) (hb : SqT K H b ys) (hx : xs.length = n) (hy : ys.length = n) : (RZ.ItzT K a b).stop n H := ⟨xs, ys, ha, hb, by omega⟩
theorem ittYld {K : PySem.W.Frag} {a b : Addr} {xs ys : List V} {H H' : Hp} {v : V} {i : Nat} (ha : SqT K H a xs) (hb : SqT K H b ys) (h : (RZ.ItzT K a b).yld i H v H') : ∃ T x y, v = .ref T ∧ H T = none ∧ H' = upd H T (.tup [x, y]) ∧ xs[i]? = some x ∧ ys[i]? = some y := by
  obtain ⟨T, x, y, h1, h2, h3, h4, h5⟩ := h
  exact ⟨T, x, y, h1, h2, h3, h4 _ ha, h5 _ hb⟩
theorem piZipAk {X : Cx} {K : PySem.W.Frag} {e e2 : Expr} {ta : TA} {p pos tpos : Pos} {elts : List Expr} {kk : Nat} (hg : Gl X "zip") (hm : X.mg "zip" = none) (ha : PA X [e, e2] ta) (hs : starEach [e, e2] X.env = (false, eval e X.env) :: starEach [e2] X.env := by rfl)
    (hpl : (backTo pos (starEach [e2] X.env)).any (·.1) = false := by rfl) (hK : X.K = K := by rfl) : PI X (.Tuple elts kk tpos) (.Call (.Name "zip" p) [e, e2] [] pos) (RZ.iZipA K ta) := hK ▸ RZ.pi_zipA hg hm ha hs hpl
end Bp

set_option Elab.async false
set_option linter.all false
set_option maxRecDepth 100000
set_option maxHeartbeats 4000000
namespace Bp
open PySem PySem.Spec PyProof.Rows L2 Evl
abbrev s_isStateOf : Stmt := topS 13
abbrev N_isStateOf : List Str := ["sizes", "value", "one", "size"]
theorem sc_isStateOf : FnScope N_isStateOf ["sizes", "value"] (defScope s_isStateOf) := ⟨rfl, rfl, rfl, by decide +kernel, rfl, by decide +kernel, by decide +kernel⟩
/-- ints in a list or in a tuple -/
def SeqI (H : Hp) (v : V) (ns : List Int) : Prop := (∃ a, v = .ref a ∧ H a = some (.lst (ns.map V.int))) ∨ IntT H v ns
def spIsStateOf : Sp := fun vs H Q _ => ∃ (u v : V) (sz : List Int) (r : Row), vs = [u, v] ∧ SeqI H u sz ∧ IntT H v r ∧ RowOk sz r ∧ sz.length ≤ 100 ∧ ∀ H', Ex H H' → Q (.bl true) H'
theorem idx_true {i n : Int} (h0 : 0 ≤ i) (h1 : i < n) : isIdxV n (.int i) = true := by
  show (decide (0 ≤ i) && decide (i < n)) = true
  simp [h0, h1]
section
variable {P : Program} {w : World} {K : PySem.W.Frag} {mg : Str → Option Value} {base : Heap}
theorem ok_isStateOf {f fS fI : Addr} {fd fdS fdI : FuncData} (F : Fun K "is_state_of" "is_state_of" s_isStateOf f fd) (B : Blt mg) (D_isSequence : Dn K mg "is_sequence" s_isSequence ["value"] fS fdS) (D_isIndex : Dn K mg "is_index" s_isIndex ["value", "many"] fI fdI)
    (G_isIndex : FnOk P w K mg base CX0 3 fI fdI ["value", "many"] spIsIndex) : FnOk P w K mg base CX0 4 f fd ["sizes", "value"] spIsStateOf := by
  have G_isSequence : FnOk P w K mg base CX0 1 fS fdS ["value"] spIsSequence := ok_isSequence D_isSequence.F B
  refine F.ok sc_isStateOf (fun vs H Q E h => ?_) (fun cdv A outer s H vs Q E hr h => ?_)
  · obtain ⟨u, v, sz, r, rfl, _⟩ := h
    rfl
  · obtain ⟨u, v, sz, r, rfl, hu0, ⟨va, rfl, hv⟩, ok, l100, q⟩ := h
    have each : ∀ (i : Nat) (x y : V), (r.map V.int)[i]? = some x → (sz.map V.int)[i]? = some y → ∃ a n : Int, x = .int a ∧ y = .int n ∧ isIdxV n (.int a) = true := fun i x y h1 h2 => by
      obtain ⟨a, ha, rfl⟩ := intsAt h1
      obtain ⟨n, hn, rfl⟩ := intsAt h2
      have := ok.each i a n ha hn
      exact ⟨a, n, rfl, rfl, idx_true this.1 this.2⟩
    have ll := ok.len
    rcases hu0 with ⟨ua, rfl, hu⟩ | ⟨ua, rfl, hu⟩
    · refine ⟨_, (pss_cons (ps_if (PW.pt (pw_or (pt_not (pt_val (pe_call G_isSequence (hr.mono (by decide)) (by rfl) D_isSequence.g D_isSequence.F.kp D_isSequence.b .nil pass0 (pa_cons (pv 1) pa_nil)))) (pw_or1 (pt_cmpR op_ne (pe_callB (lenk (K := K)) (by rfl) B.len bt_len (pa_cons (pv 1) pa_nil)) (pe_callB (lenk (K := K)) (by rfl) B.len bt_len (pa_cons (pv 0) pa_nil)) (nomark _)))))
    (pss_one (ps_ret pe_bl))
    pss_nil)
  (pss_one (ps_ret (pe_callB (allk rfl (K := K)) (by rfl) B.all bt_all (pa_cons (lck (own := [("one", 2), ("size", 3)]) rfl sc_isStateOf.nd (show blkC N_isStateOf (defScope s_isStateOf) _ _ = true by decide +kernel) (piZipN (K := K) (by rfl) B.zip (pa_cons (pv 1) (pa_cons (pv 0) pa_nil))) (fun _ _ _ _ _ => (pgTk (K := K) (n := 2) rfl (pgs_cons (pg_name (i := 2) sc_isStateOf.nd rfl (Or.inl rfl)) (pgs_cons (pg_name (i := 3) sc_isStateOf.nd rfl (Or.inl rfl)) pgs_nil)))) (fun _ _ _ _ _ => pts_nil) (fun _ _ _ _ _ => (pe_call G_isIndex (hr.mono (by decide)) (by rfl) D_isIndex.g D_isIndex.F.kp D_isIndex.b .nil pass0 (pa_cons (pv 2) (pa_cons (pv 3) pa_nil))))) pa_nil))))), ?_⟩
      refine ⟨.ref va, rfl, .ref va, rfl, .inl ⟨⟨va, _, rfl, .inr hv⟩, fun H1 e1 => ⟨_, rfl, iteF ?_⟩⟩⟩
      refine ⟨.ref va, rfl, _, r.length, rfl, .inr ⟨_, SqT.of (e1 _ _ hv), by rw [List.length_map]⟩, .ref ua, rfl, _, sz.length, rfl, .inl ⟨_, SqL.of (e1 _ _ hu), by rw [List.length_map]⟩, rfl, _, rfl, ifE (fun c => ?_) (fun _ => ?_)⟩
      · rw [ll] at c; simp at c
      · refine ⟨.ref va, rfl, .ref ua, rfl, va, ua, _, _, rfl, SqT.of (e1 _ _ hv), SqL.of (e1 _ _ hu), fun D nD => ?_⟩
        refine lcJ (n := sz.length) (σ := [some (.ref ua), some (.ref va), none, none]) (fun i acc _ => ∃ bs : List Bool, acc = bs.map V.bl ∧ ∀ b ∈ bs, b = true) nD (fun _ _ _ _ _ _ _ _ _ h => h) ⟨[], rfl, by simp⟩ (fun _ _ h => h) (by omega) (fun i H2 hi e2 => itnGo (SqT.of ((e1.trans e2) _ _ hv)) (SqL.of ((e1.trans e2) _ _ hu)) (by simp [ll]) (by simp) hi) (fun H2 e2 => itnStop (SqT.of ((e1.trans e2) _ _ hv)) (SqL.of ((e1.trans e2) _ _ hu)) (by simp [ll]) (by simp)) ?_ ?_
        · rintro j hj acc H2 Cy Cn e2 ⟨bs, rfl, hbs⟩ cy _ v H3 hy
          obtain ⟨T, x, y, rfl, nT, rfl, h1, h2⟩ := itnYld (SqT.of ((e1.trans e2) _ _ hv)) (SqL.of ((e1.trans e2) _ _ hu)) hy
          obtain ⟨a, n, rfl, rfl, hidx⟩ := each j x y h1 h2
          refine ⟨T, [.int a, .int n], rfl, SqT.of upd_same, rfl, .int a, [.int n], rfl, .int n, [], rfl, rfl, rfl, tYesE ?_⟩
          refine ⟨.int a, rfl, .int n, rfl, .int a, n, rfl, .int a, fun H4 e4 => ?_⟩
          rw [hidx]
          exact cy _ _ ((Ex.new nT).trans e4) ⟨bs ++ [true], by simp, by simpa using hbs⟩
        · rintro acc H2 e2 hD ⟨bs, rfl, hbs⟩ _
          refine ⟨D, bs, rfl, SqL.of hD, ?_⟩
          rw [List.all_eq_true.mpr (fun b hb => by rw [hbs b hb]; rfl)]
          exact q _ (e1.trans e2)
    · refine ⟨_, (pss_cons (ps_if (PW.pt (pw_or (pt_not (pt_val (pe_call G_isSequence (hr.mono (by decide)) (by rfl) D_isSequence.g D_isSequence.F.kp D_isSequence.b .nil pass0 (pa_cons (pv 1) pa_nil)))) (pw_or1 (pt_cmpR op_ne (pe_callB (lenk (K := K)) (by rfl) B.len bt_len (pa_cons (pv 1) pa_nil)) (pe_callB (lenk (K := K)) (by rfl) B.len bt_len (pa_cons (pv 0) pa_nil)) (nomark _)))))
    (pss_one (ps_ret pe_bl))
    pss_nil)
  (pss_one (ps_ret (pe_callB (allk rfl (K := K)) (by rfl) B.all bt_all (pa_cons (lck (own := [("one", 2), ("size", 3)]) rfl sc_isStateOf.nd (show blkC N_isStateOf (defScope s_isStateOf) _ _ = true by decide +kernel) (piZipAk (K := K) (by rfl) B.zip (pa_cons (pv 1) (pa_cons (pv 0) pa_nil))) (fun _ _ _ _ _ => (pgTk (K := K) (n := 2) rfl (pgs_cons (pg_name (i := 2) sc_isStateOf.nd rfl (Or.inl rfl)) (pgs_cons (pg_name (i := 3) sc_isStateOf.nd rfl (Or.inl rfl)) pgs_nil)))) (fun _ _ _ _ _ => pts_nil) (fun _ _ _ _ _ => (pe_call G_isIndex (hr.mono (by decide)) (by rfl) D_isIndex.g D_isIndex.F.kp D_isIndex.b .nil pass0 (pa_cons (pv 2) (pa_cons (pv 3) pa_nil))))) pa_nil))))), ?_⟩
      refine ⟨.ref va, rfl, .ref va, rfl, .inl ⟨⟨va, _, rfl, .inr hv⟩, fun H1 e1 => ⟨_, rfl, iteF ?_⟩⟩⟩
      refine ⟨.ref va, rfl, _, r.length, rfl, .inr ⟨_, SqT.of (e1 _ _ hv), by rw [List.length_map]⟩, .ref ua, rfl, _, sz.length, rfl, .inr ⟨_, SqT.of (e1 _ _ hu), by rw [List.length_map]⟩, rfl, _, rfl, ifE (fun c => ?_) (fun _ => ?_)⟩
      · rw [ll] at c; simp at c
      · refine ⟨.ref va, rfl, .ref ua, rfl, va, ua, _, _, rfl, .inr ⟨SqT.of (e1 _ _ hv), SqT.of (e1 _ _ hu), fun D nD => ?_⟩⟩
        refine lcJ (n := sz.length) (σ := [some (.ref ua), some (.ref va), none, none]) (fun i acc _ => ∃ bs : List Bool, acc = bs.map V.bl ∧ ∀ b ∈ bs, b = true) nD (fun _ _ _ _ _ _ _ _ _ h => h) ⟨[], rfl, by simp⟩ (fun _ _ h => h) (by omega) (fun i H2 hi e2 => ittGo (SqT.of ((e1.trans e2) _ _ hv)) (SqT.of ((e1.trans e2) _ _ hu)) (by simp [ll]) (by simp) hi) (fun H2 e2 => ittStop (SqT.of ((e1.trans e2) _ _ hv)) (SqT.of ((e1.trans e2) _ _ hu)) (by simp [ll]) (by simp)) ?_ ?_
        · rintro j hj acc H2 Cy Cn e2 ⟨bs, rfl, hbs⟩ cy _ v H3 hy
          obtain ⟨T, x, y, rfl, nT, rfl, h1, h2⟩ := ittYld (SqT.of ((e1.trans e2) _ _ hv)) (SqT.of ((e1.trans e2) _ _ hu)) hy
          obtain ⟨a, n, rfl, rfl, hidx⟩ := each j x y h1 h2
          refine ⟨T, [.int a, .int n], rfl, SqT.of upd_same, rfl, .int a, [.int n], rfl, .int n, [], rfl, rfl, rfl, tYesE ?_⟩
          refine ⟨.int a, rfl, .int n, rfl, .int a, n, rfl, .int a, fun H4 e4 => ?_⟩
          rw [hidx]
          exact cy _ _ ((Ex.new nT).trans e4) ⟨bs ++ [true], by simp, by simpa using hbs⟩
        · rintro acc H2 e2 hD ⟨bs, rfl, hbs⟩ _
          refine ⟨D, bs, rfl, SqL.of hD, ?_⟩
          rw [List.all_eq_true.mpr (fun b hb => by rw [hbs b hb]; rfl)]
          exact q _ (e1.trans e2)
end
end Bp

set_option Elab.async false
set_option linter.all false
set_option maxRecDepth 100000
set_option maxHeartbeats 4000000
namespace Bp
open PySem PySem.Spec PyProof.Rows L2 Evl
/-! ### a dict comprehension whose keys are tuples (turned from the layer's proof for ints and texts) -/
theorem dictSetT {X : Cx} {pins : List (Addr × Obj)} {σ : L2.St} {H : Hp} {s : Shared} {A : Around} {E : Value → Shared → Prop} {D b : Addr} {kvs : List (List Key × V)} {k : List Key} {v : V} {u r : Value} {Q : Unit → Shared → Prop} (hu : A.units + 1 < cLine) (I : Inv X pins σ H s) (hD : H D = some (.dT kvs)) (eb : H b = some (.tup (k.map kV))) (hz : kvs.length < sizeLine)
    (ry : RelV (.ref b) u) (rv : RelV v r) (h : ∀ s', Inv X pins σ (upd H D (.dT (putK kvs k v))) s' → Q () s') : wpAny (model X.prog X.w) A (dictSet D u r) Q E s := by
  obtain rfl : u = Value.ref b := ry
  obtain ⟨z, hd, xs, rel, dd⟩ := dt_of I.hok hD
  have hzx : xs.length ≤ sizeLine := by rw [← Paired.length rel]; exact z
  have hl : (putK kvs k v).length ≤ sizeLine := by have := length_putK kvs k v; omega
  refine wpAny_dictSet_heap (hsz := hzx) (show (tupleKind (mixKind X.prog X.w)).room A by show A.units < cLine; omega) (key_of I.hok eb) dd fun h' dd' hs => h _ ?_
  obtain ⟨q, es, ep, hq, h2, h3, h4, _, h5⟩ := dd'
  refine d_write I (by rw [hD]; exact True.intro) hs ⟨q, hq⟩ ⟨hl, hd, _, (rel.put k eb rv).keeps fun c ys ec => ?_, q, es, ep, hq, h2, h3, h4, h5⟩
  rw [upd_ne (ne_of ec hD (fun z => nomatch z))]
  exact ec
section
variable {X : Cx}
def tDcT (wi : TI) (g : TG) (tt : TT) (tk tv : TE) (vs : List Nat) : TE := fun σ H Q => wi σ H fun J H1 => ∀ D, H1 D = none → ∃ W : Nat → Nat → Hp → Prop, (∃ m, W 0 m (upd H1 D (.dT []))) ∧ ∀ i m H, W i m H →
  (J.stop i H ∧ Q (.ref D) H) ∨ (J.go i H ∧ ∃ Nx : Hp → Prop, (∀ H', Nx H' → ∃ m', m' < m ∧ W (i + 1) m' H') ∧ ∀ x H', J.yld i H x H' → g x (wipe σ vs) H' fun σ2 H2 => wipe σ2 vs = wipe σ vs ∧ tt σ2 H2 fun b H3 =>
    if b = true then tk σ2 H3 fun y H4 => tv σ2 H4 fun z H5 => ∃ kvs k b, y = .ref b ∧ H5 b = some (.tup (k.map kV)) ∧ H5 D = some (.dT kvs) ∧ kvs.length < sizeLine ∧ Nx (upd H5 D (.dT (putK kvs k z))) else Nx H3)
theorem dcT_core {pins : List (Addr × Obj)} {s : Shared} {σ : L2.St} {H : Hp} {Q : VK} {kx vx tg iter : Expr} {ifs : List Expr} {scope : Scope} {own : List (Str × Nat)} {pos pos' : Pos} {wi : TI} {g : TG} {tt : TT} {tk tv : TE} {use : Option (Value → Sem Unit)} {Qf : Value → Shared → Prop}
    (hc : X.calm = true) (hu : X.A.units + 1 < cLine) (hN : X.N.Nodup) (I : Inv X pins σ H s) (hi : PI X tg iter wi) (ok : BlkOk X.N X.env.scope scope own)
    (hg : ∀ (s : Shared) (H : Hp) (C : Addr) (cl : List (Str × Addr)) (fp : List Addr), PG (X.blk s H scope (compEnvC scope cl C X.env) fp) tg g) (ht : ∀ (s : Shared) (H : Hp) (C : Addr) (cl : List (Str × Addr)) (fp : List Addr), PTs (X.blk s H scope (compEnvC scope cl C X.env) fp) ifs tt)
    (hk : ∀ (s : Shared) (H : Hp) (C : Addr) (cl : List (Str × Addr)) (fp : List Addr), PE (X.blk s H scope (compEnvC scope cl C X.env) fp) kx tk)
    (he : ∀ (s : Shared) (H : Hp) (C : Addr) (cl : List (Str × Addr)) (fp : List Addr), PE (X.blk s H scope (compEnvC scope cl C X.env) fp) vx tv) (hs : ∀ x, foldedSetIterable iter X.env x = pure x)
    (h : tDcT wi g tt tk tv (own.map (·.2)) σ H Q)
    (hFin : ∀ D C s' m H', Inv X pins σ H' s' → Q (.ref D) H' → s'.heap.Ns C m → FpOk X pins H' C → compPost (model X.prog X.w) X.A X.xe use Qf (.ref D) C (.ok .next) s') :
    wpAny (model X.prog X.w) X.A (comprehension (.DictComp kx vx [⟨tg, iter, ifs, 0⟩] scope pos) scope X.env pos' newDict false (eval iter X.env) use) Qf X.xe s := by
  have hfree : ∀ y ∈ scope.names, y.2 = .free → ∃ c, X.env.cells.lookup y.1 = some c := fun y hy e => by
    rcases ok.free y hy e with k | k
    · exact I.ok.has _ (.inl k)
    · exact I.ok.has _ (.inr k)
  refine wpAny_comprehension_free (use := use) rfl hs (closure_ok hfree) ok.kind (fun y hy e => by rw [ok.uniq y hy, e])
    (thn (hi.run pins s σ H _ I h) fun xv s1 hx => thn hx fun itv s2 h2 => ?_)
  obtain ⟨it, fp, tn, J, H2, e, I2, T, st2, f2, q⟩ := h2
  subst e
  refine wpAny_newObj_type (newEnv_comp ?_)
  generalize hD : s2.heap.objs.size = D
  have hDn : H2 D = none := I2.hok.fresh (Nat.le_of_eq hD)
  obtain ⟨W, ⟨m0, wz⟩, turn⟩ := q D hDn
  -- the new list
  generalize hS3 : ({ s2 with heap := s2.heap.push { cls := .type "dict", data := .dict #[] } } : Shared) = s3
  have J3 : Inv X pins σ (upd H2 D (.dT [])) s3 := by
    rw [← hS3]
    refine I2.laid (t' := s2.toks) (fun b o e => Heap.get?_push_of_some _ e) (Nat.le_of_eq hD) ?_
    rw [← hD]
    exact dt_empty s2.heap I2.big
  have h3 : s3.heap = s2.heap.push { cls := .type "dict", data := .dict #[] } := by rw [← hS3]
  have sz : ∀ b ∈ fp, b < s2.heap.objs.size := fun b hb => by
    obtain ⟨o, e, _⟩ := T.obj _ _ st2 b hb
    exact Heap.lt_size e
  have f3 : ∀ b ∈ fp, FpOk X pins (upd H2 D (.dT [])) b ∧ b < s3.heap.objs.size := fun b hb => by
    have hlt := sz b hb
    refine ⟨⟨?_, (f2 b hb).2⟩, by rw [h3, Heap.size_push]; exact Nat.lt_succ_of_lt hlt⟩
    rw [upd_ne (by rw [← hD]; exact Nat.ne_of_lt hlt)]
    exact (f2 b hb).1
  have tn3 : tn 0 s3.heap := T.keep _ _ _ st2 fun b _ o e => by rw [h3]; exact Heap.get?_push_of_some _ e
  have J4 := block_start J3 ok hN f3
  have pg := hg s3 (upd H2 D (.dT [])) s3.heap.objs.size (cellsFrom (s3.heap.objs.size + 1) scope.names (cloFrom X.env.cells scope.names [])) fp
  have pt := ht s3 (upd H2 D (.dT [])) s3.heap.objs.size (cellsFrom (s3.heap.objs.size + 1) scope.names (cloFrom X.env.cells scope.names [])) fp
  have pk := hk s3 (upd H2 D (.dT [])) s3.heap.objs.size (cellsFrom (s3.heap.objs.size + 1) scope.names (cloFrom X.env.cells scope.names [])) fp
  have pe := he s3 (upd H2 D (.dT [])) s3.heap.objs.size (cellsFrom (s3.heap.objs.size + 1) scope.names (cloFrom X.env.cells scope.names [])) fp
  show codeAny _ _ (.compStart (.DictComp kx vx [⟨tg, iter, ifs, 0⟩] scope pos) 0 (.ref it) (.ref D) (compEnvC scope (cellsFrom (s3.heap.objs.size + 1) scope.names (cloFrom X.env.cells scope.names [])) s3.heap.objs.size X.env)) (compPost (model X.prog X.w) X.A X.xe use Qf (.ref D) s3.heap.objs.size) { s3 with heap := pushCells (s3.heap.push { cls := .type "dict", data := .dict #[] }) scope.names }
  have nofp : ∀ b ∈ fp, (upd H2 D (.dT [])) b = none := fun b hb => (f3 b hb).1.1
  generalize hEnv : compEnvC scope (cellsFrom (s3.heap.objs.size + 1) scope.names (cloFrom X.env.cells scope.names [])) s3.heap.objs.size X.env = ce at J4 pg pt pk pe ⊢
  have cL : ce.locals = s3.heap.objs.size := by subst hEnv; rfl
  generalize hH3 : upd H2 D (.dT []) = H3 at J3 J4 pg pt pk pe wz nofp f3
  generalize hS4 : ({ s3 with heap := pushCells (s3.heap.push { cls := .type "dict", data := .dict #[] }) scope.names } : Shared) = s4 at J4 ⊢
  have tn4 : tn 0 s4.heap := T.keep _ _ _ tn3 fun b _ o e => by rw [← hS4]; exact pushCells_keeps _ _ _ _ (Heap.get?_push_of_some _ e)
  have stat : ∀ {σ' : L2.St} {H' : Hp} {s' : Shared}, Inv (X.blk s3 H3 scope ce fp) [] σ' H' s' → (∀ b ∈ fp, H' b = none) → ∀ b ∈ fp, FpOk (X.blk s3 H3 scope ce fp) [] H' b := fun {σ' H' s'} I' hn b hb =>
    ⟨hn b hb, (I'.ok.exf b hb).1, I'.ok.exfs b hb, .inl hb, fun x c e => (I'.ok.exf b hb).2 x c e, fun p hp => absurd (show p ∈ ([] : List (Addr × Obj)) ++ [] from hp) (by simp)⟩
  have loop : codeAny (model X.prog X.w) X.A (.compLoop (.DictComp kx vx [⟨tg, iter, ifs, 0⟩] scope pos) 0 (.ref it) (.ref D) ce) (compPost (model X.prog X.w) X.A X.xe use Qf (.ref D) s3.heap.objs.size) s4 := by
    refine compLoop_anyD (fun n s' => ∃ i H', Inv (X.blk s3 H3 scope ce fp) [] (wipe σ (own.map (·.2))) H' s' ∧ tn i s'.heap ∧ (∀ b ∈ fp, H' b = none) ∧ W i n H') ?_ m0 ⟨0, H3, J4, tn4, nofp, wz⟩
    rintro n s5 ⟨i, H5, J5, tn5, n5, w5⟩
    rcases turn i n H5 w5 with ⟨stop, qq⟩ | ⟨go, Nx, hNx, step⟩
    · have td := T.done (X.blk s3 H3 scope ce fp) rfl rfl rfl hc i [] s5 _ H5 (fun _ _ => False) J5 (stat J5 n5) tn5 stop
      refine thnF td fun r s6 ⟨hr, J6⟩ => ?_
      subst hr
      -- back in the def's context
      have J7 : Inv X pins σ H5 s6 := J3.call' (ch := fp) J6.os J6.base J6.hok J6.bare fun b hb => ⟨(f3 b hb).1.2.2.2.1, (f3 b hb).1.2.1, (f3 b hb).1.2.2.2.2.1, (f3 b hb).1.2.2.2.2.2⟩
      have nC : H5 s3.heap.objs.size = none := by
        have z : H5 ce.locals = none := J6.free
        rw [cL] at z
        exact z
      obtain ⟨m, hn, _⟩ := J6.loc
      have hn : s6.heap.Ns ce.locals m := hn
      rw [cL] at hn
      exact hFin D s3.heap.objs.size s6 m H5 J7 qq hn (J3.fpOk (Nat.le_refl _) nC)
    · have ti := T.item (X.blk s3 H3 scope ce fp) rfl rfl rfl hc i [] s5 _ H5 (fun _ _ => False) J5 (stat J5 n5) tn5 go
      refine thnF ti fun r s6 ⟨u, hr, h6⟩ => ?_
      subst hr
      refine thnF h6 fun _ s7 ⟨x, H7, J7, r7, y7, st7, n7⟩ => ?_
      have J7' := J7.pinned (stat J7 n7) (T.obj _ _ st7)
      refine thnF (pg.run _ s7 _ H7 x u _ J7' r7 (step x H7 y7)) fun _ s8 ⟨σ8, H8, J8, hw8, q8⟩ => ?_
      refine thnF (pt.run _ s8 σ8 H8 _ J8 q8) fun b s9 ⟨H9, J9, q9⟩ => ?_
      -- the turn's end
      have fin : ∀ {s' : Shared} {H' : Hp}, Inv (X.blk s3 H3 scope ce fp) ([] ++ pinsAt fp s7.heap) σ8 H' s' → Nx H' → ∃ m, m < n ∧ ∃ i H', Inv (X.blk s3 H3 scope ce fp) [] (wipe σ (own.map (·.2))) H' s' ∧ tn i s'.heap ∧ (∀ b ∈ fp, H' b = none) ∧ W i m H' := fun {s' H'} I' nx => by
        obtain ⟨m', hm, w'⟩ := hNx H' nx
        have pin' : ∀ b ∈ fp, ∀ o, s7.heap.get? b = some o → s'.heap.get? b = some o ∧ H' b = none := fun b hb o e =>
          let z := I'.pin (b, o) (List.mem_append_right _ (List.mem_append_right _ (mem_pinsAt hb e)))
          ⟨z.1, z.2.1⟩
        have hl : (wipe σ (own.map (·.2))).length = σ8.length := by rw [← hw8, wipe_length]
        refine ⟨m', hm, i + 1, H', (I'.unpinned (pins := [])).weak hl (fun j v e => ?_), T.keep _ _ _ st7 fun b hb o e => (pin' b hb o e).1, fun b hb => ?_, w'⟩
        · rw [← hw8] at e
          exact (wipe_some e).1
        · obtain ⟨o, e, _⟩ := T.obj _ _ st7 b hb
          exact (pin' b hb o e).2
      cases b with
      | false =>
        simp only [Bool.false_eq_true, if_false] at q9 ⊢
        exact fin J9 q9
      | true =>
        simp only [if_true] at q9 ⊢
        refine thnF (pk.run _ s9 σ8 H9 _ J9 q9) fun z s10 ⟨yk, H10, J10, r10, q10⟩ => ?_
        refine thnF (pe.run _ s10 σ8 H10 _ J10 q10) fun z2 s11 ⟨yv, H11, J11, r11, kvs, k, b, ek, hb11, hD11, hz11, nx⟩ => ?_
        subst ek
        exact dictSetT (X := X.blk s3 H3 scope ce fp) hu J11 hD11 hb11 hz11 r10 r11 fun s12 J12 => fin J12 nx
  exact codeAny_compStart_dict loop (T.self X.A 0 _ _ _ tn4 loop)
/-- as a value -/
theorem pe_dcT {kx vx tg iter : Expr} {ifs : List Expr} {scope : Scope} {own : List (Str × Nat)} {pos : Pos} {wi : TI} {g : TG} {tt : TT} {tk tv : TE} (hc : X.calm = true) (hu : X.A.units + 1 < cLine) (hN : X.N.Nodup) (hi : PI X tg iter wi) (ok : BlkOk X.N X.env.scope scope own)
    (hg : ∀ (s : Shared) (H : Hp) (C : Addr) (cl : List (Str × Addr)) (fp : List Addr), PG (X.blk s H scope (compEnvC scope cl C X.env) fp) tg g) (ht : ∀ (s : Shared) (H : Hp) (C : Addr) (cl : List (Str × Addr)) (fp : List Addr), PTs (X.blk s H scope (compEnvC scope cl C X.env) fp) ifs tt)
    (hk : ∀ (s : Shared) (H : Hp) (C : Addr) (cl : List (Str × Addr)) (fp : List Addr), PE (X.blk s H scope (compEnvC scope cl C X.env) fp) kx tk)
    (he : ∀ (s : Shared) (H : Hp) (C : Addr) (cl : List (Str × Addr)) (fp : List Addr), PE (X.blk s H scope (compEnvC scope cl C X.env) fp) vx tv) (hs : ∀ x, foldedSetIterable iter X.env x = pure x := by intro _; rfl) :
    PE X (.DictComp kx vx [⟨tg, iter, ifs, 0⟩] scope pos) (tDcT wi g tt tk tv (own.map (·.2))) := by
  refine ⟨fun pins s σ H Q I h => ?_⟩
  rw [arm_eval_DictComp]
  refine dcT_core hc hu hN I hi ok hg ht hk he hs h fun D C s' m H' I' q hn f => ⟨m, hn, fun h'' sb => ?_⟩
  obtain ⟨f0, f1, f2, f3, f4, f5⟩ := f
  exact ⟨.ref D, H', I'.turned (t' := s'.toks) (fun b o hb e => (sb.2 b hb).trans e) f0 f1 f3 f4 f5, rfl, q⟩
end
theorem dcJ {J : It} {n : Nat} {g : TG} {tt : TT} {tk tv : TE} {vs : List Nat} {σ : L2.St} {H1 : Hp} {D : Addr} {Qd : Hp → Prop} (Pv : Nat → Hp → Prop) (h0 : Pv 0 (upd H1 D (.dT []))) (hgo : ∀ i H, i < n → Pv i H → J.go i H) (hst : ∀ H, Pv n H → J.stop n H)
    (hs : ∀ i H, i < n → Pv i H → ∀ x H', J.yld i H x H' → g x (wipe σ vs) H' fun σ2 H2 => wipe σ2 vs = wipe σ vs ∧ tt σ2 H2 fun b H3 =>
      if b = true then tk σ2 H3 fun y H4 => tv σ2 H4 fun z H5 => ∃ kvs k b, y = .ref b ∧ H5 b = some (.tup (k.map kV)) ∧ H5 D = some (.dT kvs) ∧ kvs.length < sizeLine ∧ Pv (i + 1) (upd H5 D (.dT (putK kvs k z))) else Pv (i + 1) H3) (hd : ∀ H, Pv n H → Qd H) :
    ∃ W : Nat → Nat → Hp → Prop, (∃ m, W 0 m (upd H1 D (.dT []))) ∧ ∀ i m H, W i m H →
      (J.stop i H ∧ Qd H) ∨ (J.go i H ∧ ∃ Nx : Hp → Prop, (∀ H', Nx H' → ∃ m', m' < m ∧ W (i + 1) m' H') ∧ ∀ x H', J.yld i H x H' → g x (wipe σ vs) H' fun σ2 H2 => wipe σ2 vs = wipe σ vs ∧ tt σ2 H2 fun b H3 =>
        if b = true then tk σ2 H3 fun y H4 => tv σ2 H4 fun z H5 => ∃ kvs k b, y = .ref b ∧ H5 b = some (.tup (k.map kV)) ∧ H5 D = some (.dT kvs) ∧ kvs.length < sizeLine ∧ Nx (upd H5 D (.dT (putK kvs k z))) else Nx H3) := by
  refine ⟨fun i m H => m = n - i ∧ i ≤ n ∧ Pv i H, ⟨n, rfl, Nat.zero_le _, h0⟩, fun i m H q => ?_⟩
  obtain ⟨rfl, hi, p⟩ := q
  by_cases c : i < n
  · exact .inr ⟨hgo i H c p, fun H' => Pv (i + 1) H', fun H' q => ⟨n - (i + 1), by omega, rfl, c, q⟩, hs i H c p⟩
  · have : i = n := by omega
    subst this
    exact .inl ⟨hst H p, hd H p⟩
/-! ### keys of rows -/
def keyR (r : Row) : List Key := r.map Sum.inl
theorem keyR_map (r : Row) : (keyR r).map kV = r.map V.int := by unfold keyR; rw [List.map_map]; rfl
theorem keyR_inj {r q : Row} (h : keyR r = keyR q) : r = q := by
  unfold keyR at h
  induction r generalizing q with
  | nil => cases q with
    | nil => rfl
    | cons _ _ => simp at h
  | cons a r ih => cases q with
    | nil => simp at h
    | cons b q =>
      simp only [List.map_cons, List.cons.injEq] at h
      obtain ⟨h1, h2⟩ := h
      cases h1
      rw [ih h2]
theorem IntT.key {H : Hp} {v : V} {r : Row} (h : IntT H v r) : ∃ a, v = .ref a ∧ H a = some (.tup ((keyR r).map kV)) := by
  obtain ⟨a, h1, h2⟩ := h
  exact ⟨a, h1, by rw [keyR_map]; exact h2⟩
theorem room1 {k : Nat} {A : Around} (r : Room k A) : A.units + 1 < cLine := by have := r.un; omega
end Bp

set_option Elab.async false
set_option linter.all false
set_option maxRecDepth 100000
set_option maxHeartbeats 4000000
namespace Bp
open PySem PySem.Spec PyProof.Rows L2 Evl
abbrev s_StoreInit : Stmt := inClass (topS 14) 0
abbrev N_StoreInit : List Str := ["self", "sizes", "states", "at", "state", "size"]
theorem sc_StoreInit : FnScope N_StoreInit ["self", "sizes", "states"] (defScope s_StoreInit) := ⟨rfl, rfl, rfl, by decide +kernel, rfl, by decide +kernel, by decide +kernel⟩
theorem setOfTk {X : Cx} {K : PySem.W.Frag} {P : Program} {w : World} (hc : X.calm = true) (hu : X.A.units + 64 < cLine) (hK : X.K = K := by rfl) (hP : X.prog = P := by rfl) (hw : X.w = w := by rfl) : CallR X (.type "set") (rSetOfT K P w) := by
  subst hK hP hw; exact cr_setOfT hc hu
theorem sortedTk {X : Cx} {K : PySem.W.Frag} {P : Program} {w : World} (hc : X.calm = true) (hK : X.K = K := by rfl) (hP : X.prog = P := by rfl) (hw : X.w = w := by rfl) : CallR X (.builtin "sorted") (rSortedT K P w) := by
  subst hK hP hw; exact cr_sortedT hc
/-! ### stores -/
def StoreF (n : Int) (za sa ix fd : Addr) : List (Str × V) := putF "_found" (.ref fd) (putF "_index" (.ref ix) (putF "states" (.ref sa) (putF "sizes" (.ref za) (putF "key_count" (.int n) []))))
section
variable {n : Int} {za sa ix fd : Addr}
theorem sf_count : (StoreF n za sa ix fd).lookup ("key_count" : Str) = some (.int n) := by
  unfold StoreF
  rw [lookup_putF, if_neg (by decide +kernel), lookup_putF, if_neg (by decide +kernel), lookup_putF, if_neg (by decide +kernel), lookup_putF, if_neg (by decide +kernel), lookup_putF, if_pos rfl]
theorem sf_sizes : (StoreF n za sa ix fd).lookup ("sizes" : Str) = some (.ref za) := by
  unfold StoreF
  rw [lookup_putF, if_neg (by decide +kernel), lookup_putF, if_neg (by decide +kernel), lookup_putF, if_neg (by decide +kernel), lookup_putF, if_pos rfl]
theorem sf_states : (StoreF n za sa ix fd).lookup ("states" : Str) = some (.ref sa) := by
  unfold StoreF
  rw [lookup_putF, if_neg (by decide +kernel), lookup_putF, if_neg (by decide +kernel), lookup_putF, if_pos rfl]
theorem sf_index : (StoreF n za sa ix fd).lookup ("_index" : Str) = some (.ref ix) := by
  unfold StoreF
  rw [lookup_putF, if_neg (by decide +kernel), lookup_putF, if_pos rfl]
theorem sf_found : (StoreF n za sa ix fd).lookup ("_found" : Str) = some (.ref fd) := by
  unfold StoreF
  rw [lookup_putF, if_pos rfl]
theorem sf_no {m : Str} (h1 : ¬ m = "_found") (h2 : ¬ m = "_index") (h3 : ¬ m = "states") (h4 : ¬ m = "sizes") (h5 : ¬ m = "key_count") : (StoreF n za sa ix fd).lookup m = none := by
  unfold StoreF
  rw [lookup_putF, if_neg h1, lookup_putF, if_neg h2, lookup_putF, if_neg h3, lookup_putF, if_neg h4, lookup_putF, if_neg h5]
  rfl
end
/-- a store whose sizes are sz and whose states are zs, in order; its own dict of what was found at fd -/
def StoreAt (C : Addr) (H : Hp) (p : Addr) (sz : List Int) (zs : List Row) (fd : Addr) : Prop := ∃ (dx za sa ix : Addr) (vs : List V) (kvs : List (List Key × V)), H p = some (.ins C dx (StoreF (sz.length : Int) za sa ix fd)) ∧ H za = some (.tup (sz.map V.int)) ∧ H sa = some (.tup vs) ∧ RowsOf H vs zs ∧
  H ix = some (.dT kvs) ∧ (∀ r, r ∈ zs → ∃ k : Int, valV kvs (keyR r) = some (.int k)) ∧ ∀ r, r ∉ zs → valV kvs (keyR r) = none
theorem StoreAt.up {C : Addr} {H H' : Hp} {p : Addr} {sz : List Int} {zs : List Row} {fd : Addr} (h : StoreAt C H p sz zs fd) (e : Ex H H') : StoreAt C H' p sz zs fd :=
  let ⟨dx, za, sa, ix, vs, kvs, h1, h2, h3, h4, h5, h6⟩ := h; ⟨dx, za, sa, ix, vs, kvs, e _ _ h1, e _ _ h2, e _ _ h3, h4.up e, e _ _ h5, h6⟩
structure StTxt (K : PySem.W.Frag) (mg : Str → Option Value) (C : Addr) : Prop where
  cl : Cls K C
  nC : NoAttr K C "key_count"
  nZ : NoAttr K C "sizes"
  nS : NoAttr K C "states"
  nI : NoAttr K C "_index"
  nF : NoAttr K C "_found"
/-- the rows of a list of states, with their addresses -/
theorem rowsKs {H : Hp} : ∀ {vs : List V} {rs : List Row}, RowsOf H vs rs → ∃ ks : List (Addr × List Int), vs = ks.map (fun p => V.ref p.1) ∧ rs = ks.map (·.2) ∧ ∀ p ∈ ks, H p.1 = some (.tup (p.2.map V.int))
  | _, _, .nil => ⟨[], rfl, rfl, by simp⟩
  | _, _, .cons r t => by
    obtain ⟨ks, h1, h2, h3⟩ := rowsKs t
    obtain ⟨a, e, ha⟩ := r
    subst e h1 h2
    refine ⟨(a, _) :: ks, rfl, rfl, fun p hp => ?_⟩
    rcases List.mem_cons.mp hp with e | hp
    · rw [e]; exact ha
    · exact h3 p hp
theorem ksRows {H : Hp} : ∀ {ks : List (Addr × List Int)}, (∀ p ∈ ks, H p.1 = some (.tup (p.2.map V.int))) → RowsOf H (ks.map fun p => V.ref p.1) (ks.map (·.2))
  | [], _ => .nil
  | p :: ks, h => .cons ⟨p.1, rfl, h p List.mem_cons_self⟩ (ksRows fun q hq => h q (List.mem_cons_of_mem _ hq))
/-- all but the object at p is kept -/
def ExB (p : Addr) (H H' : Hp) : Prop := ∀ b o, b ≠ p → H b = some o → H' b = some o
theorem ExB.of {p : Addr} {H H' : Hp} (e : Ex H H') : ExB p H H' := fun b o _ h => e b o h
theorem ExB.trans {p : Addr} {H H' H'' : Hp} (e : ExB p H H') (f : ExB p H' H'') : ExB p H H'' := fun b o n h => f b o n (e b o n h)
theorem ExB.mut {p : Addr} {H : Hp} (o : HO) : ExB p H (upd H p o) := fun b _ n h => by rw [upd_ne n]; exact h
theorem ExB.ex {p : Addr} {H0 H H' : Hp} (e : Ex H0 H) (n : H0 p = none) (f : ExB p H H') : Ex H0 H' := fun b o h => f b o (fun z => by subst z; rw [n] at h; cases h) (e b o h)
theorem ExB.rows {p : Addr} {H H' : Hp} {fs : List (Str × V)} {C dx : Addr} (hp : H p = some (.ins C dx fs)) (e : ExB p H H') {vs : List V} {rs : List Row} (h : RowsOf H vs rs) : RowsOf H' vs rs :=
  Paired.mapP h fun _ _ ⟨a, h1, h2⟩ => ⟨a, h1, e _ _ (ne_of h2 hp (by intro z; cases z)) h2⟩
/-- a new store at p: what stood before the instance is kept -/
def spStoreInit (C : Addr) : Sp := fun vs H Q _ => ∃ (p dx : Addr) (u : V) (a : Addr) (sz : List Int) (ss : List V) (rs : List Row), vs = [.ref p, u, .ref a] ∧ H p = some (.ins C dx []) ∧ SeqI H u sz ∧ H a = some (.lst ss) ∧ RowsOf H ss rs ∧ sz ≠ [] ∧ sz.length ≤ 8 ∧ (∀ n ∈ sz, 1 ≤ n ∧ n ≤ 4) ∧
  (∀ r ∈ rs, RowOk sz r) ∧ rs ≠ [] ∧ rs.length < 64 ∧ ∀ H' zs fd, (∀ b o, b ≠ p → H b = some o → H' b = some o) → H fd = none → H' fd = some (.dK []) → StoreAt C H' p sz zs fd → Asc zs → zs.Nodup → (∀ r, r ∈ zs ↔ r ∈ rs) → Q .non H'
section
variable {P : Program} {w : World} {K : PySem.W.Frag} {mg : Str → Option Value} {base : Heap}
theorem ok_StoreInit {f C fS fN fT : Addr} {fd fdS fdN fdT : FuncData} (F : Fun K "__init__" "Store.__init__" s_StoreInit f fd) (B : Blt mg) (T : StTxt K mg C) (D_isSequence : Dn K mg "is_sequence" s_isSequence ["value"] fS fdS) (G_isSequence : FnOk P w K mg base CX0 1 fS fdS ["value"] spIsSequence)
    (D_isNumber : Dn K mg "is_number" s_isNumber ["value"] fN fdN) (G_isNumber : FnOk P w K mg base CX0 2 fN fdN ["value"] spIsNumber)
    (D_isStateOf : Dn K mg "is_state_of" s_isStateOf ["sizes", "value"] fT fdT) (G_isStateOf : FnOk P w K mg base CX0 4 fT fdT ["sizes", "value"] spIsStateOf) : FnOk P w K mg base CX0 5 f fd ["self", "sizes", "states"] (spStoreInit C) := by
  refine F.ok sc_StoreInit (fun vs H Q E h => ?_) (fun cdv A outer s H vs Q E hr h => ?_)
  · obtain ⟨p, dx, u, a, sz, ss, rs, rfl, _⟩ := h
    rfl
  · obtain ⟨p, dx, u, a, sz, ss, rs, rfl, hp, hu, ha, rS, zne, z8, zb, hrs, rne, r64, q⟩ := h
    have hu1 := room1 hr
    have zpos := List.length_pos_iff.mpr zne
    have rpos := List.length_pos_iff.mpr rne
    have sl : ss.length = rs.length := rS.length
    rcases hu with ⟨ua, rfl, hu⟩ | ⟨ua, rfl, hu⟩
    · refine ⟨_, (pss_cons (ps_if (PW.pt (pw_or (pt_not (pt_val (pe_call G_isSequence (hr.mono (by decide)) (by rfl) D_isSequence.g D_isSequence.F.kp D_isSequence.b .nil pass0 (pa_cons (pv 1) pa_nil)))) (pw_or (pt_cmpR op_eq (pe_callB (lenk (K := K)) (by rfl) B.len bt_len (pa_cons (pv 1) pa_nil)) pe_int (nomark _)) (pw_or1 (pt_not (pt_val (pe_callB (allk rfl (K := K)) (by rfl) B.all bt_all (pa_cons (lck (own := [("size", 5)]) rfl sc_StoreInit.nd (show blkC N_StoreInit (defScope s_StoreInit) _ _ = true by decide +kernel) (piLk (K := K) (pv 1)) (fun _ _ _ _ _ => (pg_name (i := 5) sc_StoreInit.nd rfl (Or.inl rfl))) (fun _ _ _ _ _ => pts_nil) (fun _ _ _ _ _ => (pe_and (pe_call G_isNumber (hr.mono (by decide)) (by rfl) D_isNumber.g D_isNumber.F.kp D_isNumber.b .nil pass0 (pa_cons (pv 5) pa_nil)) (pe_one (pe_cmpR op_gt (pv 5) pe_int (nomark _)))))) pa_nil))))))))
    (pss_one ps_never)
    pss_nil)
  (pss_cons (ps_if (PW.pt (pw_or (pt_not (pt_val (pe_call G_isSequence (hr.mono (by decide)) (by rfl) D_isSequence.g D_isSequence.F.kp D_isSequence.b .nil pass0 (pa_cons (pv 2) pa_nil)))) (pw_or1 (pt_cmpR op_eq (pe_callB (lenk (K := K)) (by rfl) B.len bt_len (pa_cons (pv 2) pa_nil)) pe_int (nomark _)))))
    (pss_one ps_never)
    pss_nil)
  (pss_cut (ps_for PassesOwn.never  rfl (enumk (K := K) (by rfl) B.enumerate (pa_cons (pv 2) pa_nil)) (pgTk (K := K) (n := 2) rfl (pgs_cons (pg_name (i := 3) sc_StoreInit.nd rfl (Or.inl rfl)) (pgs_cons (pg_name (i := 4) sc_StoreInit.nd rfl (Or.inl rfl)) pgs_nil)))
    (pss_one (ps_if (pt_not (pt_val (pe_call G_isStateOf (hr.mono (by decide)) (by rfl) D_isStateOf.g D_isStateOf.F.kp D_isStateOf.b .nil pass0 (pa_cons (pv 1) (pa_cons (pv 4) pa_nil)))))
    (pss_one ps_never)
    pss_nil)))
  (pss_cons (ps_fld (pv 0) (pe_callB (lenk (K := K)) (by rfl) B.len bt_len (pa_cons (pv 1) pa_nil)) rfl)
  (pss_cons (ps_fld (pv 0) (pe_callTy (tupOfk (K := K)) (by rfl) B.tuple bt_tuple (pa_cons (pv 1) pa_nil)) rfl)
  (pss_cons (ps_fld (pv 0) (pe_callTy (tupOfk (K := K)) (by rfl) B.tuple bt_tuple (pa_cons (pe_callB (sortedTk (K := K) (P := P) (w := w) rfl) (by rfl) B.sorted bt_sorted (pa_cons (pe_callTy (setOfTk (K := K) (P := P) (w := w) rfl hr.units) (by rfl) B.set bt_set (pa_cons (lck (own := [("state", 4)]) rfl sc_StoreInit.nd (show blkC N_StoreInit (defScope s_StoreInit) _ _ = true by decide +kernel) (piLk (K := K) (pv 2)) (fun _ _ _ _ _ => (pg_name (i := 4) sc_StoreInit.nd rfl (Or.inl rfl))) (fun _ _ _ _ _ => pts_nil) (fun _ _ _ _ _ => (pe_callTy (tupOfk (K := K)) (by rfl) B.tuple bt_tuple (pa_cons (pv 4) pa_nil)))) pa_nil)) pa_nil)) pa_nil)) rfl)
  (pss_cons (ps_fld (pv 0) (pe_dcT (own := [("at", 3), ("state", 4)]) rfl hu1 sc_StoreInit.nd (enumTk (K := K) (by rfl) B.enumerate (pa_cons (fldk (K := K) (pv 0)) pa_nil)) (blkOk_by (show blkC N_StoreInit (defScope s_StoreInit) _ _ = true by decide +kernel)) (fun _ _ _ _ _ => (pgTk (K := K) (n := 2) rfl (pgs_cons (pg_name (i := 3) sc_StoreInit.nd rfl (Or.inl rfl)) (pgs_cons (pg_name (i := 4) sc_StoreInit.nd rfl (Or.inl rfl)) pgs_nil)))) (fun _ _ _ _ _ => pts_nil) (fun _ _ _ _ _ => (pv 4)) (fun _ _ _ _ _ => (pv 3))) rfl)
  (pss_one (ps_fld (pv 0) pe_dnewK rfl))))))))), ?_⟩
      -- the checks of the sizes
      refine ⟨.ref ua, rfl, .ref ua, rfl, .inl ⟨⟨ua, _, rfl, .inl hu⟩, fun H1 e1 => ⟨_, rfl, iteF ?_⟩⟩⟩
      refine ⟨.ref ua, rfl, _, sz.length, rfl, .inl ⟨_, SqL.of (e1 _ _ hu), by rw [List.length_map]⟩, rfl, _, rfl, ifE (fun c => ?_) (fun _ => ?_)⟩
      · have := eqI c; omega
      refine ⟨.ref ua, rfl, ua, rfl, ⟨_, SqL.of (e1 _ _ hu)⟩, fun D nD => ?_⟩
      refine lcL (xs := sz.map V.int) (fun i acc _ => ∃ bs : List Bool, acc = bs.map V.bl ∧ ∀ b ∈ bs, b = true) nD (fun _ _ _ _ _ _ _ _ _ h => h) ⟨[], rfl, by simp⟩ (fun _ _ h => h) (SqL.of (e1 _ _ hu)) (by simp; omega) ?_ ?_
      · rintro i x hx acc H2 Cy Cn e2 ⟨bs, rfl, hbs⟩ cy _
        obtain ⟨n, hn, rfl⟩ := intsAt hx
        have nb := zb n (List.mem_of_getElem? hn)
        refine ⟨rfl, tYesE ⟨.int n, rfl, .int n, rfl, .int n, fun H3 e3 => ⟨_, rfl, ?_⟩⟩⟩
        rw [show isNatV (.int n) = true from decide_eq_true (by omega)]
        refine iteT ⟨.int n, rfl, _, _, rfl, rfl, ?_⟩
        show Cy (.bl (decide (0 < n))) H3
        rw [show decide (0 < n) = true from decide_eq_true (by omega)]
        exact cy _ _ e3 ⟨bs ++ [true], by simp, by simpa using hbs⟩
      rintro acc H2 e2 hD ⟨bs, rfl, hbs⟩ _
      refine ⟨D, bs, rfl, SqL.of hD, _, rfl, ?_⟩
      rw [List.all_eq_true.mpr (fun b hb => by rw [hbs b hb]; rfl)]
      refine iteF ?_
      have e12 := e1.trans e2
      -- the checks of the states
      refine ⟨.ref a, rfl, .ref a, rfl, .inl ⟨⟨a, _, rfl, .inl (e12 _ _ ha)⟩, fun H3 e3 => ⟨_, rfl, iteF ?_⟩⟩⟩
      have e13 := e12.trans e3
      refine ⟨.ref a, rfl, _, ss.length, rfl, .inl ⟨_, SqL.of (e13 _ _ ha), rfl⟩, rfl, _, rfl, ifE (fun c => ?_) (fun _ => ?_)⟩
      · have := eqI c; omega
      refine ⟨fun σ H' => ∃ v3 v4, σ = [some (.ref p), some (.ref ua), some (.ref a), v3, v4, none] ∧ Ex H H', ?_, ?_⟩
      · refine ⟨.ref a, rfl, a, ss, rfl, SqL.of (e13 _ _ ha), forE (K := K) (a := a) (xs := ss) (fun i σ H' => ∃ v3 v4, σ = [some (.ref p), some (.ref ua), some (.ref a), v3, v4, none] ∧ Ex H H') ?_ ?_ ?_ ?_⟩
        · exact ⟨none, none, rfl, e13⟩
        · rintro i σ H' _ ⟨_, _, _, e⟩
          exact SqL.of (e _ _ ha)
        · rintro i x T' σ H4 hx ⟨v3, v4, rfl, e4⟩ nT
          obtain ⟨row, hrow, hxr⟩ := pairedGet rS hx
          have e5 := e4.trans (Ex.new (o := .tup [.int (i : Int), x]) nT)
          refine ⟨T', [.int (i : Int), x], rfl, SqT.of upd_same, rfl, .int (i : Int), [x], rfl, x, [], rfl, rfl, ?_⟩
          refine ⟨.ref ua, rfl, x, rfl, .ref ua, x, sz, row, rfl, .inl ⟨ua, rfl, e5 _ _ hu⟩, hxr.up e5, hrs row (List.mem_of_getElem? hrow), by omega, fun H6 e6 => ⟨_, rfl, iteF ⟨_, _, rfl, e5.trans e6⟩⟩⟩
        · rintro σ H4 ⟨v3, v4, rfl, e4⟩
          exact ⟨v3, v4, rfl, e4⟩
      rintro σ H4 ⟨v3, v4, rfl, e4⟩
      -- self.key_count = len(sizes)
      refine ⟨.ref ua, rfl, _, sz.length, rfl, .inl ⟨_, SqL.of (e4 _ _ hu), by rw [List.length_map]⟩, .ref p, rfl, p, C, dx, [], rfl, e4 _ _ hp, T.cl, T.nC, by show 0 < 1000; decide, ?_⟩
      obtain ⟨H5, e5, hp5, q5⟩ : ∃ H5, ExB p H4 H5 ∧ H5 p = some (.ins C dx (putF "key_count" (.int (sz.length : Int)) [])) ∧ upd H4 p (.ins C dx (putF "key_count" (.int (sz.length : Int)) [])) = H5 := ⟨_, .mut _, upd_same, rfl⟩
      rw [q5]
      have e05 : ExB p H H5 := (ExB.of e4).trans e5
      have nua : ua ≠ p := ne_of hu hp (by intro z; cases z)
      have na : a ≠ p := ne_of ha hp (by intro z; cases z)
      -- self.sizes = tuple(sizes)
      refine ⟨.ref ua, rfl, ua, _, rfl, .inl ⟨SqL.of (e05 _ _ nua hu), fun za nza => ⟨.ref p, rfl, p, C, dx, _, rfl, Ex.new nza _ _ hp5, T.cl, T.nZ, Nat.lt_of_le_of_lt (length_putF _ _ _) (by decide), ?_⟩⟩⟩
      have nzp : za ≠ p := fun z => by subst z; rw [nza] at hp5; cases hp5
      obtain ⟨H6, e6, hp6, hza6, q6⟩ : ∃ H6, ExB p H5 H6 ∧ H6 p = some (.ins C dx (putF "sizes" (.ref za) (putF "key_count" (.int (sz.length : Int)) []))) ∧ H6 za = some (.tup (sz.map V.int)) ∧ upd (upd H5 za (.tup (sz.map V.int))) p (.ins C dx (putF "sizes" (.ref za) (putF "key_count" (.int (sz.length : Int)) []))) = H6 :=
        ⟨_, (ExB.of (Ex.new nza)).trans (.mut _), upd_same, by rw [upd_ne nzp, upd_same], rfl⟩
      rw [q6]
      have e06 := e05.trans e6
      have hza' := hza6
      -- self.states = tuple(sorted(set([tuple(state) for state in states])))
      have ha6 := e06 _ _ na ha
      have rS6 := e06.rows hp rS
      refine ⟨.ref a, rfl, a, rfl, ⟨_, SqL.of ha6⟩, fun D nD => ?_⟩
      refine lcL (xs := ss) (fun i acc _ => acc = ss.take i) nD (fun _ _ _ _ _ _ _ _ _ h => h) rfl (fun _ _ h => h) (SqL.of ha6) (by omega) ?_ ?_
      · rintro i x hx acc H7 Cy Cn e7 rac cy _
        obtain ⟨row, hrow, hxr⟩ := pairedGet rS6 hx
        obtain ⟨xa, rfl, hxa⟩ := hxr.up e7
        refine ⟨rfl, tYesE ⟨.ref xa, rfl, xa, _, rfl, .inr ⟨SqT.of hxa, cy _ _ (Ex.refl _) ?_⟩⟩⟩
        show acc ++ [_] = _
        rw [rac, take_snoc hx]
      rintro acc H7 e7 hD rac _
      rw [List.take_length] at rac
      subst rac
      obtain ⟨ks, hk1, hk2, hk3⟩ := rowsKs (rS6.up e7)
      subst hk1 hk2
      refine ⟨D, ks, rfl, SqL.of hD, fun p hp => SqT.of (hk3 p hp), by simpa using r64, fun S L nS hL1 hL2 => ?_⟩
      have e8 := e7.trans (Ex.new (o := SetTO P w S L) nS)
      have hk8 : ∀ p ∈ ks, (upd H7 S (SetTO P w S L)) p.1 = some (.tup (p.2.map V.int)) := fun p hp => Ex.new nS _ _ (hk3 p hp)
      have hbd : ∀ p ∈ ks, p.2.length = sz.length ∧ TS.Bd 4 p.2 := fun p hp => by
        have h := hrs p.2 (List.mem_map_of_mem hp)
        refine ⟨h.len, fun x hx => ?_⟩
        obtain ⟨i, hi⟩ := List.getElem?_of_mem hx
        have hl : i < sz.length := by have := (List.getElem?_eq_some_iff.mp hi).1; rw [h.len] at this; exact this
        have h1 := h.each i x sz[i] hi (List.getElem?_eq_getElem hl)
        have h2 := zb sz[i] (List.getElem_mem hl)
        omega
      refine ⟨S, L, sz.length, 4, rfl, upd_same, fun p hp => SqT.of (hk8 p (hL1 p hp)), zpos, fun p hp => hbd p (hL1 p hp), fun L' l pm nd l64 pw nl => ?_⟩
      have e9 := e8.trans (Ex.new (o := .lst (L'.map fun q => V.ref q.1)) nl)
      have hl9 := upd_same (H := upd H7 S (SetTO P w S L)) (a := l) (o := .lst (L'.map fun q => V.ref q.1))
      have hk9 : ∀ p ∈ ks, (upd (upd H7 S (SetTO P w S L)) l (.lst (L'.map fun q => V.ref q.1))) p.1 = some (.tup (p.2.map V.int)) := fun p hp => Ex.new nl _ _ (hk8 p hp)
      generalize upd (upd H7 S (SetTO P w S L)) l (.lst (L'.map fun q => V.ref q.1)) = H9 at *
      refine ⟨l, _, rfl, .inl ⟨SqL.of hl9, fun sa nsa => ⟨.ref p, rfl, p, C, dx, _, rfl, Ex.new nsa _ _ (e9 _ _ hp6), T.cl, T.nS, Nat.lt_of_le_of_lt (length_putF _ _ _) (Nat.lt_of_le_of_lt (Nat.succ_le_succ (length_putF _ _ _)) (by decide)), ?_⟩⟩⟩
      have hp9 := e9 _ _ hp6
      have nsp : sa ≠ p := fun z => by subst z; rw [nsa] at hp9; cases hp9
      obtain ⟨F3, hF3⟩ : ∃ F3, F3 = putF "states" (.ref sa) (putF "sizes" (.ref za) (putF "key_count" (.int (sz.length : Int)) [])) := ⟨_, rfl⟩
      rw [← hF3]
      have lF3 : F3.length ≤ 3 := by
        rw [hF3]
        exact Nat.le_trans (length_putF _ _ _) (Nat.succ_le_succ (Nat.le_trans (length_putF _ _ _) (Nat.succ_le_succ (length_putF _ _ _))))
      obtain ⟨H10, e10, hp10, hsa10, q10⟩ : ∃ H10, ExB p H9 H10 ∧ H10 p = some (.ins C dx F3) ∧ H10 sa = some (.tup (L'.map fun q => V.ref q.1)) ∧ upd (upd H9 sa (.tup (L'.map fun q => V.ref q.1))) p (.ins C dx F3) = H10 :=
        ⟨_, (ExB.of (Ex.new nsa)).trans (.mut _), upd_same, by rw [upd_ne nsp, upd_same], rfl⟩
      rw [q10]
      have e010 := e06.trans ((ExB.of e9).trans e10)
      have hkp : ∀ q ∈ ks, q.1 ≠ p := fun q hq => ne_of (hk9 q hq) hp9 (by intro z; cases z)
      have hk10 : ∀ q ∈ L', H10 q.1 = some (.tup (q.2.map V.int)) := fun q hq => by
        have hm := hL1 q (pm.mem_iff.mp hq)
        exact e10 _ _ (hkp q hm) (hk9 q hm)
      obtain ⟨zs, hzs⟩ : ∃ zs, zs = L'.map (·.2) := ⟨_, rfl⟩
      have rz10 : RowsOf H10 (L'.map fun q => V.ref q.1) zs := by rw [hzs]; exact ksRows hk10
      have hza10 : H10 za = some (.tup (sz.map V.int)) := e10 _ _ nzp (e9 _ _ hza')
      have zl : (L'.map fun q => V.ref q.1).length = zs.length := by rw [hzs]; simp
      have z64 : zs.length < 64 := by rw [hzs]; simpa using l64
      have lst : F3.lookup ("states" : Str) = some (.ref sa) := by rw [hF3, lookup_putF, if_pos rfl]
      have asc : Asc zs := by rw [hzs]; exact List.pairwise_map.mpr pw
      have ndz : zs.Nodup := by rw [hzs]; exact nd
      have memz : ∀ r, r ∈ zs ↔ r ∈ ks.map (·.2) := fun r => by
        rw [hzs]
        constructor
        · intro h
          obtain ⟨q, hq, e⟩ := List.mem_map.mp h
          exact List.mem_map.mpr ⟨q, hL1 q (pm.mem_iff.mp hq), e⟩
        · intro h
          obtain ⟨q, hq, e⟩ := List.mem_map.mp h
          have := hL2 q hq
          rw [e] at this
          obtain ⟨q', hq', e'⟩ := List.mem_map.mp this
          exact List.mem_map.mpr ⟨q', pm.mem_iff.mpr hq', e'⟩
      clear hL1 hL2 pm nd pw l64 hk3 hk8 hk9 hk10
      generalize (L'.map fun q => V.ref q.1) = vs at *
      -- self._index = {state: at for at, state in enumerate(self.states)}
      refine ⟨.ref p, rfl, p, C, dx, _, _, rfl, hp10, T.cl, T.nS, lst, sa, vs, rfl, SqT.of hsa10, fun ix nix => ?_⟩
      refine dcJ (n := vs.length) (fun i H' => ExB ix H10 H' ∧ ∃ kvs, H' ix = some (.dT kvs) ∧ kvs.length ≤ i ∧ (∀ r ∈ zs.take i, ∃ k : Int, valV kvs (keyR r) = some (.int k)) ∧ ∀ r, r ∉ zs.take i → valV kvs (keyR r) = none) ?_ ?_ ?_ ?_ ?_
      · exact ⟨ExB.mut _, [], upd_same, Nat.le_refl _, by simp, fun _ _ => rfl⟩
      · rintro i H' hi ⟨e, _⟩
        exact iteGo (SqT.of (e _ _ (fun z => by subst z; rw [nix] at hsa10; cases hsa10) hsa10)) hi
      · rintro H' ⟨e, _⟩
        exact ⟨vs, SqT.of (e _ _ (fun z => by subst z; rw [nix] at hsa10; cases hsa10) hsa10), rfl⟩
      · rintro i H' hi ⟨e, kvs, hix, hkl, hin, hout⟩ v H'' ⟨Tt, x, rfl, nT, rfl, hx⟩
        have hsa' := e _ _ (fun z => by subst z; rw [nix] at hsa10; cases hsa10) hsa10
        have hx := hx _ (SqT.of hsa')
        obtain ⟨r, hr2, hxr⟩ := pairedGet rz10 hx
        obtain ⟨xa, rfl, hxa⟩ := hxr.key
        have nxi : xa ≠ ix := fun z => by subst z; rw [nix] at hxa; cases hxa
        have f := Ex.new (o := .tup [.int (i : Int), .ref xa]) nT
        refine ⟨Tt, [.int (i : Int), .ref xa], rfl, SqT.of upd_same, rfl, .int (i : Int), [.ref xa], rfl, .ref xa, [], rfl, rfl, rfl, tYesE ?_⟩
        refine ⟨.ref xa, rfl, .int (i : Int), rfl, kvs, keyR r, xa, rfl, f _ _ (e _ _ nxi hxa), f _ _ hix, Nat.lt_of_lt_of_le (by omega : kvs.length < 64) (by decide), (e.trans (ExB.of f)).trans (.mut _), _, upd_same, by have := length_putK kvs (keyR r) (.int (i : Int)); omega, fun r' hr' => ?_, fun r' hr' => ?_⟩
        · rw [valV_put]
          by_cases c : keyR r' = keyR r
          · rw [if_pos c]; exact ⟨_, rfl⟩
          · rw [if_neg c]
            rw [take_snoc hr2] at hr'
            rcases List.mem_append.mp hr' with h | h
            · exact hin r' h
            · rw [List.mem_singleton.mp h] at c; exact absurd rfl c
        · rw [take_snoc hr2] at hr'
          rw [valV_put, if_neg (fun c => hr' (by rw [keyR_inj c]; simp))]
          exact hout r' (fun h => hr' (List.mem_append_left _ h))
      · rintro H11 ⟨e11, kvs, hix, hkl, hin, hout⟩
        rw [zl, List.take_length] at hin hout
        have npi : p ≠ ix := fun z => by subst z; rw [nix] at hp10; cases hp10
        have hp11 := e11 _ _ npi hp10
        refine ⟨.ref p, rfl, p, C, dx, _, rfl, hp11, T.cl, T.nI, by omega, ?_⟩
        obtain ⟨H12, e12, hp12, q12⟩ : ∃ H12, ExB p H11 H12 ∧ H12 p = some (.ins C dx (putF "_index" (.ref ix) F3)) ∧ upd H11 p (.ins C dx (putF "_index" (.ref ix) F3)) = H12 := ⟨_, .mut _, upd_same, rfl⟩
        rw [q12]
        have lF4 := length_putF "_index" (.ref ix) F3
        -- self._found = {}
        refine fun fd nfd => ⟨.ref p, rfl, p, C, dx, _, rfl, Ex.new nfd _ _ hp12, T.cl, T.nF, by omega, ?_⟩
        have nfp : fd ≠ p := fun z => by subst z; rw [nfd] at hp12; cases hp12
        have e14 : ExB p H12 (upd (upd H12 fd (.dK [])) p (.ins C dx (putF "_found" (.ref fd) (putF "_index" (.ref ix) F3)))) := (ExB.of (Ex.new nfd)).trans (.mut _)
        have nsai : sa ≠ ix := fun z => by subst z; rw [nix] at hsa10; cases hsa10
        have nzai : za ≠ ix := fun z => by subst z; rw [nix] at hza10; cases hza10
        have eall : ∀ b o, b ≠ p → b ≠ ix → H10 b = some o → (upd (upd H12 fd (.dK [])) p (.ins C dx (putF "_found" (.ref fd) (putF "_index" (.ref ix) F3)))) b = some o := fun b o h1 h2 h => e14 _ _ h1 (e12 _ _ h1 (e11 _ _ h2 h))
        have key : ∀ b o, b ≠ p → H b = some o → (upd (upd H12 fd (.dK [])) p (.ins C dx (putF "_found" (.ref fd) (putF "_index" (.ref ix) F3)))) b = some o := fun b o h1 h =>
          have h10 := e010 b o h1 h
          eall b o h1 (fun z => by subst z; rw [nix] at h10; cases h10) h10
        refine q _ zs fd key ?_ (by rw [upd_ne nfp, upd_same]) ⟨dx, za, sa, ix, vs, kvs, by rw [upd_same, hF3]; rfl, eall _ _ nzp nzai hza10, eall _ _ nsp nsai hsa10, ?_, e14 _ _ npi.symm (e12 _ _ npi.symm hix), hin, hout⟩ asc ndz memz
        · cases hh : H fd with
          | none => rfl
          | some o =>
            have h10 := e010 fd o nfp hh
            have h12 : H12 fd = some o := e12 _ _ nfp (e11 _ _ (fun z => by subst z; rw [nix] at h10; cases h10) h10)
            rw [nfd] at h12
            cases h12
        · refine Paired.mapP rz10 fun x r ⟨xa, h1, h2⟩ => ⟨xa, h1, eall _ _ (ne_of h2 hp10 (by intro z; cases z)) (fun z => by subst z; rw [nix] at h2; cases h2) h2⟩
    · refine ⟨_, (pss_cons (ps_if (PW.pt (pw_or (pt_not (pt_val (pe_call G_isSequence (hr.mono (by decide)) (by rfl) D_isSequence.g D_isSequence.F.kp D_isSequence.b .nil pass0 (pa_cons (pv 1) pa_nil)))) (pw_or (pt_cmpR op_eq (pe_callB (lenk (K := K)) (by rfl) B.len bt_len (pa_cons (pv 1) pa_nil)) pe_int (nomark _)) (pw_or1 (pt_not (pt_val (pe_callB (allk rfl (K := K)) (by rfl) B.all bt_all (pa_cons (lck (own := [("size", 5)]) rfl sc_StoreInit.nd (show blkC N_StoreInit (defScope s_StoreInit) _ _ = true by decide +kernel) (piTk (K := K) (pv 1)) (fun _ _ _ _ _ => (pg_name (i := 5) sc_StoreInit.nd rfl (Or.inl rfl))) (fun _ _ _ _ _ => pts_nil) (fun _ _ _ _ _ => (pe_and (pe_call G_isNumber (hr.mono (by decide)) (by rfl) D_isNumber.g D_isNumber.F.kp D_isNumber.b .nil pass0 (pa_cons (pv 5) pa_nil)) (pe_one (pe_cmpR op_gt (pv 5) pe_int (nomark _)))))) pa_nil))))))))
    (pss_one ps_never)
    pss_nil)
  (pss_cons (ps_if (PW.pt (pw_or (pt_not (pt_val (pe_call G_isSequence (hr.mono (by decide)) (by rfl) D_isSequence.g D_isSequence.F.kp D_isSequence.b .nil pass0 (pa_cons (pv 2) pa_nil)))) (pw_or1 (pt_cmpR op_eq (pe_callB (lenk (K := K)) (by rfl) B.len bt_len (pa_cons (pv 2) pa_nil)) pe_int (nomark _)))))
    (pss_one ps_never)
    pss_nil)
  (pss_cut (ps_for PassesOwn.never  rfl (enumk (K := K) (by rfl) B.enumerate (pa_cons (pv 2) pa_nil)) (pgTk (K := K) (n := 2) rfl (pgs_cons (pg_name (i := 3) sc_StoreInit.nd rfl (Or.inl rfl)) (pgs_cons (pg_name (i := 4) sc_StoreInit.nd rfl (Or.inl rfl)) pgs_nil)))
    (pss_one (ps_if (pt_not (pt_val (pe_call G_isStateOf (hr.mono (by decide)) (by rfl) D_isStateOf.g D_isStateOf.F.kp D_isStateOf.b .nil pass0 (pa_cons (pv 1) (pa_cons (pv 4) pa_nil)))))
    (pss_one ps_never)
    pss_nil)))
  (pss_cons (ps_fld (pv 0) (pe_callB (lenk (K := K)) (by rfl) B.len bt_len (pa_cons (pv 1) pa_nil)) rfl)
  (pss_cons (ps_fld (pv 0) (pe_callTy (tupOfk (K := K)) (by rfl) B.tuple bt_tuple (pa_cons (pv 1) pa_nil)) rfl)
  (pss_cons (ps_fld (pv 0) (pe_callTy (tupOfk (K := K)) (by rfl) B.tuple bt_tuple (pa_cons (pe_callB (sortedTk (K := K) (P := P) (w := w) rfl) (by rfl) B.sorted bt_sorted (pa_cons (pe_callTy (setOfTk (K := K) (P := P) (w := w) rfl hr.units) (by rfl) B.set bt_set (pa_cons (lck (own := [("state", 4)]) rfl sc_StoreInit.nd (show blkC N_StoreInit (defScope s_StoreInit) _ _ = true by decide +kernel) (piLk (K := K) (pv 2)) (fun _ _ _ _ _ => (pg_name (i := 4) sc_StoreInit.nd rfl (Or.inl rfl))) (fun _ _ _ _ _ => pts_nil) (fun _ _ _ _ _ => (pe_callTy (tupOfk (K := K)) (by rfl) B.tuple bt_tuple (pa_cons (pv 4) pa_nil)))) pa_nil)) pa_nil)) pa_nil)) rfl)
  (pss_cons (ps_fld (pv 0) (pe_dcT (own := [("at", 3), ("state", 4)]) rfl hu1 sc_StoreInit.nd (enumTk (K := K) (by rfl) B.enumerate (pa_cons (fldk (K := K) (pv 0)) pa_nil)) (blkOk_by (show blkC N_StoreInit (defScope s_StoreInit) _ _ = true by decide +kernel)) (fun _ _ _ _ _ => (pgTk (K := K) (n := 2) rfl (pgs_cons (pg_name (i := 3) sc_StoreInit.nd rfl (Or.inl rfl)) (pgs_cons (pg_name (i := 4) sc_StoreInit.nd rfl (Or.inl rfl)) pgs_nil)))) (fun _ _ _ _ _ => pts_nil) (fun _ _ _ _ _ => (pv 4)) (fun _ _ _ _ _ => (pv 3))) rfl)
  (pss_one (ps_fld (pv 0) pe_dnewK rfl))))))))), ?_⟩
      -- the checks of the sizes
      refine ⟨.ref ua, rfl, .ref ua, rfl, .inl ⟨⟨ua, _, rfl, .inr hu⟩, fun H1 e1 => ⟨_, rfl, iteF ?_⟩⟩⟩
      refine ⟨.ref ua, rfl, _, sz.length, rfl, .inr ⟨_, SqT.of (e1 _ _ hu), by rw [List.length_map]⟩, rfl, _, rfl, ifE (fun c => ?_) (fun _ => ?_)⟩
      · have := eqI c; omega
      refine ⟨.ref ua, rfl, ua, rfl, ⟨_, SqT.of (e1 _ _ hu)⟩, fun D nD => ?_⟩
      refine lcT (xs := sz.map V.int) (fun i acc _ => ∃ bs : List Bool, acc = bs.map V.bl ∧ ∀ b ∈ bs, b = true) nD (fun _ _ _ _ _ _ _ _ _ h => h) ⟨[], rfl, by simp⟩ (fun _ _ h => h) (SqT.of (e1 _ _ hu)) (by simp; omega) ?_ ?_
      · rintro i x hx acc H2 Cy Cn e2 ⟨bs, rfl, hbs⟩ cy _
        obtain ⟨n, hn, rfl⟩ := intsAt hx
        have nb := zb n (List.mem_of_getElem? hn)
        refine ⟨rfl, tYesE ⟨.int n, rfl, .int n, rfl, .int n, fun H3 e3 => ⟨_, rfl, ?_⟩⟩⟩
        rw [show isNatV (.int n) = true from decide_eq_true (by omega)]
        refine iteT ⟨.int n, rfl, _, _, rfl, rfl, ?_⟩
        show Cy (.bl (decide (0 < n))) H3
        rw [show decide (0 < n) = true from decide_eq_true (by omega)]
        exact cy _ _ e3 ⟨bs ++ [true], by simp, by simpa using hbs⟩
      rintro acc H2 e2 hD ⟨bs, rfl, hbs⟩ _
      refine ⟨D, bs, rfl, SqL.of hD, _, rfl, ?_⟩
      rw [List.all_eq_true.mpr (fun b hb => by rw [hbs b hb]; rfl)]
      refine iteF ?_
      have e12 := e1.trans e2
      -- the checks of the states
      refine ⟨.ref a, rfl, .ref a, rfl, .inl ⟨⟨a, _, rfl, .inl (e12 _ _ ha)⟩, fun H3 e3 => ⟨_, rfl, iteF ?_⟩⟩⟩
      have e13 := e12.trans e3
      refine ⟨.ref a, rfl, _, ss.length, rfl, .inl ⟨_, SqL.of (e13 _ _ ha), rfl⟩, rfl, _, rfl, ifE (fun c => ?_) (fun _ => ?_)⟩
      · have := eqI c; omega
      refine ⟨fun σ H' => ∃ v3 v4, σ = [some (.ref p), some (.ref ua), some (.ref a), v3, v4, none] ∧ Ex H H', ?_, ?_⟩
      · refine ⟨.ref a, rfl, a, ss, rfl, SqL.of (e13 _ _ ha), forE (K := K) (a := a) (xs := ss) (fun i σ H' => ∃ v3 v4, σ = [some (.ref p), some (.ref ua), some (.ref a), v3, v4, none] ∧ Ex H H') ?_ ?_ ?_ ?_⟩
        · exact ⟨none, none, rfl, e13⟩
        · rintro i σ H' _ ⟨_, _, _, e⟩
          exact SqL.of (e _ _ ha)
        · rintro i x T' σ H4 hx ⟨v3, v4, rfl, e4⟩ nT
          obtain ⟨row, hrow, hxr⟩ := pairedGet rS hx
          have e5 := e4.trans (Ex.new (o := .tup [.int (i : Int), x]) nT)
          refine ⟨T', [.int (i : Int), x], rfl, SqT.of upd_same, rfl, .int (i : Int), [x], rfl, x, [], rfl, rfl, ?_⟩
          refine ⟨.ref ua, rfl, x, rfl, .ref ua, x, sz, row, rfl, .inr ⟨ua, rfl, e5 _ _ hu⟩, hxr.up e5, hrs row (List.mem_of_getElem? hrow), by omega, fun H6 e6 => ⟨_, rfl, iteF ⟨_, _, rfl, e5.trans e6⟩⟩⟩
        · rintro σ H4 ⟨v3, v4, rfl, e4⟩
          exact ⟨v3, v4, rfl, e4⟩
      rintro σ H4 ⟨v3, v4, rfl, e4⟩
      -- self.key_count = len(sizes)
      refine ⟨.ref ua, rfl, _, sz.length, rfl, .inr ⟨_, SqT.of (e4 _ _ hu), by rw [List.length_map]⟩, .ref p, rfl, p, C, dx, [], rfl, e4 _ _ hp, T.cl, T.nC, by show 0 < 1000; decide, ?_⟩
      obtain ⟨H5, e5, hp5, q5⟩ : ∃ H5, ExB p H4 H5 ∧ H5 p = some (.ins C dx (putF "key_count" (.int (sz.length : Int)) [])) ∧ upd H4 p (.ins C dx (putF "key_count" (.int (sz.length : Int)) [])) = H5 := ⟨_, .mut _, upd_same, rfl⟩
      rw [q5]
      have e05 : ExB p H H5 := (ExB.of e4).trans e5
      have nua : ua ≠ p := ne_of hu hp (by intro z; cases z)
      have na : a ≠ p := ne_of ha hp (by intro z; cases z)
      -- self.sizes = tuple(sizes)
      refine ⟨.ref ua, rfl, ua, _, rfl, .inr ⟨SqT.of (e05 _ _ nua hu), .ref p, rfl, p, C, dx, _, rfl, hp5, T.cl, T.nZ, Nat.lt_of_le_of_lt (length_putF _ _ _) (by decide), ?_⟩⟩
      obtain ⟨za, eza⟩ : ∃ z, z = ua := ⟨_, rfl⟩
      have nzp : za ≠ p := by rw [eza]; exact nua
      rw [← eza]
      obtain ⟨H6, e6, hp6, hza6, q6⟩ : ∃ H6, ExB p H5 H6 ∧ H6 p = some (.ins C dx (putF "sizes" (.ref za) (putF "key_count" (.int (sz.length : Int)) []))) ∧ H6 za = some (.tup (sz.map V.int)) ∧ upd H5 p (.ins C dx (putF "sizes" (.ref za) (putF "key_count" (.int (sz.length : Int)) []))) = H6 :=
        ⟨_, .mut _, upd_same, by rw [upd_ne nzp, eza]; exact e05 _ _ nua hu, rfl⟩
      rw [q6]
      have e06 := e05.trans e6
      have hza' := hza6
      -- self.states = tuple(sorted(set([tuple(state) for state in states])))
      have ha6 := e06 _ _ na ha
      have rS6 := e06.rows hp rS
      refine ⟨.ref a, rfl, a, rfl, ⟨_, SqL.of ha6⟩, fun D nD => ?_⟩
      refine lcL (xs := ss) (fun i acc _ => acc = ss.take i) nD (fun _ _ _ _ _ _ _ _ _ h => h) rfl (fun _ _ h => h) (SqL.of ha6) (by omega) ?_ ?_
      · rintro i x hx acc H7 Cy Cn e7 rac cy _
        obtain ⟨row, hrow, hxr⟩ := pairedGet rS6 hx
        obtain ⟨xa, rfl, hxa⟩ := hxr.up e7
        refine ⟨rfl, tYesE ⟨.ref xa, rfl, xa, _, rfl, .inr ⟨SqT.of hxa, cy _ _ (Ex.refl _) ?_⟩⟩⟩
        show acc ++ [_] = _
        rw [rac, take_snoc hx]
      rintro acc H7 e7 hD rac _
      rw [List.take_length] at rac
      subst rac
      obtain ⟨ks, hk1, hk2, hk3⟩ := rowsKs (rS6.up e7)
      subst hk1 hk2
      refine ⟨D, ks, rfl, SqL.of hD, fun p hp => SqT.of (hk3 p hp), by simpa using r64, fun S L nS hL1 hL2 => ?_⟩
      have e8 := e7.trans (Ex.new (o := SetTO P w S L) nS)
      have hk8 : ∀ p ∈ ks, (upd H7 S (SetTO P w S L)) p.1 = some (.tup (p.2.map V.int)) := fun p hp => Ex.new nS _ _ (hk3 p hp)
      have hbd : ∀ p ∈ ks, p.2.length = sz.length ∧ TS.Bd 4 p.2 := fun p hp => by
        have h := hrs p.2 (List.mem_map_of_mem hp)
        refine ⟨h.len, fun x hx => ?_⟩
        obtain ⟨i, hi⟩ := List.getElem?_of_mem hx
        have hl : i < sz.length := by have := (List.getElem?_eq_some_iff.mp hi).1; rw [h.len] at this; exact this
        have h1 := h.each i x sz[i] hi (List.getElem?_eq_getElem hl)
        have h2 := zb sz[i] (List.getElem_mem hl)
        omega
      refine ⟨S, L, sz.length, 4, rfl, upd_same, fun p hp => SqT.of (hk8 p (hL1 p hp)), zpos, fun p hp => hbd p (hL1 p hp), fun L' l pm nd l64 pw nl => ?_⟩
      have e9 := e8.trans (Ex.new (o := .lst (L'.map fun q => V.ref q.1)) nl)
      have hl9 := upd_same (H := upd H7 S (SetTO P w S L)) (a := l) (o := .lst (L'.map fun q => V.ref q.1))
      have hk9 : ∀ p ∈ ks, (upd (upd H7 S (SetTO P w S L)) l (.lst (L'.map fun q => V.ref q.1))) p.1 = some (.tup (p.2.map V.int)) := fun p hp => Ex.new nl _ _ (hk8 p hp)
      generalize upd (upd H7 S (SetTO P w S L)) l (.lst (L'.map fun q => V.ref q.1)) = H9 at *
      refine ⟨l, _, rfl, .inl ⟨SqL.of hl9, fun sa nsa => ⟨.ref p, rfl, p, C, dx, _, rfl, Ex.new nsa _ _ (e9 _ _ hp6), T.cl, T.nS, Nat.lt_of_le_of_lt (length_putF _ _ _) (Nat.lt_of_le_of_lt (Nat.succ_le_succ (length_putF _ _ _)) (by decide)), ?_⟩⟩⟩
      have hp9 := e9 _ _ hp6
      have nsp : sa ≠ p := fun z => by subst z; rw [nsa] at hp9; cases hp9
      obtain ⟨F3, hF3⟩ : ∃ F3, F3 = putF "states" (.ref sa) (putF "sizes" (.ref za) (putF "key_count" (.int (sz.length : Int)) [])) := ⟨_, rfl⟩
      rw [← hF3]
      have lF3 : F3.length ≤ 3 := by
        rw [hF3]
        exact Nat.le_trans (length_putF _ _ _) (Nat.succ_le_succ (Nat.le_trans (length_putF _ _ _) (Nat.succ_le_succ (length_putF _ _ _))))
      obtain ⟨H10, e10, hp10, hsa10, q10⟩ : ∃ H10, ExB p H9 H10 ∧ H10 p = some (.ins C dx F3) ∧ H10 sa = some (.tup (L'.map fun q => V.ref q.1)) ∧ upd (upd H9 sa (.tup (L'.map fun q => V.ref q.1))) p (.ins C dx F3) = H10 :=
        ⟨_, (ExB.of (Ex.new nsa)).trans (.mut _), upd_same, by rw [upd_ne nsp, upd_same], rfl⟩
      rw [q10]
      have e010 := e06.trans ((ExB.of e9).trans e10)
      have hkp : ∀ q ∈ ks, q.1 ≠ p := fun q hq => ne_of (hk9 q hq) hp9 (by intro z; cases z)
      have hk10 : ∀ q ∈ L', H10 q.1 = some (.tup (q.2.map V.int)) := fun q hq => by
        have hm := hL1 q (pm.mem_iff.mp hq)
        exact e10 _ _ (hkp q hm) (hk9 q hm)
      obtain ⟨zs, hzs⟩ : ∃ zs, zs = L'.map (·.2) := ⟨_, rfl⟩
      have rz10 : RowsOf H10 (L'.map fun q => V.ref q.1) zs := by rw [hzs]; exact ksRows hk10
      have hza10 : H10 za = some (.tup (sz.map V.int)) := e10 _ _ nzp (e9 _ _ hza')
      have zl : (L'.map fun q => V.ref q.1).length = zs.length := by rw [hzs]; simp
      have z64 : zs.length < 64 := by rw [hzs]; simpa using l64
      have lst : F3.lookup ("states" : Str) = some (.ref sa) := by rw [hF3, lookup_putF, if_pos rfl]
      have asc : Asc zs := by rw [hzs]; exact List.pairwise_map.mpr pw
      have ndz : zs.Nodup := by rw [hzs]; exact nd
      have memz : ∀ r, r ∈ zs ↔ r ∈ ks.map (·.2) := fun r => by
        rw [hzs]
        constructor
        · intro h
          obtain ⟨q, hq, e⟩ := List.mem_map.mp h
          exact List.mem_map.mpr ⟨q, hL1 q (pm.mem_iff.mp hq), e⟩
        · intro h
          obtain ⟨q, hq, e⟩ := List.mem_map.mp h
          have := hL2 q hq
          rw [e] at this
          obtain ⟨q', hq', e'⟩ := List.mem_map.mp this
          exact List.mem_map.mpr ⟨q', pm.mem_iff.mpr hq', e'⟩
      clear hL1 hL2 pm nd pw l64 hk3 hk8 hk9 hk10
      generalize (L'.map fun q => V.ref q.1) = vs at *
      -- self._index = {state: at for at, state in enumerate(self.states)}
      refine ⟨.ref p, rfl, p, C, dx, _, _, rfl, hp10, T.cl, T.nS, lst, sa, vs, rfl, SqT.of hsa10, fun ix nix => ?_⟩
      refine dcJ (n := vs.length) (fun i H' => ExB ix H10 H' ∧ ∃ kvs, H' ix = some (.dT kvs) ∧ kvs.length ≤ i ∧ (∀ r ∈ zs.take i, ∃ k : Int, valV kvs (keyR r) = some (.int k)) ∧ ∀ r, r ∉ zs.take i → valV kvs (keyR r) = none) ?_ ?_ ?_ ?_ ?_
      · exact ⟨ExB.mut _, [], upd_same, Nat.le_refl _, by simp, fun _ _ => rfl⟩
      · rintro i H' hi ⟨e, _⟩
        exact iteGo (SqT.of (e _ _ (fun z => by subst z; rw [nix] at hsa10; cases hsa10) hsa10)) hi
      · rintro H' ⟨e, _⟩
        exact ⟨vs, SqT.of (e _ _ (fun z => by subst z; rw [nix] at hsa10; cases hsa10) hsa10), rfl⟩
      · rintro i H' hi ⟨e, kvs, hix, hkl, hin, hout⟩ v H'' ⟨Tt, x, rfl, nT, rfl, hx⟩
        have hsa' := e _ _ (fun z => by subst z; rw [nix] at hsa10; cases hsa10) hsa10
        have hx := hx _ (SqT.of hsa')
        obtain ⟨r, hr2, hxr⟩ := pairedGet rz10 hx
        obtain ⟨xa, rfl, hxa⟩ := hxr.key
        have nxi : xa ≠ ix := fun z => by subst z; rw [nix] at hxa; cases hxa
        have f := Ex.new (o := .tup [.int (i : Int), .ref xa]) nT
        refine ⟨Tt, [.int (i : Int), .ref xa], rfl, SqT.of upd_same, rfl, .int (i : Int), [.ref xa], rfl, .ref xa, [], rfl, rfl, rfl, tYesE ?_⟩
        refine ⟨.ref xa, rfl, .int (i : Int), rfl, kvs, keyR r, xa, rfl, f _ _ (e _ _ nxi hxa), f _ _ hix, Nat.lt_of_lt_of_le (by omega : kvs.length < 64) (by decide), (e.trans (ExB.of f)).trans (.mut _), _, upd_same, by have := length_putK kvs (keyR r) (.int (i : Int)); omega, fun r' hr' => ?_, fun r' hr' => ?_⟩
        · rw [valV_put]
          by_cases c : keyR r' = keyR r
          · rw [if_pos c]; exact ⟨_, rfl⟩
          · rw [if_neg c]
            rw [take_snoc hr2] at hr'
            rcases List.mem_append.mp hr' with h | h
            · exact hin r' h
            · rw [List.mem_singleton.mp h] at c; exact absurd rfl c
        · rw [take_snoc hr2] at hr'
          rw [valV_put, if_neg (fun c => hr' (by rw [keyR_inj c]; simp))]
          exact hout r' (fun h => hr' (List.mem_append_left _ h))
      · rintro H11 ⟨e11, kvs, hix, hkl, hin, hout⟩
        rw [zl, List.take_length] at hin hout
        have npi : p ≠ ix := fun z => by subst z; rw [nix] at hp10; cases hp10
        have hp11 := e11 _ _ npi hp10
        refine ⟨.ref p, rfl, p, C, dx, _, rfl, hp11, T.cl, T.nI, by omega, ?_⟩
        obtain ⟨H12, e12, hp12, q12⟩ : ∃ H12, ExB p H11 H12 ∧ H12 p = some (.ins C dx (putF "_index" (.ref ix) F3)) ∧ upd H11 p (.ins C dx (putF "_index" (.ref ix) F3)) = H12 := ⟨_, .mut _, upd_same, rfl⟩
        rw [q12]
        have lF4 := length_putF "_index" (.ref ix) F3
        -- self._found = {}
        refine fun fd nfd => ⟨.ref p, rfl, p, C, dx, _, rfl, Ex.new nfd _ _ hp12, T.cl, T.nF, by omega, ?_⟩
        have nfp : fd ≠ p := fun z => by subst z; rw [nfd] at hp12; cases hp12
        have e14 : ExB p H12 (upd (upd H12 fd (.dK [])) p (.ins C dx (putF "_found" (.ref fd) (putF "_index" (.ref ix) F3)))) := (ExB.of (Ex.new nfd)).trans (.mut _)
        have nsai : sa ≠ ix := fun z => by subst z; rw [nix] at hsa10; cases hsa10
        have nzai : za ≠ ix := fun z => by subst z; rw [nix] at hza10; cases hza10
        have eall : ∀ b o, b ≠ p → b ≠ ix → H10 b = some o → (upd (upd H12 fd (.dK [])) p (.ins C dx (putF "_found" (.ref fd) (putF "_index" (.ref ix) F3)))) b = some o := fun b o h1 h2 h => e14 _ _ h1 (e12 _ _ h1 (e11 _ _ h2 h))
        have key : ∀ b o, b ≠ p → H b = some o → (upd (upd H12 fd (.dK [])) p (.ins C dx (putF "_found" (.ref fd) (putF "_index" (.ref ix) F3)))) b = some o := fun b o h1 h =>
          have h10 := e010 b o h1 h
          eall b o h1 (fun z => by subst z; rw [nix] at h10; cases h10) h10
        refine q _ zs fd key ?_ (by rw [upd_ne nfp, upd_same]) ⟨dx, za, sa, ix, vs, kvs, by rw [upd_same, hF3]; rfl, eall _ _ nzp nzai hza10, eall _ _ nsp nsai hsa10, ?_, e14 _ _ npi.symm (e12 _ _ npi.symm hix), hin, hout⟩ asc ndz memz
        · cases hh : H fd with
          | none => rfl
          | some o =>
            have h10 := e010 fd o nfp hh
            have h12 : H12 fd = some o := e12 _ _ nfp (e11 _ _ (fun z => by subst z; rw [nix] at h10; cases h10) h10)
            rw [nfd] at h12
            cases h12
        · refine Paired.mapP rz10 fun x r ⟨xa, h1, h2⟩ => ⟨xa, h1, eall _ _ (ne_of h2 hp10 (by intro z; cases z)) (fun z => by subst z; rw [nix] at h2; cases h2) h2⟩
end
end Bp

set_option Elab.async false
set_option linter.all false
set_option maxRecDepth 100000
set_option maxHeartbeats 4000000
namespace Bp
open PySem PySem.Spec PyProof.Rows L2 Evl
theorem pastar {X : Cx} {K : PySem.W.Frag} {e : Expr} {es : List Expr} {te : TE} {t : TA} {p : Pos} (he : PE X e te) (hr : PA X es t) (hs : starEach (.Starred e p :: es) X.env = (true, eval e X.env) :: starEach es X.env := by rfl) (h : X.K = K := by rfl) : PA X (.Starred e p :: es) (StX.tStar K te t) := h ▸ StX.pa_star he hr hs
theorem forET {K : PySem.W.Frag} {a : Addr} {xs : List V} {g : TG} {tb : TS} {D : Ends} {σ : L2.St} {H : Hp} (Pv : Nat → L2.St → Hp → Prop) (h0 : Pv 0 σ H) (hl : ∀ i σ H, i ≤ xs.length → Pv i σ H → SqT K H a xs)
    (hs : ∀ (i : Nat) (x : V) (T : Addr) (σ : L2.St) (H : Hp), xs[i]? = some x → Pv i σ H → H T = none → g (.ref T) σ (upd H T (.tup [.int (i : Int), x])) fun σ2 H2 => tb { D with nx := Pv (i + 1), ct := Pv (i + 1), bk := D.nx } σ2 H2) (hd : ∀ σ H, Pv xs.length σ H → D.nx σ H) :
    ∃ W : Nat → Nat → L2.St → Hp → Prop, (∃ m, W 0 m σ H) ∧ ∀ i m σ H, W i m σ H →
      ((IteT K a).stop i H ∧ D.nx σ H) ∨ ((IteT K a).go i H ∧ ∃ N : L2.St → Hp → Prop, (∀ σ' H', N σ' H' → ∃ m', m' < m ∧ W (i + 1) m' σ' H') ∧ ∀ v H', (IteT K a).yld i H v H' → g v σ H' fun σ2 H2 => tb { D with nx := N, ct := N, bk := D.nx } σ2 H2) :=
  forJ (J := IteT K a) (n := xs.length) Pv h0 (fun i σ H hi p => iteGo (hl i σ H (Nat.le_of_lt hi) p) hi) (fun σ H p => ⟨xs, hl _ σ H (Nat.le_refl _) p, rfl⟩)
    (fun i σ H hi p v H' ⟨T, x, e1, nT, e2, hx⟩ => by subst e1 e2; exact hs i x T σ H (hx xs (hl i σ H (Nat.le_of_lt hi) p)) p nT) hd
end Bp

set_option Elab.async false
set_option linter.all false
set_option maxRecDepth 100000
set_option maxHeartbeats 4000000
namespace Bp
open PySem PySem.Spec PyProof.Rows L2 Evl
abbrev s_seenOn : Stmt := topS 17
abbrev N_seenOn : List Str := ["state", "lot", "key"]
theorem sc_seenOn : FnScope N_seenOn ["state", "lot"] (defScope s_seenOn) := ⟨rfl, rfl, rfl, by decide +kernel, rfl, by decide +kernel, by decide +kernel⟩
abbrev s_isKeyPair : Stmt := topS 20
abbrev N_isKeyPair : List Str := ["one", "other", "value"]
theorem sc_isKeyPair : FnScope N_isKeyPair ["one", "other", "value"] (defScope s_isKeyPair) := ⟨rfl, rfl, rfl, by decide +kernel, rfl, by decide +kernel, by decide +kernel⟩
abbrev s_checkedPairs : Stmt := topS 21
abbrev N_checkedPairs : List Str := ["one", "other", "value", "found", "at", "pair", "first", "second"]
theorem sc_checkedPairs : FnScope N_checkedPairs ["one", "other", "value"] (defScope s_checkedPairs) := ⟨rfl, rfl, rfl, by decide +kernel, rfl, by decide +kernel, by decide +kernel⟩
def spSeenOn : Sp := fun vs H Q _ => ∃ (x y : V) (r : Row) (ks : List Nat), vs = [x, y] ∧ IntT H x r ∧ IntT H y (asInts ks) ∧ (∀ k ∈ ks, k < r.length) ∧ ks.length ≤ 100 ∧ ∀ v H', Ex H H' → IntT H' v (onKeys ks r) → Q v H'
/-- no pair of keys at all -/
inductive NoPair (H : Hp) (n m : Nat) : V → Prop
  | non : NoPair H n m .non
  | lst (a : Addr) (xs : List V) : H a = some (.lst xs) → NoPair H n m (.ref a)
  | len (a : Addr) (xs : List V) : H a = some (.tup xs) → xs.length ≠ 2 → xs.length ≤ 10 → NoPair H n m (.ref a)
  | fst (a : Addr) (u v : V) : H a = some (.tup [u, v]) → NotKey n u → NoPair H n m (.ref a)
  | snd (a : Addr) (k : Nat) (v : V) : H a = some (.tup [.int (k : Int), v]) → k < n → NotKey m v → NoPair H n m (.ref a)
theorem NotKey.scal {n : Nat} {u : V} (h : NotKey n u) : Scal u ∧ isIdxV (n : Int) u = false := by
  rcases h with rfl | rfl | ⟨s, rfl⟩ | ⟨i, rfl, h⟩
  · exact ⟨.non, rfl⟩
  · exact ⟨.bl true, rfl⟩
  · exact ⟨.str s, rfl⟩
  · refine ⟨.int i, ?_⟩
    show (decide (0 ≤ i) && decide (i < n)) = false
    by_cases c : 0 ≤ i <;> by_cases d : i < n <;> simp_all
def spIsKeyPair (C : Addr) : Sp := fun vs H Q _ => ∃ (p1 p2 f1 f2 : Addr) (x : V) (sz sy : List Int) (z1 z2 : List Row), vs = [.ref p1, .ref p2, x] ∧ StoreAt C H p1 sz z1 f1 ∧ StoreAt C H p2 sy z2 f2 ∧
  ((∃ k l : Nat, IntT H x [(k : Int), (l : Int)] ∧ k < sz.length ∧ l < sy.length ∧ ∀ H', Ex H H' → Q (.bl (decide (sz[k]? = sy[l]?))) H') ∨ (NoPair H sz.length sy.length x ∧ ∀ H', Ex H H' → Q (.bl false) H'))
section
variable {P : Program} {w : World} {K : PySem.W.Frag} {mg : Str → Option Value} {base : Heap}
theorem ok_seenOn {f : Addr} {fd : FuncData} (F : Fun K "seen_on" "seen_on" s_seenOn f fd) (B : Blt mg) : FnOk P w K mg base CX0 1 f fd ["state", "lot"] spSeenOn := by
  refine F.ok sc_seenOn (fun vs H Q E h => ?_) (fun cdv A outer s H vs Q E hr h => ?_)
  · obtain ⟨x, y, r, ks, rfl, _⟩ := h
    rfl
  · obtain ⟨x, y, r, ks, rfl, ⟨xa, rfl, hx⟩, ⟨ya, rfl, hy⟩, hk, k100, q⟩ := h
    refine ⟨_, (pss_one (ps_ret (pe_callTy (tupOfk (K := K)) (by rfl) B.tuple bt_tuple (pa_cons (lck (own := [("key", 2)]) rfl sc_seenOn.nd (show blkC N_seenOn (defScope s_seenOn) _ _ = true by decide +kernel) (piTk (K := K) (pv 1)) (fun _ _ _ _ _ => (pg_name (i := 2) sc_seenOn.nd rfl (Or.inl rfl))) (fun _ _ _ _ _ => pts_nil) (fun _ _ _ _ _ => (pe_ix (ixTk (K := K)) (pv 0) (pv 2) (fun _ _ => rfl)))) pa_nil)))), ?_⟩
    refine ⟨.ref ya, rfl, ya, rfl, ⟨_, SqT.of hy⟩, fun D nD => ?_⟩
    refine lcT (xs := (asInts ks).map V.int) (fun i acc _ => acc = (onKeys (ks.take i) r).map V.int) nD (fun _ _ _ _ _ _ _ _ _ h => h) rfl (fun _ _ h => h) (SqT.of hy) (by rw [ints_len]; omega) ?_ ?_
    · rintro i v hv acc H1 Cy Cn e1 rac cy _
      obtain ⟨k2, hk2, rfl⟩ := natAt hv
      obtain ⟨u1, hu1, hu2⟩ := rowAt' (a := r) (k := k2) (hk k2 (List.mem_of_getElem? hk2))
      refine ⟨rfl, tYesE ⟨.ref xa, rfl, .int (k2 : Int), rfl, xa, _, _, _, rfl, rfl, SqT.of (e1 _ _ hx), hu2, cy _ _ (Ex.refl _) ?_⟩⟩
      show acc ++ [_] = _
      rw [rac, take_snoc hk2]
      unfold onKeys
      simp [List.getD_eq_getElem?_getD, hu1]
    · rintro acc H1 e1 hD rac _
      rw [ints_len, List.take_length] at rac
      exact ⟨D, acc, rfl, .inl ⟨SqL.of hD, fun t nt => q _ _ (e1.trans (Ex.new nt)) ⟨t, rfl, by rw [upd_same, rac]⟩⟩⟩
theorem ok_isKeyPair {f C fI : Addr} {fd fdI : FuncData} (F : Fun K "is_key_pair" "is_key_pair" s_isKeyPair f fd) (B : Blt mg) (T : StTxt K mg C) (D_isIndex : Dn K mg "is_index" s_isIndex ["value", "many"] fI fdI) (G_isIndex : FnOk P w K mg base CX0 3 fI fdI ["value", "many"] spIsIndex) :
    FnOk P w K mg base CX0 4 f fd ["one", "other", "value"] (spIsKeyPair C) := by
  refine F.ok sc_isKeyPair (fun vs H Q E h => ?_) (fun cdv A outer s H vs Q E hr h => ?_)
  · obtain ⟨p1, p2, f1, f2, x, sz, sy, z1, z2, rfl, _⟩ := h
    rfl
  · obtain ⟨p1, p2, f1, f2, x, sz, sy, z1, z2, rfl, ⟨d1, za1, sa1, ix1, _, _, hp1, hz1, _⟩, ⟨d2, za2, sa2, ix2, _, _, hp2, hz2, _⟩, h⟩ := h
    refine ⟨_, (pss_cons (ps_if (PW.pt (pw_or (pt_not (pt_val (pe_callB (isik (K := K)) (by rfl) B.isinstance bt_isinstance (pa_cons (pv 2) (pa_cons (pe_bltn (v := .ty "tuple") (by rfl) B.tuple bt_tuple rfl) pa_nil))))) (pw_or1 (pt_cmpR op_ne (pe_callB (lenk (K := K)) (by rfl) B.len bt_len (pa_cons (pv 2) pa_nil)) pe_int (nomark _)))))
    (pss_one (ps_ret pe_bl))
    pss_nil)
  (pss_cons (ps_if (PW.pt (pw_or (pt_not (pt_val (pe_call G_isIndex (hr.mono (by decide)) (by rfl) D_isIndex.g D_isIndex.F.kp D_isIndex.b .nil pass0 (pa_cons (pe_ix (ixTk (K := K)) (pv 2) pe_int (fun _ _ => rfl)) (pa_cons (fldk (K := K) (pv 0)) pa_nil))))) (pw_or1 (pt_not (pt_val (pe_call G_isIndex (hr.mono (by decide)) (by rfl) D_isIndex.g D_isIndex.F.kp D_isIndex.b .nil pass0 (pa_cons (pe_ix (ixTk (K := K)) (pv 2) pe_int (fun _ _ => rfl)) (pa_cons (fldk (K := K) (pv 1)) pa_nil))))))))
    (pss_one (ps_ret pe_bl))
    pss_nil)
  (pss_one (ps_ret (pe_cmpR op_eq (pe_ix (ixTk (K := K)) (fldk (K := K) (pv 0)) (pe_ix (ixTk (K := K)) (pv 2) pe_int (fun _ _ => rfl)) (fun _ _ => rfl)) (pe_ix (ixTk (K := K)) (fldk (K := K) (pv 1)) (pe_ix (ixTk (K := K)) (pv 2) pe_int (fun _ _ => rfl)) (fun _ _ => rfl)) (nomark _)))))), ?_⟩
    have idx0 : ∀ {k n : Nat}, k < n → isIdxV (n : Int) (.int (k : Int)) = true := fun {k n} h => idx_true (by omega) (by omega)
    -- the tests behind «a tuple of two»
    have two : ∀ (a : Addr) (u v : V), x = .ref a → H a = some (.tup [u, v]) → True := fun _ _ _ _ _ => trivial
    rcases h with ⟨k, l, ⟨a, rfl, ha⟩, hk, hl, q⟩ | ⟨h, q⟩
    · have ha' : H a = some (.tup [.int (k : Int), .int (l : Int)]) := ha
      refine ⟨.ref a, rfl, _, .ty "tuple", _, _, true, rfl, .ty _, .base (.tup ha), kit_ty (by decide +kernel), _, rfl, iteF ⟨.ref a, rfl, _, 2, rfl, .inr ⟨_, SqT.of ha', rfl⟩, rfl, _, rfl, iteF ?_⟩⟩
      refine ⟨.ref a, rfl, a, [.int (k : Int), .int (l : Int)], 0, .int (k : Int), rfl, rfl, SqT.of ha', rfl, .ref p1, rfl, p1, C, d1, _, _, rfl, hp1, T.cl, T.nC, sf_count, .int (k : Int), (sz.length : Int), rfl, .int _, fun H1 e1 => ⟨_, rfl, ?_⟩⟩
      rw [idx0 hk]
      refine iteF ⟨.ref a, rfl, a, [.int (k : Int), .int (l : Int)], 1, .int (l : Int), rfl, rfl, SqT.of (e1 _ _ ha'), rfl, .ref p2, rfl, p2, C, d2, _, _, rfl, e1 _ _ hp2, T.cl, T.nC, sf_count, .int (l : Int), (sy.length : Int), rfl, .int _, fun H2 e2 => ⟨_, rfl, ?_⟩⟩
      rw [idx0 hl]
      have e12 := e1.trans e2
      obtain ⟨s1, hs1, hs2⟩ := rowAt' (a := sz) (k := k) hk
      obtain ⟨t1, ht1, ht2⟩ := rowAt' (a := sy) (k := l) hl
      refine iteF ⟨.ref p1, rfl, p1, C, d1, _, _, rfl, e12 _ _ hp1, T.cl, T.nZ, sf_sizes, .ref a, rfl, a, [.int (k : Int), .int (l : Int)], 0, .int (k : Int), rfl, rfl, SqT.of (e12 _ _ ha'), rfl, za1, _, _, _, rfl, rfl, SqT.of (e12 _ _ hz1), hs2,
        .ref p2, rfl, p2, C, d2, _, _, rfl, e12 _ _ hp2, T.cl, T.nZ, sf_sizes, .ref a, rfl, a, [.int (k : Int), .int (l : Int)], 1, .int (l : Int), rfl, rfl, SqT.of (e12 _ _ ha'), rfl, za2, _, _, _, rfl, rfl, SqT.of (e12 _ _ hz2), ht2, rfl, ?_⟩
      have := q H2 e12
      rw [hs1, ht1] at this
      show Q (.bl (decide (V.int s1 = V.int t1))) H2
      rw [show decide (V.int s1 = V.int t1) = decide (some s1 = some t1) from decide_eq_decide.mpr ⟨fun e => congrArg some (V.int.inj e), fun e => congrArg V.int (Option.some.inj e)⟩]
      exact this
    · cases h with
      | non => exact ⟨_, rfl, _, .ty "tuple", _, _, false, rfl, .ty _, .base .non, kit_ty (by decide +kernel), _, rfl, iteT (q _ (Ex.refl _))⟩
      | lst a xs h => exact ⟨_, rfl, _, .ty "tuple", _, _, false, rfl, .ty _, .base (.lst h), kit_ty (by decide +kernel), _, rfl, iteT (q _ (Ex.refl _))⟩
      | len a xs h h1 h2 =>
        refine ⟨_, rfl, _, .ty "tuple", _, _, true, rfl, .ty _, .base (.tup h), kit_ty (by decide +kernel), _, rfl, iteF ⟨.ref a, rfl, _, xs.length, rfl, .inr ⟨_, SqT.of h, rfl⟩, rfl, _, rfl, ifE (fun _ => q _ (Ex.refl _)) (fun c => ?_)⟩⟩
        have := eqI (notF c)
        omega
      | fst a u v h h1 =>
        obtain ⟨h2, h3⟩ := h1.scal
        refine ⟨_, rfl, _, .ty "tuple", _, _, true, rfl, .ty _, .base (.tup h), kit_ty (by decide +kernel), _, rfl, iteF ⟨.ref a, rfl, _, 2, rfl, .inr ⟨_, SqT.of h, rfl⟩, rfl, _, rfl, iteF ?_⟩⟩
        refine ⟨.ref a, rfl, a, [u, v], 0, u, rfl, rfl, SqT.of h, rfl, .ref p1, rfl, p1, C, d1, _, _, rfl, hp1, T.cl, T.nC, sf_count, u, (sz.length : Int), rfl, h2, fun H1 e1 => ⟨_, rfl, ?_⟩⟩
        rw [h3]
        exact iteT (q _ e1)
      | snd a k v h hk h1 =>
        obtain ⟨h2, h3⟩ := h1.scal
        refine ⟨_, rfl, _, .ty "tuple", _, _, true, rfl, .ty _, .base (.tup h), kit_ty (by decide +kernel), _, rfl, iteF ⟨.ref a, rfl, _, 2, rfl, .inr ⟨_, SqT.of h, rfl⟩, rfl, _, rfl, iteF ?_⟩⟩
        refine ⟨.ref a, rfl, a, [.int (k : Int), v], 0, .int (k : Int), rfl, rfl, SqT.of h, rfl, .ref p1, rfl, p1, C, d1, _, _, rfl, hp1, T.cl, T.nC, sf_count, .int (k : Int), (sz.length : Int), rfl, .int _, fun H1 e1 => ⟨_, rfl, ?_⟩⟩
        rw [idx0 hk]
        refine iteF ⟨.ref a, rfl, a, [.int (k : Int), v], 1, v, rfl, rfl, SqT.of (e1 _ _ h), rfl, .ref p2, rfl, p2, C, d2, _, _, rfl, e1 _ _ hp2, T.cl, T.nC, sf_count, v, (sy.length : Int), rfl, h2, fun H2 e2 => ⟨_, rfl, ?_⟩⟩
        rw [h3]
        exact iteT (q _ (e1.trans e2))
end
end Bp

set_option Elab.async false
set_option linter.all false
set_option maxRecDepth 100000
set_option maxHeartbeats 4000000
namespace Bp
open PySem PySem.Spec PyProof.Rows L2 Evl
/-! ### an error with «at» -/
def tMkAt (C : Addr) (ta : TA) : L2.St → Hp → XK → Prop := fun σ H Q => ta σ H fun vs H1 => ∃ v, vs = [v] ∧ ∀ d, H1 d = none → Q (.ref C) (some d) (upd H1 d (.xd [(("at" : Str), v)]))
/-- the class named nm, at C, makes such errors -/
def MkAt (P : Program) (K : PySem.W.Frag) (mg : Str → Option Value) (nm : Str) (C : Addr) : Prop := ∀ (X : Cx) (a : Expr) (ta : TA) (p pos : Pos), X.prog = P → X.K = K → X.mg = mg → Room 3 X.A → PA X [a] ta → Gl X nm →
  starEach (a :: []) X.env = (false, eval a X.env) :: starEach [] X.env → (backTo pos (starEach [] X.env)).any (·.1) = false → PMk X (.Call (.Name nm p) [a] [] pos) (tMkAt C ta)
def tRaiseAt (C : Addr) (W : WX) (ta : TA) : TS := fun _ σ H => tMkAt C ta σ H fun cls d H' => W cls d σ H'
theorem ps_raiseAt {X : Cx} {P : Program} {K : PySem.W.Frag} {mg : Str → Option Value} {nm : Str} {C : Addr} {a : Expr} {ta : TA} {W : WX} {p pos pos2 : Pos} (hc : X.calm = true) (M : MkAt P K mg nm C) (hr : Room 3 X.A) (tk : Takes X W) (ha : PA X [a] ta) (hK : X.K = K) (hm : X.mg = mg) (hP : X.prog = P := by rfl) (hg : Gl X nm := by rfl)
    (he : starEach (a :: []) X.env = (false, eval a X.env) :: starEach [] X.env := by rfl) (hpl : (backTo pos (starEach [] X.env)).any (·.1) = false := by rfl) :
    PS X (.Raise (some (.Call (.Name nm p) [a] [] pos)) none pos2) (tRaiseAt C W ta) := ps_raise hc tk (M X a ta p pos hP hK hm hr ha hg he hpl)
def spChecked (C : Addr) : Sp := fun vs H Q _ => ∃ (p1 p2 f1 f2 a : Addr) (sz sy : List Int) (z1 z2 : List Row) (pvs : List V) (ps : List (Nat × Nat)), vs = [.ref p1, .ref p2, .ref a] ∧ StoreAt C H p1 sz z1 f1 ∧ StoreAt C H p2 sy z2 f2 ∧
  (H a = some (.lst pvs) ∨ H a = some (.tup pvs)) ∧ RowsOf H pvs (pairRows ps) ∧ (∀ q ∈ ps, q.1 < sz.length ∧ q.2 < sy.length ∧ sz[q.1]? = sy[q.2]?) ∧ (ps.map (·.1)).Nodup ∧ (ps.map (·.2)).Nodup ∧ ps.length ≤ 100 ∧
  ∀ p H', H p = none → Ex H H' → H' p = some (.lst pvs) → Q (.ref p) H'
theorem nodup_at {l : List Nat} (h : l.Nodup) {i : Nat} {x y : Nat} (hx : l[i]? = some x) (hy : y ∈ l.take i) : y ≠ x := by
  intro e
  subst e
  obtain ⟨j, hj⟩ := List.getElem?_of_mem hy
  rw [List.getElem?_take] at hj
  have hl : j < i := by
    by_cases c : j < i
    · exact c
    · rw [if_neg c] at hj; cases hj
  rw [if_pos hl] at hj
  have hi := (List.getElem?_eq_some_iff.mp hx).1
  have := (List.getElem?_inj (i := j) (j := i) (by omega) h).mp (hj.trans hx.symm)
  omega
theorem pairRows_take {H : Hp} {pvs : List V} {ps : List (Nat × Nat)} (rP : RowsOf H pvs (pairRows ps)) (i : Nat) : RowsOf H (pvs.take i) (pairRows (ps.take i)) := by
  have := rowsTake i rP
  unfold pairRows at this ⊢
  rw [List.map_take]
  exact this
theorem isPairH {H : Hp} {x : V} {k l : Nat} (h : IntT H x [(k : Int), (l : Int)]) : ∃ a, x = .ref a ∧ H a = some (.tup [.int (k : Int), .int (l : Int)]) := h
section
variable {P : Program} {w : World} {K : PySem.W.Frag} {mg : Str → Option Value} {base : Heap}
theorem ok_checkedPairs {f C fS fI : Addr} {fd fdS fdI : FuncData} (F : Fun K "checked_pairs" "checked_pairs" s_checkedPairs f fd) (B : Blt mg) (D_isSequence : Dn K mg "is_sequence" s_isSequence ["value"] fS fdS) (G_isSequence : FnOk P w K mg base CX0 1 fS fdS ["value"] spIsSequence)
    (D_isKeyPair : Dn K mg "is_key_pair" s_isKeyPair ["one", "other", "value"] fI fdI) (G_isKeyPair : FnOk P w K mg base CX0 4 fI fdI ["one", "other", "value"] (spIsKeyPair C)) : FnOk P w K mg base CX0 5 f fd ["one", "other", "value"] (spChecked C) := by
  refine F.ok sc_checkedPairs (fun vs H Q E h => ?_) (fun cdv A outer s H vs Q E hr h => ?_)
  · obtain ⟨p1, p2, f1, f2, a, sz, sy, z1, z2, pvs, ps, rfl, _⟩ := h
    rfl
  · obtain ⟨p1, p2, f1, f2, a, sz, sy, z1, z2, pvs, ps, rfl, S1, S2, ha0, rP, hps, n1, n2, p100, q⟩ := h
    have pl := pairs_len rP
    rcases ha0 with ha | ha
    · refine ⟨_, (pss_cons (ps_if (pt_not (pt_val (pe_call G_isSequence (hr.mono (by decide)) (by rfl) D_isSequence.g D_isSequence.F.kp D_isSequence.b .nil pass0 (pa_cons (pv 2) pa_nil))))
    (pss_one ps_never)
    pss_nil)
  (pss_cons (ps_set (i := 3) sc_checkedPairs.nd rfl (.inl rfl) (pe_lst pa_nil))
  (pss_cons (ps_for PassesOwn.never  rfl (enumk (K := K) (by rfl) B.enumerate (pa_cons (pv 2) pa_nil)) (pgTk (K := K) (n := 2) rfl (pgs_cons (pg_name (i := 4) sc_checkedPairs.nd rfl (Or.inl rfl)) (pgs_cons (pg_name (i := 5) sc_checkedPairs.nd rfl (Or.inr rfl)) pgs_nil)))
    (pss_cons (ps_if (PW.pt (pw_or (pt_not (pt_val (pe_call G_isKeyPair (hr.mono (by decide)) (by rfl) D_isKeyPair.g D_isKeyPair.F.kp D_isKeyPair.b .nil pass0 (pa_cons (pv 0) (pa_cons (pv 1) (pa_cons (pv 5) pa_nil)))))) (pw_or1 (pt_val (pe_callB (anyk rfl (K := K)) (by rfl) B.any bt_any (pa_cons (lck (own := [("first", 6), ("second", 7)]) rfl sc_checkedPairs.nd (show blkC N_checkedPairs (defScope s_checkedPairs) _ _ = true by decide +kernel) (piLk (K := K) (pv 3)) (fun _ _ _ _ _ => (pgTk (K := K) (n := 2) rfl (pgs_cons (pg_name (i := 6) sc_checkedPairs.nd rfl (Or.inl rfl)) (pgs_cons (pg_name (i := 7) sc_checkedPairs.nd rfl (Or.inl rfl)) pgs_nil)))) (fun _ _ _ _ _ => pts_nil) (fun _ _ _ _ _ => (pe_or (pe_cmpR op_eq (pe_ix (ixTk (K := K)) (pv 5) pe_int (fun _ _ => rfl)) (pv 6) (nomark _)) (pe_one (pe_cmpR op_eq (pe_ix (ixTk (K := K)) (pv 5) pe_int (fun _ _ => rfl)) (pv 7) (nomark _)))))) pa_nil))))))
    (pss_one ps_never)
    pss_nil)
  (pss_one (ps_expr (appk (K := K) (pv 3) (pa_cons (pv 5) pa_nil))))))
  (pss_one (ps_ret (pv 3)))))), ?_⟩
      refine ⟨.ref a, rfl, .ref a, rfl, .inl ⟨⟨a, _, rfl, .inl ha⟩, fun H1 e1 => ⟨_, rfl, iteF ⟨Nat.zero_le _, fun o no => ?_⟩⟩⟩⟩
      have e2 := e1.trans (Ex.new (o := .lst []) no)
      refine ⟨.ref a, rfl, a, pvs, rfl, SqL.of (e2 _ _ ha), forE (K := K) (a := a) (xs := pvs) (fun i σ H' => ∃ v4 v5, σ = [some (.ref p1), some (.ref p2), some (.ref a), some (.ref o), v4, v5, none, none] ∧ Ex H H' ∧ H' o = some (.lst (pvs.take i))) ?_ ?_ ?_ ?_⟩
      · exact ⟨none, none, rfl, e2, upd_same⟩
      · rintro i σ H' _ ⟨_, _, _, e, _⟩
        exact SqL.of (e _ _ ha)
      · rintro i x T σ H2 hx ⟨v4, v5, rfl, e3, ho⟩ nT
        obtain ⟨p, hp, hxp⟩ := pairRow rP hx
        have hpm := hps p (List.mem_of_getElem? hp)
        have e4 := e3.trans (Ex.new (o := .tup [.int (i : Int), x]) nT)
        refine ⟨T, [.int (i : Int), x], rfl, SqT.of upd_same, rfl, .int (i : Int), [x], rfl, x, [], rfl, rfl, ?_⟩
        refine ⟨.ref p1, rfl, .ref p2, rfl, x, rfl, p1, p2, f1, f2, x, sz, sy, z1, z2, rfl, S1.up e4, S2.up e4, .inl ⟨p.1, p.2, hxp.up e4, hpm.1, hpm.2.1, fun H5 e5 => ⟨_, rfl, ?_⟩⟩⟩
        rw [decide_eq_true hpm.2.2]
        have e45 := e4.trans e5
        have ho5 := (Ex.new (o := .tup [.int (i : Int), x]) nT |>.trans e5) _ _ ho
        obtain ⟨xa, rfl, hxa⟩ := isPairH (hxp.up e45)
        refine iteF ⟨.ref o, rfl, o, rfl, ⟨_, SqL.of ho5⟩, fun D nD => ?_⟩
        refine lcL (σ := [some (.ref p1), some (.ref p2), some (.ref a), some (.ref o), some (.int (i : Int)), some (.ref xa), none, none]) (xs := pvs.take i) (fun j acc _ => ∃ bs : List Bool, acc = bs.map V.bl ∧ ∀ b ∈ bs, b = false) nD (fun _ _ _ _ _ _ _ _ _ h => h) ⟨[], rfl, by simp⟩ (fun _ _ h => h) (SqL.of ho5) (by rw [List.length_take]; omega) ?_ ?_
        · rintro j y hy acc H6 Cy Cn e6 ⟨bs, rfl, hbs⟩ cy _
          obtain ⟨p', hp', hyp⟩ := pairRow (pairRows_take rP i) hy
          obtain ⟨ya, rfl, hya⟩ := isPairH (hyp.up (e45.trans e6))
          have hm' := List.mem_of_getElem? hp'
          have d1 : p'.1 ≠ p.1 := nodup_at n1 (i := i) (by rw [List.getElem?_map, hp]; rfl) (by rw [← List.map_take]; exact List.mem_map_of_mem hm')
          have d2 : p'.2 ≠ p.2 := nodup_at n2 (i := i) (by rw [List.getElem?_map, hp]; rfl) (by rw [← List.map_take]; exact List.mem_map_of_mem hm')
          refine ⟨ya, [.int (p'.1 : Int), .int (p'.2 : Int)], rfl, SqT.of hya, rfl, .int (p'.1 : Int), [.int (p'.2 : Int)], rfl, .int (p'.2 : Int), [], rfl, rfl, rfl, tYesE ?_⟩
          refine ⟨.ref xa, rfl, xa, [.int (p.1 : Int), .int (p.2 : Int)], 0, .int (p.1 : Int), rfl, rfl, SqT.of (e6 _ _ hxa), rfl, .int (p'.1 : Int), rfl, rfl, _, rfl, ?_⟩
          rw [show decide (V.int (p.1 : Int) = V.int (p'.1 : Int)) = false from decide_eq_false fun z => d1 (by have := V.int.inj z; omega)]
          refine iteF ⟨.ref xa, rfl, xa, [.int (p.1 : Int), .int (p.2 : Int)], 1, .int (p.2 : Int), rfl, rfl, SqT.of (e6 _ _ hxa), rfl, .int (p'.2 : Int), rfl, rfl, ?_⟩
          refine cy _ _ (Ex.refl _) ⟨bs ++ [false], ?_, by simpa using hbs⟩
          show bs.map V.bl ++ [V.bl (decide (V.int (p.2 : Int) = V.int (p'.2 : Int)))] = _
          rw [show decide (V.int (p.2 : Int) = V.int (p'.2 : Int)) = false from decide_eq_false fun z => d2 (by have := V.int.inj z; omega)]
          simp
        · rintro acc H6 e6 hD ⟨bs, rfl, hbs⟩ _
          refine ⟨D, bs, rfl, SqL.of hD, _, rfl, ?_⟩
          rw [show bs.any id = false from List.any_eq_false.mpr (fun b hb => by rw [hbs b hb]; simp)]
          have ho6 := e6 _ _ ho5
          have tl : (pvs.take i).length ≤ 100 := by rw [List.length_take]; omega
          refine iteF ⟨.ref o, rfl, .inl ⟨rfl, _, SqL.of ho6⟩, .ref xa, rfl, o, _, _, rfl, rfl, ho6, Nat.lt_of_le_of_lt tl (by decide), ?_⟩
          exact ⟨_, _, rfl, (e45.trans e6).mut (freshEx e1 no), by rw [upd_same, take_snoc hx]⟩
      · rintro σ H2 ⟨v4, v5, rfl, e3, ho⟩
        rw [List.take_length] at ho
        exact ⟨.ref o, rfl, q o H2 (freshEx e1 no) e3 ho⟩
    · refine ⟨_, (pss_cons (ps_if (pt_not (pt_val (pe_call G_isSequence (hr.mono (by decide)) (by rfl) D_isSequence.g D_isSequence.F.kp D_isSequence.b .nil pass0 (pa_cons (pv 2) pa_nil))))
    (pss_one ps_never)
    pss_nil)
  (pss_cons (ps_set (i := 3) sc_checkedPairs.nd rfl (.inl rfl) (pe_lst pa_nil))
  (pss_cons (ps_for PassesOwn.never  rfl (enumTk (K := K) (by rfl) B.enumerate (pa_cons (pv 2) pa_nil)) (pgTk (K := K) (n := 2) rfl (pgs_cons (pg_name (i := 4) sc_checkedPairs.nd rfl (Or.inl rfl)) (pgs_cons (pg_name (i := 5) sc_checkedPairs.nd rfl (Or.inr rfl)) pgs_nil)))
    (pss_cons (ps_if (PW.pt (pw_or (pt_not (pt_val (pe_call G_isKeyPair (hr.mono (by decide)) (by rfl) D_isKeyPair.g D_isKeyPair.F.kp D_isKeyPair.b .nil pass0 (pa_cons (pv 0) (pa_cons (pv 1) (pa_cons (pv 5) pa_nil)))))) (pw_or1 (pt_val (pe_callB (anyk rfl (K := K)) (by rfl) B.any bt_any (pa_cons (lck (own := [("first", 6), ("second", 7)]) rfl sc_checkedPairs.nd (show blkC N_checkedPairs (defScope s_checkedPairs) _ _ = true by decide +kernel) (piLk (K := K) (pv 3)) (fun _ _ _ _ _ => (pgTk (K := K) (n := 2) rfl (pgs_cons (pg_name (i := 6) sc_checkedPairs.nd rfl (Or.inl rfl)) (pgs_cons (pg_name (i := 7) sc_checkedPairs.nd rfl (Or.inl rfl)) pgs_nil)))) (fun _ _ _ _ _ => pts_nil) (fun _ _ _ _ _ => (pe_or (pe_cmpR op_eq (pe_ix (ixTk (K := K)) (pv 5) pe_int (fun _ _ => rfl)) (pv 6) (nomark _)) (pe_one (pe_cmpR op_eq (pe_ix (ixTk (K := K)) (pv 5) pe_int (fun _ _ => rfl)) (pv 7) (nomark _)))))) pa_nil))))))
    (pss_one ps_never)
    pss_nil)
  (pss_one (ps_expr (appk (K := K) (pv 3) (pa_cons (pv 5) pa_nil))))))
  (pss_one (ps_ret (pv 3)))))), ?_⟩
      refine ⟨.ref a, rfl, .ref a, rfl, .inl ⟨⟨a, _, rfl, .inr ha⟩, fun H1 e1 => ⟨_, rfl, iteF ⟨Nat.zero_le _, fun o no => ?_⟩⟩⟩⟩
      have e2 := e1.trans (Ex.new (o := .lst []) no)
      refine ⟨.ref a, rfl, a, pvs, rfl, SqT.of (e2 _ _ ha), forET (K := K) (a := a) (xs := pvs) (fun i σ H' => ∃ v4 v5, σ = [some (.ref p1), some (.ref p2), some (.ref a), some (.ref o), v4, v5, none, none] ∧ Ex H H' ∧ H' o = some (.lst (pvs.take i))) ?_ ?_ ?_ ?_⟩
      · exact ⟨none, none, rfl, e2, upd_same⟩
      · rintro i σ H' _ ⟨_, _, _, e, _⟩
        exact SqT.of (e _ _ ha)
      · rintro i x T σ H2 hx ⟨v4, v5, rfl, e3, ho⟩ nT
        obtain ⟨p, hp, hxp⟩ := pairRow rP hx
        have hpm := hps p (List.mem_of_getElem? hp)
        have e4 := e3.trans (Ex.new (o := .tup [.int (i : Int), x]) nT)
        refine ⟨T, [.int (i : Int), x], rfl, SqT.of upd_same, rfl, .int (i : Int), [x], rfl, x, [], rfl, rfl, ?_⟩
        refine ⟨.ref p1, rfl, .ref p2, rfl, x, rfl, p1, p2, f1, f2, x, sz, sy, z1, z2, rfl, S1.up e4, S2.up e4, .inl ⟨p.1, p.2, hxp.up e4, hpm.1, hpm.2.1, fun H5 e5 => ⟨_, rfl, ?_⟩⟩⟩
        rw [decide_eq_true hpm.2.2]
        have e45 := e4.trans e5
        have ho5 := (Ex.new (o := .tup [.int (i : Int), x]) nT |>.trans e5) _ _ ho
        obtain ⟨xa, rfl, hxa⟩ := isPairH (hxp.up e45)
        refine iteF ⟨.ref o, rfl, o, rfl, ⟨_, SqL.of ho5⟩, fun D nD => ?_⟩
        refine lcL (σ := [some (.ref p1), some (.ref p2), some (.ref a), some (.ref o), some (.int (i : Int)), some (.ref xa), none, none]) (xs := pvs.take i) (fun j acc _ => ∃ bs : List Bool, acc = bs.map V.bl ∧ ∀ b ∈ bs, b = false) nD (fun _ _ _ _ _ _ _ _ _ h => h) ⟨[], rfl, by simp⟩ (fun _ _ h => h) (SqL.of ho5) (by rw [List.length_take]; omega) ?_ ?_
        · rintro j y hy acc H6 Cy Cn e6 ⟨bs, rfl, hbs⟩ cy _
          obtain ⟨p', hp', hyp⟩ := pairRow (pairRows_take rP i) hy
          obtain ⟨ya, rfl, hya⟩ := isPairH (hyp.up (e45.trans e6))
          have hm' := List.mem_of_getElem? hp'
          have d1 : p'.1 ≠ p.1 := nodup_at n1 (i := i) (by rw [List.getElem?_map, hp]; rfl) (by rw [← List.map_take]; exact List.mem_map_of_mem hm')
          have d2 : p'.2 ≠ p.2 := nodup_at n2 (i := i) (by rw [List.getElem?_map, hp]; rfl) (by rw [← List.map_take]; exact List.mem_map_of_mem hm')
          refine ⟨ya, [.int (p'.1 : Int), .int (p'.2 : Int)], rfl, SqT.of hya, rfl, .int (p'.1 : Int), [.int (p'.2 : Int)], rfl, .int (p'.2 : Int), [], rfl, rfl, rfl, tYesE ?_⟩
          refine ⟨.ref xa, rfl, xa, [.int (p.1 : Int), .int (p.2 : Int)], 0, .int (p.1 : Int), rfl, rfl, SqT.of (e6 _ _ hxa), rfl, .int (p'.1 : Int), rfl, rfl, _, rfl, ?_⟩
          rw [show decide (V.int (p.1 : Int) = V.int (p'.1 : Int)) = false from decide_eq_false fun z => d1 (by have := V.int.inj z; omega)]
          refine iteF ⟨.ref xa, rfl, xa, [.int (p.1 : Int), .int (p.2 : Int)], 1, .int (p.2 : Int), rfl, rfl, SqT.of (e6 _ _ hxa), rfl, .int (p'.2 : Int), rfl, rfl, ?_⟩
          refine cy _ _ (Ex.refl _) ⟨bs ++ [false], ?_, by simpa using hbs⟩
          show bs.map V.bl ++ [V.bl (decide (V.int (p.2 : Int) = V.int (p'.2 : Int)))] = _
          rw [show decide (V.int (p.2 : Int) = V.int (p'.2 : Int)) = false from decide_eq_false fun z => d2 (by have := V.int.inj z; omega)]
          simp
        · rintro acc H6 e6 hD ⟨bs, rfl, hbs⟩ _
          refine ⟨D, bs, rfl, SqL.of hD, _, rfl, ?_⟩
          rw [show bs.any id = false from List.any_eq_false.mpr (fun b hb => by rw [hbs b hb]; simp)]
          have ho6 := e6 _ _ ho5
          have tl : (pvs.take i).length ≤ 100 := by rw [List.length_take]; omega
          refine iteF ⟨.ref o, rfl, .inl ⟨rfl, _, SqL.of ho6⟩, .ref xa, rfl, o, _, _, rfl, rfl, ho6, Nat.lt_of_le_of_lt tl (by decide), ?_⟩
          exact ⟨_, _, rfl, (e45.trans e6).mut (freshEx e1 no), by rw [upd_same, take_snoc hx]⟩
      · rintro σ H2 ⟨v4, v5, rfl, e3, ho⟩
        rw [List.take_length] at ho
        exact ⟨.ref o, rfl, q o H2 (freshEx e1 no) e3 ho⟩

/-- what is no list of pairs is refused, with where it goes wrong -/
def spCheckedBad (C CL : Addr) : Sp := fun vs H _ E => ∃ (p1 p2 f1 f2 : Addr) (x : V) (sz sy : List Int) (z1 z2 : List Row) (pvs : List V) (ps : List (Nat × Nat)) (at' : Nat), vs = [.ref p1, .ref p2, x] ∧ StoreAt C H p1 sz z1 f1 ∧ StoreAt C H p2 sy z2 f2 ∧
  RowsOf H pvs (pairRows ps) ∧ (∀ q ∈ ps, q.1 < sz.length ∧ q.2 < sy.length ∧ sz[q.1]? = sy[q.2]?) ∧ (ps.map (·.1)).Nodup ∧ (ps.map (·.2)).Nodup ∧ ps.length ≤ 100 ∧
  ((NoSeq H x ∧ at' = 0) ∨ ∃ (l : Addr) (y : V) (more : List V), x = .ref l ∧ at' ≤ ps.length ∧ H l = some (.lst (pvs.take at' ++ [y] ++ more)) ∧ Odd H sz sy (ps.take at') y ∧ more.length ≤ 10) ∧
  ∀ d H', Ex H H' → H' d = some (.xd [(("at" : Str), .int (at' : Int))]) → E (.ref CL) (some d) H'
/-- an odd one: no pair, or a pair whose sizes differ or that shares a key -/
theorem Odd.two {H : Hp} {sz sy : List Int} {prev : List (Nat × Nat)} {y : V} (h : Odd H sz sy prev y) : NoPair H sz.length sy.length y ∨ ∃ (k l : Nat), IntT H y [(k : Int), (l : Int)] ∧ k < sz.length ∧ l < sy.length ∧ (sz[k]? = sy[l]? → ∃ p ∈ prev, k = p.1 ∨ l = p.2) := by
  cases h with
  | non => exact .inl .non
  | lst a xs h => exact .inl (.lst a xs h)
  | len a xs h h1 h2 => exact .inl (.len a xs h h1 h2)
  | fst a u v h h1 => exact .inl (.fst a u v h h1)
  | snd a k v h h1 h2 => exact .inl (.snd a k v h h1 h2)
  | size a k l h h1 h2 h3 => exact .inr ⟨k, l, ⟨a, rfl, h⟩, h1, h2, fun e => absurd e h3⟩
  | twice a k l p h h1 h2 h3 h4 => exact .inr ⟨k, l, ⟨a, rfl, h⟩, h1, h2, fun _ => ⟨p, h3, h4⟩⟩
theorem ok_checkedPairsBad {f C CL fS fI : Addr} {fd fdS fdI : FuncData} (F : Fun K "checked_pairs" "checked_pairs" s_checkedPairs f fd) (B : Blt mg) (MInvalidLot : MkAt P K mg "InvalidLot" CL) (D_isSequence : Dn K mg "is_sequence" s_isSequence ["value"] fS fdS) (G_isSequence : FnOk P w K mg base CX0 1 fS fdS ["value"] spIsSequence)
    (D_isKeyPair : Dn K mg "is_key_pair" s_isKeyPair ["one", "other", "value"] fI fdI) (G_isKeyPair : FnOk P w K mg base CX0 4 fI fdI ["one", "other", "value"] (spIsKeyPair C)) : FnOk P w K mg base (L2.CX P w) 5 f fd ["one", "other", "value"] (spCheckedBad C CL) := by
  refine F.okX sc_checkedPairs (fun vs H Q E h => ?_) (fun cdv A outer s H vs Q E hr h => ?_)
  · obtain ⟨p1, p2, f1, f2, x, sz, sy, z1, z2, pvs, ps, at', rfl, _⟩ := h
    rfl
  · obtain ⟨p1, p2, f1, f2, x, sz, sy, z1, z2, pvs, ps, at', rfl, S1, S2, rP, hps, n1, n2, p100, hx0, q⟩ := h
    have pl := pairs_len rP
    refine ⟨_, (pss_cons (ps_if (pt_not (pt_val (pe_call G_isSequence (hr.mono (by decide)) (by rfl) D_isSequence.g D_isSequence.F.kp D_isSequence.b .nil pass0 (pa_cons (pv 2) pa_nil))))
    (pss_one (ps_raiseAt rfl MInvalidLot (hr.mono (by decide)) (takes_of rfl rfl rfl rfl) (by exact (pa_cons pe_int pa_nil)) rfl rfl))
    pss_nil)
  (pss_cons (ps_set (i := 3) sc_checkedPairs.nd rfl (.inl rfl) (pe_lst pa_nil))
  (pss_cons (ps_for (passes_of rfl)  rfl (enumk (K := K) (by rfl) B.enumerate (pa_cons (pv 2) pa_nil)) (pgTk (K := K) (n := 2) rfl (pgs_cons (pg_name (i := 4) sc_checkedPairs.nd rfl (Or.inl rfl)) (pgs_cons (pg_name (i := 5) sc_checkedPairs.nd rfl (Or.inr rfl)) pgs_nil)))
    (pss_cons (ps_if (PW.pt (pw_or (pt_not (pt_val (pe_call G_isKeyPair (hr.mono (by decide)) (by rfl) D_isKeyPair.g D_isKeyPair.F.kp D_isKeyPair.b .nil pass0 (pa_cons (pv 0) (pa_cons (pv 1) (pa_cons (pv 5) pa_nil)))))) (pw_or1 (pt_val (pe_callB (anyk rfl (K := K)) (by rfl) B.any bt_any (pa_cons (lck (own := [("first", 6), ("second", 7)]) rfl sc_checkedPairs.nd (show blkC N_checkedPairs (defScope s_checkedPairs) _ _ = true by decide +kernel) (piLk (K := K) (pv 3)) (fun _ _ _ _ _ => (pgTk (K := K) (n := 2) rfl (pgs_cons (pg_name (i := 6) sc_checkedPairs.nd rfl (Or.inl rfl)) (pgs_cons (pg_name (i := 7) sc_checkedPairs.nd rfl (Or.inl rfl)) pgs_nil)))) (fun _ _ _ _ _ => pts_nil) (fun _ _ _ _ _ => (pe_or (pe_cmpR op_eq (pe_ix (ixTk (K := K)) (pv 5) pe_int (fun _ _ => rfl)) (pv 6) (nomark _)) (pe_one (pe_cmpR op_eq (pe_ix (ixTk (K := K)) (pv 5) pe_int (fun _ _ => rfl)) (pv 7) (nomark _)))))) pa_nil))))))
    (pss_one (ps_raiseAt rfl MInvalidLot (hr.mono (by decide)) (takes_of rfl rfl rfl rfl) (by exact (pa_cons (pv 4) pa_nil)) rfl rfl))
    pss_nil)
  (pss_one (ps_expr (appk (K := K) (pv 3) (pa_cons (pv 5) pa_nil))))))
  (pss_one (ps_ret (pv 3)))))), ?_⟩
    rcases hx0 with ⟨hx, rfl⟩ | ⟨a, y, more, rfl, atl, ha, odd, m10⟩
    · refine ⟨x, rfl, x, rfl, .inr ⟨hx, fun H1 e1 => ⟨_, rfl, iteT ⟨_, rfl, fun d nd => q d _ (e1.trans (Ex.new nd)) upd_same⟩⟩⟩⟩
    · refine ⟨.ref a, rfl, .ref a, rfl, .inl ⟨⟨a, _, rfl, .inl ha⟩, fun H1 e1 => ⟨_, rfl, iteF ⟨Nat.zero_le _, fun o no => ?_⟩⟩⟩⟩
      have e2 := e1.trans (Ex.new (o := .lst []) no)
      have lat : (pvs.take at').length = at' := by rw [List.length_take]; omega
      refine ⟨.ref a, rfl, a, _, rfl, SqL.of (e2 _ _ ha), forE (K := K) (a := a) (xs := pvs.take at' ++ [y] ++ more) (fun i σ H' => ∃ v4 v5, i ≤ at' ∧ σ = [some (.ref p1), some (.ref p2), some (.ref a), some (.ref o), v4, v5, none, none] ∧ Ex H H' ∧ H' o = some (.lst (pvs.take i))) ?_ ?_ ?_ ?_⟩
      · exact ⟨none, none, Nat.zero_le _, rfl, e2, upd_same⟩
      · rintro i σ H' _ ⟨_, _, _, _, e, _⟩
        exact SqL.of (e _ _ ha)
      · rintro i x T σ H2 hx ⟨v4, v5, hi, rfl, e3, ho⟩ nT
        by_cases c : i < at'
        · skip
          have hxv : pvs[i]? = some x := by
            rw [← hx, List.append_assoc, List.getElem?_append_left (by rw [List.length_take]; omega), List.getElem?_take, if_pos c]
          obtain ⟨p, hp, hxp⟩ := pairRow rP hxv
          have hpm := hps p (List.mem_of_getElem? hp)
          have e4 := e3.trans (Ex.new (o := .tup [.int (i : Int), x]) nT)
          refine ⟨T, [.int (i : Int), x], rfl, SqT.of upd_same, rfl, .int (i : Int), [x], rfl, x, [], rfl, rfl, ?_⟩
          refine ⟨.ref p1, rfl, .ref p2, rfl, x, rfl, p1, p2, f1, f2, x, sz, sy, z1, z2, rfl, S1.up e4, S2.up e4, .inl ⟨p.1, p.2, hxp.up e4, hpm.1, hpm.2.1, fun H5 e5 => ⟨_, rfl, ?_⟩⟩⟩
          rw [decide_eq_true hpm.2.2]
          have e45 := e4.trans e5
          have ho5 := (Ex.new (o := .tup [.int (i : Int), x]) nT |>.trans e5) _ _ ho
          obtain ⟨xa, rfl, hxa⟩ := isPairH (hxp.up e45)
          refine iteF ⟨.ref o, rfl, o, rfl, ⟨_, SqL.of ho5⟩, fun D nD => ?_⟩
          refine lcL (σ := [some (.ref p1), some (.ref p2), some (.ref a), some (.ref o), some (.int (i : Int)), some (.ref xa), none, none]) (xs := pvs.take i) (fun j acc _ => ∃ bs : List Bool, acc = bs.map V.bl ∧ ∀ b ∈ bs, b = false) nD (fun _ _ _ _ _ _ _ _ _ h => h) ⟨[], rfl, by simp⟩ (fun _ _ h => h) (SqL.of ho5) (by rw [List.length_take]; omega) ?_ ?_
          · rintro j y hy acc H6 Cy Cn e6 ⟨bs, rfl, hbs⟩ cy _
            obtain ⟨p', hp', hyp⟩ := pairRow (pairRows_take rP i) hy
            obtain ⟨ya, rfl, hya⟩ := isPairH (hyp.up (e45.trans e6))
            have hm' := List.mem_of_getElem? hp'
            have d1 : p'.1 ≠ p.1 := nodup_at n1 (i := i) (by rw [List.getElem?_map, hp]; rfl) (by rw [← List.map_take]; exact List.mem_map_of_mem hm')
            have d2 : p'.2 ≠ p.2 := nodup_at n2 (i := i) (by rw [List.getElem?_map, hp]; rfl) (by rw [← List.map_take]; exact List.mem_map_of_mem hm')
            refine ⟨ya, [.int (p'.1 : Int), .int (p'.2 : Int)], rfl, SqT.of hya, rfl, .int (p'.1 : Int), [.int (p'.2 : Int)], rfl, .int (p'.2 : Int), [], rfl, rfl, rfl, tYesE ?_⟩
            refine ⟨.ref xa, rfl, xa, [.int (p.1 : Int), .int (p.2 : Int)], 0, .int (p.1 : Int), rfl, rfl, SqT.of (e6 _ _ hxa), rfl, .int (p'.1 : Int), rfl, rfl, _, rfl, ?_⟩
            rw [show decide (V.int (p.1 : Int) = V.int (p'.1 : Int)) = false from decide_eq_false fun z => d1 (by have := V.int.inj z; omega)]
            refine iteF ⟨.ref xa, rfl, xa, [.int (p.1 : Int), .int (p.2 : Int)], 1, .int (p.2 : Int), rfl, rfl, SqT.of (e6 _ _ hxa), rfl, .int (p'.2 : Int), rfl, rfl, ?_⟩
            refine cy _ _ (Ex.refl _) ⟨bs ++ [false], ?_, by simpa using hbs⟩
            show bs.map V.bl ++ [V.bl (decide (V.int (p.2 : Int) = V.int (p'.2 : Int)))] = _
            rw [show decide (V.int (p.2 : Int) = V.int (p'.2 : Int)) = false from decide_eq_false fun z => d2 (by have := V.int.inj z; omega)]
            simp
          · rintro acc H6 e6 hD ⟨bs, rfl, hbs⟩ _
            refine ⟨D, bs, rfl, SqL.of hD, _, rfl, ?_⟩
            rw [show bs.any id = false from List.any_eq_false.mpr (fun b hb => by rw [hbs b hb]; simp)]
            have ho6 := e6 _ _ ho5
            have tl : (pvs.take i).length ≤ 100 := by rw [List.length_take]; omega
            refine iteF ⟨.ref o, rfl, .inl ⟨rfl, _, SqL.of ho6⟩, .ref xa, rfl, o, _, _, rfl, rfl, ho6, Nat.lt_of_le_of_lt tl (by decide), ?_⟩
            exact ⟨_, _, by omega, rfl, (e45.trans e6).mut (freshEx e1 no), by rw [upd_same, take_snoc hxv]⟩
        · have hia : i = at' := by omega
          subst hia
          have hxy : x = y := by
            rw [List.append_assoc, List.getElem?_append_right (by omega), lat, Nat.sub_self] at hx
            simpa using hx.symm
          subst hxy
          have e4 := e3.trans (Ex.new (o := .tup [.int (i : Int), x]) nT)
          refine ⟨T, [.int (i : Int), x], rfl, SqT.of upd_same, rfl, .int (i : Int), [x], rfl, x, [], rfl, rfl, ?_⟩
          refine ⟨.ref p1, rfl, .ref p2, rfl, x, rfl, p1, p2, f1, f2, x, sz, sy, z1, z2, rfl, S1.up e4, S2.up e4, ?_⟩
          have hq : ∀ H5, Ex H H5 → ∀ d, H5 d = none → E (.ref CL) (some d) (upd H5 d (.xd [(("at" : Str), .int (i : Int))])) := fun H5 e5 d nd => q d _ (e5.trans (Ex.new nd)) upd_same
          rcases (odd.up e4).two with hno | ⟨k, l, hkl, hk, hl, hsame⟩
          · exact .inr ⟨hno, fun H5 e5 => ⟨_, rfl, iteT (iteT ⟨.int (i : Int), rfl, _, rfl, fun d nd => hq _ (e4.trans e5) d nd⟩)⟩⟩
          · refine .inl ⟨k, l, hkl, hk, hl, fun H5 e5 => ⟨_, rfl, ?_⟩⟩
            by_cases cs : sz[k]? = sy[l]?
            · rw [decide_eq_true cs]
              obtain ⟨p, hpm, hpe⟩ := hsame cs
              obtain ⟨jx, hjx⟩ := List.getElem?_of_mem hpm
              have e45 := e4.trans e5
              have ho5 := (Ex.new (o := .tup [.int (i : Int), x]) nT |>.trans e5) _ _ ho
              obtain ⟨xa, rfl, hxa⟩ := isPairH (hkl.up e5)
              refine iteF ⟨.ref o, rfl, o, rfl, ⟨_, SqL.of ho5⟩, fun D nD => ?_⟩
              refine lcL (σ := [some (.ref p1), some (.ref p2), some (.ref a), some (.ref o), some (.int (i : Int)), some (.ref xa), none, none]) (xs := pvs.take i) (fun j acc _ => ∃ bs : List Bool, acc = bs.map V.bl ∧ (jx < j → true ∈ bs)) nD (fun _ _ _ _ _ _ _ _ _ h => h) ⟨[], rfl, fun h => absurd h (Nat.not_lt_zero _)⟩ (fun _ _ h => h) (SqL.of ho5) (by rw [List.length_take]; omega) ?_ ?_
              · rintro j z hz acc H6 Cy Cn e6 ⟨bs, rfl, hbs⟩ cy _
                obtain ⟨p', hp', hyp⟩ := pairRow (pairRows_take rP i) hz
                obtain ⟨ya, rfl, hya⟩ := isPairH (hyp.up (e45.trans e6))
                refine ⟨ya, [.int (p'.1 : Int), .int (p'.2 : Int)], rfl, SqT.of hya, rfl, .int (p'.1 : Int), [.int (p'.2 : Int)], rfl, .int (p'.2 : Int), [], rfl, rfl, rfl, tYesE ?_⟩
                have hpp : jx = j → p' = p := fun e => by rw [e, hp'] at hjx; exact Option.some.inj hjx
                refine ⟨.ref xa, rfl, xa, [.int (k : Int), .int (l : Int)], 0, .int (k : Int), rfl, rfl, SqT.of (e6 _ _ hxa), rfl, .int (p'.1 : Int), rfl, rfl, _, rfl, ifE (fun c1 => ?_) (fun c1 => ?_)⟩
                · refine cy _ _ (Ex.refl _) ⟨bs ++ [true], by simp, fun _ => by simp⟩
                · refine ⟨.ref xa, rfl, xa, [.int (k : Int), .int (l : Int)], 1, .int (l : Int), rfl, rfl, SqT.of (e6 _ _ hxa), rfl, .int (p'.2 : Int), rfl, rfl, ?_⟩
                  refine cy _ _ (Ex.refl _) ⟨bs ++ [decide (V.int (l : Int) = V.int (p'.2 : Int))], by simp, fun hj => ?_⟩
                  by_cases cj : jx < j
                  · exact List.mem_append_left _ (hbs cj)
                  · have hje : jx = j := by omega
                    have hp2 := hpp hje
                    subst hp2
                    have n1' := neI c1
                    have : l = p'.2 := by
                      rcases hpe with h | h
                      · exact absurd (by omega) n1'
                      · exact h
                    rw [this]
                    simp
              · rintro acc H6 e6 hD ⟨bs, rfl, hbs⟩ _
                refine ⟨D, bs, rfl, SqL.of hD, _, rfl, ?_⟩
                have hjl := (List.getElem?_eq_some_iff.mp hjx).1
                rw [List.length_take] at hjl
                rw [show bs.any id = true from List.any_eq_true.mpr ⟨true, hbs (by rw [List.length_take]; omega), rfl⟩]
                exact iteT ⟨.int (i : Int), rfl, _, rfl, fun d nd => hq _ (e45.trans e6) d nd⟩
            · rw [decide_eq_false cs]
              exact iteT (iteT ⟨.int (i : Int), rfl, _, rfl, fun d nd => hq _ (e4.trans e5) d nd⟩)
      · rintro σ H2 ⟨v4, v5, hi, _⟩
        simp at hi
        omega
end
end Bp

set_option Elab.async false
set_option linter.all false
set_option maxRecDepth 100000
set_option maxHeartbeats 4000000
namespace Bp
open PySem PySem.Spec PyProof.Rows L2 Evl
abbrev s_putTogether : Stmt := topS 22
abbrev N_putTogether : List Str := ["one", "other", "pairs", "some", "rest", "found", "state", "row", "key", "first", "second"]
theorem sc_putTogether : FnScope N_putTogether ["one", "other", "pairs"] (defScope s_putTogether) := ⟨rfl, rfl, rfl, by decide +kernel, rfl, by decide +kernel, by decide +kernel⟩
/-- the keys of the second that no pair takes -/
def restOf (m : Nat) (ps : List (Nat × Nat)) : List Nat := (List.range m).filter fun k => decide (k ∉ ps.map fun p => p.2)
def putSizes (sz sy : List Int) (rest : List Nat) : List Int := glue rest sz sy
theorem rest_lt {m : Nat} {ps : List (Nat × Nat)} : ∀ j ∈ restOf m ps, j < m := fun j h => List.mem_range.mp (List.mem_filter.mp h).1
theorem rest_mem {m : Nat} {ps : List (Nat × Nat)} (j : Nat) : j ∈ restOf m ps ↔ j < m ∧ j ∉ ps.map fun p => p.2 := by
  unfold restOf
  rw [List.mem_filter, List.mem_range]
  simp
theorem rest_nodup {m : Nat} {ps : List (Nat × Nat)} : (restOf m ps).Nodup := List.Pairwise.filter _ List.nodup_range
theorem rest_len {m : Nat} {ps : List (Nat × Nat)} : (restOf m ps).length ≤ m := Nat.le_trans (List.length_filter_le _ _) (by rw [List.length_range]; exact Nat.le_refl _)
/-- put together of rows of the sizes: rows of the sizes put together -/
theorem glue_rowOk {sz sy : List Int} {rest : List Nat} {a b : Row} (ha : RowOk sz a) (hb : RowOk sy b) (hr : ∀ j ∈ rest, j < sy.length) : RowOk (putSizes sz sy rest) (glue rest a b) := by
  unfold putSizes
  refine ⟨by rw [glue_len, glue_len, ha.len], fun i x n g1 g2 => ?_⟩
  by_cases c : i < sz.length
  · rw [glue_lt (by rw [ha.len]; exact c)] at g1
    rw [glue_lt c] at g2
    exact ha.each i x n g1 g2
  · rw [glue_ge (by rw [ha.len]; omega), ha.len] at g1
    rw [glue_ge (by omega)] at g2
    cases e : rest[i - sz.length]? with
    | none => rw [e] at g1; cases g1
    | some j =>
      rw [e] at g1 g2
      have hj := hr j (List.mem_of_getElem? e)
      have e1 : b.getD j 0 = x := Option.some.inj g1
      have e2 : sy.getD j 0 = n := Option.some.inj g2
      have hb' : j < b.length := by rw [hb.len]; exact hj
      rw [List.getD_eq_getElem?_getD, List.getElem?_eq_getElem hb'] at e1
      rw [List.getD_eq_getElem?_getD, List.getElem?_eq_getElem hj] at e2
      exact hb.each j x n (by rw [List.getElem?_eq_getElem hb']; exact congrArg some e1) (by rw [List.getElem?_eq_getElem hj]; exact congrArg some e2)
theorem putSizes_each {sz sy : List Int} {rest : List Nat} (h1 : ∀ n ∈ sz, 1 ≤ n ∧ n ≤ 4) (h2 : ∀ n ∈ sy, 1 ≤ n ∧ n ≤ 4) (hr : ∀ j ∈ rest, j < sy.length) : ∀ n ∈ putSizes sz sy rest, 1 ≤ n ∧ n ≤ 4 := by
  intro n hn
  unfold putSizes glue onKeys at hn
  rcases List.mem_append.mp hn with hn | hn
  · exact h1 n hn
  · obtain ⟨j, hj, rfl⟩ := List.mem_map.mp hn
    have := hr j hj
    rw [List.getD_eq_getElem?_getD, List.getElem?_eq_getElem this]
    exact h2 _ (List.getElem_mem this)
/-- two stores and pairs of their keys, as the law makes them -/
structure PutIn (C : Addr) (H : Hp) (p1 p2 a : Addr) (sz sy : List Int) (z1 z2 : List Row) (pvs : List V) (ps : List (Nat × Nat)) : Prop where
  s1 : ∃ f1, StoreAt C H p1 sz z1 f1
  s2 : ∃ f2, StoreAt C H p2 sy z2 f2
  at_ : H a = some (.lst pvs) ∨ H a = some (.tup pvs)
  rP : RowsOf H pvs (pairRows ps)
  hps : ∀ q ∈ ps, q.1 < sz.length ∧ q.2 < sy.length ∧ sz[q.1]? = sy[q.2]?
  n1 : (ps.map (·.1)).Nodup
  n2 : (ps.map (·.2)).Nodup
  p100 : ps.length ≤ 100
  zOk : SzOk sz
  yOk : SzOk sy
  r1 : ∀ r ∈ z1, RowOk sz r
  r2 : ∀ r ∈ z2, RowOk sy r
  l1 : z1.length ≤ 6
  l2 : z2.length ≤ 6
def spPutTogether (C : Addr) : Sp := fun vs H Q _ => ∃ (p1 p2 a : Addr) (sz sy : List Int) (z1 z2 : List Row) (pvs : List V) (ps : List (Nat × Nat)), vs = [.ref p1, .ref p2, .ref a] ∧ PutIn C H p1 p2 a sz sy z1 z2 pvs ps ∧
  putL z1 z2 ps (restOf sy.length ps) ≠ [] ∧ ∀ p zs fd H', H p = none → Ex H H' → H fd = none → H' fd = some (.dK []) → StoreAt C H' p (putSizes sz sy (restOf sy.length ps)) zs fd → Asc zs → zs.Nodup → (∀ r, r ∈ zs ↔ r ∈ putL z1 z2 ps (restOf sy.length ps)) → Q (.ref p) H'
theorem rangeFilter {p : Nat → Bool} {i : Nat} : (List.range (i + 1)).filter p = (List.range i).filter p ++ (if p i = true then [i] else []) := by
  rw [List.range_succ, List.filter_append]
  cases c : p i <;> simp [c]
theorem fitsTakeB {ps : List (Nat × Nat)} {a b : Row} {i : Nat} {p : Nat × Nat} (h : ps[i]? = some p) : fits (ps.take (i + 1)) a b = (fits (ps.take i) a b && (a[p.1]? == b[p.2]?)) := by
  unfold fits
  rw [take_snoc h, List.all_append]
  simp
section
variable {P : Program} {w : World} {K : PySem.W.Frag} {mg : Str → Option Value} {base : Heap}
theorem ok_putTogether {f C fI fC : Addr} {fd fdI fdC : FuncData} (F : Fun K "put_together" "put_together" s_putTogether f fd) (B : Blt mg) (T : StTxt K mg C) (hSt : mg "Store" = some (.ref C)) (MkSt : Mk K C fI) (bSt : Binds K fdI ["self", "sizes", "states"] []) (G_StoreInit : FnOk P w K mg base CX0 5 fI fdI ["self", "sizes", "states"] (spStoreInit C))
    (D_checkedPairs : Dn K mg "checked_pairs" s_checkedPairs ["one", "other", "value"] fC fdC) (G_checkedPairs : FnOk P w K mg base CX0 5 fC fdC ["one", "other", "value"] (spChecked C)) : FnOk P w K mg base CX0 7 f fd ["one", "other", "pairs"] (spPutTogether C) := by
  refine F.ok sc_putTogether (fun vs H Q E h => ?_) (fun cdv A outer s H vs Q E hr h => ?_)
  · obtain ⟨p1, p2, a, sz, sy, z1, z2, pvs, ps, rfl, _⟩ := h
    rfl
  · obtain ⟨p1, p2, a, sz, sy, z1, z2, pvs, ps, rfl, I, pne, q⟩ := h
    obtain ⟨f1, S1⟩ := I.s1
    obtain ⟨f2, S2⟩ := I.s2
    have n1 : 1 ≤ sz.length := List.length_pos_iff.mpr I.zOk.ne
    have zl := I.zOk.len
    have yl := I.yOk.len
    have rl := rest_len (m := sy.length) (ps := ps)
    have pl := pairs_len I.rP
    have p100 := I.p100
    refine ⟨_, (pss_cons (ps_set (i := 3) sc_putTogether.nd rfl (.inr rfl) (pe_call G_checkedPairs (hr.mono (by decide)) (by rfl) D_checkedPairs.g D_checkedPairs.F.kp D_checkedPairs.b .nil pass0 (pa_cons (pv 0) (pa_cons (pv 1) (pa_cons (pv 2) pa_nil)))))
  (pss_cons (ps_setLc (i := 4) (own := [("key", 8)]) rfl sc_putTogether.nd rfl rfl (sw_true rfl rfl rfl (by decide +kernel)) (pi_range1 (by rfl) B.range (pa_cons (fldk (K := K) (pv 1)) pa_nil)) (blkOk_by (show blkC N_putTogether (defScope s_putTogether) _ _ = true by decide +kernel)) (fun _ _ _ _ _ => (pg_name (i := 8) sc_putTogether.nd rfl (Or.inl rfl))) (fun _ _ _ _ _ => (pts_one (pt_cmpR (ninSk (K := K)) (pv 8) (lck (own := [("first", 9), ("second", 10)]) rfl sc_putTogether.nd (by kernel_rfl) (piLk (K := K) (pv 3)) (fun _ _ _ _ _ => (pgTk (K := K) (n := 2) rfl (pgs_cons (pg_name (i := 9) sc_putTogether.nd rfl (Or.inl rfl)) (pgs_cons (pg_name (i := 10) sc_putTogether.nd rfl (Or.inl rfl)) pgs_nil)))) (fun _ _ _ _ _ => pts_nil) (fun _ _ _ _ _ => (pv 10))) rfl))) (fun _ _ _ _ _ => (pv 8)))
  (pss_cons (ps_set (i := 5) sc_putTogether.nd rfl (.inl rfl) (pe_lst pa_nil))
  (pss_cons (ps_for PassesOwn.never  rfl (piTk (K := K) (fldk (K := K) (pv 0))) (pg_name (i := 6) sc_putTogether.nd rfl (Or.inr rfl))
    (pss_one (ps_for PassesOwn.never  rfl (piTk (K := K) (fldk (K := K) (pv 1))) (pg_name (i := 7) sc_putTogether.nd rfl (Or.inr rfl))
    (pss_one (ps_if (pt_val (pe_callB (allk rfl (K := K)) (by rfl) B.all bt_all (pa_cons (lck (own := [("first", 9), ("second", 10)]) rfl sc_putTogether.nd (show blkC N_putTogether (defScope s_putTogether) _ _ = true by decide +kernel) (piLk (K := K) (pv 3)) (fun _ _ _ _ _ => (pgTk (K := K) (n := 2) rfl (pgs_cons (pg_name (i := 9) sc_putTogether.nd rfl (Or.inl rfl)) (pgs_cons (pg_name (i := 10) sc_putTogether.nd rfl (Or.inl rfl)) pgs_nil)))) (fun _ _ _ _ _ => pts_nil) (fun _ _ _ _ _ => (pe_cmpR op_eq (pe_ix (ixTk (K := K)) (pv 6) (pv 9) (fun _ _ => rfl)) (pe_ix (ixTk (K := K)) (pv 7) (pv 10) (fun _ _ => rfl)) (nomark _)))) pa_nil)))
    (pss_one (ps_expr (appk (K := K) (pv 5) (pa_cons (pe_tup (pastar (K := K) (pv 6) (pastar (K := K) (lck (own := [("key", 8)]) rfl sc_putTogether.nd (show blkC N_putTogether (defScope s_putTogether) _ _ = true by decide +kernel) (piLk (K := K) (pv 4)) (fun _ _ _ _ _ => (pg_name (i := 8) sc_putTogether.nd rfl (Or.inl rfl))) (fun _ _ _ _ _ => pts_nil) (fun _ _ _ _ _ => (pe_ix (ixTk (K := K)) (pv 7) (pv 8) (fun _ _ => rfl)))) pa_nil))) pa_nil))))
    pss_nil)))))
  (pss_cons (ps_if (pt_cmpR op_eq (pe_callB (lenk (K := K)) (by rfl) B.len bt_len (pa_cons (pv 5) pa_nil)) pe_int (nomark _))
    (pss_one ps_never)
    pss_nil)
  (pss_one (ps_ret (pe_make MkSt G_StoreInit hr rfl hSt bSt .nil pass0 (pa_cons (pe_tup (pastar (K := K) (fldk (K := K) (pv 0)) (pastar (K := K) (lck (own := [("key", 8)]) rfl sc_putTogether.nd (show blkC N_putTogether (defScope s_putTogether) _ _ = true by decide +kernel) (piLk (K := K) (pv 4)) (fun _ _ _ _ _ => (pg_name (i := 8) sc_putTogether.nd rfl (Or.inl rfl))) (fun _ _ _ _ _ => pts_nil) (fun _ _ _ _ _ => (pe_ix (ixTk (K := K)) (fldk (K := K) (pv 1)) (pv 8) (fun _ _ => rfl)))) pa_nil))) (pa_cons (pv 5) pa_nil)))))))))), ?_⟩
    refine ⟨.ref p1, rfl, .ref p2, rfl, .ref a, rfl, p1, p2, f1, f2, a, sz, sy, z1, z2, pvs, ps, rfl, S1, S2, I.at_, I.rP, I.hps, I.n1, I.n2, I.p100, fun so H1 nso e1 hso => ?_⟩
    have rP1 := I.rP.up e1
    obtain ⟨d1, za1, sa1, ix1, vs1, kv1, hp1, hz1, hs1, rz1, _⟩ := S1.up e1
    obtain ⟨d2, za2, sa2, ix2, vs2, kv2, hp2, hz2, hs2, rz2, _⟩ := S2.up e1
    -- rest
    refine ⟨.ref p2, rfl, p2, C, d2, _, _, rfl, hp2, T.cl, T.nC, sf_count, sy.length, rfl, by omega, by omega, fun D nD => ?_⟩
    refine lcR (σ := [some (.ref p1), some (.ref p2), some (.ref a), some (.ref so), none, none, none, none, none, none, none]) (n := ((sy.length : Nat) : Int).toNat) (fun i acc _ => acc = (asInts ((List.range i).filter fun k => decide (k ∉ ps.map fun p : Nat × Nat => p.2))).map V.int) nD (fun _ _ _ _ _ _ _ _ _ h => h) rfl (fun _ _ h => h) (by omega) ?_ ?_
    · rintro i hi acc H2 Cy Cn e2 rac cy cn
      rw [Int.zero_add]
      have hso2 := e2 _ _ hso
      refine ⟨rfl, .int (i : Int), rfl, .ref so, rfl, so, rfl, ⟨_, SqL.of hso2⟩, fun D2 nD2 => ?_⟩
      refine lcL (σ := [some (.ref p1), some (.ref p2), some (.ref a), some (.ref so), none, none, none, none, some (.int (i : Int)), none, none]) (xs := pvs) (fun j acc _ => acc = (asInts ((ps.take j).map fun p : Nat × Nat => p.2)).map V.int) nD2 (fun _ _ _ _ _ _ _ _ _ h => h) rfl (fun _ _ h => h) (SqL.of hso2) (by omega) ?_ ?_
      · rintro j z hz acc2 H3 Cy2 Cn2 e3 rac2 cy2 _
        obtain ⟨p, hp, hzp⟩ := pairRow rP1 hz
        obtain ⟨za, rfl, hza⟩ := isPairH (hzp.up (e2.trans e3))
        refine ⟨za, [.int (p.1 : Int), .int (p.2 : Int)], rfl, SqT.of hza, rfl, .int (p.1 : Int), [.int (p.2 : Int)], rfl, .int (p.2 : Int), [], rfl, rfl, rfl, tYesE ⟨.int (p.2 : Int), rfl, cy2 _ _ (Ex.refl _) ?_⟩⟩
        show acc2 ++ [_] = _
        rw [rac2, take_snoc hp]
        simp [asInts]
      · rintro acc2 H3 e3 hD2 rac2 _
        rw [pl, List.take_length] at rac2
        subst rac2
        have hin : inV (.int (i : Int)) ((asInts (ps.map fun p : Nat × Nat => p.2)).map V.int) = decide (i ∈ ps.map fun p : Nat × Nat => p.2) := by
          rw [inInts]
          exact decide_eq_decide.mpr mem_ints
        refine ⟨D2, _, rfl, .inl (SqL.of hD2), rfl, flatInts _, _, rfl, ifE (fun c3 => ?_) (fun c3 => ?_)⟩
        · refine ⟨.int (i : Int), rfl, cy _ _ e3 ?_⟩
          have c4 : i ∉ ps.map fun p : Nat × Nat => p.2 := of_decide_eq_false (hin ▸ notT c3)
          show acc ++ [_] = _
          rw [rac, rangeFilter, if_pos (decide_eq_true c4)]
          simp [asInts]
        · refine cn _ e3 ?_
          have c4 : i ∈ ps.map fun p : Nat × Nat => p.2 := of_decide_eq_true (hin ▸ notF c3)
          show acc = _
          rw [rac, rangeFilter, if_neg (by rw [decide_eq_true_iff]; exact fun h => h c4), List.append_nil]
    rintro racc H2 e2 hD rac _
    rw [show ((sy.length : Nat) : Int).toNat = sy.length by omega] at rac
    have rac : racc = (asInts (restOf sy.length ps)).map V.int := rac
    subst rac
    have hrest := rest_lt (m := sy.length) (ps := ps)
    generalize hgr : restOf sy.length ps = rest at *
    -- found = []
    refine ⟨Nat.zero_le _, fun o no => ?_⟩
    have e3 := e2.trans (Ex.new (o := .lst []) no)
    have hD3 := (Ex.new (o := .lst []) no) _ _ hD
    have ho3 := upd_same (H := H2) (a := o) (o := .lst [])
    have no1 : H1 o = none := freshEx e2 no
    have no2 := no
    generalize upd H2 o (.lst []) = H3 at *
    have e13 : Ex H H3 := e1.trans e3
    have ocase : ∀ H', Ex H1 H' → Ex H H' := fun H' e => e1.trans e
    -- for state in one.states
    refine ⟨.ref p1, rfl, p1, C, d1, _, _, rfl, e3 _ _ hp1, T.cl, T.nS, sf_states, sa1, rfl, ⟨_, SqT.of (e3 _ _ hs1)⟩, for_tup (K := K) (a := sa1) (xs := vs1) (fun i σ H' => ∃ v6 v7 fv, σ = [some (.ref p1), some (.ref p2), some (.ref a), some (.ref so), some (.ref D), some (.ref o), v6, v7, none, none, none] ∧ Ex H1 H' ∧ H' D = some (.lst ((asInts rest).map V.int)) ∧ H' o = some (.lst fv) ∧ RowsOf H' fv (putL (z1.take i) z2 ps rest)) ?_ ?_ ?_ ?_⟩
    · exact ⟨none, none, [], rfl, e3, hD3, ho3, .nil⟩
    · rintro i σ H' _ ⟨_, _, _, _, ex, _⟩
      exact SqT.of (ex _ _ hs1)
    · rintro i x σ H4 hx ⟨v6, v7, fv, rfl, e4, hD4, ho4, rf⟩
      obtain ⟨st, hst, hxs⟩ := pairedGet rz1 hx
      have lst := (I.r1 st (List.mem_of_getElem? hst)).len
      refine ⟨.ref p2, rfl, p2, C, d2, _, _, rfl, e4 _ _ hp2, T.cl, T.nS, sf_states, sa2, rfl, ⟨_, SqT.of (e4 _ _ hs2)⟩, for_tup (K := K) (a := sa2) (xs := vs2) (fun j σ H' => ∃ v7 fv, σ = [some (.ref p1), some (.ref p2), some (.ref a), some (.ref so), some (.ref D), some (.ref o), some x, v7, none, none, none] ∧ Ex H1 H' ∧ H' D = some (.lst ((asInts rest).map V.int)) ∧ H' o = some (.lst fv) ∧ RowsOf H' fv (putL (z1.take i) z2 ps rest ++ ((z2.take j).filter (fits ps st)).map (glue rest st))) ?_ ?_ ?_ ?_⟩
      · exact ⟨v7, fv, rfl, e4, hD4, ho4, by simpa using rf⟩
      · rintro j σ H' _ ⟨_, _, _, ex, _⟩
        exact SqT.of (ex _ _ hs2)
      · rintro j y σ H5 hy ⟨v7, fv, rfl, e5, hD5, ho5, rf⟩
        obtain ⟨row, hrow, hyr⟩ := pairedGet rz2 hy
        have lrow := (I.r2 row (List.mem_of_getElem? hrow)).len
        obtain ⟨xa, rfl, hxa⟩ := hxs.up e5
        obtain ⟨ya, rfl, hya⟩ := hyr.up e5
        have hso5 := e5 _ _ hso
        -- all([state[first] == row[second] for first, second in some])
        refine ⟨.ref so, rfl, so, rfl, ⟨_, SqL.of hso5⟩, fun D2 nD2 => ?_⟩
        refine lcL (σ := [some (.ref p1), some (.ref p2), some (.ref a), some (.ref so), some (.ref D), some (.ref o), some (.ref xa), some (.ref ya), none, none, none]) (xs := pvs) (fun k acc _ => ∃ bs : List Bool, acc = bs.map V.bl ∧ bs.all id = fits (ps.take k) st row) nD2 (fun _ _ _ _ _ _ _ _ _ h => h) ⟨[], rfl, rfl⟩ (fun _ _ h => h) (SqL.of hso5) (by omega) ?_ ?_
        · rintro k z hz acc H6 Cy Cn e6 ⟨bs, rfl, hbs⟩ cy _
          obtain ⟨p, hp, hzp⟩ := pairRow rP1 hz
          have hlt := I.hps p (List.mem_of_getElem? hp)
          obtain ⟨za, rfl, hza⟩ := isPairH (hzp.up (e5.trans e6))
          obtain ⟨u1, hu1, hu2⟩ := rowAt' (a := st) (k := p.1) (by omega)
          obtain ⟨u3, hu3, hu4⟩ := rowAt' (a := row) (k := p.2) (by omega)
          refine ⟨za, [.int (p.1 : Int), .int (p.2 : Int)], rfl, SqT.of hza, rfl, .int (p.1 : Int), [.int (p.2 : Int)], rfl, .int (p.2 : Int), [], rfl, rfl, rfl, tYesE ?_⟩
          refine ⟨.ref xa, rfl, .int (p.1 : Int), rfl, xa, _, _, _, rfl, rfl, SqT.of (e6 _ _ hxa), hu2, .ref ya, rfl, .int (p.2 : Int), rfl, ya, _, _, _, rfl, rfl, SqT.of (e6 _ _ hya), hu4, rfl, ?_⟩
          refine cy _ _ (Ex.refl _) ⟨bs ++ [decide (V.int u1 = V.int u3)], by simp, ?_⟩
          rw [List.all_append, hbs, fitsTakeB hp, hu1, hu3]
          congr 1
          by_cases c : u1 = u3
          · subst c; simp
          · have c2 : V.int u1 ≠ V.int u3 := fun z => c (V.int.inj z)
            simp [c, c2]
        · rintro acc H6 e6 hD2 ⟨bs, rfl, hbs⟩ _
          rw [pl, List.take_length] at hbs
          refine ⟨D2, bs, rfl, SqL.of hD2, _, rfl, ?_⟩
          rw [hbs]
          have e56 := e5.trans e6
          have ho6 := e6 _ _ ho5
          have hD6 := e6 _ _ hD5
          have rf6 := rf.up e6
          have hxa6 := e6 _ _ hxa
          have hya6 := e6 _ _ hya
          refine ifE (fun c3 => ?_) (fun c3 => ?_)
          · have hfl : fv.length ≤ 1000 := by
              rw [rf6.length, List.length_append, List.length_map]
              have h1 := putL_len (z1.take i) z2 ps rest
              have h2 := List.length_filter_le (fits ps st) (z2.take j)
              rw [List.length_take] at h1 h2
              have l1 := I.l1
              have l2 := I.l2
              have h3 : min i z1.length * z2.length ≤ 6 * 6 := Nat.mul_le_mul (by omega) l2
              omega
            refine ⟨.ref o, rfl, .inl ⟨rfl, _, SqL.of ho6⟩, .ref xa, rfl, xa, _, rfl, .inl (SqT.of hxa6), .ref D, rfl, D, rfl, ⟨_, SqL.of hD6⟩, fun D3 nD3 => ?_⟩
            refine lcL (σ := [some (.ref p1), some (.ref p2), some (.ref a), some (.ref so), some (.ref D), some (.ref o), some (.ref xa), some (.ref ya), none, none, none]) (xs := (asInts rest).map V.int) (fun k acc _ => acc = (onKeys (rest.take k) row).map V.int) nD3 (fun _ _ _ _ _ _ _ _ _ h => h) rfl (fun _ _ h => h) (SqL.of hD6) (by rw [ints_len]; omega) ?_ ?_
            · rintro k v hv acc2 H7 Cy Cn e7 racc2 cy _
              obtain ⟨k2, hk2, rfl⟩ := natAt hv
              obtain ⟨u1, hu1, hu2⟩ := rowAt' (a := row) (k := k2) (by have := hrest k2 (List.mem_of_getElem? hk2); omega)
              refine ⟨rfl, tYesE ⟨.ref ya, rfl, .int (k2 : Int), rfl, ya, _, _, _, rfl, rfl, SqT.of (e7 _ _ hya6), hu2, cy _ _ (Ex.refl _) ?_⟩⟩
              show acc2 ++ [_] = _
              rw [racc2, take_snoc hk2]
              unfold onKeys
              simp [List.getD_eq_getElem?_getD, hu1]
            · rintro acc2 H7 e7 hD3' racc2 _
              rw [ints_len, List.take_length] at racc2
              have hgl : (glue rest st row).map V.int = st.map V.int ++ (acc2 ++ []) := by
                rw [racc2, List.append_nil]; unfold glue; rw [List.map_append]
              refine ⟨D3, acc2, rfl, .inr (SqL.of hD3'), ?_, fun u nu => ?_⟩
              · rw [← hgl, List.length_map, glue_len]
                exact Nat.le_trans (by omega : st.length + rest.length ≤ 200) (by decide)
              · have e8 := e7.trans (Ex.new (o := .tup (st.map V.int ++ (acc2 ++ []))) nu)
                have ho8 := e8 _ _ ho6
                refine ⟨o, fv, .ref u, rfl, rfl, ho8, Nat.lt_of_lt_of_le (by omega : fv.length < 100000) (by decide), ?_⟩
                have nDo : D ≠ o := fun z => by subst z; rw [no] at hD; cases hD
                refine ⟨_, _, rfl, (e56.trans e8).mut no1, by rw [upd_ne nDo]; exact e8 _ _ hD6, upd_same, ?_⟩
                rw [filterTake _ hrow, if_pos c3, List.map_append, ← List.append_assoc (putL _ _ _ _)]
                exact RowsOf.wr ho8 ((rf6.up e8).snoc ⟨u, rfl, by rw [hgl]; exact upd_same⟩)
          · refine ⟨_, _, rfl, e56, hD6, ho6, ?_⟩
            rw [filterTake _ hrow, if_neg (by rw [c3]; simp), List.append_nil]
            exact rf6
      · rintro σ H5 ⟨v7, fv, rfl, e5, hD5, ho5, rf⟩
        refine ⟨_, _, _, rfl, e5, hD5, ho5, ?_⟩
        rw [putL_take hst]
        rw [rz2.length, List.take_length] at rf
        exact rf
    · rintro σ H4 ⟨v6, v7, fv, rfl, e4, hD4, ho4, rf⟩
      rw [show vs1.length = z1.length from rz1.length, List.take_length] at rf
      have fne : fv ≠ [] := by
        intro z
        subst z
        cases hz : putL z1 z2 ps rest with
        | nil => exact pne hz
        | cons _ _ => rw [hz] at rf; cases rf
      have fpos := List.length_pos_iff.mpr fne
      refine ⟨.ref o, rfl, _, fv.length, rfl, .inl ⟨_, SqL.of ho4, rfl⟩, rfl, _, rfl, ifE (fun c => ?_) (fun _ => ?_)⟩
      · have := eqI c; omega
      -- Store((*one.sizes, *[other.sizes[key] for key in rest]), found)
      refine ⟨.ref p1, rfl, p1, C, d1, _, _, rfl, e4 _ _ hp1, T.cl, T.nZ, sf_sizes, za1, _, rfl, .inl (SqT.of (e4 _ _ hz1)), .ref D, rfl, D, rfl, ⟨_, SqL.of hD4⟩, fun D3 nD3 => ?_⟩
      refine lcL (σ := [some (.ref p1), some (.ref p2), some (.ref a), some (.ref so), some (.ref D), some (.ref o), v6, v7, none, none, none]) (xs := (asInts rest).map V.int) (fun k acc _ => acc = (onKeys (rest.take k) sy).map V.int) nD3 (fun _ _ _ _ _ _ _ _ _ h => h) rfl (fun _ _ h => h) (SqL.of hD4) (by rw [ints_len]; omega) ?_ ?_
      · rintro k v hv acc2 H7 Cy Cn e7 racc2 cy _
        obtain ⟨k2, hk2, rfl⟩ := natAt hv
        obtain ⟨u1, hu1, hu2⟩ := rowAt' (a := sy) (k := k2) (hrest k2 (List.mem_of_getElem? hk2))
        refine ⟨rfl, tYesE ⟨.ref p2, rfl, p2, C, d2, _, _, rfl, (e4.trans e7) _ _ hp2, T.cl, T.nZ, sf_sizes, .int (k2 : Int), rfl, za2, _, _, _, rfl, rfl, SqT.of ((e4.trans e7) _ _ hz2), hu2, cy _ _ (Ex.refl _) ?_⟩⟩
        show acc2 ++ [_] = _
        rw [racc2, take_snoc hk2]
        unfold onKeys
        simp [List.getD_eq_getElem?_getD, hu1]
      · rintro acc2 H7 e7 hD3' racc2 _
        rw [ints_len, List.take_length] at racc2
        have hgl : (putSizes sz sy rest).map V.int = sz.map V.int ++ (acc2 ++ []) := by
          rw [racc2, List.append_nil]; unfold putSizes glue; rw [List.map_append]
        have sl8 : (putSizes sz sy rest).length ≤ 8 := by unfold putSizes; rw [glue_len]; omega
        refine ⟨D3, acc2, rfl, .inr (SqL.of hD3'), ?_, fun u nu => ?_⟩
        · rw [← hgl, List.length_map]
          exact Nat.le_trans sl8 (by decide)
        have e8 := e7.trans (Ex.new (o := .tup (sz.map V.int ++ (acc2 ++ []))) nu)
        have hu8 : upd H7 u (.tup (sz.map V.int ++ (acc2 ++ []))) u = some (.tup ((putSizes sz sy rest).map V.int)) := by rw [hgl]; exact upd_same
        refine ⟨.ref o, rfl, fun x dx nx ndx nex => ?_⟩
        have e9 := (Ex.new (o := .own x) ndx).trans (Ex.new (o := .ins C dx []) (by rw [upd_ne nex.symm]; exact nx))
        have e49 := e4.trans (e8.trans e9)
        refine ⟨x, dx, .ref u, o, putSizes sz sy rest, fv, putL z1 z2 ps rest, rfl, upd_same, .inr ⟨u, rfl, e9 _ _ hu8⟩, (e8.trans e9) _ _ ho4, rf.up (e8.trans e9), ?_, sl8, putSizes_each I.zOk.each I.yOk.each hrest, fun r hr => ?_, pne, ?_, fun H10 zs fd e10 nfd hfd hst asc nd mem => ⟨rfl, ?_⟩⟩
        · unfold putSizes glue
          intro z
          exact I.zOk.ne (List.append_eq_nil_iff.mp z).1
        · obtain ⟨a', ha', b', hb', _, rfl⟩ := mem_putL.mp hr
          exact glue_rowOk (I.r1 a' ha') (I.r2 b' hb') hrest
        · have h3 : z1.length * z2.length ≤ 6 * 6 := Nat.mul_le_mul I.l1 I.l2
          have := putL_len z1 z2 ps rest
          omega
        · have exx : Ex H H10 := fun b ob hb => e10 b ob (fun z => by
            subst z
            have h8 := (e1.trans (e4.trans e8)) _ _ hb
            rw [nx] at h8
            cases h8) ((e1.trans e49) _ _ hb)
          refine q x zs fd H10 (freshEx (e1.trans (e4.trans e8)) nx) exx (freshEx (e1.trans e49) nfd) hfd hst asc nd mem
end
end Bp

set_option Elab.async false
set_option linter.all false
set_option maxRecDepth 100000
set_option maxHeartbeats 4000000
namespace Bp
open PySem PySem.Spec PyProof.Rows L2 Evl
def spPutBad (C CL : Addr) : Sp := fun vs H _ E => ∃ (p1 p2 f1 f2 : Addr) (x : V) (sz sy : List Int) (z1 z2 : List Row) (pvs : List V) (ps : List (Nat × Nat)) (at' : Nat), vs = [.ref p1, .ref p2, x] ∧ StoreAt C H p1 sz z1 f1 ∧ StoreAt C H p2 sy z2 f2 ∧
  RowsOf H pvs (pairRows ps) ∧ (∀ q ∈ ps, q.1 < sz.length ∧ q.2 < sy.length ∧ sz[q.1]? = sy[q.2]?) ∧ (ps.map (·.1)).Nodup ∧ (ps.map (·.2)).Nodup ∧ ps.length ≤ 100 ∧
  ((NoSeq H x ∧ at' = 0) ∨ ∃ (l : Addr) (y : V) (more : List V), x = .ref l ∧ at' ≤ ps.length ∧ H l = some (.lst (pvs.take at' ++ [y] ++ more)) ∧ Odd H sz sy (ps.take at') y ∧ more.length ≤ 10) ∧
  ∀ d H', Ex H H' → H' d = some (.xd [(("at" : Str), .int (at' : Int))]) → E (.ref CL) (some d) H'
def spPutRefused (C CR : Addr) : Sp := fun vs H _ E => ∃ (p1 p2 a : Addr) (sz sy : List Int) (z1 z2 : List Row) (pvs : List V) (ps : List (Nat × Nat)), vs = [.ref p1, .ref p2, .ref a] ∧ PutIn C H p1 p2 a sz sy z1 z2 pvs ps ∧
  putL z1 z2 ps (restOf sy.length ps) = [] ∧ ∀ d H', Ex H H' → H' d = some (.xd [(("at" : Str), .int 0)]) → E (.ref CR) (some d) H'
section
variable {P : Program} {w : World} {K : PySem.W.Frag} {mg : Str → Option Value} {base : Heap}
theorem ok_putTogetherBad {f C CL CR fI fC : Addr} {fd fdI fdC : FuncData} (F : Fun K "put_together" "put_together" s_putTogether f fd) (B : Blt mg) (T : StTxt K mg C) (MRefused : MkAt P K mg "Refused" CR) (hSt : mg "Store" = some (.ref C)) (MkSt : Mk K C fI) (bSt : Binds K fdI ["self", "sizes", "states"] []) (G_StoreInit : FnOk P w K mg base CX0 5 fI fdI ["self", "sizes", "states"] (spStoreInit C))
    (D_checkedPairs : Dn K mg "checked_pairs" s_checkedPairs ["one", "other", "value"] fC fdC) (G_checkedPairs : FnOk P w K mg base (L2.CX P w) 5 fC fdC ["one", "other", "value"] (spCheckedBad C CL)) : FnOk P w K mg base (L2.CX P w) 7 f fd ["one", "other", "pairs"] (spPutBad C CL) := by
  refine F.okX sc_putTogether (fun vs H Q E h => ?_) (fun cdv A outer s H vs Q E hr h => ?_)
  · obtain ⟨p1, p2, f1, f2, x, sz, sy, z1, z2, pvs, ps, at', rfl, _⟩ := h
    rfl
  · obtain ⟨p1, p2, f1, f2, x, sz, sy, z1, z2, pvs, ps, at', rfl, S1, S2, rP, hps, n1, n2, p100, hx0, q⟩ := h
    refine ⟨_, (pss_cons (ps_set (i := 3) sc_putTogether.nd rfl (.inr rfl) (pe_call G_checkedPairs (hr.mono (by decide)) (by rfl) D_checkedPairs.g D_checkedPairs.F.kp D_checkedPairs.b .nil (passes_call (takes_of rfl rfl rfl rfl) (fun _ _ _ _ h => h)) (pa_cons (pv 0) (pa_cons (pv 1) (pa_cons (pv 2) pa_nil)))))
  (pss_cons (ps_setLc (i := 4) (own := [("key", 8)]) rfl sc_putTogether.nd rfl rfl (sw_true rfl rfl rfl (by decide +kernel)) (pi_range1 (by rfl) B.range (pa_cons (fldk (K := K) (pv 1)) pa_nil)) (blkOk_by (show blkC N_putTogether (defScope s_putTogether) _ _ = true by decide +kernel)) (fun _ _ _ _ _ => (pg_name (i := 8) sc_putTogether.nd rfl (Or.inl rfl))) (fun _ _ _ _ _ => (pts_one (pt_cmpR (ninSk (K := K)) (pv 8) (lck (own := [("first", 9), ("second", 10)]) rfl sc_putTogether.nd (by kernel_rfl) (piLk (K := K) (pv 3)) (fun _ _ _ _ _ => (pgTk (K := K) (n := 2) rfl (pgs_cons (pg_name (i := 9) sc_putTogether.nd rfl (Or.inl rfl)) (pgs_cons (pg_name (i := 10) sc_putTogether.nd rfl (Or.inl rfl)) pgs_nil)))) (fun _ _ _ _ _ => pts_nil) (fun _ _ _ _ _ => (pv 10))) rfl))) (fun _ _ _ _ _ => (pv 8)))
  (pss_cons (ps_set (i := 5) sc_putTogether.nd rfl (.inl rfl) (pe_lst pa_nil))
  (pss_cons (ps_for (passes_of rfl)  rfl (piTk (K := K) (fldk (K := K) (pv 0))) (pg_name (i := 6) sc_putTogether.nd rfl (Or.inr rfl))
    (pss_one (ps_for (passes_of rfl)  rfl (piTk (K := K) (fldk (K := K) (pv 1))) (pg_name (i := 7) sc_putTogether.nd rfl (Or.inr rfl))
    (pss_one (ps_if (pt_val (pe_callB (allk rfl (K := K)) (by rfl) B.all bt_all (pa_cons (lck (own := [("first", 9), ("second", 10)]) rfl sc_putTogether.nd (show blkC N_putTogether (defScope s_putTogether) _ _ = true by decide +kernel) (piLk (K := K) (pv 3)) (fun _ _ _ _ _ => (pgTk (K := K) (n := 2) rfl (pgs_cons (pg_name (i := 9) sc_putTogether.nd rfl (Or.inl rfl)) (pgs_cons (pg_name (i := 10) sc_putTogether.nd rfl (Or.inl rfl)) pgs_nil)))) (fun _ _ _ _ _ => pts_nil) (fun _ _ _ _ _ => (pe_cmpR op_eq (pe_ix (ixTk (K := K)) (pv 6) (pv 9) (fun _ _ => rfl)) (pe_ix (ixTk (K := K)) (pv 7) (pv 10) (fun _ _ => rfl)) (nomark _)))) pa_nil)))
    (pss_one (ps_expr (appk (K := K) (pv 5) (pa_cons (pe_tup (pastar (K := K) (pv 6) (pastar (K := K) (lck (own := [("key", 8)]) rfl sc_putTogether.nd (show blkC N_putTogether (defScope s_putTogether) _ _ = true by decide +kernel) (piLk (K := K) (pv 4)) (fun _ _ _ _ _ => (pg_name (i := 8) sc_putTogether.nd rfl (Or.inl rfl))) (fun _ _ _ _ _ => pts_nil) (fun _ _ _ _ _ => (pe_ix (ixTk (K := K)) (pv 7) (pv 8) (fun _ _ => rfl)))) pa_nil))) pa_nil))))
    pss_nil)))))
  (pss_cons (ps_if (pt_cmpR op_eq (pe_callB (lenk (K := K)) (by rfl) B.len bt_len (pa_cons (pv 5) pa_nil)) pe_int (nomark _))
    (pss_one (ps_raiseAt rfl MRefused (hr.mono (by decide)) (takes_of rfl rfl rfl rfl) (by exact (pa_cons pe_int pa_nil)) rfl rfl))
    pss_nil)
  (pss_one (ps_ret (pe_make MkSt G_StoreInit hr rfl hSt bSt .nil pass0 (pa_cons (pe_tup (pastar (K := K) (fldk (K := K) (pv 0)) (pastar (K := K) (lck (own := [("key", 8)]) rfl sc_putTogether.nd (show blkC N_putTogether (defScope s_putTogether) _ _ = true by decide +kernel) (piLk (K := K) (pv 4)) (fun _ _ _ _ _ => (pg_name (i := 8) sc_putTogether.nd rfl (Or.inl rfl))) (fun _ _ _ _ _ => pts_nil) (fun _ _ _ _ _ => (pe_ix (ixTk (K := K)) (fldk (K := K) (pv 1)) (pv 8) (fun _ _ => rfl)))) pa_nil))) (pa_cons (pv 5) pa_nil)))))))))), ?_⟩
    exact ⟨.ref p1, rfl, .ref p2, rfl, x, rfl, p1, p2, f1, f2, x, sz, sy, z1, z2, pvs, ps, at', rfl, S1, S2, rP, hps, n1, n2, p100, hx0, q⟩
theorem ok_putTogetherRefused {f C CR fI fC : Addr} {fd fdI fdC : FuncData} (F : Fun K "put_together" "put_together" s_putTogether f fd) (B : Blt mg) (T : StTxt K mg C) (MRefused : MkAt P K mg "Refused" CR) (hSt : mg "Store" = some (.ref C)) (MkSt : Mk K C fI) (bSt : Binds K fdI ["self", "sizes", "states"] []) (G_StoreInit : FnOk P w K mg base CX0 5 fI fdI ["self", "sizes", "states"] (spStoreInit C))
    (D_checkedPairs : Dn K mg "checked_pairs" s_checkedPairs ["one", "other", "value"] fC fdC) (G_checkedPairs : FnOk P w K mg base CX0 5 fC fdC ["one", "other", "value"] (spChecked C)) : FnOk P w K mg base (L2.CX P w) 7 f fd ["one", "other", "pairs"] (spPutRefused C CR) := by
  refine F.okX sc_putTogether (fun vs H Q E h => ?_) (fun cdv A outer s H vs Q E hr h => ?_)
  · obtain ⟨p1, p2, a, sz, sy, z1, z2, pvs, ps, rfl, _⟩ := h
    rfl
  · obtain ⟨p1, p2, a, sz, sy, z1, z2, pvs, ps, rfl, I, pne, q⟩ := h
    obtain ⟨f1, S1⟩ := I.s1
    obtain ⟨f2, S2⟩ := I.s2
    have n1 : 1 ≤ sz.length := List.length_pos_iff.mpr I.zOk.ne
    have zl := I.zOk.len
    have yl := I.yOk.len
    have rl := rest_len (m := sy.length) (ps := ps)
    have pl := pairs_len I.rP
    have p100 := I.p100
    refine ⟨_, (pss_cons (ps_set (i := 3) sc_putTogether.nd rfl (.inr rfl) (pe_call G_checkedPairs (hr.mono (by decide)) (by rfl) D_checkedPairs.g D_checkedPairs.F.kp D_checkedPairs.b .nil pass0 (pa_cons (pv 0) (pa_cons (pv 1) (pa_cons (pv 2) pa_nil)))))
  (pss_cons (ps_setLc (i := 4) (own := [("key", 8)]) rfl sc_putTogether.nd rfl rfl (sw_true rfl rfl rfl (by decide +kernel)) (pi_range1 (by rfl) B.range (pa_cons (fldk (K := K) (pv 1)) pa_nil)) (blkOk_by (show blkC N_putTogether (defScope s_putTogether) _ _ = true by decide +kernel)) (fun _ _ _ _ _ => (pg_name (i := 8) sc_putTogether.nd rfl (Or.inl rfl))) (fun _ _ _ _ _ => (pts_one (pt_cmpR (ninSk (K := K)) (pv 8) (lck (own := [("first", 9), ("second", 10)]) rfl sc_putTogether.nd (by kernel_rfl) (piLk (K := K) (pv 3)) (fun _ _ _ _ _ => (pgTk (K := K) (n := 2) rfl (pgs_cons (pg_name (i := 9) sc_putTogether.nd rfl (Or.inl rfl)) (pgs_cons (pg_name (i := 10) sc_putTogether.nd rfl (Or.inl rfl)) pgs_nil)))) (fun _ _ _ _ _ => pts_nil) (fun _ _ _ _ _ => (pv 10))) rfl))) (fun _ _ _ _ _ => (pv 8)))
  (pss_cons (ps_set (i := 5) sc_putTogether.nd rfl (.inl rfl) (pe_lst pa_nil))
  (pss_cons (ps_for (passes_of rfl)  rfl (piTk (K := K) (fldk (K := K) (pv 0))) (pg_name (i := 6) sc_putTogether.nd rfl (Or.inr rfl))
    (pss_one (ps_for (passes_of rfl)  rfl (piTk (K := K) (fldk (K := K) (pv 1))) (pg_name (i := 7) sc_putTogether.nd rfl (Or.inr rfl))
    (pss_one (ps_if (pt_val (pe_callB (allk rfl (K := K)) (by rfl) B.all bt_all (pa_cons (lck (own := [("first", 9), ("second", 10)]) rfl sc_putTogether.nd (show blkC N_putTogether (defScope s_putTogether) _ _ = true by decide +kernel) (piLk (K := K) (pv 3)) (fun _ _ _ _ _ => (pgTk (K := K) (n := 2) rfl (pgs_cons (pg_name (i := 9) sc_putTogether.nd rfl (Or.inl rfl)) (pgs_cons (pg_name (i := 10) sc_putTogether.nd rfl (Or.inl rfl)) pgs_nil)))) (fun _ _ _ _ _ => pts_nil) (fun _ _ _ _ _ => (pe_cmpR op_eq (pe_ix (ixTk (K := K)) (pv 6) (pv 9) (fun _ _ => rfl)) (pe_ix (ixTk (K := K)) (pv 7) (pv 10) (fun _ _ => rfl)) (nomark _)))) pa_nil)))
    (pss_one (ps_expr (appk (K := K) (pv 5) (pa_cons (pe_tup (pastar (K := K) (pv 6) (pastar (K := K) (lck (own := [("key", 8)]) rfl sc_putTogether.nd (show blkC N_putTogether (defScope s_putTogether) _ _ = true by decide +kernel) (piLk (K := K) (pv 4)) (fun _ _ _ _ _ => (pg_name (i := 8) sc_putTogether.nd rfl (Or.inl rfl))) (fun _ _ _ _ _ => pts_nil) (fun _ _ _ _ _ => (pe_ix (ixTk (K := K)) (pv 7) (pv 8) (fun _ _ => rfl)))) pa_nil))) pa_nil))))
    pss_nil)))))
  (pss_cons (ps_if (pt_cmpR op_eq (pe_callB (lenk (K := K)) (by rfl) B.len bt_len (pa_cons (pv 5) pa_nil)) pe_int (nomark _))
    (pss_one (ps_raiseAt rfl MRefused (hr.mono (by decide)) (takes_of rfl rfl rfl rfl) (by exact (pa_cons pe_int pa_nil)) rfl rfl))
    pss_nil)
  (pss_one (ps_ret (pe_make MkSt G_StoreInit hr rfl hSt bSt .nil pass0 (pa_cons (pe_tup (pastar (K := K) (fldk (K := K) (pv 0)) (pastar (K := K) (lck (own := [("key", 8)]) rfl sc_putTogether.nd (show blkC N_putTogether (defScope s_putTogether) _ _ = true by decide +kernel) (piLk (K := K) (pv 4)) (fun _ _ _ _ _ => (pg_name (i := 8) sc_putTogether.nd rfl (Or.inl rfl))) (fun _ _ _ _ _ => pts_nil) (fun _ _ _ _ _ => (pe_ix (ixTk (K := K)) (fldk (K := K) (pv 1)) (pv 8) (fun _ _ => rfl)))) pa_nil))) (pa_cons (pv 5) pa_nil)))))))))), ?_⟩
    refine ⟨.ref p1, rfl, .ref p2, rfl, .ref a, rfl, p1, p2, f1, f2, a, sz, sy, z1, z2, pvs, ps, rfl, S1, S2, I.at_, I.rP, I.hps, I.n1, I.n2, I.p100, fun so H1 nso e1 hso => ?_⟩
    have rP1 := I.rP.up e1
    obtain ⟨d1, za1, sa1, ix1, vs1, kv1, hp1, hz1, hs1, rz1, _⟩ := S1.up e1
    obtain ⟨d2, za2, sa2, ix2, vs2, kv2, hp2, hz2, hs2, rz2, _⟩ := S2.up e1
    -- rest
    refine ⟨.ref p2, rfl, p2, C, d2, _, _, rfl, hp2, T.cl, T.nC, sf_count, sy.length, rfl, by omega, by omega, fun D nD => ?_⟩
    refine lcR (σ := [some (.ref p1), some (.ref p2), some (.ref a), some (.ref so), none, none, none, none, none, none, none]) (n := ((sy.length : Nat) : Int).toNat) (fun i acc _ => acc = (asInts ((List.range i).filter fun k => decide (k ∉ ps.map fun p : Nat × Nat => p.2))).map V.int) nD (fun _ _ _ _ _ _ _ _ _ h => h) rfl (fun _ _ h => h) (by omega) ?_ ?_
    · rintro i hi acc H2 Cy Cn e2 rac cy cn
      rw [Int.zero_add]
      have hso2 := e2 _ _ hso
      refine ⟨rfl, .int (i : Int), rfl, .ref so, rfl, so, rfl, ⟨_, SqL.of hso2⟩, fun D2 nD2 => ?_⟩
      refine lcL (σ := [some (.ref p1), some (.ref p2), some (.ref a), some (.ref so), none, none, none, none, some (.int (i : Int)), none, none]) (xs := pvs) (fun j acc _ => acc = (asInts ((ps.take j).map fun p : Nat × Nat => p.2)).map V.int) nD2 (fun _ _ _ _ _ _ _ _ _ h => h) rfl (fun _ _ h => h) (SqL.of hso2) (by omega) ?_ ?_
      · rintro j z hz acc2 H3 Cy2 Cn2 e3 rac2 cy2 _
        obtain ⟨p, hp, hzp⟩ := pairRow rP1 hz
        obtain ⟨za, rfl, hza⟩ := isPairH (hzp.up (e2.trans e3))
        refine ⟨za, [.int (p.1 : Int), .int (p.2 : Int)], rfl, SqT.of hza, rfl, .int (p.1 : Int), [.int (p.2 : Int)], rfl, .int (p.2 : Int), [], rfl, rfl, rfl, tYesE ⟨.int (p.2 : Int), rfl, cy2 _ _ (Ex.refl _) ?_⟩⟩
        show acc2 ++ [_] = _
        rw [rac2, take_snoc hp]
        simp [asInts]
      · rintro acc2 H3 e3 hD2 rac2 _
        rw [pl, List.take_length] at rac2
        subst rac2
        have hin : inV (.int (i : Int)) ((asInts (ps.map fun p : Nat × Nat => p.2)).map V.int) = decide (i ∈ ps.map fun p : Nat × Nat => p.2) := by
          rw [inInts]
          exact decide_eq_decide.mpr mem_ints
        refine ⟨D2, _, rfl, .inl (SqL.of hD2), rfl, flatInts _, _, rfl, ifE (fun c3 => ?_) (fun c3 => ?_)⟩
        · refine ⟨.int (i : Int), rfl, cy _ _ e3 ?_⟩
          have c4 : i ∉ ps.map fun p : Nat × Nat => p.2 := of_decide_eq_false (hin ▸ notT c3)
          show acc ++ [_] = _
          rw [rac, rangeFilter, if_pos (decide_eq_true c4)]
          simp [asInts]
        · refine cn _ e3 ?_
          have c4 : i ∈ ps.map fun p : Nat × Nat => p.2 := of_decide_eq_true (hin ▸ notF c3)
          show acc = _
          rw [rac, rangeFilter, if_neg (by rw [decide_eq_true_iff]; exact fun h => h c4), List.append_nil]
    rintro racc H2 e2 hD rac _
    rw [show ((sy.length : Nat) : Int).toNat = sy.length by omega] at rac
    have rac : racc = (asInts (restOf sy.length ps)).map V.int := rac
    subst rac
    have hrest := rest_lt (m := sy.length) (ps := ps)
    generalize hgr : restOf sy.length ps = rest at *
    -- found = []
    refine ⟨Nat.zero_le _, fun o no => ?_⟩
    have e3 := e2.trans (Ex.new (o := .lst []) no)
    have hD3 := (Ex.new (o := .lst []) no) _ _ hD
    have ho3 := upd_same (H := H2) (a := o) (o := .lst [])
    have no1 : H1 o = none := freshEx e2 no
    have no2 := no
    generalize upd H2 o (.lst []) = H3 at *
    have e13 : Ex H H3 := e1.trans e3
    have ocase : ∀ H', Ex H1 H' → Ex H H' := fun H' e => e1.trans e
    -- for state in one.states
    refine ⟨.ref p1, rfl, p1, C, d1, _, _, rfl, e3 _ _ hp1, T.cl, T.nS, sf_states, sa1, rfl, ⟨_, SqT.of (e3 _ _ hs1)⟩, for_tup (K := K) (a := sa1) (xs := vs1) (fun i σ H' => ∃ v6 v7 fv, σ = [some (.ref p1), some (.ref p2), some (.ref a), some (.ref so), some (.ref D), some (.ref o), v6, v7, none, none, none] ∧ Ex H1 H' ∧ H' D = some (.lst ((asInts rest).map V.int)) ∧ H' o = some (.lst fv) ∧ RowsOf H' fv (putL (z1.take i) z2 ps rest)) ?_ ?_ ?_ ?_⟩
    · exact ⟨none, none, [], rfl, e3, hD3, ho3, .nil⟩
    · rintro i σ H' _ ⟨_, _, _, _, ex, _⟩
      exact SqT.of (ex _ _ hs1)
    · rintro i x σ H4 hx ⟨v6, v7, fv, rfl, e4, hD4, ho4, rf⟩
      obtain ⟨st, hst, hxs⟩ := pairedGet rz1 hx
      have lst := (I.r1 st (List.mem_of_getElem? hst)).len
      refine ⟨.ref p2, rfl, p2, C, d2, _, _, rfl, e4 _ _ hp2, T.cl, T.nS, sf_states, sa2, rfl, ⟨_, SqT.of (e4 _ _ hs2)⟩, for_tup (K := K) (a := sa2) (xs := vs2) (fun j σ H' => ∃ v7 fv, σ = [some (.ref p1), some (.ref p2), some (.ref a), some (.ref so), some (.ref D), some (.ref o), some x, v7, none, none, none] ∧ Ex H1 H' ∧ H' D = some (.lst ((asInts rest).map V.int)) ∧ H' o = some (.lst fv) ∧ RowsOf H' fv (putL (z1.take i) z2 ps rest ++ ((z2.take j).filter (fits ps st)).map (glue rest st))) ?_ ?_ ?_ ?_⟩
      · exact ⟨v7, fv, rfl, e4, hD4, ho4, by simpa using rf⟩
      · rintro j σ H' _ ⟨_, _, _, ex, _⟩
        exact SqT.of (ex _ _ hs2)
      · rintro j y σ H5 hy ⟨v7, fv, rfl, e5, hD5, ho5, rf⟩
        obtain ⟨row, hrow, hyr⟩ := pairedGet rz2 hy
        have lrow := (I.r2 row (List.mem_of_getElem? hrow)).len
        obtain ⟨xa, rfl, hxa⟩ := hxs.up e5
        obtain ⟨ya, rfl, hya⟩ := hyr.up e5
        have hso5 := e5 _ _ hso
        -- all([state[first] == row[second] for first, second in some])
        refine ⟨.ref so, rfl, so, rfl, ⟨_, SqL.of hso5⟩, fun D2 nD2 => ?_⟩
        refine lcL (σ := [some (.ref p1), some (.ref p2), some (.ref a), some (.ref so), some (.ref D), some (.ref o), some (.ref xa), some (.ref ya), none, none, none]) (xs := pvs) (fun k acc _ => ∃ bs : List Bool, acc = bs.map V.bl ∧ bs.all id = fits (ps.take k) st row) nD2 (fun _ _ _ _ _ _ _ _ _ h => h) ⟨[], rfl, rfl⟩ (fun _ _ h => h) (SqL.of hso5) (by omega) ?_ ?_
        · rintro k z hz acc H6 Cy Cn e6 ⟨bs, rfl, hbs⟩ cy _
          obtain ⟨p, hp, hzp⟩ := pairRow rP1 hz
          have hlt := I.hps p (List.mem_of_getElem? hp)
          obtain ⟨za, rfl, hza⟩ := isPairH (hzp.up (e5.trans e6))
          obtain ⟨u1, hu1, hu2⟩ := rowAt' (a := st) (k := p.1) (by omega)
          obtain ⟨u3, hu3, hu4⟩ := rowAt' (a := row) (k := p.2) (by omega)
          refine ⟨za, [.int (p.1 : Int), .int (p.2 : Int)], rfl, SqT.of hza, rfl, .int (p.1 : Int), [.int (p.2 : Int)], rfl, .int (p.2 : Int), [], rfl, rfl, rfl, tYesE ?_⟩
          refine ⟨.ref xa, rfl, .int (p.1 : Int), rfl, xa, _, _, _, rfl, rfl, SqT.of (e6 _ _ hxa), hu2, .ref ya, rfl, .int (p.2 : Int), rfl, ya, _, _, _, rfl, rfl, SqT.of (e6 _ _ hya), hu4, rfl, ?_⟩
          refine cy _ _ (Ex.refl _) ⟨bs ++ [decide (V.int u1 = V.int u3)], by simp, ?_⟩
          rw [List.all_append, hbs, fitsTakeB hp, hu1, hu3]
          congr 1
          by_cases c : u1 = u3
          · subst c; simp
          · have c2 : V.int u1 ≠ V.int u3 := fun z => c (V.int.inj z)
            simp [c, c2]
        · rintro acc H6 e6 hD2 ⟨bs, rfl, hbs⟩ _
          rw [pl, List.take_length] at hbs
          refine ⟨D2, bs, rfl, SqL.of hD2, _, rfl, ?_⟩
          rw [hbs]
          have e56 := e5.trans e6
          have ho6 := e6 _ _ ho5
          have hD6 := e6 _ _ hD5
          have rf6 := rf.up e6
          have hxa6 := e6 _ _ hxa
          have hya6 := e6 _ _ hya
          refine ifE (fun c3 => ?_) (fun c3 => ?_)
          · have hfl : fv.length ≤ 1000 := by
              rw [rf6.length, List.length_append, List.length_map]
              have h1 := putL_len (z1.take i) z2 ps rest
              have h2 := List.length_filter_le (fits ps st) (z2.take j)
              rw [List.length_take] at h1 h2
              have l1 := I.l1
              have l2 := I.l2
              have h3 : min i z1.length * z2.length ≤ 6 * 6 := Nat.mul_le_mul (by omega) l2
              omega
            refine ⟨.ref o, rfl, .inl ⟨rfl, _, SqL.of ho6⟩, .ref xa, rfl, xa, _, rfl, .inl (SqT.of hxa6), .ref D, rfl, D, rfl, ⟨_, SqL.of hD6⟩, fun D3 nD3 => ?_⟩
            refine lcL (σ := [some (.ref p1), some (.ref p2), some (.ref a), some (.ref so), some (.ref D), some (.ref o), some (.ref xa), some (.ref ya), none, none, none]) (xs := (asInts rest).map V.int) (fun k acc _ => acc = (onKeys (rest.take k) row).map V.int) nD3 (fun _ _ _ _ _ _ _ _ _ h => h) rfl (fun _ _ h => h) (SqL.of hD6) (by rw [ints_len]; omega) ?_ ?_
            · rintro k v hv acc2 H7 Cy Cn e7 racc2 cy _
              obtain ⟨k2, hk2, rfl⟩ := natAt hv
              obtain ⟨u1, hu1, hu2⟩ := rowAt' (a := row) (k := k2) (by have := hrest k2 (List.mem_of_getElem? hk2); omega)
              refine ⟨rfl, tYesE ⟨.ref ya, rfl, .int (k2 : Int), rfl, ya, _, _, _, rfl, rfl, SqT.of (e7 _ _ hya6), hu2, cy _ _ (Ex.refl _) ?_⟩⟩
              show acc2 ++ [_] = _
              rw [racc2, take_snoc hk2]
              unfold onKeys
              simp [List.getD_eq_getElem?_getD, hu1]
            · rintro acc2 H7 e7 hD3' racc2 _
              rw [ints_len, List.take_length] at racc2
              have hgl : (glue rest st row).map V.int = st.map V.int ++ (acc2 ++ []) := by
                rw [racc2, List.append_nil]; unfold glue; rw [List.map_append]
              refine ⟨D3, acc2, rfl, .inr (SqL.of hD3'), ?_, fun u nu => ?_⟩
              · rw [← hgl, List.length_map, glue_len]
                exact Nat.le_trans (by omega : st.length + rest.length ≤ 200) (by decide)
              · have e8 := e7.trans (Ex.new (o := .tup (st.map V.int ++ (acc2 ++ []))) nu)
                have ho8 := e8 _ _ ho6
                refine ⟨o, fv, .ref u, rfl, rfl, ho8, Nat.lt_of_lt_of_le (by omega : fv.length < 100000) (by decide), ?_⟩
                have nDo : D ≠ o := fun z => by subst z; rw [no] at hD; cases hD
                refine ⟨_, _, rfl, (e56.trans e8).mut no1, by rw [upd_ne nDo]; exact e8 _ _ hD6, upd_same, ?_⟩
                rw [filterTake _ hrow, if_pos c3, List.map_append, ← List.append_assoc (putL _ _ _ _)]
                exact RowsOf.wr ho8 ((rf6.up e8).snoc ⟨u, rfl, by rw [hgl]; exact upd_same⟩)
          · refine ⟨_, _, rfl, e56, hD6, ho6, ?_⟩
            rw [filterTake _ hrow, if_neg (by rw [c3]; simp), List.append_nil]
            exact rf6
      · rintro σ H5 ⟨v7, fv, rfl, e5, hD5, ho5, rf⟩
        refine ⟨_, _, _, rfl, e5, hD5, ho5, ?_⟩
        rw [putL_take hst]
        rw [rz2.length, List.take_length] at rf
        exact rf
    · rintro σ H4 ⟨v6, v7, fv, rfl, e4, hD4, ho4, rf⟩
      rw [show vs1.length = z1.length from rz1.length, List.take_length] at rf
      rw [pne] at rf
      cases rf
      refine ⟨.ref o, rfl, _, 0, rfl, .inl ⟨_, SqL.of ho4, rfl⟩, rfl, _, rfl, iteT ⟨_, rfl, fun d nd => q d _ ((ocase _ e4).trans (Ex.new nd)) upd_same⟩⟩
end
end Bp

set_option Elab.async false
set_option linter.all false
set_option maxRecDepth 100000
set_option maxHeartbeats 4000000
namespace Bp
open PySem PySem.Spec PyProof.Rows L2 Evl
/-! ### sorted of a tuple of ints -/
theorem sortedTupRaw {prog : Program} {w : World} {A : Around} {E : Value → Shared → Prop} {s : Shared} {t : Addr} {its : List Value} {ns : List Int} {Q : Value → Shared → Prop} (ht : s.heap.IsTuple t its.toArray) (hi : IntsAre its ns) (hz : its.length ≤ sizeLine)
    (h : ∀ (h' h2 : Heap) (out : List Value) (c : Nat), (∀ b o, s.heap.get? b = some o → h'.get? b = some o) → (∀ b o, h'.get? b = some o → h2.get? b = some o) → h2.get? h'.objs.size = some (seqObj "list" out.toArray c) → SrtO.Srtd SrtO.ltIv out → SrtO.Stb SrtO.ltIv out its → Q (.ref h'.objs.size) { s with heap := h2 }) :
    wpAny (model prog w) A (call (.builtin "sorted") [.ref t]) Q E s := by
  obtain ⟨o, ho, hc, n, hd⟩ := ht
  refine Calls.call_function_entry kind_sorted plain_sorted entry_sorted (args_sorted1 _) ?_
  unfold Builtin.«sorted»
  refine wpAny_bind (m := checkCount "sorted" 1 1 _) (wpAny_pure ?_)
  refine wpAny_bind (wpAny_collect_seq t (.inr rfl) ho hc hd (fun h' hk => ?_) (by simpa using hz))
  rw [show its.toArray.toList = its from rfl]
  refine wpAny_bind (wpAny_newList ?_ hz)
  have hoL : (h'.push (seqObj "list" its.toArray 0)).get? h'.objs.size = some (seqObj "list" its.toArray 0) := Heap.get?_push_size _ rfl
  refine wpAny_bind (wpAny_holding (wpAny_call_entry slot_list_sort ⟨_, hoL, rfl⟩ entry_list_sort (SrtO.list_sort_ord SrtO.swo_int hoL hz (fun h2 => SrtO.ints_sortable hi h2) fun out hs hb => ⟨_, rfl, ?_⟩) (args_list_sort _)))
  obtain ⟨c, hc2⟩ := sortedHeap_at (vs := its) (out := out.toArray) hoL
  refine wpAny_pure ⟨_, rfl, h h' _ out c hk (fun b u e => ?_) hc2 hs hb⟩
  have hlt := Heap.lt_size e
  show (sortedHeap (h'.push (seqObj "list" its.toArray 0)) h'.objs.size its out.toArray).get? b = some u
  rw [sortedHeap_old (Nat.ne_of_lt hlt) (by rw [size_push']; exact Nat.lt_succ_of_lt hlt)]
  exact Heap.get?_push_of_some _ e
def rSortedTI (K : PySem.W.Frag) : List V → Hp → VK → Prop := fun vs H Q => ∃ (a : Addr) (ns : List Int), vs = [V.ref a] ∧ SqT K H a (ns.map V.int) ∧
  ∀ (ns' : List Int) (p : Addr), ns'.Perm ns → ns'.Pairwise (· ≤ ·) → H p = none → Q (.ref p) (upd H p (.lst (ns'.map V.int)))
theorem sortedTIk {X : Cx} {K : PySem.W.Frag} (hK : X.K = K := by rfl) : CallR X (.builtin "sorted") (rSortedTI K) := by
  intro pins s σ H vs us Q I r h
  obtain ⟨a, ns, rfl, hs, q⟩ := h
  subst hK
  obtain ⟨its, rv, ht, hz⟩ := I.tuple hs
  rw [Vals.ref1 r]
  have hi := rv.ints
  refine sortedTupRaw ht hi (by rw [← rv.length]; exact hz) fun h' h2 out c k1 k2 hg h3 h4 => ?_
  obtain ⟨g1, g2, g3⟩ := SrtO.ints_out hi h3 h4
  have J : Inv X pins σ H { s with heap := h' } := I.kept (t' := s.toks) k1
  have hlen : ((out.map SrtO.iv).map V.int).length ≤ sizeLine := by
    rw [List.length_map, g2.length_eq]
    rw [List.length_map] at hz
    exact hz
  exact ⟨.ref _, upd H h'.objs.size (.lst ((out.map SrtO.iv).map V.int)), J.laid (t' := s.toks) k2 (Nat.le_refl _) ⟨hlen, out, c, vals_of_ints g1, hg⟩, rfl, q _ _ g2 g3 (J.hok.fresh (Nat.le_refl _))⟩
end Bp

set_option Elab.async false
set_option linter.all false
set_option maxRecDepth 100000
set_option maxHeartbeats 4000000
namespace Bp
open PySem PySem.Spec PyProof.Rows L2 Evl
abbrev s_changedKey : Stmt := topS 24
abbrev N_changedKey : List Str := ["one", "other", "key"]
theorem sc_changedKey : FnScope N_changedKey ["one", "other"] (defScope s_changedKey) := ⟨rfl, rfl, rfl, by decide +kernel, rfl, by decide +kernel, by decide +kernel⟩
abbrev s_checkedLot : Stmt := topS 15
abbrev N_checkedLot : List Str := ["store", "value", "seen", "at", "key"]
theorem sc_checkedLot : FnScope N_checkedLot ["store", "value"] (defScope s_checkedLot) := ⟨rfl, rfl, rfl, by decide +kernel, rfl, by decide +kernel, by decide +kernel⟩
abbrev s_otherKeys : Stmt := topS 16
abbrev N_otherKeys : List Str := ["store", "lot", "some", "key"]
theorem sc_otherKeys : FnScope N_otherKeys ["store", "lot"] (defScope s_otherKeys) := ⟨rfl, rfl, rfl, by decide +kernel, rfl, by decide +kernel, by decide +kernel⟩
abbrev s_StoreIndexOf : Stmt := inClass (topS 14) 3
abbrev N_StoreIndexOf : List Str := ["self", "state"]
theorem sc_StoreIndexOf : FnScope N_StoreIndexOf ["self", "state"] (defScope s_StoreIndexOf) := ⟨rfl, rfl, rfl, by decide +kernel, rfl, by decide +kernel, by decide +kernel⟩
def spChangedKey : Sp := fun vs H Q _ => ∃ (x y : V) (a b : Row) (k : Nat), vs = [x, y] ∧ IntT H x a ∧ IntT H y b ∧ Diff1 k a b ∧ a.length ≤ 100 ∧ ∀ H', Ex H H' → Q (.int (k : Int)) H'
theorem diff_only {k : Nat} {a b : Row} (d : Diff1 k a b) : (List.range a.length).filter (fun j => !(a[j]? == b[j]?)) = [k] := by
  have nd : ((List.range a.length).filter fun j => !(a[j]? == b[j]?)).Nodup := List.Pairwise.filter _ List.nodup_range
  have mk : k ∈ (List.range a.length).filter fun j => !(a[j]? == b[j]?) := by
    rw [List.mem_filter, List.mem_range]
    exact ⟨d.lt, by simpa using d.ne⟩
  have only : ∀ j ∈ (List.range a.length).filter fun j => !(a[j]? == b[j]?), j = k := fun j hj => by
    rw [List.mem_filter] at hj
    by_cases e : j = k
    · exact e
    · exact absurd (d.eq j e) (by simpa using hj.2)
  have h1 := one_of nd mk only
  obtain ⟨x, hx⟩ := List.length_eq_one_iff.mp h1
  rw [hx] at mk ⊢
  rw [List.mem_singleton.mp mk]
/-- a lot of keys, checked: the same keys -/
def spCheckedLot (C : Addr) : Sp := fun vs H Q _ => ∃ (p fd : Addr) (x : V) (sz : List Int) (zs : List Row) (ks : List Nat), vs = [.ref p, x] ∧ StoreAt C H p sz zs fd ∧ IntT H x (asInts ks) ∧ ks.Nodup ∧ (∀ k ∈ ks, k < sz.length) ∧ ks.length ≤ 100 ∧
  ∀ v H' (ms : List Int), Ex H H' → IntT H' v ms → ms.Perm (asInts ks) → Q v H'
def otherOf (n : Nat) (ks : List Nat) : List Nat := (List.range n).filter fun k => decide (k ∉ ks)
def spOtherKeys (C : Addr) : Sp := fun vs H Q _ => ∃ (p fd : Addr) (x : V) (sz : List Int) (zs : List Row) (ks : List Nat), vs = [.ref p, x] ∧ StoreAt C H p sz zs fd ∧ IntT H x (asInts ks) ∧ ks.Nodup ∧ (∀ k ∈ ks, k < sz.length) ∧ ks.length ≤ 100 ∧ sz.length ≤ 100 ∧
  ∀ v H', Ex H H' → IntT H' v (asInts (otherOf sz.length ks)) → Q v H'
def spIndexOf (C : Addr) : Sp := fun vs H Q _ => ∃ (p fd : Addr) (x : V) (sz : List Int) (zs : List Row) (r : Row), vs = [.ref p, x] ∧ StoreAt C H p sz zs fd ∧ IntT H x r ∧ ∀ u, (r ∈ zs → ∃ k : Int, u = .int k) → (r ∉ zs → u = .non) → Q u H
theorem asInts_inj {ks ms : List Nat} (h : asInts ks = asInts ms) : ks = ms := by
  unfold asInts at h
  induction ks generalizing ms with
  | nil => cases ms with
    | nil => rfl
    | cons _ _ => simp at h
  | cons k ks ih => cases ms with
    | nil => simp at h
    | cons m ms =>
      simp only [List.map_cons, List.cons.injEq] at h
      rw [ih h.2, show k = m by omega]
section
variable {P : Program} {w : World} {K : PySem.W.Frag} {mg : Str → Option Value} {base : Heap}
theorem ok_changedKey {f : Addr} {fd : FuncData} (F : Fun K "changed_key" "changed_key" s_changedKey f fd) (B : Blt mg) : FnOk P w K mg base CX0 1 f fd ["one", "other"] spChangedKey := by
  refine F.ok sc_changedKey (fun vs H Q E h => ?_) (fun cdv A outer s H vs Q E hr h => ?_)
  · obtain ⟨x, y, a, b, k, rfl, _⟩ := h
    rfl
  · obtain ⟨x, y, a, b, k, rfl, ⟨xa, rfl, hx⟩, ⟨ya, rfl, hy⟩, df, l100, q⟩ := h
    refine ⟨_, (pss_one (ps_ret (pe_ix (ixLk (K := K)) (lck (own := [("key", 2)]) rfl sc_changedKey.nd (show blkC N_changedKey (defScope s_changedKey) _ _ = true by decide +kernel) (pi_range1 (by rfl) B.range (pa_cons (pe_callB (lenk (K := K)) (by rfl) B.len bt_len (pa_cons (pv 0) pa_nil)) pa_nil)) (fun _ _ _ _ _ => (pg_name (i := 2) sc_changedKey.nd rfl (Or.inl rfl))) (fun _ _ _ _ _ => (pts_one (pt_cmpR op_ne (pe_ix (ixTk (K := K)) (pv 0) (pv 2) (fun _ _ => rfl)) (pe_ix (ixTk (K := K)) (pv 1) (pv 2) (fun _ _ => rfl)) (nomark _)))) (fun _ _ _ _ _ => (pv 2))) pe_int (fun _ _ => rfl)))), ?_⟩
    refine ⟨.ref xa, rfl, _, a.length, rfl, .inr ⟨_, SqT.of hx, by rw [List.length_map]⟩, a.length, rfl, by omega, by omega, fun D nD => ?_⟩
    refine lcR (n := ((a.length : Nat) : Int).toNat) (fun i acc _ => acc = (asInts ((List.range i).filter fun j => !(a[j]? == b[j]?))).map V.int) nD (fun _ _ _ _ _ _ _ _ _ h => h) rfl (fun _ _ h => h) (by omega) ?_ ?_
    · intro i hi acc H1 Cy Cn e1 rac cy cn
      rw [Int.zero_add]
      obtain ⟨u, hu1, hu2⟩ := rowAt' (a := a) (k := i) (by omega)
      obtain ⟨v, hv1, hv2⟩ := rowAt' (a := b) (k := i) (by rw [← df.len]; omega)
      refine ⟨rfl, .ref xa, rfl, .int (i : Int), rfl, xa, _, _, _, rfl, rfl, SqT.of (e1 _ _ hx), hu2, .ref ya, rfl, .int (i : Int), rfl, ya, _, _, _, rfl, rfl, SqT.of (e1 _ _ hy), hv2, rfl, _, rfl, ifE (fun c => ?_) (fun c => ?_)⟩
      · refine ⟨.int (i : Int), rfl, cy _ _ (Ex.refl _) ?_⟩
        have c' : u ≠ v := by intro z; subst z; simp at c
        show acc ++ [_] = _
        rw [rac, rangeFilter, hu1, hv1, if_pos (by simpa using c')]
        simp [asInts]
      · refine cn _ (Ex.refl _) ?_
        have c' : u = v := eqI (notF c)
        show acc = _
        rw [rac, rangeFilter, hu1, hv1, if_neg (by simp [c']), List.append_nil]
    · intro acc H1 e1 hD rac _
      rw [show ((a.length : Nat) : Int).toNat = a.length by omega, diff_only df] at rac
      refine ⟨D, acc, 0, .int (k : Int), rfl, rfl, SqL.of hD, by rw [rac]; rfl, q H1 e1⟩
theorem ok_checkedLot {f C fS fI : Addr} {fd fdS fdI : FuncData} (F : Fun K "checked_lot" "checked_lot" s_checkedLot f fd) (B : Blt mg) (T : StTxt K mg C) (D_isSequence : Dn K mg "is_sequence" s_isSequence ["value"] fS fdS) (G_isSequence : FnOk P w K mg base CX0 1 fS fdS ["value"] spIsSequence)
    (D_isIndex : Dn K mg "is_index" s_isIndex ["value", "many"] fI fdI) (G_isIndex : FnOk P w K mg base CX0 3 fI fdI ["value", "many"] spIsIndex) : FnOk P w K mg base CX0 4 f fd ["store", "value"] (spCheckedLot C) := by
  refine F.ok sc_checkedLot (fun vs H Q E h => ?_) (fun cdv A outer s H vs Q E hr h => ?_)
  · obtain ⟨p, fd, x, sz, zs, ks, rfl, _⟩ := h
    rfl
  · obtain ⟨p, fd', x, sz, zs, ks, rfl, ⟨d1, za, sa, ix, _, _, hp, hz, _⟩, ⟨xa, rfl, hx⟩, nd, hk, k100, q⟩ := h
    have hu := room1 hr
    refine ⟨_, (pss_cons (ps_if (pt_not (pt_val (pe_call G_isSequence (hr.mono (by decide)) (by rfl) D_isSequence.g D_isSequence.F.kp D_isSequence.b .nil pass0 (pa_cons (pv 1) pa_nil))))
    (pss_one ps_never)
    pss_nil)
  (pss_cons (ps_set (i := 2) sc_checkedLot.nd rfl (.inl rfl) pe_dnewK)
  (pss_cons (ps_for PassesOwn.never  rfl (enumTk (K := K) (by rfl) B.enumerate (pa_cons (pv 1) pa_nil)) (pgTk (K := K) (n := 2) rfl (pgs_cons (pg_name (i := 3) sc_checkedLot.nd rfl (Or.inl rfl)) (pgs_cons (pg_name (i := 4) sc_checkedLot.nd rfl (Or.inl rfl)) pgs_nil)))
    (pss_cons (ps_if (PW.pt (pw_or (pt_not (pt_val (pe_call G_isIndex (hr.mono (by decide)) (by rfl) D_isIndex.g D_isIndex.F.kp D_isIndex.b .nil pass0 (pa_cons (pv 4) (pa_cons (fldk (K := K) (pv 0)) pa_nil))))) (pw_or1 (pt_cmp (pc_din hu (pv 4) (pv 2))))))
    (pss_one ps_never)
    pss_nil)
  (pss_one (ps_dput hu (pv 2) (pv 4) pe_bl rfl))))
  (pss_one (ps_ret (pe_callTy (tupOfk (K := K)) (by rfl) B.tuple bt_tuple (pa_cons (pe_callB (sortedTIk (K := K)) (by rfl) B.sorted bt_sorted (pa_cons (pv 1) pa_nil)) pa_nil))))))), ?_⟩
    refine ⟨.ref xa, rfl, .ref xa, rfl, .inl ⟨⟨xa, _, rfl, .inr hx⟩, fun H1 e1 => ⟨_, rfl, iteF fun o no => ?_⟩⟩⟩
    have e2 := e1.trans (Ex.new (o := .dK []) no)
    have no0 := freshEx e1 no
    refine ⟨.ref xa, rfl, xa, _, rfl, SqT.of (e2 _ _ hx), forET (K := K) (a := xa) (xs := (asInts ks).map V.int) (fun i σ H' => ∃ v3 v4 kvs, σ = [some (.ref p), some (.ref xa), some (.ref o), v3, v4] ∧ Ex H H' ∧ H' o = some (.dK kvs) ∧ kvs.length ≤ i ∧ ∀ k : Nat, k ∉ ks.take i → valV kvs (Sum.inl (k : Int)) = none) ?_ ?_ ?_ ?_⟩
    · exact ⟨none, none, [], rfl, e2, upd_same, Nat.le_refl _, fun _ _ => rfl⟩
    · rintro i σ H' _ ⟨_, _, _, _, e, _⟩
      exact SqT.of (e _ _ hx)
    · rintro i v T' σ H2 hv ⟨v3, v4, kvs, rfl, e3, ho, hkl, hno⟩ nT
      obtain ⟨k, hki, rfl⟩ := natAt hv
      have hkm := hk k (List.mem_of_getElem? hki)
      have hil := (List.getElem?_eq_some_iff.mp hki).1
      have e4 := e3.trans (Ex.new (o := .tup [.int (i : Int), .int (k : Int)]) nT)
      have ho4 := (Ex.new (o := .tup [.int (i : Int), .int (k : Int)]) nT) _ _ ho
      refine ⟨T', [.int (i : Int), .int (k : Int)], rfl, SqT.of upd_same, rfl, .int (i : Int), [.int (k : Int)], rfl, .int (k : Int), [], rfl, rfl, ?_⟩
      refine ⟨.int (k : Int), rfl, .ref p, rfl, p, C, d1, _, _, rfl, e4 _ _ hp, T.cl, T.nC, sf_count, .int (k : Int), (sz.length : Int), rfl, .int _, fun H5 e5 => ⟨_, rfl, ?_⟩⟩
      rw [idx_true (by omega) (by omega : (k : Int) < (sz.length : Int))]
      have ho5 := e5 _ _ ho4
      have hno' : valV kvs (Sum.inl (k : Int)) = none := hno k fun h => nodup_at nd hki h rfl
      refine iteF ⟨.int (k : Int), rfl, .ref o, rfl, o, _, rfl, DGet.k (k := Sum.inl (k : Int)) ho5, _, rfl, ?_⟩
      rw [hno']
      refine iteF ⟨.ref o, rfl, .int (k : Int), rfl, o, _, rfl, DPut.k (k := Sum.inl (k : Int)) ho5 (Nat.lt_of_lt_of_le (by omega : kvs.length < 1000) (by decide)), ?_⟩
      refine ⟨_, _, _, rfl, (e4.trans e5).mut no0, upd_same, by have := length_putK kvs (Sum.inl (k : Int)) (.bl true); omega, fun j hj => ?_⟩
      rw [take_snoc hki] at hj
      rw [valV_put, if_neg (fun z => hj (by
        have : j = k := by have := Sum.inl.inj z; omega
        rw [this]; simp))]
      exact hno j fun h => hj (List.mem_append_left _ h)
    · rintro σ H2 ⟨v3, v4, kvs, rfl, e3, _⟩
      refine ⟨.ref xa, rfl, xa, asInts ks, rfl, SqT.of (e3 _ _ hx), fun ms l pm _ nl => ?_⟩
      have e4 := e3.trans (Ex.new (o := .lst (ms.map V.int)) nl)
      exact ⟨l, _, rfl, .inl ⟨SqL.of upd_same, fun t nt => q _ _ ms (e4.trans (Ex.new nt)) ⟨t, rfl, upd_same⟩ pm⟩⟩
theorem ok_otherKeys {f C fL : Addr} {fd fdL : FuncData} (F : Fun K "other_keys" "other_keys" s_otherKeys f fd) (B : Blt mg) (T : StTxt K mg C) (D_checkedLot : Dn K mg "checked_lot" s_checkedLot ["store", "value"] fL fdL) (G_checkedLot : FnOk P w K mg base CX0 4 fL fdL ["store", "value"] (spCheckedLot C)) :
    FnOk P w K mg base CX0 5 f fd ["store", "lot"] (spOtherKeys C) := by
  refine F.ok sc_otherKeys (fun vs H Q E h => ?_) (fun cdv A outer s H vs Q E hr h => ?_)
  · obtain ⟨p, fd, x, sz, zs, ks, rfl, _⟩ := h
    rfl
  · obtain ⟨p, fd', x, sz, zs, ks, rfl, S, hx, nd, hk, k100, n100, q⟩ := h
    refine ⟨_, (pss_cons (ps_set (i := 2) sc_otherKeys.nd rfl (.inr rfl) (pe_call G_checkedLot (hr.mono (by decide)) (by rfl) D_checkedLot.g D_checkedLot.F.kp D_checkedLot.b .nil pass0 (pa_cons (pv 0) (pa_cons (pv 1) pa_nil))))
  (pss_one (ps_ret (pe_callTy (tupOfk (K := K)) (by rfl) B.tuple bt_tuple (pa_cons (lck (own := [("key", 3)]) rfl sc_otherKeys.nd (show blkC N_otherKeys (defScope s_otherKeys) _ _ = true by decide +kernel) (pi_range1 (by rfl) B.range (pa_cons (fldk (K := K) (pv 0)) pa_nil)) (fun _ _ _ _ _ => (pg_name (i := 3) sc_otherKeys.nd rfl (Or.inl rfl))) (fun _ _ _ _ _ => (pts_one (pt_cmpR (ninSk (K := K)) (pv 3) (pv 2) rfl))) (fun _ _ _ _ _ => (pv 3))) pa_nil))))), ?_⟩
    refine ⟨.ref p, rfl, x, rfl, p, fd', x, sz, zs, ks, rfl, S, hx, nd, hk, k100, fun v H1 ms e1 hv pm => ?_⟩
    obtain ⟨d1, za, sa, ix, _, _, hp, hz, _⟩ := S.up e1
    obtain ⟨va, rfl, hva⟩ := hv
    refine ⟨.ref p, rfl, p, C, d1, _, _, rfl, hp, T.cl, T.nC, sf_count, sz.length, rfl, by omega, by omega, fun D nD => ?_⟩
    refine lcR (n := ((sz.length : Nat) : Int).toNat) (fun i acc _ => acc = (asInts ((List.range i).filter fun k => decide (k ∉ ks))).map V.int) nD (fun _ _ _ _ _ _ _ _ _ h => h) rfl (fun _ _ h => h) (by omega) ?_ ?_
    · intro i hi acc H2 Cy Cn e2 rac cy cn
      rw [Int.zero_add]
      have hin : inV (.int (i : Int)) (ms.map V.int) = decide (i ∈ ks) := by
        rw [inInts]
        exact decide_eq_decide.mpr (pm.mem_iff.trans mem_ints)
      refine ⟨rfl, .int (i : Int), rfl, .ref va, rfl, va, _, rfl, .inr (SqT.of (e2 _ _ hva)), rfl, flatInts _, _, rfl, ifE (fun c => ?_) (fun c => ?_)⟩
      · refine ⟨.int (i : Int), rfl, cy _ _ (Ex.refl _) ?_⟩
        have c4 : i ∉ ks := of_decide_eq_false (hin ▸ notT c)
        show acc ++ [_] = _
        rw [rac, rangeFilter, if_pos (decide_eq_true c4)]
        simp [asInts]
      · refine cn _ (Ex.refl _) ?_
        have c4 : i ∈ ks := of_decide_eq_true (hin ▸ notF c)
        show acc = _
        rw [rac, rangeFilter, if_neg (by rw [decide_eq_true_iff]; exact fun h => h c4), List.append_nil]
    · intro acc H2 e2 hD rac _
      rw [show ((sz.length : Nat) : Int).toNat = sz.length by omega] at rac
      exact ⟨D, acc, rfl, .inl ⟨SqL.of hD, fun t nt => q _ _ ((e1.trans e2).trans (Ex.new nt)) ⟨t, rfl, by rw [upd_same, rac]; rfl⟩⟩⟩
theorem ok_indexOf {f C : Addr} {fd : FuncData} (F : Fun K "index_of" "Store.index_of" s_StoreIndexOf f fd) (T : StTxt K mg C) : FnOk P w K mg base CX0 1 f fd ["self", "state"] (spIndexOf C) := by
  refine F.ok sc_StoreIndexOf (fun vs H Q E h => ?_) (fun cdv A outer s H vs Q E hr h => ?_)
  · obtain ⟨p, fd, x, sz, zs, r, rfl, _⟩ := h
    rfl
  · obtain ⟨p, fd', x, sz, zs, r, rfl, ⟨d1, za, sa, ix, _, kvs, hp, hz, _, _, hix, hin, hout⟩, hx, q⟩ := h
    have hu := room1 hr
    obtain ⟨xa, rfl, hxa⟩ := hx.key
    refine ⟨_, (pss_one (ps_ret (pe_dget1 hu (fldk (K := K) (pv 0)) (pv 1) ⟨rfl, rfl, rfl, rfl⟩))), ?_⟩
    refine ⟨.ref p, rfl, p, C, d1, _, _, rfl, hp, T.cl, T.nI, sf_index, ix, rfl, .inr ⟨kvs, .inl hix⟩, .ref xa, rfl, valV kvs (keyR r), DGet.t hix hxa, ?_⟩
    refine q _ (fun h => ?_) (fun h => ?_)
    · obtain ⟨k, e⟩ := hin r h
      exact ⟨k, by rw [e]; rfl⟩
    · rw [hout r h]; rfl
end
end Bp

set_option Elab.async false
set_option linter.all false
set_option maxRecDepth 100000
set_option maxHeartbeats 4000000
namespace Bp
open PySem PySem.Spec PyProof.Rows L2 Evl
abbrev s_near : Stmt := topS 18
abbrev N_near : List Str := ["store", "state", "found", "key", "value", "other"]
theorem sc_near : FnScope N_near ["store", "state"] (defScope s_near) := ⟨rfl, rfl, rfl, by decide +kernel, rfl, by decide +kernel, by decide +kernel⟩
theorem set_diff {a r : Row} {i : Nat} {v x : Int} (hx : a[i]? = some x) (ne : v ≠ x) : r = a.set i v ↔ Diff1 i a r ∧ r[i]? = some v := by
  have hi := (List.getElem?_eq_some_iff.mp hx).1
  constructor
  · rintro rfl
    refine ⟨⟨by simp, ?_, fun j hj => ?_⟩, ?_⟩
    · rw [hx, List.getElem?_set_self hi]
      exact fun e => ne (Option.some.inj e).symm
    · rw [List.getElem?_set_ne hj.symm]
    · rw [List.getElem?_set_self hi]
  · rintro ⟨d, h⟩
    refine List.ext_getElem? fun j => ?_
    by_cases e : j = i
    · subst e; rw [h, List.getElem?_set_self hi]
    · rw [List.getElem?_set_ne (fun z => e z.symm), d.eq j e]
theorem set_cut {a : Row} {i : Nat} {v : Int} (h : i < a.length) : (a.set i v).map V.int = (a.take i).map V.int ++ (V.int v :: ((a.drop (i + 1)).map V.int ++ [])) := by
  rw [List.set_eq_take_append_cons_drop, if_pos h]
  simp
theorem setRow {sz : List Int} {a : Row} {i : Nat} {v n : Int} (h : RowOk sz a) (hn : sz[i]? = some n) (h0 : 0 ≤ v) (h1 : v < n) : RowOk sz (a.set i v) := by
  have hi := (List.getElem?_eq_some_iff.mp hn).1
  refine ⟨by simp [h.len], fun j x m g1 g2 => ?_⟩
  by_cases e : j = i
  · subst e
    rw [List.getElem?_set_self (by rw [h.len]; exact hi)] at g1
    rw [hn] at g2
    cases g1
    cases g2
    exact ⟨h0, h1⟩
  · rw [List.getElem?_set_ne (fun z => e z.symm)] at g1
    exact h.each j x m g1 g2
/-- sizes and states of a store that is in use -/
structure InUse (sz : List Int) (zs : List Row) : Prop where
  ne : sz ≠ []
  l8 : sz.length ≤ 8
  each : ∀ n ∈ sz, 1 ≤ n ∧ n ≤ 4
  rows : ∀ r ∈ zs, RowOk sz r
  few : zs.length < 64
theorem InUse.bd {sz : List Int} {zs : List Row} (u : InUse sz zs) {r : Row} (h : RowOk sz r) : TS.Bd 4 r := fun x hx => by
  obtain ⟨i, hi⟩ := List.getElem?_of_mem hx
  have hl : i < sz.length := by have := (List.getElem?_eq_some_iff.mp hi).1; rw [h.len] at this; exact this
  have h1 := h.each i x sz[i] hi (List.getElem?_eq_getElem hl)
  have h2 := u.each sz[i] (List.getElem_mem hl)
  omega
/-- the states that differ from a state in one key, in a new list -/
def spNear (C : Addr) : Sp := fun vs H Q _ => ∃ (p fd : Addr) (x : V) (sz : List Int) (zs : List Row) (st : Row), vs = [.ref p, x] ∧ StoreAt C H p sz zs fd ∧ IntT H x st ∧ RowOk sz st ∧ InUse sz zs ∧
  ∀ q ys ns H', H q = none → Ex H H' → H' q = some (.lst ys) → RowsOf H' ys ns → (∀ r, r ∈ ns ↔ r ∈ zs ∧ ∃ k, Diff1 k st r) → ns.length < 64 → Q (.ref q) H'
section
variable {P : Program} {w : World} {K : PySem.W.Frag} {mg : Str → Option Value} {base : Heap}
theorem ok_near {f C fI : Addr} {fd fdI : FuncData} (F : Fun K "near" "near" s_near f fd) (B : Blt mg) (T : StTxt K mg C) (mIdx : Meth K C "index_of" fI) (bIdx : Binds K fdI ["self", "state"] []) (G_StoreIndexOf : FnOk P w K mg base CX0 1 fI fdI ["self", "state"] (spIndexOf C)) :
    FnOk P w K mg base CX0 2 f fd ["store", "state"] (spNear C) := by
  refine F.ok sc_near (fun vs H Q E h => ?_) (fun cdv A outer s H vs Q E hr h => ?_)
  · obtain ⟨p, fd, x, sz, zs, st, rfl, _⟩ := h
    rfl
  · obtain ⟨p, fd', x, sz, zs, st, rfl, S, ⟨xa, rfl, hx⟩, ok, iu, q⟩ := h
    obtain ⟨d1, za, sa, ix, vs1, kvs1, hp, hz, hs, rz, hix, hin, hout⟩ := id S
    have hd1 : 1 ≤ sz.length := List.length_pos_iff.mpr iu.ne
    have l8 := iu.l8
    have nam : (StoreF (sz.length : Int) za sa ix fd').lookup ("index_of" : Str) = none := sf_no (by decide +kernel) (by decide +kernel) (by decide +kernel) (by decide +kernel) (by decide +kernel)
    refine ⟨_, (pss_cons (ps_set (i := 2) sc_near.nd rfl (.inl rfl) (pe_lst pa_nil))
  (pss_cons (ps_for PassesOwn.never  rfl (pi_range1 (by rfl) B.range (pa_cons (fldk (K := K) (pv 0)) pa_nil)) (pg_name (i := 3) sc_near.nd rfl (Or.inl rfl))
    (pss_one (ps_for PassesOwn.never  rfl (pi_range1 (by rfl) B.range (pa_cons (pe_ix (ixTk (K := K)) (fldk (K := K) (pv 0)) (pv 3) (fun _ _ => rfl)) pa_nil)) (pg_name (i := 4) sc_near.nd rfl (Or.inl rfl))
    (pss_cons (ps_set (i := 5) sc_near.nd rfl (.inl rfl) (pe_tup (pastar (K := K) (pe_slice (slTk (K := K)) (pv 1) po_none (po_some (pv 3))) (pa_cons (pv 4) (pastar (K := K) (pe_slice (slTk (K := K)) (pv 1) (po_some (pe_op op_add (pv 3) pe_int)) po_none) pa_nil)))))
  (pss_one (ps_if (PW.pt (pw_and (pt_cmpR op_ne (pv 4) (pe_ix (ixTk (K := K)) (pv 1) (pv 3) (fun _ _ => rfl)) (nomark _)) (pw_and1 (pt_cmpR op_notN (pe_meth (pv 0) T.cl mIdx G_StoreIndexOf (hr.mono (by decide)) bIdx .nil pass0 (pa_cons (pv 5) pa_nil)) pe_non (nomark _)))))
    (pss_one (ps_expr (appk (K := K) (pv 2) (pa_cons (pv 5) pa_nil))))
    pss_nil))))))
  (pss_one (ps_ret (pe_callB (cr_sortT (d := sz.length) (B := 4) hd1) (by rfl) B.sorted bt_sorted (pa_cons (pv 2) pa_nil)))))), ?_⟩
    refine ⟨Nat.zero_le _, fun o no => ?_⟩
    have e0 := Ex.new (H := H) (o := .lst []) no
    refine ⟨.ref p, rfl, p, C, d1, _, _, rfl, e0 _ _ hp, T.cl, T.nC, sf_count, sz.length, rfl, by omega, by omega, for_range (n := ((sz.length : Nat) : Int).toNat) (fun i σ H' => ∃ v3 v4 v5 fv ns, σ = [some (.ref p), some (.ref xa), some (.ref o), v3, v4, v5] ∧ Ex H H' ∧ H' o = some (.lst fv) ∧ RowsOf H' fv ns ∧ (∀ r, r ∈ ns ↔ r ∈ zs ∧ ∃ k, k < i ∧ Diff1 k st r) ∧ ns.length ≤ 4 * i) ?_ ?_ ?_⟩
    · exact ⟨none, none, none, [], [], rfl, e0, upd_same, .nil, fun r => ⟨fun h => by simp at h, fun ⟨_, k, h, _⟩ => absurd h (Nat.not_lt_zero _)⟩, by simp⟩
    · rintro i σ H1 hi ⟨v3, v4, v5, fv, ns, rfl, e1, ho, rf, hns, hlen⟩
      have hi' : i < sz.length := by omega
      rw [Int.zero_add]
      obtain ⟨n, hn1, hn2⟩ := rowAt' (a := sz) (k := i) hi'
      obtain ⟨sx, hsx1, hsx2⟩ := rowAt' (a := st) (k := i) (by rw [ok.len]; exact hi')
      have n4 := iu.each n (List.mem_of_getElem? hn1)
      refine ⟨.ref p, rfl, p, C, d1, _, _, rfl, e1 _ _ hp, T.cl, T.nZ, sf_sizes, .int (i : Int), rfl, za, _, _, _, rfl, rfl, SqT.of (e1 _ _ hz), hn2, n, rfl, by omega, by omega, for_range (n := n.toNat) (fun j σ H' => ∃ v4 v5 fv ns, σ = [some (.ref p), some (.ref xa), some (.ref o), some (.int (i : Int)), v4, v5] ∧ Ex H H' ∧ H' o = some (.lst fv) ∧ RowsOf H' fv ns ∧
        (∀ r, r ∈ ns ↔ r ∈ zs ∧ ((∃ k, k < i ∧ Diff1 k st r) ∨ ∃ v : Nat, v < j ∧ Diff1 i st r ∧ r[i]? = some (v : Int))) ∧ ns.length ≤ 4 * i + j) ?_ ?_ ?_⟩
      · refine ⟨v4, v5, fv, ns, rfl, e1, ho, rf, fun r => (hns r).trans ?_, by omega⟩
        constructor
        · rintro ⟨h1, h2⟩; exact ⟨h1, .inl h2⟩
        · rintro ⟨h1, h2 | ⟨v, h, _⟩⟩
          · exact ⟨h1, h2⟩
          · exact absurd h (Nat.not_lt_zero _)
      · rintro j σ H2 hj ⟨v4, v5, fv, ns, rfl, e2, ho, rf, hns, hlen⟩
        rw [Int.zero_add]
        have hx2 := e2 _ _ hx
        have lst : i < st.length := by rw [ok.len]; exact hi'
        -- other = (*state[:key], value, *state[key + 1:])
        refine ⟨.ref xa, rfl, .int (i : Int), rfl, i, rfl, xa, _, rfl, SqT.of hx2, fun z => absurd z.2 (by rw [HT.sIx_nat, List.length_map]; omega), fun _ c nc => ?_⟩
        rw [cut_take]
        have f1 := Ex.new (o := .tup ((st.map V.int).take i)) nc
        have hc1 := upd_same (H := H2) (a := c) (o := .tup ((st.map V.int).take i))
        generalize upd H2 c (.tup ((st.map V.int).take i)) = H3 at *
        refine ⟨c, _, rfl, .inl (SqT.of hc1), .int (j : Int), rfl, .ref xa, rfl, .int (i : Int), rfl, _, _, rfl, rfl, (i : Int) + 1, rfl, xa, _, rfl, SqT.of (f1 _ _ hx2), fun z => absurd z.1 ?_, fun _ d nd => ?_⟩
        · rw [show (i : Int) + 1 = ((i + 1 : Nat) : Int) by omega, HT.sIx_nat, List.length_map]
          omega
        rw [show (i : Int) + 1 = ((i + 1 : Nat) : Int) by omega, cut_drop]
        have f2 := f1.trans (Ex.new (o := .tup ((st.map V.int).drop (i + 1))) nd)
        have hd2 := upd_same (H := H3) (a := d) (o := .tup ((st.map V.int).drop (i + 1)))
        generalize upd H3 d (.tup ((st.map V.int).drop (i + 1))) = H4 at *
        have hoth : (st.map V.int).take i ++ (V.int (j : Int) :: ((st.map V.int).drop (i + 1) ++ [])) = (st.set i (j : Int)).map V.int := by
          rw [set_cut lst, List.map_take, List.map_drop]
        refine ⟨d, _, rfl, .inl (SqT.of hd2), ?_, fun t nt => ?_⟩
        · rw [hoth, List.length_map, List.length_set, ok.len]
          exact Nat.le_trans l8 (by decide)
        rw [hoth]
        have f3 := f2.trans (Ex.new (o := .tup ((st.set i (j : Int)).map V.int)) nt)
        have ht3 : IntT (upd H4 t (.tup ((st.set i (j : Int)).map V.int))) (.ref t) (st.set i (j : Int)) := ⟨t, rfl, upd_same⟩
        generalize upd H4 t (.tup ((st.set i (j : Int)).map V.int)) = H5 at *
        have e5 := e2.trans f3
        have ho5 := f3 _ _ ho
        have rf5 := rf.up f3
        -- nothing new: what stood stays
        have skip : ∀ H6, Ex H5 H6 → ¬ (st.set i (j : Int) ∈ zs ∧ (j : Int) ≠ sx) → ∃ v4 v5 fv ns, [some (V.ref p), some (.ref xa), some (.ref o), some (.int (i : Int)), some (.int (j : Int)), some (.ref t)] = [some (.ref p), some (.ref xa), some (.ref o), some (.int (i : Int)), v4, v5] ∧ Ex H H6 ∧ H6 o = some (.lst fv) ∧ RowsOf H6 fv ns ∧
            (∀ r, r ∈ ns ↔ r ∈ zs ∧ ((∃ k, k < i ∧ Diff1 k st r) ∨ ∃ v : Nat, v < j + 1 ∧ Diff1 i st r ∧ r[i]? = some (v : Int))) ∧ ns.length ≤ 4 * i + (j + 1) := fun H6 e6 hno => by
          refine ⟨_, _, fv, ns, rfl, e5.trans e6, e6 _ _ ho5, rf5.up e6, fun r => (hns r).trans ?_, by omega⟩
          constructor
          · rintro ⟨h1, h2 | ⟨v, hv, h3⟩⟩
            · exact ⟨h1, .inl h2⟩
            · exact ⟨h1, .inr ⟨v, by omega, h3⟩⟩
          · rintro ⟨h1, h2 | ⟨v, hv, h3, h4⟩⟩
            · exact ⟨h1, .inl h2⟩
            · by_cases c : v < j
              · exact ⟨h1, .inr ⟨v, c, h3, h4⟩⟩
              · have hvj : v = j := by omega
                subst hvj
                have hne : (v : Int) ≠ sx := fun z => h3.ne (by rw [hsx1, h4, z])
                exact absurd ⟨(set_diff hsx1 hne).mpr ⟨h3, h4⟩ ▸ h1, hne⟩ hno
        refine ⟨.int (j : Int), rfl, .ref xa, rfl, .int (i : Int), rfl, xa, _, _, _, rfl, rfl, SqT.of (f3 _ _ hx2), hsx2, rfl, _, rfl, ifE (fun c1 => ?_) (fun c1 => iteF (skip H5 (Ex.refl _) fun z => z.2 (eqI (notF c1))))⟩
        have hne : (j : Int) ≠ sx := by intro z; rw [z] at c1; simp at c1
        refine ⟨.ref p, rfl, p, d1, _, rfl, e5 _ _ hp, nam, .ref t, rfl, p, fd', .ref t, sz, zs, _, rfl, S.up e5, ht3, fun u hu1 hu2 => ⟨rfl, _, rfl, ifE (fun c2 => ?_) (fun c2 => ?_)⟩⟩
        · have hm : st.set i (j : Int) ∈ zs := by
            by_cases c3 : st.set i (j : Int) ∈ zs
            · exact c3
            · rw [hu2 c3] at c2; simp at c2
          refine ⟨.ref o, rfl, .inl ⟨rfl, _, SqL.of ho5⟩, .ref t, rfl, o, fv, _, rfl, rfl, ho5, Nat.lt_of_lt_of_le (by rw [rf5.length]; omega : fv.length < 100000) (by decide), ?_⟩
          refine ⟨_, _, _, ns ++ [st.set i (j : Int)], rfl, e5.mut no, upd_same, RowsOf.wr ho5 (rf5.snoc ht3), fun r => ?_, by simp; omega⟩
          rw [List.mem_append, hns r, List.mem_singleton, set_diff hsx1 hne]
          constructor
          · rintro (⟨h1, h2 | ⟨v, hv, h3⟩⟩ | ⟨h3, h4⟩)
            · exact ⟨h1, .inl h2⟩
            · exact ⟨h1, .inr ⟨v, by omega, h3⟩⟩
            · exact ⟨(set_diff hsx1 hne).mpr ⟨h3, h4⟩ ▸ hm, .inr ⟨j, by omega, h3, h4⟩⟩
          · rintro ⟨h1, h2 | ⟨v, hv, h3, h4⟩⟩
            · exact .inl ⟨h1, .inl h2⟩
            · by_cases c : v < j
              · exact .inl ⟨h1, .inr ⟨v, c, h3, h4⟩⟩
              · have hvj : v = j := by omega
                subst hvj
                exact .inr ⟨h3, h4⟩
        · refine skip H5 (Ex.refl _) fun z => ?_
          obtain ⟨k, hk⟩ := hu1 z.1
          rw [hk] at c2
          simp at c2
      · rintro σ H2 ⟨v4, v5, fv, ns, rfl, e2, ho, rf, hns, hlen⟩
        refine ⟨_, _, _, fv, ns, rfl, e2, ho, rf, fun r => (hns r).trans ?_, by omega⟩
        constructor
        · rintro ⟨h1, ⟨k, hk, h2⟩ | ⟨v, hv, h3, h4⟩⟩
          · exact ⟨h1, k, by omega, h2⟩
          · exact ⟨h1, i, by omega, h3⟩
        · rintro ⟨h1, k, hk, h2⟩
          by_cases c : k < i
          · exact ⟨h1, .inl ⟨k, c, h2⟩⟩
          · have hki : k = i := by omega
            subst hki
            have hr := iu.rows r h1
            have hkr : k < r.length := by rw [hr.len]; exact hi'
            have hb := hr.each k r[k] n (List.getElem?_eq_getElem hkr) hn1
            exact ⟨h1, .inr ⟨r[k].toNat, by omega, h2, by rw [List.getElem?_eq_getElem hkr]; congr 1; omega⟩⟩
    · rintro σ H1 ⟨v3, v4, v5, fv, ns, rfl, e1, ho, rf, hns, hlen⟩
      have h64 : ns.length < 64 := by omega
      have hns' : ∀ r, r ∈ ns ↔ r ∈ zs ∧ ∃ k, Diff1 k st r := fun r => (hns r).trans ⟨fun ⟨h1, k, _, h2⟩ => ⟨h1, k, h2⟩, fun ⟨h1, k, h2⟩ => ⟨h1, k, by have := h2.lt; rw [ok.len] at this; omega, h2⟩⟩
      refine ⟨.ref o, rfl, o, fv, rfl, SqL.of ho, by rw [rf.length]; exact h64, fun x hx => ?_, fun ys l pm pw nl => ?_⟩
      · obtain ⟨r, hr, hxr⟩ := pairedMem rf hx
        have hro := iu.rows r ((hns r).mp hr).1
        exact ⟨r, tupI_of hxr, hro.len, iu.bd hro⟩
      · obtain ⟨ns', pn, rn⟩ := pairedPerm pm.symm rf
        exact q l ys ns' _ (freshEx e1 nl) (e1.trans (Ex.new nl)) upd_same (RowsOf.up rn (Ex.new nl)) (fun r => pn.symm.mem_iff.trans (hns' r)) (by rw [← pn.length_eq]; exact h64)
end
end Bp

set_option Elab.async false
set_option linter.all false
set_option maxRecDepth 100000
set_option maxHeartbeats 4000000
namespace Bp
open PySem PySem.Spec PyProof.Rows L2 Evl
/-! ### a list frozen: it is not written any more -/
section
variable {X : Cx} {pins : List (Addr × Obj)} {σ : L2.St} {H : Hp} {s : Shared}
theorem Inv.freeze {l : Addr} {xs : List V} (I : Inv X pins σ H s) (h : H l = some (.lst xs)) : ∃ o, Inv X pins σ (upd H l (.frz o (.lst xs))) s := by
  obtain ⟨z, its, n, r, e⟩ := I.hok l _ h
  exact ⟨_, Inv.retell I (by rw [h]; trivial) ⟨e, z, its, n, r, e⟩⟩
end
def tFrz (t : TS) : TS := fun D σ H => t { D with nx := fun σ' H' => ∃ l xs, H' l = some (.lst xs) ∧ ∀ o, D.nx σ' (upd H' l (.frz o (.lst xs))) } σ H
theorem ps_frz {X : Cx} {st : Stmt} {t : TS} (h : PS X st t) : PS X st (tFrz t) := by
  refine ⟨fun pins s σ H D I hw => ?_⟩
  refine thn (h.run pins s σ H _ I hw) fun f s' hf => ?_
  cases f with
  | next =>
    obtain ⟨σ', H', I', l, xs, hl, q⟩ := hf
    obtain ⟨o, J⟩ := Inv.freeze I' hl
    exact ⟨σ', _, J, q o⟩
  | brk => exact hf
  | cont => exact hf
  | ret u => exact hf
theorem SqL.fz {K : PySem.W.Frag} {H : Hp} {a : Addr} {o : Obj} {xs : List V} (h : H a = some (.frz o (.lst xs))) : SqL K H a xs := .inl (.inr ⟨o, h⟩)
end Bp

set_option Elab.async false
set_option linter.all false
set_option maxRecDepth 100000
set_option maxHeartbeats 4000000
namespace Bp
open PySem PySem.Spec PyProof.Rows L2 Evl
abbrev s_findNear : Stmt := topS 25
abbrev N_findNear : List Str := ["store", "found", "state", "other"]
theorem sc_findNear : FnScope N_findNear ["store"] (defScope s_findNear) := ⟨rfl, rfl, rfl, by decide +kernel, rfl, by decide +kernel, by decide +kernel⟩
/-- a list of pairs: the key in which they differ, a neighbour -/
abbrev NbOf (H : Hp) : List V → List (Nat × Row) → Prop := Paired fun v (p : Nat × Row) => ∃ (t : Addr) (y : V), v = .ref t ∧ H t = some (.tup [.int (p.1 : Int), y]) ∧ IntT H y p.2
theorem NbOf.up {H H' : Hp} {vs : List V} {nb : List (Nat × Row)} (h : NbOf H vs nb) (e : Ex H H') : NbOf H' vs nb := Paired.mapP h fun _ _ ⟨t, y, h1, h2, h3⟩ => ⟨t, y, h1, e _ _ h2, h3.up e⟩
theorem NbOf.wr {H : Hp} {D : Addr} {l : List V} {o : HO} {vs : List V} {nb : List (Nat × Row)} (hD : H D = some (.lst l)) (h : NbOf H vs nb) : NbOf (upd H D o) vs nb :=
  Paired.mapP h fun _ _ ⟨t, y, h1, h2, h3⟩ => ⟨t, y, h1, by rw [upd_ne (ne_of h2 hD (by intro z; cases z))]; exact h2, h3.wr hD⟩
/-- the neighbours of z among zs -/
def Nb (zs : List Row) (z : Row) (nb : List (Nat × Row)) : Prop := (∀ p ∈ nb, p.2 ∈ zs ∧ Diff1 p.1 z p.2) ∧ ∀ r ∈ zs, ∀ k, Diff1 k z r → (k, r) ∈ nb
def NearV (H : Hp) (zs : List Row) (z : Row) (v : V) : Prop := ∃ (l : Addr) (vs : List V) (nb : List (Nat × Row)), v = .ref l ∧ (∃ o, H l = some (.frz o (.lst vs))) ∧ NbOf H vs nb ∧ Nb zs z nb ∧ nb.length < 64
theorem NearV.up {H H' : Hp} {zs : List Row} {z : Row} {v : V} (h : NearV H zs z v) (e : Ex H H') : NearV H' zs z v := let ⟨l, vs, nb, h1, h2, h3, h4⟩ := h; ⟨l, vs, nb, h1, ⟨h2.choose, e _ _ h2.choose_spec⟩, h3.up e, h4⟩
/-- each state's neighbours, in a dict -/
def BesideAt (H : Hp) (zs : List Row) (v : V) : Prop := ∃ (b : Addr) (kvs : List (List Key × V)), v = .ref b ∧ H b = some (.dT kvs) ∧ ∀ z ∈ zs, ∃ u, valV kvs (keyR z) = some u ∧ NearV H zs z u
theorem BesideAt.up {H H' : Hp} {zs : List Row} {v : V} (h : BesideAt H zs v) (e : Ex H H') : BesideAt H' zs v := let ⟨b, kvs, h1, h2, h3⟩ := h; ⟨b, kvs, h1, e _ _ h2, fun z hz => let ⟨u, h4, h5⟩ := h3 z hz; ⟨u, h4, h5.up e⟩⟩
theorem diff_uniq {k j : Nat} {a b : Row} (h : Diff1 k a b) (g : Diff1 j a b) : k = j := by
  by_cases e : k = j
  · exact e
  · exact absurd (g.eq k e) h.ne
def spFindNear (C : Addr) : Sp := fun vs H Q _ => ∃ (p fd : Addr) (sz : List Int) (zs : List Row), vs = [.ref p] ∧ StoreAt C H p sz zs fd ∧ InUse sz zs ∧ ∀ v H', Ex H H' → BesideAt H' zs v → Q v H'
section
variable {P : Program} {w : World} {K : PySem.W.Frag} {mg : Str → Option Value} {base : Heap}
theorem ok_findNear {f C fN fC : Addr} {fd fdN fdC : FuncData} (F : Fun K "find_near" "find_near" s_findNear f fd) (B : Blt mg) (T : StTxt K mg C) (D_near : Dn K mg "near" s_near ["store", "state"] fN fdN) (G_near : FnOk P w K mg base CX0 2 fN fdN ["store", "state"] (spNear C))
    (D_changedKey : Dn K mg "changed_key" s_changedKey ["one", "other"] fC fdC) (G_changedKey : FnOk P w K mg base CX0 1 fC fdC ["one", "other"] spChangedKey) : FnOk P w K mg base CX0 3 f fd ["store"] (spFindNear C) := by
  refine F.ok sc_findNear (fun vs H Q E h => ?_) (fun cdv A outer s H vs Q E hr h => ?_)
  · obtain ⟨p, fd, sz, zs, rfl, _⟩ := h
    rfl
  · obtain ⟨p, fd', sz, zs, rfl, S, iu, q⟩ := h
    obtain ⟨d1, za, sa, ix, vs1, kvs1, hp, hz, hs, rz, hix, hin, hout⟩ := id S
    have hu := room1 hr
    refine ⟨_, (pss_cons (ps_set (i := 1) sc_findNear.nd rfl (.inl rfl) pe_dnewT)
  (pss_cons (ps_for PassesOwn.never  rfl (piTk (K := K) (fldk (K := K) (pv 0))) (pg_name (i := 2) sc_findNear.nd rfl (Or.inr rfl))
    (pss_one (ps_frz (ps_dput hu (pv 1) (pv 2) (lck (own := [("other", 3)]) rfl sc_findNear.nd (show blkC N_findNear (defScope s_findNear) _ _ = true by decide +kernel) (piLk (K := K) (pe_call G_near (hr.mono (by decide)) (by rfl) D_near.g D_near.F.kp D_near.b .nil pass0 (pa_cons (pv 0) (pa_cons (pv 2) pa_nil)))) (fun _ _ _ _ _ => (pg_name (i := 3) sc_findNear.nd rfl (Or.inl rfl))) (fun _ _ _ _ _ => pts_nil) (fun _ _ _ _ _ => (pe_tup (pa_cons (pe_call G_changedKey (hr.mono (by decide)) (by rfl) D_changedKey.g D_changedKey.F.kp D_changedKey.b .nil pass0 (pa_cons (pv 2) (pa_cons (pv 3) pa_nil))) (pa_cons (pv 3) pa_nil))))) rfl))))
  (pss_one (ps_ret (pv 1))))), ?_⟩
    refine fun o no => ?_
    have e0 := Ex.new (H := H) (o := .dT []) no
    refine ⟨.ref p, rfl, p, C, d1, _, _, rfl, e0 _ _ hp, T.cl, T.nS, sf_states, sa, rfl, ⟨_, SqT.of (e0 _ _ hs)⟩, for_tup (K := K) (a := sa) (xs := vs1) (fun i σ H' => ∃ v2 kvs, σ = [some (.ref p), some (.ref o), v2, none] ∧ Ex H H' ∧ H' o = some (.dT kvs) ∧ kvs.length ≤ i ∧ ∀ z ∈ zs.take i, ∃ u, valV kvs (keyR z) = some u ∧ NearV H' zs z u) ?_ ?_ ?_ ?_⟩
    · exact ⟨none, [], rfl, e0, upd_same, Nat.le_refl _, by simp⟩
    · rintro i σ H' _ ⟨_, _, _, e, _⟩
      exact SqT.of (e _ _ hs)
    · rintro i x σ H1 hx ⟨v2, kvs, rfl, e1, ho, hkl, hk⟩
      obtain ⟨z, hz', hxz⟩ := pairedGet rz hx
      have hzm := List.mem_of_getElem? hz'
      have zok := iu.rows z hzm
      have hil := (List.getElem?_eq_some_iff.mp hz').1
      have few := iu.few
      refine ⟨.ref p, rfl, x, rfl, p, fd', x, sz, zs, z, rfl, S.up e1, hxz.up e1, zok, iu, fun l ys ns H2 nl e2 hl rn hns h64 => ?_⟩
      refine ⟨l, rfl, ⟨_, SqL.of hl⟩, fun D nD => ?_⟩
      refine lcL (σ := [some (.ref p), some (.ref o), some x, none]) (xs := ys) (fun j acc H' => ∃ nb : List (Nat × Row), NbOf H' acc nb ∧ nb.map (·.2) = ns.take j ∧ ∀ q ∈ nb, Diff1 q.1 z q.2) nD (fun _ _ _ _ _ _ _ _ hl h => ⟨h.choose, h.choose_spec.1.wr hl, h.choose_spec.2⟩) ⟨[], .nil, by simp, by simp⟩ (fun _ _ _ => ⟨[], .nil, by simp, by simp⟩) (SqL.of hl) (by rw [rn.length]; omega) ?_ ?_
      · rintro j y hy acc H3 Cy Cn e3 ⟨nb, rnb, hnb1, hnb2⟩ cy _
        obtain ⟨r, hr, hyr⟩ := pairedGet rn hy
        obtain ⟨hrz, k, hk⟩ := (hns r).mp (List.mem_of_getElem? hr)
        have e23 := e1.trans (e2.trans e3)
        refine ⟨rfl, tYesE ⟨x, rfl, y, rfl, x, y, z, r, k, rfl, hxz.up e23, hyr.up e3, hk, by rw [zok.len]; have := iu.l8; omega, fun H4 e4 => ⟨y, rfl, by show 2 ≤ sizeLine; decide, fun t nt => ?_⟩⟩⟩
        refine cy _ _ (e4.trans (Ex.new nt)) ⟨nb ++ [(k, r)], ?_, by simp [hnb1, take_snoc hr], fun q hq => ?_⟩
        · exact (rnb.up (e4.trans (Ex.new nt))).snoc ⟨t, y, rfl, upd_same, hyr.up ((e3.trans e4).trans (Ex.new nt))⟩
        · rcases List.mem_append.mp hq with hq | hq
          · exact hnb2 q hq
          · rw [List.mem_singleton.mp hq]; exact hk
      · rintro acc H3 e3 hD ⟨nb, rnb, hnb1, hnb2⟩ _
        rw [rn.length, List.take_length] at hnb1
        have e23 := e2.trans e3
        have e13 := e1.trans e23
        obtain ⟨xa, rfl, hxa⟩ := (hxz.up e13).key
        have ho3 := e23 _ _ ho
        refine ⟨.ref o, rfl, .ref xa, rfl, o, _, rfl, DPut.t ho3 hxa (Nat.lt_of_lt_of_le (by omega : kvs.length < 1000) (by decide)), ?_⟩
        have hnb : Nb zs z nb := ⟨fun q hq => ⟨((hns q.2).mp (by rw [← hnb1]; exact List.mem_map_of_mem hq)).1, hnb2 q hq⟩, fun r hr k hk => by
          have hm : r ∈ nb.map (·.2) := by rw [hnb1]; exact (hns r).mpr ⟨hr, k, hk⟩
          obtain ⟨q, hq, rfl⟩ := List.mem_map.mp hm
          rw [diff_uniq hk (hnb2 q hq)]
          exact hq⟩
        have lnb : nb.length < 64 := by rw [← List.length_map (f := fun q : Nat × Row => q.2), hnb1]; exact h64
        have hD6 : upd H3 o (.dT (putK kvs (keyR z) (.ref D))) D = some (.lst acc) := by rw [upd_ne (ne_of hD ho3 (by intro c; cases c))]; exact hD
        refine ⟨D, acc, hD6, fun fz => ?_⟩
        have nDo : o ≠ D := ne_of ho3 hD (by intro c; cases c)
        have ew : ∀ (b : Addr) (u : HO), (∀ xs, u ≠ .lst xs) → (∀ k, u ≠ .dT k) → H3 b = some u → (upd (upd H3 o (.dT (putK kvs (keyR z) (.ref D)))) D (.frz fz (.lst acc))) b = some u := fun b u n1 n2 h => by
          rw [upd_ne (ne_of h hD (n1 _)), upd_ne (ne_of h ho3 (n2 _))]; exact h
        have enb : ∀ {vs' : List V} {nb' : List (Nat × Row)}, NbOf H3 vs' nb' → NbOf (upd (upd H3 o (.dT (putK kvs (keyR z) (.ref D)))) D (.frz fz (.lst acc))) vs' nb' := fun h3 =>
          Paired.mapP h3 fun _ _ ⟨t, y, g1, g2, ⟨ya, g3, g4⟩⟩ => ⟨t, y, g1, ew _ _ (by intro _ c; cases c) (by intro _ c; cases c) g2, ya, g3, ew _ _ (by intro _ c; cases c) (by intro _ c; cases c) g4⟩
        have eo : ∀ {u : V} {zz : Row}, NearV H3 zs zz u → NearV (upd (upd H3 o (.dT (putK kvs (keyR z) (.ref D)))) D (.frz fz (.lst acc))) zs zz u := fun {u zz} ⟨l', vs', nb', h1, ⟨ob, h2⟩, h3, h4⟩ =>
          ⟨l', vs', nb', h1, ⟨ob, ew _ _ (by intro _ c; cases c) (by intro _ c; cases c) h2⟩, enb h3, h4⟩
        have hD0 : H1 D = none := freshEx e2 nD
        refine ⟨_, _, rfl, (e13.mut no).mut (freshEx e1 hD0), by rw [upd_ne nDo]; exact upd_same, by have := length_putK kvs (keyR z) (.ref D); omega, fun zz hzz => ?_⟩
        rw [valV_put]
        by_cases c : keyR zz = keyR z
        · rw [if_pos c]
          have := keyR_inj c
          subst this
          exact ⟨.ref D, rfl, D, acc, nb, rfl, ⟨fz, upd_same⟩, enb rnb, hnb, lnb⟩
        · rw [if_neg c]
          rw [take_snoc hz'] at hzz
          rcases List.mem_append.mp hzz with h | h
          · obtain ⟨u, h1, h2⟩ := hk zz h
            exact ⟨u, h1, eo (h2.up e23)⟩
          · rw [List.mem_singleton.mp h] at c; exact absurd rfl c
    · rintro σ H1 ⟨v2, kvs, rfl, e1, ho, hkl, hk⟩
      rw [show vs1.length = zs.length from rz.length, List.take_length] at hk
      exact ⟨.ref o, rfl, q _ H1 e1 ⟨o, kvs, rfl, ho, hk⟩⟩
end
end Bp

set_option Elab.async false
set_option linter.all false
set_option maxRecDepth 100000
set_option maxHeartbeats 4000000
namespace Bp
open PySem PySem.Spec PyProof.Rows L2 Evl
/-! ### islands: the labels of a flood fill -/
/-- how many of zs have no label yet -/
def notL (zs : List Row) (kvs : List (List Key × V)) : Nat := zs.countP fun z => (valV kvs (keyR z)).isNone
structure Fl (zs : List Row) (ks : List Nat) (kvs : List (List Key × V)) (many : Int) (op : List Row) : Prop where
  val : ∀ z ∈ zs, valV kvs (keyR z) = none ∨ ∃ c : Int, c ≤ many ∧ valV kvs (keyR z) = some (.int c)
  low : ∀ x ∈ zs, ∀ c : Int, valV kvs (keyR x) = some (.int c) → c < many → ∀ y ∈ zs, ∀ k ∈ ks, Diff1 k x y → valV kvs (keyR y) = some (.int c)
  cur : ∀ x ∈ zs, valV kvs (keyR x) = some (.int many) → x ∉ op → ∀ y ∈ zs, ∀ k ∈ ks, Diff1 k x y → valV kvs (keyR y) = some (.int many)
theorem put_same (kvs : List (List Key × V)) (y : Row) (v : V) : valV (putK kvs (keyR y) v) (keyR y) = some v := by rw [valV_put, if_pos rfl]
theorem put_other {kvs : List (List Key × V)} {x y : Row} {v : V} (h : x ≠ y) : valV (putK kvs (keyR y) v) (keyR x) = valV kvs (keyR x) := by rw [valV_put, if_neg (fun e => h (keyR_inj e))]
theorem Fl.add {zs : List Row} {ks : List Nat} {kvs : List (List Key × V)} {many : Int} {op : List Row} (h : Fl zs ks kvs many op) {y : Row} (hy : valV kvs (keyR y) = none) : Fl zs ks (putK kvs (keyR y) (.int many)) many (op ++ [y]) where
  val := fun z hz => by
    by_cases e : z = y
    · subst e; exact .inr ⟨many, Int.le_refl _, put_same _ _ _⟩
    · rw [put_other e]; exact h.val z hz
  low := fun x hx c hc hl z hz k hk d => by
    have xy : x ≠ y := fun e => by subst e; rw [put_same] at hc; cases hc; omega
    rw [put_other xy] at hc
    have := h.low x hx c hc hl z hz k hk d
    rw [put_other (fun e => by subst e; rw [hy] at this; cases this)]
    exact this
  cur := fun x hx hc hn z hz k hk d => by
    have xy : x ≠ y := fun e => hn (by rw [e]; simp)
    rw [put_other xy] at hc
    have := h.cur x hx hc (fun m => hn (List.mem_append_left _ m)) z hz k hk d
    rw [put_other (fun e => by subst e; rw [hy] at this; cases this)]
    exact this
/-- a neighbour with a label has the label at hand -/
theorem Fl.same {zs : List Row} {ks : List Nat} {kvs : List (List Key × V)} {many : Int} {op : List Row} (h : Fl zs ks kvs many op) {x y : Row} {k : Nat} (hx : x ∈ zs) (hl : valV kvs (keyR x) = some (.int many)) (hy : y ∈ zs) (hk : k ∈ ks) (d : Diff1 k x y) (hn : valV kvs (keyR y) ≠ none) : valV kvs (keyR y) = some (.int many) := by
  rcases h.val y hy with e | ⟨c, hc, e⟩
  · exact absurd e hn
  · by_cases q : c < many
    · have := h.low y hy c e q x hx k hk d.sym
      rw [hl] at this
      cases this
      omega
    · have : c = many := by omega
      rw [e, this]
theorem Fl.close {zs : List Row} {ks : List Nat} {kvs : List (List Key × V)} {many : Int} {op : List Row} {st : Row} (h : Fl zs ks kvs many (op ++ [st])) (hst : st ∈ zs) (hl : valV kvs (keyR st) = some (.int many)) (hd : ∀ y ∈ zs, ∀ k ∈ ks, Diff1 k st y → valV kvs (keyR y) ≠ none) : Fl zs ks kvs many op where
  val := h.val
  low := h.low
  cur := fun x hx hc hn y hy k hk d => by
    by_cases e : x = st
    · subst e; exact h.same hst hl hy hk d (hd y hy k hk d)
    · exact h.cur x hx hc (fun m => by
        rcases List.mem_append.mp m with m | m
        · exact hn m
        · exact e (List.mem_singleton.mp m)) y hy k hk d
theorem Fl.next {zs : List Row} {ks : List Nat} {kvs : List (List Key × V)} {many : Int} (h : Fl zs ks kvs many []) : Fl zs ks kvs (many + 1) [] ∧ ∀ z ∈ zs, valV kvs (keyR z) ≠ some (.int (many + 1)) := by
  refine ⟨⟨fun z hz => (h.val z hz).imp id fun ⟨c, hc, e⟩ => ⟨c, by omega, e⟩, fun x hx c hc hl y hy k hk d => ?_, fun x hx hc => ?_⟩, fun z hz e => ?_⟩
  · by_cases q : c < many
    · exact h.low x hx c hc q y hy k hk d
    · have : c = many := by omega
      subst this
      exact h.cur x hx hc (by simp) y hy k hk d
  · rcases h.val x hx with e | ⟨c, hc', e⟩
    · rw [e] at hc; cases hc
    · rw [e] at hc; cases hc; omega
  · rcases h.val z hz with e' | ⟨c, hc', e'⟩
    · rw [e'] at e; cases e
    · rw [e'] at e; cases e; omega
theorem notL_put {zs : List Row} {kvs : List (List Key × V)} {y : Row} {v : V} (hy : y ∈ zs) (hn : valV kvs (keyR y) = none) : notL zs (putK kvs (keyR y) v) < notL zs kvs := by
  unfold notL
  refine countP_lt (fun x _ hx => ?_) ⟨y, hy, by rw [put_same]; rfl, by rw [hn]; rfl⟩
  by_cases e : x = y
  · subst e; rw [put_same] at hx; cases hx
  · rw [put_other e] at hx; exact hx
/-- the labels, as a function -/
def labOf (kvs : List (List Key × V)) (z : Row) : Int := match valV kvs (keyR z) with | some (.int c) => c | _ => 0
theorem Fl.labels {zs : List Row} {ks : List Nat} {kvs : List (List Key × V)} {many : Int} (h : Fl zs ks kvs many []) (hn : ∀ z ∈ zs, valV kvs (keyR z) ≠ some (.int many)) (ha : ∀ z ∈ zs, valV kvs (keyR z) ≠ none) :
    (∀ z ∈ zs, valV kvs (keyR z) = some (.int (labOf kvs z))) ∧ ∀ x ∈ zs, ∀ y ∈ zs, ∀ k ∈ ks, Diff1 k x y → labOf kvs x = labOf kvs y := by
  have h1 : ∀ z ∈ zs, valV kvs (keyR z) = some (.int (labOf kvs z)) := fun z hz => by
    rcases h.val z hz with e | ⟨c, _, e⟩
    · exact absurd e (ha z hz)
    · unfold labOf; rw [e]
  refine ⟨h1, fun x hx y hy k hk d => ?_⟩
  have hx1 := h1 x hx
  rcases h.val x hx with e | ⟨c, hc, e⟩
  · exact absurd e (ha x hx)
  · rw [hx1] at e
    have ec : labOf kvs x = c := by cases e; rfl
    have lt : c < many := by
      by_cases q : c < many
      · exact q
      · exact absurd (by rw [hx1, ec, show c = many by omega]) (hn x hx)
    have := h.low x hx c (by rw [hx1, ec]) lt y hy k hk d
    rw [h1 y hy] at this
    rw [ec]
    cases this
    rfl
end Bp

set_option Elab.async false
set_option linter.all false
set_option maxRecDepth 100000
set_option maxHeartbeats 4000000
namespace Bp
open PySem PySem.Spec PyProof.Rows L2 Evl
abbrev s_homesOf : Stmt := topS 27
abbrev N_homesOf : List Str := ["store", "lot", "beside", "homes", "many", "start", "fresh", "state", "key", "other"]
theorem sc_homesOf : FnScope N_homesOf ["store", "lot"] (defScope s_homesOf) := ⟨rfl, rfl, rfl, by decide +kernel, rfl, by decide +kernel, by decide +kernel⟩
abbrev s_nearByKeys : Stmt := topS 26
/-- what is told of a store's own dict at fd; it is kept hidden -/
structure Hid (FO : Addr → List Row → Nat → Hp → Prop) : Prop where
  ext : ∀ {fd zs m H}, FO fd zs m H → ∃ φ, H fd = some (.ext φ)
  up : ∀ {fd zs m H H'}, FO fd zs m H → Ex H H' → FO fd zs m H'
  wr : ∀ {fd zs m H D acc o}, FO fd zs m H → H D = some (.lst acc) → FO fd zs m (upd H D o)
theorem ExB.store {C : Addr} {H H' : Hp} {p fd : Addr} {sz : List Int} {zs : List Row} {φ : Heap → Prop} (S : StoreAt C H p sz zs fd) (hf : H fd = some (.ext φ)) (e : ExB fd H H') : StoreAt C H' p sz zs fd := by
  obtain ⟨dx, za, sa, ix, vs, kvs, h1, h2, h3, h4, h5, h6⟩ := S
  exact ⟨dx, za, sa, ix, vs, kvs, e _ _ (ne_of h1 hf (by intro z; cases z)) h1, e _ _ (ne_of h2 hf (by intro z; cases z)) h2, e _ _ (ne_of h3 hf (by intro z; cases z)) h3, Paired.mapP h4 fun _ _ ⟨a, g1, g2⟩ => ⟨a, g1, e _ _ (ne_of g2 hf (by intro z; cases z)) g2⟩, e _ _ (ne_of h5 hf (by intro z; cases z)) h5, h6⟩
theorem ExB.intT {H H' : Hp} {fd : Addr} {φ : Heap → Prop} {v : V} {r : Row} (h : IntT H v r) (hf : H fd = some (.ext φ)) (e : ExB fd H H') : IntT H' v r :=
  let ⟨a, h1, h2⟩ := h; ⟨a, h1, e _ _ (ne_of h2 hf (by intro z; cases z)) h2⟩
def spNearByKeys (C : Addr) (FO : Addr → List Row → Nat → Hp → Prop) : Sp := fun vs H Q _ => ∃ (p fd : Addr) (sz : List Int) (zs : List Row) (m : Nat), vs = [.ref p] ∧ StoreAt C H p sz zs fd ∧ InUse sz zs ∧ FO fd zs m H ∧ m ≤ 900 ∧ ∀ v H', ExB fd H H' → FO fd zs (m + 1) H' → BesideAt H' zs v → Q v H'
/-- islands: states that a change of a key of the lot leads to one another have one label -/
def HomesAt (H : Hp) (zs : List Row) (ks : List Nat) (v : V) : Prop := ∃ (b : Addr) (kvs : List (List Key × V)) (lab : Row → Int), v = .ref b ∧ H b = some (.dT kvs) ∧ (∀ z ∈ zs, valV kvs (keyR z) = some (.int (lab z))) ∧ ∀ x ∈ zs, ∀ y ∈ zs, ∀ k ∈ ks, Diff1 k x y → lab x = lab y
theorem HomesAt.up {H H' : Hp} {zs : List Row} {ks : List Nat} {v : V} (h : HomesAt H zs ks v) (e : Ex H H') : HomesAt H' zs ks v := let ⟨b, kvs, lab, h1, h2, h3⟩ := h; ⟨b, kvs, lab, h1, e _ _ h2, h3⟩
def spHomesOf (C : Addr) (FO : Addr → List Row → Nat → Hp → Prop) : Sp := fun vs H Q _ => ∃ (p fd : Addr) (x : V) (sz : List Int) (zs : List Row) (ks : List Nat) (m : Nat), vs = [.ref p, x] ∧ StoreAt C H p sz zs fd ∧ InUse sz zs ∧ FO fd zs m H ∧ m ≤ 900 ∧ IntT H x (asInts ks) ∧ ks.length ≤ 100 ∧
  ∀ v H', ExB fd H H' → FO fd zs (m + 1) H' → HomesAt H' zs ks v → Q v H'
theorem dropLast_concat {α : Type} {l : List α} {x : α} (h : l[l.length - 1]? = some x) : l = l.dropLast ++ [x] := by
  have hl := (List.getElem?_eq_some_iff.mp h).1
  have ne : l ≠ [] := by intro z; subst z; simp at hl
  rw [← List.dropLast_concat_getLast ne]
  congr 1
  · simp
  · rw [List.getLast_eq_getElem, (List.getElem?_eq_some_iff.mp h).2]
section
variable {P : Program} {w : World} {K : PySem.W.Frag} {mg : Str → Option Value} {base : Heap}
theorem ok_homesOf {f C fN : Addr} {fd fdN : FuncData} {FO : Addr → List Row → Nat → Hp → Prop} (hF : Hid FO) (F : Fun K "homes_of" "homes_of" s_homesOf f fd) (B : Blt mg) (T : StTxt K mg C) (D_nearByKeys : Dn K mg "near_by_keys" s_nearByKeys ["store"] fN fdN) (G_nearByKeys : FnOk P w K mg base CX0 5 fN fdN ["store"] (spNearByKeys C FO)) :
    FnOk P w K mg base CX0 6 f fd ["store", "lot"] (spHomesOf C FO) := by
  refine F.ok sc_homesOf (fun vs H Q E h => ?_) (fun cdv A outer s H vs Q E hr h => ?_)
  · obtain ⟨p, fd, x, sz, zs, ks, m, rfl, _⟩ := h
    rfl
  · obtain ⟨p, fd', x, sz, zs, ks, mf, rfl, S, iu, fo, mf9, hx, k100, q⟩ := h
    have hu := room1 hr
    refine ⟨_, (pss_cons (ps_par3 (i := 2) (j := 3) (l := 4) rfl sc_homesOf.nd rfl rfl rfl (by decide) (by decide) (by decide) rfl rfl rfl (pa_cons (pe_call G_nearByKeys (hr.mono (by decide)) (by rfl) D_nearByKeys.g D_nearByKeys.F.kp D_nearByKeys.b .nil pass0 (pa_cons (pv 0) pa_nil)) (pa_cons pe_dnewT (pa_cons pe_int pa_nil))) rfl)
  (pss_cons (ps_for PassesOwn.never  rfl (piTk (K := K) (fldk (K := K) (pv 0))) (pg_name (i := 5) sc_homesOf.nd rfl (Or.inl rfl))
    (pss_cons (ps_if (pt_cmp (pc_din hu (pv 5) (pv 3)))
    (pss_one ps_continue)
    pss_nil)
  (pss_cons (ps_asg (pe_tup (pa_cons (pv 4) (pa_cons (pe_lst (pa_cons (pv 5) pa_nil)) pa_nil))) (pgTk (K := K) (n := 2) rfl (pgs_cons (pg_sub (pv 3) (pv 5) (set_dict hu)) (pgs_cons (pg_name (i := 6) sc_homesOf.nd rfl (Or.inl rfl)) pgs_nil))))
  (pss_cut (ps_while PassesOwn.never (pt_cmpR op_gt (pe_callB (lenk (K := K)) (by rfl) B.len bt_len (pa_cons (pv 6) pa_nil)) pe_int (nomark _))
    (pss_cons (ps_set (i := 7) sc_homesOf.nd rfl (.inl rfl) (popk (K := K) (pv 6)))
  (pss_one (ps_for PassesOwn.never  rfl (piLk (K := K) (pe_dget hu (pv 2) (pv 7) (fun _ _ => rfl))) (pgTk (K := K) (n := 2) rfl (pgs_cons (pg_name (i := 8) sc_homesOf.nd rfl (Or.inl rfl)) (pgs_cons (pg_name (i := 9) sc_homesOf.nd rfl (Or.inl rfl)) pgs_nil)))
    (pss_one (ps_if (PW.pt (pw_and (pt_cmpR (inSk (K := K)) (pv 8) (pv 1) rfl) (pw_and1 (pt_cmp (pc_dnotin hu (pv 9) (pv 3))))))
    (pss_cons (ps_dput hu (pv 3) (pv 9) (pv 4) rfl)
  (pss_one (ps_expr (appk (K := K) (pv 6) (pa_cons (pv 9) pa_nil)))))
    pss_nil))))))
  (pss_one (ps_set (i := 4) sc_homesOf.nd rfl (.inl rfl) (pe_op op_add (pv 4) pe_int)))))))
  (pss_one (ps_ret (pv 3))))), ?_⟩
    refine ⟨.ref p, rfl, p, fd', sz, zs, mf, rfl, S, iu, fo, mf9, fun bv H1 e1 fo1 hb => fun o no => ⟨_, _, _, rfl, ?_⟩⟩
    obtain ⟨φ, hφ⟩ := hF.ext fo
    obtain ⟨d1, za, sa, ix, vs1, kvs1, hp, hz, hs, rz, hix, hin, hout⟩ := ExB.store S hφ e1
    obtain ⟨xa, rfl, hxa⟩ := ExB.intT hx hφ e1
    obtain ⟨bd, bk, rfl, hbd, hbk⟩ := hb
    have e2 := Ex.new (H := H1) (o := .dT []) no
    have few := iu.few
    refine ⟨.ref p, rfl, p, C, d1, _, _, rfl, e2 _ _ hp, T.cl, T.nS, sf_states, sa, rfl, ⟨_, SqT.of (e2 _ _ hs)⟩, for_tup (K := K) (a := sa) (xs := vs1) (fun i σ H' => ∃ (many : Int) (v5 v6 v7 v8 v9 : Option V) (kvs : List (List Key × V)), σ = [some (.ref p), some (.ref xa), some (.ref bd), some (.ref o), some (.int many), v5, v6, v7, v8, v9] ∧ Ex H1 H' ∧ H' o = some (.dT kvs) ∧
      Fl zs ks kvs many [] ∧ (∀ z ∈ zs, valV kvs (keyR z) ≠ some (.int many)) ∧ (∀ z ∈ zs.take i, valV kvs (keyR z) ≠ none) ∧ kvs.length + notL zs kvs ≤ zs.length) ?_ ?_ ?_ ?_⟩
    · refine ⟨0, none, none, none, none, none, [], rfl, e2, upd_same, ⟨fun _ _ => .inl rfl, fun _ _ c h => (by cases h), fun _ _ h => (by cases h)⟩, fun _ _ h => (by cases h), by simp, ?_⟩
      have : notL zs [] ≤ zs.length := List.countP_le_length
      simpa using this
    · rintro i σ H' _ ⟨_, _, _, _, _, _, _, _, e, _⟩
      exact SqT.of (e _ _ hs)
    · rintro i x σ H2 hx ⟨many, v5, v6, v7, v8, v9, kvs, rfl, e3, ho, fl, hlt, hdone, hsz⟩
      obtain ⟨z, hz', hxz⟩ := pairedGet rz hx
      have hzm := List.mem_of_getElem? hz'
      obtain ⟨ya, rfl, hya⟩ := (hxz.up e3).key
      -- if start in homes: continue
      refine ⟨.ref ya, rfl, .ref o, rfl, o, _, rfl, DGet.t ho hya, _, rfl, ifE (fun c => ?_) (fun c => ?_)⟩
      · refine ⟨many, _, v6, v7, v8, v9, kvs, rfl, e3, ho, fl, hlt, fun y hy => ?_, hsz⟩
        rw [take_snoc hz'] at hy
        rcases List.mem_append.mp hy with hy | hy
        · exact hdone y hy
        · rw [List.mem_singleton.mp hy]; intro e; rw [e] at c; cases c
      have hun : valV kvs (keyR z) = none := by cases hh : valV kvs (keyR z) with | none => rfl | some _ => rw [hh] at c; cases c
      -- homes[start], fresh = many, [start]
      refine ⟨.int many, rfl, .ref ya, rfl, by show 1 ≤ sizeLine; decide, fun fr nfr => ⟨by show 2 ≤ sizeLine; decide, fun t nt => ?_⟩⟩
      have e4 := (Ex.new (H := H2) (o := .lst [.ref ya]) nfr).trans (Ex.new (o := .tup [.int many, .ref fr]) nt)
      have nfo : fr ≠ o := fun z => by subst z; rw [nfr] at ho; cases ho
      have nto : t ≠ o := fun z => by subst z; rw [Ex.new nfr _ _ ho] at nt; cases nt
      have hfr4 : upd (upd H2 fr (.lst [.ref ya])) t (.tup [.int many, .ref fr]) fr = some (.lst [.ref ya]) := Ex.new nt _ _ upd_same
      have ht4 : upd (upd H2 fr (.lst [.ref ya])) t (.tup [.int many, .ref fr]) t = some (.tup [.int many, .ref fr]) := upd_same
      have ho4 := e4 _ _ ho
      have hya4 := e4 _ _ hya
      have n1fr : H1 fr = none := freshEx e3 nfr
      generalize upd (upd H2 fr (.lst [.ref ya])) t (.tup [.int many, .ref fr]) = H4 at *
      have hl1 : kvs.length < 64 := by omega
      refine ⟨t, _, rfl, SqT.of ht4, rfl, .int many, [.ref fr], rfl, .ref o, rfl, .ref ya, rfl, o, _, rfl, DPut.t ho4 hya4 (Nat.lt_of_lt_of_le hl1 (by decide)), .ref fr, [], rfl, rfl, ?_⟩
      have flz := fl.add (y := z) hun
      -- while len(fresh) > 0
      refine ⟨fun σ H' => ∃ (v7 v8 v9 : Option V) (kvs : List (List Key × V)), σ = [some (.ref p), some (.ref xa), some (.ref bd), some (.ref o), some (.int many), some (.ref ya), some (.ref fr), v7, v8, v9] ∧ Ex H1 H' ∧ H' o = some (.dT kvs) ∧ Fl zs ks kvs many [] ∧ (∀ z ∈ zs.take (i + 1), valV kvs (keyR z) ≠ none) ∧ kvs.length + notL zs kvs ≤ zs.length, whileI (fun m σ H' => ∃ (v7 v8 v9 : Option V) (kvs : List (List Key × V)) (fv : List V) (op : List Row), σ = [some (.ref p), some (.ref xa), some (.ref bd), some (.ref o), some (.int many), some (.ref ya), some (.ref fr), v7, v8, v9] ∧ Ex H1 H' ∧ H' o = some (.dT kvs) ∧ H' fr = some (.lst fv) ∧ RowsOf H' fv op ∧
        Fl zs ks kvs many op ∧ (∀ y ∈ op, y ∈ zs ∧ valV kvs (keyR y) = some (.int many)) ∧ (∀ z ∈ zs.take (i + 1), valV kvs (keyR z) ≠ none) ∧ kvs.length + notL zs kvs ≤ zs.length ∧ m = notL zs kvs + op.length ∧ m ≤ 100) (notL zs (putK kvs (keyR z) (.int many)) + 1) ?_ ?_, ?_⟩
      · refine ⟨v7, v8, v9, _, [.ref ya], [z], rfl, ?_, upd_same, by rw [upd_ne nfo]; exact hfr4, .cons ⟨ya, rfl, by rw [upd_ne (ne_of hya4 ho4 (by intro c; cases c)), ← keyR_map]; exact hya4⟩ .nil, flz, fun y hy => ?_, fun y hy => ?_, ?_, ?_⟩
        · exact (e3.trans e4).mut no
        · rw [List.mem_singleton.mp hy]; exact ⟨hzm, put_same _ _ _⟩
        · rw [take_snoc hz'] at hy
          by_cases e : y = z
          · subst e; rw [put_same]; exact fun h => (by cases h)
          · rw [put_other e]
            rcases List.mem_append.mp hy with hy | hy
            · exact hdone y hy
            · exact absurd (List.mem_singleton.mp hy) e
        · have h1 := notL_put (v := V.int many) hzm hun
          have h2 := length_putK kvs (keyR z) (.int many)
          omega
        · refine ⟨rfl, ?_⟩
          have h1 : notL zs (putK kvs (keyR z) (.int many)) ≤ zs.length := List.countP_le_length
          omega
      · rintro m σ H5 ⟨v7, v8, v9, kvs5, fv, op, rfl, e5, ho5, hf5, rf5, fl5, hop5, hd5, hs5, rfl, m100⟩
        refine ⟨.ref fr, rfl, _, fv.length, rfl, .inl ⟨_, SqL.of hf5, rfl⟩, _, _, rfl, rfl, _, rfl, ifE (fun c => ?_) (fun c => ?_)⟩
        · have c' := of_decide_eq_true c
          have fpos : 0 < fv.length := by omega
          -- state = fresh.pop()
          refine whileIN _ ?_
          have hl : fv[fv.length - 1]? = some fv[fv.length - 1] := List.getElem?_eq_getElem (by omega)
          obtain ⟨st, hst, hsv⟩ := pairedGet rf5 hl
          rw [rf5.length] at hst
          obtain ⟨sa', hsae, hsa⟩ := hsv.key
          have hop := dropLast_concat hst
          have hstm := hop5 st (List.mem_of_getElem? hst)
          refine ⟨.ref fr, rfl, .inl ⟨rfl, _, SqL.of hf5⟩, fr, fv, _, rfl, rfl, hf5, hl, ?_⟩
          rw [hsae]
          have nofr : o ≠ fr := fun z => nfo z.symm
          have e6 : Ex H1 (upd H5 fr (.lst fv.dropLast)) := e5.mut n1fr
          have ho6 : upd H5 fr (.lst fv.dropLast) o = some (.dT kvs5) := by rw [upd_ne nofr]; exact ho5
          have hf6 : upd H5 fr (.lst fv.dropLast) fr = some (.lst fv.dropLast) := upd_same
          have rf6 : RowsOf (upd H5 fr (.lst fv.dropLast)) fv.dropLast op.dropLast := RowsOf.wr hf5 (by rw [List.dropLast_eq_take, List.dropLast_eq_take, rf5.length]; exact rowsTake _ rf5)
          have hsa6 : upd H5 fr (.lst fv.dropLast) sa' = some (.tup ((keyR st).map kV)) := by rw [upd_ne (ne_of hsa hf5 (by intro c; cases c))]; exact hsa
          generalize upd H5 fr (.lst fv.dropLast) = H6 at *
          obtain ⟨u, hu1, nl, nvs, nb, rfl, ⟨fzo, hnl⟩, rnb, hnb, lnb⟩ := hbk st hstm.1
          rw [hop] at fl5
          have hop6 : ∀ y ∈ op.dropLast, y ∈ zs ∧ valV kvs5 (keyR y) = some (.int many) := fun y hy => hop5 y (List.dropLast_subset _ hy)
          have hol : op.length = op.dropLast.length + 1 := by rw [List.length_dropLast]; have := rf5.length; omega
          generalize hm0 : notL zs kvs5 + op.length = m0 at *
          -- for key, other in beside[state]
          refine ⟨.ref bd, rfl, .ref sa', rfl, bd, _, rfl, ?_, nl, rfl, ⟨_, SqL.fz (e6 _ _ hnl)⟩, for_list (K := K) (a := nl) (xs := nvs) (fun j σ H' => ∃ (v8 v9 : Option V) (kvs : List (List Key × V)) (fv op : _), σ = [some (.ref p), some (.ref xa), some (.ref bd), some (.ref o), some (.int many), some (.ref ya), some (.ref fr), some (.ref sa'), v8, v9] ∧ Ex H1 H' ∧ H' o = some (.dT kvs) ∧ H' fr = some (.lst fv) ∧ RowsOf H' fv op ∧
            (∃ op', Fl zs ks kvs many op' ∧ ∀ y, y ∈ op' → y ∈ op ∨ y = st) ∧ (∀ y ∈ op, y ∈ zs ∧ valV kvs (keyR y) = some (.int many)) ∧ valV kvs (keyR st) = some (.int many) ∧ (∀ z ∈ zs.take (i + 1), valV kvs (keyR z) ≠ none) ∧ kvs.length + notL zs kvs ≤ zs.length ∧ notL zs kvs + op.length + 1 ≤ m0 ∧ ∀ q ∈ nb.take j, q.1 ∈ ks → valV kvs (keyR q.2) ≠ none) ?_ ?_ ?_ ?_⟩
          · rw [← hu1]; exact DGet.t (e6 _ _ hbd) hsa6
          · exact ⟨v8, v9, kvs5, fv.dropLast, op.dropLast, rfl, e6, ho6, hf6, rf6, ⟨_, fl5, fun y hy => by
              rcases List.mem_append.mp hy with h | h
              · exact .inl h
              · exact .inr (List.mem_singleton.mp h)⟩, hop6, hstm.2, hd5, hs5, by omega, by simp⟩
          · rintro j σ H' _ ⟨_, _, _, _, _, _, e, _⟩
            exact SqL.fz (e _ _ hnl)
          · rintro j v σ H7 hv ⟨v8, v9, kvs7, fv7, op7, rfl, e7, ho7, hf7, rf7, ⟨op', fl7, hop'⟩, hop7, hst7, hd7, hs7, hm7, hn7⟩
            obtain ⟨qk, hqk, tq, yq, rfl, htq, hyq⟩ := pairedGet rnb hv
            have hqm := hnb.1 qk (List.mem_of_getElem? hqk)
            obtain ⟨yb, rfl, hyb⟩ := (hyq.up e7).key
            refine ⟨tq, [.int (qk.1 : Int), .ref yb], rfl, SqT.of (e7 _ _ htq), rfl, .int (qk.1 : Int), [.ref yb], rfl, .ref yb, [], rfl, rfl, ?_⟩
            have hin2 : inV (.int (qk.1 : Int)) ((asInts ks).map V.int) = decide (qk.1 ∈ ks) := by
              rw [inInts]; exact decide_eq_decide.mpr mem_ints
            refine ⟨.int (qk.1 : Int), rfl, .ref xa, rfl, xa, _, rfl, .inr (SqT.of (e7 _ _ hxa)), rfl, flatInts _, _, rfl, ifE (fun c1 => ?_) (fun c1 => iteF ?_)⟩
            · have ck : qk.1 ∈ ks := of_decide_eq_true (hin2 ▸ c1)
              refine ⟨.ref yb, rfl, .ref o, rfl, o, _, rfl, DGet.t ho7 hyb, _, rfl, ifE (fun c2 => ?_) (fun c2 => ?_)⟩
              · have hun2 : valV kvs7 (keyR qk.2) = none := by cases hh : valV kvs7 (keyR qk.2) with | none => rfl | some _ => rw [hh] at c2; cases c2
                have hl7 : kvs7.length < 64 := by omega
                refine ⟨.int many, rfl, .ref o, rfl, .ref yb, rfl, o, _, rfl, DPut.t ho7 hyb (Nat.lt_of_lt_of_le hl7 (by decide)), ?_⟩
                have hf8 : upd H7 o (.dT (putK kvs7 (keyR qk.2) (.int many))) fr = some (.lst fv7) := by rw [upd_ne nfo]; exact hf7
                have hfl7 : fv7.length < 1000 := by
                  have h3 := rf7.length
                  omega
                refine ⟨.ref fr, rfl, .inl ⟨rfl, _, SqL.of hf8⟩, .ref yb, rfl, fr, fv7, _, rfl, rfl, hf8, Nat.lt_of_lt_of_le hfl7 (by decide), ?_⟩
                have hne : ∀ {y : Row}, valV kvs7 (keyR y) ≠ none → y ≠ qk.2 := fun {y} h e => by subst e; exact h hun2
                have hsome : ∀ {y : Row} {w : V}, valV kvs7 (keyR y) = some w → valV (putK kvs7 (keyR qk.2) (.int many)) (keyR y) = some w := fun {y w} h => by rw [put_other (hne (by rw [h]; exact fun z => (by cases z)))]; exact h
                have hnn : ∀ {y : Row}, valV kvs7 (keyR y) ≠ none → valV (putK kvs7 (keyR qk.2) (.int many)) (keyR y) ≠ none := fun {y} h => by rw [put_other (hne h)]; exact h
                have h1 := notL_put (v := V.int many) hqm.1 hun2
                have h2 := length_putK kvs7 (keyR qk.2) (.int many)
                have eo : ∀ {y : V} {r : Row}, IntT H7 y r → IntT (upd (upd H7 o (.dT (putK kvs7 (keyR qk.2) (.int many)))) fr (.lst (fv7 ++ [.ref yb]))) y r := fun {y r} ⟨a, g1, g2⟩ =>
                  ⟨a, g1, by rw [upd_ne (ne_of g2 hf7 (by intro c; cases c)), upd_ne (ne_of g2 ho7 (by intro c; cases c))]; exact g2⟩
                refine ⟨_, _, _, fv7 ++ [.ref yb], op7 ++ [qk.2], rfl, (e7.mut no).mut n1fr, by rw [upd_ne nofr]; exact upd_same, upd_same, ?_, ⟨op' ++ [qk.2], fl7.add hun2, fun y hy => ?_⟩, fun y hy => ?_, hsome hst7, fun y hy => hnn (hd7 y hy), by omega, by rw [List.length_append]; simp; omega, fun q' hq' hk' => ?_⟩
                · exact (Paired.mapP rf7 fun _ _ h => eo h).snoc (eo ((hyq.up e7)))
                · rcases List.mem_append.mp hy with h | h
                  · rcases hop' y h with h | h
                    · exact .inl (List.mem_append_left _ h)
                    · exact .inr h
                  · exact .inl (List.mem_append_right _ h)
                · rcases List.mem_append.mp hy with h | h
                  · exact ⟨(hop7 y h).1, hsome (hop7 y h).2⟩
                  · rw [List.mem_singleton.mp h]; exact ⟨hqm.1, put_same _ _ _⟩
                · rw [take_snoc hqk] at hq'
                  rcases List.mem_append.mp hq' with h | h
                  · exact hnn (hn7 q' h hk')
                  · rw [List.mem_singleton.mp h, put_same]; exact fun z => (by cases z)
              · refine ⟨_, _, kvs7, fv7, op7, rfl, e7, ho7, hf7, rf7, ⟨op', fl7, hop'⟩, hop7, hst7, hd7, hs7, hm7, fun q' hq' hk' => ?_⟩
                rw [take_snoc hqk] at hq'
                rcases List.mem_append.mp hq' with h | h
                · exact hn7 q' h hk'
                · rw [List.mem_singleton.mp h]; intro e; rw [e] at c2; simp at c2
            · have ck : qk.1 ∉ ks := of_decide_eq_false (hin2 ▸ c1)
              refine ⟨_, _, kvs7, fv7, op7, rfl, e7, ho7, hf7, rf7, ⟨op', fl7, hop'⟩, hop7, hst7, hd7, hs7, hm7, fun q' hq' hk' => ?_⟩
              rw [take_snoc hqk] at hq'
              rcases List.mem_append.mp hq' with h | h
              · exact hn7 q' h hk'
              · rw [List.mem_singleton.mp h] at hk'; exact absurd hk' ck
          · rintro σ H7 ⟨v8, v9, kvs7, fv7, op7, rfl, e7, ho7, hf7, rf7, ⟨op', fl7, hop'⟩, hop7, hst7, hd7, hs7, hm7, hn7⟩
            rw [rnb.length, List.take_length] at hn7
            have fl8 : Fl zs ks kvs7 many (op7 ++ [st]) := ⟨fl7.val, fl7.low, fun x hx hc hn => fl7.cur x hx hc fun hm => hn (by
              rcases hop' x hm with h | h
              · exact List.mem_append_left _ h
              · rw [h]; exact List.mem_append_right _ (List.mem_singleton.mpr rfl))⟩
            have fl9 := fl8.close hstm.1 hst7 fun y hy k hk d => hn7 (k, y) (hnb.2 y hy k d) hk
            exact ⟨_, by omega, _, _, _, kvs7, fv7, op7, rfl, e7, ho7, hf7, rf7, fl9, hop7, hd7, hs7, rfl, by omega⟩
        · have c' := of_decide_eq_false c
          have f0 : fv = [] := List.length_eq_zero_iff.mp (by omega)
          subst f0
          cases rf5
          exact ⟨v7, v8, v9, kvs5, rfl, e5, ho5, fl5, hd5, hs5⟩
      · rintro σ H5 ⟨v7, v8, v9, kvs', rfl, e5, ho5, fl5, hd5, hs5⟩
        obtain ⟨fn, hn⟩ := fl5.next
        exact ⟨.int many, rfl, _, _, rfl, rfl, many + 1, _, _, v7, v8, v9, kvs', rfl, e5, ho5, fn, hn, hd5, hs5⟩
    · rintro σ H2 ⟨many, v5, v6, v7, v8, v9, kvs, rfl, e3, ho, fl, hlt, hdone, hsz⟩
      rw [show vs1.length = zs.length from rz.length, List.take_length] at hdone
      obtain ⟨h1, h2⟩ := fl.labels hlt hdone
      exact ⟨.ref o, rfl, q _ H2 (e1.trans (ExB.of e3)) (hF.up fo1 e3) ⟨o, kvs, labOf kvs, rfl, ho, h1, h2⟩⟩
end
end Bp

set_option Elab.async false
set_option linter.all false
set_option maxRecDepth 100000
set_option maxHeartbeats 4000000
namespace Bp
open PySem PySem.Spec PyProof.Rows L2 Evl
/-! ### d.setdefault(k, v), k a tuple -/
def rSetdT : V → List V → Hp → VK → Prop := fun x xs H Q => ∃ (a : Addr) (kvs : List (List Key × V)) (k : List Key) (b : Addr) (d : V), x = .ref a ∧ xs = [.ref b, d] ∧ H a = some (.dT kvs) ∧ H b = some (.tup (k.map kV)) ∧ kvs.length < sizeLine ∧
  (∀ v, valV kvs k = some v → Q v H) ∧ (valV kvs k = none → Q d (upd H a (.dT (putK kvs k d))))
theorem mt_setdT {X : Cx} (hu : X.A.units + 1 < cLine) : MtR X "dict.setdefault" rSetdT := by
  intro pins s σ H x xs v us Q I rx rxs h
  obtain ⟨a, kvs, k, b, d, rfl, rfl, ha, hb, hl, q1, q2⟩ := h
  cases rx
  obtain ⟨u1, u2, rfl, r1, r2⟩ := vals2 rxs
  cases r1
  obtain ⟨z, hd, xs', rel, dd⟩ := dt_of I.hok ha
  have hz : xs'.length ≤ sizeLine := by rw [← Paired.length rel]; exact z
  have hl' : (putK kvs k d).length ≤ sizeLine := by have := length_putK kvs k d; omega
  refine call_setdefault_heap (hsz := hz) (tupleKind_room_in1 hu) (key_of I.hok hb) hd dd (fun p hp => ?_) fun hn h' dd' hs => ?_
  · have r := rel.val k
    rw [hp] at r
    obtain ⟨v0, ev, rv⟩ : ∃ v0, valV kvs k = some v0 ∧ RelV v0 p.2 := by
      cases ev : valV kvs k with
      | none => rw [ev] at r; exact (show False from r).elim
      | some v0 => rw [ev] at r; exact ⟨v0, rfl, r⟩
    exact ⟨v0, H, I.tok _, rv, q1 v0 ev⟩
  · have r := rel.val k
    rw [hn] at r
    have e : valV kvs k = none := by
      cases ev : valV kvs k with
      | none => rfl
      | some v0 => rw [ev] at r; exact (show False from r).elim
    obtain ⟨o, es, ep, hq, h2, h3, h4, _, h5⟩ := dd'
    refine ⟨d, upd H a (.dT (putK kvs k d)), d_write I (by rw [ha]; exact True.intro) hs ⟨o, hq⟩ ⟨hl', hd, _, (rel.put k hb r2).keeps fun c ys ec => ?_, o, es, ep, hq, h2, h3, h4, h5⟩, r2, q2 e⟩
    rw [upd_ne (ne_of ec ha (fun z => nomatch z))]
    exact ec
theorem setdk {X : Cx} {K : PySem.W.Frag} {o e f : Expr} {to : TE} {t : TA} {apos cpos : Pos} (hu : X.A.units + 1 < cLine) (ho : PE X o to) (ha : PA X [e, f] t) (hbase : attributeBase o "setdefault" X.env (eval o X.env) = eval o X.env := by rfl)
    (hfew : ((backTo cpos (starEach [e, f] X.env)).all (fun x => !x.1) && (backToKw cpos (keywordEach [] X.env)).all (fun x => x.1.isSome) && decide ([e, f].length + ([] : List Keyword).length + (if ([] : List Keyword).isEmpty then 0 else 1) < 30)) = true := by rfl)
    (hline : (apos.endLine == cpos.line) = true := by rfl) (hs : starEach [e, f] X.env = (false, eval e X.env) :: starEach [f] X.env := by rfl) (hplain : (backTo cpos (starEach [f] X.env)).any (·.1) = false := by rfl) (h : X.K = K := by rfl) :
    PE X (.Call (.Attribute o "setdefault" apos) [e, f] [] cpos) (tBM K "dict" rSetdT to t) := h ▸ pe_bm PySem.F.plainAttrs_dict PySem.F.slot_dict_setdefault PySem.F.type_dict_setdefault (mt_setdT hu) ho ha hbase hfew hline hs hplain
end Bp

set_option Elab.async false
set_option linter.all false
set_option maxRecDepth 100000
set_option maxHeartbeats 4000000
namespace Bp
open PySem PySem.Spec PyProof.Rows L2 Evl
abbrev s_homes : Stmt := topS 28
/-- all but the object at p and the tables of code objects is kept -/
def ExT (p : Addr) (H H' : Hp) : Prop := ∀ b o, b ≠ p → H b = some o → (∀ ps, o ≠ .tbl ps) → H' b = some o
theorem ExT.of {p : Addr} {H H' : Hp} (e : Ex H H') : ExT p H H' := fun b o _ h _ => e b o h
theorem ExT.ofB {p : Addr} {H H' : Hp} (e : ExB p H H') : ExT p H H' := fun b o n h _ => e b o n h
theorem ExT.trans {p : Addr} {H H' H'' : Hp} (e : ExT p H H') (f : ExT p H' H'') : ExT p H H'' := fun b o n h t => f b o n (e b o n h t) t
theorem ExT.store {C : Addr} {H H' : Hp} {p fd : Addr} {sz : List Int} {zs : List Row} {φ : Heap → Prop} (S : StoreAt C H p sz zs fd) (hf : H fd = some (.ext φ)) (e : ExT fd H H') : StoreAt C H' p sz zs fd := by
  obtain ⟨dx, za, sa, ix, vs, kvs, h1, h2, h3, h4, h5, h6⟩ := S
  exact ⟨dx, za, sa, ix, vs, kvs, e _ _ (ne_of h1 hf (by intro z; cases z)) h1 (by intro _ z; cases z), e _ _ (ne_of h2 hf (by intro z; cases z)) h2 (by intro _ z; cases z), e _ _ (ne_of h3 hf (by intro z; cases z)) h3 (by intro _ z; cases z),
    Paired.mapP h4 fun _ _ ⟨a, g1, g2⟩ => ⟨a, g1, e _ _ (ne_of g2 hf (by intro z; cases z)) g2 (by intro _ z; cases z)⟩, e _ _ (ne_of h5 hf (by intro z; cases z)) h5 (by intro _ z; cases z), h6⟩
theorem ExT.intT {H H' : Hp} {fd : Addr} {φ : Heap → Prop} {v : V} {r : Row} (h : IntT H v r) (hf : H fd = some (.ext φ)) (e : ExT fd H H') : IntT H' v r :=
  let ⟨a, h1, h2⟩ := h; ⟨a, h1, e _ _ (ne_of h2 hf (by intro z; cases z)) h2 (by intro _ z; cases z)⟩
abbrev s_whole : Stmt := topS 29
abbrev N_whole : List Str := ["store", "lot", "led", "rest", "seen", "state"]
theorem sc_whole : FnScope N_whole ["store", "lot"] (defScope s_whole) := ⟨rfl, rfl, rfl, by decide +kernel, rfl, by decide +kernel, by decide +kernel⟩
def spHomes (C : Addr) (FO : Addr → List Row → Nat → Hp → Prop) : Sp := fun vs H Q _ => ∃ (p fd : Addr) (x : V) (sz : List Int) (zs : List Row) (ks : List Nat) (m : Nat), vs = [.ref p, x] ∧ StoreAt C H p sz zs fd ∧ InUse sz zs ∧ FO fd zs m H ∧ m ≤ 900 ∧ IntT H x (asInts ks) ∧ ks.length ≤ 100 ∧
  ∀ v H', ExT fd H H' → FO fd zs (m + 2) H' → HomesAt H' zs ks v → Q v H'
/-- a lot of a joined store is whole -/
def spWhole (C : Addr) (FO : Addr → List Row → Nat → Hp → Prop) : Sp := fun vs H Q _ => ∃ (p fd : Addr) (x : V) (sz : List Int) (zs : List Row) (ks : List Nat) (m : Nat), vs = [.ref p, x] ∧ StoreAt C H p sz zs fd ∧ InUse sz zs ∧ FO fd zs m H ∧ m ≤ 900 ∧ IntT H x (asInts ks) ∧ ks.Nodup ∧ (∀ k ∈ ks, k < sz.length) ∧ ks.length ≤ 100 ∧
  Joined (fun r => r ∈ zs) ∧ ∀ H', ExT fd H H' → FO fd zs (m + 2) H' → Q (.bl true) H'
/-- what agrees on the keys that are not in the lot is on one island of it -/
theorem island_same {sz : List Int} {zs : List Row} {ks : List Nat} {lab : Row → Int} (iu : InUse sz zs) (jo : Joined fun r => r ∈ zs) (hl : ∀ x ∈ zs, ∀ y ∈ zs, ∀ k ∈ ks, Diff1 k x y → lab x = lab y) {a b : Row} (ha : a ∈ zs) (hb : b ∈ zs) (e : onKeys (otherOf sz.length ks) a = onKeys (otherOf sz.length ks) b) : lab a = lab b := by
  have la := (iu.rows a ha).len
  have lb := (iu.rows b hb).len
  have ag : ∀ k, k < sz.length → k ∉ ks → a[k]? = b[k]? := fun k hk hn => by
    have hm : k ∈ otherOf sz.length ks := by unfold otherOf; rw [List.mem_filter, List.mem_range]; exact ⟨hk, decide_eq_true hn⟩
    obtain ⟨i, hi⟩ := List.getElem?_of_mem hm
    have g : (onKeys (otherOf sz.length ks) a)[i]? = (onKeys (otherOf sz.length ks) b)[i]? := by rw [e]
    rw [onKeys_get, onKeys_get, hi] at g
    exact get_of_getD (by omega) (by omega) (Option.some.inj g)
  have go : ∀ {x : Row}, Star (Step (fun r => r ∈ zs) a b) a x → lab a = lab x := by
    intro x h
    induction h with
    | refl => rfl
    | @tail x y s r ih =>
      obtain ⟨hy, by_, k, d⟩ := r
      have sx := s.stays ha
      rw [ih]
      refine hl x sx.1 y hy k ?_ d
      by_cases hk : k ∈ ks
      · exact hk
      · have kl : k < sz.length := by have := d.lt; rw [(iu.rows x sx.1).len] at this; exact this
        have e1 := ag k kl hk
        exact absurd ((sx.2.2 k e1).trans (by_.2 k e1).symm) d.ne
  exact go (jo a ha b hb)
section
variable {P : Program} {w : World} {K : PySem.W.Frag} {mg : Str → Option Value} {base : Heap}
theorem ok_whole {f C fH fO fS : Addr} {fd fdH fdO fdS : FuncData} {FO : Addr → List Row → Nat → Hp → Prop} (hF : Hid FO) (F : Fun K "whole" "whole" s_whole f fd) (B : Blt mg) (T : StTxt K mg C) (D_homes : Dn K mg "homes" s_homes ["store", "lot"] fH fdH) (G_homes : FnOk P w K mg base CX0 9 fH fdH ["store", "lot"] (spHomes C FO))
    (D_otherKeys : Dn K mg "other_keys" s_otherKeys ["store", "lot"] fO fdO) (G_otherKeys : FnOk P w K mg base CX0 5 fO fdO ["store", "lot"] (spOtherKeys C)) (D_seenOn : Dn K mg "seen_on" s_seenOn ["state", "lot"] fS fdS) (G_seenOn : FnOk P w K mg base CX0 1 fS fdS ["state", "lot"] spSeenOn) :
    FnOk P w K mg base CX0 10 f fd ["store", "lot"] (spWhole C FO) := by
  refine F.ok sc_whole (fun vs H Q E h => ?_) (fun cdv A outer s H vs Q E hr h => ?_)
  · obtain ⟨p, fd, x, sz, zs, ks, m, rfl, _⟩ := h
    rfl
  · obtain ⟨p, fd', x, sz, zs, ks, mf, rfl, S, iu, fo, mf9, hx, nd, hk, k100, jo, q⟩ := h
    have hu := room1 hr
    have l8 := iu.l8
    refine ⟨_, (pss_cons (ps_par3 (i := 2) (j := 3) (l := 4) rfl sc_whole.nd rfl rfl rfl (by decide) (by decide) (by decide) rfl rfl rfl (pa_cons (pe_call G_homes (hr.mono (by decide)) (by rfl) D_homes.g D_homes.F.kp D_homes.b .nil pass0 (pa_cons (pv 0) (pa_cons (pv 1) pa_nil))) (pa_cons (pe_call G_otherKeys (hr.mono (by decide)) (by rfl) D_otherKeys.g D_otherKeys.F.kp D_otherKeys.b .nil pass0 (pa_cons (pv 0) (pa_cons (pv 1) pa_nil))) (pa_cons pe_dnewT pa_nil))) rfl)
  (pss_cons (ps_for PassesOwn.never  rfl (piTk (K := K) (fldk (K := K) (pv 0))) (pg_name (i := 5) sc_whole.nd rfl (Or.inl rfl))
    (pss_one (ps_if (pt_cmpR op_ne (setdk (K := K) hu (pv 4) (pa_cons (pe_call G_seenOn (hr.mono (by decide)) (by rfl) D_seenOn.g D_seenOn.F.kp D_seenOn.b .nil pass0 (pa_cons (pv 5) (pa_cons (pv 3) pa_nil))) (pa_cons (pe_dget hu (pv 2) (pv 5) (fun _ _ => rfl)) pa_nil))) (pe_dget hu (pv 2) (pv 5) (fun _ _ => rfl)) (nomark _))
    (pss_one (ps_ret pe_bl))
    pss_nil)))
  (pss_one (ps_ret pe_bl)))), ?_⟩
    refine ⟨.ref p, rfl, x, rfl, p, fd', x, sz, zs, ks, mf, rfl, S, iu, fo, mf9, hx, k100, fun lv H1 e1 fo1 hlv => ?_⟩
    obtain ⟨φ, hφ⟩ := hF.ext fo
    have S1 := ExT.store S hφ e1
    have hx1 := ExT.intT hx hφ e1
    refine ⟨.ref p, rfl, x, rfl, p, fd', x, sz, zs, ks, rfl, S1, hx1, nd, hk, k100, by omega, fun rv H2 e2 hrv => fun o no => ⟨_, _, _, rfl, ?_⟩⟩
    have e3 := e2.trans (Ex.new (o := .dT []) no)
    obtain ⟨d1, za, sa, ix, vs1, kvs1, hp, hz, hs, rz, _⟩ := S1
    obtain ⟨lb, lk, lab, rfl, hlb, hlab, hsame⟩ := hlv
    obtain ⟨ra, rfl, hra⟩ := hrv
    have no1 := freshEx e2 no
    have few := iu.few
    have hra3 := (Ex.new (o := .dT []) no) _ _ hra
    have ho3 := upd_same (H := H2) (a := o) (o := .dT [])
    generalize upd H2 o (.dT []) = H3 at *
    refine ⟨.ref p, rfl, p, C, d1, _, _, rfl, e3 _ _ hp, T.cl, T.nS, sf_states, sa, rfl, ⟨_, SqT.of (e3 _ _ hs)⟩, for_tup (K := K) (a := sa) (xs := vs1) (fun i σ H' => ∃ (v5 : Option V) (kvs : List (List Key × V)), σ = [some (.ref p), some x, some (.ref lb), some (.ref ra), some (.ref o), v5] ∧ Ex H1 H' ∧ H' ra = some (.tup ((asInts (otherOf sz.length ks)).map V.int)) ∧ H' o = some (.dT kvs) ∧ kvs.length ≤ i ∧
      ∀ r v, valV kvs (keyR r) = some v → ∃ z ∈ zs, r = onKeys (otherOf sz.length ks) z ∧ v = .int (lab z)) ?_ ?_ ?_ ?_⟩
    · exact ⟨none, [], rfl, e3, hra3, ho3, Nat.le_refl _, fun r v h => by cases h⟩
    · rintro i σ H' _ ⟨_, _, _, e, _⟩
      exact SqT.of (e _ _ hs)
    · rintro i y σ H4 hy ⟨v5, kvs, rfl, e4, hra4, ho4, hkl, hin⟩
      obtain ⟨z, hz', hyz⟩ := pairedGet rz hy
      have hzm := List.mem_of_getElem? hz'
      have hil := (List.getElem?_eq_some_iff.mp hz').1
      have lz := (iu.rows z hzm).len
      -- seen.setdefault(seen_on(state, rest), led[state])
      refine ⟨.ref o, rfl, .inr (.inr (.inl ⟨rfl, .inr ⟨kvs, ho4⟩⟩)), y, rfl, .ref ra, rfl, y, .ref ra, z, otherOf sz.length ks, rfl, hyz.up e4, ⟨ra, rfl, hra4⟩, fun k hk => ?_, ?_, fun sv H5 e5 hsv => ?_⟩
      · rw [lz]
        exact List.mem_range.mp (List.mem_filter.mp hk).1
      · exact Nat.le_trans (List.length_filter_le _ _) (by rw [List.length_range]; omega)
      have e45 := e4.trans e5
      obtain ⟨ya, rfl, hya⟩ := (hyz.up e45).key
      obtain ⟨sb, rfl, hsb⟩ := hsv.key
      have ho5 := e5 _ _ ho4
      have hled : DGet H5 lb (.ref ya) (some (.int (lab z))) := by rw [← hlab z hzm]; exact DGet.t (e45 _ _ hlb) hya
      refine ⟨.ref lb, rfl, .ref ya, rfl, lb, _, rfl, hled, o, kvs, keyR (onKeys (otherOf sz.length ks) z), sb, .int (lab z), rfl, rfl, ho5, hsb, Nat.lt_of_lt_of_le (by omega : kvs.length < 1000) (by decide), fun v hv => ?_, fun hv => ?_⟩
      · obtain ⟨z', hz2, hk', rfl⟩ := hin _ _ hv
        have es : lab z' = lab z := island_same iu jo hsame hz2 hzm hk'.symm
        refine ⟨.ref lb, rfl, .ref ya, rfl, lb, _, rfl, hled, rfl, _, rfl, ?_⟩
        rw [es]
        refine ifE (fun c => (by simp at c)) (fun _ => ⟨_, kvs, rfl, e45, e5 _ _ hra4, ho5, by omega, hin⟩)
      · have e6 : Ex H1 (upd H5 o (.dT (putK kvs (keyR (onKeys (otherOf sz.length ks) z)) (.int (lab z))))) := e45.mut no1
        have hled6 : DGet (upd H5 o (.dT (putK kvs (keyR (onKeys (otherOf sz.length ks) z)) (.int (lab z))))) lb (.ref ya) (some (.int (lab z))) := by
          rw [← hlab z hzm]; exact DGet.t (e6 _ _ hlb) (by rw [upd_ne (ne_of hya ho5 (by intro c; cases c))]; exact hya)
        refine ⟨.ref lb, rfl, .ref ya, rfl, lb, _, rfl, hled6, rfl, _, rfl, ?_⟩
        refine ifE (fun c => (by simp at c)) (fun _ => ⟨_, _, rfl, e6, by rw [upd_ne (ne_of (e5 _ _ hra4) ho5 (by intro c; cases c))]; exact e5 _ _ hra4, upd_same, by have := length_putK kvs (keyR (onKeys (otherOf sz.length ks) z)) (.int (lab z)); omega, fun r v h => ?_⟩)
        rw [valV_put] at h
        by_cases c : keyR r = keyR (onKeys (otherOf sz.length ks) z)
        · rw [if_pos c] at h
          exact ⟨z, hzm, keyR_inj c, (Option.some.inj h).symm⟩
        · rw [if_neg c] at h
          exact hin r v h
    · rintro σ H4 ⟨v5, kvs, rfl, e4, _⟩
      exact q H4 (e1.trans (ExT.of e4)) (hF.up fo1 e4)
end
end Bp

set_option Elab.async false
set_option linter.all false
set_option maxRecDepth 100000
set_option maxHeartbeats 4000000
namespace Bp
open PySem PySem.Spec PyProof.Rows L2 Evl
/-! ### sorted of a list of tuples of ints of any lengths, the first of which is () -/
section
open PySem.W
variable {prog : Program} {w : World} {A : Around} {E : Value → Shared → Prop} {s : Shared}
theorem tupInts_obj {h : Heap} {v : Value} {ns : List Int} (x : TS.TupInts h v ns) : ∃ (a : Addr) (o : Obj) (xs : Array Value) (n : Nat), v = .ref a ∧ h.get? a = some o ∧ o.cls = .type "tuple" ∧ o.data = .seq xs n ∧ IntsAre xs.toList ns := by
  obtain ⟨a, xs, rfl, ⟨o, ho, hc, n, hd⟩, hi⟩ := x
  exact ⟨a, o, xs, n, rfl, ho, hc, hd, hi⟩
/-- what the sort asks of each: its first item, if there is one -/
theorem firsts_run {M : Model} : ∀ (vs : List Value) {Q : List (Option Value) → Shared → Prop}, (∀ v ∈ vs, ∃ ns, TS.TupInts s.heap v ns) → (∀ fs : List (Option Value), fs.length = vs.length → (∀ v, vs.head? = some v → TS.TupInts s.heap v [] → fs.head? = some none) → Q fs s) → wpAny M A (vs.mapM firstOfTuple') Q E s
  | [], _, _, h => by rw [List.mapM_nil]; exact wpAny_pure (h [] rfl fun v e => by cases e)
  | v :: vs, Q, hv, h => by
    obtain ⟨ns, hns⟩ := hv v List.mem_cons_self
    obtain ⟨a, o, xs, n, rfl, ho, hc, hd, hi⟩ := tupInts_obj hns
    rw [List.mapM_cons]
    refine wpAny_bind ?_
    rw [kas_first_eq]
    refine wpAny_bind (Looks.here (show Looks M s.heap (typeOf (.ref a)) o.cls from (Looks.ld ho).andThen .now) ?_)
    rw [hc, if_neg (by first | decide | simp)]
    refine wpAny_bind (listItems_at ho hd (wpAny_pure ?_))
    refine wpAny_bind (firsts_run vs (Q := fun bs s' => wpAny M A (pure (xs[0]? :: bs)) Q E s') (fun u hu => hv u (List.mem_cons_of_mem _ hu)) fun fs hl _ => wpAny_pure (h _ (by simp [hl]) fun v' e hv' => ?_))
    cases e
    obtain ⟨a', o', xs', n', e', ho', hc', hd', hi'⟩ := tupInts_obj hv'
    cases e'
    rw [ho] at ho'
    cases ho'
    rw [hd] at hd'
    cases hd'
    have : xs.toList.length = 0 := by rw [hi'.length]; rfl
    have hx : xs.size = 0 := by simpa using this
    rw [show xs[0]? = none from Array.getElem?_eq_none (by omega)]
    rfl
theorem kind_run {M : Model} {vs : List Value} {Q : SortKind → Shared → Prop} (hv : ∀ v ∈ vs, ∃ ns, TS.TupInts s.heap v ns) (h0 : ∃ v r, vs = v :: r ∧ TS.TupInts s.heap v []) (h : Q oneType' s) : wpAny M A (keyKind' vs.toArray) Q E s := by
  obtain ⟨v0, r0, rfl, hv0⟩ := h0
  rw [keyKind'_eq, List.mapM_toArray, map_eq_pure_bind]
  refine wpAny_bind (wpAny_bind (firsts_run _ hv fun fs hl hh => wpAny_pure ?_))
  have f0 := hh v0 rfl hv0
  obtain ⟨rest, rfl⟩ : ∃ rest, fs = none :: rest := by
    cases fs with
    | nil => cases f0
    | cons a r => cases f0; exact ⟨r, rfl⟩
  rw [if_neg (by simp), if_neg (by simp)]
  rw [oneTypeOnly'_eq, List.mapM_toArray, map_eq_pure_bind]
  have hT : ∀ v ∈ v0 :: r0, Looks M s.heap (typeOf v) (.type "tuple") := fun v hm => by
    obtain ⟨ns, hns⟩ := hv v hm
    obtain ⟨a, o, xs, n, rfl, ho, hc, _⟩ := tupInts_obj hns
    rw [← hc]
    exact (Looks.ld ho).andThen .now
  refine wpAny_bind (wpAny_bind (wpAny_bind (kas_mapM (r := Value.type "tuple") _ (fun v hv Q' hq => (hT v hv).here hq) (wpAny_pure ?_))))
  have hall : ((List.map (fun _ => Value.type "tuple") (v0 :: r0)).toArray.all fun x => x == Value.type "tuple") = true := by
    simp only [List.all_toArray, List.all_map, List.all_eq_true]
    intro x hx
    show (Value.type "tuple" == Value.type "tuple") = true
    decide +kernel
  have h0 : (List.map (fun _ => Value.type "tuple") (v0 :: r0)).toArray[0]? = some (Value.type "tuple") := by simp
  rw [h0]
  simp only [hall, if_true]
  exact wpAny_pure (wpAny_pure h)
theorem lt_tups {v u : Value} {ns ms : List Int} {Q : Bool → Shared → Prop} (hu : A.units < cLine) (hv : TS.TupInts s.heap v ns) (hw : TS.TupInts s.heap u ms) (h : Q (HT.lexLt ns ms) s) : wpAny (model prog w) A (keyLt' oneType' v u) Q E s := by
  obtain ⟨a, o, xs, n, rfl, ho, hc, hd, hi⟩ := tupInts_obj hv
  obtain ⟨b, o2, xs2, n2, rfl, ho2, hc2, hd2, hi2⟩ := tupInts_obj hw
  have tv : s.TypeIs (.ref a) "tuple" := ⟨o, ho, hc⟩
  rw [keyLt'_oneType, oneLt'_eq]
  simp only [if_true]
  refine wpAny_bind (wpAny_cRoomFor hu ?_)
  obtain ⟨cls, dd, data, sl⟩ := o
  obtain ⟨cls2, dd2, data2, sl2⟩ := o2
  simp only at hc hd hc2 hd2
  subst hc hd hc2 hd2
  refine wpAny_bind (wpAny_callSpecialIfBound?_slot (name := Str.ofString "__lt__") tv PySem.F.slot_tuple_lt (PySem.call_meets PySem.F.slot_tuple_lt tv PySem.F.entry_tuple_lt (PySem.F.args_tuple_lt_2 _ _) (HT.tuple_lt_ints a b xs xs2 n n2 dd dd2 sl sl2 ns ms hi hi2) ⟨ho, ho2, ?_⟩))
  exact wpAny_truthy_bool h
theorem lots_sortable {a : Addr} {vs : List Value} {k : Value → List Int} (hu : A.units < cLine) (hv : ∀ v ∈ vs, TS.TupInts s.heap v (k v)) (h0 : ∃ v r, vs = v :: r ∧ k v = []) (ha : ∀ v ∈ vs, v ≠ .ref a) : SrtO.SortableO prog w A s a vs fun v u => HT.lexLt (k v) (k u) := by
  intro h' keep
  have hv' : ∀ v ∈ vs, TS.TupInts h' v (k v) := fun v hm => by
    obtain ⟨b, xs, e, ⟨o, ho, hc, n, hd⟩, hi⟩ := hv v hm
    exact ⟨b, xs, e, ⟨o, keep b o (fun z => ha v hm (by rw [e, z])) ho, hc, n, hd⟩, hi⟩
  obtain ⟨v0, r0, e0, k0⟩ := h0
  refine ⟨oneType', fun Q E hq => kind_run (s := { s with heap := h' }) (fun v hm => ⟨_, hv' v hm⟩) ⟨v0, r0, e0, by have := hv' v0 (by rw [e0]; exact List.mem_cons_self); rw [k0] at this; exact this⟩ hq, fun p q hp hq => ?_⟩
  exact lt_tups (s := { s with heap := h' }) (Q := fun r s' => s' = { s with heap := h' } ∧ r = HT.lexLt (k p.1) (k q.1)) (E := fun _ _ => False) hu (hv' p.1 hp) (hv' q.1 hq) ⟨rfl, rfl⟩
end
/-- sorted(xs), xs tuples of ints, the first of them (): a new list of the same, in some order -/
def rSortLots (K : PySem.W.Frag) : List V → Hp → VK → Prop := fun vs H Q => ∃ (a : Addr) (xs : List V), vs = [V.ref a] ∧ SqL K H a xs ∧ (∀ x ∈ xs, ∃ ns, TupI K H x ns) ∧ (∃ x r, xs = x :: r ∧ TupI K H x []) ∧
  ∀ (ys : List V) (p : Addr), ys.Perm xs → H p = none → Q (.ref p) (upd H p (.lst ys))
theorem sortLotsk {X : Cx} {K : PySem.W.Frag} (hu : X.A.units + 3 < cLine) (hK : X.K = K := by rfl) : CallR X (.builtin "sorted") (rSortLots K) := by
  intro pins s σ H vs us Q I r h
  obtain ⟨a, xs, rfl, hs, hx, ⟨x0, r0, e0, hx0⟩, q⟩ := h
  subst hK
  obtain ⟨its, rv, hl, hz⟩ := I.list hs
  rw [Vals.ref1 r]
  obtain ⟨e1, e2⟩ := bkV_refs rv fun x m => by
    obtain ⟨ns, t, e, _⟩ := hx x m
    exact ⟨t, e⟩
  have hzi : its.length ≤ sizeLine := by rw [← rv.length]; exact hz
  have hti : ∀ v ∈ its, ∃ ns, TS.TupInts s.heap v ns := fun v hv => by
    obtain ⟨t, rfl⟩ := e2 v hv
    have hm : V.ref t ∈ xs := by
      rw [e1]
      exact List.mem_map.mpr ⟨_, hv, rfl⟩
    obtain ⟨ns, t', e, ht⟩ := hx _ hm
    cases e
    exact ⟨ns, tupI_raw I ht⟩
  have hk : ∀ v ∈ its, TS.TupInts s.heap v (TS.intsOf s.heap v) := fun v hv => by
    obtain ⟨ns, hn⟩ := hti v hv
    rw [hn.ints]
    exact hn
  have hfirst : ∃ v rr, its = v :: rr ∧ TS.intsOf s.heap v = [] := by
    subst e0
    cases rv with
    | cons ra rb =>
      obtain ⟨t, e, ht⟩ := hx0
      subst e
      cases ra
      exact ⟨_, _, rfl, (tupI_raw I ht).ints⟩
  refine SrtO.sorted_ord (NtL.swo_lexL fun u : Value => TS.intsOf s.heap u) hl.isList hzi (fun h2 h₁ a' ha' kk => ?_) fun out hs1 hb => ?_
  · refine lots_sortable (s := { s with heap := h₁ }) (by show X.A.units + 1 + 1 < cLine; omega) (fun v hv => ?_) hfirst fun v hv e => ?_
    · obtain ⟨b, xs', e, ⟨o, ho, hc, n, hd⟩, hi⟩ := hk v hv
      exact ⟨b, xs', e, ⟨o, (kk b o ho).2, hc, n, hd⟩, hi⟩
    · obtain ⟨b, xs', e', ⟨o, ho, hc, n, hd⟩, hi⟩ := hk v hv
      rw [e] at e'
      cases e'
      exact (kk a' o ho).1 rfl
  · obtain ⟨ep, he'⟩ := PyProof.Rows.sortedAll_at s.heap its out.toArray
    have h3 : ∀ u ∈ out, ∃ a, u = Value.ref a := fun u hu => e2 u (hb.perm.mem_iff.mp hu)
    have hp : (out.map bkV).Perm xs := by
      rw [e1]
      exact hb.perm.map bkV
    have hlen : (out.map bkV).length ≤ sizeLine := by
      rw [hp.length_eq]
      exact hz
    exact ⟨.ref _, upd H (s.heap.objs.size + 1) (.lst (out.map bkV)), I.laid (t' := s.toks) (fun _ _ => PyProof.Rows.sortedAll_old) (Nat.le_succ _) ⟨hlen, out, ep, bkV_vals h3, he'⟩, rfl, q _ _ hp (I.hok.fresh (Nat.le_succ _))⟩
end Bp

set_option Elab.async false
set_option linter.all false
set_option maxRecDepth 100000
set_option maxHeartbeats 4000000
namespace Bp
open PySem PySem.Spec PyProof.Rows L2 Evl
abbrev s_allLots : Stmt := topS 30
abbrev N_allLots : List Str := ["store", "found", "key", "lot"]
theorem sc_allLots : FnScope N_allLots ["store"] (defScope s_allLots) := ⟨rfl, rfl, rfl, by decide +kernel, rfl, by decide +kernel, by decide +kernel⟩
abbrev s_findJoined : Stmt := topS 32
abbrev N_findJoined : List Str := ["store", "lot"]
theorem sc_findJoined : FnScope N_findJoined ["store"] (defScope s_findJoined) := ⟨rfl, rfl, rfl, by decide +kernel, rfl, by decide +kernel, by decide +kernel⟩
theorem room3 {k : Nat} {A : Around} (r : Room k A) : A.units + 3 < cLine := by have := r.un; omega
/-- a lot of keys below n, as a row -/
def LotR (n : Nat) (r : Row) : Prop := ∃ ks : List Nat, r = asInts ks ∧ ks.Nodup ∧ ∀ k ∈ ks, k < n
def spAllLots (C : Addr) : Sp := fun vs H Q _ => ∃ (p fd : Addr) (sz : List Int) (zs : List Row), vs = [.ref p] ∧ StoreAt C H p sz zs fd ∧ InUse sz zs ∧ ∀ q ys rows H', H q = none → Ex H H' → H' q = some (.lst ys) → RowsOf H' ys rows → (∀ r ∈ rows, LotR sz.length r) → rows.length ≤ 256 → Q (.ref q) H'
def spFindJoined (C : Addr) (FO : Addr → List Row → Nat → Hp → Prop) : Sp := fun vs H Q _ => ∃ (p fd : Addr) (sz : List Int) (zs : List Row) (m : Nat), vs = [.ref p] ∧ StoreAt C H p sz zs fd ∧ InUse sz zs ∧ FO fd zs m H ∧ m ≤ 100 ∧ Joined (fun r => r ∈ zs) ∧ ∀ m' H', m' ≤ 900 → ExT fd H H' → FO fd zs m' H' → Q (.bl true) H'
theorem nodup_le {n : Nat} {ks : List Nat} (nd : ks.Nodup) (h : ∀ k ∈ ks, k < n) : ks.length ≤ n := by
  have := (List.Nodup.length_le_of_subset nd (l₂ := List.range n) fun k hk => List.mem_range.mpr (h k hk))
  rwa [List.length_range] at this
section
variable {P : Program} {w : World} {K : PySem.W.Frag} {mg : Str → Option Value} {base : Heap}
theorem ok_allLots {f C : Addr} {fd : FuncData} (F : Fun K "all_lots" "all_lots" s_allLots f fd) (B : Blt mg) (T : StTxt K mg C) : FnOk P w K mg base CX0 1 f fd ["store"] (spAllLots C) := by
  refine F.ok sc_allLots (fun vs H Q E h => ?_) (fun cdv A outer s H vs Q E hr h => ?_)
  · obtain ⟨p, fd, sz, zs, rfl, _⟩ := h
    rfl
  · obtain ⟨p, fd', sz, zs, rfl, S, iu, q⟩ := h
    have hu3 := room3 hr
    obtain ⟨d1, za, sa, ix, vs1, kvs1, hp, hz, hs, rz, hix, hin, hout⟩ := id S
    have l8 := iu.l8
    have npos := List.length_pos_iff.mpr iu.ne
    refine ⟨_, (pss_cons (ps_set (i := 1) sc_allLots.nd rfl (.inl rfl) (pe_lst (pa_cons (pe_tup pa_nil) pa_nil)))
  (pss_cons (ps_for PassesOwn.never  rfl (pi_range1 (by rfl) B.range (pa_cons (fldk (K := K) (pv 0)) pa_nil)) (pg_name (i := 2) sc_allLots.nd rfl (Or.inr rfl))
    (pss_one (ps_set (i := 1) sc_allLots.nd rfl (.inl rfl) (pe_op op_cat (pv 1) (lck (own := [("lot", 3)]) rfl sc_allLots.nd (show blkC N_allLots (defScope s_allLots) _ _ = true by decide +kernel) (piLk (K := K) (pv 1)) (fun _ _ _ _ _ => (pg_name (i := 3) sc_allLots.nd rfl (Or.inl rfl))) (fun _ _ _ _ _ => pts_nil) (fun _ _ _ _ _ => (pe_tup (pastar (K := K) (pv 3) (pa_cons (pv 2) pa_nil)))))))))
  (pss_one (ps_ret (pe_callB (sortLotsk (K := K) hu3) (by rfl) B.sorted bt_sorted (pa_cons (pv 1) pa_nil)))))), ?_⟩
    refine ⟨Nat.zero_le _, fun t nt => ⟨by show 1 ≤ sizeLine; decide, fun o no => ?_⟩⟩
    have e0 := (Ex.new (H := H) (o := .tup []) nt).trans (Ex.new (o := .lst [.ref t]) no)
    refine ⟨.ref p, rfl, p, C, d1, _, _, rfl, e0 _ _ hp, T.cl, T.nC, sf_count, sz.length, rfl, by omega, by omega, for_range (n := ((sz.length : Nat) : Int).toNat) (fun i σ H' => ∃ (o : Addr) (v2 : Option V) (x0 : V) (fv : List V) (rows : List Row), σ = [some (.ref p), some (.ref o), v2, none] ∧ Ex H H' ∧ H' o = some (.lst (x0 :: fv)) ∧ RowsOf H' (x0 :: fv) ([] :: rows) ∧ (∀ r ∈ ([] :: rows : List Row), LotR i r) ∧ ([] :: rows : List Row).length ≤ 2 ^ i) ?_ ?_ ?_⟩
    · refine ⟨o, none, .ref t, [], [], rfl, e0, upd_same, .cons ⟨t, rfl, by rw [upd_ne (ne_of_none upd_same no)]; exact upd_same⟩ .nil, fun r hr => ?_, by simp⟩
      rw [List.mem_singleton.mp hr]
      exact ⟨[], rfl, .nil, by simp⟩
    · rintro i σ H1 hi ⟨o, v2, x0, fv, rows, rfl, e1, ho, rr, hl, hlen⟩
      have hi' : i < sz.length := by omega
      have p2 : 2 ^ i ≤ 2 ^ 7 := Nat.pow_le_pow_right (by omega) (by omega)
      have p3 : 2 ^ (i + 1) = 2 * 2 ^ i := by rw [Nat.pow_succ]; omega
      rw [Int.zero_add]
      have fl : (x0 :: fv).length = ([] :: rows : List Row).length := rr.length
      refine ⟨.ref o, rfl, .ref o, rfl, o, rfl, ⟨_, SqL.of ho⟩, fun D nD => ?_⟩
      generalize hAll : ([] :: rows : List Row) = all at *
      refine lcL (σ := [some (.ref p), some (.ref o), some (.int (i : Int)), none]) (xs := x0 :: fv) (fun j acc H' => RowsOf H' acc ((all.take j).map fun (r : Row) => r ++ [(i : Int)])) nD (fun _ _ _ _ _ _ _ _ hl h => h.wr hl) (by simp; exact .nil) (fun _ _ _ => by simp; exact .nil) (SqL.of ho) (by omega) ?_ ?_
      · rintro j v hv acc H2 Cy Cn e2 racc cy _
        obtain ⟨r, hr', hvr⟩ := pairedGet rr hv
        obtain ⟨ks, rfl, nd, hk⟩ := hl r (List.mem_of_getElem? hr')
        have kl := nodup_le nd hk
        obtain ⟨va, rfl, hva⟩ := hvr.up e2
        refine ⟨rfl, tYesE ⟨.ref va, rfl, va, _, rfl, .inl (SqT.of hva), .int (i : Int), rfl, ?_, fun u nu => cy _ _ (Ex.new nu) ?_⟩⟩
        · rw [List.length_append, ints_len]
          exact Nat.le_trans (by show ks.length + 1 ≤ 100; omega) (by decide)
        · show RowsOf _ (acc ++ [_]) _
          rw [take_snoc hr', List.map_append]
          exact (racc.up (Ex.new nu)).snoc ⟨u, rfl, by rw [upd_same]; simp⟩
      · rintro acc H2 e2 hD racc hacc
        rw [fl, List.take_length] at racc
        refine ⟨o, D, x0 :: fv, acc, rfl, rfl, e2 _ _ ho, hD, Nat.le_trans (by omega : (x0 :: fv).length + acc.length ≤ 1000) (by decide), fun u nu => ?_⟩
        have rr2 : RowsOf (upd H2 u (.lst (x0 :: fv ++ acc))) (x0 :: fv ++ acc) (all ++ all.map fun (r : Row) => r ++ [(i : Int)]) := pairedApp ((rr.up e2).up (Ex.new nu)) (racc.up (Ex.new nu))
        rw [← hAll] at rr2
        refine ⟨u, _, x0, fv ++ acc, rows ++ ([] :: rows).map fun (r : Row) => r ++ [(i : Int)], rfl, (e1.trans e2).trans (Ex.new nu), upd_same, rr2, fun r hr => ?_, ?_⟩
        · have hr' : r ∈ all ++ all.map fun (r : Row) => r ++ [(i : Int)] := by rw [← hAll]; exact hr
          rcases List.mem_append.mp hr' with h | h
          · obtain ⟨ks, e, nd, hk⟩ := hl r h
            exact ⟨ks, e, nd, fun k h => Nat.lt_succ_of_lt (hk k h)⟩
          · obtain ⟨r0, h0, rfl⟩ := List.mem_map.mp h
            obtain ⟨ks, rfl, nd, hk⟩ := hl r0 h0
            refine ⟨ks ++ [i], by simp [asInts], List.nodup_append.mpr ⟨nd, by simp, fun a ha b hb e => ?_⟩, fun k h => ?_⟩
            · rw [List.mem_singleton.mp hb] at e
              have := hk a ha
              omega
            · rcases List.mem_append.mp h with h | h
              · exact Nat.lt_succ_of_lt (hk k h)
              · rw [List.mem_singleton.mp h]; exact Nat.lt_succ_self i
        · have h1 : ([] :: (rows ++ ([] :: rows).map fun (r : Row) => r ++ [(i : Int)]) : List Row).length = all.length + all.length := by
            rw [← hAll]; simp; omega
          rw [h1, p3]
          omega
    · rintro σ H1 ⟨o, v2, x0, fv, rows, rfl, e1, ho, rr, hl, hlen⟩
      rw [show ((sz.length : Nat) : Int).toNat = sz.length by omega] at hl hlen
      have p2 : 2 ^ sz.length ≤ 2 ^ 8 := Nat.pow_le_pow_right (by omega) l8
      have hx0 : TupI K H1 x0 [] := by
        cases rr with
        | cons h _ => exact tupI_of h
      refine ⟨.ref o, rfl, o, x0 :: fv, rfl, SqL.of ho, fun x hx => ?_, ⟨x0, fv, rfl, hx0⟩, fun ys l pm nl => ?_⟩
      · obtain ⟨r, _, hxr⟩ := pairedMem rr hx
        exact ⟨r, tupI_of hxr⟩
      · obtain ⟨rows', pn, rn⟩ := pairedPerm pm.symm rr
        exact q l ys rows' _ (freshEx e1 nl) (e1.trans (Ex.new nl)) upd_same (RowsOf.up rn (Ex.new nl)) (fun r hr => hl r (pn.mem_iff.mpr hr)) (by rw [← pn.length_eq]; omega)
theorem ok_findJoined {f C fA fW : Addr} {fd fdA fdW : FuncData} {FO : Addr → List Row → Nat → Hp → Prop} (hF : Hid FO) (F : Fun K "find_joined" "find_joined" s_findJoined f fd) (B : Blt mg) (D_allLots : Dn K mg "all_lots" s_allLots ["store"] fA fdA) (G_allLots : FnOk P w K mg base CX0 1 fA fdA ["store"] (spAllLots C))
    (D_whole : Dn K mg "whole" s_whole ["store", "lot"] fW fdW) (G_whole : FnOk P w K mg base CX0 10 fW fdW ["store", "lot"] (spWhole C FO)) : FnOk P w K mg base CX0 11 f fd ["store"] (spFindJoined C FO) := by
  refine F.ok sc_findJoined (fun vs H Q E h => ?_) (fun cdv A outer s H vs Q E hr h => ?_)
  · obtain ⟨p, fd, sz, zs, m, rfl, _⟩ := h
    rfl
  · obtain ⟨p, fd', sz, zs, mf, rfl, S, iu, fo, mf1, jo, q⟩ := h
    have l8 := iu.l8
    refine ⟨_, (pss_one (ps_ret (pe_callB (allk rfl (K := K)) (by rfl) B.all bt_all (pa_cons (lck (own := [("lot", 1)]) rfl sc_findJoined.nd (show blkC N_findJoined (defScope s_findJoined) _ _ = true by decide +kernel) (piLk (K := K) (pe_call G_allLots (hr.mono (by decide)) (by rfl) D_allLots.g D_allLots.F.kp D_allLots.b .nil pass0 (pa_cons (pv 0) pa_nil))) (fun _ _ _ _ _ => (pg_name (i := 1) sc_findJoined.nd rfl (Or.inl rfl))) (fun _ _ _ _ _ => pts_nil) (fun _ _ _ _ _ => (pe_call G_whole (hr.mono (by decide)) (by rfl) D_whole.g D_whole.F.kp D_whole.b .nil pass0 (pa_cons (pv 0) (pa_cons (pv 1) pa_nil))))) pa_nil)))), ?_⟩
    refine ⟨.ref p, rfl, p, fd', sz, zs, rfl, S, iu, fun l ys rows H1 nl e1 hl rr hlot h256 => ?_⟩
    have rl := rr.length
    refine ⟨l, rfl, ⟨_, SqL.of hl⟩, fun D nD => ?_⟩
    obtain ⟨φ, hφ⟩ := hF.ext fo
    have hφ1 := e1 _ _ hφ
    have fo1 := hF.up fo e1
    have S1 := S.up e1
    have nDf : D ≠ fd' := fun z => by subst z; rw [nD] at hφ1; cases hφ1
    have hlD : l ≠ D := fun z => by subst z; rw [nD] at hl; cases hl
    have nlf : l ≠ fd' := ne_of hl hφ1 (by intro z; cases z)
    refine lc_list (K := K) (a := l) (xs := ys) (fun i H' => ∃ bs : List Bool, H' D = some (.lst (bs.map V.bl)) ∧ (∀ b ∈ bs, b = true) ∧ bs.length ≤ i ∧ ExT fd' H1 H' ∧ FO fd' zs (mf + 2 * i) H') ?_ ?_ ?_ ?_
    · exact ⟨[], upd_same, by simp, Nat.le_refl _, ExT.of (Ex.new nD), hF.up fo1 (Ex.new nD)⟩
    · rintro i H' _ ⟨_, _, _, _, e, _⟩
      exact SqL.of (e _ _ nlf hl (by intro _ z; cases z))
    · rintro i x H2 hx ⟨bs, hD, hbs, hbl, e2, fo2⟩
      obtain ⟨r, hr', hxr⟩ := pairedGet rr hx
      obtain ⟨ks, rfl, nd, hk⟩ := hlot r (List.mem_of_getElem? hr')
      have kl := nodup_le nd hk
      have hil := (List.getElem?_eq_some_iff.mp hr').1
      have S2 := ExT.store S1 hφ1 e2
      have hx2 := ExT.intT hxr hφ1 e2
      refine ⟨rfl, tYesE ⟨.ref p, rfl, x, rfl, p, fd', x, sz, zs, ks, mf + 2 * i, rfl, S2, iu, fo2, by omega, hx2, nd, hk, by omega, jo, fun H3 e3 fo3 => ?_⟩⟩
      have hD3 := e3 _ _ nDf hD (by intro _ z; cases z)
      have hlen : (bs.map V.bl).length < sizeLine := Nat.lt_of_lt_of_le (by rw [List.length_map]; omega : (bs.map V.bl).length < 1000) (by decide)
      refine ⟨_, hD3, hlen, bs ++ [true], by rw [upd_same]; simp, by simpa using hbs, by simp; omega, fun b o hb h ht => ?_, by have := hF.wr (o := .lst (bs.map V.bl ++ [.bl true])) fo3 hD3; exact this⟩
      have h3 := e3 _ _ hb (e2 _ _ hb h ht) ht
      rw [upd_ne (fun z => by subst z; rw [nD] at h; cases h)]
      exact h3
    · rintro H2 ⟨bs, hD, hbs, hbl, e2, fo2⟩
      refine ⟨D, bs, rfl, SqL.of hD, ?_⟩
      rw [List.all_eq_true.mpr (fun b hb => by rw [hbs b hb]; rfl)]
      exact q _ H2 (by have := rr.length; omega) ((ExT.of e1).trans e2) fo2
end
end Bp

set_option Elab.async false
set_option linter.all false
set_option maxRecDepth 100000
set_option maxHeartbeats 4000000
namespace Bp
open PySem PySem.Spec PyProof.Rows L2 Evl
/-! ### a dict whose keys are texts and tuples of texts and of tuples -/
section
variable {prog : Program} {w : World} {A : Around} {E : Value → Shared → Prop} {s : Shared}
def NIs (h : Heap) (k : NestedKey) (v : Value) : Prop := NestedIs h k v ∧ k.depth ≤ 8
def nEnt (w : World) (x : NestedKey × Value × Value) : DictEntry := ⟨x.1.hash w, x.2.1, x.2.2⟩
theorem nEq {k j : NestedKey} {u v : Value} {Q : Bool → Shared → Prop} (hu : A.units + 8 < cLine) (hx : NIs s.heap k u) (hy : NIs s.heap j v) (h : Q (decide (k = j)) s) : wpAny (model prog w) A (eqBool u v) Q E s :=
  eqAt_key k j A s _ _ hx.1 hy.1 (by have := hx.2; have := hy.2; omega) _ _ _ _ (by rw [← NestedKey.decide_eq]; exact h)
theorem nHash {k : NestedKey} {v : Value} {Q : Int → Shared → Prop} (hu : A.units + 8 < cLine) (hk : NIs s.heap k v) (h : Q (k.hash w) { s with toks := s.toks + k.draws }) : wpAny (model prog w) A (pyHash v) Q E s := pyHash_key _ _ _ _ _ hk.1 (by have := hk.2; omega) h
theorem nQuiet {k : NestedKey} {v : Value} {Q : Bool → Shared → Prop} (hk : NIs s.heap k v) (h : Q true s) : wpAny (model prog w) A (eqIsQuiet 8 v) Q E s := quiet_key k _ 8 s hk.1 hk.2 A E Q h
theorem nTells {k : NestedKey} {v : Value} {stored : List Value} {Q : Bool → Shared → Prop} (hk : NIs s.heap k v) (hst : ∀ u ∈ stored, ∃ j, NIs s.heap j u) (h : Q false s) : wpAny (model prog w) A (tableMayTell v stored) Q E s := by
  unfold tableMayTell
  split
  · exact wpAny_pure h
  · refine wpAny_bind (nQuiet hk ?_)
    simp only [Bool.not_true, Bool.false_eq_true, if_false]
    refine wpAny_bind ?_
    refine wpAny_forIn_list _ (fun more r s' => s' = s ∧ r = (none, ()) ∧ ∀ u ∈ more, ∃ j, NIs s.heap j u) _ ?_ ?_ _ _ ⟨rfl, rfl, hst⟩
    · rintro x more r s' ⟨rfl, rfl, hr⟩
      obtain ⟨j, hb⟩ := hr x List.mem_cons_self
      refine wpAny_bind (nQuiet hb ?_)
      simp only [Bool.not_true, Bool.false_eq_true, if_false]
      exact wpAny_pure ⟨rfl, rfl, fun u hu => hr u (List.mem_cons_of_mem _ hu)⟩
    · rintro r s' ⟨rfl, rfl, _⟩
      exact wpAny_pure h
theorem idxN_unique {xs : List (NestedKey × Value × Value)} (hn : (xs.map (·.1)).Nodup) {i j : Nat} {k : NestedKey} {p q : Value × Value} (hi : xs[i]? = some (k, p)) (hj : xs[j]? = some (k, q)) : i = j := by
  have e1 : (xs.map (·.1))[i]? = some k := by rw [List.getElem?_map, hi]; rfl
  have e2 : (xs.map (·.1))[j]? = some k := by rw [List.getElem?_map, hj]; rfl
  exact (List.getElem?_inj (List.getElem?_eq_some_iff.mp e1).1 hn).mp (e1.trans e2.symm)
variable {d : Addr} {o : Obj} {es : Array DictEntry} {ep : Nat} {xs : List (NestedKey × Value × Value)} {k : NestedKey} {v : Value} {Q : Option Nat → Shared → Prop}
theorem nSize (he : es.toList = xs.map (nEnt w)) : es.size = xs.length := by
  have := congrArg List.length he
  simpa using this
theorem nEntry (he : es.toList = xs.map (nEnt w)) (j : Nat) : es[j]? = (xs[j]?).map (nEnt w) := by
  rw [← Array.getElem?_toList, he, List.getElem?_map]
/-- the walk over the places of one hash, all keys being carried by value -/
theorem nWalk (hu : A.units + 8 < cLine) (hkey : NIs s.heap k v) (ho : s.heap.get? d = some o) (hd : o.data = .dict es ep) (he : es.toList = xs.map (nEnt w)) (his : ∀ x ∈ xs, NIs s.heap x.1 x.2.1)
    (hnone : (∀ (j : Nat) (p : Value × Value), xs[j]? ≠ some (k, p)) → Q none s) (hsome : ∀ (j : Nat) (p : Value × Value), xs[j]? = some (k, p) → Q (some j) s) :
    wpAny (model prog w) A (dictWalkPlain d v (k.hash w) es (placesWithHash es.size (fun i => es[i]?.map (·.hash)) (k.hash w))) Q E s := by
  have hsz := nSize he
  have haskey : ∀ (j : Nat) (p : Value × Value), xs[j]? = some (k, p) → ((es[j]?.map (·.hash)) == some (k.hash w)) = true := fun j p hj => by
    rw [nEntry he j, hj]; simp [nEnt]
  refine wpAny_bind ?_
  refine wpAny_forIn_list _
    (fun more b s' => s' = s ∧ b = (none, ()) ∧ ∃ i, more = (List.range' i (es.size - i)).filter (fun i => (es[i]?.map (·.hash)) == some (k.hash w)) ∧ i ≤ es.size ∧ ∀ j p, j < i → xs[j]? ≠ some (k, p)) _ ?_ ?_ _ _
    ⟨rfl, rfl, 0, by rw [placesWithHash, List.range_eq_range', Nat.sub_zero], Nat.zero_le _, fun _ _ h => absurd h (Nat.not_lt_zero _)⟩
  · rintro x more b s' ⟨rfl, rfl, i, hr, hi, hno⟩
    obtain ⟨hix, hxn, hpx, hskip, hmore⟩ := filter_range'_cons _ _ _ _ _ hr.symm
    have hlt : x < es.size := by omega
    obtain ⟨⟨k', kv', v'⟩, hkv⟩ : ∃ y, xs[x]? = some y := ⟨xs[x]'(by rw [← hsz]; exact hlt), List.getElem?_eq_getElem _⟩
    have hib : NIs s'.heap k' kv' := his _ (List.mem_of_getElem? hkv)
    have hex : es[x]? = some ⟨k'.hash w, kv', v'⟩ := by rw [nEntry he x, hkv]; rfl
    have hnext : ¬ k' = k → ∃ i, more = (List.range' i (es.size - i)).filter (fun i => (es[i]?.map (·.hash)) == some (k.hash w)) ∧ i ≤ es.size ∧ ∀ j p, j < i → xs[j]? ≠ some (k, p) := fun hne =>
      ⟨x + 1, by rw [hmore]; congr 2; omega, hlt, fun j p hji hj => by
        rcases Nat.lt_or_ge j i with h | h
        · exact hno j p h hj
        · rcases Nat.lt_or_ge j x with h' | h'
          · have := hskip j h h'
            rw [haskey j p hj] at this
            exact absurd this (by decide)
          · have e : j = x := by omega
            subst e
            rw [hkv] at hj
            injection hj with hj
            injection hj with hj
            exact hne hj⟩
    rw [hex]
    dsimp only
    by_cases hh : (k'.hash w == k.hash w) = true
    · rw [if_pos hh]
      refine wpAny_bind (wpAny_dictEpoch ho hd (wpAny_bind (nEq hu hib hkey (wpAny_bind (wpAny_dictEpoch ho hd ?_)))))
      show wpAny _ _ (if (ep != ep) = true then _ else _) _ E _
      rw [if_neg (by simp)]
      by_cases hkk : k' = k
      · rw [decide_eq_true hkk]
        subst hkk
        exact wpAny_bind (wpAny_rule (wpAny_pure (wpAny_pure (hsome x _ hkv))))
      · rw [decide_eq_false hkk]
        exact wpAny_bind (wpAny_rule (wpAny_pure ⟨rfl, rfl, hnext hkk⟩))
    · rw [if_neg hh]
      exact wpAny_pure ⟨rfl, rfl, hnext fun e => hh (by rw [e]; simp)⟩
  · rintro b s' ⟨rfl, rfl, i, hr, hi, hno⟩
    have hall : ∀ j, i ≤ j → j < es.size → ((es[j]?.map (·.hash)) == some (k.hash w)) = false := by
      intro j h1 h2
      have := List.filter_eq_nil_iff.mp hr.symm j (List.mem_range'_1.mpr ⟨h1, by omega⟩)
      simpa using this
    refine wpAny_pure (hnone fun j p hj => ?_)
    rcases Nat.lt_or_ge j i with h | h
    · exact hno j p h hj
    · have hjl : j < es.size := by rw [hsz]; exact (List.getElem?_eq_some_iff.mp hj).1
      have := hall j h hjl
      rw [haskey j p hj] at this
      exact absurd this (by decide)
/-- a key that is a text, or an object -/
def TxOrRef (v : Value) : Prop := (∃ x t, v = .str x t) ∨ ∃ a, v = .ref a
theorem nFind (hu : A.units + 8 < cLine) (hv : TxOrRef v) (hkey : NIs s.heap k v) (ho : s.heap.get? d = some o) (hd : o.data = .dict es ep) (he : es.toList = xs.map (nEnt w)) (his : ∀ x ∈ xs, NIs s.heap x.1 x.2.1) (hn : (xs.map (·.1)).Nodup)
    (hnone : (∀ (j : Nat) (p : Value × Value), xs[j]? ≠ some (k, p)) → Q none s) (hsome : ∀ (j : Nat) (p : Value × Value), xs[j]? = some (k, p) → Q (some j) s) :
    wpAny (model prog w) A (dictFind d v (k.hash w)) Q E s := by
  have hsz := nSize he
  have haskey : ∀ (j : Nat) (p : Value × Value), xs[j]? = some (k, p) → ((es[j]?.map (·.hash)) == some (k.hash w)) = true := fun j p hj => by
    rw [nEntry he j, hj]; simp [nEnt]
  have hmem : ∀ e ∈ es, ∃ x ∈ xs, e = nEnt w x := fun e hin => by
    have : e ∈ xs.map (nEnt w) := he ▸ Array.mem_toList_iff.mpr hin
    obtain ⟨x, hx, e'⟩ := List.mem_map.mp this
    exact ⟨x, hx, e'.symm⟩
  have hst : ∀ u ∈ (placesWithHash es.size (fun i => es[i]?.map (·.hash)) (k.hash w)).filterMap (fun i => es[i]?.map (·.key)), ∃ j, NIs s.heap j u := fun u hm => by
    obtain ⟨i, _, hi⟩ := List.mem_filterMap.mp hm
    cases hei : es[i]? with
    | none => rw [hei] at hi; cases hi
    | some e =>
      rw [hei] at hi
      have hek : e.key = u := by simpa using hi
      obtain ⟨x, hx, e'⟩ := hmem e (Array.mem_of_getElem? hei)
      rw [← hek, e']
      exact ⟨x.1, his x hx⟩
  have walk := nWalk (prog := prog) (A := A) (E := E) (Q := Q) hu hkey ho hd he his hnone hsome
  unfold dictFind
  try with_reducible refine wpAny_holding ?_
  refine wpAny_bind (wpAny_dictEntries ho hd ?_)
  rcases hv with ⟨x, t, rfl⟩ | ⟨a, rfl⟩
  · dsimp only
    by_cases hstrs : (es.all fun e => isExactStrKey e.key) = true
    · rw [if_pos hstrs]
      have hk : k = .text x := NestedIs.inj _ _ _ hkey.1 (.text x t)
      unfold foundByValue
      cases hf : es.findIdx? (fun e => e.key.isStr x) with
      | none =>
        refine wpAny_pure (hnone fun j p hj => ?_)
        have hx := his _ (List.mem_of_getElem? hj)
        rw [hk] at hx
        have hjl : j < es.size := by rw [hsz]; exact (List.getElem?_eq_some_iff.mp hj).1
        have hne := Array.findIdx?_eq_none_iff.mp hf es[j] (Array.getElem_mem hjl)
        have hej : es[j] = nEnt w (k, p) := by
          have := nEntry he j
          rw [hj, Array.getElem?_eq_getElem hjl] at this
          exact Option.some.inj this
        rw [hej] at hne
        obtain ⟨p1, p2⟩ := p
        cases hx.1
        simp [nEnt, Value.isStr] at hne
      | some i =>
        obtain ⟨hlt, hi, _⟩ := Array.findIdx?_eq_some_iff_getElem.mp hf
        have hlx : i < xs.length := by omega
        obtain ⟨⟨k', kv', v'⟩, hkv⟩ : ∃ y, xs[i]? = some y := ⟨xs[i], List.getElem?_eq_getElem hlx⟩
        have hib := his _ (List.mem_of_getElem? hkv)
        have hei : es[i] = nEnt w (k', kv', v') := by
          have := nEntry he i
          rw [hkv, Array.getElem?_eq_getElem hlt] at this
          exact Option.some.inj this
        have hkk : k' = k := by
          rw [hei] at hi
          have hi' : kv'.isStr x = true := hi
          obtain ⟨t', e'⟩ : ∃ t', kv' = .str x t' := by
            cases kv' <;> simp [Value.isStr] at hi'
            subst hi'
            exact ⟨_, rfl⟩
          have hib' : NIs s.heap k' kv' := hib
          rw [e'] at hib'
          rw [hk]
          exact NestedIs.inj _ _ _ hib'.1 (.text x t')
        simp only [Array.getElem?_eq_getElem hlt]
        rw [hei]
        refine wpAny_bind (wpAny_dictEpoch ho hd (wpAny_bind (nEq hu hib hkey (wpAny_bind (wpAny_dictEpoch ho hd ?_)))))
        show wpAny _ _ (if (ep != ep) = true then _ else _) _ E _
        rw [if_neg (by simp), decide_eq_true hkk]
        subst hkk
        exact wpAny_bind (wpAny_rule (wpAny_pure (hsome i _ hkv)))
    rw [if_neg hstrs]
    by_cases hall : ((Value.str x t :: (placesWithHash es.size (fun i => es[i]?.map (·.hash)) (k.hash w)).filterMap (fun i => es[i]?.map (·.key))).all carriedByValue) = true
    · rw [if_pos hall]
      exact walk
    rw [if_neg hall]
    by_cases hone : (((placesWithHash es.size (fun i => es[i]?.map (·.hash)) (k.hash w)).filterMap (fun i => es[i]?.map (·.key))) == [Value.str x t]) = true <;>
    (first | rw [if_pos hone] | rw [if_neg hone]) <;> (first | refine wpAny_bind (wpAny_pure ?_) | refine wpAny_bind (nTells hkey hst ?_)) <;> (
      rw [if_neg (by simp)]
      refine wpAny_bind ?_
      refine wpAny_forIn_list _
        (fun more b s' => s' = s ∧ ∃ i hit, b = (none, hit) ∧ more = (List.range' i (es.size - i)).filter (fun i => (es[i]?.map (·.hash)) == some (k.hash w)) ∧ i ≤ es.size ∧
          ((hit = none ∧ ∀ j p, j < i → xs[j]? ≠ some (k, p)) ∨ ∃ j p, hit = some j ∧ j < i ∧ xs[j]? = some (k, p))) _ ?_ ?_ _ _
        ⟨rfl, 0, none, rfl, by rw [placesWithHash, List.range_eq_range', Nat.sub_zero], Nat.zero_le _, .inl ⟨rfl, fun _ _ h => absurd h (Nat.not_lt_zero _)⟩⟩
      · rintro x more b s' ⟨rfl, i, hit, rfl, hr, hi, hH⟩
        obtain ⟨hix, hxn, hpx, hskip, hmore⟩ := filter_range'_cons _ _ _ _ _ hr.symm
        have hlt : x < es.size := by omega
        have hmore' : more = (List.range' (x + 1) (es.size - (x + 1))).filter (fun i => (es[i]?.map (·.hash)) == some (k.hash w)) := by rw [hmore]; congr 2; omega
        obtain ⟨⟨k', kv', v'⟩, hkv⟩ : ∃ y, xs[x]? = some y := ⟨xs[x]'(by rw [← hsz]; exact hlt), List.getElem?_eq_getElem _⟩
        have hib : NIs s'.heap k' kv' := his _ (List.mem_of_getElem? hkv)
        have hex : es[x]? = some ⟨k'.hash w, kv', v'⟩ := by rw [nEntry he x, hkv]; rfl
        have hHx : (hit = none ∧ ∀ j p, j < x → xs[j]? ≠ some (k, p)) ∨ ∃ j p, hit = some j ∧ j < x ∧ xs[j]? = some (k, p) := by
          rcases hH with ⟨h0, hno⟩ | ⟨j, p, h1, hji, hj⟩
          · refine .inl ⟨h0, fun j p hjx hj => ?_⟩
            rcases Nat.lt_or_ge j i with h | h
            · exact hno j p h hj
            · have := hskip j h hjx
              rw [haskey j p hj] at this
              exact absurd this (by decide)
          · exact .inr ⟨j, p, h1, by omega, hj⟩
        have hstay : ¬ k' = k → ((hit = none ∧ ∀ j p, j < x + 1 → xs[j]? ≠ some (k, p)) ∨ ∃ j p, hit = some j ∧ j < x + 1 ∧ xs[j]? = some (k, p)) := by
          intro hne
          rcases hHx with ⟨h0, hno⟩ | ⟨j, p, h1, hjx, hj⟩
          · refine .inl ⟨h0, fun j p hjx hj => ?_⟩
            rcases Nat.lt_or_ge j x with h | h
            · exact hno j p h hj
            · have hjx' : j = x := by omega
              subst hjx'
              rw [hkv] at hj
              injection hj with hj
              injection hj with hj
              exact hne hj
          · exact .inr ⟨j, p, h1, by omega, hj⟩
        rw [hex]
        dsimp only
        by_cases hh : (k'.hash w == k.hash w) = true
        · rw [if_pos hh]
          refine wpAny_bind (wpAny_dictEpoch ho hd (wpAny_bind (nEq hu hib hkey (wpAny_bind (wpAny_dictEpoch ho hd ?_)))))
          show wpAny _ _ (if (ep != ep) = true then _ else _) _ E _
          rw [if_neg (by simp)]
          by_cases hkk : k' = k
          · rw [decide_eq_true hkk]
            subst hkk
            rcases hHx with ⟨rfl, _⟩ | ⟨j, p, _, hjx, hj⟩
            · first | rw [if_pos rfl] | skip
              simp only [Option.isSome_none, Bool.false_eq_true, if_false]
              first | refine wpAny_bind (wpAny_pure ?_) | skip
              refine wpAny_bind (wpAny_rule ?_)
              split
              · exact wpAny_pure (wpAny_pure (hsome x _ hkv))
              · exact wpAny_pure ⟨rfl, x + 1, some x, rfl, hmore', hlt, .inr ⟨x, _, rfl, Nat.lt_succ_self x, hkv⟩⟩
            · exact absurd (idxN_unique hn hj hkv) (by omega)
          · rw [decide_eq_false hkk]
            simp only [Bool.false_eq_true, if_false]
            refine wpAny_bind (wpAny_rule ?_)
            first | rw [if_neg (by simp)] | skip
            first
              | exact wpAny_pure ⟨rfl, x + 1, hit, rfl, hmore', hlt, hstay hkk⟩
              | exact wpAny_bind (wpAny_pure (wpAny_pure ⟨rfl, x + 1, hit, rfl, hmore', hlt, hstay hkk⟩))
        · rw [if_neg hh]
          refine wpAny_pure ⟨rfl, x + 1, hit, rfl, hmore', hlt, hstay ?_⟩
          intro hkk
          rw [hkk] at hh; simp at hh
      · rintro b s' ⟨rfl, i, hit, rfl, hr, hi, hH⟩
        have hallh : ∀ j, i ≤ j → j < es.size → ((es[j]?.map (·.hash)) == some (k.hash w)) = false := by
          intro j h1 h2
          have := List.filter_eq_nil_iff.mp hr.symm j (List.mem_range'_1.mpr ⟨h1, by omega⟩)
          simpa using this
        rcases hH with ⟨rfl, hno⟩ | ⟨j, p, rfl, _, hj⟩
        · refine wpAny_pure (hnone fun j p hj => ?_)
          rcases Nat.lt_or_ge j i with h | h
          · exact hno j p h hj
          · have hjl : j < es.size := by rw [hsz]; exact (List.getElem?_eq_some_iff.mp hj).1
            have := hallh j h hjl
            rw [haskey j p hj] at this
            exact absurd this (by decide)
        · exact wpAny_pure (hsome j p hj))
  · dsimp only
    rw [if_neg (show ¬ ((Value.ref a :: (placesWithHash es.size (fun i => es[i]?.map (·.hash)) (k.hash w)).filterMap (fun i => es[i]?.map (·.key))).all carriedByValue) = true by simp [carriedByValue])]
    have hany : ¬ (es.any fun e => e.key == Value.ref a && e.hash != k.hash w) = true := by
      rw [← Array.any_toList, List.any_eq_true]
      rintro ⟨e, hin, hc⟩
      obtain ⟨x, hx, rfl⟩ := hmem e (Array.mem_toList_iff.mp hin)
      simp only [nEnt, Bool.and_eq_true, beq_iff_eq, bne_iff_ne, ne_eq] at hc
      obtain ⟨hxa, hne⟩ := hc
      have h2 := (his x hx).1
      rw [hxa] at h2
      exact hne (by rw [NestedIs.inj _ _ _ h2 hkey.1])
    rw [if_neg hany]
    by_cases hone : (((placesWithHash es.size (fun i => es[i]?.map (·.hash)) (k.hash w)).filterMap (fun i => es[i]?.map (·.key))) == [Value.ref a]) = true <;>
    (first | rw [if_pos hone] | rw [if_neg hone]) <;> (first | refine wpAny_bind (wpAny_pure ?_) | refine wpAny_bind (nTells hkey hst ?_)) <;> (
      rw [if_neg (by simp)]
      refine wpAny_bind ?_
      refine wpAny_forIn_list _
        (fun more b s' => s' = s ∧ ∃ i hit, b = (none, hit) ∧ more = (List.range' i (es.size - i)).filter (fun i => (es[i]?.map (·.hash)) == some (k.hash w)) ∧ i ≤ es.size ∧
          ((hit = none ∧ ∀ j p, j < i → xs[j]? ≠ some (k, p)) ∨ ∃ j p, hit = some j ∧ j < i ∧ xs[j]? = some (k, p))) _ ?_ ?_ _ _
        ⟨rfl, 0, none, rfl, by rw [placesWithHash, List.range_eq_range', Nat.sub_zero], Nat.zero_le _, .inl ⟨rfl, fun _ _ h => absurd h (Nat.not_lt_zero _)⟩⟩
      · rintro x more b s' ⟨rfl, i, hit, rfl, hr, hi, hH⟩
        obtain ⟨hix, hxn, hpx, hskip, hmore⟩ := filter_range'_cons _ _ _ _ _ hr.symm
        have hlt : x < es.size := by omega
        have hmore' : more = (List.range' (x + 1) (es.size - (x + 1))).filter (fun i => (es[i]?.map (·.hash)) == some (k.hash w)) := by rw [hmore]; congr 2; omega
        obtain ⟨⟨k', kv', v'⟩, hkv⟩ : ∃ y, xs[x]? = some y := ⟨xs[x]'(by rw [← hsz]; exact hlt), List.getElem?_eq_getElem _⟩
        have hib : NIs s'.heap k' kv' := his _ (List.mem_of_getElem? hkv)
        have hex : es[x]? = some ⟨k'.hash w, kv', v'⟩ := by rw [nEntry he x, hkv]; rfl
        have hHx : (hit = none ∧ ∀ j p, j < x → xs[j]? ≠ some (k, p)) ∨ ∃ j p, hit = some j ∧ j < x ∧ xs[j]? = some (k, p) := by
          rcases hH with ⟨h0, hno⟩ | ⟨j, p, h1, hji, hj⟩
          · refine .inl ⟨h0, fun j p hjx hj => ?_⟩
            rcases Nat.lt_or_ge j i with h | h
            · exact hno j p h hj
            · have := hskip j h hjx
              rw [haskey j p hj] at this
              exact absurd this (by decide)
          · exact .inr ⟨j, p, h1, by omega, hj⟩
        have hstay : ¬ k' = k → ((hit = none ∧ ∀ j p, j < x + 1 → xs[j]? ≠ some (k, p)) ∨ ∃ j p, hit = some j ∧ j < x + 1 ∧ xs[j]? = some (k, p)) := by
          intro hne
          rcases hHx with ⟨h0, hno⟩ | ⟨j, p, h1, hjx, hj⟩
          · refine .inl ⟨h0, fun j p hjx hj => ?_⟩
            rcases Nat.lt_or_ge j x with h | h
            · exact hno j p h hj
            · have hjx' : j = x := by omega
              subst hjx'
              rw [hkv] at hj
              injection hj with hj
              injection hj with hj
              exact hne hj
          · exact .inr ⟨j, p, h1, by omega, hj⟩
        rw [hex]
        dsimp only
        by_cases hh : (k'.hash w == k.hash w) = true
        · rw [if_pos hh]
          refine wpAny_bind (wpAny_dictEpoch ho hd (wpAny_bind (nEq hu hib hkey (wpAny_bind (wpAny_dictEpoch ho hd ?_)))))
          show wpAny _ _ (if (ep != ep) = true then _ else _) _ E _
          rw [if_neg (by simp)]
          by_cases hkk : k' = k
          · rw [decide_eq_true hkk]
            subst hkk
            rcases hHx with ⟨rfl, _⟩ | ⟨j, p, _, hjx, hj⟩
            · first | rw [if_pos rfl] | skip
              simp only [Option.isSome_none, Bool.false_eq_true, if_false]
              first | refine wpAny_bind (wpAny_pure ?_) | skip
              refine wpAny_bind (wpAny_rule ?_)
              split
              · exact wpAny_pure (wpAny_pure (hsome x _ hkv))
              · exact wpAny_pure ⟨rfl, x + 1, some x, rfl, hmore', hlt, .inr ⟨x, _, rfl, Nat.lt_succ_self x, hkv⟩⟩
            · exact absurd (idxN_unique hn hj hkv) (by omega)
          · rw [decide_eq_false hkk]
            simp only [Bool.false_eq_true, if_false]
            refine wpAny_bind (wpAny_rule ?_)
            first | rw [if_neg (by simp)] | skip
            first
              | exact wpAny_pure ⟨rfl, x + 1, hit, rfl, hmore', hlt, hstay hkk⟩
              | exact wpAny_bind (wpAny_pure (wpAny_pure ⟨rfl, x + 1, hit, rfl, hmore', hlt, hstay hkk⟩))
        · rw [if_neg hh]
          refine wpAny_pure ⟨rfl, x + 1, hit, rfl, hmore', hlt, hstay ?_⟩
          intro hkk
          rw [hkk] at hh; simp at hh
      · rintro b s' ⟨rfl, i, hit, rfl, hr, hi, hH⟩
        have hallh : ∀ j, i ≤ j → j < es.size → ((es[j]?.map (·.hash)) == some (k.hash w)) = false := by
          intro j h1 h2
          have := List.filter_eq_nil_iff.mp hr.symm j (List.mem_range'_1.mpr ⟨h1, by omega⟩)
          simpa using this
        rcases hH with ⟨rfl, hno⟩ | ⟨j, p, rfl, _, hj⟩
        · refine wpAny_pure (hnone fun j p hj => ?_)
          rcases Nat.lt_or_ge j i with h | h
          · exact hno j p h hj
          · have hjl : j < es.size := by rw [hsz]; exact (List.getElem?_eq_some_iff.mp hj).1
            have := hallh j h hjl
            rw [haskey j p hj] at this
            exact absurd this (by decide)
        · exact wpAny_pure (hsome j p hj))
end
end Bp

set_option Elab.async false
set_option linter.all false
set_option maxRecDepth 100000
set_option maxHeartbeats 4000000
namespace Bp
open PySem PySem.Spec PyProof.Rows L2 Evl
section
variable {prog : Program} {w : World} {A : Around} {E : Value → Shared → Prop} {s : Shared}
/-- the dict's own object -/
def NDict (w : World) (h : Heap) (d : Addr) (xs : List (NestedKey × Value × Value)) : Prop := ∃ (o : Obj) (es : Array DictEntry) (ep : Nat), h.get? d = some o ∧ o.ExactDict ∧ o.data = .dict es ep ∧ es.toList = xs.map (nEnt w) ∧ (xs.map (·.1)).Nodup
variable {d : Addr} {xs : List (NestedKey × Value × Value)} {k : NestedKey} {v : Value}
theorem NDict.typeIs (m : NDict w s.heap d xs) : s.TypeIs (.ref d) "dict" := let ⟨o, _, _, ho, hc, _⟩ := m; ⟨o, ho, hc.1⟩
theorem nDictGet {Q : Option Value → Shared → Prop} (hu : A.units + 8 < cLine) (hv : TxOrRef v) (hkey : NIs s.heap k v) (m : NDict w s.heap d xs) (his : ∀ x ∈ xs, NIs s.heap x.1 x.2.1)
    (h0 : (∀ (j : Nat) (p : Value × Value), xs[j]? ≠ some (k, p)) → Q none { s with toks := s.toks + k.draws }) (h1 : ∀ (j : Nat) (p : Value × Value), xs[j]? = some (k, p) → Q (some p.2) { s with toks := s.toks + k.draws }) : wpAny (model prog w) A (dictGet d v) Q E s := by
  obtain ⟨o, es, ep, ho, _, hd, he, hn⟩ := m
  unfold dictGet
  try with_reducible refine wpAny_holding ?_
  refine wpAny_bind (nHash hu hkey (wpAny_bind (nFind (s := { s with toks := s.toks + k.draws }) hu hv hkey ho hd he his hn ?_ ?_)))
  · intro hno
    exact wpAny_pure (h0 hno)
  · intro j p hj
    refine wpAny_bind (wpAny_dictEntries (s := { s with toks := s.toks + k.draws }) ho hd ?_)
    rw [nEntry he j, hj]
    exact wpAny_pure (h1 j p hj)
theorem nDictSet {u : Value} {Q : Unit → Shared → Prop} (hu : A.units + 8 < cLine) (hv : TxOrRef v) (hkey : NIs s.heap k v) (m : NDict w s.heap d xs) (his : ∀ x ∈ xs, NIs s.heap x.1 x.2.1) (hno : ∀ (j : Nat) (p : Value × Value), xs[j]? ≠ some (k, p)) (hsz : xs.length ≤ sizeLine)
    (hQ : ∀ h', NDict w h' d (xs ++ [(k, v, u)]) → Heap.SameBut d s.heap h' → Q () { s with heap := h', toks := s.toks + k.draws }) : wpAny (model prog w) A (dictSet d v u) Q E s := by
  obtain ⟨o, es, ep, ho, hc, hd, he, hn⟩ := m
  unfold dictSet
  try with_reducible refine wpAny_holding ?_
  refine wpAny_bind (nHash hu hkey ?_)
  unfold dictSetHashed
  try with_reducible refine wpAny_holding ?_
  refine wpAny_bind (nFind (s := { s with toks := s.toks + k.draws }) hu hv hkey ho hd he his hn ?_ ?_)
  · intro _
    have hnot : k ∉ xs.map (·.1) := fun hm => by
      obtain ⟨x, hx, e⟩ := List.mem_map.mp hm
      obtain ⟨j, hj⟩ := List.getElem?_of_mem hx
      exact hno j x.2 (by rw [hj, ← e])
    refine wpAny_bind (wpAny_rule (wpAny_updateDictKeys (hz := by have e := nSize he; omega) (s := { s with toks := s.toks + k.draws }) ho hd (hQ _ ⟨_, _, ep + 1, Heap.get?_update_self _ ho (Obj.isFreed_of_dict (Obj.data_mapDictKeys hd _)), hc.mapDictKeys _, Obj.data_mapDictKeys hd _, ?_, ?_⟩ (Heap.SameBut.update ..))))
    · simp [he, nEnt]
    · rw [List.map_append, List.nodup_append]
      refine ⟨hn, by simp, ?_⟩
      intro x hx y hy
      simp only [List.map_cons, List.map_nil, List.mem_singleton] at hy
      subst hy
      exact fun e => hnot (e ▸ hx)
  · intro j p hj
    exact absurd hj (hno j p)
theorem nNotIn {Q : Value → Shared → Prop} (hu : A.units + 9 < cLine) (hv : TxOrRef v) (hkey : NIs s.heap k v) (hd : (d == sysModules) = false) (m : NDict w s.heap d xs) (his : ∀ x ∈ xs, NIs s.heap x.1 x.2.1)
    (h0 : (∀ (j : Nat) (p : Value × Value), xs[j]? ≠ some (k, p)) → Q (.bool true) { s with toks := s.toks + k.draws }) (h1 : ∀ (j : Nat) (p : Value × Value), xs[j]? = some (k, p) → Q (.bool false) { s with toks := s.toks + k.draws }) : wpAny (model prog w) A (compareOp .NotIn v (.ref d)) Q E s := by
  show wpAny _ _ (do return .bool (!(← contains (.ref d) v))) Q E s
  refine wpAny_bind ?_
  refine wpAny_contains_slot m.typeIs F.slot_dict_contains ?_
  refine call_meetsIn F.slot_dict_contains m.typeIs F.entry_dict_contains (F.args_dict_contains_2 _ _) (S := fun A' R s' => A' = A ∧ s' = s ∧ ((∀ (j : Nat) (p : Value × Value), xs[j]? ≠ some (k, p)) → R (.ok (.ret (.bool false))) { s with toks := s.toks + k.draws }) ∧ ∀ (j : Nat) (p : Value × Value), xs[j]? = some (k, p) → R (.ok (.ret (.bool true))) { s with toks := s.toks + k.draws }) (fun A' R s' hS => ?_) ⟨rfl, rfl, fun hn => wpAny_truthy_bool (wpAny_pure (h0 hn)), fun j p hj => wpAny_truthy_bool (wpAny_pure (h1 j p hj))⟩
  obtain ⟨rfl, rfl, q0, q1⟩ := hS
  show wpAny _ _ (dictGet d v >>= _) _ _ _
  refine wpAny_bind (nDictGet (A := A'.in1) (by show A'.units + 1 + 8 < cLine; omega) hv hkey m his (fun hn => ?_) fun j p hj => ?_)
  · show wpAny _ _ (Builtin.Dict.pendingKey? d v >>= _) _ _ _
    exact wpAny_bind (wpAny_pendingKey_other hd (wpAny_pure (q0 hn)))
  · show wpAny _ _ (ret (.bool true)) _ _ _
    exact wpAny_pure (q1 j p hj)
theorem nGetItem {p : Value × Value} {j : Nat} {Q : Value → Shared → Prop} (hu : A.units + 9 < cLine) (hv : TxOrRef v) (hkey : NIs s.heap k v) (m : NDict w s.heap d xs) (his : ∀ x ∈ xs, NIs s.heap x.1 x.2.1) (hj : xs[j]? = some (k, p)) (h : Q p.2 { s with toks := s.toks + k.draws }) : wpAny (model prog w) A (getItem (.ref d) v) Q E s := by
  have hnd : (xs.map (·.1)).Nodup := let ⟨_, _, _, _, _, _, _, hn⟩ := m; hn
  unfold getItem
  try with_reducible refine wpAny_holding ?_
  refine wpAny_bind (wpAny_sequenceKey m.typeIs (by decide) ?_)
  refine wpAny_bind (wpAny_callSpecial?_slot (name := Str.ofString "__getitem__") m.typeIs PySem.F.slot_dict_getitem
    (wpAny_call_entry PySem.F.slot_dict_getitem m.typeIs entry_dict_getitem ?_ (args_dict_getitem _ _)))
  show wpAny _ _ (dictGet d v >>= _) _ _ s
  refine wpAny_bind (nDictGet (A := A.in1) (by show A.units + 1 + 8 < cLine; omega) hv hkey m his (fun hn => absurd hj (hn j p)) fun i q hi => ?_)
  have e : i = j := idxN_unique hnd hi hj
  subst e
  rw [hi] at hj
  cases hj
  exact wpAny_pure ⟨_, rfl, wpAny_pure h⟩
theorem nSetItem {u : Value} {Q : Unit → Shared → Prop} (hu : A.units + 9 < cLine) (hv : TxOrRef v) (hkey : NIs s.heap k v) (m : NDict w s.heap d xs) (his : ∀ x ∈ xs, NIs s.heap x.1 x.2.1) (hno : ∀ (j : Nat) (p : Value × Value), xs[j]? ≠ some (k, p)) (hsz : xs.length ≤ sizeLine)
    (hQ : ∀ h', NDict w h' d (xs ++ [(k, v, u)]) → Heap.SameBut d s.heap h' → Q () { s with heap := h', toks := s.toks + k.draws }) : wpAny (model prog w) A (setItem (.ref d) v u) Q E s := by
  unfold setItem
  try with_reducible refine wpAny_holding ?_
  refine wpAny_bind (wpAny_sequenceKey m.typeIs (by decide) ?_)
  refine wpAny_bind (wpAny_callSpecial?_slot (name := Str.ofString "__setitem__") m.typeIs slot_dict_setitem
    (wpAny_call_entry slot_dict_setitem m.typeIs entry_dict_setitem ?_ (args_dict_setitem _ _ _)))
  show wpAny _ _ (Builtin.Dict.notOrdered "__setitem__" ⟨[.ref d, v, u], []⟩ >>= _) _ _ s
  refine wpAny_bind (wpAny_notOrdered_dict m.typeIs ?_)
  show wpAny _ _ (dictSet d v u >>= _) _ _ s
  exact wpAny_bind (nDictSet (A := A.in1) (by show A.units + 1 + 8 < cLine; omega) hv hkey m his hno hsz fun h' hm' hs' => wpAny_pure ⟨.none, rfl, wpAny_pure (hQ h' hm' hs')⟩)
end
end Bp

set_option Elab.async false
set_option linter.all false
set_option maxRecDepth 100000
set_option maxHeartbeats 4000000
namespace Bp
open PySem PySem.Spec PyProof.Rows L2 Evl
/-! ### the dict of what was found, hidden behind its address -/
def FoundO (w : World) (fd : Addr) (L : List (NestedKey × V × V)) : HO := .ext fun h => ∃ xs : List (NestedKey × Value × Value), NDict w h fd xs ∧ Paired (fun (e : NestedKey × V × V) (x : NestedKey × Value × Value) => e.1 = x.1 ∧ RelV e.2.1 x.2.1 ∧ RelV e.2.2 x.2.2) L xs
theorem foundO_ok {P : Program} {w : World} {H : Hp} {h : Heap} {fd : Addr} {L : List (NestedKey × V × V)} {xs : List (NestedKey × Value × Value)} (m : NDict w h fd xs) (r : Paired (fun (e : NestedKey × V × V) (x : NestedKey × Value × Value) => e.1 = x.1 ∧ RelV e.2.1 x.2.1 ∧ RelV e.2.2 x.2.2) L xs) : ObjOk P w H h fd (FoundO w fd L) := by
  refine ⟨⟨xs, m, r⟩, let ⟨o, _, _, ho, _⟩ := m; ⟨o, ho⟩, fun h1 h2 p st => ?_⟩
  obtain ⟨xs, ⟨o, es, ep, ho, hc⟩, r⟩ := p
  exact ⟨xs, ⟨o, es, ep, st _ ho, hc⟩, r⟩
inductive KeyH (H : Hp) : NestedKey → V → Prop
  | text (z : Str) : KeyH H (.text z) (.str z)
  | homes (t l : Addr) (ks : List Nat) : H t = some (.tup [.str "homes", .ref l]) → H l = some (.tup ((asInts ks).map V.int)) → KeyH H (.tup [.text "homes", .tup ((asInts ks).map NestedKey.num)]) (.ref t)
theorem KeyH.up {H H' : Hp} {k : NestedKey} {v : V} (h : KeyH H k v) (e : Ex H H') : KeyH H' k v := by
  cases h with
  | text z => exact .text z
  | homes t l ks h1 h2 => exact .homes t l ks (e _ _ h1) (e _ _ h2)
theorem nums_all {h : Heap} : ∀ {ns : List Int} {us : List Value}, Vals (ns.map V.int) us → NestedAll h (ns.map NestedKey.num) us
  | [], _, .nil => .nil
  | n :: ns, _, .cons r t => by
    obtain ⟨tk, rfl⟩ := r
    exact .cons (.int n tk) (nums_all t)
theorem nums_depth : ∀ ns : List Int, NestedKey.depthAll (ns.map NestedKey.num) = 0
  | [] => by simp [NestedKey.depthAll]
  | n :: ns => by
    show NestedKey.depthAll (.num n :: ns.map NestedKey.num) = 0
    simp [NestedKey.depthAll, NestedKey.depth, nums_depth ns]
section
variable {X : Cx} {pins : List (Addr × Obj)} {σ : L2.St} {H : Hp} {s : Shared}
theorem key_nis (I : Inv X pins σ H s) {k : NestedKey} {v : V} {u : Value} (hk : KeyH H k v) (r : RelV v u) : NIs s.heap k u ∧ TxOrRef u := by
  cases hk with
  | text z =>
    obtain ⟨t, rfl⟩ := r
    exact ⟨⟨.text z t, by simp [NestedKey.depth]⟩, .inl ⟨z, t, rfl⟩⟩
  | homes t l ks h1 h2 =>
    obtain rfl : u = Value.ref t := r
    obtain ⟨_, its, rv, ⟨o, ho, hc, n, hd⟩⟩ := (show ObjOk X.prog X.w H s.heap t (.tup [.str "homes", .ref l]) from I.hok t _ h1)
    obtain ⟨_, its2, rv2, ⟨o2, ho2, hc2, n2, hd2⟩⟩ := (show ObjOk X.prog X.w H s.heap l (.tup ((asInts ks).map V.int)) from I.hok l _ h2)
    refine ⟨⟨?_, ?_⟩, .inr ⟨t, rfl⟩⟩
    · refine .tup ho hc hd ?_
      cases rv with
      | cons r1 rr =>
        cases rr with
        | cons r2 rr2 =>
          cases rr2
          obtain ⟨tk, rfl⟩ := r1
          cases r2
          exact .cons (.text _ tk) (.cons (.tup ho2 hc2 hd2 (nums_all rv2)) .nil)
    · simp [NestedKey.depth, NestedKey.depthAll, nums_depth]
theorem keys_nis (I : Inv X pins σ H s) {L : List (NestedKey × V × V)} {xs : List (NestedKey × Value × Value)} (hL : ∀ e ∈ L, KeyH H e.1 e.2.1) (r : Paired (fun (e : NestedKey × V × V) (x : NestedKey × Value × Value) => e.1 = x.1 ∧ RelV e.2.1 x.2.1 ∧ RelV e.2.2 x.2.2) L xs) : ∀ x ∈ xs, NIs s.heap x.1 x.2.1 := by
  induction r with
  | nil => intro x hx; cases hx
  | cons h t ih =>
    intro x hx
    rcases List.mem_cons.mp hx with e | hx
    · subst e
      rw [← h.1]
      exact (key_nis I (hL _ List.mem_cons_self) h.2.1).1
    · exact ih (fun e he => hL e (List.mem_cons_of_mem _ he)) x hx
end
theorem paired_none {L : List (NestedKey × V × V)} {xs : List (NestedKey × Value × Value)} (r : Paired (fun (e : NestedKey × V × V) (x : NestedKey × Value × Value) => e.1 = x.1 ∧ RelV e.2.1 x.2.1 ∧ RelV e.2.2 x.2.2) L xs) {k : NestedKey} (h : ∀ e ∈ L, e.1 ≠ k) : ∀ (j : Nat) (p : Value × Value), xs[j]? ≠ some (k, p) := by
  intro j p hj
  have hl := (List.getElem?_eq_some_iff.mp hj).1
  rw [← r.length] at hl
  obtain ⟨x, hx, h1, _⟩ := pairedGet r (List.getElem?_eq_getElem hl)
  rw [hj] at hx
  cases hx
  exact h _ (List.getElem_mem hl) h1
/-- k not in d -/
def rNinF (w : World) : R2 := fun x y H Q => ∃ (fd : Addr) (L : List (NestedKey × V × V)) (k : NestedKey), y = .ref fd ∧ fd ≠ sysModules ∧ H fd = some (FoundO w fd L) ∧ KeyH H k x ∧ (∀ e ∈ L, KeyH H e.1 e.2.1) ∧ ((∀ e ∈ L, e.1 ≠ k) → Q (.bl true) H) ∧ ((∃ e ∈ L, e.1 = k) → Q (.bl false) H)
def tGetF (w : World) (td ty : TE) : TE := fun σ H Q => td σ H fun x H1 => ty σ H1 fun y H2 => ∃ (fd : Addr) (L : List (NestedKey × V × V)) (k : NestedKey) (kv v : V), x = .ref fd ∧ H2 fd = some (FoundO w fd L) ∧ KeyH H2 k y ∧ (∀ e ∈ L, KeyH H2 e.1 e.2.1) ∧ (k, kv, v) ∈ L ∧ Q v H2
def rSetF (w : World) : TSet := fun o i v H Q => ∃ (fd : Addr) (L : List (NestedKey × V × V)) (k : NestedKey), o = .ref fd ∧ H fd = some (FoundO w fd L) ∧ KeyH H k i ∧ (∀ e ∈ L, KeyH H e.1 e.2.1) ∧ (∀ e ∈ L, e.1 ≠ k) ∧ L.length ≤ 1000 ∧ Q (upd H fd (FoundO w fd (L ++ [(k, i, v)])))
section
variable {X : Cx}
theorem ninFk {w : World} (hu : X.A.units + 9 < cLine) (hw : X.w = w := by rfl) : OpR X (compareOp .NotIn) (rNinF w) := by
  intro pins s σ H x y v u Q I rx ry h
  obtain ⟨fd, L, k, rfl, nS, hL, hk, hks, q0, q1⟩ := h
  subst hw
  obtain rfl : u = Value.ref fd := ry
  obtain ⟨xs, m, r⟩ := (I.hok fd _ hL).1
  obtain ⟨k1, k2⟩ := key_nis I hk rx
  refine nNotIn hu k2 k1 (by simpa using nS) m (keys_nis I hks r) (fun hn => ?_) fun j p hj => ?_
  · refine ⟨.bl true, H, I.tok _, rfl, q0 fun e he hek => ?_⟩
    obtain ⟨i, hi⟩ := List.getElem?_of_mem he
    obtain ⟨x', hx', h1, _⟩ := pairedGet r hi
    exact hn i x'.2 (by rw [hx', ← hek, h1])
  · refine ⟨.bl false, H, I.tok _, rfl, q1 ?_⟩
    have hl := (List.getElem?_eq_some_iff.mp hj).1
    rw [← r.length] at hl
    obtain ⟨x', hx', h1, _⟩ := pairedGet r (List.getElem?_eq_getElem hl)
    rw [hj] at hx'
    cases hx'
    exact ⟨_, List.getElem_mem hl, h1⟩
theorem pe_getF {w : World} {o i : Expr} {td ty : TE} {pos : Pos} (hu : X.A.units + 9 < cLine) (ho : PE X o td) (hi : PE X i ty) (hs : NoSl i) (hw : X.w = w := by rfl) : PE X (.Subscript o i pos) (tGetF w td ty) := by
  subst hw
  refine ⟨fun pins s σ H Q I h => ?_⟩
  refine subD_of PySem.F.slot_dict_getitem.lookup hs (thn (ho.run pins s σ H _ I h) fun u s1 ⟨x, H1, I1, rx, q1⟩ => thn (hi.run pins s1 σ H1 _ I1 q1) fun iv s2 ⟨y, H2, I2, ry, fd, L, k, kv, v, ex, hL, hk, hks, hm, q2⟩ => ?_)
  subst ex
  obtain rfl : u = Value.ref fd := rx
  obtain ⟨xs, m, r⟩ := (I2.hok fd _ hL).1
  obtain ⟨k1, k2⟩ := key_nis I2 hk ry
  obtain ⟨j, hj⟩ := List.getElem?_of_mem hm
  obtain ⟨⟨k', kv', v'⟩, hx', h1, h2, h3⟩ := pairedGet r hj
  have h1' : k = k' := h1
  subst h1'
  exact ⟨m.typeIs, nGetItem hu k2 k1 m (keys_nis I2 hks r) hx' ⟨v, H2, I2.tok _, h3, q2⟩⟩
theorem set_F {w : World} (hu : X.A.units + 9 < cLine) (hw : X.w = w := by rfl) : PSet X (rSetF w) := by
  intro pins s σ H o i v ov iv u Q I ro ri rv h
  obtain ⟨fd, L, k, rfl, hL, hk, hks, hno, hlen, q⟩ := h
  subst hw
  obtain rfl : ov = Value.ref fd := ro
  obtain ⟨xs, m, r⟩ := (I.hok fd _ hL).1
  obtain ⟨k1, k2⟩ := key_nis I hk ri
  have hxl : xs.length ≤ sizeLine := by rw [← r.length]; exact Nat.le_trans hlen (by decide)
  refine nSetItem hu k2 k1 m (keys_nis I hks r) (paired_none r hno) hxl fun h' m' hs' => ?_
  have he : ∃ q, h'.get? fd = some q := let ⟨q, _, _, hq, _⟩ := m'; ⟨q, hq⟩
  refine ⟨_, d_write (t' := s.toks + k.draws) I (by rw [hL]; trivial) hs' he (foundO_ok (xs := xs ++ [(k, iv, u)]) m' (r.snoc ⟨rfl, ri, rv⟩)), q⟩
end
end Bp

set_option Elab.async false
set_option linter.all false
set_option maxRecDepth 100000
set_option maxHeartbeats 4000000
namespace Bp
open PySem PySem.Spec PyProof.Rows L2 Evl
/-! ### what is found of a store -/
theorem code_ne {c : Addr} {q : Str} {w : World} {L : List (NestedKey × V × V)} : LamX.CodeO c q ≠ FoundO w c L := by
  intro e
  unfold LamX.CodeO FoundO at e
  injection e with e
  have hg : (⟨(Array.replicate c (default : Obj)).push { cls := .none, data := .fields #[.none, .str q 0] }, {}⟩ : Heap).get? c = some { cls := .none, data := .fields #[.none, .str q 0] } := by
    have hc : (⟨(Array.replicate c (default : Obj)).push { cls := .none, data := .fields #[.none, .str q 0] }, {}⟩ : Heap).objs[c]? = some { cls := .none, data := .fields #[.none, .str q 0] } := by
      show ((Array.replicate c (default : Obj)).push { cls := .none, data := .fields #[.none, .str q 0] })[c]? = _
      rw [Array.getElem?_push, if_pos (by simp)]
    unfold Heap.get?
    rw [hc]
  have h1 := (congrFun e (⟨(Array.replicate c (default : Obj)).push { cls := .none, data := .fields #[.none, .str q 0] }, {}⟩ : Heap)).mp ⟨_, _, _, hg, rfl, rfl⟩
  obtain ⟨xs, ⟨o, es, ep, h2, h3, h4, _⟩, _⟩ := h1
  rw [hg] at h2
  cases h2
  cases h4
def EntryOk (H : Hp) (zs : List Row) (k : NestedKey) (v : V) : Prop := (k = .text "near" → BesideAt H zs v) ∧ ∀ ks : List Nat, k = .tup [.text "homes", .tup ((asInts ks).map NestedKey.num)] → HomesAt H zs ks v
theorem EntryOk.up {H H' : Hp} {zs : List Row} {k : NestedKey} {v : V} (h : EntryOk H zs k v) (e : Ex H H') : EntryOk H' zs k v := ⟨fun q => (h.1 q).up e, fun ks q => (h.2 ks q).up e⟩
/-- A: the keys that are not there -/
def FoundAt (w : World) (T : List (Addr × Str)) (A : NestedKey → Prop) (fd : Addr) (zs : List Row) (m : Nat) (H : Hp) : Prop := fd ≠ sysModules ∧ (∃ L : List (NestedKey × V × V), H fd = some (FoundO w fd L) ∧ L.length ≤ m ∧ (∀ e ∈ L, ¬ A e.1 ∧ KeyH H e.1 e.2.1 ∧ EntryOk H zs e.1 e.2.2)) ∧ LamX.Tabs T H
/-- what is kept where all objects but those of one kind are kept -/
theorem kept_besides {H H' : Hp} (e : ∀ b o, H b = some o → (∀ xs, o ≠ .lst xs) → (∀ φ, o ≠ .ext φ) → (∀ ps, o ≠ .tbl ps) → H' b = some o) {zs : List Row} {k : NestedKey} {kv v : V} (h1 : KeyH H k kv) (h2 : EntryOk H zs k v) : KeyH H' k kv ∧ EntryOk H' zs k v := by
  have ei : ∀ {v : V} {r : Row}, IntT H v r → IntT H' v r := fun ⟨a, g1, g2⟩ => ⟨a, g1, e _ _ g2 (by intro _ c; cases c) (by intro _ c; cases c) (by intro _ c; cases c)⟩
  refine ⟨?_, fun q => ?_, fun ks q => ?_⟩
  · cases h1 with
    | text z => exact .text z
    | homes t l ks g1 g2 => exact .homes t l ks (e _ _ g1 (by intro _ c; cases c) (by intro _ c; cases c) (by intro _ c; cases c)) (e _ _ g2 (by intro _ c; cases c) (by intro _ c; cases c) (by intro _ c; cases c))
  · obtain ⟨b, kvs, g1, g2, g3⟩ := h2.1 q
    refine ⟨b, kvs, g1, e _ _ g2 (by intro _ c; cases c) (by intro _ c; cases c) (by intro _ c; cases c), fun z hz => ?_⟩
    obtain ⟨u, k1, l, vs, nb, k2, ⟨ob, k3⟩, k4, k5⟩ := g3 z hz
    exact ⟨u, k1, l, vs, nb, k2, ⟨ob, e _ _ k3 (by intro _ c; cases c) (by intro _ c; cases c) (by intro _ c; cases c)⟩, Paired.mapP k4 fun _ _ ⟨t, y, j1, j2, j3⟩ => ⟨t, y, j1, e _ _ j2 (by intro _ c; cases c) (by intro _ c; cases c) (by intro _ c; cases c), ei j3⟩, k5⟩
  · obtain ⟨b, kvs, lab, g1, g2, g3⟩ := h2.2 ks q
    exact ⟨b, kvs, lab, g1, e _ _ g2 (by intro _ c; cases c) (by intro _ c; cases c) (by intro _ c; cases c), g3⟩
theorem tabs_wr {T : List (Addr × Str)} {H : Hp} {D : Addr} {o u : HO} (h : LamX.Tabs T H) (hD : H D = some u) (n1 : ∀ ps, u ≠ .tbl ps) (n2 : ∀ q, u ≠ LamX.CodeO D q) : LamX.Tabs T (upd H D o) := fun p hp => by
  obtain ⟨ps, h1, h2, h3⟩ := h p hp
  refine ⟨ps, by rw [upd_ne (fun z => by subst z; rw [hD] at h1; exact n1 _ (Option.some.inj h1))]; exact h1, h2, fun pos cv hc => ?_⟩
  obtain ⟨c, e1, e2⟩ := h3 pos cv hc
  exact ⟨c, e1, by rw [upd_ne (fun z => by subst z; rw [hD] at e2; exact n2 _ (Option.some.inj e2))]; exact e2⟩
abbrev A0 : NestedKey → Prop := fun k => k = .text "joined"
theorem found_hid {w : World} {T : List (Addr × Str)} {A : NestedKey → Prop} : Hid (FoundAt w T A) where
  ext := fun ⟨_, ⟨L, h, _⟩, _⟩ => ⟨_, h⟩
  up := fun ⟨h0, ⟨L, h1, h2, h3⟩, h4⟩ e => ⟨h0, ⟨L, e _ _ h1, h2, fun q hq => ⟨(h3 q hq).1, (h3 q hq).2.1.up e, (h3 q hq).2.2.up e⟩⟩, h4.ext e⟩
  wr := fun {fd zs m H D acc o} ⟨h0, ⟨L, h1, h2, h3⟩, h4⟩ hD => ⟨h0, ⟨L, by rw [upd_ne (ne_of h1 hD (by intro z; cases z))]; exact h1, h2, fun q hq => ⟨(h3 q hq).1, kept_besides (fun b u hb n1 _ _ => by rw [upd_ne (ne_of hb hD (n1 _))]; exact hb) (h3 q hq).2.1 (h3 q hq).2.2⟩⟩, tabs_wr h4 hD (by intro _ z; cases z) (by intro _ z; cases z)⟩
end Bp

set_option Elab.async false
set_option linter.all false
set_option maxRecDepth 100000
set_option maxHeartbeats 4000000
namespace Bp
open PySem PySem.Spec PyProof.Rows L2 Evl
abbrev s_StoreFound : Stmt := inClass (topS 14) 2
abbrev N_StoreFound : List Str := ["self", "word", "work"]
theorem sc_StoreFound : FnScope N_StoreFound ["self", "word", "work"] (defScope s_StoreFound) := ⟨rfl, rfl, rfl, by decide +kernel, rfl, by decide +kernel, by decide +kernel⟩
/-- a new entry of what is found -/
theorem found_put {w : World} {T : List (Addr × Str)} {A : NestedKey → Prop} {H : Hp} {fd : Addr} {zs : List Row} {m : Nat} {L : List (NestedKey × V × V)} {k : NestedKey} {kv v : V} (h0 : fd ≠ sysModules) (h1 : H fd = some (FoundO w fd L)) (h2 : L.length ≤ m) (h3 : ∀ e ∈ L, ¬ A e.1 ∧ KeyH H e.1 e.2.1 ∧ EntryOk H zs e.1 e.2.2) (h4 : LamX.Tabs T H)
    (hk : KeyH H k kv) (hj : ¬ A k) (hv : EntryOk H zs k v) : (∀ e ∈ L ++ [(k, kv, v)], ¬ A e.1 ∧ KeyH (upd H fd (FoundO w fd (L ++ [(k, kv, v)]))) e.1 e.2.1 ∧ EntryOk (upd H fd (FoundO w fd (L ++ [(k, kv, v)]))) zs e.1 e.2.2) ∧ FoundAt w T A fd zs (m + 1) (upd H fd (FoundO w fd (L ++ [(k, kv, v)]))) := by
  have kp : ∀ b o, H b = some o → (∀ xs, o ≠ .lst xs) → (∀ φ, o ≠ .ext φ) → (∀ ps, o ≠ .tbl ps) → upd H fd (FoundO w fd (L ++ [(k, kv, v)])) b = some o := fun b o hb _ n _ => by
    rw [upd_ne (ne_of hb h1 (n _))]
    exact hb
  suffices hs : _ from ⟨hs, h0, ⟨_, upd_same, by simp; omega, hs⟩, tabs_wr h4 h1 (by intro _ z; cases z) (fun q z => code_ne z.symm)⟩
  intro e he
  rcases List.mem_append.mp he with he | he
  · obtain ⟨g1, g2, g3⟩ := h3 e he
    exact ⟨g1, kept_besides kp g2 g3⟩
  · obtain rfl := List.mem_singleton.mp he
    exact ⟨hj, kept_besides kp hk hv⟩
theorem fd_B {H H' : Hp} {fd : Addr} {o : HO} (e : Ex H H') : ExB fd H (upd H' fd o) := fun b u n hb => by
  rw [upd_ne n]
  exact e _ _ hb
def spFoundNear (C fN : Addr) (FO : Addr → List Row → Nat → Hp → Prop) : Sp := fun vs H Q _ => ∃ (p fd : Addr) (sz : List Int) (zs : List Row) (m : Nat), vs = [.ref p, .str "near", .ref fN] ∧ StoreAt C H p sz zs fd ∧ InUse sz zs ∧ FO fd zs m H ∧ m ≤ 900 ∧ ∀ v H', ExB fd H H' → FO fd zs (m + 1) H' → BesideAt H' zs v → Q v H'
section
variable {P : Program} {w : World} {K : PySem.W.Frag} {mg : Str → Option Value} {base : Heap}
theorem ok_foundNear {f C fN : Addr} {fd fdN : FuncData} {T0 : List (Addr × Str)} {A0 : NestedKey → Prop} (nj : ¬ A0 (.text "near")) (F : Fun K "found" "Store.found" s_StoreFound f fd) (T : StTxt K mg C) (hk : PySem.W.keepIn K (.ref fN) = true) (hb : Binds K fdN ["store"] []) (G : FnOk P w K mg base CX0 3 fN fdN ["store"] (spFindNear C)) :
    FnOk P w K mg base CX0 4 f fd ["self", "word", "work"] (spFoundNear C fN (FoundAt w T0 A0)) := by
  refine F.ok sc_StoreFound (fun vs H Q E h => ?_) (fun cdv A outer s H vs Q E hr h => ?_)
  · obtain ⟨p, fd, sz, zs, m, rfl, _⟩ := h
    rfl
  · obtain ⟨p, fd', sz, zs, m, rfl, S, iu, ⟨h0, ⟨L, h1, h2, h3⟩, h4⟩, m9, q⟩ := h
    have hu9 : (A.deeper (envOfC "Store.found" (defScope s_StoreFound) s.heap.objs.size f cdv)).units + 9 < cLine := by have := hr.un; omega
    refine ⟨_, pss_cons (ps_if (pt_cmpR (ninFk hu9) (pv 1) (fldk (K := K) (pv 0)) rfl) (pss_one (ps_asg (pe_callL (i := 2) G (hr.mono (by decide)) rfl (.inl rfl) hk hb .nil pass0 (pa_cons (pv 0) pa_nil)) (pg_sub (fldk (K := K) (pv 0)) (pv 1) (set_F hu9)))) pss_nil) (pss_one (ps_ret (pe_getF hu9 (fldk (K := K) (pv 0)) (pv 1) (fun _ _ => rfl)))), ?_⟩
    obtain ⟨d1, za, sa, ix, vs1, kvs1, hp, hz, hs, rz, hix, hio⟩ := id S
    refine ⟨.str "near", rfl, .ref p, rfl, p, C, d1, _, _, rfl, hp, T.cl, T.nF, sf_found, fd', L, .text "near", rfl, h0, h1, .text _, fun e he => (h3 e he).2.1, fun hno => ?_, fun hyes => ?_⟩
    · refine ⟨true, rfl, rfl, .ref p, rfl, p, fd', sz, zs, rfl, S, iu, fun v H1 e1 bes => ?_⟩
      have hen : EntryOk H1 zs (.text "near") v := ⟨fun _ => bes, fun ks z => by cases z⟩
      refine ⟨.ref p, rfl, p, C, d1, _, _, rfl, e1 _ _ hp, T.cl, T.nF, sf_found, .str "near", rfl, fd', L, .text "near", rfl, e1 _ _ h1, .text _, fun e he => (h3 e he).2.1.up e1, hno, by omega, ?_⟩
      obtain ⟨en, fo⟩ := found_put (kv := .str "near") (v := v) h0 (e1 _ _ h1) h2 (fun e he => ⟨(h3 e he).1, (h3 e he).2.1.up e1, (h3 e he).2.2.up e1⟩) (h4.ext e1) (.text _) nj hen
      have hm : (NestedKey.text ("near" : Str), V.str "near", v) ∈ L ++ [(NestedKey.text ("near" : Str), V.str "near", v)] := List.mem_append.mpr (.inr (List.mem_singleton.mpr rfl))
      have eB : ExB fd' H (upd H1 fd' (FoundO w fd' (L ++ [(.text "near", .str "near", v)]))) := fd_B e1
      refine ⟨.ref p, rfl, p, C, d1, _, _, rfl, eB _ _ (ne_of hp h1 (by intro z; cases z)) hp, T.cl, T.nF, sf_found, .str "near", rfl, fd', _, .text "near", .str "near", v, rfl, upd_same, .text _, fun e he => (en e he).2.1, hm, q _ _ eB fo ((en _ hm).2.2.1 rfl)⟩
    · refine ⟨false, rfl, ?_⟩
      obtain ⟨⟨k', kv, v⟩, he, rfl⟩ := hyes
      exact ⟨.ref p, rfl, p, C, d1, _, _, rfl, hp, T.cl, T.nF, sf_found, .str "near", rfl, fd', L, .text "near", kv, v, rfl, h1, .text _, fun e he => (h3 e he).2.1, he, q _ _ (fun _ _ _ h => h) ⟨h0, ⟨L, h1, by omega, h3⟩, h4⟩ ((h3 _ he).2.2.1 rfl)⟩
end
end Bp

set_option Elab.async false
set_option linter.all false
set_option maxRecDepth 100000
set_option maxHeartbeats 4000000
namespace Bp
open PySem PySem.Spec PyProof.Rows L2 Evl
abbrev N_nearByKeys : List Str := ["store"]
theorem sc_nearByKeys : FnScope N_nearByKeys ["store"] (defScope s_nearByKeys) := ⟨rfl, rfl, rfl, by decide +kernel, rfl, by decide +kernel, by decide +kernel⟩
abbrev s_isJoined : Stmt := topS 33
abbrev N_isJoined : List Str := ["store"]
theorem sc_isJoined : FnScope N_isJoined ["store"] (defScope s_isJoined) := ⟨rfl, rfl, rfl, by decide +kernel, rfl, by decide +kernel, by decide +kernel⟩
/-- an empty dict told as one with nothing found -/
theorem foundO_nil {X : Cx} {pins : List (Addr × Obj)} {σ : L2.St} {H : Hp} {s : Shared} {fd : Addr} (I : Inv X pins σ H s) (h : H fd = some (.dK [])) : fd ≠ sysModules ∧ Inv X pins σ (upd H fd (FoundO X.w fd [])) s := by
  obtain ⟨_, hm, vs, r, o, es, ep, h1, h2, h3, _, h5, _⟩ := I.hok fd _ h
  cases r
  have e0 : es.toList = [] := by
    generalize es.toList = l at h5
    cases h5
    rfl
  exact ⟨fun e => by rw [e] at hm; simp at hm, Inv.retell I (by rw [h]; trivial) (foundO_ok (xs := []) ⟨o, es, ep, h1, h2, h3, e0, .nil⟩ .nil)⟩
theorem pe_asFound {X : Cx} {e : Expr} {t : TE} (h : PE X e t) : PE X e (fun σ H Q => ∃ fd, H fd = some (.dK []) ∧ (fd ≠ sysModules → t σ (upd H fd (FoundO X.w fd [])) Q)) := by
  refine ⟨fun pins s σ H Q I hw => ?_⟩
  obtain ⟨fd, h1, h2⟩ := hw
  obtain ⟨n, J⟩ := foundO_nil I h1
  exact h.run pins s σ _ Q J (h2 n)
theorem StoreAt.asFound {C : Addr} {H : Hp} {p fd : Addr} {sz : List Int} {zs : List Row} {o : HO} (S : StoreAt C H p sz zs fd) (hf : H fd = some (.dK [])) : StoreAt C (upd H fd o) p sz zs fd := by
  obtain ⟨dx, za, sa, ix, vs, kvs, h1, h2, h3, h4, h5, h6⟩ := S
  have e : ∀ b u, H b = some u → (∀ l, u ≠ .dK l) → upd H fd o b = some u := fun b u hb n => by
    rw [upd_ne (ne_of hb hf (n _))]
    exact hb
  exact ⟨dx, za, sa, ix, vs, kvs, e _ _ h1 (by intro _ z; cases z), e _ _ h2 (by intro _ z; cases z), e _ _ h3 (by intro _ z; cases z), Paired.mapP h4 fun _ _ ⟨a, g1, g2⟩ => ⟨a, g1, e _ _ g2 (by intro _ z; cases z)⟩, e _ _ h5 (by intro _ z; cases z), h6⟩
def spFoundJoined (C fJ : Addr) (w : World) (T0 : List (Addr × Str)) : Sp := fun vs H Q _ => ∃ (p fd : Addr) (sz : List Int) (zs : List Row) (m : Nat), vs = [.ref p, .str "joined", .ref fJ] ∧ StoreAt C H p sz zs fd ∧ InUse sz zs ∧ FoundAt w T0 A0 fd zs m H ∧ m ≤ 100 ∧ Joined (fun r => r ∈ zs) ∧ ∀ H', ExT fd H H' → LamX.Tabs T0 H' → Q (.bl true) H'
/-- is_joined of a fresh store of joined states -/
def spIsJoined (C : Addr) (T0 : List (Addr × Str)) : Sp := fun vs H Q _ => ∃ (p fd : Addr) (sz : List Int) (zs : List Row), vs = [.ref p] ∧ StoreAt C H p sz zs fd ∧ InUse sz zs ∧ H fd = some (.dK []) ∧ LamX.Tabs T0 H ∧ Joined (fun r => r ∈ zs) ∧ ∀ H', ExT fd H H' → LamX.Tabs T0 H' → Q (.bl true) H'
section
variable {P : Program} {w : World} {K : PySem.W.Frag} {mg : Str → Option Value} {base : Heap}
theorem ok_nearByKeys {f C fF fN : Addr} {fd fdF : FuncData} {T0 : List (Addr × Str)} {A0 : NestedKey → Prop} (F : Fun K "near_by_keys" "near_by_keys" s_nearByKeys f fd) (T : StTxt K mg C) (mF : Meth K C "found" fF) (bF : Binds K fdF ["self", "word", "work"] []) (mN : mg "find_near" = some (.ref fN)) (G : FnOk P w K mg base CX0 4 fF fdF ["self", "word", "work"] (spFoundNear C fN (FoundAt w T0 A0))) :
    FnOk P w K mg base CX0 5 f fd ["store"] (spNearByKeys C (FoundAt w T0 A0)) := by
  refine F.ok sc_nearByKeys (fun vs H Q E h => ?_) (fun cdv A outer s H vs Q E hr h => ?_)
  · obtain ⟨p, fd, sz, zs, m, rfl, _⟩ := h
    rfl
  · obtain ⟨p, fd', sz, zs, m, rfl, S, iu, fo, m9, q⟩ := h
    obtain ⟨d1, za, sa, ix, vs1, kvs1, hp, hz, hs, rz, hix, hio⟩ := id S
    have nam : (StoreF (sz.length : Int) za sa ix fd').lookup ("found" : Str) = none := sf_no (by decide +kernel) (by decide +kernel) (by decide +kernel) (by decide +kernel) (by decide +kernel)
    refine ⟨_, pss_one (ps_ret (pe_meth (pv 0) T.cl mF G (hr.mono (by decide)) bF .nil pass0 (pa_cons pe_str (pa_cons (pe_glob (v := .ref fN) (by rfl) mN rfl) pa_nil)))), ?_⟩
    exact ⟨.ref p, rfl, p, d1, _, rfl, hp, nam, p, fd', sz, zs, m, rfl, S, iu, fo, m9, q⟩
theorem ok_foundJoined {f C fJ : Addr} {fd fdJ : FuncData} {T0 : List (Addr × Str)} (F : Fun K "found" "Store.found" s_StoreFound f fd) (T : StTxt K mg C) (hk : PySem.W.keepIn K (.ref fJ) = true) (hb : Binds K fdJ ["store"] []) (G : FnOk P w K mg base CX0 11 fJ fdJ ["store"] (spFindJoined C (FoundAt w T0 A0))) :
    FnOk P w K mg base CX0 12 f fd ["self", "word", "work"] (spFoundJoined C fJ w T0) := by
  refine F.ok sc_StoreFound (fun vs H Q E h => ?_) (fun cdv A outer s H vs Q E hr h => ?_)
  · obtain ⟨p, fd, sz, zs, m, rfl, _⟩ := h
    rfl
  · obtain ⟨p, fd', sz, zs, m, rfl, S, iu, ⟨h0, ⟨L, h1, h2, h3⟩, h4⟩, m1, jo, q⟩ := h
    have hu9 : (A.deeper (envOfC "Store.found" (defScope s_StoreFound) s.heap.objs.size f cdv)).units + 9 < cLine := by have := hr.un; omega
    obtain ⟨d1, za, sa, ix, vs1, kvs1, hp, hz, hs, rz, hix, hio⟩ := id S
    refine ⟨_, pss_cons (ps_if (pt_cmpR (ninFk hu9) (pv 1) (fldk (K := K) (pv 0)) rfl) (pss_one (ps_asg (pe_callL (i := 2) G (hr.mono (by decide)) rfl (.inl rfl) hk hb .nil pass0 (pa_cons (pv 0) pa_nil)) (pg_sub (fldk (K := K) (pv 0)) (pv 1) (set_F hu9)))) pss_nil) (pss_one (ps_ret (pe_getF hu9 (fldk (K := K) (pv 0)) (pv 1) (fun _ _ => rfl)))), ?_⟩
    refine ⟨.str "joined", rfl, .ref p, rfl, p, C, d1, _, _, rfl, hp, T.cl, T.nF, sf_found, fd', L, .text "joined", rfl, h0, h1, .text _, fun e he => (h3 e he).2.1, fun _ => ?_, fun ⟨e, he, z⟩ => absurd z (h3 e he).1⟩
    refine ⟨true, rfl, rfl, .ref p, rfl, p, fd', sz, zs, m, rfl, S, iu, ⟨h0, ⟨L, h1, h2, h3⟩, h4⟩, m1, jo, fun m' H1 m9 e1 fo => ?_⟩
    have S1 := ExT.store S h1 e1
    obtain ⟨_, ⟨L1, g1, g2, g3⟩, g4⟩ := fo
    obtain ⟨d1, za, sa, ix, vs1, kvs1, hp1, _⟩ := S1
    refine ⟨.ref p, rfl, p, C, d1, _, _, rfl, hp1, T.cl, T.nF, sf_found, .str "joined", rfl, fd', L1, .text "joined", rfl, g1, .text _, fun e he => (g3 e he).2.1, fun e he => (g3 e he).1, by omega, ?_⟩
    have hm : (NestedKey.text ("joined" : Str), V.str "joined", V.bl true) ∈ L1 ++ [(NestedKey.text ("joined" : Str), V.str "joined", V.bl true)] := List.mem_append.mpr (.inr (List.mem_singleton.mpr rfl))
    have kp : ∀ b o, H1 b = some o → (∀ xs, o ≠ .lst xs) → (∀ φ, o ≠ .ext φ) → (∀ ps, o ≠ .tbl ps) → upd H1 fd' (FoundO w fd' (L1 ++ [(NestedKey.text ("joined" : Str), V.str "joined", V.bl true)])) b = some o := fun b o hb _ n _ => by
      rw [upd_ne (ne_of hb g1 (n _))]
      exact hb
    refine ⟨.ref p, rfl, p, C, d1, _, _, rfl, kp _ _ hp1 (by intro _ z; cases z) (by intro _ z; cases z) (by intro _ z; cases z), T.cl, T.nF, sf_found, .str "joined", rfl, fd', _, .text "joined", .str "joined", .bl true, rfl, upd_same, .text _, fun e he => ?_, hm, q _ (fun b o n hb t => ?_) (tabs_wr g4 g1 (by intro _ z; cases z) fun q z => code_ne z.symm)⟩
    · rcases List.mem_append.mp he with he | he
      · exact (kept_besides kp (g3 e he).2.1 (g3 e he).2.2).1
      · obtain rfl := List.mem_singleton.mp he
        exact .text _
    · rw [upd_ne n]
      exact e1 b o n hb t
theorem ok_isJoined {f C fF fJ : Addr} {fd fdF : FuncData} {T0 : List (Addr × Str)} (F : Fun K "is_joined" "is_joined" s_isJoined f fd) (T : StTxt K mg C) (mF : Meth K C "found" fF) (bF : Binds K fdF ["self", "word", "work"] []) (mN : mg "find_joined" = some (.ref fJ)) (G : FnOk P w K mg base CX0 12 fF fdF ["self", "word", "work"] (spFoundJoined C fJ w T0)) :
    FnOk P w K mg base CX0 13 f fd ["store"] (spIsJoined C T0) := by
  refine F.ok sc_isJoined (fun vs H Q E h => ?_) (fun cdv A outer s H vs Q E hr h => ?_)
  · obtain ⟨p, fd, sz, zs, rfl, _⟩ := h
    rfl
  · obtain ⟨p, fd', sz, zs, rfl, S, iu, hfd, tb, jo, q⟩ := h
    have nam : ∀ za sa ix, (StoreF (sz.length : Int) za sa ix fd').lookup ("found" : Str) = none := fun _ _ _ => sf_no (by decide +kernel) (by decide +kernel) (by decide +kernel) (by decide +kernel) (by decide +kernel)
    refine ⟨_, pss_one (ps_ret (pe_asFound (pe_meth (pv 0) T.cl mF G (hr.mono (by decide)) bF .nil pass0 (pa_cons pe_str (pa_cons (pe_glob (v := .ref fJ) (by rfl) mN rfl) pa_nil))))), ?_⟩
    have S1 := S.asFound (o := FoundO w fd' []) hfd
    obtain ⟨d1, za, sa, ix, vs1, kvs1, hp, _⟩ := id S1
    refine ⟨fd', hfd, fun n0 => ⟨.ref p, rfl, p, d1, _, rfl, hp, nam _ _ _, p, fd', sz, zs, 0, rfl, S1, iu, ⟨n0, ⟨[], upd_same, Nat.le_refl _, by simp⟩, tabs_wr tb hfd (by intro _ z; cases z) (fun q z => by unfold LamX.CodeO at z; cases z)⟩, by omega, jo, fun H' e1 t1 => q H' (fun b o n hb t => e1 b o n ?_ t) t1⟩⟩
    rw [upd_ne n]
    exact hb
end
end Bp

set_option Elab.async false
set_option linter.all false
set_option maxRecDepth 100000
set_option maxHeartbeats 4000000
namespace Bp
open PySem PySem.Spec PyProof.Rows L2 Evl
/-! ### a lambda with parameters, told of by the heap -/
/-- the object at f is the lambda of these words, its captured cells cl, its code object c' -/
def LamO (f : Addr) (qual : Str) (params : Arguments) (body : Expr) (scope : Scope) (cl : List (Str × Addr)) (c' : Addr) : HO := .ext fun h => ∃ pm ctv : Value, h.get? f = some (PySem.W.kla_obj "<lambda>" qual params body scope cl pm c' ctv)
section
open LamX
variable {X : Cx} {pins : List (Addr × Obj)} {σ : L2.St} {H : Hp} {s : Shared}
theorem inv_lam {qual : Str} {params : Arguments} {body : Expr} {scope : Scope} {cl : List (Str × Addr)} {c' : Addr} {pm ctv : Value} {t' : Nat} (I : Inv X pins σ H s) :
    Inv X pins σ (upd H s.heap.objs.size (LamO s.heap.objs.size qual params body scope cl c')) { s with heap := s.heap.push (PySem.W.kla_obj "<lambda>" qual params body scope cl pm c' ctv), toks := t' } := by
  refine I.laid (a := s.heap.objs.size) (fun b u e => Heap.get?_push_of_some _ e) (Nat.le_refl _) ?_
  have e : (s.heap.push (PySem.W.kla_obj "<lambda>" qual params body scope cl pm c' ctv)).get? s.heap.objs.size = some (PySem.W.kla_obj "<lambda>" qual params body scope cl pm c' ctv) := Heap.get?_push_size _ rfl
  exact ⟨⟨pm, ctv, e⟩, ⟨_, e⟩, fun h1 h2 ⟨p, t, z⟩ st => ⟨p, t, st _ z⟩⟩
theorem lam_make3 {T : List (Addr × Str)} {c P : Addr} {params : Arguments} {body : Expr} {scope : Scope} {pos : Pos} {E : Value → Shared → Prop} {Q : Value → Shared → Prop} (I : Inv X pins σ H s) (TB : TabB X.base X.mg c P) (hcode : X.env.code = .ref c)
    (hm : (P, X.env.qual ++ "<lambda>") ∈ T) (hu : ∀ p ∈ T, p.1 = P → p.2 = X.env.qual ++ "<lambda>") (hT : Tabs T H) (hdef : defaultsOf params X.env = ([], [])) (hfree : ∀ y ∈ scope.names, y.2 = .free → ∃ c, X.env.cells.lookup y.1 = some c)
    (h : ∀ (f c' : Addr) (H1 : Hp) (s' : Shared), Inv X pins σ H1 s' → ExtN H H1 → Tabs T H1 → H f = none → H1 f = some (LamO f (X.env.qual ++ "<lambda>") params body scope (cloFrom X.env.cells scope.names []) c') → H1 c' = some (CodeO c' (X.env.qual ++ "<lambda>")) → Q (.ref f) s') :
    wpAny (model X.prog X.w) X.A (eval (.Lambda params body scope pos) X.env) Q E s := by
  obtain ⟨ps, hP, ht, ha⟩ := hT _ hm
  refine PySem.W.kla_eval hdef ?_
  have bP : s.heap.BuiltinsAt X.mg P := TB.bm.keeps I.bk
  have hP' : s.heap.get? P = some { cls := .none, data := .fields ps } := I.hok P _ hP
  cases hc : codeAmong pos ps.toList with
  | none =>
    refine PySem.W.kla_makeFunction (mg := X.mg) (c := c) (P := P) (ps := ps) (closure_ok hfree) I.ok.glob (I.mod.glob.keeps I.bk) hcode (TB.code.keeps I.bk) hP' ht hc TB.gP bP fun c' ctv h' tk hx hge hlt hrec htb => ?_
    obtain ⟨c2, oc, vs, t, e2, hoc, hd, hv⟩ := hrec
    cases e2
    have nC : H c' = none := I.hok.fresh hge
    have I1 := inv_table (t' := tk) (more := #[rawInt pos.line, rawInt pos.col, .ref c']) (h' := h') I hP (fun b o hb e => hx b o hb e) htb hge ⟨oc, vs, t, hoc, hd, hv⟩
    have hE : ExtN H (upd (upd H P (.tbl (ps ++ #[rawInt pos.line, rawInt pos.col, .ref c']))) c' (CodeO c' (X.env.qual ++ "<lambda>"))) := fun b o e n => by
      rw [upd_ne (ne_of_none e nC), upd_ne (fun z => n ps (Option.some.inj (e.symm.trans (by rw [z]; exact hP))))]
      exact e
    have eL : (ps ++ #[rawInt pos.line, rawInt pos.col, .ref c']).toList = ps.toList ++ [rawInt pos.line, rawInt pos.col, .ref c'] := by simp
    have T1 : Tabs T (upd (upd H P (.tbl (ps ++ #[rawInt pos.line, rawInt pos.col, .ref c']))) c' (CodeO c' (X.env.qual ++ "<lambda>"))) := fun p hp => by
      by_cases hb : p.1 = P
      · rw [hu p hp hb, hb]
        refine ⟨_, by rw [upd_ne (ne_of_none hP nC), upd_same], by rw [eL]; exact PySem.TriplesOk_snoc _ _ _ _ ht, fun p' cv hcv => ?_⟩
        rw [eL] at hcv
        rcases among_app _ ht hcv with z | z
        · obtain ⟨c0, e1, e2⟩ := ha p' cv z
          exact ⟨c0, e1, hE _ _ e2 codeO_ne⟩
        · exact ⟨c', z, upd_same⟩
      · obtain ⟨ps', a1, a2, a3⟩ := hT p hp
        refine ⟨ps', by rw [upd_ne (ne_of_none a1 nC), upd_ne hb]; exact a1, a2, fun p' cv hcv => ?_⟩
        obtain ⟨c0, e1, e2⟩ := a3 p' cv hcv
        exact ⟨c0, e1, hE _ _ e2 codeO_ne⟩
    have nF := I1.hok.fresh (Nat.le_refl _)
    have I2 := inv_lam (qual := X.env.qual ++ "<lambda>") (params := params) (body := body) (scope := scope) (cl := cloFrom X.env.cells scope.names []) (c' := c') (pm := (X.mg "__name__").getD .none) (ctv := ctv) (t' := tk) I1
    refine h h'.objs.size c' _ _ I2 (fun b o e n => ?_) (T1.ext fun b o e => ?_) (I.hok.fresh (Nat.le_trans hge (Nat.le_of_lt hlt))) upd_same ?_
    · exact (upd_ne (ne_of_none (hE b o e n) nF)).trans (hE b o e n)
    · exact (upd_ne (ne_of_none e nF)).trans e
    · exact (upd_ne (Nat.ne_of_lt hlt)).trans upd_same
  | some cv =>
    obtain ⟨c', e, hco⟩ := ha pos cv hc
    subst e
    refine PySem.W.kla_makeFunctionHit (mg := X.mg) (c := c) (P := P) (ps := ps) (closure_ok hfree) I.ok.glob (I.mod.glob.keeps I.bk) hcode (TB.code.keeps I.bk) hP' ht hc bP fun ctv h' tk hx hsz => ?_
    have I1 : Inv X pins σ H { s with heap := h', toks := tk } := I.kept fun b o e => hx b o e
    have nF := I1.hok.fresh (Nat.le_refl _)
    have I2 := inv_lam (qual := X.env.qual ++ "<lambda>") (params := params) (body := body) (scope := scope) (cl := cloFrom X.env.cells scope.names []) (c' := c') (pm := (X.mg "__name__").getD .none) (ctv := ctv) (t' := tk) I1
    have kp : ∀ b o, H b = some o → upd H h'.objs.size (LamO h'.objs.size (X.env.qual ++ "<lambda>") params body scope (cloFrom X.env.cells scope.names []) c') b = some o := fun b o e => (upd_ne (ne_of_none e nF)).trans e
    exact h h'.objs.size c' _ _ I2 (fun b o e _ => kp b o e) (hT.ext kp) nF upd_same (kp _ _ hco)
end
section
open LamX NdefX
variable {CX : CXT} {P : Program} {w : World} {K : PySem.W.Frag} {mg : Str → Option Value} {base : Heap} {N ps fr : List Str} {f c' : Addr} {qual : Str} {params : Arguments} {body : Expr} {scope : Scope} {cl : List (Str × Addr)} {k : Nat}
abbrev lamF (qual : Str) (params : Arguments) (scope : Scope) (cl : List (Str × Addr)) (c' : Addr) : NF := ⟨"<lambda>", qual, params, [], scope, cl, c'⟩
/-- the lambda called: its body read at what it got and what it captured -/
theorem lam_run {A : Around} {outer : List Env} {s : Shared} {H : Hp} {us : List Value} {vs : List V} {ws : List (Option V)} {Q : VK} {E : XK} {t : TE} (S : NScope N ps fr scope)
    (hb : ∀ (pm ctv : Value) (us : List Value), us.length = ps.length → bindArgs (PySem.W.kla_fn "<lambda>" qual params body scope cl pm (.ref c') ctv) ⟨us, []⟩ = pure (ps.zip us)) (hr : Room k A) (e0 : Env0 P w K mg base A outer s H)
    (hf : H f = some (LamO f qual params body scope cl c')) (hc : H c' = some (CodeO c' qual)) (C : CellsAt cl fr ws s.heap H) (r : Vals vs us) (hl : vs.length = ps.length)
    (ht : PE (ncx CX P w K mg base N (lamF qual params scope cl c') f A outer s H E) body t) (hq : t (startF N vs ws) H Q) : codeAny (model P w) A (.call (.ref f) ⟨us, []⟩) (CR CX outer P w H s Q E) s := by
  have lim : s.heap.NoLimit := e0.mod.nolimit.keeps fun b o e => (e0.bs b o e).1
  obtain ⟨⟨pm, ctv, ho⟩, _, _⟩ := e0.hok f _ hf
  refine PySem.W.kla_callFunE hr.depth ho rfl S.co S.gen rfl (codeO_at e0.hok hc) ?_
  rw [hb pm ctv us (by rw [← r.length]; exact hl)]
  refine wpAny_pure (wpAny_newFunctionEnv S.nocell (fun ⟨n, _⟩ hy => S.par n (List.of_mem_zip hy).1) (fun h₁ hns hsb => ⟨lim.fresh _ hsb, ?_⟩) S.kind)
  show codeAny _ _ (.expr body (envF (lamF qual params scope cl c') f s.heap.objs.size)) _ _
  have kp : ∀ b o, s.heap.get? b = some o → h₁.get? b = some o := fun b o e => hsb.extBut b o (Nat.ne_of_lt (Heap.lt_size e)) (Heap.get?_push_of_some _ e)
  have I : Inv (ncx CX P w K mg base N (lamF qual params scope cl c') f A outer s H E) [] (startF N vs ws) H { s with heap := h₁, toks := s.toks + (ps.zip us).length } := inv_startN (F := lamF qual params scope cl c') S hr.hd e0 hl r C hns kp
  refine PySem.W.kla_codeExpr (wpAny_mono (ht.run [] _ _ H Q I hq) (fun v s' hs => ?_) fun e s' hs => hs)
  obtain ⟨v', H', J, rv, q⟩ := hs
  exact ⟨v', H', J.os, J.bare, J.base, J.hok, rv, q⟩
/-- what the captured cells held when the running frame began they hold still -/
theorem cells_later {X : Cx} {pins : List (Addr × Obj)} {σ : L2.St} {H : Hp} {s : Shared} {ws : List (Option V)} (C : CellsAt cl fr ws X.s_0.heap X.H_0) (hx : X.ex = []) (I : Inv X pins σ H s) : CellsAt cl fr ws s.heap H := by
  have kp : ∀ {c : Addr} {v : Option Value}, X.H_0 c = none → X.s_0.heap.IsCell c v → s.heap.IsCell c v := fun {c v} n ⟨o, ho, hd⟩ => by
    obtain ⟨sl, q⟩ := I.base.any ho n (by rw [hx]; simp)
    exact ⟨_, q, hd⟩
  refine ⟨C.len, fun y c e => ?_, C.inj, fun i y e => ?_⟩
  · obtain ⟨n, v, z⟩ := C.all y c e
    refine ⟨?_, v, kp n z⟩
    obtain ⟨o, ho, _⟩ := z
    exact I.base.free c o ho n (by rw [hx]; simp)
  · obtain ⟨c, hc, hv⟩ := C.has i y e
    refine ⟨c, hc, fun v ev => ?_⟩
    obtain ⟨u, r, z⟩ := hv v ev
    exact ⟨u, r, kp (C.all y c hc).1 z⟩
end
end Bp

set_option Elab.async false
set_option linter.all false
set_option maxRecDepth 100000
set_option maxHeartbeats 4000000
namespace Bp
open PySem PySem.Spec PyProof.Rows L2 Evl
section
open LamX NdefX
variable {X : Cx} {ps fr : List Str} {i j k : Nat} {x : Str} {E : XK} {t : TA} {e : Expr} {es : List Expr} {p pos : Pos}
/-- the slot i holds the lambda: called -/
def tCallLm (f : Addr) (lo : HO) (c' : Addr) (qual : Str) (i : Nat) (sp : Sp) (t : TA) : TE := fun σ H Q => σ[i]? = some (some (.ref f)) ∧ H f = some lo ∧ t σ H fun vs H1 => H1 f = some lo ∧ H1 c' = some (CodeO c' qual) ∧ sp vs H1 Q E0
theorem pe_callLm {f c' : Addr} {qual : Str} {params : Arguments} {body : Expr} {scope : Scope} {cl : List (Str × Addr)} {N : List Str} {ws : List (Option V)} {sp : Sp} (S : NScope N ps fr scope)
    (hb : ∀ (pm ctv : Value) (us : List Value), us.length = ps.length → bindArgs (PySem.W.kla_fn "<lambda>" qual params body scope cl pm (.ref c') ctv) ⟨us, []⟩ = pure (ps.zip us)) (hr : Room (k + 1) X.A) (C0 : CellsAt cl fr ws X.s_0.heap X.H_0) (hex : X.ex = [])
    (hbody : ∀ (A : Around) (outer : List Env) (s : Shared) (H : Hp) (vs : List V) (Q : VK), Room k (A.deeper (envF (lamF qual params scope cl c') f s.heap.objs.size)) → sp vs H Q E0 → vs.length = ps.length ∧ ∃ t, PE (ncx CX0 X.prog X.w X.K X.mg X.base N (lamF qual params scope cl c') f A outer s H E0) body t ∧ t (startF N vs ws) H Q)
    (hN : X.N[i]? = some x) (hv : Vis X.env.scope x) (ha : PA X (e :: es) t)
    (hd : (x == ("__debug__" : Str)) = false := by decide) (hcd : (x == ("__classdict__" : Str)) = false := by decide)
    (he : starEach (e :: es) X.env = (false, eval e X.env) :: starEach es X.env := by rfl) (hpl : (backTo pos (starEach es X.env)).any (·.1) = false := by rfl) :
    PE X (.Call (.Name x p) (e :: es) [] pos) (tCallLm f (LamO f qual params body scope cl c') c' qual i sp t) := by
  refine ⟨fun pins s σ H Q I h => ?_⟩
  obtain ⟨hs, hf, ht⟩ := h
  refine wpAny_Call_Name_kw (thn ((pe_var (pos := p) hN hv hd hcd).run pins s σ H (fun v H1 => v = .ref f ∧ H1 = H) I ⟨.ref f, hs, rfl, rfl⟩) fun u s1 ⟨v, H1, I1, r1, q1⟩ => ?_)
  obtain ⟨ev, eH⟩ := q1
  subst ev
  rw [eH] at I1
  obtain rfl : u = Value.ref f := r1
  have fa : ∀ {s' : Shared} {H' : Hp} {pins : List (Addr × Obj)} {σ : L2.St}, Inv X pins σ H' s' → H' f = some (LamO f qual params body scope cl c') → PySem.W.FnAt f s'.heap := fun {s' H' _ _} I' h' => by
    obtain ⟨⟨pm, ctv, ho⟩, _, _⟩ := I'.hok f _ h'
    exact ⟨_, _, _, _, ho⟩
  refine PySem.W.callWith_F (first := []) (fa I1 hf) (thn (ha.run pos pins s1 σ H _ I1 ht) fun us s2 ⟨vs, H2, I2, r, h1, h2, q⟩ => ⟨fa I2 h1, ?_⟩) he hpl
  show wpAny _ _ (call (.ref f) us) _ _ _
  have rc : codeAny (model X.prog X.w) X.A (.call (.ref f) ⟨us, []⟩) (CR CX0 X.stack X.prog X.w H2 s2 Q E0) s2 := by
    obtain ⟨hl, t', ht', hq'⟩ := hbody X.A X.stack s2 H2 vs Q (hr.deeper _) q
    exact lam_run S hb hr I2.env0 h1 h2 (cells_later C0 hex I2) r hl ht' hq'
  refine wpAny_call (codeAny_mono rc fun r s' hq => ?_)
  cases r with
  | error e => exact (show False from hq).elim
  | ok fl =>
    cases fl with
    | ret u => exact I2.after hq
    | next => exact False.elim hq
    | brk => exact False.elim hq
    | cont => exact False.elim hq
/-- a lambda written -/
def tLamV (X : Cx) (T : List (Addr × Str)) (params : Arguments) (body : Expr) (scope : Scope) : TE := fun _ H Q => Tabs T H ∧ ∀ (f c' : Addr) (H1 : Hp), ExtN H H1 → Tabs T H1 → H f = none → H1 f = some (LamO f (X.env.qual ++ "<lambda>") params body scope (cloFrom X.env.cells scope.names []) c') → H1 c' = some (CodeO c' (X.env.qual ++ "<lambda>")) → Q (.ref f) H1
theorem pe_lamV {T : List (Addr × Str)} {c P : Addr} {params : Arguments} {body : Expr} {scope : Scope} (TB : TabB X.base X.mg c P) (hcode : X.env.code = .ref c)
    (hm : (P, X.env.qual ++ "<lambda>") ∈ T) (hu : ∀ p ∈ T, p.1 = P → p.2 = X.env.qual ++ "<lambda>") (hdef : defaultsOf params X.env = ([], [])) (hfree : X.Ok → ∀ y ∈ scope.names, y.2 = .free → ∃ c, X.env.cells.lookup y.1 = some c) :
    PE X (.Lambda params body scope pos) (tLamV X T params body scope) := by
  refine ⟨fun pins s σ H Q I h => ?_⟩
  exact lam_make3 I TB hcode hm hu h.1 hdef (hfree I.ok) fun f c' H1 s' I1 e1 t1 n1 h1 h2 => ⟨.ref f, H1, I1, rfl, h.2 f c' H1 e1 t1 n1 h1 h2⟩
/-- o.m(..), the promise told of the running state -/
def tMethS (C : Addr) (m : Str) (SP : L2.St → List V → Hp → VK → Prop) (ta : TE) (t : TA) : TE := fun σ H Q => ta σ H fun x H1 => ∃ a dx fs, x = .ref a ∧ H1 a = some (.ins C dx fs) ∧ fs.lookup m = none ∧ t σ H1 fun vs H2 => SP σ (x :: vs) H2 Q
theorem pe_methS {C f : Addr} {m : Str} {o : Expr} {ta : TE} {apos : Pos} {SP : L2.St → List V → Hp → VK → Prop} {pl : Sem Bool} (he : PE X o ta) (c : Cls X.K C) (hm : Meth X.K C m f)
    (hrun : ∀ (pins : List (Addr × Obj)) (s : Shared) (σ : L2.St) (H : Hp) (vs : List V) (us : List Value) (Q : VK), Inv X pins σ H s → Vals vs us → SP σ vs H Q → codeAny (model X.prog X.w) X.A (.call (.ref f) ⟨us, []⟩) (CR CX0 X.stack X.prog X.w H s Q E0) s) (ha : PA X (e :: es) t)
    (hst : starEach (e :: es) X.env = (false, eval e X.env) :: starEach es X.env := by rfl) (hpl : (backTo pos (starEach es X.env)).any (·.1) = false := by rfl)
    (ht : eval (.Call (.Attribute o m apos) (e :: es) [] pos) X.env = (do
      let ov ← eval o X.env
      standAt apos.atName
      let (f, first) ← holding [ov] (getMethod ov m pl)
      callWith pos f first (backTo pos (starEach (e :: es) X.env)) (backToKw pos (keywordEach [] X.env))) := by rfl) :
    PE X (.Call (.Attribute o m apos) (e :: es) [] pos) (tMethS C m SP ta t) := by
  refine ⟨fun pins s σ H Q I h => ?_⟩
  refine PySem.W.methodCall_KW (pl := pl) (thn (he.run pins s σ H _ I h) fun u s1 ⟨x, H1, I1, rx, a, dx, fs, ex, ea, l, q⟩ => ?_) ht
  subst ex
  obtain rfl : u = Value.ref a := rx
  refine getmeth_ok I1 ea c hm l ?_
  refine PySem.W.callWith_K (first := [.ref a]) (h₀ := X.base) I.ok.mod.kin hm.kp (thn (ha.run pos pins s1 σ H1 _ I1 q) fun us s2 ⟨vs, H2, I2, r, q2⟩ => ⟨I2.kIn, ?_⟩) hst hpl
  show wpAny _ _ (call (.ref f) (.ref a :: us)) _ _ _
  refine wpAny_call (codeAny_mono (hrun pins s2 σ H2 (.ref a :: vs) (.ref a :: us) Q I2 (.cons rfl r) q2) fun r s' hq => ?_)
  cases r with
  | error e => exact (show False from hq).elim
  | ok fl =>
    cases fl with
    | ret u => exact I2.after hq
    | next => exact False.elim hq
    | brk => exact False.elim hq
    | cont => exact False.elim hq
end
end Bp

set_option Elab.async false
set_option linter.all false
set_option maxRecDepth 100000
set_option maxHeartbeats 4000000
namespace Bp
open PySem PySem.Spec PyProof.Rows L2 Evl
abbrev N_homes : List Str := ["store", "lot"]
theorem sc_homes : FnScope N_homes ["store", "lot"] (defScope s_homes) := ⟨rfl, rfl, rfl, by decide +kernel, rfl, by decide +kernel, by decide +kernel⟩
def lamA (st : Stmt) : Arguments := match defBody st with
  | [.Return (some (.Call _ [_, .Lambda a _ _ _] _ _)) _] => a
  | _ => defArgs st
def lamB (st : Stmt) : Expr := match defBody st with
  | [.Return (some (.Call _ [_, .Lambda _ b _ _] _ _)) _] => b
  | _ => .Constant .none 0 ⟨0, 0, 0, 0⟩
def lamC (st : Stmt) : Scope := match defBody st with
  | [.Return (some (.Call _ [_, .Lambda _ _ c _] _ _)) _] => c
  | _ => defScope st
abbrev N_lam : List Str := ["one", "lot"]
theorem sc_lam : NdefX.NScope N_lam ["one"] ["lot"] (lamC s_homes) := NdefX.nscope_by (by decide +kernel)
theorem nd_lam : NdefX.ndefB (defScope s_homes) (lamC s_homes) ["lot"] = true := by decide +kernel
section
open LamX NdefX
variable {P : Program} {w : World} {K : PySem.W.Frag} {mg : Str → Option Value} {base : Heap}
theorem found_extN {w : World} {T : List (Addr × Str)} {A : NestedKey → Prop} {fd : Addr} {zs : List Row} {m : Nat} {H H1 : Hp} (fo : FoundAt w T A fd zs m H) (e : LamX.ExtN H H1) (t : LamX.Tabs T H1) : FoundAt w T A fd zs m H1 := by
  obtain ⟨h0, ⟨L, h1, h2, h3⟩, _⟩ := fo
  exact ⟨h0, ⟨L, e _ _ h1 (by intro _ z; cases z), h2, fun q hq => ⟨(h3 q hq).1, kept_besides (fun b o hb _ _ n => e b o hb n) (h3 q hq).2.1 (h3 q hq).2.2⟩⟩, t⟩
abbrev homesKey (ks : List Nat) : NestedKey := .tup [.text "homes", .tup ((asInts ks).map NestedKey.num)]
abbrev A1 (ks : List Nat) : NestedKey → Prop := fun k => k = .text "joined" ∨ k = homesKey ks
theorem numInts_inj : ∀ {a b : List Nat}, (asInts a).map NestedKey.num = (asInts b).map NestedKey.num → a = b
  | [], [], _ => rfl
  | [], _ :: _, h => by cases h
  | _ :: _, [], h => by cases h
  | x :: a, y :: b, h => by
    have h : NestedKey.num (x : Int) :: (asInts a).map NestedKey.num = NestedKey.num (y : Int) :: (asInts b).map NestedKey.num := h
    injection h with h1 h2
    injection h1 with h1
    rw [numInts_inj h2, Int.ofNat.inj h1]
theorem homesKey_inj {a b : List Nat} (z : homesKey a = homesKey b) : a = b := by
  injection z with z
  injection z with z1 z
  injection z with z z2
  injection z with z
  exact numInts_inj z
/-- what Store.found is asked for homes -/
def SPhomes (C : Addr) (w : World) (T0 : List (Addr × Str)) (qual : Str) (cl : List (Str × Addr)) : L2.St → List V → Hp → VK → Prop := fun σ vs H Q => ∃ (p fd t l f c' : Addr) (sz : List Int) (zs : List Row) (ks : List Nat) (m : Nat), vs = [.ref p, .ref t, .ref f] ∧ slotAt σ 1 = some (.ref l) ∧ StoreAt C H p sz zs fd ∧ InUse sz zs ∧ FoundAt w T0 A0 fd zs m H ∧ m ≤ 900 ∧
  H t = some (.tup [.str "homes", .ref l]) ∧ H l = some (.tup ((asInts ks).map V.int)) ∧ ks.length ≤ 100 ∧ H f = some (LamO f qual (lamA s_homes) (lamB s_homes) (lamC s_homes) cl c') ∧ H c' = some (CodeO c' qual) ∧ ∀ v H', ExB fd H H' → FoundAt w T0 A0 fd zs (m + 2) H' → HomesAt H' zs ks v → Q v H'
theorem run_foundHomes {fF fH C : Addr} {fdF fdH : FuncData} {T0 : List (Addr × Str)} (F : Fun K "found" "Store.found" s_StoreFound fF fdF) (bF : Binds K fdF ["self", "word", "work"] []) (T : StTxt K mg C)
    (D_homesOf : Dn K mg "homes_of" s_homesOf ["store", "lot"] fH fdH) (G_homesOf : ∀ ks, FnOk P w K mg base CX0 6 fH fdH ["store", "lot"] (spHomesOf C (FoundAt w T0 (A1 ks)))) {A : Around} {outer : List Env} {s : Shared} {H : Hp} {vs : List V} {us : List Value} {σ : L2.St} {Q : VK} {qual : Str} {cl : List (Str × Addr)} (hr : Room 8 A) (e0 : Env0 P w K mg base A outer s H)
    (CL : CellsAt cl ["lot"] [slotAt σ 1] s.heap H) (r : Vals vs us) (h : SPhomes C w T0 qual cl σ vs H Q) : codeAny (model P w) A (.call (.ref fF) ⟨us, []⟩) (CR CX0 outer P w H s Q E0) s := by
  obtain ⟨p, fd', t, l, f, c', sz, zs, ks, m, rfl, hl, S, iu, ⟨h0, ⟨L, h1, h2, h3⟩, h4⟩, m9, ht, hlt, k100, hf, hc, q⟩ := h
  obtain ⟨oc, od, kV, doc, pm, an, cdv, ct, osl, rfl, lk, hcd⟩ := F.ex
  have hlen := r.length
  have hbb := bF s us (e0.mod.kin.keeps fun b o e => (e0.bs b o e).1) (by rw [List.append_nil, ← hlen]; rfl)
  rw [List.append_nil] at hbb
  refine run_ofS (N := N_StoreFound) lk hcd sc_StoreFound hr e0 hbb r rfl fun hr' => ?_
  have hu9 : (A.deeper (envOfC "Store.found" (defScope s_StoreFound) s.heap.objs.size fF cdv)).units + 9 < cLine := by have := hr'.un; omega
  obtain ⟨d1, za, sa, ix, vs1, kvs1, hp, hz, hs, rz, hix, hio⟩ := id S
  have hb : ∀ (pm ctv : Value) (us : List Value), us.length = ["one"].length → bindArgs (PySem.W.kla_fn "<lambda>" qual (lamA s_homes) (lamB s_homes) (lamC s_homes) cl pm (.ref c') ctv) ⟨us, []⟩ = pure ((["one"] : List Str).zip us) := fun pm ctv us hl => match us, hl with | [_], _ => rfl
  refine ⟨_, pss_cons (ps_if (pt_cmpR (ninFk hu9) (pv 1) (fldk (K := K) (pv 0)) rfl) (pss_one (ps_asg (pe_callLm (f := f) (i := 2) (k := 6) (N := N_lam) (sp := fun vs H Q E => ∃ x, vs = [x] ∧ spHomesOf C (FoundAt w T0 (A1 ks)) [x, .ref l] H Q E) sc_lam hb hr' CL rfl
    (fun A outer s H vs Q hr2 h => ?_) rfl (.inl rfl) (pa_cons (pv 0) pa_nil)) (pg_sub (fldk (K := K) (pv 0)) (pv 1) (set_F hu9)))) pss_nil) (pss_one (ps_ret (pe_getF hu9 (fldk (K := K) (pv 0)) (pv 1) (fun _ _ => rfl)))), ?_⟩
  · obtain ⟨x, rfl, h⟩ := h
    refine ⟨rfl, _, pe_call (G_homesOf ks) (hr2.mono (by decide)) (by rfl) D_homesOf.g D_homesOf.F.kp D_homesOf.b .nil pass0 (pa_cons (pv 0) (pa_cons (pv 1) pa_nil)), ?_⟩
    rw [hl]
    exact ⟨x, rfl, .ref l, rfl, h⟩
  · refine ⟨.ref t, rfl, .ref p, rfl, p, C, d1, _, _, rfl, hp, T.cl, T.nF, sf_found, fd', L, homesKey ks, rfl, h0, h1, .homes t l ks ht hlt, fun e he => (h3 e he).2.1, fun hno => ?_, fun hyes => ?_⟩
    · refine ⟨true, rfl, rfl, hf, .ref p, rfl, hf, hc, .ref p, rfl, p, fd', .ref l, sz, zs, ks, m, rfl, S, iu, ⟨h0, ⟨L, h1, h2, fun e he => ⟨fun z => z.elim (h3 e he).1 (hno e he), (h3 e he).2⟩⟩, h4⟩, m9, ⟨l, rfl, hlt⟩, k100, fun v H1 e1 fo1 hv => ?_⟩
      obtain ⟨d1, za, sa, ix, vs1, kvs1, hp1, _⟩ := ExB.store S h1 e1
      obtain ⟨_, ⟨L1, g1, g2, g3⟩, g4⟩ := fo1
      have hkey : KeyH H1 (homesKey ks) (.ref t) := .homes t l ks (e1 _ _ (ne_of ht h1 (by intro z; cases z)) ht) (e1 _ _ (ne_of hlt h1 (by intro z; cases z)) hlt)
      have hen : EntryOk H1 zs (homesKey ks) v := ⟨fun z => (by cases z), fun ks' z => homesKey_inj z ▸ hv⟩
      have nj : ¬ A0 (homesKey ks) := fun z => by cases z
      obtain ⟨en, fo⟩ := found_put (A := A0) (kv := .ref t) (v := v) h0 g1 g2 (fun e he => ⟨fun z => (g3 e he).1 (.inl z), (g3 e he).2⟩) g4 hkey nj hen
      have hm : (homesKey ks, V.ref t, v) ∈ L1 ++ [(homesKey ks, V.ref t, v)] := List.mem_append.mpr (.inr (List.mem_singleton.mpr rfl))
      have eB : ExB fd' H (upd H1 fd' (FoundO w fd' (L1 ++ [(homesKey ks, V.ref t, v)]))) := fun b u n hb => by
        rw [upd_ne n]
        exact e1 b u n hb
      refine ⟨.ref p, rfl, p, C, d1, _, _, rfl, hp1, T.cl, T.nF, sf_found, .ref t, rfl, fd', L1, homesKey ks, rfl, g1, hkey, fun e he => (g3 e he).2.1, fun e he z => (g3 e he).1 (.inr z), by omega, ?_⟩
      have hp2 : upd H1 fd' (FoundO w fd' (L1 ++ [(homesKey ks, V.ref t, v)])) p = some (.ins C d1 (StoreF (sz.length : Int) za sa ix fd')) := (upd_ne (ne_of hp1 g1 (by intro z; cases z))).trans hp1
      exact ⟨.ref p, rfl, p, C, d1, _, _, rfl, hp2, T.cl, T.nF, sf_found, .ref t, rfl, fd', _, homesKey ks, .ref t, v, rfl, upd_same, (en _ hm).2.1, fun e he => (en e he).2.1, hm, q _ _ eB fo ((en _ hm).2.2.2 ks rfl)⟩
    · refine ⟨false, rfl, ?_⟩
      obtain ⟨⟨k', kv, v⟩, he, rfl⟩ := hyes
      exact ⟨.ref p, rfl, p, C, d1, _, _, rfl, hp, T.cl, T.nF, sf_found, .ref t, rfl, fd', L, homesKey ks, kv, v, rfl, h1, .homes t l ks ht hlt, fun e he => (h3 e he).2.1, he, q _ _ (fun _ _ _ h => h) ⟨h0, ⟨L, h1, by omega, h3⟩, h4⟩ ((h3 _ he).2.2.2 ks rfl)⟩
theorem ok_homes {f c P0 fF fH C : Addr} {fd fdF fdH : FuncData} {T0 : List (Addr × Str)} (F : Fun K "homes" "homes" s_homes f fd) (hcode : fd.code = .ref c) (TB : TabB base mg c P0) (hm : (P0, (("homes" : Str) ++ ".<locals>.") ++ "<lambda>") ∈ T0) (hu : ∀ p ∈ T0, p.1 = P0 → p.2 = (("homes" : Str) ++ ".<locals>.") ++ "<lambda>")
    (T : StTxt K mg C) (FF : Fun K "found" "Store.found" s_StoreFound fF fdF) (mF : Meth K C "found" fF) (bF : Binds K fdF ["self", "word", "work"] []) (D_homesOf : Dn K mg "homes_of" s_homesOf ["store", "lot"] fH fdH) (G_homesOf : ∀ ks, FnOk P w K mg base CX0 6 fH fdH ["store", "lot"] (spHomesOf C (FoundAt w T0 (A1 ks)))) :
    FnOk P w K mg base CX0 9 f fd ["store", "lot"] (spHomes C (FoundAt w T0 A0)) := by
  obtain ⟨oc, od, kV, doc, pm, an, cdv, ct, osl, rfl, lk, hcd⟩ := F.ex
  obtain rfl : cdv = .ref c := hcode
  refine fn_of lk hcd sc_homes (fun vs H Q E h => ?_) fun A outer s H vs Q E hr h => ?_
  · obtain ⟨p, fd, x, sz, zs, ks, m, rfl, _⟩ := h
    rfl
  · obtain ⟨p, fd', x, sz, zs, ks, m, rfl, S, iu, fo, m9, ⟨l, rfl, hlt⟩, k100, q⟩ := h
    have nam : ∀ za sa ix, (StoreF (sz.length : Int) za sa ix fd').lookup ("found" : Str) = none := fun _ _ _ => sf_no (by decide +kernel) (by decide +kernel) (by decide +kernel) (by decide +kernel) (by decide +kernel)
    refine ⟨_, pss_one (ps_ret (pe_methS (pv 0) T.cl mF (SP := SPhomes C w T0 ((("homes" : Str) ++ ".<locals>.") ++ "<lambda>") (cloFrom (cxOf CX0 P w K mg base N_homes "homes" (defScope s_homes) f (.ref c) A outer s H E).env.cells (lamC s_homes).names [])) (fun pins s2 σ H2 vs us Q2 I r h2 => ?_) (pa_cons (pe_tup (pa_cons pe_str (pa_cons (pv 1) pa_nil))) (pa_cons (pe_lamV (T := T0) (params := lamA s_homes) (body := lamB s_homes) (scope := lamC s_homes) TB rfl hm hu rfl fun ok y hy e => ?_) pa_nil)))), ?_⟩
    · exact run_foundHomes FF bF T D_homesOf G_homesOf hr I.env0 (cells_of I (Caps.made (js := [1]) I.ok (ndef_free nd_lam) (ndef_fr nd_lam) rfl)) r h2
    · exact (ndef_free nd_lam y hy e).elim (fun z => ok.has _ (.inl z)) fun z => ok.has _ (.inr z)
    · obtain ⟨d1, za, sa, ix, vs1, kvs1, hp, _⟩ := id S
      refine ⟨.ref p, rfl, p, d1, _, rfl, hp, nam _ _ _, .ref l, rfl, by show 2 ≤ sizeLine; decide, fun t nt => ⟨fo.2.2.ext (Ex.new nt), fun f' c' H1 e1 t1 _ hf hc => ?_⟩⟩
      have fo1 := found_extN (found_hid.up fo (Ex.new nt)) e1 t1
      have eT : ExT fd' H H1 := (ExT.of (Ex.new nt)).trans fun b o _ hb n => e1 b o hb n
      obtain ⟨φ, hφ⟩ := found_hid.ext fo
      exact ⟨p, fd', t, l, f', c', sz, zs, ks, m, rfl, rfl, ExT.store S hφ eT, iu, fo1, m9, e1 _ _ upd_same (by intro _ z; cases z), eT _ _ (ne_of hlt hφ (by intro z; cases z)) hlt (by intro _ z; cases z), k100, hf, hc, fun v H' eB fo' hv => q v H' (eT.trans (ExT.ofB eB)) fo' hv⟩
end
end Bp

set_option Elab.async false
set_option linter.all false
set_option maxRecDepth 100000
set_option maxHeartbeats 4000000
namespace Bp
open PySem PySem.Spec PyProof.Rows L2 Evl
end Bp
namespace Bp
section
open PySem PySem.W PySem.Calls PyProof.Rows PySem.HandSPX
/-! ### the own errors: __init__ says super().__init__(text), then self.at = at -/
def xA (p1 p2 : Pos) : Arguments := { posonlyargs := [], args := [{ arg := "self", annotation := none, pos := p1 }, { arg := "at", annotation := none, pos := p2 }], vararg := none, kwonlyargs := [], kw_defaults := [], kwarg := none, defaults := [] }
def xB (msg : Str) (a1 a2 a3 a4 a5 a6 b1 b2 b3 b4 : Pos) (j : Nat) : List Stmt := [.Expr (.Call (.Attribute (.Call (.Name "super" a1) [] [] a2) "__init__" a3) [.Constant (.str msg) j a4] [] a5) a6, .Assign [.Attribute (.Name "self" b1) "at" b2] (.Name "at" b3) b4]
def xS : Scope := { kind := .function, names := [("self", .local), ("at", .local), ("__class__", .free), ("super", .globalImplicit)], isGenerator := false, isCoroutine := false, more := [] }
/-- what the written part says of the class nm, at C, and of its __init__, at fI, its cell cc and its code cda -/
structure XTxt (P : Program) (K : Frag) (mg : Str → Option Value) (nm qual msg : Str) (C fI cc cda : Addr) : Prop where
  gC : mg nm = some (.ref C)
  gs : mg "super" = none
  cls : ∃ nm q N bs bm sn sub ab col dd k0 k1 k2 k3 k5, K.lookup C = some (excClassObj nm q C N bs bm true sn sub ab col dd k0 k1 k2 k3 k5 "ValueError.__new__") ∧ refsVE bm = true
  sa : findIn K (.ref C) "__setattr__" = some (some (.builtin "object.__setattr__"))
  ga : findIn K (.ref C) "__getattribute__" = some (some (.builtin "BaseException.__getattribute__"))
  gg : findIn K (.ref C) "__getattr__" = some none
  noN : findIn K (.ref C) "at" = some none
  iC : findIn K (.ref C) "__init__" = some (some (.ref fI))
  tC : typeIn K (.ref fI) = some (.type "function")
  kC : keepIn K (.ref C) = true
  exC : subIn K (.ref C) (.type "BaseException") = some true
  veC : subIn K (.ref C) (.type "ValueError") = some true
  tyC : typeIn K (.ref C) = some (.type "type")
  hdC : hasDictIn K C = true
  cell : ∃ cl cld csl, K.lookup cc = some ⟨cl, cld, .cell (some (.ref C)), csl⟩
  code : ∃ ccl cdd vs ccs file tf, K.lookup cda = some ⟨ccl, cdd, .fields vs, ccs⟩ ∧ vs[2]? = some (.str file tf) ∧ ((P.main.file : Str) == file) = true
  top : (P.main.scope.names.lookup ("super" : Str)).isSome = false
  sub : mroIn K C (.ref C) = some true
  nop : nsIn K cStatics "thirdparty.any" = some none
  sup : ks_superIn K C C "__init__" = some (some (.builtin "ValueError.__init__"))
  fn : ∃ (oc : Value) (od : Option Addr) (doc pm : Value) (an : Option Addr) (ct : Value) (osl : Array (Option Value)) (p1 p2 a1 a2 a3 a4 a5 a6 b1 b2 b3 b4 : Pos) (j : Nat),
    K.lookup fI = some ⟨oc, od, .func (ksFn "__init__" qual (xA p1 p2) (xB msg a1 a2 a3 a4 a5 a6 b1 b2 b3 b4 j) xS .none .none doc pm an (.ref cda) ct cc), osl⟩ ∧ codeIn K (.ref cda) qual = true ∧
    ∀ env : Env, env.scope = xS → ∃ pl : Sem Bool, eval (.Call (.Attribute (.Call (.Name "super" a1) [] [] a2) "__init__" a3) [.Constant (.str msg) j a4] [] a5) env = (do
      let ov ← attributeBase (.Call (.Name "super" a1) [] [] a2) "__init__" env (eval (.Call (.Name "super" a1) [] [] a2) env)
      standAt a3.atName
      let (f, first) ← holding [ov] (getMethod ov "__init__" pl)
      callWith a5 f first (backTo a5 (starEach [.Constant (.str msg) j a4] env)) [])
/-- what __init__ leaves of a fresh exception at x -/
structure XEnd (h h' : Heap) (x C dx : Addr) (v : Value) : Prop where
  keep : ∀ b o, b ≠ x → h.get? b = some o → h'.get? b = some o
  obj : ∃ t1 : Addr, h'.get? x = some { cls := .ref C, dict := some dx, data := .fields #[.ref t1, .none, .none, .none, .bool false, .none] }
  dbig : h.objs.size ≤ dx
  dne : dx ≠ x
  ns : h'.Ns1 dx (fun y => if y = "at" then some v else none)
theorem callWith_mw {M : Model} {A : Around} {E : Value → Shared → Prop} {s : Shared} {i : String} {pos : Pos} {u x : Addr} {env : Env} {e : Expr} {rest : List Expr} {Q : Value → Shared → Prop}
    (h : wpAny M A (spliced (backTo pos (starEach (e :: rest) env))) (fun vs s₁ => s₁.heap.get? u = some (kxs_mw i x) ∧ wpAny M A (call (.ref u) vs) Q E s₁) E s)
    (he : starEach (e :: rest) env = (false, eval e env) :: starEach rest env := by rfl) (hplain : (backTo pos (starEach rest env)).any (·.1) = false := by rfl) :
    wpAny M A (callWith pos (.ref u) [] (backTo pos (starEach (e :: rest) env)) []) Q E s := by
  rw [he] at h ⊢
  refine kxs_callWith (i := i) (x := x) (by show (false || (backTo pos (starEach rest env)).any (·.1)) = false; rw [hplain]; rfl) ?_
  exact evalArgs_plain h
theorem call_mw {prog : Program} {w : World} {A : Around} {E : Value → Shared → Prop} {h : Heap} {g : Array GenState} {d : Drawn} {t : Nat} {os : OsState} {nm q : Str} {C N : Addr} {bs bm : List Value} {hdct : Bool} {sn : List Str} {sub : List Value} {ab : Bool} {col : Option Bool} {dd : Option Addr} {k0 k1 k2 k3 k5 : Option Value}
    {u e t0 : Addr} {rest : List Value} {Q : Value → Shared → Prop} (hC : h.get? C = some (excClassObj nm q C N bs bm hdct sn sub ab col dd k0 k1 k2 k3 k5 "ValueError.__new__")) (he : h.get? e = some (excO C t0)) (hu : h.get? u = some (kxs_mw "ValueError.__init__" e)) (hz : rest.length ≤ sizeLine)
    (hq : ∀ h' t1, (∀ b o, b ≠ e → h.get? b = some o → h'.get? b = some o) → h'.get? e = some (excO C t1) → Q .none ⟨h', g, d, t, os⟩) : wpAny (model prog w) A (call (.ref u) rest) Q E ⟨h, g, d, t, os⟩ := by
  refine wpAny_call (codeAny_of_tree ?_)
  show wpAny _ A.in1 (callAny (.ref u) ⟨rest, []⟩) _ _ _
  simp only [callAny]
  refine wpAny_bind (wpAny_load hu ?_)
  simp only [kxs_mw, show (Value.type "method-wrapper" == Value.type "method" || Value.type "method-wrapper" == Value.type "builtin_function_or_method" || Value.type "method-wrapper" == Value.type "method-wrapper") = true by decide, if_true]
  refine KFB.if_so (by decide) ?_
  refine wpAny_bind (check_bound_init F.excBase_ValueError.toExcCallFacts hC he rfl ?_)
  refine wpAny_bind (wpAny_pure (wpAny_pure ?_))
  refine ⟨plainId_quiet F.excBase_ValueError.init.plain _, codeAny_builtin F.excBase_ValueError.initEntry ?_⟩
  exact exc_init_tree (cls := .ref C) (t0 := t0) (dv := none) (c2 := .none) (c3 := .none) (b4 := .bool false) he hz fun h' k1 k2 k3 => hq h' _ k1 k2
variable {prog : Program} {w : World} {A : Around} {E : Value → Shared → Prop} {R : Result → Shared → Prop} {s : Shared} {K : Frag} {mg : Str → Option Value} {nm qual msg : Str} {C fI cc cda : Addr}
theorem x_init (T : XTxt prog K mg nm qual msg C fI cc cda) {x t0 : Addr} {v : Value} (X : K.In s.heap) (hg : s.heap.Ns mainGlobals mg) (hb : ∃ mb, s.heap.Ns builtinsNs mb ∧ ∀ x : Str, x ≠ "__name__" → mb x = bootBuiltins x) (hlim : s.heap.NoLimit) (hx : s.heap.get? x = some (excO C t0)) (hnx : K.lookup x = none) (hroom : A.depth < recursionLimit)
    (hq : ∀ h' tk dx, XEnd s.heap h' x C dx v → R (.ok (.ret .none)) { s with heap := h', toks := tk }) :
    codeAny (model prog w) A (.call (.ref fI) ⟨[.ref x, v], []⟩) R s := by
  obtain ⟨oc, od, doc, pm, an, ct, osl, p1, p2, a1, a2, a3, a4, a5, a6, b1, b2, b3, b4, j, ho, hcd, hev⟩ := T.fn
  obtain ⟨nm', q, N, bs, bm, sn, sub, ab, col, dd, k0, k1, k2, k3, k5, hC, hbm⟩ := T.cls
  obtain ⟨ccl, cdd, vs, ccs, file, tf, hcode, hvs, hfile⟩ := T.code
  obtain ⟨cl, cld, csl, hcell⟩ := T.cell
  obtain ⟨mb, hmb, hboot⟩ := hb
  obtain ⟨hp, g, d, tk, os⟩ := s
  have hcl : clsIn K C = some { name := nm', bases := bs, mro := .ref C :: bm, ns := N, qualname := q, hasDict := true, slotNames := sn, subclasses := sub, abstract := ab, collection := col, hasDel := false } := by unfold clsIn; rw [hC] <;> rfl
  refine ks_codeAny_call_defAt (binds := [("self", .ref x), ("at", v)]) (body := xB msg a1 a2 a3 a4 a5 a6 b1 b2 b3 b4 j) hroom (X _ _ ho) rfl hlim (codeRec_of X hcd) rfl (BindsTo.of_eq (by first | rfl | with_unfolding_all rfl)) (show ∀ x ∈ xS.names, x.2 ≠ .cell by decide) (locs rfl) (fun h₁ hn k => ?_) rfl rfl rfl
  have X₁ : K.In h₁ := X.keeps k
  have hx₁ := k _ _ hx
  refine ks_wpAt_execs_cons (ks_wpAt_Expr_any ?_)
  obtain ⟨pl, hpl⟩ := hev (ksEnv qual xS hp.objs.size fI (.ref cda) cc) rfl
  refine ks_wpAt_MethodCall (he := hpl) (ks_wpAt_super_base rfl rfl (by decide) rfl (k _ _ (X _ _ ho)) rfl rfl rfl (k _ _ (X _ _ hcode)) rfl hvs hfile T.top ?_)
  refine ks_loadName_global rfl rfl (loadGlobal_builtin (hg.keeps k) T.gs (hmb.keeps k) ((hboot _ (by decide)).trans (by first | rfl | kernel_rfl)) ⟨rfl, ?_⟩)
  refine wpAny_loadName_free rfl rfl rfl ⟨_, k _ _ (X _ _ hcell), rfl⟩ ?_
  refine wpAny_loadName_local rfl rfl hn (v := .ref x) (by first | rfl | with_unfolding_all rfl) ?_
  refine ks_wpAny_isType_cls (k _ _ (X _ _ hC)) rfl ⟨rfl, ?_⟩
  refine ks_wpAny_call_super (k _ _ (X _ _ hC)) rfl hx₁ rfl (fun c e => by cases e) (looks_mroIn X₁ T.sub) (fun h2 e2 k2 => ?_)
  have X2 : K.In h2 := X₁.keeps k2
  have hx2 := k2 _ _ hx₁
  have hxC : x ≠ C := fun z => by rw [z, hC] at hnx; cases hnx
  have hal : alongIn K "__init__" (((Value.ref C :: bm).dropWhile (· != .ref C)).drop 1) = some (some (.builtin "ValueError.__init__")) := by
    have z := T.sup
    unfold ks_superIn at z
    rw [hcl] at z
    exact z
  have hI : Looks (model prog w) h2 (isInstance (.ref x) (.type "ValueError")) true := (show InstAt h2 x (excO C t0) C none from ⟨hx2, rfl, rfl, trivial⟩).type.andThen (looks_subIn X2 T.veC)
  refine kxs_getMethod kxs_ValueError e2 (looks_opaque X2 T.nop) (l₀ := .ref C :: bm) (fun A Q E s k q => wpAny_bind ((looks_clsIn X2 hcl) A _ E s k (wpAny_pure q))) rfl X2 hal hI hxC (by decide) ?_
  have hu : (h2.push (kxs_mw "ValueError.__init__" x)).get? h2.objs.size = some (kxs_mw "ValueError.__init__" x) := Heap.get?_push_size _ rfl
  have kp : ∀ b o, h2.get? b = some o → (h2.push (kxs_mw "ValueError.__init__" x)).get? b = some o := fun b o e => Heap.get?_push_of_some _ e
  refine callWith_mw (i := "ValueError.__init__") (x := x) ?_
  refine spliced_cons (Constant_str (pos := a4) (k := j) (spliced_nil ⟨hu, ?_⟩))
  refine call_mw (kp _ _ (X2 _ _ hC)) (kp _ _ hx2) hu (by rw [sizeLine_eq]; exact (by decide : 1 ≤ 16777216)) fun h4 t1 k4 hx4 => ?_
  have L0 : hp.objs.size ≠ x := Nat.ne_of_gt (Heap.lt_size hx)
  have k5 : ∀ b o, b ≠ x → h₁.get? b = some o → h4.get? b = some o := fun b o n e => k4 b o n (kp _ _ (k2 _ _ e))
  have X4 : K.In h4 := fun a o e => k5 a o (fun z => by rw [z, hnx] at e; cases e) (X₁ a o e)
  have hn4 := hn.at fun o e => k5 _ o L0 e
  show PySem.wpAt _ _ _ (execs _ _) _ _ _
  refine ks_wpAt_execs_cons (ks_wpAt_Assign_Attr (PySem.wpAt_of_wpAny ?_))
  refine ESX.ldL (v := v) hn4 (by first | rfl | with_unfolding_all rfl | kernel_rfl) (ESX.ldL (v := .ref x) hn4 (by first | rfl | with_unfolding_all rfl | kernel_rfl) ?_)
  refine set_plain X4 (ox := excO C t1) (od := none) ⟨hx4, rfl, rfl, trivial⟩ T.sa ?_
  refine exc_osa X4 hx4 hcl (show refsVE (.ref C :: bm) = true from hbm) rfl T.noN (fun h₃ tk₃ dx k₃ dn dne hx₃ hn₃ => ?_)
  show PySem.wpAt _ _ _ (execs _ _) _ _ _
  refine PySem.wpAt_of_wpAny (wpAny_execs_nil (hq h₃ tk₃ dx ⟨fun b o hb e => k₃ b o hb (k5 b o hb (k b o e)), ⟨t1, hx₃⟩, Nat.le_of_lt (Nat.lt_of_lt_of_le hn4.lt dn), dne, hn₃⟩))
/-- a made error of our own -/
structure XMade (h h' : Heap) (e C d : Addr) (v : Value) : Prop where
  keep : ∀ b o, h.get? b = some o → h'.get? b = some o
  new : h.objs.size ≤ e
  obj : ∃ oe vs, h'.get? e = some oe ∧ oe.cls = .ref C ∧ oe.dict = some d ∧ oe.data = .fields vs ∧ vs[1]? = some .none
  dbig : h.objs.size ≤ d
  dne : d ≠ e
  ns : h'.Ns1 d (fun y => if y = "at" then some v else none)
theorem x_made (T : XTxt prog K mg nm qual msg C fI cc cda) {v : Value} (X : K.In s.heap) (hg : s.heap.Ns mainGlobals mg) (hb : ∃ mb, s.heap.Ns builtinsNs mb ∧ ∀ x : Str, x ≠ "__name__" → mb x = bootBuiltins x) (hlim : s.heap.NoLimit) (hroom : A.depth + 1 < recursionLimit)
    (hq : ∀ h' tk e d, XMade s.heap h' e C d v → R (.ok (.ret (.ref e))) { s with heap := h', toks := tk }) :
    codeAny (model prog w) A (.call (.ref C) ⟨[v], []⟩) R s := by
  obtain ⟨nm', q, N, bs, bm, sn, sub, ab, col, dd, k0, k1, k2, k3, k5, hC, hbm⟩ := T.cls
  obtain ⟨hp, g, dr, tk, os⟩ := s
  obtain ⟨mb, hmb, hboot⟩ := hb
  have k : ∀ b o, hp.get? b = some o → ((hp.push (kdv_tup [v])).push (excO C hp.objs.size)).get? b = some o := fun b o e => Heap.get?_push_of_some _ (Heap.get?_push_of_some _ e)
  have hget : ((hp.push (kdv_tup [v])).push (excO C hp.objs.size)).get? (hp.objs.size + 1) = some (excO C hp.objs.size) := by heap_get
  have hnx : K.lookup (hp.objs.size + 1) = none := by
    cases e : K.lookup (hp.objs.size + 1) with
    | none => rfl
    | some o =>
      have z : hp.get? (hp.objs.size + 1) = some o := X _ _ e
      exact absurd (Nat.lt_of_succ_lt (Heap.lt_size z)) (Nat.lt_irrefl _)
  refine call_own F.excBase_ValueError (fun X => refsVE_contains X bm hbm) (X _ _ hC) (looks_findIn X T.iC) (fun self => bind_fn X self T.tC) (by rw [sizeLine_eq]; exact (by decide : 1 ≤ 16777216)) ?_
  refine x_init (s := ⟨(hp.push (kdv_tup [v])).push (excO C hp.objs.size), g, dr, tk, os⟩) T (X.keeps k) (hg.keeps k) ⟨mb, hmb.keeps k, hboot⟩ (hlim.keeps k) hget hnx ?_ fun h' tk' dx ⟨k', ⟨t1, hx⟩, dn, dne, hns⟩ => ?_
  · show A.depth + 1 < recursionLimit
    exact hroom
  · have old : ∀ b o, hp.get? b = some o → h'.get? b = some o := fun b o e => k' b o (Nat.ne_of_lt (Nat.lt_succ_of_lt (Heap.lt_size e))) (k b o e)
    have z : hp.objs.size + 1 + 1 ≤ dx := by
      first
        | (simpa only [Heap.size_push] using dn)
        | exact dn
        | (have q := dn; rw [Heap.size_push, Heap.size_push] at q; exact q)
    exact ⟨rfl, hq h' tk' (hp.objs.size + 1) dx ⟨old, Nat.le_succ _, ⟨_, _, hx, rfl, rfl, rfl, rfl⟩, Nat.le_trans (Nat.le_trans (Nat.le_succ _) (Nat.le_succ _)) z, dne, hns⟩⟩
end
end Bp

set_option Elab.async false
set_option linter.all false
set_option maxRecDepth 100000
set_option maxHeartbeats 4000000
namespace Bp
open PySem PySem.Spec PyProof.Rows L2 Evl
theorem relO_at {v : V} {v' : Value} (r : RelV v v') (f : Str) : RelO (List.lookup f [(("at" : Str), v)]) (if f = "at" then some v' else none) := by
  by_cases hw : f = "at"
  · subst hw
    rw [if_pos rfl]
    have q : List.lookup ("at" : Str) [(("at" : Str), v)] = some v := by simp [List.lookup]
    rw [q]
    exact r
  · rw [if_neg hw]
    have qw : (f == ("at" : Str)) = false := by simpa using hw
    have q2 : List.lookup f [(("at" : Str), v)] = none := by simp [List.lookup, qw]
    rw [q2]
    trivial
/-- the making of an own error, from what the written part says -/
theorem mkAt_of {P : Program} {K : PySem.W.Frag} {mg : Str → Option Value} {nm qual msg : Str} {C fI cc cda : Addr} (T : XTxt P K mg nm qual msg C fI cc cda) (hd : (nm == ("__debug__" : Str)) = false) : MkAt P K mg nm C := by
  intro X a ta p pos hP hK hm hr ha hg he hpl pins s σ H Q I h
  subst hP hK hm
  refine wpAny_Call_Name_kw (ld_glob I hg T.gC ?_ hd)
  refine PySem.W.callWith_K (h₀ := X.base) I.ok.mod.kin T.kC (thn (ha.run pos pins s σ H _ I h) fun us s1 hh => ?_) he hpl
  obtain ⟨vs, H1, I1, r1, v, ev, q1⟩ := hh
  subst ev
  refine ⟨I1.kIn, ?_⟩
  cases r1 with
  | cons rv rn =>
    rename_i v' us'
    cases rn
    show wpAny _ _ (call (.ref C) [v']) _ _ _
    have hlim := I1.nolimit
    have hgl := I1.mod.glob.keeps I1.bk
    have hbl : ∃ mb, s1.heap.Ns builtinsNs mb ∧ ∀ x : Str, x ≠ "__name__" → mb x = bootBuiltins x := by
      obtain ⟨mb, h1, h2⟩ := I1.mod.blt
      exact ⟨mb, h1.keeps I1.bk, h2⟩
    obtain ⟨hp, g, dr, tk, os⟩ := s1
    refine wpAny_call (x_made T I1.kIn hgl hbl hlim (by have := hr.dp; omega) fun h' tk' e d M => ?_)
    show MkP X pins σ Q (.ref e) ⟨h', g, dr, tk', os⟩
    obtain ⟨oe, fv, hoe, hc, hd, hdat, h1⟩ := M.obj
    have hns := M.ns
    obtain ⟨G', g1, g2⟩ := restrict h' fun b => decide (b ≠ e)
    have gk : ∀ b, b ≠ e → G'.get? b = h'.get? b := fun b hb => g1 b (decide_eq_true hb)
    have ge : G'.get? e = none := g2 e (by simp)
    have old : ∀ b o, hp.get? b = some o → G'.get? b = some o := fun b o q => (gk b (Nat.ne_of_lt (Nat.lt_of_lt_of_le (Heap.lt_size q) M.new))).trans (M.keep b o q)
    have ob : ObjOk X.prog X.w (upd H1 d (.xd [(("at" : Str), v)])) G' d (.xd [(("at" : Str), v)]) :=
      ⟨_, hns.at (fun o q => (gk d M.dne).trans q), fun f => relO_at rv f⟩
    have J : Inv X pins σ (upd H1 d (.xd [(("at" : Str), v)])) ⟨G', g, dr, tk', os⟩ := I1.laid (t' := tk') old M.dbig ob
    refine ⟨e, oe, fv, ⟨G', g, dr, tk', os⟩, _, .ref C, some d, rfl, J, fun b o q => ?_, ge, hoe, ⟨hc, hd⟩, hdat, h1, ?_, rfl, I1.bare, raises_own T.exC T.tyC, q1 d (I1.hok.fresh M.dbig)⟩
    · by_cases hb : b = e
      · have q' : G'.get? b = some o := q
        rw [hb, ge] at q'; cases q'
      · exact (gk b hb).symm.trans q
    · rw [upd_ne (Ne.symm M.dne)]
      exact I1.hok.fresh M.new
end Bp

set_option Elab.async false
set_option linter.all false
set_option maxRecDepth 100000
set_option maxHeartbeats 4000000
namespace Bp
open PySem PySem.Spec PyProof.Rows L2 Evl
/-! ### several clauses «except x as n» (the layer's rules for one such clause and for several without a name, joined) -/
def wManyAs (K : PySem.W.Frag) (Wout : WX) (D : Ends) : List (Value × Nat × (Addr → Value → Option Addr → TS)) → WX
  | [] => Wout
  | (c, i, ts) :: r => fun cls d σ H => ∃ b, PySem.W.exmOne K cls c = some b ∧
    (b = true → ∀ a, H a = none → ts a cls d { nx := fun σ' H' => D.nx (σ'.set i none) H', rt := D.rt, bk := fun σ' H' => D.bk (σ'.set i none) H', ct := fun σ' H' => D.ct (σ'.set i none) H' } (σ.set i (some (.ref a))) H) ∧ (b = false → wManyAs K Wout D r cls d σ H)
inductive HdsAs (X : Cx) : List ExceptHandler → List (Value × Nat × (Addr → Value → Option Addr → TS)) → Prop
  | nil : HdsAs X [] []
  | cons {x n : Str} {c : Value} {i : Nat} {ts : Addr → Value → Option Addr → TS} {b₀ : Stmt} {suite : List Stmt} {np pos' : Pos} {hds : List ExceptHandler} {l : List (Value × Nat × (Addr → Value → Option Addr → TS))} (hi : X.N[i]? = some n) (hln : X.env.kindOf n = some .local) (hc : Names X x c)
      (hsu : ∀ (a : Addr) (oe : Obj) (cls : Value) (d : Option Addr) (pn : List (Addr × Obj)), Zc cls d oe → (∃ vs, oe.data = .fields vs) → PSs (X.suite a ((a, oe) :: pn)) (b₀ :: suite) (ts a cls d)) (r : HdsAs X hds l) :
      HdsAs X (.ExceptHandler (some (.Name x np)) (some n) (b₀ :: suite) pos' :: hds) ((c, i, ts) :: l)
section
variable {X : Cx} {body : List Stmt} {h₀ : ExceptHandler} {hds : List ExceptHandler} {l : List (Value × Nat × (Addr → Value → Option Addr → TS))} {pos : Pos} {tb : WX → TS} {Wout : WX}
theorem ps_try_manyAs (hs : X.stack = X.env :: X.outer) (hf : X.env.frame = some X.env.locals) (hN : X.N.Nodup) (tk : Takes X Wout)
    (hb : ∀ (W : WX) (pn : List (Addr × Obj)) (xe : Value → Shared → Prop), Takes (X.tr pn xe) W → PassesOwn (model X.prog X.w) X.A X.env xe → PSs (X.tr pn xe) body (tb W))
    (hh : HdsAs X (h₀ :: hds) l) : PS X (.Try body (h₀ :: hds) [] [] pos) (fun D σ H => tb (wManyAs X.K Wout D l) D σ H) := by
  refine ⟨fun pins s σ H D I h => ?_⟩
  have ok := I.ok
  have hfr : X.A.frames = some (X.env :: X.outer) := by rw [ok.frames, hs]
  refine wpAny_Try_except ?_
  refine wpAny_mono ((hb (wManyAs X.K Wout D l) (X.pn ++ pins) (fun e s₁ => wpAny (model X.prog X.w) X.A (noteFrame e X.env) (fun _ s₂ => wpAny (model X.prog X.w) X.A (setFlight e none) (fun _ s₃ =>
    wpAny (model X.prog X.w) X.A (handleBy e X.env (h₀ :: hds)) (SP X pins D) X.xe s₃) X.xe s₂) X.xe s₁) (fun u s' xx => ?_) PassesOwn.looking).run [] s σ H D (I.toTry _) h) (fun f s1 hsp => ?_) (fun e s1 he => he)
  · obtain ⟨a, B, sI, pins', σ', H', cls, d, rfl, J', nb, up, sky, na, os, ag, w⟩ := xx
    have J : Inv X pins σ' H' sI := J'.ofTry ok
    have sky' : Sky B (X.env :: X.outer) a (Zc cls d) X.env.locals s'.heap := by rw [← hs]; exact sky
    show wpAny (model X.prog X.w) X.A (noteFrame (.ref a) X.env) _ _ _
    refine Sky.land Zc.steady hfr hf sky' fun h3 fl3 up3 => ?_
    have J3 : Inv X pins σ' H' { s' with heap := h3 } := J.landed nb fl3.1 (up.trans up3) os ag
    obtain ⟨oe3, vs3, he3, hz3, hd3⟩ := fl3.there
    have notFr : ∀ {h : Heap} {o : Obj} {vs : Array Value}, h.FunFrames B (X.env :: X.outer) → h.get? a = some o → o.data = .fields vs → a ∉ frs (X.env :: X.outer) := fun {h o vs} ff e dd hm => by
      obtain ⟨_, o', e', hnf⟩ := ff.mem hm
      rw [e] at e'; cases e'
      exact hnf _ dd
    have nfr := notFr fl3.2.2.1 he3 hd3
    have nL : a ≠ X.env.locals := fun z => nfr (List.mem_filterMap.mpr ⟨X.env, List.mem_cons_self, by rw [hf, z]⟩)
    have nF : a ∉ X.fs := fun hm => by
      obtain ⟨e, he, q⟩ := List.mem_filterMap.mp hm
      exact nfr (List.mem_filterMap.mpr ⟨e, List.mem_cons_of_mem _ he, q⟩)
    have S3 := J3.suite he3 hd3 na nL nF
    have go : ∀ {hds' : List ExceptHandler} {l' : List (Value × Nat × (Addr → Value → Option Addr → TS))}, HdsAs X hds' l' → wManyAs X.K Wout D l' cls d σ' H' →
        wpAny (model X.prog X.w) X.A (handleBy (.ref a) X.env hds') (SP X pins D) X.xe { s' with heap := h3 } := by
      intro hds' l' hk
      induction hk with
      | nil =>
        intro w
        refine wpAny_handleBy_nil ?_
        obtain ⟨k1, k2, k3, oe, vs, T, oT, ts', he, hz, hd, h1, hr⟩ := id fl3
        unfold PySem.passOn
        refine wpAny_bind (wpAny_field he hd h1 ?_)
        rw [if_neg (show ¬ ((Value.ref T == Value.none) = true) from by simp)]
        have fin : wpAny (model X.prog X.w) X.A (setFlight (.ref a) X.env.frame) (fun _ s4 => wpAny (model X.prog X.w) X.A (throw (.ref a) : Sem Flow) (SP X pins D) X.xe s4) X.xe { s' with heap := h3 } := by
          rw [hf]
          refine HandSPX.setFlight_upZ fl3 fun h4 hh4 up4 => wpAny_throw (tk _ _ ?_)
          exact ⟨a, B, sI, pins, σ', H', cls, d, rfl, J, nb, (up.trans up3).trans up4, .inr (.inr (by rw [hs]; exact hh4)), na, os, ag, w⟩
        first
          | exact wpAny_bind (wpAny_pure (wpAny_bind fin))
          | exact wpAny_bind fin
      | @cons x n c i ts b₀ suite np pos' hds2 l2 hi hln hc hsu r ih =>
        intro w
        obtain ⟨b, hb1, hyes, hno⟩ := w
        have hloc : Loc X.env.scope n := .inl hln
        refine wpAny_handleBy_cons (codeAny_handlers_test ?_) (by intro q; cases q)
        have LT : PySem.W.Looks (model X.prog X.w) h3 (typeOf (.ref a)) cls := fun A Q E s k q => wpAny_typeOf_ref (k _ _ he3) (by rw [hz3.1]; exact q)
        have LM := PySem.W.exm_one (M := model X.prog X.w) (J3.kIn) LT hb1
        have test : ∀ {Q : Value → Shared → Prop} {E : Value → Shared → Prop}, Q c { s' with heap := h3 } → wpAny (model X.prog X.w) (X.A.mark (some (.ref a))) (eval (.Name x np) X.env) Q E { s' with heap := h3 } := fun {Q E} q => by
          obtain ⟨hg, hdbg, hm | ⟨hm, hv, hnn⟩⟩ := hc
          · exact ld_glob (X := X.suite a ((a, oe3) :: (X.pn ++ pins))) S3 hg hm q hdbg
          · exact ld_blt (X := X.suite a ((a, oe3) :: (X.pn ++ pins))) S3 hg hm hv q hnn hdbg
        refine test (LM.here ?_)
        cases b with
        | true =>
          refine codeAny_handlers_suite_as ?_
          refine HandSPX.lands_againZ fl3 fun h4 fl4 up4 => ?_
          have J4 : Inv X pins σ' H' { s' with heap := h4 } := J.landed nb fl4.1 ((up.trans up3).trans up4) os ag
          obtain ⟨oe4, vs4, he4, hz4, hd4⟩ := fl4.there
          have S4 := J4.suite he4 hd4 na nL nF
          refine store_ok (X := X.suite a ((a, oe4) :: (X.pn ++ pins))) (v := .ref a) S4 hN hi hloc rfl (fun s5 S5 => ?_) (.inr hln)
          refine wpAny_mono ((hsu a oe4 cls d (X.pn ++ pins) hz4 ⟨_, hd4⟩).run [] s5 _ H' _ S5 (hyes rfl a na)) (fun f s6 hsp => ?_) (fun _ _ z => False.elim z)
          have end_ : ∀ {σ6 : L2.St} {H6 : Hp} {Q : Shared → Prop}, Inv (X.suite a ((a, oe4) :: (X.pn ++ pins))) [] σ6 H6 s6 → (∀ s7, Inv X pins (σ6.set i none) H6 s7 → Q s7) →
              wpAny (model X.prog X.w) X.A (do bindName X.env n .none; unbindBehindTheSuite X.env n pos') (fun _ s7 => Q s7) X.xe s6 := fun {σ6 H6 Q} S6 hq => gone_ok (S6.unsuite ok) hN hi hln hq
          cases f with
          | next =>
            obtain ⟨σ6, H6, S6, q6⟩ := hsp
            exact end_ S6 fun s7 J7 => ⟨_, _, J7, q6⟩
          | brk =>
            obtain ⟨σ6, H6, S6, q6⟩ := hsp
            exact end_ S6 fun s7 J7 => ⟨_, _, J7, q6⟩
          | cont =>
            obtain ⟨σ6, H6, S6, q6⟩ := hsp
            exact end_ S6 fun s7 J7 => ⟨_, _, J7, q6⟩
          | ret u =>
            obtain ⟨v6, σ6, H6, S6, r6, q6⟩ := hsp
            exact end_ S6 fun s7 J7 => ⟨_, _, _, J7, r6, q6⟩
        | false =>
          show wpAny _ X.A (handleBy (.ref a) X.env hds2) _ _ _
          exact ih (hno rfl)
    exact go hh w
  · cases f with
    | next =>
      obtain ⟨σ', H', J', q⟩ := hsp
      exact wpAny_execs_nil ⟨σ', H', J'.ofTry ok, q⟩
    | brk =>
      obtain ⟨σ', H', J', q⟩ := hsp
      exact ⟨σ', H', J'.ofTry ok, q⟩
    | cont =>
      obtain ⟨σ', H', J', q⟩ := hsp
      exact ⟨σ', H', J'.ofTry ok, q⟩
    | ret u =>
      obtain ⟨v, σ', H', J', r, q⟩ := hsp
      exact ⟨v, σ', H', J'.ofTry ok, r, q⟩
end
end Bp

set_option Elab.async false
set_option linter.all false
set_option maxRecDepth 100000
set_option maxHeartbeats 4000000
namespace Bp
open PySem PySem.Spec PyProof.Rows L2 Evl
abbrev s_lawRefusal : Stmt := topS 47
abbrev N_lawRefusal : List Str := ["_law_work", "e", "how", "what", "why"]
theorem sc_lawRefusal : FnScope N_lawRefusal ["_law_work"] (defScope s_lawRefusal) := ⟨rfl, rfl, rfl, by decide +kernel, rfl, by decide +kernel, by decide +kernel⟩
/-- what the handlers tell of an own error at C: (word, e.at) -/
def Told (C : Addr) (word : Str) (cls : Value) (d : Option Addr) (H : Hp) (Q : VK) : Prop := cls = .ref C ∧ ∃ (dd : Addr) (v : V), d = some dd ∧ H dd = some (.xd [(("at" : Str), v)]) ∧ ∀ t, H t = none → Q (.ref t) (upd H t (.tup [.str word, v]))
/-- _law_refusal: what the lambda's reading must give: None at its end, or one of two own errors -/
def TTref (CL CR : Addr) : (XK → Hp → VK → Prop) → Hp → VK → Prop := fun tl H Q => tl (fun cls d H' => Told CL "lot" cls d H' Q ∨ Told CR "refused" cls d H' Q) H (fun _ H' => Q .non H')
structure ErrT (K : PySem.W.Frag) (mg : Str → Option Value) (nm : Str) (C : Addr) : Prop where
  mg : mg nm = some (.ref C)
  xf : XfC K C
  no : PySem.W.findIn K (.ref C) "at" = some none
theorem takes_len {X : Cx} {W : WX} (tk : Takes X W) : Takes X (fun cls d σ H => σ.length = X.N.length → W cls d σ H) := fun e s' ⟨a, B, sI, pins', σ', H', cls, d, e0, J', nb, up, sky, na, os, ag, w⟩ =>
  tk e s' ⟨a, B, sI, pins', σ', H', cls, d, e0, J', nb, up, sky, na, os, ag, w J'.len⟩
theorem set_get {σ : L2.St} (h : σ.length = 5) (i : Nat) (v : Option V) (hi : i < 5) : (σ.set i v)[i]? = some v := List.getElem?_set_self (by omega)
section
open LamX
variable {X : Cx}
theorem refusal_gives {g CQ CL CS CR : Addr} {cdg : Value} {q : Str} (TQ : ErrT X.K X.mg "InvalidQuestion" CQ) (TL : ErrT X.K X.mg "InvalidLot" CL) (TS : ErrT X.K X.mg "InvalidState" CS) (TR : ErrT X.K X.mg "Refused" CR)
    (l1 : PySem.W.exmOne X.K (.ref CL) (.ref CQ) = some false) (l2 : PySem.W.exmOne X.K (.ref CL) (.ref CL) = some true) (r1 : PySem.W.exmOne X.K (.ref CR) (.ref CQ) = some false) (r2 : PySem.W.exmOne X.K (.ref CR) (.ref CL) = some false) (r3 : PySem.W.exmOne X.K (.ref CR) (.ref CS) = some false) (r4 : PySem.W.exmOne X.K (.ref CR) (.ref CR) = some true) : GivesTo X N_lawRefusal "_law_refusal" (defScope s_lawRefusal) g cdg (defBody s_lawRefusal) "_law_work" q (TTref CL CR) := by
  intro f c' s H Q tl act hc h
  refine ⟨_, pss_cons (ps_try_manyAs (X := (cxOf C8.CX0 X.prog X.w X.K X.mg X.base N_lawRefusal "_law_refusal" (defScope s_lawRefusal) g cdg X.A X.stack s H C8.E0).nox)
      (tb := fun W D σ H => ∃ Ech : XK, (∀ cls d σ' H', σ'.length = 5 → Ech cls d H' → W cls d σ' H') ∧ σ[0]? = some (some (.ref f)) ∧ H c' = some (CodeO c' q) ∧ tl Ech H (fun _ H' => D.nx σ H'))
      rfl rfl sc_lawRefusal.nd takes_none5 (fun W pn xe tk _ => ?_) (.cons (x := "InvalidQuestion") (n := "e") (i := 1) rfl rfl ⟨rfl, by decide, .inl TQ.mg⟩ (fun a oe cls d pn hz hf => pss_one (ps_ret (pe_tup (pa_cons pe_str (pa_cons (pe_xf TQ.xf TQ.no hz hf (pv 1)) pa_nil))))) (.cons (x := "InvalidLot") (n := "how") (i := 2) rfl rfl ⟨rfl, by decide, .inl TL.mg⟩ (fun a oe cls d pn hz hf => pss_one (ps_ret (pe_tup (pa_cons pe_str (pa_cons (pe_xf TL.xf TL.no hz hf (pv 2)) pa_nil))))) (.cons (x := "InvalidState") (n := "what") (i := 3) rfl rfl ⟨rfl, by decide, .inl TS.mg⟩ (fun a oe cls d pn hz hf => pss_one (ps_ret (pe_tup (pa_cons pe_str (pa_cons (pe_xf TS.xf TS.no hz hf (pv 3)) pa_nil))))) (.cons (x := "Refused") (n := "why") (i := 4) rfl rfl ⟨rfl, by decide, .inl TR.mg⟩ (fun a oe cls d pn hz hf => pss_one (ps_ret (pe_tup (pa_cons pe_str (pa_cons (pe_xf TR.xf TR.no hz hf (pv 4)) pa_nil))))) .nil))))) (pss_one (ps_ret pe_non)), ?_⟩
  · refine ⟨fun pins s' σ H' D I h' => ?_⟩
    obtain ⟨Ech, hW, h1, h2, h3⟩ := h'
    exact (pss_one (ps_expr (act _ pn xe Ech _ _ (takes_len tk) fun cls d σ' H' e l => hW cls d σ' H' l e))).run pins s' σ H' D I ⟨h1, h2, h3⟩
  · refine ⟨fun cls d H' => Told CL "lot" cls d H' Q ∨ Told CR "refused" cls d H' Q, fun cls d σ' H' l e => ?_, rfl, hc, h⟩
    rcases e with ⟨rfl, dd, v, rfl, hd, q⟩ | ⟨rfl, dd, v, rfl, hd, q⟩
    · refine ⟨false, l1, fun z => (by cases z), fun _ => ⟨true, l2, fun _ a ha => ?_, fun z => (by cases z)⟩⟩
      exact ⟨.ref a, set_get l 2 _ (by decide), rfl, rfl, dd, _, v, rfl, hd, by simp [List.lookup], (by show 2 ≤ sizeLine; decide), fun t nt => q t nt⟩
    · refine ⟨false, r1, fun z => (by cases z), fun _ => ⟨false, r2, fun z => (by cases z), fun _ => ⟨false, r3, fun z => (by cases z), fun _ => ⟨true, r4, fun _ a ha => ?_, fun z => (by cases z)⟩⟩⟩⟩
      exact ⟨.ref a, set_get l 4 _ (by decide), rfl, rfl, dd, _, v, rfl, hd, by simp [List.lookup], (by show 2 ≤ sizeLine; decide), fun t nt => q t nt⟩
end
end Bp

set_option Elab.async false
set_option linter.all false
set_option maxRecDepth 100000
set_option maxHeartbeats 4000000
namespace Bp
open PySem PySem.Spec PyProof.Rows L2 Evl
/-! ### what is put together, as the law's own search tells it -/
theorem pairs_ok {sz sy : List Int} {ps : List (Nat × Nat)} (hps : ∀ q ∈ ps, q.1 < sz.length ∧ q.2 < sy.length ∧ sz[q.1]? = sy[q.2]?) (n1 : (ps.map (·.1)).Nodup) (n2 : (ps.map (·.2)).Nodup) : PairsOk sz.length sy.length ps (restOf sy.length ps) where
  lt := fun p hp => ⟨(hps p hp).1, (hps p hp).2.1⟩
  nd2 := n2
  nd1 := n1
  mem := fun j => rest_mem j
  rnd := rest_nodup
theorem putL_ok {sz sy : List Int} {S T : List Row} {ps : List (Nat × Nat)} (okS : StOk sz S) (okT : StOk sy T) : ∀ z ∈ putL S T ps (restOf sy.length ps), RowOk (putSizes sz sy (restOf sy.length ps)) z := fun z hz => by
  obtain ⟨a, ha, b, hb, _, rfl⟩ := mem_putL.mp hz
  exact glue_rowOk (okS.sub a ha) (okT.sub b hb) rest_lt
theorem putL_few {S T : List Row} {ps : List (Nat × Nat)} {rest : List Nat} : (putL S T ps rest).length ≤ S.length * T.length := by
  unfold putL
  induction S with
  | nil => simp
  | cons a S ih =>
    rw [List.flatMap_cons, List.length_append, List.length_map, List.length_cons, Nat.succ_mul]
    have := List.length_filter_le (fits ps a) T
    omega
theorem sizes_each {sz sy : List Int} {rest : List Nat} (h1 : ∀ n ∈ sz, 1 ≤ n ∧ n ≤ 4) (h2 : ∀ n ∈ sy, 1 ≤ n ∧ n ≤ 4) (hr : ∀ j ∈ rest, j < sy.length) : ∀ n ∈ putSizes sz sy rest, 1 ≤ n ∧ n ≤ 4 := fun n hn => by
  unfold putSizes glue at hn
  rcases List.mem_append.mp hn with h | h
  · exact h1 n h
  · unfold onKeys at h
    obtain ⟨j, hj, rfl⟩ := List.mem_map.mp h
    refine h2 _ ?_
    rw [List.getD_eq_getElem?_getD, List.getElem?_eq_getElem (hr j hj)]
    exact List.getElem_mem _
theorem due_inUse {sz sy : List Int} {S T zs : List Row} {ps : List (Nat × Nat)} (okS : StOk sz S) (okT : StOk sy T) (nz : zs.Nodup) (mz : ∀ r, r ∈ zs ↔ r ∈ putL S T ps (restOf sy.length ps)) : InUse (putSizes sz sy (restOf sy.length ps)) zs where
  ne := fun e => by
    have := congrArg List.length e
    unfold putSizes at this
    rw [glue_len] at this
    have h0 := List.length_pos_iff.mpr okS.ok.ne
    rw [List.length_nil] at this
    omega
  l8 := by
    unfold putSizes
    rw [glue_len]
    have h1 := okS.ok.len
    have h2 := okT.ok.len
    have h3 := rest_len (m := sy.length) (ps := ps)
    omega
  each := sizes_each okS.ok.each okT.ok.each rest_lt
  rows := fun r hr => putL_ok okS okT r ((mz r).mp hr)
  few := by
    have h1 := nodup_len_le nz (fun r hr => (mz r).mp hr)
    have h2 := putL_few (S := S) (T := T) (ps := ps) (rest := restOf sy.length ps)
    have h3 := Nat.mul_le_mul okS.len okT.len
    omega
where nodup_len_le {zs l : List Row} (nd : zs.Nodup) (h : ∀ r ∈ zs, r ∈ l) : zs.length ≤ l.length := List.Nodup.length_le_of_subset nd h
theorem due_is {sz sy : List Int} {S T z1 z2 zs ys : List Row} {ps : List (Nat × Nat)} (okS : StOk sz S) (okT : StOk sy T) (hps : ∀ q ∈ ps, q.1 < sz.length ∧ q.2 < sy.length ∧ sz[q.1]? = sy[q.2]?) (n1 : (ps.map (·.1)).Nodup) (n2 : (ps.map (·.2)).Nodup)
    (az : Asc zs) (nz : zs.Nodup) (mz : ∀ r, r ∈ zs ↔ r ∈ putL z1 z2 ps (restOf sy.length ps)) (m1 : ∀ r, r ∈ z1 ↔ r ∈ S) (m2 : ∀ r, r ∈ z2 ↔ r ∈ T) (p : ys.Perm (putL S T ps (restOf sy.length ps))) (ay : Asc ys) : zs = ys := by
  have mm : ∀ r, r ∈ zs ↔ r ∈ putL S T ps (restOf sy.length ps) := fun r => by
    rw [mz, mem_putL, mem_putL]
    simp only [m1, m2]
  have iu := due_inUse okS okT nz mm
  have ny : ys.Nodup := p.nodup_iff.mpr (putL_nodup (pairs_ok hps n1 n2) (fun a ha => (okS.sub a ha).len) (fun b hb => (okT.sub b hb).len) okS.nd okT.nd)
  refine asc_uniq (n := (putSizes sz sy (restOf sy.length ps)).length) az ay (fun r hr => ⟨(iu.rows r hr).len, iu.bd (iu.rows r hr)⟩) ?_
  exact (List.perm_ext_iff_of_nodup nz ny).mpr fun r => (mm r).trans p.mem_iff.symm
/-- the states put together of joined ones are joined, where no key, or one of two values, is paired -/
theorem due_joined {sz sy : List Int} {S T zs : List Row} {ps : List (Nat × Nat)} (okS : StOk sz S) (okT : StOk sy T) (hps : ∀ q ∈ ps, q.1 < sz.length ∧ q.2 < sy.length ∧ sz[q.1]? = sy[q.2]?)
    (mz : ∀ r, r ∈ zs ↔ r ∈ putL S T ps (restOf sy.length ps)) (c : ps = [] ∨ ∃ k l, ps = [(k, l)] ∧ sz[k]? = some 2) (jS : Joined fun r => r ∈ S) (jT : Joined fun r => r ∈ T) : Joined fun r => r ∈ zs := by
  have lS : ∀ a, a ∈ S → a.length = sz.length := fun a ha => (okS.sub a ha).len
  have lT : ∀ b, b ∈ T → b.length = sy.length := fun b hb => (okT.sub b hb).len
  rcases c with rfl | ⟨k, l, rfl, h2⟩
  · have e : (fun r => r ∈ zs) = Put (fun r => r ∈ S) (fun r => r ∈ T) (fun _ _ => True) (restOf sy.length []) := by
      funext r
      refine propext ((mz r).trans (mem_putL.trans ⟨fun ⟨a, ha, b, hb, _, e⟩ => ⟨a, b, ha, hb, trivial, e⟩, fun ⟨a, b, ha, hb, _, e⟩ => ⟨a, ha, b, hb, rfl, e⟩⟩))
    rw [e]
    exact joined_side lS lT rest_nodup (fun j => by rw [rest_mem]; simp) jS jT
  · obtain ⟨hk, hl, hkl⟩ := hps (k, l) List.mem_cons_self
    have e : (fun r => r ∈ zs) = Put (fun r => r ∈ S) (fun r => r ∈ T) (fun a b => a[k]? = b[l]?) (restOf sy.length [(k, l)]) := by
      funext r
      refine propext ((mz r).trans (mem_putL.trans ⟨fun ⟨a, ha, b, hb, f, e⟩ => ⟨a, b, ha, hb, by simpa [fits] using f, e⟩, fun ⟨a, b, ha, hb, f, e⟩ => ⟨a, ha, b, hb, by simpa [fits] using f, e⟩⟩))
    have two : ∀ {sz : List Int} {a : Row} {k : Nat}, RowOk sz a → sz[k]? = some 2 → a[k]? = some 0 ∨ a[k]? = some 1 := fun {sz a k} ok e => by
      have hk := (List.getElem?_eq_some_iff.mp e).1
      have ha : k < a.length := by rw [ok.len]; exact hk
      have h := ok.each k a[k] 2 (List.getElem?_eq_getElem ha) e
      rw [List.getElem?_eq_getElem ha]
      by_cases z : a[k] = 0
      · exact .inl (by rw [z])
      · exact .inr (by rw [show a[k] = 1 by omega])
    rw [e]
    exact joined_pair lS lT rest_nodup (fun j => by rw [rest_mem]; simp) (fun a ha => two (okS.sub a ha) h2) (fun b hb => two (okT.sub b hb) (hkl ▸ h2)) jS jT
end Bp

set_option Elab.async false
set_option linter.all false
set_option maxRecDepth 100000
set_option maxHeartbeats 4000000
namespace Bp
open PySem PySem.Spec PyProof.Rows L2 Evl
/-! ### repr of (sizes, states) -/
def rowPy (r : Row) : PyData := .tuple (r.map PyData.int)
def twoPy (sz : List Int) (zs : List Row) : PyData := .tuple [rowPy sz, .tuple (zs.map rowPy)]
theorem reads_ints {h : Heap} : ∀ {r : Row} {its : List Value}, Vals (r.map V.int) its → ReadsAll h its (r.map PyData.int) []
  | [], _, .nil => .nil
  | i :: r, _, .cons hv hr => by
    obtain ⟨t, rfl⟩ := hv
    exact .cons (as := []) (bs := []) (.int i t) (reads_ints hr)
theorem reads_row {P : Program} {w : World} {H : Hp} {h : Heap} {a : Addr} {r : Row} (ok : HOk P w H h) (e : H a = some (.tup (r.map V.int))) : Reads h (.ref a) (rowPy r) [] := by
  obtain ⟨_, its, r1, hit⟩ := ok a _ e
  obtain ⟨o, g1, g2, n, g3⟩ := hit
  exact .tuple g1 g2 g3 (by simpa using reads_ints r1)
theorem reads_rows {P : Program} {w : World} {H : Hp} {h : Heap} (ok : HOk P w H h) : ∀ {vs : List V} {zs : List Row} {its : List Value}, RowsOf H vs zs → Vals vs its → ReadsAll h its (zs.map rowPy) []
  | [], _, _, .nil, .nil => .nil
  | _ :: _, _, _, .cons hv rr, .cons hu ru => by
    obtain ⟨a, rfl, ha⟩ := hv
    cases hu
    exact .cons (as := []) (bs := []) (reads_row ok ha) (reads_rows ok rr ru)
theorem reads_two {P : Program} {w : World} {H : Hp} {h : Heap} {t za sa : Addr} {sz : List Int} {vs : List V} {zs : List Row} (ok : HOk P w H h) (ht : H t = some (.tup [.ref za, .ref sa])) (hz : H za = some (.tup (sz.map V.int))) (hs : H sa = some (.tup vs)) (rr : RowsOf H vs zs) : Reads h (.ref t) (twoPy sz zs) [] := by
  obtain ⟨_, its, r1, hit⟩ := ok t _ ht
  obtain ⟨_, its2, r2, hit2⟩ := ok sa _ hs
  obtain ⟨o, g1, g2, n, g3⟩ := hit
  obtain ⟨o2, k1, k2, n2, k3⟩ := hit2
  refine .tuple g1 g2 g3 ?_
  cases r1 with
  | cons h1 r1 => cases r1 with
    | cons h2 r1 =>
      cases r1
      cases h1
      cases h2
      exact .cons (as := []) (bs := []) (reads_row ok hz) (.cons (as := []) (bs := []) (.tuple k1 k2 k3 (by simpa using reads_rows ok rr r2)) .nil)
/-- ints of one sign -/
def Sm (r : Row) : Prop := ∀ x ∈ r, 0 ≤ x ∧ x ≤ 4
theorem sm_short {r : Row} (h : Sm r) : PyData.leavesShortAll 8 (r.map PyData.int) = true := by
  induction r with
  | nil => rfl
  | cons x r ih =>
    have hx := h x List.mem_cons_self
    have e : x = 0 ∨ x = 1 ∨ x = 2 ∨ x = 3 ∨ x = 4 := by omega
    rw [List.map_cons]
    unfold PyData.leavesShortAll
    rw [ih fun y hy => h y (List.mem_cons_of_mem _ hy), Bool.and_true]
    rcases e with rfl | rfl | rfl | rfl | rfl <;> decide +kernel
theorem sm_show {r : Row} (h : Sm r) : PyData.showableAll (r.map PyData.int) = true := by
  induction r with
  | nil => rfl
  | cons x r ih =>
    have hx := h x List.mem_cons_self
    have e : x = 0 ∨ x = 1 ∨ x = 2 ∨ x = 3 ∨ x = 4 := by omega
    rw [List.map_cons]
    unfold PyData.showableAll
    rw [ih fun y hy => h y (List.mem_cons_of_mem _ hy), Bool.and_true]
    rcases e with rfl | rfl | rfl | rfl | rfl <;> decide +kernel
theorem ints_nodict (r : Row) : PyData.hasDictAll (r.map PyData.int) = false := by
  induction r with
  | nil => rfl
  | cons x r ih => exact ih
theorem ints_depth (r : Row) : PyData.depthAll (r.map PyData.int) = 0 := by
  induction r with
  | nil => rfl
  | cons x r ih => rw [List.map_cons]; unfold PyData.depthAll; rw [ih]; rfl
theorem ints_bulk (r : Row) : PyData.bulkAll (r.map PyData.int) = r.length := by
  induction r with
  | nil => rfl
  | cons x r ih => rw [List.map_cons]; unfold PyData.bulkAll; rw [ih]; show 0 + 1 + r.length = r.length + 1; omega
theorem rows_all {zs : List Row} {n : Nat} (h : ∀ z ∈ zs, Sm z ∧ z.length ≤ n) : PyData.leavesShortAll 8 (zs.map rowPy) = true ∧ PyData.showableAll (zs.map rowPy) = true ∧ PyData.hasDictAll (zs.map rowPy) = false ∧ PyData.depthAll (zs.map rowPy) ≤ 1 ∧ PyData.bulkAll (zs.map rowPy) ≤ (n + 1) * zs.length := by
  induction zs with
  | nil => exact ⟨rfl, rfl, rfl, Nat.zero_le _, Nat.zero_le _⟩
  | cons z zs ih =>
    obtain ⟨h1, h2, h3, h4, h5⟩ := ih fun y hy => h y (List.mem_cons_of_mem _ hy)
    obtain ⟨g1, g2⟩ := h z List.mem_cons_self
    rw [List.map_cons]
    refine ⟨?_, ?_, ?_, ?_, ?_⟩
    · show (PyData.leavesShortAll 8 (z.map PyData.int) && PyData.leavesShortAll 8 (zs.map rowPy)) = true
      rw [sm_short g1, h1]
      rfl
    · show (PyData.showableAll (z.map PyData.int) && PyData.showableAll (zs.map rowPy)) = true
      rw [sm_show g1, h2]
      rfl
    · show (PyData.hasDictAll (z.map PyData.int) || PyData.hasDictAll (zs.map rowPy)) = false
      rw [ints_nodict, h3]
      rfl
    · show max (PyData.depthAll (z.map PyData.int) + 1) (PyData.depthAll (zs.map rowPy)) ≤ 1
      rw [ints_depth]
      omega
    · show PyData.bulkAll (z.map PyData.int) + 1 + PyData.bulkAll (zs.map rowPy) ≤ _
      rw [ints_bulk, List.length_cons, Nat.mul_succ]
      omega
theorem call_repr2 {X : Cx} (hg : X.A.guards = some []) (hu : X.A.units + 5 < cLine) : CallR X (.builtin "repr") (fun xs H Q => ∃ (t za sa : Addr) (sz : List Int) (vs : List V) (zs : List Row), xs = [.ref t] ∧ H t = some (.tup [.ref za, .ref sa]) ∧ H za = some (.tup (sz.map V.int)) ∧ H sa = some (.tup vs) ∧ RowsOf H vs zs ∧
    Sm sz ∧ sz.length ≤ 100 ∧ (∀ z ∈ zs, Sm z ∧ z.length ≤ 100) ∧ zs.length ≤ 1000 ∧ Q (.str (twoPy sz zs).shown) H) := by
  intro pins s σ H xs us Q I r h
  obtain ⟨t, za, sa, sz, vs, zs, rfl, ht, hz, hs, rr, s1, s2, s3, s4, q⟩ := h
  cases r with
  | cons h1 r1 =>
    cases r1
    cases h1
    obtain ⟨g1, g2, g3, g4, g5⟩ := rows_all s3
    have e1 : (twoPy sz zs).leavesShort 8 = true := by
      show (PyData.leavesShortAll 8 (sz.map PyData.int) && (PyData.leavesShortAll 8 (zs.map rowPy) && true)) = true
      rw [sm_short s1, g1]
      rfl
    have e2 : (twoPy sz zs).showable = true := by
      show (PyData.showableAll (sz.map PyData.int) && (PyData.showableAll (zs.map rowPy) && true)) = true
      rw [sm_show s1, g2]
      rfl
    have e3 : (twoPy sz zs).hasDict = false := by
      show (PyData.hasDictAll (sz.map PyData.int) || (PyData.hasDictAll (zs.map rowPy) || false)) = false
      rw [ints_nodict, g3]
      rfl
    have e4 : (twoPy sz zs).depth ≤ 3 := by
      show max (PyData.depthAll (sz.map PyData.int) + 1) (max (PyData.depthAll (zs.map rowPy) + 1) 0) + 1 ≤ 3
      rw [ints_depth]
      omega
    have e5 : (twoPy sz zs).bulk ≤ 2 ^ 20 := by
      show PyData.bulkAll (sz.map PyData.int) + 1 + (PyData.bulkAll (zs.map rowPy) + 1 + 0) ≤ 2 ^ 20
      rw [ints_bulk]
      have := Nat.mul_le_mul_left (100 + 1) s4
      omega
    refine repr_of_reads' (reads_two I.hok ht hz hs rr) e2 (fun h => absurd (e3.symm.trans h) Bool.false_ne_true) hg (by omega) (fun b o e => e) (fun h' u tk k => ?_) (PyData.shown_fits_bulk (B := 8) (by decide) (by decide) e1 e5)
    exact ⟨.str _, H, I.kept k, ⟨_, rfl⟩, q⟩
end Bp

set_option Elab.async false
set_option linter.all false
set_option maxRecDepth 100000
set_option maxHeartbeats 4000000
namespace Bp
open PySem PySem.Spec PyProof.Rows L2 Evl
abbrev s_law : Stmt := topS 51
abbrev N_law : List Str := ["_law_script", "_law_deal", "_law_turn", "_law_sizes_here", "_law_states", "_law_others", "_law_rows", "_law_pairs", "_law_rest", "_law_due", "_law_told", "_law_shown", "_law_at", "_law_bad_here", "_law_given", "_law_one", "_law_other", "_law_key", "_law_pair"]
theorem sc_law : FnScope N_law ["_law_script"] (defScope s_law) := ⟨rfl, rfl, rfl, by decide +kernel, rfl, by decide +kernel, by decide +kernel⟩
/-! ### law: rules and the words of its state -/
section
variable {X : Cx} {CX : CXT} {K : PySem.W.Frag} {k : Nat} {f : Addr} {fd : FuncData} {ps ks : List Str} {sp : Sp} {E : XK} {x : Str} {p pos : Pos} {kws : List Keyword} {tk : TA} {g : List Value → List Value → List Value} {gV : List V → List V → List V}
theorem pgLk {es : List Expr} {k : Nat} {pos : Pos} {t : TGs} {n : Nat} (hc : X.calm = true) (q : PGs X es t) (hn : (assignEach es X.env).length = n := by rfl) (hst : (assignEach es X.env).findIdx? (·.1) = none := by rfl) (h : X.K = K := by rfl) : PG X (.Tuple es k pos) (gLst K n t) := h ▸ pg_lst hc q hn hst
/-- f(k = v, ..), nothing by position -/
def tCallK0 (m : Nat) (sp : Sp) (gV : List V → List V → List V) (E : XK) (tk : TA) : TE := fun σ H Q => tk σ H fun zs H2 => zs.length = m ∧ sp (gV [] zs) H2 Q E
theorem pe_callK0 (F : FnOk X.prog X.w X.K X.mg X.base CX k f fd ps sp) (hr : Room k X.A) (hg : Gl X x) (hm : X.mg x = some (.ref f)) (hk : PySem.W.keepIn X.K (.ref f) = true) (hb : KBn X.K fd ps 0 ks g gV) (hx : Passes CX X E)
    (hkw : PK X kws tk) (hall : (backToKw pos (keywordEach kws X.env)).all (·.1.isSome) = true := by rfl) (hks : (backToKw pos (keywordEach kws X.env)).filterMap (·.1) = ks := by rfl)
    (hdb : (x == ("__debug__" : Str)) = false := by decide) (hpl : ((backTo pos (starEach [] X.env)).any (·.1) || (backToKw pos (keywordEach kws X.env)).any (·.1.isNone)) = false := by rfl) :
    PE X (.Call (.Name x p) [] kws pos) (tCallK0 ks.length sp gV E tk) := by
  refine ⟨fun pins s σ H Q I h => ?_⟩
  refine wpAny_Call_Name_kw (ld_glob I hg hm ?_ hdb)
  refine PySem.W.callWith_KW0 (h₀ := X.base) I.ok.mod.kin hk hall ?_ hpl
  refine thn (hkw.run pos pins s σ H _ I h) fun ws s2 ⟨zs, H2, I2, rz, l2, q2⟩ => ⟨I2.kIn, ?_⟩
  rw [hks]
  exact run_fnN (us := []) (vs := []) F hr hb hx I2 .nil rz rfl l2 q2
end
/-- put_together(pairs = .., other = .., one = ..) -/
def rev3 {α : Type} : List α → List α → List α
  | [], [a, b, c] => [c, b, a]
  | _, _ => []
theorem kb_put {K : PySem.W.Frag} {f : Addr} {fd : FuncData} (F : Fun K "put_together" "put_together" s_putTogether f fd) : KBn K fd ["one", "other", "pairs"] 0 ["pairs", "other", "one"] rev3 rev3 := by
  obtain ⟨oc, od, kV, doc, pm, an, cdv, ct, osl, rfl, lk, hcd⟩ := F.ex
  refine ⟨fun s us ws _ l1 l2 => ?_, fun {vs us zs ws} r1 r2 => ?_⟩
  · match us, ws, l1, l2 with
    | [], [a, b, c], _, _ => exact BindsTo.of_eq rfl
  · cases r1 with
    | cons _ _ => cases r2 <;> exact .nil
    | nil =>
      cases r2 with
      | nil => exact .nil
      | cons h1 r2 =>
        cases r2 with
        | nil => exact .nil
        | cons h2 r2 =>
          cases r2 with
          | nil => exact .nil
          | cons h3 r2 =>
            cases r2 with
            | nil => exact .cons h3 (.cons h2 (.cons h1 .nil))
            | cons _ _ => exact .nil
/-! ### a statement between two words of the state -/
def Tr (X : Cx) (s : Stmt) (P Q : L2.St → Hp → Prop) : Prop := ∃ t, PS X s t ∧ ∀ (D : Ends) σ H, P σ H → (∀ σ' H', Q σ' H' → D.nx σ' H') → t D σ H
def Trs (X : Cx) (ss : List Stmt) (P Q : L2.St → Hp → Prop) : Prop := ∃ t, PSs X ss t ∧ ∀ (D : Ends) σ H, P σ H → (∀ σ' H', Q σ' H' → D.nx σ' H') → t D σ H
theorem Trs.one {X : Cx} {s : Stmt} {P Q : L2.St → Hp → Prop} (h : Tr X s P Q) : Trs X [s] P Q := by
  obtain ⟨t, h1, h2⟩ := h
  exact ⟨_, pss_one h1, h2⟩
theorem Trs.cons {X : Cx} {s : Stmt} {ss : List Stmt} {P Q R : L2.St → Hp → Prop} (h : Tr X s P Q) (g : Trs X ss Q R) : Trs X (s :: ss) P R := by
  obtain ⟨t, h1, h2⟩ := h
  obtain ⟨u, g1, g2⟩ := g
  exact ⟨_, pss_cons h1 g1, fun D σ H hp hq => h2 _ σ H hp fun σ' H' q => g2 D σ' H' q hq⟩
/-! ### what the heap tells -/
/-- all stays but tables and dicts -/
def ExL (H H' : Hp) : Prop := ∀ b o, H b = some o → (∀ ps, o ≠ .tbl ps) → (∀ l, o ≠ .dK l) → H' b = some o
theorem ExL.of {H H' : Hp} (e : Ex H H') : ExL H H' := fun b o h _ _ => e b o h
theorem ExL.ofN {H H' : Hp} (e : LamX.ExtN H H') : ExL H H' := fun b o h t _ => e b o h t
theorem ExL.ofT {H H' : Hp} {fd : Addr} (hf : H fd = some (.dK [])) (e : ExT fd H H') : ExL H H' := fun b o h t d => e b o (fun z => by subst z; rw [hf] at h; exact d [] (Option.some.inj h).symm) h t
theorem ExL.trans {H H' H'' : Hp} (e : ExL H H') (f : ExL H' H'') : ExL H H'' := fun b o h t d => f b o (e b o h t d) t d
theorem ExL.refl (H : Hp) : ExL H H := fun _ _ h _ _ => h
theorem IntT.upL {H H' : Hp} {v : V} {r : Row} (h : IntT H v r) (e : ExL H H') : IntT H' v r := let ⟨a, h1, h2⟩ := h; ⟨a, h1, e _ _ h2 (by intro _ z; cases z) (by intro _ z; cases z)⟩
theorem RowsOf.upL {H H' : Hp} {vs : List V} {rs : List Row} (h : RowsOf H vs rs) (e : ExL H H') : RowsOf H' vs rs := Paired.mapP h fun _ _ h => h.upL e
theorem Deal.upL {H H' : Hp} {v : V} (h : Deal H v) (e : ExL H H') : Deal H' v := by
  obtain ⟨d, d0, h1, h2, h3⟩ := h
  exact ⟨d, d0, h1, e _ _ h2 (by intro _ z; cases z) (by intro _ z; cases z), e _ _ h3 (by intro _ z; cases z) (by intro _ z; cases z)⟩
theorem StoreAt.upL {C : Addr} {H H' : Hp} {p fd : Addr} {sz : List Int} {zs : List Row} (S : StoreAt C H p sz zs fd) (e : ExL H H') : StoreAt C H' p sz zs fd := by
  obtain ⟨dx, za, sa, ix, vs, kvs, h1, h2, h3, h4, h5, h6⟩ := S
  exact ⟨dx, za, sa, ix, vs, kvs, e _ _ h1 (by intro _ z; cases z) (by intro _ z; cases z), e _ _ h2 (by intro _ z; cases z) (by intro _ z; cases z), e _ _ h3 (by intro _ z; cases z) (by intro _ z; cases z), h4.upL e, e _ _ h5 (by intro _ z; cases z) (by intro _ z; cases z), h6⟩
/-- sizes and states, in lists -/
structure LA (H : Hp) (z s : Addr) (sz : List Int) (S : List Row) : Prop where
  hz : H z = some (.lst (sz.map V.int))
  hs : ∃ ys, H s = some (.lst ys) ∧ RowsOf H ys S
  ok : StOk sz S
theorem LA.upL {H H' : Hp} {z s : Addr} {sz : List Int} {S : List Row} (h : LA H z s sz S) (e : ExL H H') : LA H' z s sz S :=
  ⟨e _ _ h.hz (by intro _ z; cases z) (by intro _ z; cases z), let ⟨ys, h1, h2⟩ := h.hs; ⟨ys, e _ _ h1 (by intro _ z; cases z) (by intro _ z; cases z), h2.upL e⟩, h.ok⟩
/-- their store -/
def LB (C : Addr) (H : Hp) (p : Addr) (sz : List Int) (S : List Row) : Prop := ∃ zs fd, StoreAt C H p sz zs fd ∧ zs.Nodup ∧ ∀ r, r ∈ zs ↔ r ∈ S
theorem LB.upL {C : Addr} {H H' : Hp} {p : Addr} {sz : List Int} {S : List Row} (h : LB C H p sz S) (e : ExL H H') : LB C H' p sz S := let ⟨zs, fd, h1, h2⟩ := h; ⟨zs, fd, h1.upL e, h2⟩
/-- pairs of keys -/
structure LP (H : Hp) (pl : Addr) (pvs : List V) (ps : List (Nat × Nat)) (sz sy : List Int) : Prop where
  at_ : H pl = some (.lst pvs)
  rP : RowsOf H pvs (pairRows ps)
  hps : ∀ q ∈ ps, q.1 < sz.length ∧ q.2 < sy.length ∧ sz[q.1]? = sy[q.2]?
  n1 : (ps.map (·.1)).Nodup
  n2 : (ps.map (·.2)).Nodup
theorem LP.upL {H H' : Hp} {pl : Addr} {pvs : List V} {ps : List (Nat × Nat)} {sz sy : List Int} (h : LP H pl pvs ps sz sy) (e : ExL H H') : LP H' pl pvs ps sz sy :=
  ⟨e _ _ h.at_ (by intro _ z; cases z) (by intro _ z; cases z), h.rP.upL e, h.hps, h.n1, h.n2⟩
/-- what is to be put together, and the pairs as they are given -/
structure LD (H : Hp) (rl dl g : Addr) (pvs : List V) (ps : List (Nat × Nat)) (sy : List Int) (S T zs : List Row) : Prop where
  hr : H rl = some (.lst ((asInts (restOf sy.length ps)).map V.int))
  hd : ∃ ys, H dl = some (.lst ys) ∧ RowsOf H ys zs
  pm : zs.Perm (putL S T ps (restOf sy.length ps))
  asc : Asc zs
  hg : H g = some (.lst pvs) ∨ H g = some (.tup pvs)
/-- the words of law's state, by how far a turn has come -/
abbrev W0 (T : List (Addr × Str)) (σ : L2.St) (H : Hp) : Prop := ∃ (u0 v2 v3 v4 v5 v6 v7 v8 v9 v10 v11 v12 v13 v14 v15 v16 v17 v18 : Option V) (dv : V), σ = [u0, some dv, v2, v3, v4, v5, v6, v7, v8, v9, v10, v11, v12, v13, v14, v15, v16, v17, v18] ∧ Deal H dv ∧ LamX.Tabs T H
abbrev W1 (T : List (Addr × Str)) (σ : L2.St) (H : Hp) : Prop := ∃ (u0 v2 v7 v8 v9 v10 v11 v12 v13 v14 v15 v16 v17 v18 : Option V) (dv : V) (z s y t : Addr) (sz sy : List Int) (S R : List Row), σ = [u0, some dv, v2, some (.ref z), some (.ref s), some (.ref y), some (.ref t), v7, v8, v9, v10, v11, v12, v13, v14, v15, v16, v17, v18] ∧ Deal H dv ∧ LamX.Tabs T H ∧ LA H z s sz S ∧ LA H y t sy R
abbrev W2 (C : Addr) (T : List (Addr × Str)) (σ : L2.St) (H : Hp) : Prop := ∃ (u0 v2 v7 v8 v9 v10 v11 v12 v13 v14 v17 v18 : Option V) (dv : V) (z s y t p1 p2 : Addr) (sz sy : List Int) (S R : List Row), σ = [u0, some dv, v2, some (.ref z), some (.ref s), some (.ref y), some (.ref t), v7, v8, v9, v10, v11, v12, v13, v14, some (.ref p1), some (.ref p2), v17, v18] ∧ Deal H dv ∧ LamX.Tabs T H ∧ LA H z s sz S ∧ LA H y t sy R ∧ LB C H p1 sz S ∧ LB C H p2 sy R
abbrev W3 (C : Addr) (T : List (Addr × Str)) (σ : L2.St) (H : Hp) : Prop := ∃ (u0 v2 v8 v9 v10 v11 v12 v13 v14 v17 v18 : Option V) (dv : V) (z s y t p1 p2 pl : Addr) (sz sy : List Int) (S R : List Row) (pvs : List V) (ps : List (Nat × Nat)), σ = [u0, some dv, v2, some (.ref z), some (.ref s), some (.ref y), some (.ref t), some (.ref pl), v8, v9, v10, v11, v12, v13, v14, some (.ref p1), some (.ref p2), v17, v18] ∧ Deal H dv ∧ LamX.Tabs T H ∧ LA H z s sz S ∧ LA H y t sy R ∧ LB C H p1 sz S ∧ LB C H p2 sy R ∧ LP H pl pvs ps sz sy
abbrev W4 (C : Addr) (T : List (Addr × Str)) (σ : L2.St) (H : Hp) : Prop := ∃ (u0 v2 v9 v10 v11 v12 v13 v14 v17 v18 : Option V) (dv : V) (z s y t p1 p2 pl rl : Addr) (sz sy : List Int) (S R : List Row) (pvs : List V) (ps : List (Nat × Nat)), σ = [u0, some dv, v2, some (.ref z), some (.ref s), some (.ref y), some (.ref t), some (.ref pl), some (.ref rl), v9, v10, v11, v12, v13, v14, some (.ref p1), some (.ref p2), v17, v18] ∧ Deal H dv ∧ LamX.Tabs T H ∧ LA H z s sz S ∧ LA H y t sy R ∧ LB C H p1 sz S ∧ LB C H p2 sy R ∧ LP H pl pvs ps sz sy ∧ H rl = some (.lst ((asInts (restOf sy.length ps)).map V.int))
abbrev W5 (C : Addr) (T : List (Addr × Str)) (σ : L2.St) (H : Hp) : Prop := ∃ (u0 v2 v10 v11 v12 v13 v17 v18 : Option V) (dv : V) (z s y t p1 p2 pl rl dl g : Addr) (sz sy : List Int) (S R zs : List Row) (pvs : List V) (ps : List (Nat × Nat)), σ = [u0, some dv, v2, some (.ref z), some (.ref s), some (.ref y), some (.ref t), some (.ref pl), some (.ref rl), some (.ref dl), v10, v11, v12, v13, some (.ref g), some (.ref p1), some (.ref p2), v17, v18] ∧ Deal H dv ∧ LamX.Tabs T H ∧ LA H z s sz S ∧ LA H y t sy R ∧ LB C H p1 sz S ∧ LB C H p2 sy R ∧ LP H pl pvs ps sz sy ∧ LD H rl dl g pvs ps sy S R zs
end Bp

set_option Elab.async false
set_option linter.all false
set_option maxRecDepth 100000
set_option maxHeartbeats 4000000
namespace Bp
open PySem PySem.Spec PyProof.Rows L2 Evl
def forB : Stmt → List Stmt
  | .For _ _ b _ _ => b
  | _ => []
def lb (i : Nat) : Stmt := (forB ((defBody s_law).getD 1 (.Pass ⟨0, 0, 0, 0⟩))).getD i (.Pass ⟨0, 0, 0, 0⟩)
abbrev LX (P : Program) (w : World) (K : PySem.W.Frag) (mg : Str → Option Value) (base : Heap) (f : Addr) (cdv : Value) (A : Around) (outer : List Env) (s : Shared) (H : Hp) : Cx := (cxOf CX0 P w K mg base N_law "law" (defScope s_law) f cdv A outer s H E0).nox
section
variable {P : Program} {w : World} {K : PySem.W.Frag} {mg : Str → Option Value} {base : Heap} {f : Addr} {cdv : Value} {A : Around} {outer : List Env} {s0 : Shared} {H0 : Hp} {T : List (Addr × Str)}
theorem law0 {fT : Addr} {fdT : FuncData} (hr : Room 13 (LX P w K mg base f cdv A outer s0 H0).A) (D_lawTwoStores : Dn K mg "_law_two_stores" s_lawTwoStores ["_law_deal", "_law_most"] fT fdT) (G_lawTwoStores : FnOk P w K mg base CX0 5 fT fdT ["_law_deal", "_law_most"] spTwo) :
    Tr (LX P w K mg base f cdv A outer s0 H0) (lb 0) (W0 T) (W1 T) := by
  refine ⟨_, ps_asg (pe_call G_lawTwoStores (hr.mono (by decide)) (by rfl) D_lawTwoStores.g D_lawTwoStores.F.kp D_lawTwoStores.b .nil pass0 (pa_cons (pv 1) (pa_cons pe_int pa_nil))) (pgLk (K := K) (n := 2) rfl (pgs_cons (pgTk (K := K) (n := 2) rfl (pgs_cons (pg_name (i := 3) sc_law.nd rfl (Or.inl rfl)) (pgs_cons (pg_name (i := 4) sc_law.nd rfl (Or.inl rfl)) pgs_nil))) (pgs_cons (pgTk (K := K) (n := 2) rfl (pgs_cons (pg_name (i := 5) sc_law.nd rfl (Or.inr rfl)) (pgs_cons (pg_name (i := 6) sc_law.nd rfl (Or.inl rfl)) pgs_nil))) pgs_nil))), ?_⟩
  rintro D σ H ⟨u0, v2, v3, v4, v5, v6, v7, v8, v9, v10, v11, v12, v13, v14, v15, v16, v17, v18, dv, rfl, hd, tb⟩ q
  refine ⟨dv, rfl, dv, rfl, hd, fun p a b H1 np e1 hp ha hb => ?_⟩
  obtain ⟨ta, z, s, sz, ys, S, rfl, a1, a2, a3, a4, a5⟩ := ha
  obtain ⟨tb', y, t, sy, ts, R, rfl, b1, b2, b3, b4, b5⟩ := hb
  refine ⟨p, _, rfl, SqL.of hp, rfl, .ref ta, _, rfl, ⟨ta, _, rfl, SqT.of a1, rfl, .ref z, _, rfl, .ref s, _, rfl, rfl, .ref tb', _, rfl, ⟨tb', _, rfl, SqT.of b1, rfl, .ref y, _, rfl, .ref t, _, rfl, rfl, rfl, ?_⟩⟩⟩
  exact q _ _ ⟨_, _, _, _, _, _, _, _, _, _, _, _, _, _, dv, z, s, y, t, sz, sy, S, R, rfl, hd.up e1, tb.ext e1, ⟨a2, ⟨ys, a3, a4⟩, a5⟩, ⟨b2, ⟨ts, b3, b4⟩, b5⟩⟩
/-- a store of drawn states -/
theorem made {C : Addr} {H1 H2 : Hp} {x dx : Addr} {sz : List Int} {S S' zs : List Row} {fd : Addr} (nx : H1 x = none) (ndx : H1 dx = none) (nex : dx ≠ x) (e2 : ∀ b o, b ≠ x → upd (upd H1 dx (.own x)) x (.ins C dx []) b = some o → H2 b = some o) : Ex H1 H2 := fun b o hb => by
  have e9 := (Ex.new (o := .own x) ndx).trans (Ex.new (o := .ins C dx []) (by rw [upd_ne nex.symm]; exact nx))
  exact e2 b o (fun z => by subst z; rw [nx] at hb; cases hb) (e9 _ _ hb)
theorem law1 {C fI fM : Addr} {fdI fdM : FuncData} (hr : Room 13 (LX P w K mg base f cdv A outer s0 H0).A) (hSt : mg "Store" = some (.ref C)) (MkSt : Mk K C fI) (bSt : Binds K fdI ["self", "sizes", "states"] []) (G_StoreInit : FnOk P w K mg base CX0 5 fI fdI ["self", "sizes", "states"] (spStoreInit C))
    (D_lawMixed : Dn K mg "_law_mixed" s_lawMixed ["_law_deal", "_law_some"] fM fdM) (G_lawMixed : FnOk P w K mg base CX0 2 fM fdM ["_law_deal", "_law_some"] (spMixed K)) :
    Tr (LX P w K mg base f cdv A outer s0 H0) (lb 1) (W1 T) (W2 C T) := by
  have hr6 : Room 6 (LX P w K mg base f cdv A outer s0 H0).A := hr.mono (by decide)
  refine ⟨_, ps_asg (pe_tup (pa_cons (pe_make MkSt G_StoreInit hr6 rfl hSt bSt .nil pass0 (pa_cons (pv 3) (pa_cons (pe_call G_lawMixed (hr.mono (by decide)) (by rfl) D_lawMixed.g D_lawMixed.F.kp D_lawMixed.b .nil pass0 (pa_cons (pv 1) (pa_cons (pv 4) pa_nil))) pa_nil))) (pa_cons (pe_make MkSt G_StoreInit hr6 rfl hSt bSt .nil pass0 (pa_cons (pv 5) (pa_cons (pe_call G_lawMixed (hr.mono (by decide)) (by rfl) D_lawMixed.g D_lawMixed.F.kp D_lawMixed.b .nil pass0 (pa_cons (pv 1) (pa_cons (pv 6) pa_nil))) pa_nil))) pa_nil))) (pgTk (K := K) (n := 2) rfl (pgs_cons (pg_name (i := 15) sc_law.nd rfl (Or.inr rfl)) (pgs_cons (pg_name (i := 16) sc_law.nd rfl (Or.inr rfl)) pgs_nil))), ?_⟩
  rintro D σ H ⟨u0, v2, v7, v8, v9, v10, v11, v12, v13, v14, v15, v16, v17, v18, dv, z, s, y, t, sz, sy, S, R, rfl, hd, tb, a, b⟩ q
  obtain ⟨ss, hs, rS⟩ := a.hs
  obtain ⟨ts, ht, rT⟩ := b.hs
  have one : ∀ {sz : List Int}, SzOk sz → sz.length ≤ 8 := fun h => Nat.le_trans h.len (by decide)
  refine ⟨.ref z, rfl, dv, rfl, .ref s, rfl, dv, s, ss, rfl, hd, hs, rS.data, by have := rS.length; have := a.ok.len; omega, fun p ys H1 np e1 hp pm => fun x dx nx ndx nex => ?_⟩
  obtain ⟨S', pS, rS'⟩ := pairedPerm pm.symm (rS.up e1)
  have e9 := (Ex.new (o := .own x) ndx).trans (Ex.new (o := .ins C dx []) (by rw [upd_ne nex.symm]; exact nx))
  have ls := pS.length_eq
  have as := a.ok.len
  refine ⟨x, dx, .ref z, p, sz, ys, S', rfl, upd_same, .inl ⟨z, rfl, (e1.trans e9) _ _ a.hz⟩, e9 _ _ hp, RowsOf.up rS' e9, a.ok.ok.ne, one a.ok.ok, a.ok.ok.each, fun r h => a.ok.sub r (pS.mem_iff.mpr h), fun e => a.ok.ne (by subst e; exact pS.eq_nil), by omega, fun H2 zs fd e2 nfd hfd hst asc nd mem => ⟨rfl, ?_⟩⟩
  have e02 : Ex H H2 := e1.trans (made (S := S) (S' := S') (zs := zs) (fd := fd) (sz := sz) nx ndx nex e2)
  have lb1 : LB C H2 x sz S := ⟨zs, fd, hst, nd, fun r => (mem r).trans pS.symm.mem_iff⟩
  refine ⟨.ref y, rfl, dv, rfl, .ref t, rfl, dv, t, ts, rfl, hd.up e02, e02 _ _ ht, (rT.up e02).data, by have := rT.length; have := b.ok.len; omega, fun p3 ys3 H3 np3 e3 hp3 pm3 => fun x3 dx3 nx3 ndx3 nex3 => ?_⟩
  obtain ⟨R', pR, rR'⟩ := pairedPerm pm3.symm (rT.up (e02.trans e3))
  have e39 := (Ex.new (o := .own x3) ndx3).trans (Ex.new (o := .ins C dx3 []) (by rw [upd_ne nex3.symm]; exact nx3))
  have ls3 := pR.length_eq
  have as3 := b.ok.len
  refine ⟨x3, dx3, .ref y, p3, sy, ys3, R', rfl, upd_same, .inl ⟨y, rfl, (e02.trans (e3.trans e39)) _ _ b.hz⟩, e39 _ _ hp3, RowsOf.up rR' e39, b.ok.ok.ne, one b.ok.ok, b.ok.ok.each, fun r h => b.ok.sub r (pR.mem_iff.mpr h), fun e => b.ok.ne (by subst e; exact pR.eq_nil), by omega, fun H4 zs4 fd4 e4 nfd4 hfd4 hst4 asc4 nd4 mem4 => ⟨rfl, ?_⟩⟩
  have e24 : Ex H2 H4 := e3.trans (made (S := S) (S' := S') (zs := zs) (fd := fd) (sz := sz) nx3 ndx3 nex3 e4)
  refine ⟨by show 2 ≤ sizeLine; decide, fun u nu => ⟨u, _, rfl, SqT.of upd_same, rfl, .ref x, _, rfl, .ref x3, _, rfl, rfl, ?_⟩⟩
  have e45 := Ex.new (o := .tup [.ref x, .ref x3]) nu
  have eA := e02.trans (e24.trans e45)
  exact q _ _ ⟨_, _, _, _, _, _, _, _, _, _, _, _, dv, z, s, y, t, x, x3, sz, sy, S, R, rfl, hd.up eA, tb.ext eA, a.upL (.of eA), b.upL (.of eA), lb1.upL (.of (e24.trans e45)), LB.upL ⟨zs4, fd4, hst4, nd4, fun r => (mem4 r).trans pR.symm.mem_iff⟩ (.of e45)⟩
theorem law2 {C fP fO : Addr} {fdP fdO : FuncData} (hr : Room 13 (LX P w K mg base f cdv A outer s0 H0).A) (D_lawPairsOf : Dn K mg "_law_pairs_of" s_lawPairsOf ["_law_deal", "_law_sizes_here", "_law_others", "_law_most"] fP fdP) (G_lawPairsOf : FnOk P w K mg base CX0 3 fP fdP ["_law_deal", "_law_sizes_here", "_law_others", "_law_most"] spPairsOf)
    (D_lawOf : Dn K mg "_law_of" s_lawOf ["_law_deal", "_law_some"] fO fdO) (G_lawOf : FnOk P w K mg base CX0 2 fO fdO ["_law_deal", "_law_some"] spOf) : Tr (LX P w K mg base f cdv A outer s0 H0) (lb 2) (W2 C T) (W3 C T) := by
  refine ⟨_, ps_set (i := 7) sc_law.nd rfl (.inr rfl) (pe_call G_lawPairsOf (hr.mono (by decide)) (by rfl) D_lawPairsOf.g D_lawPairsOf.F.kp D_lawPairsOf.b .nil pass0 (pa_cons (pv 1) (pa_cons (pv 3) (pa_cons (pv 5) (pa_cons (pe_call G_lawOf (hr.mono (by decide)) (by rfl) D_lawOf.g D_lawOf.F.kp D_lawOf.b .nil pass0 (pa_cons (pv 1) (pa_cons (pe_lst (pa_cons pe_int (pa_cons pe_int (pa_cons pe_int (pa_cons pe_int (pa_cons pe_int pa_nil)))))) pa_nil))) pa_nil))))), ?_⟩
  rintro D σ H ⟨u0, v2, v7, v8, v9, v10, v11, v12, v13, v14, v17, v18, dv, z, s, y, t, p1, p2, sz, sy, S, R, rfl, hd, tb, a, b, c, d⟩ q
  refine ⟨dv, rfl, .ref z, rfl, .ref y, rfl, dv, rfl, by show 5 ≤ sizeLine; decide, fun l nl => ?_⟩
  have e0 := Ex.new (o := .lst [.int 0, .int 1, .int 1, .int 2, .int 3]) nl
  refine ⟨dv, l, _, rfl, hd.up e0, upd_same, by simp, by simp, fun x H1 e1 hx => ?_⟩
  obtain ⟨m, rfl⟩ : ∃ m : Int, x = .int m := by
    simp only [List.mem_cons, List.not_mem_nil, or_false] at hx
    rcases hx with h | h | h | h | h <;> exact ⟨_, h⟩
  have e01 := e0.trans e1
  refine ⟨dv, z, y, sz, sy, m, rfl, hd.up e01, e01 _ _ a.hz, e01 _ _ b.hz, Nat.le_trans a.ok.ok.len (by decide), Nat.le_trans b.ok.ok.len (by decide), fun p pvs ps H2 np e2 hp rP hps n1 n2 => ?_⟩
  have e02 := e01.trans e2
  exact q _ _ ⟨_, _, _, _, _, _, _, _, _, _, _, dv, z, s, y, t, p1, p2, p, sz, sy, S, R, pvs, ps, rfl, hd.up e02, tb.ext e02, a.upL (.of e02), b.upL (.of e02), c.upL (.of e02), d.upL (.of e02), ⟨hp, rP, hps, n1, n2⟩⟩
end
end Bp

set_option Elab.async false
set_option linter.all false
set_option maxRecDepth 100000
set_option maxHeartbeats 4000000
namespace Bp
open PySem PySem.Spec PyProof.Rows L2 Evl
section
variable {P : Program} {w : World} {K : PySem.W.Frag} {mg : Str → Option Value} {base : Heap} {f : Addr} {cdv : Value} {A : Around} {outer : List Env} {s0 : Shared} {H0 : Hp} {T : List (Addr × Str)}
theorem law3 {C : Addr} (hr : Room 13 (LX P w K mg base f cdv A outer s0 H0).A) (B : Blt mg) : Tr (LX P w K mg base f cdv A outer s0 H0) (lb 3) (W3 C T) (W4 C T) := by
  refine ⟨_, ps_setLc (i := 8) (own := [("_law_key", 17)]) rfl sc_law.nd rfl rfl (sw_true rfl rfl rfl (by decide +kernel)) (pi_range1 (by rfl) B.range (pa_cons (pe_callB (lenk (K := K)) (by rfl) B.len bt_len (pa_cons (pv 5) pa_nil)) pa_nil)) (blkOk_by (show blkC N_law (defScope s_law) _ _ = true by decide +kernel)) (fun _ _ _ _ _ => (pg_name (i := 17) sc_law.nd rfl (Or.inr rfl))) (fun _ _ _ _ _ => (pts_one (pt_cmpR (eqDk hr.units (K := K)) (lck (own := [("_law_pair", 18)]) rfl sc_law.nd (by kernel_rfl) (piLk (K := K) (pv 7)) (fun _ _ _ _ _ => (pg_name (i := 18) sc_law.nd rfl (Or.inl rfl))) (fun _ _ _ _ _ => (pts_one (pt_cmpR op_eq (pe_ix (ixTk (K := K)) (pv 18) pe_int (fun _ _ => rfl)) (pv 17) (nomark _)))) (fun _ _ _ _ _ => (pv 18))) (pe_lst pa_nil) (nomark _)))) (fun _ _ _ _ _ => (pv 17)), ?_⟩
  rintro D σ H ⟨u0, v2, v8, v9, v10, v11, v12, v13, v14, v17, v18, dv, z, s, y, t, p1, p2, pl, sz, sy, S, R, pvs, ps, rfl, hd, tb, a, b, c, d, lp⟩ q
  have y4 := b.ok.ok.len
  refine ⟨.ref y, rfl, _, sy.length, rfl, .inl ⟨_, SqL.of b.hz, by rw [List.length_map]⟩, sy.length, rfl, by omega, by omega, fun rl nrl => ?_⟩
  have pl1 := pairs_len lp.rP
  have p4 : ps.length ≤ 4 := by
    have := nodup_le lp.n1 fun k hk => by
      obtain ⟨p, hp, rfl⟩ := List.mem_map.mp hk
      exact (lp.hps p hp).1
    have h4 := a.ok.ok.len
    rw [List.length_map] at this
    omega
  refine lcR (σ := [u0, some dv, v2, some (.ref z), some (.ref s), some (.ref y), some (.ref t), some (.ref pl), v8, v9, v10, v11, v12, v13, v14, some (.ref p1), some (.ref p2), v17, v18]) (n := ((sy.length : Nat) : Int).toNat) (fun k acc _ => acc = (asInts ((List.range k).filter fun j => decide (j ∉ ps.map fun p => p.2))).map V.int) nrl (fun _ _ _ _ _ _ _ _ _ h => h) rfl (fun _ _ h => h) (by omega) ?_ ?_
  · rintro k hk acc H1 Cy Cn e1 racc cy cn
    rw [Int.zero_add]
    have hpl := e1 _ _ lp.at_
    refine ⟨rfl, .ref pl, rfl, pl, rfl, ⟨_, SqL.of hpl⟩, fun D2 nD2 => ?_⟩
    refine lcL (σ := [u0, some dv, v2, some (.ref z), some (.ref s), some (.ref y), some (.ref t), some (.ref pl), v8, v9, v10, v11, v12, v13, v14, some (.ref p1), some (.ref p2), some (.int (k : Int)), v18]) (xs := pvs) (fun j acc H' => RowsOf H' acc (pairRows ((ps.take j).filter fun p => p.2 == k))) nD2 (fun _ _ _ _ _ _ _ _ hl h => h.wr hl) .nil (fun _ _ _ => .nil) (SqL.of hpl) (by omega) ?_ ?_
    · rintro j x hx acc2 H5 Cy2 Cn2 e5 racc2 cy2 cn2
      obtain ⟨p, hp, hxp⟩ := pairRow lp.rP hx
      obtain ⟨xa, rfl, hxa⟩ := hxp.up (e1.trans e5)
      refine ⟨rfl, .ref xa, rfl, xa, [.int (p.1 : Int), .int (p.2 : Int)], 1, .int (p.2 : Int), rfl, rfl, SqT.of hxa, rfl, .int (k : Int), rfl, rfl, _, rfl, ifE (fun c3 => ?_) (fun c3 => ?_)⟩
      · have c4 := eqI c3
        refine ⟨.ref xa, rfl, cy2 _ _ (Ex.refl _) ?_⟩
        show RowsOf _ (acc2 ++ [_]) _
        rw [filterTake (fun p : Nat × Nat => p.2 == k) hp, if_pos (by simp; omega)]
        unfold pairRows at racc2 ⊢
        rw [List.map_append]
        exact racc2.snoc ⟨xa, rfl, hxa⟩
      · have c4 := neI c3
        refine cn2 _ (Ex.refl _) ?_
        show RowsOf _ acc2 _
        rw [filterTake (fun p : Nat × Nat => p.2 == k) hp, if_neg (by simp; omega), List.append_nil]
        exact racc2
    · rintro acc2 H5 e5 hD2 racc2 _
      rw [pl1, List.take_length] at racc2
      refine ⟨Nat.zero_le _, fun p np => ?_⟩
      have e6 := Ex.new (o := .lst []) np
      have hl2 := pairs_len racc2
      have key : acc2.isEmpty = decide (k ∉ ps.map fun p => p.2) := by
        rw [Bool.eq_iff_iff, List.isEmpty_iff_length_eq_zero, hl2, List.length_eq_zero_iff, List.filter_eq_nil_iff, decide_eq_true_iff]
        constructor
        · intro h hm
          obtain ⟨p, hp, e⟩ := List.mem_map.mp hm
          exact h p hp (by simpa using e)
        · intro h p hp e
          exact h (List.mem_map.mpr ⟨p, hp, by simpa using e⟩)
      refine eqNil (SqL.of (e6 _ _ hD2)) (racc2.up e6).data upd_same ⟨_, rfl, ifE (fun c3 => ?_) (fun c3 => cn _ (e5.trans e6) ?_)⟩
      · refine ⟨.int (k : Int), rfl, cy _ _ (e5.trans e6) ?_⟩
        show acc ++ [_] = _
        rw [key] at c3
        rw [rangeFilter, if_pos c3, racc]
        simp [asInts]
      · show acc = _
        rw [key] at c3
        rw [rangeFilter, if_neg (by rw [c3]; exact Bool.false_ne_true), List.append_nil]
        exact racc
  · rintro acc H1 e1 hrl racc _
    have e2 : ((sy.length : Nat) : Int).toNat = sy.length := by omega
    rw [e2] at racc
    subst racc
    exact q _ _ ⟨_, _, _, _, _, _, _, _, _, _, dv, z, s, y, t, p1, p2, pl, rl, sz, sy, S, R, pvs, ps, rfl, hd.up e1, tb.ext e1, a.upL (.of e1), b.upL (.of e1), c.upL (.of e1), d.upL (.of e1), lp.upL (.of e1), hrl⟩
theorem law4 {C fP fA : Addr} {fdP fdA : FuncData} (hr : Room 13 (LX P w K mg base f cdv A outer s0 H0).A) (B : Blt mg) (D_lawPut : Dn K mg "_law_put" s_lawPut ["_law_states", "_law_rows", "_law_pairs", "_law_rest"] fP fdP) (G_lawPut : FnOk P w K mg base CX0 1 fP fdP ["_law_states", "_law_rows", "_law_pairs", "_law_rest"] spPut)
    (D_lawAny : Dn K mg "_law_any" s_lawAny ["_law_deal", "_law_bound"] fA fdA) (G_lawAny : FnOk P w K mg base CX0 1 fA fdA ["_law_deal", "_law_bound"] spAny) : Tr (LX P w K mg base f cdv A outer s0 H0) (lb 4) (W4 C T) (W5 C T) := by
  refine ⟨_, ps_asg (pe_tup (pa_cons (pe_call G_lawPut (hr.mono (by decide)) (by rfl) D_lawPut.g D_lawPut.F.kp D_lawPut.b .nil pass0 (pa_cons (pv 4) (pa_cons (pv 6) (pa_cons (pv 7) (pa_cons (pv 8) pa_nil))))) (pa_cons (pe_ifExp (pt_cmpR op_eq (pe_call G_lawAny (hr.mono (by decide)) (by rfl) D_lawAny.g D_lawAny.F.kp D_lawAny.b .nil pass0 (pa_cons (pv 1) (pa_cons pe_int pa_nil))) pe_int (nomark _)) (pv 7) (pe_callTy (tupOfk (K := K)) (by rfl) B.tuple bt_tuple (pa_cons (pv 7) pa_nil))) pa_nil))) (pgTk (K := K) (n := 2) rfl (pgs_cons (pg_name (i := 9) sc_law.nd rfl (Or.inl rfl)) (pgs_cons (pg_name (i := 14) sc_law.nd rfl (Or.inr rfl)) pgs_nil))), ?_⟩
  rintro D σ H ⟨u0, v2, v9, v10, v11, v12, v13, v14, v17, v18, dv, z, s, y, t, p1, p2, pl, rl, sz, sy, S, R, pvs, ps, rfl, hd, tb, a, b, c, d, lp, hrl⟩ q
  obtain ⟨ss, hs, rS⟩ := a.hs
  obtain ⟨ts, ht, rT⟩ := b.hs
  have z4 := a.ok.ok.len
  have y4 := b.ok.ok.len
  have zp := List.length_pos_iff.mpr a.ok.ok.ne
  have p4 : ps.length ≤ 4 := by
    have := nodup_le lp.n1 fun k hk => by
      obtain ⟨p, hp, rfl⟩ := List.mem_map.mp hk
      exact (lp.hps p hp).1
    rw [List.length_map] at this
    omega
  have rl4 := rest_len (m := sy.length) (ps := ps)
  refine ⟨.ref s, rfl, .ref t, rfl, .ref pl, rfl, .ref rl, rfl, s, t, pl, rl, ss, ts, pvs, S, R, ps, restOf sy.length ps, sz.length, sy.length, rfl, hs, rS, ht, rT, lp.at_, lp.rP, hrl, by omega, by omega, fun r h => ⟨(a.ok.sub r h).len, (a.ok.sub r h).bd a.ok.ok⟩, fun r h => ⟨(b.ok.sub r h).len, (b.ok.sub r h).bd b.ok.ok⟩, a.ok.len, b.ok.len, by omega, by omega, fun p hp => ⟨(lp.hps p hp).1, (lp.hps p hp).2.1⟩, rest_lt, fun dl ys zs H1 ndl e1 hdl rz pm asc => ?_⟩
  have fin : ∀ g H3, Ex H1 H3 → (H3 g = some (.lst pvs) ∨ H3 g = some (.tup pvs)) → (∀ u, H3 u = none → D.nx (((([u0, some dv, v2, some (.ref z), some (.ref s), some (.ref y), some (.ref t), some (.ref pl), some (.ref rl), v9, v10, v11, v12, v13, v14, some (.ref p1), some (.ref p2), v17, v18] : L2.St).set 9 (some (.ref dl))).set 14 (some (.ref g)))) (upd H3 u (.tup [.ref dl, .ref g]))) := fun g H3 e3 hg u nu => by
    have e45 := Ex.new (o := .tup [.ref dl, .ref g]) nu
    have eA := (e1.trans e3).trans e45
    exact q _ _ ⟨_, _, _, _, _, _, _, _, dv, z, s, y, t, p1, p2, pl, rl, dl, g, sz, sy, S, R, zs, pvs, ps, rfl, hd.up eA, tb.ext eA, a.upL (.of eA), b.upL (.of eA), c.upL (.of eA), d.upL (.of eA), lp.upL (.of eA), ⟨eA _ _ hrl, ⟨ys, (e3.trans e45) _ _ hdl, rz.up (e3.trans e45)⟩, pm, asc, hg.imp (e45 _ _) (e45 _ _)⟩⟩
  refine ⟨dv, rfl, dv, 2, rfl, hd.up e1, by omega, by omega, fun k H2 e2 _ _ => ⟨rfl, _, rfl, ifE (fun _ => ?_) (fun _ => ?_)⟩⟩
  · refine ⟨.ref pl, rfl, by show 2 ≤ sizeLine; decide, fun u nu => ⟨u, _, rfl, SqT.of upd_same, rfl, .ref dl, _, rfl, .ref pl, _, rfl, rfl, ?_⟩⟩
    exact fin pl H2 e2 (.inl ((e1.trans e2) _ _ lp.at_)) u nu
  · refine ⟨.ref pl, rfl, pl, pvs, rfl, .inl ⟨SqL.of ((e1.trans e2) _ _ lp.at_), fun g ng => ⟨by show 2 ≤ sizeLine; decide, fun u nu => ⟨u, _, rfl, SqT.of upd_same, rfl, .ref dl, _, rfl, .ref g, _, rfl, rfl, ?_⟩⟩⟩⟩
    exact fin g _ (e2.trans (Ex.new ng)) (.inr upd_same) u nu
end
end Bp

set_option Elab.async false
set_option linter.all false
set_option maxRecDepth 100000
set_option maxHeartbeats 4000000
namespace Bp
open PySem PySem.Spec PyProof.Rows L2 Evl
/-! ### law: what is put together, refused or told -/
def ifB : Stmt → List Stmt
  | .If _ b _ _ => b
  | _ => []
def ifO : Stmt → List Stmt
  | .If _ _ o _ => o
  | _ => []
/-- the class Store, as isinstance asks for it -/
structure ClsIs (K : PySem.W.Frag) (C : Addr) : Prop where
  cl : Cls K C
  ha : PySem.W.findIn K (.ref C) "__class__" = some (some (.builtin "object.__class__"))
  hn : PySem.W.specialIn K (.builtin "object.__class__") "__get__" = some (some (.builtin "getset_descriptor.__get__"))
  ht : PySem.W.takesIn K (.builtin "object.__class__") = some true
  hm : PySem.W.mroIn K C (.type "object") = some true
theorem kit_self {K : PySem.W.Frag} {C : Addr} : PySem.W.kitOne K (.ref C) (.ref C) = some true := by
  unfold PySem.W.kitOne
  rw [if_pos (by simp)]
/-- _law_refusal and what its handlers name -/
structure RefK (K : PySem.W.Frag) (mg : Str → Option Value) (g CQ CL CS CR : Addr) (fdR : FuncData) : Prop where
  D : Dn K mg "_law_refusal" s_lawRefusal ["_law_work"] g fdR
  TQ : ErrT K mg "InvalidQuestion" CQ
  TL : ErrT K mg "InvalidLot" CL
  TS : ErrT K mg "InvalidState" CS
  TR : ErrT K mg "Refused" CR
  l1 : PySem.W.exmOne K (.ref CL) (.ref CQ) = some false
  l2 : PySem.W.exmOne K (.ref CL) (.ref CL) = some true
  r1 : PySem.W.exmOne K (.ref CR) (.ref CQ) = some false
  r2 : PySem.W.exmOne K (.ref CR) (.ref CL) = some false
  r3 : PySem.W.exmOne K (.ref CR) (.ref CS) = some false
  r4 : PySem.W.exmOne K (.ref CR) (.ref CR) = some true
/-- the code of law and its table -/
structure LawT (base : Heap) (mg : Str → Option Value) (cdv : Value) (T : List (Addr × Str)) (c P0 : Addr) : Prop where
  code : cdv = .ref c
  TB : LamX.TabB base mg c P0
  hm : (P0, (("law" : Str) ++ ".<locals>.") ++ "<lambda>") ∈ T
  hu : ∀ p ∈ T, p.1 = P0 → p.2 = (("law" : Str) ++ ".<locals>.") ++ "<lambda>"
theorem neSame {K : PySem.W.Frag} {H : Hp} {a b : Addr} {x : Str} {i : Int} {Q : VK} (hx : PyData.strOk x = true) (ha : H a = some (.tup [.str x, .int i])) (hb : H b = some (.tup [.str x, .int i])) (q : Q (.bl false) H) : rNeD K (.ref a) (.ref b) H Q := by
  refine ⟨.tuple [.str x, .int i], .tuple [.str x, .int i], .tup (SqT.of ha) (.cons (.str x) (.cons (.int i) .nil)), .tup (SqT.of hb) (.cons (.str x) (.cons (.int i) .nil)), ?_, ?_, ?_⟩
  · unfold SeqAt.shaped
    simp [PyData.canLay0, PyData.canLayAll0, PyData.depth, PyData.depthAll, hx]
  · unfold SeqAt.shaped
    simp [PyData.canLay0, PyData.canLayAll0, PyData.depth, PyData.depthAll, hx]
  · have e : PyData.eqv (.tuple [.str x, .int i]) (.tuple [.str x, .int i]) = true := by simp [PyData.eqv, PyData.eqvAll]
    rw [e]
    exact q
theorem putL_iff {S R z1 z2 : List Row} {ps : List (Nat × Nat)} {rest : List Nat} (m1 : ∀ r, r ∈ z1 ↔ r ∈ S) (m2 : ∀ r, r ∈ z2 ↔ r ∈ R) (z : Row) : z ∈ putL z1 z2 ps rest ↔ z ∈ putL S R ps rest := by
  rw [mem_putL, mem_putL]
  simp only [m1, m2]
theorem nil_iff {α : Type} {l m : List α} (h : ∀ x, x ∈ l ↔ x ∈ m) : l = [] ↔ m = [] := by
  rw [List.eq_nil_iff_forall_not_mem, List.eq_nil_iff_forall_not_mem]
  exact ⟨fun g x hx => g x ((h x).mpr hx), fun g x hx => g x ((h x).mp hx)⟩
theorem few_of {S z1 : List Row} (nd : z1.Nodup) (m1 : ∀ r, r ∈ z1 ↔ r ∈ S) (h : S.length ≤ 6) : z1.length ≤ 6 := Nat.le_trans (List.Nodup.length_le_of_subset nd fun r hr => (m1 r).mp hr) h
theorem LP.few {H : Hp} {pl : Addr} {pvs : List V} {ps : List (Nat × Nat)} {sz sy : List Int} (lp : LP H pl pvs ps sz sy) (h : sz.length ≤ 4) : ps.length ≤ 4 := by
  have := nodup_le lp.n1 fun k hk => by
    obtain ⟨p, hp, rfl⟩ := List.mem_map.mp hk
    exact (lp.hps p hp).1
  rw [List.length_map] at this
  omega
/-- the law's stores and pairs, as put_together gets them -/
theorem putIn_of {C : Addr} {H : Hp} {p1 p2 g z s y t pl f1 f2 : Addr} {sz sy : List Int} {S R z1 z2 : List Row} {pvs : List V} {ps : List (Nat × Nat)} (a : LA H z s sz S) (b : LA H y t sy R) (lp : LP H pl pvs ps sz sy) (hg : H g = some (.lst pvs) ∨ H g = some (.tup pvs))
    (S1 : StoreAt C H p1 sz z1 f1) (n1 : z1.Nodup) (m1 : ∀ r, r ∈ z1 ↔ r ∈ S) (S2 : StoreAt C H p2 sy z2 f2) (n2 : z2.Nodup) (m2 : ∀ r, r ∈ z2 ↔ r ∈ R) : PutIn C H p1 p2 g sz sy z1 z2 pvs ps where
  s1 := ⟨f1, S1⟩
  s2 := ⟨f2, S2⟩
  at_ := hg
  rP := lp.rP
  hps := lp.hps
  n1 := lp.n1
  n2 := lp.n2
  p100 := Nat.le_trans (lp.few a.ok.ok.len) (by decide)
  zOk := a.ok.ok
  yOk := b.ok.ok
  r1 := fun r h => a.ok.sub r ((m1 r).mp h)
  r2 := fun r h => b.ok.sub r ((m2 r).mp h)
  l1 := few_of n1 m1 a.ok.len
  l2 := few_of n2 m2 b.ok.len
/-- as W5, with what is known of the rows put together -/
abbrev W5p (ok : List Row → Prop) (C : Addr) (T : List (Addr × Str)) (σ : L2.St) (H : Hp) : Prop := ∃ (u0 v2 v10 v11 v12 v13 v17 v18 : Option V) (dv : V) (z s y t p1 p2 pl rl dl g : Addr) (sz sy : List Int) (S R zs : List Row) (pvs : List V) (ps : List (Nat × Nat)), σ = [u0, some dv, v2, some (.ref z), some (.ref s), some (.ref y), some (.ref t), some (.ref pl), some (.ref rl), some (.ref dl), v10, v11, v12, v13, some (.ref g), some (.ref p1), some (.ref p2), v17, v18] ∧ Deal H dv ∧ LamX.Tabs T H ∧ LA H z s sz S ∧ LA H y t sy R ∧ LB C H p1 sz S ∧ LB C H p2 sy R ∧ LP H pl pvs ps sz sy ∧ LD H rl dl g pvs ps sy S R zs ∧ ok zs
section
variable {P : Program} {w : World} {K : PySem.W.Frag} {mg : Str → Option Value} {base : Heap} {f : Addr} {cdv : Value} {A : Around} {outer : List Env} {s0 : Shared} {H0 : Hp} {T : List (Addr × Str)}
/-- _law_refusal(lambda: ..) within law -/
theorem pe_refusal {g CQ CL CS CR c P0 : Addr} {fdR : FuncData} {params : Arguments} {body : Expr} {scope : Scope} {t : XK → TE} {p lpos pos : Pos} (RK : RefK K mg g CQ CL CS CR fdR) (LT : LawT base mg cdv T c P0) (hr : Room 13 (LX P w K mg base f cdv A outer s0 H0).A) (L : LamX.LamS (defScope s_law) scope)
    (hdef : defaultsOf params (LX P w K mg base f cdv A outer s0 H0).env = ([], [])) (hbind : ∀ (q : Str) (cl : List (Str × Addr)) (pm cv ctv : Value), bindArgs (PySem.W.kla_fn "<lambda>" q params body scope cl pm cv ctv) ⟨[], []⟩ = pure [])
    (hbody : ∀ (A' : Around) (outer' : List Env) (s : Shared) (H : Hp) (E : XK) (f' c' : Addr), Room 7 (A'.deeper (LamX.lamEnv (LX P w K mg base f cdv A outer s0 H0) scope s.heap.objs.size f' c')) → PE (LamX.lamCx (LX P w K mg base f cdv A outer s0 H0) A' outer' s H E scope f' c') body (t E)) :
    PE (LX P w K mg base f cdv A outer s0 H0) (.Call (.Name "_law_refusal" p) [.Lambda params body scope lpos] [] pos) (LamX.tLam T (TTref CL CR) t) := by
  obtain ⟨oc, od, kV, doc, pm, an, cdg, ct, osl, rfl, lk, hcd⟩ := RK.D.F.ex
  exact LamX.pe_lamcall (k := 7) (c := c) (P := P0) (Ng := N_lawRefusal) rfl RK.D.g RK.D.F.kp lk hcd RK.D.b sc_lawRefusal rfl (.inl rfl) (refusal_gives RK.TQ RK.TL RK.TS RK.TR RK.l1 RK.l2 RK.r1 RK.r2 RK.r3 RK.r4) LT.TB LT.code LT.hm LT.hu (hr.mono (by decide)) L hdef hbind hbody
theorem law5a {C g CQ CL CS CR c P0 fP : Addr} {fdR fdP : FuncData} (RK : RefK K mg g CQ CL CS CR fdR) (LT : LawT base mg cdv T c P0) (hr : Room 13 (LX P w K mg base f cdv A outer s0 H0).A) (D_putTogether : Dn K mg "put_together" s_putTogether ["one", "other", "pairs"] fP fdP) (G_putRefused : FnOk P w K mg base (L2.CX P w) 7 fP fdP ["one", "other", "pairs"] (spPutRefused C CR)) :
    Trs (LX P w K mg base f cdv A outer s0 H0) (ifB (lb 5)) (W5p (fun zs => zs = []) C T) (W3 C T) := by
  refine ⟨_, pss_one (ps_if (pt_cmpR (neDk hr.units (K := K)) (pe_refusal RK LT hr (LamX.lamS_by (by decide +kernel)) rfl (fun _ _ _ _ _ => rfl) (fun A' outer' s H E f' c' hr2 => pe_call G_putRefused (hr2.mono (by decide)) (by rfl) D_putTogether.g D_putTogether.F.kp D_putTogether.b .nil (passes_call (takes_of rfl rfl rfl rfl) (fun _ _ _ _ h => h)) (pa_cons (pv 15) (pa_cons (pv 16) (pa_cons (pv 14) pa_nil))))) (pe_tup (pa_cons pe_str (pa_cons pe_int pa_nil))) (nomark _)) (pss_one (ps_ret pe_bl)) pss_nil), ?_⟩
  rintro D σ H ⟨u0, v2, v10, v11, v12, v13, v17, v18, dv, z, s, y, t, p1, p2, pl, rl, dl, g, sz, sy, S, R, zs, pvs, ps, rfl, hd, tb, a, b, ⟨z1, f1, S1, n1, m1⟩, ⟨z2, f2, S2, n2, m2⟩, lp, ld, rfl⟩ q
  refine ⟨tb, fun H1 e1 tb1 => ?_⟩
  have eL := ExL.ofN e1
  have hg1 := ld.hg.imp (fun h => eL _ _ h (by intro _ z; cases z) (by intro _ z; cases z)) (fun h => eL _ _ h (by intro _ z; cases z) (by intro _ z; cases z))
  refine ⟨.ref p1, rfl, .ref p2, rfl, .ref g, rfl, p1, p2, g, sz, sy, z1, z2, pvs, ps, rfl, putIn_of (a.upL eL) (b.upL eL) (lp.upL eL) hg1 (S1.upL eL) n1 m1 (S2.upL eL) n2 m2, (nil_iff (putL_iff m1 m2)).mpr (ld.pm.symm.eq_nil), fun d H2 e2 hdd => .inr ⟨rfl, d, .int 0, rfl, hdd, fun u nu => ⟨by show 2 ≤ sizeLine; decide, fun u2 nu2 => ?_⟩⟩⟩
  have e3 := Ex.new (o := .tup [.str "refused", .int 0]) nu
  have e4 := Ex.new (o := .tup [.str "refused", .int 0]) nu2
  refine neSame (by decide +kernel) (e4 _ _ upd_same) upd_same ⟨_, rfl, iteF ?_⟩
  have eA := eL.trans (.of ((e2.trans e3).trans e4))
  exact q _ _ ⟨_, _, _, _, _, _, _, _, _, _, _, dv, z, s, y, t, p1, p2, pl, sz, sy, S, R, pvs, ps, rfl, hd.upL eA, tb1.ext ((e2.trans e3).trans e4), a.upL eA, b.upL eA, ⟨z1, f1, S1.upL eA, n1, m1⟩, ⟨z2, f2, S2.upL eA, n2, m2⟩, lp.upL eA⟩
end
end Bp

set_option Elab.async false
set_option linter.all false
set_option maxRecDepth 100000
set_option maxHeartbeats 4000000
namespace Bp
open PySem PySem.Spec PyProof.Rows L2 Evl
/-! ### law: the store put together -/
/-- a fresh store told -/
def ToldAt (C : Addr) (H : Hp) (q : Addr) (SZ : List Int) (zs : List Row) : Prop := ∃ fd, StoreAt C H q SZ zs fd ∧ H fd = some (.dK [])
theorem ToldAt.up {C : Addr} {H H' : Hp} {q : Addr} {SZ : List Int} {zs : List Row} (h : ToldAt C H q SZ zs) (e : Ex H H') : ToldAt C H' q SZ zs := let ⟨fd, h1, h2⟩ := h; ⟨fd, h1.up e, e _ _ h2⟩
abbrev W5q (C : Addr) (T : List (Addr × Str)) (σ : L2.St) (H : Hp) : Prop := ∃ (u0 v2 v11 v12 v13 v17 v18 : Option V) (dv : V) (z s y t p1 p2 pl rl dl g q : Addr) (sz sy : List Int) (S R zs : List Row) (pvs : List V) (ps : List (Nat × Nat)), σ = [u0, some dv, v2, some (.ref z), some (.ref s), some (.ref y), some (.ref t), some (.ref pl), some (.ref rl), some (.ref dl), some (.ref q), v11, v12, v13, some (.ref g), some (.ref p1), some (.ref p2), v17, v18] ∧ Deal H dv ∧ LamX.Tabs T H ∧ LA H z s sz S ∧ LA H y t sy R ∧ LB C H p1 sz S ∧ LB C H p2 sy R ∧ LP H pl pvs ps sz sy ∧ LD H rl dl g pvs ps sy S R zs ∧ zs ≠ [] ∧ ToldAt C H q (putSizes sz sy (restOf sy.length ps)) zs
theorem LD.upL {H H' : Hp} {rl dl g : Addr} {pvs : List V} {ps : List (Nat × Nat)} {sy : List Int} {S R zs : List Row} (h : LD H rl dl g pvs ps sy S R zs) (e : ExL H H') : LD H' rl dl g pvs ps sy S R zs where
  hr := e _ _ h.hr (by intro _ z; cases z) (by intro _ z; cases z)
  hd := let ⟨ys, h1, h2⟩ := h.hd; ⟨ys, e _ _ h1 (by intro _ z; cases z) (by intro _ z; cases z), h2.upL e⟩
  pm := h.pm
  asc := h.asc
  hg := h.hg.imp (fun h => e _ _ h (by intro _ z; cases z) (by intro _ z; cases z)) (fun h => e _ _ h (by intro _ z; cases z) (by intro _ z; cases z))
/-- what is due, in use -/
theorem due_use {H : Hp} {z s y t pl : Addr} {sz sy : List Int} {S R zs : List Row} {pvs : List V} {ps : List (Nat × Nat)} (a : LA H z s sz S) (b : LA H y t sy R) (lp : LP H pl pvs ps sz sy) (pm : zs.Perm (putL S R ps (restOf sy.length ps))) : InUse (putSizes sz sy (restOf sy.length ps)) zs :=
  due_inUse a.ok b.ok (pm.nodup_iff.mpr (putL_nodup (pairs_ok lp.hps lp.n1 lp.n2) (fun x hx => (a.ok.sub x hx).len) (fun x hx => (b.ok.sub x hx).len) a.ok.nd b.ok.nd)) fun _ => pm.mem_iff
theorem sm_sizes {sz : List Int} (h : ∀ n ∈ sz, 1 ≤ n ∧ n ≤ 4) : Sm sz := fun x hx => by have := h x hx; omega
theorem sm_rows {SZ : List Int} {zs : List Row} (u : InUse SZ zs) : ∀ z ∈ zs, Sm z ∧ z.length ≤ 100 := fun z hz => ⟨fun x hx => by have := u.bd (u.rows z hz) x hx; omega, by rw [(u.rows z hz).len]; have := u.l8; omega⟩
section
variable {P : Program} {w : World} {K : PySem.W.Frag} {mg : Str → Option Value} {base : Heap} {f : Addr} {cdv : Value} {A : Around} {outer : List Env} {s0 : Shared} {H0 : Hp} {T : List (Addr × Str)}
theorem law5b1 {C fP : Addr} {fdP : FuncData} (hgu : (LX P w K mg base f cdv A outer s0 H0).A.guards = some []) (hr : Room 13 (LX P w K mg base f cdv A outer s0 H0).A) (B : Blt mg) (TX : StTxt K mg C) (CI : ClsIs K C) (hSt : mg "Store" = some (.ref C)) (D_putTogether : Dn K mg "put_together" s_putTogether ["one", "other", "pairs"] fP fdP) (G_putTogether : FnOk P w K mg base CX0 7 fP fdP ["one", "other", "pairs"] (spPutTogether C)) :
    Tr (LX P w K mg base f cdv A outer s0 H0) ((ifO (lb 5)).getD 0 (.Pass ⟨0, 0, 0, 0⟩)) (W5p (fun zs => zs ≠ []) C T) (W5q C T) := by
  have hu5 : (LX P w K mg base f cdv A outer s0 H0).A.units + 5 < cLine := by have := hr.un; omega
  refine ⟨_, ps_for PassesOwn.never rfl (piLk (K := K) (pe_lst (pa_cons (pe_call G_putTogether (hr.mono (by decide)) (by rfl) D_putTogether.g D_putTogether.F.kp D_putTogether.b .nil pass0 (pa_cons (pv 15) (pa_cons (pv 16) (pa_cons (pv 14) pa_nil)))) (pa_cons (pe_callK0 G_putTogether (hr.mono (by decide)) (by rfl) D_putTogether.g D_putTogether.F.kp (kb_put D_putTogether.F) pass0 (pk_cons (pv 14) (pk_cons (pv 16) (pk_cons (pv 15) pk_nil)))) pa_nil)))) (pg_name (i := 10) sc_law.nd rfl (Or.inl rfl))
    (pss_cons (ps_set (i := 11) sc_law.nd rfl (.inl rfl) (pe_tup (pa_cons (pe_callTy (tupOfk (K := K)) (by rfl) B.tuple bt_tuple (pa_cons (pe_op op_cat (pv 3) (lck (own := [("_law_key", 17)]) rfl sc_law.nd (show blkC N_law (defScope s_law) _ _ = true by decide +kernel) (piLk (K := K) (pv 8)) (fun _ _ _ _ _ => (pg_name (i := 17) sc_law.nd rfl (Or.inl rfl))) (fun _ _ _ _ _ => pts_nil) (fun _ _ _ _ _ => (pe_ix (ixLk (K := K)) (pv 5) (pv 17) (fun _ _ => rfl))))) pa_nil)) (pa_cons (pe_callTy (tupOfk (K := K)) (by rfl) B.tuple bt_tuple (pa_cons (pv 9) pa_nil)) pa_nil))))
  (pss_one (ps_if (PW.pt (pw_or (pt_not (pt_val (pe_callB (isik (K := K)) (by rfl) B.isinstance bt_isinstance (pa_cons (pv 10) (pa_cons (pe_glob (v := .ref C) (by rfl) hSt rfl) pa_nil))))) (pw_or1 (pt_cmpR op_ne (pe_callB (call_repr2 hgu hu5) (by rfl) B.repr bt_repr (pa_cons (pe_tup (pa_cons (fldk (K := K) (pv 10)) (pa_cons (fldk (K := K) (pv 10)) pa_nil))) pa_nil)) (pe_callB (call_repr2 hgu hu5) (by rfl) B.repr bt_repr (pa_cons (pv 11) pa_nil)) (nomark _)))))
    (pss_one (ps_ret pe_bl))
    pss_nil))), ?_⟩
  rintro D σ H ⟨u0, v2, v10, v11, v12, v13, v17, v18, dv, z, s, y, t, p1, p2, pl, rl, dl, g, sz, sy, S, R, zs, pvs, ps, rfl, hd, tb, a, b, ⟨z1, f1, S1, n1, m1⟩, ⟨z2, f2, S2, n2, m2⟩, lp, ld, zne⟩ q
  have iu := due_use a b lp ld.pm
  have pne : putL z1 z2 ps (restOf sy.length ps) ≠ [] := fun h => zne (List.perm_nil.mp (((nil_iff (putL_iff m1 m2)).mp h) ▸ ld.pm))
  have same : ∀ {ys : List Row}, Asc ys → ys.Nodup → (∀ r, r ∈ ys ↔ r ∈ putL z1 z2 ps (restOf sy.length ps)) → ys = zs := fun a1 nd mem => due_is a.ok b.ok lp.hps lp.n1 lp.n2 a1 nd mem m1 m2 ld.pm ld.asc
  have PI : ∀ {H'}, Ex H H' → PutIn C H' p1 p2 g sz sy z1 z2 pvs ps := fun {H'} e => putIn_of (a.upL (.of e)) (b.upL (.of e)) (lp.upL (.of e)) (ld.upL (.of e)).hg (S1.up e) n1 m1 (S2.up e) n2 m2
  -- the two stores
  refine ⟨.ref p1, rfl, .ref p2, rfl, .ref g, rfl, p1, p2, g, sz, sy, z1, z2, pvs, ps, rfl, PI (Ex.refl _), pne, fun q1 ys1 fd1 H1 nq1 e1 nfd1 hfd1 hst1 asc1 nd1 mem1 => ?_⟩
  obtain rfl := same asc1 nd1 mem1
  refine ⟨.ref g, rfl, .ref p2, rfl, .ref p1, rfl, rfl, p1, p2, g, sz, sy, z1, z2, pvs, ps, rfl, PI e1, pne, fun q2 ys2 fd2 H2 nq2 e2 nfd2 hfd2 hst2 asc2 nd2 mem2 => ⟨by show 2 ≤ sizeLine; decide, fun l nl => ?_⟩⟩
  obtain rfl := same asc2 nd2 mem2
  have e3 := Ex.new (o := .lst [.ref q1, .ref q2]) nl
  have t1 : ToldAt C (upd H2 l (.lst [.ref q1, .ref q2])) q1 (putSizes sz sy (restOf sy.length ps)) ys2 := ToldAt.up ⟨fd1, hst1, hfd1⟩ (e2.trans e3)
  have t2 : ToldAt C (upd H2 l (.lst [.ref q1, .ref q2])) q2 (putSizes sz sy (restOf sy.length ps)) ys2 := ToldAt.up ⟨fd2, hst2, hfd2⟩ e3
  have hl := upd_same (H := H2) (a := l) (o := .lst [.ref q1, .ref q2])
  have e03 := (e1.trans e2).trans e3
  generalize upd H2 l (.lst [.ref q1, .ref q2]) = H3 at *
  refine ⟨l, rfl, ⟨_, SqL.of hl⟩, for_list (K := K) (a := l) (xs := [.ref q1, .ref q2]) (fun i σ H' => ∃ (v10 v11 : Option V), σ = [u0, some dv, v2, some (.ref z), some (.ref s), some (.ref y), some (.ref t), some (.ref pl), some (.ref rl), some (.ref dl), v10, v11, v12, v13, some (.ref g), some (.ref p1), some (.ref p2), v17, v18] ∧ Ex H3 H' ∧ (0 < i → ∃ q, v10 = some (.ref q) ∧ ToldAt C H3 q (putSizes sz sy (restOf sy.length ps)) ys2)) ?_ ?_ ?_ ?_⟩
  · exact ⟨v10, v11, rfl, Ex.refl _, fun h => absurd h (by omega)⟩
  · rintro i σ H' _ ⟨_, _, _, e, _⟩
    exact SqL.of (e _ _ hl)
  · rintro i x σ H4 hx ⟨w10, w11, rfl, e4, _⟩
    obtain ⟨q0, rfl, tq⟩ : ∃ q, x = .ref q ∧ ToldAt C H3 q (putSizes sz sy (restOf sy.length ps)) ys2 := by
      have hm := List.mem_of_getElem? hx
      simp only [List.mem_cons, List.not_mem_nil, or_false] at hm
      rcases hm with h | h
      · exact ⟨q1, h, t1⟩
      · exact ⟨q2, h, t2⟩
    have e04 := e03.trans e4
    -- shown
    refine ⟨.ref z, rfl, .ref rl, rfl, rl, rfl, ⟨_, SqL.of (e04 _ _ ld.hr)⟩, fun D2 nD2 => ?_⟩
    refine lcL (σ := [u0, some dv, v2, some (.ref z), some (.ref s), some (.ref y), some (.ref t), some (.ref pl), some (.ref rl), some (.ref dl), some (.ref q0), w11, v12, v13, some (.ref g), some (.ref p1), some (.ref p2), v17, v18]) (xs := (asInts (restOf sy.length ps)).map V.int) (fun k acc _ => acc = (onKeys ((restOf sy.length ps).take k) sy).map V.int) nD2 (fun _ _ _ _ _ _ _ _ _ h => h) rfl (fun _ _ h => h) (SqL.of (e04 _ _ ld.hr)) (by rw [ints_len]; have := rest_len (m := sy.length) (ps := ps); have := b.ok.ok.len; omega) ?_ ?_
    · rintro k v hv acc2 H7 Cy Cn e7 racc2 cy _
      obtain ⟨k2, hk2, rfl⟩ := natAt hv
      obtain ⟨u1, hu1, hu2⟩ := rowAt' (a := sy) (k := k2) (rest_lt k2 (List.mem_of_getElem? hk2))
      refine ⟨rfl, tYesE ⟨.ref y, rfl, .int (k2 : Int), rfl, y, _, _, _, rfl, rfl, SqL.of ((e04.trans e7) _ _ b.hz), hu2, cy _ _ (Ex.refl _) ?_⟩⟩
      show acc2 ++ [_] = _
      rw [racc2, take_snoc hk2]
      unfold onKeys
      simp [List.getD_eq_getElem?_getD, hu1]
    · rintro acc2 H7 e7 hD7 racc2 _
      rw [ints_len, List.take_length] at racc2
      have hgl : sz.map V.int ++ acc2 = (putSizes sz sy (restOf sy.length ps)).map V.int := by
        rw [racc2]; unfold putSizes glue; rw [List.map_append]
      have gl8 := iu.l8
      refine ⟨z, D2, sz.map V.int, acc2, rfl, rfl, (e04.trans e7) _ _ a.hz, hD7, by rw [← List.length_append, hgl, List.length_map]; exact Nat.le_trans gl8 (by decide), fun c1 nc1 => ?_⟩
      rw [hgl]
      refine ⟨c1, _, rfl, .inl ⟨SqL.of upd_same, fun c2 nc2 => ?_⟩⟩
      have e8 := (e7.trans (Ex.new nc1)).trans (Ex.new (o := .tup ((putSizes sz sy (restOf sy.length ps)).map V.int)) nc2)
      have hc2 := upd_same (H := upd H7 c1 (.lst ((putSizes sz sy (restOf sy.length ps)).map V.int))) (a := c2) (o := .tup ((putSizes sz sy (restOf sy.length ps)).map V.int))
      generalize upd (upd H7 c1 (.lst ((putSizes sz sy (restOf sy.length ps)).map V.int))) c2 (.tup ((putSizes sz sy (restOf sy.length ps)).map V.int)) = H8 at *
      obtain ⟨ys, hdl, rz⟩ := ld.hd
      refine ⟨.ref dl, rfl, dl, ys, rfl, .inl ⟨SqL.of ((e04.trans e8) _ _ hdl), fun c3 nc3 => ⟨by show 2 ≤ sizeLine; decide, fun c4 nc4 => ?_⟩⟩⟩
      have e9 := (Ex.new (o := .tup ys) nc3).trans (Ex.new (o := .tup [.ref c2, .ref c3]) nc4)
      have hc3 : upd (upd H8 c3 (.tup ys)) c4 (.tup [.ref c2, .ref c3]) c3 = some (.tup ys) := Ex.new nc4 _ _ upd_same
      have hc4 := upd_same (H := upd H8 c3 (.tup ys)) (a := c4) (o := .tup [.ref c2, .ref c3])
      have hc2' := e9 _ _ hc2
      generalize upd (upd H8 c3 (.tup ys)) c4 (.tup [.ref c2, .ref c3]) = H9 at *
      have e49 := e8.trans e9
      obtain ⟨fdq, sq, _⟩ := tq.up (e4.trans e49)
      obtain ⟨d1, za, sa, ix, vs1, kvs1, hp, hz, hs, rz1, _⟩ := id sq
      -- isinstance
      refine ⟨.ref q0, rfl, .ref q0, .ref C, .ref C, .ref C, true, rfl, .own C, .base (.ins hp CI.cl CI.ha CI.hn CI.ht CI.hm), kit_self, ⟨_, rfl, iteF ?_⟩⟩
      -- repr
      refine ⟨.ref q0, rfl, q0, C, d1, _, _, rfl, hp, TX.cl, TX.nZ, sf_sizes, .ref q0, rfl, q0, C, d1, _, _, rfl, hp, TX.cl, TX.nS, sf_states, by show 2 ≤ sizeLine; decide, fun c5 nc5 => ?_⟩
      have e10 := Ex.new (o := .tup [.ref za, .ref sa]) nc5
      refine ⟨c5, za, sa, _, vs1, ys2, rfl, upd_same, e10 _ _ hz, e10 _ _ hs, rz1.up e10, sm_sizes iu.each, by omega, sm_rows iu, by have := iu.few; omega, ?_⟩
      refine ⟨.ref c4, rfl, c4, c2, c3, _, ys, ys2, rfl, e10 _ _ hc4, e10 _ _ hc2', e10 _ _ hc3, rz.up ((e04.trans e49).trans e10), sm_sizes iu.each, by omega, sm_rows iu, by have := iu.few; omega, ?_⟩
      refine ⟨rfl, _, rfl, ifE (fun c => by simp at c) fun _ => ?_⟩
      exact ⟨_, _, rfl, e4.trans (e49.trans e10), fun _ => ⟨q0, rfl, tq⟩⟩
  · rintro σ H4 ⟨w10, w11, rfl, e4, hq⟩
    obtain ⟨q0, rfl, tq⟩ := hq (by simp)
    have e04 := e03.trans e4
    exact q _ _ ⟨_, _, _, _, _, _, _, dv, z, s, y, t, p1, p2, pl, rl, dl, g, q0, sz, sy, S, R, ys2, pvs, ps, rfl, hd.up e04, tb.ext e04, a.upL (.of e04), b.upL (.of e04), ⟨z1, f1, S1.up e04, n1, m1⟩, ⟨z2, f2, S2.up e04, n2, m2⟩, lp.upL (.of e04), ld.upL (.of e04), zne, tq.up e4⟩
end
end Bp

set_option Elab.async false
set_option linter.all false
set_option maxRecDepth 100000
set_option maxHeartbeats 4000000
namespace Bp
open PySem PySem.Spec PyProof.Rows L2 Evl
theorem pt_cut {X : Cx} {c : Expr} {t : TT} (h : PT X c t) : PT X c (fun σ H Q => ∃ M : Bool → Hp → Prop, t σ H M ∧ ∀ b H1, M b H1 → Q b H1) := ⟨fun pins s σ H Q I hw => by
  obtain ⟨M, h1, h2⟩ := hw
  exact thn (h.run pins s σ H M I h1) fun d s1 ⟨H1, I1, q1⟩ => ⟨H1, I1, h2 d H1 q1⟩⟩
section
variable {P : Program} {w : World} {K : PySem.W.Frag} {mg : Str → Option Value} {base : Heap} {f : Addr} {cdv : Value} {A : Around} {outer : List Env} {s0 : Shared} {H0 : Hp} {T : List (Addr × Str)}
theorem law5b2 {C fJ fL : Addr} {fdJ fdL : FuncData} (hr : Room 13 (LX P w K mg base f cdv A outer s0 H0).A) (B : Blt mg) (D_isJoined : Dn K mg "is_joined" s_isJoined ["store"] fJ fdJ) (G_isJoined : FnOk P w K mg base CX0 13 fJ fdJ ["store"] (spIsJoined C T)) (D_lawJoined : Dn K mg "_law_joined" s_lawJoined ["_law_states"] fL fdL) (G_lawJoined : FnOk P w K mg base CX0 3 fL fdL ["_law_states"] spJoined) :
    Tr (LX P w K mg base f cdv A outer s0 H0) ((ifO (lb 5)).getD 1 (.Pass ⟨0, 0, 0, 0⟩)) (W5q C T) (W3 C T) := by
  refine ⟨_, ps_if (PW.pt (pw_and (pt_cut (PW.pt (pw_or (pt_cmpR (eqDk hr.units (K := K)) (pv 7) (pe_lst pa_nil) (nomark _)) (pw_or1 (PW.pt (pw_and (pt_cmpR op_eq (pe_callB (lenk (K := K)) (by rfl) B.len bt_len (pa_cons (pv 7) pa_nil)) pe_int (nomark _)) (pw_and1 (pt_cmpR op_eq (pe_ix (ixLk (K := K)) (pv 3) (pe_ix (ixTk (K := K)) (pe_ix (ixLk (K := K)) (pv 7) pe_int (fun _ _ => rfl)) pe_int (fun _ _ => rfl)) (fun _ _ => rfl)) pe_int (nomark _))))))))) (pw_and (pt_val (pe_call G_lawJoined (hr.mono (by decide)) (by rfl) D_lawJoined.g D_lawJoined.F.kp D_lawJoined.b .nil pass0 (pa_cons (pv 4) pa_nil))) (pw_and1 (pt_val (pe_call G_lawJoined (hr.mono (by decide)) (by rfl) D_lawJoined.g D_lawJoined.F.kp D_lawJoined.b .nil pass0 (pa_cons (pv 6) pa_nil)))))))
    (pss_one (ps_if (PW.pt (pw_or (pt_cmpR op_notBl (pe_call G_isJoined (hr.mono (by decide)) (by rfl) D_isJoined.g D_isJoined.F.kp D_isJoined.b .nil pass0 (pa_cons (pv 10) pa_nil)) pe_bl (nomark _)) (pw_or1 (PW.pt (pw_and (pt_cmpR op_lt (pe_callB (lenk (K := K)) (by rfl) B.len bt_len (pa_cons (pv 9) pa_nil)) pe_int (nomark _)) (pw_and1 (pt_not (pt_val (pe_call G_lawJoined (hr.mono (by decide)) (by rfl) D_lawJoined.g D_lawJoined.F.kp D_lawJoined.b .nil pass0 (pa_cons (pv 9) pa_nil))))))))))
    (pss_one (ps_ret pe_bl))
    pss_nil))
    pss_nil, ?_⟩
  rintro D σ H ⟨u0, v2, v11, v12, v13, v17, v18, dv, z, s, y, t, p1, p2, pl, rl, dl, g, q0, sz, sy, S, R, zs, pvs, ps, rfl, hd, tb, a, b, l1, l2, lp, ld, zne, ⟨fd, st, hfd⟩⟩ q
  have keep : ∀ H', ExL H H' → LamX.Tabs T H' → D.nx [u0, some dv, v2, some (.ref z), some (.ref s), some (.ref y), some (.ref t), some (.ref pl), some (.ref rl), some (.ref dl), some (.ref q0), v11, v12, v13, some (.ref g), some (.ref p1), some (.ref p2), v17, v18] H' := fun H' e tb' =>
    q _ _ ⟨_, _, _, _, _, _, _, _, _, _, _, dv, z, s, y, t, p1, p2, pl, sz, sy, S, R, pvs, ps, rfl, hd.upL e, tb', a.upL e, b.upL e, l1.upL e, l2.upL e, lp.upL e⟩
  have iu := due_use a b lp ld.pm
  obtain ⟨ss, hs, rS⟩ := a.hs
  obtain ⟨ts, ht, rT⟩ := b.hs
  obtain ⟨ys, hdl, rz⟩ := ld.hd
  have z4 := a.ok.ok.len
  have y4 := b.ok.ok.len
  have s6 := a.ok.len
  have t6 := b.ok.len
  have pl1 := pairs_len lp.rP
  refine ⟨fun b H1 => Ex H H1 ∧ (b = true → ps = [] ∨ ∃ k l, ps = [(k, l)] ∧ sz[k]? = some 2), ?_, ?_⟩
  · refine ⟨.ref pl, rfl, Nat.zero_le _, fun e ne => ?_⟩
    have e0 := Ex.new (o := .lst []) ne
    refine eqNil (SqL.of (e0 _ _ lp.at_)) (lp.rP.up e0).data upd_same ⟨_, rfl, ifE (fun c1 => ⟨e0, fun _ => .inl ?_⟩) (fun _ => ?_)⟩
    · rw [List.isEmpty_iff_length_eq_zero, pl1, List.length_eq_zero_iff] at c1
      exact c1
    · refine ⟨.ref pl, rfl, _, pvs.length, rfl, .inl ⟨_, SqL.of (e0 _ _ lp.at_), rfl⟩, rfl, _, rfl, ifE (fun c2 => ?_) (fun _ => ⟨e0, fun h => absurd h Bool.false_ne_true⟩)⟩
      have c2' := eqI c2
      obtain ⟨⟨k, l⟩, rfl⟩ : ∃ p, ps = [p] := List.length_eq_one_iff.mp (by omega)
      obtain ⟨v, rfl⟩ : ∃ v, pvs = [v] := List.length_eq_one_iff.mp (by omega)
      obtain ⟨va, rfl, hva⟩ : IntT H v [(k : Int), (l : Int)] := by
        cases lp.rP with
        | cons h _ => exact h
      obtain ⟨hk, hl, hkl⟩ := lp.hps (k, l) List.mem_cons_self
      obtain ⟨n1, hn1, hn2⟩ := rowAt' (a := sz) (k := k) hk
      refine ⟨.ref z, rfl, .ref pl, rfl, pl, [.ref va], 0, .ref va, rfl, rfl, SqL.of (e0 _ _ lp.at_), rfl, va, [.int (k : Int), .int (l : Int)], 0, .int (k : Int), rfl, rfl, SqT.of (e0 _ _ hva), rfl, z, _, _, _, rfl, rfl, SqL.of (e0 _ _ a.hz), hn2, rfl, _, rfl, e0, fun c3 => .inr ⟨k, l, rfl, ?_⟩⟩
      rw [hn1, eqI c3]
  · rintro b1 H1 ⟨e1, hc⟩
    refine ifE (fun c1 => ?_) (fun _ => iteF (keep _ (.of e1) (tb.ext e1)))
    have cc := hc c1
    refine ⟨.ref s, rfl, s, ss, S, sz.length, rfl, e1 _ _ hs, rS.up e1, fun r h => (a.ok.sub r h).len, by omega, by omega, fun b2 H2 e2 hb2 => ⟨_, rfl, ifE (fun c2 => ?_) (fun _ => iteF (keep _ (.of (e1.trans e2)) (tb.ext (e1.trans e2))))⟩⟩
    have e02 := e1.trans e2
    refine ⟨.ref t, rfl, t, ts, R, sy.length, rfl, e02 _ _ ht, rT.up e02, fun r h => (b.ok.sub r h).len, by omega, by omega, fun b3 H3 e3 hb3 => ⟨_, rfl, ifE (fun c3 => ?_) (fun _ => keep _ (.of (e02.trans e3)) (tb.ext (e02.trans e3)))⟩⟩
    have e03 := e02.trans e3
    have jo : Joined fun r => r ∈ zs := due_joined a.ok b.ok lp.hps (fun _ => ld.pm.mem_iff) cc (hb2.mp c2) (hb3.mp c3)
    refine ⟨.ref q0, rfl, q0, fd, _, zs, rfl, st.up e03, iu, e03 _ _ hfd, tb.ext e03, jo, fun H4 e4 tb4 => ⟨true, true, rfl, rfl, _, rfl, iteF ?_⟩⟩
    have e04 : ExL H H4 := (ExL.of e03).trans (ExL.ofT (e03 _ _ hfd) e4)
    have hdl4 := e04 _ _ hdl (by intro _ z; cases z) (by intro _ z; cases z)
    refine ⟨.ref dl, rfl, _, ys.length, rfl, .inl ⟨_, SqL.of hdl4, rfl⟩, _, _, rfl, rfl, _, rfl, ifE (fun _ => ?_) (fun _ => iteF (keep _ e04 tb4))⟩
    have f6 := iu.few
    have l8 := iu.l8
    refine ⟨.ref dl, rfl, dl, ys, zs, _, rfl, hdl4, rz.upL e04, fun r h => (iu.rows r h).len, by omega, by omega, fun b5 H5 e5 hb5 => ⟨_, rfl, ?_⟩⟩
    obtain rfl := hb5.mpr jo
    exact iteF (keep _ (e04.trans (.of e5)) (tb4.ext e5))
end
end Bp

set_option Elab.async false
set_option linter.all false
set_option maxRecDepth 100000
set_option maxHeartbeats 4000000
namespace Bp
open PySem PySem.Spec PyProof.Rows L2 Evl
theorem Odd.upN {H H' : Hp} {sz sy : List Int} {prev : List (Nat × Nat)} {x : V} (h : Odd H sz sy prev x) (e : LamX.ExtN H H') : Odd H' sz sy prev x := by
  cases h with
  | non => exact .non
  | lst a xs h => exact .lst a xs (e _ _ h (by intro _ z; cases z))
  | len a xs h h2 h3 => exact .len a xs (e _ _ h (by intro _ z; cases z)) h2 h3
  | fst a u v h h2 => exact .fst a u v (e _ _ h (by intro _ z; cases z)) h2
  | snd a k v h h2 h3 => exact .snd a k v (e _ _ h (by intro _ z; cases z)) h2 h3
  | size a k l h h2 h3 h4 => exact .size a k l (e _ _ h (by intro _ z; cases z)) h2 h3 h4
  | twice a k l p h h2 h3 h4 h5 => exact .twice a k l p (e _ _ h (by intro _ z; cases z)) h2 h3 h4 h5
theorem NoSeq.upN {H H' : Hp} {x : V} (h : NoSeq H x) (e : LamX.ExtN H H') : NoSeq H' x := by
  cases h with
  | non => exact .non
  | int k => exact .int k
  | str z => exact .str z
  | bl b => exact .bl b
  | dict a h => exact .dict a (e _ _ h (by intro _ z; cases z))
/-- what is no list of pairs, and its number -/
def BadX (H : Hp) (pvs : List V) (ps : List (Nat × Nat)) (sz sy : List Int) (x : V) (at' : Nat) : Prop :=
  (NoSeq H x ∧ at' = 0) ∨ ∃ (l : Addr) (y : V) (more : List V), x = .ref l ∧ at' ≤ ps.length ∧ H l = some (.lst (pvs.take at' ++ [y] ++ more)) ∧ Odd H sz sy (ps.take at') y ∧ more.length ≤ 10
theorem BadX.up {H H' : Hp} {pvs : List V} {ps : List (Nat × Nat)} {sz sy : List Int} {x : V} {at' : Nat} (h : BadX H pvs ps sz sy x at') (e : Ex H H') : BadX H' pvs ps sz sy x at' := by
  rcases h with ⟨h, rfl⟩ | ⟨l, y, more, h1, h2, h3, h4, h5⟩
  · exact .inl ⟨h.up e, rfl⟩
  · exact .inr ⟨l, y, more, h1, h2, e _ _ h3, h4.up e, h5⟩
theorem BadX.upN {H H' : Hp} {pvs : List V} {ps : List (Nat × Nat)} {sz sy : List Int} {x : V} {at' : Nat} (h : BadX H pvs ps sz sy x at') (e : LamX.ExtN H H') : BadX H' pvs ps sz sy x at' := by
  rcases h with ⟨h, rfl⟩ | ⟨l, y, more, h1, h2, h3, h4, h5⟩
  · exact .inl ⟨h.upN e, rfl⟩
  · exact .inr ⟨l, y, more, h1, h2, e _ _ h3 (by intro _ z; cases z), h4.upN e, h5⟩
abbrev W7 (C : Addr) (T : List (Addr × Str)) (σ : L2.St) (H : Hp) : Prop := ∃ (u0 v2 v8 v9 v10 v11 v14 v17 v18 : Option V) (dv x : V) (at' : Nat) (z s y t p1 p2 pl : Addr) (sz sy : List Int) (S R : List Row) (pvs : List V) (ps : List (Nat × Nat)), σ = [u0, some dv, v2, some (.ref z), some (.ref s), some (.ref y), some (.ref t), some (.ref pl), v8, v9, v10, v11, some (.int (at' : Int)), some x, v14, some (.ref p1), some (.ref p2), v17, v18] ∧ Deal H dv ∧ LamX.Tabs T H ∧ LA H z s sz S ∧ LA H y t sy R ∧ LB C H p1 sz S ∧ LB C H p2 sy R ∧ LP H pl pvs ps sz sy ∧ BadX H pvs ps sz sy x at'
section
variable {P : Program} {w : World} {K : PySem.W.Frag} {mg : Str → Option Value} {base : Heap} {f : Addr} {cdv : Value} {A : Around} {outer : List Env} {s0 : Shared} {H0 : Hp} {T : List (Addr × Str)}
theorem law5 {C : Addr} (hr : Room 13 (LX P w K mg base f cdv A outer s0 H0).A)
    (la : Trs (LX P w K mg base f cdv A outer s0 H0) (ifB (lb 5)) (W5p (fun zs => zs = []) C T) (W3 C T))
    (l1 : Tr (LX P w K mg base f cdv A outer s0 H0) ((ifO (lb 5)).getD 0 (.Pass ⟨0, 0, 0, 0⟩)) (W5p (fun zs => zs ≠ []) C T) (W5q C T)) (l2 : Tr (LX P w K mg base f cdv A outer s0 H0) ((ifO (lb 5)).getD 1 (.Pass ⟨0, 0, 0, 0⟩)) (W5q C T) (W3 C T)) :
    Tr (LX P w K mg base f cdv A outer s0 H0) (lb 5) (W5 C T) (W3 C T) := by
  obtain ⟨t1, h1, k1⟩ := la
  obtain ⟨t2, h2, k2⟩ := Trs.cons l1 (Trs.one l2)
  have e : [(ifO (lb 5)).getD 0 (.Pass ⟨0, 0, 0, 0⟩), (ifO (lb 5)).getD 1 (.Pass ⟨0, 0, 0, 0⟩)] = ifO (lb 5) := by kernel_rfl
  rw [e] at h2
  refine ⟨_, ps_if (pt_cmpR (eqDk hr.units (K := K)) (pv 9) (pe_lst pa_nil) (nomark _)) h1 h2, ?_⟩
  rintro D σ H ⟨u0, v2, v10, v11, v12, v13, v17, v18, dv, z, s, y, t, p1, p2, pl, rl, dl, g, sz, sy, S, R, zs, pvs, ps, rfl, hd, tb, a, b, c, d, lp, ld⟩ q
  obtain ⟨ys, hdl, rz⟩ := ld.hd
  refine ⟨.ref dl, rfl, Nat.zero_le _, fun e ne => ?_⟩
  have e0 := Ex.new (o := .lst []) ne
  have hl := rz.length
  have W : ∀ ok : List Row → Prop, ok zs → W5p ok C T [u0, some dv, v2, some (.ref z), some (.ref s), some (.ref y), some (.ref t), some (.ref pl), some (.ref rl), some (.ref dl), v10, v11, v12, v13, some (.ref g), some (.ref p1), some (.ref p2), v17, v18] (upd H e (.lst [])) := fun ok h =>
    ⟨_, _, _, _, _, _, _, _, dv, z, s, y, t, p1, p2, pl, rl, dl, g, sz, sy, S, R, zs, pvs, ps, rfl, hd.up e0, tb.ext e0, a.upL (.of e0), b.upL (.of e0), c.upL (.of e0), d.upL (.of e0), lp.upL (.of e0), ld.upL (.of e0), h⟩
  refine eqNil (SqL.of (e0 _ _ hdl)) (rz.up e0).data upd_same ⟨_, rfl, ifE (fun c1 => k1 D _ _ (W _ ?_) q) (fun c1 => k2 D _ _ (W _ ?_) q)⟩
  · rw [List.isEmpty_iff_length_eq_zero, hl, List.length_eq_zero_iff] at c1
    exact c1
  · intro h
    rw [h, List.length_nil, List.length_eq_zero_iff] at hl
    rw [hl] at c1
    cases c1
theorem law6 {C fB : Addr} {fdB : FuncData} (hr : Room 13 (LX P w K mg base f cdv A outer s0 H0).A) (D_lawBad : Dn K mg "_law_bad" s_lawBad ["_law_deal", "_law_sizes_here", "_law_others", "_law_pairs"] fB fdB) (G_lawBad : FnOk P w K mg base CX0 3 fB fdB ["_law_deal", "_law_sizes_here", "_law_others", "_law_pairs"] spBad) :
    Tr (LX P w K mg base f cdv A outer s0 H0) (lb 6) (W3 C T) (W7 C T) := by
  refine ⟨_, ps_asg (pe_call G_lawBad (hr.mono (by decide)) (by rfl) D_lawBad.g D_lawBad.F.kp D_lawBad.b .nil pass0 (pa_cons (pv 1) (pa_cons (pv 3) (pa_cons (pv 5) (pa_cons (pv 7) pa_nil))))) (pgTk (K := K) (n := 2) rfl (pgs_cons (pg_name (i := 13) sc_law.nd rfl (Or.inr rfl)) (pgs_cons (pg_name (i := 12) sc_law.nd rfl (Or.inl rfl)) pgs_nil))), ?_⟩
  rintro D σ H ⟨u0, v2, v8, v9, v10, v11, v12, v13, v14, v17, v18, dv, z, s, y, t, p1, p2, pl, sz, sy, S, R, pvs, ps, rfl, hd, tb, a, b, c, d, lp⟩ q
  refine ⟨dv, rfl, .ref z, rfl, .ref y, rfl, .ref pl, rfl, dv, z, y, pl, sz, sy, pvs, ps, rfl, hd, a.hz, b.hz, lp.at_, lp.rP, a.ok.ok.ne, b.ok.ok.ne, a.ok.ok.len, b.ok.ok.len, fun p hp => ⟨(lp.hps p hp).1, (lp.hps p hp).2.1⟩, lp.few a.ok.ok.len, fun v H1 e1 ⟨u, x, at', ev, hu, hx⟩ => ?_⟩
  subst ev
  refine ⟨u, _, rfl, SqT.of hu, rfl, x, _, rfl, .int (at' : Int), _, rfl, rfl, ?_⟩
  exact q _ _ ⟨_, _, _, _, _, _, _, _, _, dv, x, at', z, s, y, t, p1, p2, pl, sz, sy, S, R, pvs, ps, rfl, hd.up e1, tb.ext e1, a.upL (.of e1), b.upL (.of e1), c.upL (.of e1), d.upL (.of e1), lp.upL (.of e1), hx⟩
theorem law7 {C g CQ CL CS CR c P0 fP : Addr} {fdR fdP : FuncData} (RK : RefK K mg g CQ CL CS CR fdR) (LT : LawT base mg cdv T c P0) (hr : Room 13 (LX P w K mg base f cdv A outer s0 H0).A) (D_putTogether : Dn K mg "put_together" s_putTogether ["one", "other", "pairs"] fP fdP) (G_putBad : FnOk P w K mg base (L2.CX P w) 7 fP fdP ["one", "other", "pairs"] (spPutBad C CL)) :
    Tr (LX P w K mg base f cdv A outer s0 H0) (lb 7) (W7 C T) (W0 T) := by
  refine ⟨_, ps_if (pt_cmpR (neDk hr.units (K := K)) (pe_refusal RK LT hr (LamX.lamS_by (by decide +kernel)) rfl (fun _ _ _ _ _ => rfl) (fun A' outer' s H E f' c' hr2 => pe_call G_putBad (hr2.mono (by decide)) (by rfl) D_putTogether.g D_putTogether.F.kp D_putTogether.b .nil (passes_call (takes_of rfl rfl rfl rfl) (fun _ _ _ _ h => h)) (pa_cons (pv 15) (pa_cons (pv 16) (pa_cons (pv 13) pa_nil))))) (pe_tup (pa_cons pe_str (pa_cons (pv 12) pa_nil))) (nomark _)) (pss_one (ps_ret pe_bl)) pss_nil, ?_⟩
  rintro D σ H ⟨u0, v2, v8, v9, v10, v11, v14, v17, v18, dv, x, at', z, s, y, t, p1, p2, pl, sz, sy, S, R, pvs, ps, rfl, hd, tb, a, b, ⟨z1, f1, S1, n1, m1⟩, ⟨z2, f2, S2, n2, m2⟩, lp, hx⟩ q
  refine ⟨tb, fun H1 e1 tb1 => ?_⟩
  have eL := ExL.ofN e1
  refine ⟨.ref p1, rfl, .ref p2, rfl, x, rfl, p1, p2, f1, f2, x, sz, sy, z1, z2, pvs, ps, at', rfl, S1.upL eL, S2.upL eL, lp.rP.upL eL, lp.hps, lp.n1, lp.n2, Nat.le_trans (lp.few a.ok.ok.len) (by decide), hx.upN e1, fun d H2 e2 hdd => .inl ⟨rfl, d, .int (at' : Int), rfl, hdd, fun u nu => ⟨.int (at' : Int), rfl, by show 2 ≤ sizeLine; decide, fun u2 nu2 => ?_⟩⟩⟩
  have e3 := Ex.new (o := .tup [.str "lot", .int (at' : Int)]) nu
  have e4 := Ex.new (o := .tup [.str "lot", .int (at' : Int)]) nu2
  refine neSame (by decide +kernel) (e4 _ _ upd_same) upd_same ⟨_, rfl, iteF ?_⟩
  have e5 := (e2.trans e3).trans e4
  exact q _ _ ⟨_, _, _, _, _, _, _, _, _, _, _, _, _, _, _, _, _, _, dv, rfl, hd.upL (eL.trans (.of e5)), tb1.ext e5⟩
end
end Bp

set_option Elab.async false
set_option linter.all false
set_option maxRecDepth 100000
set_option maxHeartbeats 4000000
namespace Bp
open PySem PySem.Spec PyProof.Rows L2 Evl
theorem lb_all : [lb 0, lb 1, lb 2, lb 3, lb 4, lb 5, lb 6, lb 7] = forB ((defBody s_law).getD 1 (.Pass ⟨0, 0, 0, 0⟩)) := by kernel_rfl
section
variable {P : Program} {w : World} {K : PySem.W.Frag} {mg : Str → Option Value} {base : Heap} {f : Addr} {cdv : Value} {A : Around} {outer : List Env} {s0 : Shared} {H0 : Hp} {T : List (Addr × Str)}
/-- what law calls -/
structure LawG (P : Program) (w : World) (K : PySem.W.Frag) (mg : Str → Option Value) (base : Heap) (T : List (Addr × Str)) (C CL CR : Addr) : Prop where
  B : Blt mg
  TX : StTxt K mg C
  CI : ClsIs K C
  hSt : mg "Store" = some (.ref C)
  store : ∃ fI fdI, Mk K C fI ∧ Binds K fdI ["self", "sizes", "states"] [] ∧ FnOk P w K mg base CX0 5 fI fdI ["self", "sizes", "states"] (spStoreInit C)
  draw : ∃ f fd, Dn K mg "_law_draw" s_lawDraw ["_law_script", "_law_salt"] f fd ∧ FnOk P w K mg base CX0 1 f fd ["_law_script", "_law_salt"] (spDraw K)
  two : ∃ f fd, Dn K mg "_law_two_stores" s_lawTwoStores ["_law_deal", "_law_most"] f fd ∧ FnOk P w K mg base CX0 5 f fd ["_law_deal", "_law_most"] spTwo
  mixed : ∃ f fd, Dn K mg "_law_mixed" s_lawMixed ["_law_deal", "_law_some"] f fd ∧ FnOk P w K mg base CX0 2 f fd ["_law_deal", "_law_some"] (spMixed K)
  pairs : ∃ f fd, Dn K mg "_law_pairs_of" s_lawPairsOf ["_law_deal", "_law_sizes_here", "_law_others", "_law_most"] f fd ∧ FnOk P w K mg base CX0 3 f fd ["_law_deal", "_law_sizes_here", "_law_others", "_law_most"] spPairsOf
  of_ : ∃ f fd, Dn K mg "_law_of" s_lawOf ["_law_deal", "_law_some"] f fd ∧ FnOk P w K mg base CX0 2 f fd ["_law_deal", "_law_some"] spOf
  put : ∃ f fd, Dn K mg "_law_put" s_lawPut ["_law_states", "_law_rows", "_law_pairs", "_law_rest"] f fd ∧ FnOk P w K mg base CX0 1 f fd ["_law_states", "_law_rows", "_law_pairs", "_law_rest"] spPut
  any_ : ∃ f fd, Dn K mg "_law_any" s_lawAny ["_law_deal", "_law_bound"] f fd ∧ FnOk P w K mg base CX0 1 f fd ["_law_deal", "_law_bound"] spAny
  bad : ∃ f fd, Dn K mg "_law_bad" s_lawBad ["_law_deal", "_law_sizes_here", "_law_others", "_law_pairs"] f fd ∧ FnOk P w K mg base CX0 3 f fd ["_law_deal", "_law_sizes_here", "_law_others", "_law_pairs"] spBad
  joined : ∃ f fd, Dn K mg "_law_joined" s_lawJoined ["_law_states"] f fd ∧ FnOk P w K mg base CX0 3 f fd ["_law_states"] spJoined
  isJ : ∃ f fd, Dn K mg "is_joined" s_isJoined ["store"] f fd ∧ FnOk P w K mg base CX0 13 f fd ["store"] (spIsJoined C T)
  putT : ∃ f fd, Dn K mg "put_together" s_putTogether ["one", "other", "pairs"] f fd ∧ FnOk P w K mg base CX0 7 f fd ["one", "other", "pairs"] (spPutTogether C) ∧ FnOk P w K mg base (L2.CX P w) 7 f fd ["one", "other", "pairs"] (spPutBad C CL) ∧ FnOk P w K mg base (L2.CX P w) 7 f fd ["one", "other", "pairs"] (spPutRefused C CR)
theorem turn_ok {C CQ CL CS CR g c P0 : Addr} {fdR : FuncData} (G : LawG P w K mg base T C CL CR) (RK : RefK K mg g CQ CL CS CR fdR) (LT : LawT base mg cdv T c P0) (hgu : (LX P w K mg base f cdv A outer s0 H0).A.guards = some []) (hr : Room 13 (LX P w K mg base f cdv A outer s0 H0).A) :
    Trs (LX P w K mg base f cdv A outer s0 H0) (forB ((defBody s_law).getD 1 (.Pass ⟨0, 0, 0, 0⟩))) (W0 T) (W0 T) := by
  obtain ⟨fI, fdI, m1, m2, m3⟩ := G.store
  obtain ⟨_, _, tw1, tw2⟩ := G.two
  obtain ⟨_, _, mi1, mi2⟩ := G.mixed
  obtain ⟨_, _, pa1, pa2⟩ := G.pairs
  obtain ⟨_, _, of1, of2⟩ := G.of_
  obtain ⟨_, _, pu1, pu2⟩ := G.put
  obtain ⟨_, _, an1, an2⟩ := G.any_
  obtain ⟨_, _, ba1, ba2⟩ := G.bad
  obtain ⟨_, _, jo1, jo2⟩ := G.joined
  obtain ⟨_, _, is1, is2⟩ := G.isJ
  obtain ⟨_, _, pt1, pt2, pt3, pt4⟩ := G.putT
  rw [← lb_all]
  exact Trs.cons (law0 hr tw1 tw2) (Trs.cons (law1 hr G.hSt m1 m2 m3 mi1 mi2) (Trs.cons (law2 hr pa1 pa2 of1 of2) (Trs.cons (law3 hr G.B) (Trs.cons (law4 hr G.B pu1 pu2 an1 an2) (Trs.cons (law5 hr (law5a RK LT hr pt1 pt4) (law5b1 hgu hr G.B G.TX G.CI G.hSt pt1 pt2) (law5b2 hr G.B is1 is2 jo1 jo2)) (Trs.cons (law6 hr ba1 ba2) (Trs.one (law7 RK LT hr pt1 pt3))))))))
/-- law called at a script, where no repr is under way -/
theorem run_law {C CQ CL CS CR g c P0 a : Addr} {fd fdR : FuncData} {ns : List Int} {outer : List Env} {s : Shared} {H : Hp} (F : Fun K "law" "law" s_law f fd) (hb : BindsTo s fd ⟨[.ref a], []⟩ ((["_law_script"] : List Str).zip [.ref a])) (G : LawG P w K mg base T C CL CR) (RK : RefK K mg g CQ CL CS CR fdR) (LT : LawT base mg fd.code T c P0)
    (hgu : A.guards = some []) (hr : Room 14 A) (e0 : Env0 P w K mg base A outer s H) (hs : SqL K H a (ns.map V.int)) (h63 : ns.length ≤ 63) (tb : LamX.Tabs T H) : codeAny (model P w) A (.call (.ref f) ⟨[.ref a], []⟩) (L2.CR CX0 outer P w H s (fun v _ => v = .bl true) E0) s := by
  obtain ⟨oc, od, kV, doc, pm, an, cdv, ct, osl, rfl, lk, hcd⟩ := F.ex
  refine LamX.run_ofS (N := N_law) (vs := [.ref a]) lk hcd sc_law hr e0 hb (.cons rfl .nil) rfl fun hr' => ?_
  obtain ⟨_, _, dr1, dr2⟩ := G.draw
  have B := G.B
  obtain ⟨tb0, h1, h2⟩ := turn_ok (f := f) (cdv := cdv) (A := A) (outer := outer) (s0 := s) (H0 := H) G RK LT hgu hr'
  have D_lawDraw := dr1
  have G_lawDraw := dr2
  have hrr : Room 13 (LX P w K mg base f cdv A outer s H).A := hr'
  have key : ∃ t, PSs (LX P w K mg base f cdv A outer s H) (defBody s_law) t ∧ t { nx := fun _ H' => V.non = .bl true, rt := fun v _ => v = .bl true } (L2.start N_law [.ref a]) H := by
    refine ⟨_, pss_cons (ps_set (i := 1) sc_law.nd rfl (.inl rfl) (pe_call G_lawDraw (hrr.mono (by decide)) (by rfl) D_lawDraw.g D_lawDraw.F.kp D_lawDraw.b .nil pass0 (pa_cons (pv 0) (pa_cons pe_int pa_nil)))) (pss_cons (ps_for PassesOwn.never rfl (pi_range1 (by rfl) B.range (pa_cons pe_int pa_nil)) (pg_name (i := 2) sc_law.nd rfl (Or.inl rfl)) h1) (pss_one (ps_ret pe_bl))), ?_⟩
    refine ⟨.ref a, rfl, a, ns, rfl, hs, h63, fun dv H1 e1 hd => ?_⟩
    refine ⟨2, rfl, by omega, by omega, for_range (n := 2) (fun i σ H' => W0 T σ H') ?_ ?_ ?_⟩
    · exact ⟨some (.ref a), none, none, none, none, none, none, none, none, none, none, none, none, none, none, none, none, none, dv, rfl, hd, tb.ext e1⟩
    · rintro i σ H2 _ ⟨u0, v2, v3, v4, v5, v6, v7, v8, v9, v10, v11, v12, v13, v14, v15, v16, v17, v18, dv, rfl, hd2, tb2⟩
      exact h2 _ _ _ ⟨_, _, _, _, _, _, _, _, _, _, _, _, _, _, _, _, _, _, dv, rfl, hd2, tb2⟩ fun σ' H' h => h
    · intro σ H2 _
      exact rfl
  obtain ⟨t, k1, k2⟩ := key
  exact ⟨t, k1.nox, k2⟩
end
end Bp

set_option Elab.async false
set_option linter.all false
set_option maxRecDepth 100000
set_option maxHeartbeats 4000000
namespace Bp
open PySem PySem.Spec PyProof.Rows L2 Evl
/-! ### the end: law called by the claim's caller, where no repr is under way; the tables of the code objects stand empty -/
section
variable {P : Program} {w : World} {K : PySem.W.Frag} {mg mb : Str → Option Value} {s : Shared} {cs : List (Addr × Addr)} {a : Addr} {vs : List Value} {ns : List Int}
/-- an empty table -/
abbrev tabO : Obj := { cls := .none, data := .fields #[] }
abbrev lstO (vs : List Value) : Obj := { cls := .type "list", data := .seq vs.toArray }
/-- what is told at the start: the tables, and the script if the written part does not tell it -/
def startH (K : PySem.W.Frag) (cs : List (Addr × Addr)) (a : Addr) (vs : List Value) (ns : List Int) : Hp := fun b =>
  if b ∈ cs.map (·.2) then some (.tbl #[]) else if b = a ∧ K.lookup a = none then some (.frz (lstO vs) (.lst (ns.map V.int))) else none
theorem startH_tab {b : Addr} (h : b ∈ cs.map (·.2)) : startH K cs a vs ns b = some (.tbl #[]) := if_pos h
/-- what stands behind the top, as far as the end asks -/
structure Stand (K : PySem.W.Frag) (mg mb : Str → Option Value) (s : Shared) (cs : List (Addr × Addr)) (a : Addr) (vs : List Value) (ns : List Int) : Prop where
  kin : K.In s.heap
  g : s.heap.Ns mainGlobals mg
  b : s.heap.Ns builtinsNs mb
  bb : ∀ x : Str, x ≠ "__name__" → mb x = bootBuiltins x
  lim : s.heap.NoLimit
  gens : s.gens = #[]
  tab : ∀ p ∈ cs, s.heap.get? p.2 = some tabO
  noK : ∀ p ∈ cs, K.lookup p.2 = none
  hd : ∀ p ∈ cs, PySem.W.CodeHd s.heap p.1 p.2
  bm : ∃ (bm : Addr) (ob : Obj), mg "__builtins__" = some (.ref bm) ∧ bm ≠ builtinsNs ∧ s.heap.get? bm = some ob ∧ ob.cls = .type "module" ∧ ob.dict = some builtinsNs ∧ ob.data = .plain
  obj : s.heap.get? a = some (lstO vs)
  are : IntsAre vs ns
  len : ns.length ≤ sizeLine
namespace Stand
theorem isTab (h : Stand K mg mb s cs a vs ns) {b : Addr} (hb : b ∈ cs.map (·.2)) : s.heap.get? b = some tabO := by
  obtain ⟨p, hp, rfl⟩ := List.mem_map.mp hb
  exact h.tab p hp
theorem aNo (h : Stand K mg mb s cs a vs ns) : a ∉ cs.map (·.2) := fun hb => by
  have e := h.obj.symm.trans (h.isTab hb)
  cases e
/-- what is told is a table or a list -/
theorem cases_ (h : Stand K mg mb s cs a vs ns) {b : Addr} {u : HO} (e : startH K cs a vs ns b = some u) : (b ∈ cs.map (·.2) ∧ u = .tbl #[]) ∨ (b = a ∧ K.lookup a = none ∧ u = .frz (lstO vs) (.lst (ns.map V.int))) := by
  unfold startH at e
  split at e
  · exact .inl ⟨‹_›, (Option.some.inj e).symm⟩
  · split at e
    · rename_i h2
      exact .inr ⟨h2.1, h2.2, (Option.some.inj e).symm⟩
    · cases e
/-- no dict, no plain object and no code object is told -/
theorem off (h : Stand K mg mb s cs a vs ns) {b : Addr} {o : Obj} (e : s.heap.get? b = some o) (n1 : o ≠ tabO) (n2 : ∀ ws : Array Value, o.data ≠ .seq ws) : startH K cs a vs ns b = none := by
  cases q : startH K cs a vs ns b with
  | none => rfl
  | some u =>
    rcases h.cases_ q with ⟨hb, _⟩ | ⟨rfl, _, _⟩
    · exact (n1 (Option.some.inj (e.symm.trans (h.isTab hb)))).elim
    · have z := Option.some.inj (e.symm.trans h.obj)
      exact (n2 vs.toArray (by rw [z])).elim
theorem hok (h : Stand K mg mb s cs a vs ns) : HOk P w (startH K cs a vs ns) s.heap := fun b u e => by
  rcases h.cases_ e with ⟨hb, rfl⟩ | ⟨rfl, _, rfl⟩
  · exact h.isTab hb
  · exact ⟨h.obj, by rw [List.length_map]; exact h.len, vs, _, vals_ints h.are, h.obj⟩
theorem base_get (h : Stand K mg mb s cs a vs ns) {b : Addr} {o : Obj} (e : s.heap.get? b = some o) (n1 : o ≠ tabO) (n2 : ∀ ws : Array Value, o.data ≠ .seq ws) : (hidT s.heap (startH K cs a vs ns)).get? b = some o := hidT_get e (h.off e n1 n2)
theorem base_ns (h : Stand K mg mb s cs a vs ns) {b : Addr} {m : Str → Option Value} (n : s.heap.Ns b m) : (hidT s.heap (startH K cs a vs ns)).Ns b m := by
  obtain ⟨o, es, ep, e, d, r⟩ := n
  exact ⟨o, es, ep, h.base_get e (fun z => by rw [z] at d; cases d) (fun ws z => by rw [d] at z; cases z), d, r⟩
theorem base_kin (h : Stand K mg mb s cs a vs ns) : K.In (hidT s.heap (startH K cs a vs ns)) := fun b o e => hidT_get (h.kin b o e) (by
  cases q : startH K cs a vs ns b with
  | none => rfl
  | some u =>
    rcases h.cases_ q with ⟨hb, _⟩ | ⟨rfl, hn, _⟩
    · obtain ⟨p, hp, rfl⟩ := List.mem_map.mp hb
      exact absurd ((h.noK p hp).symm.trans e) (fun z => by cases z)
    · exact absurd (hn.symm.trans e) (fun z => by cases z))
theorem base_tab (h : Stand K mg mb s cs a vs ns) : ∀ p ∈ cs, LamX.TabB (hidT s.heap (startH K cs a vs ns)) mg p.1 p.2 := fun p hp => by
  have ht := h.tab p hp
  refine ⟨?_, ?_, fun z => ?_⟩
  · obtain ⟨o, us, file, tf, flags, tg, inF, text, tt, e1, r1, r2, r⟩ := h.hd p hp
    exact ⟨o, us, file, tf, flags, tg, inF, text, tt, h.base_get e1 (fun z => by rw [z] at r1; cases r1) (fun ws z => by rw [r2] at z; cases z), r1, r2, r⟩
  · obtain ⟨bm, ob, b1, b2, b3, b4, b5, b6⟩ := h.bm
    refine ⟨bm, ob, b1, b2, fun z => ?_, fun z => ?_, h.base_get b3 (fun z => by rw [z] at b6; cases b6) (fun ws z => by rw [b6] at z; cases z), b4, b5, b6⟩
    · obtain ⟨o, es, ep, e, hd, _⟩ := h.g
      rw [← z] at e
      rw [Option.some.inj (b3.symm.trans e)] at b6
      rw [hd] at b6
      cases b6
    · rw [← z] at ht
      rw [Option.some.inj (b3.symm.trans ht)] at b6
      cases b6
  · obtain ⟨o, es, ep, e, hd, _⟩ := h.g
    rw [z] at e
    rw [Option.some.inj (e.symm.trans ht)] at hd
    cases hd
theorem env0 (h : Stand K mg mb s cs a vs ns) : Env0 P w K mg (hidT s.heap (startH K cs a vs ns)) callerA [] s (startH K cs a vs ns) where
  frames := rfl
  mod := ⟨h.base_kin, h.base_ns h.g, ⟨mb, h.base_ns h.b, h.bb⟩, let ⟨mc, h1, h2⟩ := h.lim; ⟨mc, h.base_ns h1, h2⟩⟩
  bs := fun _ _ e => of_hidT e
  bsz := Nat.le_of_eq (hidT_size _ _)
  funs := trivial
  frf := fun b hb => absurd (show b ∈ ([] : List Addr) from hb) (by simp)
  hok := h.hok
  bare := .of_eq h.gens
theorem src (h : Stand K mg mb s cs a vs ns) : SqL K (startH K cs a vs ns) a (ns.map V.int) := by
  cases hk : K.lookup a with
  | some o =>
    obtain rfl : o = lstO vs := Option.some.inj ((h.kin a o hk).symm.trans h.obj)
    exact .inr ⟨_, vs.toArray, _, hk, rfl, rfl, rfl, by rw [List.size_toArray, h.are.length]; exact h.len, by simpa using vals_ints h.are⟩
  | none => exact .inl (.inr ⟨lstO vs, (if_neg h.aNo).trans (if_pos ⟨rfl, hk⟩)⟩)
/-- what is left behind -/
theorem left (h : Stand K mg mb s cs a vs ns) {H' : Hp} {s' : Shared} (un : Un (frs []) [] (startH K cs a vs ns) H' s.heap s'.heap) (ok : HOk P w H' s'.heap) : OldK s.heap s'.heap := by
  have noMem : ∀ b : Addr, b ∉ frs ([] : List Env) := fun b z => absurd (show b ∈ ([] : List Addr) from z) (by simp)
  have grown : ∀ b ∈ cs.map (·.2), ∃ more : Array Value, s'.heap.get? b = some { cls := .none, data := .fields more } := fun b hb => by
    obtain ⟨more, z⟩ := un.tbls b #[] (startH_tab hb)
    exact ⟨_, ok b _ z⟩
  have key : ∀ b o, b ∉ cs.map (·.2) → s.heap.get? b = some o → s'.heap.get? b = some o := fun b o nb e => by
    cases q : startH K cs a vs ns b with
    | none => exact un.keep b o e q (noMem b) (by simp)
    | some u =>
      rcases h.cases_ q with ⟨hb, _⟩ | ⟨rfl, _, rfl⟩
      · exact absurd hb nb
      · obtain ⟨e2, _⟩ := ok b _ (un.frzs b _ _ q)
        rw [e2, ← h.obj, e]
  refine ⟨fun b o e => ?_, fun b o e => ?_⟩
  · by_cases hb : b ∈ cs.map (·.2)
    · obtain ⟨more, hm⟩ := grown b hb
      obtain rfl := Option.some.inj (e.symm.trans (h.isTab hb))
      obtain ⟨p, hp, rfl⟩ := List.mem_map.mp hb
      exact .inr (.inl ⟨((h.hd p hp).tab (h.tab p hp)).isCodeTable, rfl, #[], more, rfl, by rw [Array.empty_append]; exact hm⟩)
    · exact .inl (key b o hb e)
  · by_cases hb : b ∈ cs.map (·.2)
    · obtain ⟨more, hm⟩ := grown b hb
      exact ⟨_, hm⟩
    · exact ⟨o, key b o hb e⟩
/-- law called -/
theorem call (h : Stand K mg mb s cs a vs ns) {fa : Addr} (hc : ∀ (base : Heap) (H : Hp), K.In base → base.Ns mainGlobals mg → (∀ p ∈ cs, LamX.TabB base mg p.1 p.2) → (∀ p ∈ cs, H p.2 = some (.tbl #[])) → SqL K H a (ns.map V.int) → Env0 P w K mg base callerA [] s H → codeAny (model P w) callerA (.call (.ref fa) ⟨[.ref a], []⟩) (L2.CR CX0 [] P w H s (fun v _ => v = .bl true) E0) s) :
    codeAny (model P w) callerA (.call (.ref fa) ⟨[.ref a], []⟩) (fun r s' => r = .ok (.ret (.bool true)) ∧ OldK s.heap s'.heap ∧ s'.os = s.os ∧ AllBare s'.gens) s := by
  refine codeAny_mono (hc _ _ h.base_kin (h.base_ns h.g) h.base_tab (fun p hp => startH_tab (List.mem_map.mpr ⟨p, hp, rfl⟩)) h.src h.env0) fun r s' hq => ?_
  cases r with
  | error e => exact (show False from hq).elim
  | ok fl =>
    cases fl with
    | ret u =>
      obtain ⟨v, H', os, bare, un, ok, r', rfl⟩ := hq
      obtain rfl : u = Value.bool true := r'
      exact ⟨rfl, h.left un ok, os, bare⟩
    | next => exact False.elim hq
    | brk => exact False.elim hq
    | cont => exact False.elim hq
end Stand
end
end Bp

set_option Elab.async false
set_option linter.all false
set_option maxRecDepth 100000
set_option maxHeartbeats 4000000
namespace Bp
open PySem PySem.Spec PyProof.Rows L2 Evl
/-! ### what the written part tells -/
def DefIn (K : PySem.W.Frag) (x : Str) (st : Stmt) : Prop := ∃ (f : Addr) (fd : FuncData), PySem.W.nsIn K mainGlobals x = some (some (.ref f)) ∧ Fun K x x st f fd
theorem def_in {K : PySem.W.Frag} {x : Str} {st : Stmt} {f : Addr} {oc : Value} {od an : Option Addr} {osl : Array (Option Value)} {kV doc pm cdv ct : Value} (a : PySem.W.nsIn K mainGlobals x = some (some (.ref f)))
    (l : K.lookup f = some ⟨oc, od, .func (PySem.W.fnOf x x (defArgs st) (defBody st) (defScope st) .none kV doc pm an cdv ct), osl⟩) (c : PySem.W.codeIn K cdv x = true) (k : PySem.W.keepIn K (.ref f) = true) : DefIn K x st := ⟨f, _, a, fun_mk l c k⟩
def MethIn (K : PySem.W.Frag) (C : Addr) (m qual : Str) (st : Stmt) : Prop := ∃ (f : Addr) (fd : FuncData), Meth K C m f ∧ Fun K m qual st f fd
theorem meth_in {K : PySem.W.Frag} {C : Addr} {m qual : Str} {st : Stmt} {f : Addr} {oc : Value} {od an : Option Addr} {osl : Array (Option Value)} {kV doc pm cdv ct : Value} (a : PySem.W.findIn K (.ref C) m = some (some (.ref f))) (i : PySem.W.isFn K (.ref f) = true)
    (l : K.lookup f = some ⟨oc, od, .func (PySem.W.fnOf m qual (defArgs st) (defBody st) (defScope st) .none kV doc pm an cdv ct), osl⟩) (c : PySem.W.codeIn K cdv qual = true) (k : PySem.W.keepIn K (.ref f) = true) : MethIn K C m qual st := ⟨f, _, ⟨a, i, k⟩, fun_mk l c k⟩
end Bp

set_option Elab.async false
set_option linter.all false
set_option maxRecDepth 100000
set_option maxHeartbeats 4000000
namespace Bp
open PySem PySem.Spec PyProof.Rows L2 Evl
/-! ### all that the written part must tell -/
/-- as DefIn, the code object told -/
def DefInC (K : PySem.W.Frag) (x : Str) (st : Stmt) (c : Addr) : Prop := ∃ (f : Addr) (fd : FuncData), PySem.W.nsIn K mainGlobals x = some (some (.ref f)) ∧ Fun K x x st f fd ∧ fd.code = .ref c
theorem def_inC {K : PySem.W.Frag} {x : Str} {st : Stmt} {f c : Addr} {oc : Value} {od an : Option Addr} {osl : Array (Option Value)} {kV doc pm ct : Value} (a : PySem.W.nsIn K mainGlobals x = some (some (.ref f)))
    (l : K.lookup f = some ⟨oc, od, .func (PySem.W.fnOf x x (defArgs st) (defBody st) (defScope st) .none kV doc pm an (.ref c) ct), osl⟩) (h : PySem.W.codeIn K (.ref c) x = true) (k : PySem.W.keepIn K (.ref f) = true) : DefInC K x st c := ⟨f, _, a, fun_mk l h k, rfl⟩
/-- an own error's field is read as it stands -/
structure ErrIn (K : PySem.W.Frag) (nm : Str) (C : Addr) : Prop where
  a : PySem.W.nsIn K mainGlobals nm = some (some (.ref C))
  ga : PySem.W.findIn K (.ref C) "__getattribute__" = some (some (.builtin "BaseException.__getattribute__"))
  gg : PySem.W.findIn K (.ref C) "__getattr__" = some none
  ex : PySem.W.subIn K (.ref C) (.type "BaseException") = some true
  hd : PySem.W.hasDictIn K C = true
  no : PySem.W.findIn K (.ref C) "at" = some none
theorem ErrIn.t {K : PySem.W.Frag} {nm : Str} {C : Addr} {h : Heap} {mg : Str → Option Value} (e : ErrIn K nm C) (X : K.In h) (G : h.Ns mainGlobals mg) : ErrT K mg nm C := ⟨PySem.W.mg_of X G e.a, ⟨e.ga, e.gg, e.ex, e.hd⟩, e.no⟩
/-- an own error is made -/
def XIn (P : Program) (K : PySem.W.Frag) (nm qual msg : Str) (C : Addr) : Prop := ∃ fI cc cda : Addr, ∀ mg : Str → Option Value, mg nm = some (.ref C) → mg "super" = none → XTxt P K mg nm qual msg C fI cc cda
structure WTxt (P : Program) (K : PySem.W.Frag) (C CQ CL CS CR cH PH cL PL : Addr) : Prop where
  d_isInteger : DefIn K "is_integer" s_isInteger
  d_isNumber : DefIn K "is_number" s_isNumber
  d_isIndex : DefIn K "is_index" s_isIndex
  d_isSequence : DefIn K "is_sequence" s_isSequence
  d_isStateOf : DefIn K "is_state_of" s_isStateOf
  d_checkedLot : DefIn K "checked_lot" s_checkedLot
  d_otherKeys : DefIn K "other_keys" s_otherKeys
  d_seenOn : DefIn K "seen_on" s_seenOn
  d_near : DefIn K "near" s_near
  d_isKeyPair : DefIn K "is_key_pair" s_isKeyPair
  d_checkedPairs : DefIn K "checked_pairs" s_checkedPairs
  d_putTogether : DefIn K "put_together" s_putTogether
  d_changedKey : DefIn K "changed_key" s_changedKey
  d_findNear : DefIn K "find_near" s_findNear
  d_nearByKeys : DefIn K "near_by_keys" s_nearByKeys
  d_homesOf : DefIn K "homes_of" s_homesOf
  d_whole : DefIn K "whole" s_whole
  d_allLots : DefIn K "all_lots" s_allLots
  d_findJoined : DefIn K "find_joined" s_findJoined
  d_isJoined : DefIn K "is_joined" s_isJoined
  d_lawDraw : DefIn K "_law_draw" s_lawDraw
  d_lawAny : DefIn K "_law_any" s_lawAny
  d_lawOf : DefIn K "_law_of" s_lawOf
  d_lawMixed : DefIn K "_law_mixed" s_lawMixed
  d_lawAll : DefIn K "_law_all" s_lawAll
  d_lawSizes : DefIn K "_law_sizes" s_lawSizes
  d_lawAgree : DefIn K "_law_agree" s_lawAgree
  d_lawReached : DefIn K "_law_reached" s_lawReached
  d_lawJoined : DefIn K "_law_joined" s_lawJoined
  d_lawJoinedStore : DefIn K "_law_joined_store" s_lawJoinedStore
  d_lawStore : DefIn K "_law_store" s_lawStore
  d_lawTwoStores : DefIn K "_law_two_stores" s_lawTwoStores
  d_lawRefusal : DefIn K "_law_refusal" s_lawRefusal
  d_lawPut : DefIn K "_law_put" s_lawPut
  d_lawPairsOf : DefIn K "_law_pairs_of" s_lawPairsOf
  d_lawBad : DefIn K "_law_bad" s_lawBad
  d_homes : DefInC K "homes" s_homes cH
  d_law : DefInC K "law" s_law cL
  h_homes : PySem.W.codeHdIn K cH PH = true
  n_homes : K.lookup PH = none
  h_law : PySem.W.codeHdIn K cL PL = true
  n_law : K.lookup PL = none
  ne : PL ≠ PH
  aC : PySem.W.nsIn K mainGlobals "Store" = some (some (.ref C))
  c_pg : PySem.W.plainGet K C Str.empty = true
  c_hd : PySem.W.hasDictIn K C = true
  c_po : PySem.W.plainOver K C = true
  c_sa : PySem.W.findIn K (.ref C) "__setattr__" = some (some (.builtin "object.__setattr__"))
  c_nC : PySem.W.findIn K (.ref C) "key_count" = some none
  c_nZ : PySem.W.findIn K (.ref C) "sizes" = some none
  c_nS : PySem.W.findIn K (.ref C) "states" = some none
  c_nI : PySem.W.findIn K (.ref C) "_index" = some none
  c_nF : PySem.W.findIn K (.ref C) "_found" = some none
  c_mk : PySem.W.makesIn K C = true
  c_kc : PySem.W.keepIn K (.ref C) = true
  c_ha : PySem.W.findIn K (.ref C) "__class__" = some (some (.builtin "object.__class__"))
  c_hn : PySem.W.specialIn K (.builtin "object.__class__") "__get__" = some (some (.builtin "getset_descriptor.__get__"))
  c_ht : PySem.W.takesIn K (.builtin "object.__class__") = some true
  c_hm : PySem.W.mroIn K C (.type "object") = some true
  m_StoreInit : MethIn K C "__init__" "Store.__init__" s_StoreInit
  m_StoreFound : MethIn K C "found" "Store.found" s_StoreFound
  m_StoreIndexOf : MethIn K C "index_of" "Store.index_of" s_StoreIndexOf
  e_CQ : ErrIn K "InvalidQuestion" CQ
  e_CL : ErrIn K "InvalidLot" CL
  e_CS : ErrIn K "InvalidState" CS
  e_CR : ErrIn K "Refused" CR
  x_CL : XIn P K "InvalidLot" "InvalidLot.__init__" "invalid lot" CL
  x_CR : XIn P K "Refused" "Refused.__init__" "refused" CR
  l1 : PySem.W.exmOne K (.ref CL) (.ref CQ) = some false
  l2 : PySem.W.exmOne K (.ref CL) (.ref CL) = some true
  r1 : PySem.W.exmOne K (.ref CR) (.ref CQ) = some false
  r2 : PySem.W.exmOne K (.ref CR) (.ref CL) = some false
  r3 : PySem.W.exmOne K (.ref CR) (.ref CS) = some false
  r4 : PySem.W.exmOne K (.ref CR) (.ref CR) = some true
  b_len : PySem.W.nsIn K mainGlobals "len" = some none
  b_abs : PySem.W.nsIn K mainGlobals "abs" = some none
  b_int : PySem.W.nsIn K mainGlobals "int" = some none
  b_bool : PySem.W.nsIn K mainGlobals "bool" = some none
  b_sum : PySem.W.nsIn K mainGlobals "sum" = some none
  b_min : PySem.W.nsIn K mainGlobals "min" = some none
  b_any : PySem.W.nsIn K mainGlobals "any" = some none
  b_all : PySem.W.nsIn K mainGlobals "all" = some none
  b_list : PySem.W.nsIn K mainGlobals "list" = some none
  b_tuple : PySem.W.nsIn K mainGlobals "tuple" = some none
  b_set : PySem.W.nsIn K mainGlobals "set" = some none
  b_sorted : PySem.W.nsIn K mainGlobals "sorted" = some none
  b_range : PySem.W.nsIn K mainGlobals "range" = some none
  b_enumerate : PySem.W.nsIn K mainGlobals "enumerate" = some none
  b_zip : PySem.W.nsIn K mainGlobals "zip" = some none
  b_isinstance : PySem.W.nsIn K mainGlobals "isinstance" = some none
  b_repr : PySem.W.nsIn K mainGlobals "repr" = some none
  b_super : PySem.W.nsIn K mainGlobals "super" = some none
section
variable {P : Program} {w : World} {K : PySem.W.Frag} {mg : Str → Option Value} {h : Heap} {C CQ CL CS CR cH PH cL PL : Addr}
theorem blt_of (W : WTxt P K C CQ CL CS CR cH PH cL PL) (X : K.In h) (G : h.Ns mainGlobals mg) : Blt mg :=
  ⟨PySem.W.mg_none_of X G W.b_len, PySem.W.mg_none_of X G W.b_abs, PySem.W.mg_none_of X G W.b_int, PySem.W.mg_none_of X G W.b_bool, PySem.W.mg_none_of X G W.b_sum, PySem.W.mg_none_of X G W.b_min, PySem.W.mg_none_of X G W.b_any, PySem.W.mg_none_of X G W.b_all, PySem.W.mg_none_of X G W.b_list, PySem.W.mg_none_of X G W.b_tuple, PySem.W.mg_none_of X G W.b_set, PySem.W.mg_none_of X G W.b_sorted, PySem.W.mg_none_of X G W.b_range, PySem.W.mg_none_of X G W.b_enumerate, PySem.W.mg_none_of X G W.b_zip, PySem.W.mg_none_of X G W.b_isinstance, PySem.W.mg_none_of X G W.b_repr, PySem.W.mg_none_of X G W.b_super⟩
theorem stTxt_of (W : WTxt P K C CQ CL CS CR cH PH cL PL) : StTxt K mg C := ⟨⟨W.c_pg, W.c_hd, W.c_po, W.c_sa⟩, W.c_nC, W.c_nZ, W.c_nS, W.c_nI, W.c_nF⟩
theorem dn_isInteger (W : WTxt P K C CQ CL CS CR cH PH cL PL) (X : K.In h) (G : h.Ns mainGlobals mg) : ∃ f fd, Dn K mg "is_integer" s_isInteger ["value"] f fd := by
    obtain ⟨f, fd, g, F⟩ := W.d_isInteger
    exact ⟨f, fd, F, F.binds (ps := ["value"]) (fun _ _ _ _ _ _ us hl => match us, hl with | [_], _ => rfl), PySem.W.mg_of X G g⟩
theorem dn_isNumber (W : WTxt P K C CQ CL CS CR cH PH cL PL) (X : K.In h) (G : h.Ns mainGlobals mg) : ∃ f fd, Dn K mg "is_number" s_isNumber ["value"] f fd := by
    obtain ⟨f, fd, g, F⟩ := W.d_isNumber
    exact ⟨f, fd, F, F.binds (ps := ["value"]) (fun _ _ _ _ _ _ us hl => match us, hl with | [_], _ => rfl), PySem.W.mg_of X G g⟩
theorem dn_isIndex (W : WTxt P K C CQ CL CS CR cH PH cL PL) (X : K.In h) (G : h.Ns mainGlobals mg) : ∃ f fd, Dn K mg "is_index" s_isIndex ["value", "many"] f fd := by
    obtain ⟨f, fd, g, F⟩ := W.d_isIndex
    exact ⟨f, fd, F, F.binds (ps := ["value", "many"]) (fun _ _ _ _ _ _ us hl => match us, hl with | [_, _], _ => rfl), PySem.W.mg_of X G g⟩
theorem dn_isSequence (W : WTxt P K C CQ CL CS CR cH PH cL PL) (X : K.In h) (G : h.Ns mainGlobals mg) : ∃ f fd, Dn K mg "is_sequence" s_isSequence ["value"] f fd := by
    obtain ⟨f, fd, g, F⟩ := W.d_isSequence
    exact ⟨f, fd, F, F.binds (ps := ["value"]) (fun _ _ _ _ _ _ us hl => match us, hl with | [_], _ => rfl), PySem.W.mg_of X G g⟩
theorem dn_isStateOf (W : WTxt P K C CQ CL CS CR cH PH cL PL) (X : K.In h) (G : h.Ns mainGlobals mg) : ∃ f fd, Dn K mg "is_state_of" s_isStateOf ["sizes", "value"] f fd := by
    obtain ⟨f, fd, g, F⟩ := W.d_isStateOf
    exact ⟨f, fd, F, F.binds (ps := ["sizes", "value"]) (fun _ _ _ _ _ _ us hl => match us, hl with | [_, _], _ => rfl), PySem.W.mg_of X G g⟩
theorem dn_checkedLot (W : WTxt P K C CQ CL CS CR cH PH cL PL) (X : K.In h) (G : h.Ns mainGlobals mg) : ∃ f fd, Dn K mg "checked_lot" s_checkedLot ["store", "value"] f fd := by
    obtain ⟨f, fd, g, F⟩ := W.d_checkedLot
    exact ⟨f, fd, F, F.binds (ps := ["store", "value"]) (fun _ _ _ _ _ _ us hl => match us, hl with | [_, _], _ => rfl), PySem.W.mg_of X G g⟩
theorem dn_otherKeys (W : WTxt P K C CQ CL CS CR cH PH cL PL) (X : K.In h) (G : h.Ns mainGlobals mg) : ∃ f fd, Dn K mg "other_keys" s_otherKeys ["store", "lot"] f fd := by
    obtain ⟨f, fd, g, F⟩ := W.d_otherKeys
    exact ⟨f, fd, F, F.binds (ps := ["store", "lot"]) (fun _ _ _ _ _ _ us hl => match us, hl with | [_, _], _ => rfl), PySem.W.mg_of X G g⟩
theorem dn_seenOn (W : WTxt P K C CQ CL CS CR cH PH cL PL) (X : K.In h) (G : h.Ns mainGlobals mg) : ∃ f fd, Dn K mg "seen_on" s_seenOn ["state", "lot"] f fd := by
    obtain ⟨f, fd, g, F⟩ := W.d_seenOn
    exact ⟨f, fd, F, F.binds (ps := ["state", "lot"]) (fun _ _ _ _ _ _ us hl => match us, hl with | [_, _], _ => rfl), PySem.W.mg_of X G g⟩
theorem dn_near (W : WTxt P K C CQ CL CS CR cH PH cL PL) (X : K.In h) (G : h.Ns mainGlobals mg) : ∃ f fd, Dn K mg "near" s_near ["store", "state"] f fd := by
    obtain ⟨f, fd, g, F⟩ := W.d_near
    exact ⟨f, fd, F, F.binds (ps := ["store", "state"]) (fun _ _ _ _ _ _ us hl => match us, hl with | [_, _], _ => rfl), PySem.W.mg_of X G g⟩
theorem dn_isKeyPair (W : WTxt P K C CQ CL CS CR cH PH cL PL) (X : K.In h) (G : h.Ns mainGlobals mg) : ∃ f fd, Dn K mg "is_key_pair" s_isKeyPair ["one", "other", "value"] f fd := by
    obtain ⟨f, fd, g, F⟩ := W.d_isKeyPair
    exact ⟨f, fd, F, F.binds (ps := ["one", "other", "value"]) (fun _ _ _ _ _ _ us hl => match us, hl with | [_, _, _], _ => rfl), PySem.W.mg_of X G g⟩
theorem dn_checkedPairs (W : WTxt P K C CQ CL CS CR cH PH cL PL) (X : K.In h) (G : h.Ns mainGlobals mg) : ∃ f fd, Dn K mg "checked_pairs" s_checkedPairs ["one", "other", "value"] f fd := by
    obtain ⟨f, fd, g, F⟩ := W.d_checkedPairs
    exact ⟨f, fd, F, F.binds (ps := ["one", "other", "value"]) (fun _ _ _ _ _ _ us hl => match us, hl with | [_, _, _], _ => rfl), PySem.W.mg_of X G g⟩
theorem dn_putTogether (W : WTxt P K C CQ CL CS CR cH PH cL PL) (X : K.In h) (G : h.Ns mainGlobals mg) : ∃ f fd, Dn K mg "put_together" s_putTogether ["one", "other", "pairs"] f fd := by
    obtain ⟨f, fd, g, F⟩ := W.d_putTogether
    exact ⟨f, fd, F, F.binds (ps := ["one", "other", "pairs"]) (fun _ _ _ _ _ _ us hl => match us, hl with | [_, _, _], _ => rfl), PySem.W.mg_of X G g⟩
theorem dn_changedKey (W : WTxt P K C CQ CL CS CR cH PH cL PL) (X : K.In h) (G : h.Ns mainGlobals mg) : ∃ f fd, Dn K mg "changed_key" s_changedKey ["one", "other"] f fd := by
    obtain ⟨f, fd, g, F⟩ := W.d_changedKey
    exact ⟨f, fd, F, F.binds (ps := ["one", "other"]) (fun _ _ _ _ _ _ us hl => match us, hl with | [_, _], _ => rfl), PySem.W.mg_of X G g⟩
theorem dn_findNear (W : WTxt P K C CQ CL CS CR cH PH cL PL) (X : K.In h) (G : h.Ns mainGlobals mg) : ∃ f fd, Dn K mg "find_near" s_findNear ["store"] f fd := by
    obtain ⟨f, fd, g, F⟩ := W.d_findNear
    exact ⟨f, fd, F, F.binds (ps := ["store"]) (fun _ _ _ _ _ _ us hl => match us, hl with | [_], _ => rfl), PySem.W.mg_of X G g⟩
theorem dn_nearByKeys (W : WTxt P K C CQ CL CS CR cH PH cL PL) (X : K.In h) (G : h.Ns mainGlobals mg) : ∃ f fd, Dn K mg "near_by_keys" s_nearByKeys ["store"] f fd := by
    obtain ⟨f, fd, g, F⟩ := W.d_nearByKeys
    exact ⟨f, fd, F, F.binds (ps := ["store"]) (fun _ _ _ _ _ _ us hl => match us, hl with | [_], _ => rfl), PySem.W.mg_of X G g⟩
theorem dn_homesOf (W : WTxt P K C CQ CL CS CR cH PH cL PL) (X : K.In h) (G : h.Ns mainGlobals mg) : ∃ f fd, Dn K mg "homes_of" s_homesOf ["store", "lot"] f fd := by
    obtain ⟨f, fd, g, F⟩ := W.d_homesOf
    exact ⟨f, fd, F, F.binds (ps := ["store", "lot"]) (fun _ _ _ _ _ _ us hl => match us, hl with | [_, _], _ => rfl), PySem.W.mg_of X G g⟩
theorem dn_whole (W : WTxt P K C CQ CL CS CR cH PH cL PL) (X : K.In h) (G : h.Ns mainGlobals mg) : ∃ f fd, Dn K mg "whole" s_whole ["store", "lot"] f fd := by
    obtain ⟨f, fd, g, F⟩ := W.d_whole
    exact ⟨f, fd, F, F.binds (ps := ["store", "lot"]) (fun _ _ _ _ _ _ us hl => match us, hl with | [_, _], _ => rfl), PySem.W.mg_of X G g⟩
theorem dn_allLots (W : WTxt P K C CQ CL CS CR cH PH cL PL) (X : K.In h) (G : h.Ns mainGlobals mg) : ∃ f fd, Dn K mg "all_lots" s_allLots ["store"] f fd := by
    obtain ⟨f, fd, g, F⟩ := W.d_allLots
    exact ⟨f, fd, F, F.binds (ps := ["store"]) (fun _ _ _ _ _ _ us hl => match us, hl with | [_], _ => rfl), PySem.W.mg_of X G g⟩
theorem dn_findJoined (W : WTxt P K C CQ CL CS CR cH PH cL PL) (X : K.In h) (G : h.Ns mainGlobals mg) : ∃ f fd, Dn K mg "find_joined" s_findJoined ["store"] f fd := by
    obtain ⟨f, fd, g, F⟩ := W.d_findJoined
    exact ⟨f, fd, F, F.binds (ps := ["store"]) (fun _ _ _ _ _ _ us hl => match us, hl with | [_], _ => rfl), PySem.W.mg_of X G g⟩
theorem dn_isJoined (W : WTxt P K C CQ CL CS CR cH PH cL PL) (X : K.In h) (G : h.Ns mainGlobals mg) : ∃ f fd, Dn K mg "is_joined" s_isJoined ["store"] f fd := by
    obtain ⟨f, fd, g, F⟩ := W.d_isJoined
    exact ⟨f, fd, F, F.binds (ps := ["store"]) (fun _ _ _ _ _ _ us hl => match us, hl with | [_], _ => rfl), PySem.W.mg_of X G g⟩
theorem dn_lawDraw (W : WTxt P K C CQ CL CS CR cH PH cL PL) (X : K.In h) (G : h.Ns mainGlobals mg) : ∃ f fd, Dn K mg "_law_draw" s_lawDraw ["_law_script", "_law_salt"] f fd := by
    obtain ⟨f, fd, g, F⟩ := W.d_lawDraw
    exact ⟨f, fd, F, F.binds (ps := ["_law_script", "_law_salt"]) (fun _ _ _ _ _ _ us hl => match us, hl with | [_, _], _ => rfl), PySem.W.mg_of X G g⟩
theorem dn_lawAny (W : WTxt P K C CQ CL CS CR cH PH cL PL) (X : K.In h) (G : h.Ns mainGlobals mg) : ∃ f fd, Dn K mg "_law_any" s_lawAny ["_law_deal", "_law_bound"] f fd := by
    obtain ⟨f, fd, g, F⟩ := W.d_lawAny
    exact ⟨f, fd, F, F.binds (ps := ["_law_deal", "_law_bound"]) (fun _ _ _ _ _ _ us hl => match us, hl with | [_, _], _ => rfl), PySem.W.mg_of X G g⟩
theorem dn_lawOf (W : WTxt P K C CQ CL CS CR cH PH cL PL) (X : K.In h) (G : h.Ns mainGlobals mg) : ∃ f fd, Dn K mg "_law_of" s_lawOf ["_law_deal", "_law_some"] f fd := by
    obtain ⟨f, fd, g, F⟩ := W.d_lawOf
    exact ⟨f, fd, F, F.binds (ps := ["_law_deal", "_law_some"]) (fun _ _ _ _ _ _ us hl => match us, hl with | [_, _], _ => rfl), PySem.W.mg_of X G g⟩
theorem dn_lawMixed (W : WTxt P K C CQ CL CS CR cH PH cL PL) (X : K.In h) (G : h.Ns mainGlobals mg) : ∃ f fd, Dn K mg "_law_mixed" s_lawMixed ["_law_deal", "_law_some"] f fd := by
    obtain ⟨f, fd, g, F⟩ := W.d_lawMixed
    exact ⟨f, fd, F, F.binds (ps := ["_law_deal", "_law_some"]) (fun _ _ _ _ _ _ us hl => match us, hl with | [_, _], _ => rfl), PySem.W.mg_of X G g⟩
theorem dn_lawAll (W : WTxt P K C CQ CL CS CR cH PH cL PL) (X : K.In h) (G : h.Ns mainGlobals mg) : ∃ f fd, Dn K mg "_law_all" s_lawAll ["_law_sizes_here"] f fd := by
    obtain ⟨f, fd, g, F⟩ := W.d_lawAll
    exact ⟨f, fd, F, F.binds (ps := ["_law_sizes_here"]) (fun _ _ _ _ _ _ us hl => match us, hl with | [_], _ => rfl), PySem.W.mg_of X G g⟩
theorem dn_lawSizes (W : WTxt P K C CQ CL CS CR cH PH cL PL) (X : K.In h) (G : h.Ns mainGlobals mg) : ∃ f fd, Dn K mg "_law_sizes" s_lawSizes ["_law_deal", "_law_most"] f fd := by
    obtain ⟨f, fd, g, F⟩ := W.d_lawSizes
    exact ⟨f, fd, F, F.binds (ps := ["_law_deal", "_law_most"]) (fun _ _ _ _ _ _ us hl => match us, hl with | [_, _], _ => rfl), PySem.W.mg_of X G g⟩
theorem dn_lawAgree (W : WTxt P K C CQ CL CS CR cH PH cL PL) (X : K.In h) (G : h.Ns mainGlobals mg) : ∃ f fd, Dn K mg "_law_agree" s_lawAgree ["_law_one", "_law_other"] f fd := by
    obtain ⟨f, fd, g, F⟩ := W.d_lawAgree
    exact ⟨f, fd, F, F.binds (ps := ["_law_one", "_law_other"]) (fun _ _ _ _ _ _ us hl => match us, hl with | [_, _], _ => rfl), PySem.W.mg_of X G g⟩
theorem dn_lawReached (W : WTxt P K C CQ CL CS CR cH PH cL PL) (X : K.In h) (G : h.Ns mainGlobals mg) : ∃ f fd, Dn K mg "_law_reached" s_lawReached ["_law_states", "_law_state", "_law_keys"] f fd := by
    obtain ⟨f, fd, g, F⟩ := W.d_lawReached
    exact ⟨f, fd, F, F.binds (ps := ["_law_states", "_law_state", "_law_keys"]) (fun _ _ _ _ _ _ us hl => match us, hl with | [_, _, _], _ => rfl), PySem.W.mg_of X G g⟩
theorem dn_lawJoined (W : WTxt P K C CQ CL CS CR cH PH cL PL) (X : K.In h) (G : h.Ns mainGlobals mg) : ∃ f fd, Dn K mg "_law_joined" s_lawJoined ["_law_states"] f fd := by
    obtain ⟨f, fd, g, F⟩ := W.d_lawJoined
    exact ⟨f, fd, F, F.binds (ps := ["_law_states"]) (fun _ _ _ _ _ _ us hl => match us, hl with | [_], _ => rfl), PySem.W.mg_of X G g⟩
theorem dn_lawJoinedStore (W : WTxt P K C CQ CL CS CR cH PH cL PL) (X : K.In h) (G : h.Ns mainGlobals mg) : ∃ f fd, Dn K mg "_law_joined_store" s_lawJoinedStore ["_law_deal", "_law_most"] f fd := by
    obtain ⟨f, fd, g, F⟩ := W.d_lawJoinedStore
    exact ⟨f, fd, F, F.binds (ps := ["_law_deal", "_law_most"]) (fun _ _ _ _ _ _ us hl => match us, hl with | [_, _], _ => rfl), PySem.W.mg_of X G g⟩
theorem dn_lawStore (W : WTxt P K C CQ CL CS CR cH PH cL PL) (X : K.In h) (G : h.Ns mainGlobals mg) : ∃ f fd, Dn K mg "_law_store" s_lawStore ["_law_deal", "_law_most"] f fd := by
    obtain ⟨f, fd, g, F⟩ := W.d_lawStore
    exact ⟨f, fd, F, F.binds (ps := ["_law_deal", "_law_most"]) (fun _ _ _ _ _ _ us hl => match us, hl with | [_, _], _ => rfl), PySem.W.mg_of X G g⟩
theorem dn_lawTwoStores (W : WTxt P K C CQ CL CS CR cH PH cL PL) (X : K.In h) (G : h.Ns mainGlobals mg) : ∃ f fd, Dn K mg "_law_two_stores" s_lawTwoStores ["_law_deal", "_law_most"] f fd := by
    obtain ⟨f, fd, g, F⟩ := W.d_lawTwoStores
    exact ⟨f, fd, F, F.binds (ps := ["_law_deal", "_law_most"]) (fun _ _ _ _ _ _ us hl => match us, hl with | [_, _], _ => rfl), PySem.W.mg_of X G g⟩
theorem dn_lawRefusal (W : WTxt P K C CQ CL CS CR cH PH cL PL) (X : K.In h) (G : h.Ns mainGlobals mg) : ∃ f fd, Dn K mg "_law_refusal" s_lawRefusal ["_law_work"] f fd := by
    obtain ⟨f, fd, g, F⟩ := W.d_lawRefusal
    exact ⟨f, fd, F, F.binds (ps := ["_law_work"]) (fun _ _ _ _ _ _ us hl => match us, hl with | [_], _ => rfl), PySem.W.mg_of X G g⟩
theorem dn_lawPut (W : WTxt P K C CQ CL CS CR cH PH cL PL) (X : K.In h) (G : h.Ns mainGlobals mg) : ∃ f fd, Dn K mg "_law_put" s_lawPut ["_law_states", "_law_rows", "_law_pairs", "_law_rest"] f fd := by
    obtain ⟨f, fd, g, F⟩ := W.d_lawPut
    exact ⟨f, fd, F, F.binds (ps := ["_law_states", "_law_rows", "_law_pairs", "_law_rest"]) (fun _ _ _ _ _ _ us hl => match us, hl with | [_, _, _, _], _ => rfl), PySem.W.mg_of X G g⟩
theorem dn_lawPairsOf (W : WTxt P K C CQ CL CS CR cH PH cL PL) (X : K.In h) (G : h.Ns mainGlobals mg) : ∃ f fd, Dn K mg "_law_pairs_of" s_lawPairsOf ["_law_deal", "_law_sizes_here", "_law_others", "_law_most"] f fd := by
    obtain ⟨f, fd, g, F⟩ := W.d_lawPairsOf
    exact ⟨f, fd, F, F.binds (ps := ["_law_deal", "_law_sizes_here", "_law_others", "_law_most"]) (fun _ _ _ _ _ _ us hl => match us, hl with | [_, _, _, _], _ => rfl), PySem.W.mg_of X G g⟩
theorem dn_lawBad (W : WTxt P K C CQ CL CS CR cH PH cL PL) (X : K.In h) (G : h.Ns mainGlobals mg) : ∃ f fd, Dn K mg "_law_bad" s_lawBad ["_law_deal", "_law_sizes_here", "_law_others", "_law_pairs"] f fd := by
    obtain ⟨f, fd, g, F⟩ := W.d_lawBad
    exact ⟨f, fd, F, F.binds (ps := ["_law_deal", "_law_sizes_here", "_law_others", "_law_pairs"]) (fun _ _ _ _ _ _ us hl => match us, hl with | [_, _, _, _], _ => rfl), PySem.W.mg_of X G g⟩
theorem dn_homes (W : WTxt P K C CQ CL CS CR cH PH cL PL) (X : K.In h) (G : h.Ns mainGlobals mg) : ∃ f fd, Dn K mg "homes" s_homes ["store", "lot"] f fd ∧ fd.code = .ref cH := by
    obtain ⟨f, fd, g, F, hc⟩ := W.d_homes
    exact ⟨f, fd, ⟨F, F.binds (ps := ["store", "lot"]) (fun _ _ _ _ _ _ us hl => match us, hl with | [_, _], _ => rfl), PySem.W.mg_of X G g⟩, hc⟩
/-- law's table and that of homes -/
abbrev tabsT (PL PH : Addr) : List (Addr × Str) := [(PL, (("law" : Str) ++ ".<locals>.") ++ "<lambda>"), (PH, (("homes" : Str) ++ ".<locals>.") ++ "<lambda>")]
theorem lawG_of {base : Heap} (W : WTxt P K C CQ CL CS CR cH PH cL PL) (X : K.In h) (G : h.Ns mainGlobals mg) (TBH : LamX.TabB base mg cH PH) : LawG P w K mg base (tabsT PL PH) C CL CR := by
  have B := blt_of W X G
  have T : StTxt K mg C := stTxt_of W
  obtain ⟨f_isInteger, fd_isInteger, D_isInteger⟩ := dn_isInteger W X G
  obtain ⟨f_isNumber, fd_isNumber, D_isNumber⟩ := dn_isNumber W X G
  obtain ⟨f_isIndex, fd_isIndex, D_isIndex⟩ := dn_isIndex W X G
  obtain ⟨f_isSequence, fd_isSequence, D_isSequence⟩ := dn_isSequence W X G
  obtain ⟨f_isStateOf, fd_isStateOf, D_isStateOf⟩ := dn_isStateOf W X G
  obtain ⟨f_checkedLot, fd_checkedLot, D_checkedLot⟩ := dn_checkedLot W X G
  obtain ⟨f_otherKeys, fd_otherKeys, D_otherKeys⟩ := dn_otherKeys W X G
  obtain ⟨f_seenOn, fd_seenOn, D_seenOn⟩ := dn_seenOn W X G
  obtain ⟨f_near, fd_near, D_near⟩ := dn_near W X G
  obtain ⟨f_isKeyPair, fd_isKeyPair, D_isKeyPair⟩ := dn_isKeyPair W X G
  obtain ⟨f_checkedPairs, fd_checkedPairs, D_checkedPairs⟩ := dn_checkedPairs W X G
  obtain ⟨f_putTogether, fd_putTogether, D_putTogether⟩ := dn_putTogether W X G
  obtain ⟨f_changedKey, fd_changedKey, D_changedKey⟩ := dn_changedKey W X G
  obtain ⟨f_findNear, fd_findNear, D_findNear⟩ := dn_findNear W X G
  obtain ⟨f_nearByKeys, fd_nearByKeys, D_nearByKeys⟩ := dn_nearByKeys W X G
  obtain ⟨f_homesOf, fd_homesOf, D_homesOf⟩ := dn_homesOf W X G
  obtain ⟨f_whole, fd_whole, D_whole⟩ := dn_whole W X G
  obtain ⟨f_allLots, fd_allLots, D_allLots⟩ := dn_allLots W X G
  obtain ⟨f_findJoined, fd_findJoined, D_findJoined⟩ := dn_findJoined W X G
  obtain ⟨f_isJoined, fd_isJoined, D_isJoined⟩ := dn_isJoined W X G
  obtain ⟨f_lawDraw, fd_lawDraw, D_lawDraw⟩ := dn_lawDraw W X G
  obtain ⟨f_lawAny, fd_lawAny, D_lawAny⟩ := dn_lawAny W X G
  obtain ⟨f_lawOf, fd_lawOf, D_lawOf⟩ := dn_lawOf W X G
  obtain ⟨f_lawMixed, fd_lawMixed, D_lawMixed⟩ := dn_lawMixed W X G
  obtain ⟨f_lawAll, fd_lawAll, D_lawAll⟩ := dn_lawAll W X G
  obtain ⟨f_lawSizes, fd_lawSizes, D_lawSizes⟩ := dn_lawSizes W X G
  obtain ⟨f_lawAgree, fd_lawAgree, D_lawAgree⟩ := dn_lawAgree W X G
  obtain ⟨f_lawReached, fd_lawReached, D_lawReached⟩ := dn_lawReached W X G
  obtain ⟨f_lawJoined, fd_lawJoined, D_lawJoined⟩ := dn_lawJoined W X G
  obtain ⟨f_lawJoinedStore, fd_lawJoinedStore, D_lawJoinedStore⟩ := dn_lawJoinedStore W X G
  obtain ⟨f_lawStore, fd_lawStore, D_lawStore⟩ := dn_lawStore W X G
  obtain ⟨f_lawTwoStores, fd_lawTwoStores, D_lawTwoStores⟩ := dn_lawTwoStores W X G
  obtain ⟨f_lawRefusal, fd_lawRefusal, D_lawRefusal⟩ := dn_lawRefusal W X G
  obtain ⟨f_lawPut, fd_lawPut, D_lawPut⟩ := dn_lawPut W X G
  obtain ⟨f_lawPairsOf, fd_lawPairsOf, D_lawPairsOf⟩ := dn_lawPairsOf W X G
  obtain ⟨f_lawBad, fd_lawBad, D_lawBad⟩ := dn_lawBad W X G
  obtain ⟨f_homes, fd_homes, D_homes, hc_homes⟩ := dn_homes W X G
  obtain ⟨fI, fdI, mI, FI⟩ := W.m_StoreInit
  obtain ⟨fF, fdF, mF, FF⟩ := W.m_StoreFound
  obtain ⟨fX, fdX, mX, FX⟩ := W.m_StoreIndexOf
  have bI : Binds K fdI ["self", "sizes", "states"] [] := FI.binds fun _ _ _ _ _ _ us hl => match us, hl with | [_, _, _], _ => rfl
  have bF : Binds K fdF ["self", "word", "work"] [] := FF.binds fun _ _ _ _ _ _ us hl => match us, hl with | [_, _, _], _ => rfl
  have bX : Binds K fdX ["self", "state"] [] := FX.binds fun _ _ _ _ _ _ us hl => match us, hl with | [_, _], _ => rfl
  have MkSt : Mk K C fI := ⟨W.c_mk, mI.at_, mI.fn, W.c_kc⟩
  have hSt := PySem.W.mg_of X G W.aC
  obtain ⟨_, _, _, xL⟩ := W.x_CL
  obtain ⟨_, _, _, xR⟩ := W.x_CR
  have ML : MkAt P K mg "InvalidLot" CL := mkAt_of (xL mg (PySem.W.mg_of X G W.e_CL.a) B.super) (by decide)
  have MR : MkAt P K mg "Refused" CR := mkAt_of (xR mg (PySem.W.mg_of X G W.e_CR.a) B.super) (by decide)
  -- the law's own defs
  have G_lawAny : FnOk P w K mg base CX0 1 f_lawAny fd_lawAny _ _ := ok_lawAny D_lawAny.F B
  have G_lawOf : FnOk P w K mg base CX0 2 f_lawOf fd_lawOf _ _ := ok_lawOf D_lawOf.F B D_lawAny
  have G_lawMixed : FnOk P w K mg base CX0 2 f_lawMixed fd_lawMixed _ _ := ok_lawMixed D_lawMixed.F B D_lawAny
  have G_lawAll : FnOk P w K mg base CX0 1 f_lawAll fd_lawAll _ _ := ok_lawAll D_lawAll.F B
  have G_lawSizes : FnOk P w K mg base CX0 3 f_lawSizes fd_lawSizes _ _ := ok_lawSizes D_lawSizes.F B D_lawOf G_lawOf
  have G_lawJoined : FnOk P w K mg base CX0 3 f_lawJoined fd_lawJoined _ _ := ok_lawJoined D_lawJoined.F B D_lawAgree D_lawReached
  have G_lawDraw : FnOk P w K mg base CX0 1 f_lawDraw fd_lawDraw _ _ := ok_lawDraw D_lawDraw.F B
  have G_lawJoinedStore : FnOk P w K mg base CX0 4 f_lawJoinedStore fd_lawJoinedStore _ _ := ok_lawJoinedStore D_lawJoinedStore.F B D_lawSizes G_lawSizes D_lawAny G_lawAny D_lawAll G_lawAll D_lawOf G_lawOf D_lawJoined G_lawJoined
  have G_lawStore : FnOk P w K mg base CX0 4 f_lawStore fd_lawStore _ _ := ok_lawStore D_lawStore.F B D_lawSizes G_lawSizes D_lawAny G_lawAny D_lawAll G_lawAll D_lawOf G_lawOf
  have G_lawTwoStores : FnOk P w K mg base CX0 5 f_lawTwoStores fd_lawTwoStores _ _ := ok_lawTwoStores D_lawTwoStores.F B D_lawAny G_lawAny D_lawStore G_lawStore D_lawJoinedStore G_lawJoinedStore
  have G_lawPut : FnOk P w K mg base CX0 1 f_lawPut fd_lawPut _ _ := ok_lawPut D_lawPut.F B
  have G_lawPairsOf : FnOk P w K mg base CX0 3 f_lawPairsOf fd_lawPairsOf _ _ := ok_lawPairsOf D_lawPairsOf.F B D_lawMixed G_lawMixed D_lawOf G_lawOf
  have G_lawBad : FnOk P w K mg base CX0 3 f_lawBad fd_lawBad _ _ := ok_lawBad D_lawBad.F B D_lawAny G_lawAny D_lawOf G_lawOf
  -- the program's
  have G_isInteger : FnOk P w K mg base CX0 1 f_isInteger fd_isInteger _ _ := ok_isInteger D_isInteger.F B
  have G_isNumber : FnOk P w K mg base CX0 2 f_isNumber fd_isNumber _ _ := ok_isNumber D_isNumber.F B D_isInteger
  have G_isIndex : FnOk P w K mg base CX0 3 f_isIndex fd_isIndex _ _ := ok_isIndex D_isIndex.F B D_isInteger D_isNumber
  have G_isSequence : FnOk P w K mg base CX0 1 f_isSequence fd_isSequence _ _ := ok_isSequence D_isSequence.F B
  have G_isStateOf : FnOk P w K mg base CX0 4 f_isStateOf fd_isStateOf _ _ := ok_isStateOf D_isStateOf.F B D_isSequence D_isIndex G_isIndex
  have G_StoreInit : FnOk P w K mg base CX0 5 fI fdI _ (spStoreInit C) := ok_StoreInit FI B T D_isSequence G_isSequence D_isNumber G_isNumber D_isStateOf G_isStateOf
  have G_seenOn : FnOk P w K mg base CX0 1 f_seenOn fd_seenOn _ _ := ok_seenOn D_seenOn.F B
  have G_isKeyPair : FnOk P w K mg base CX0 4 f_isKeyPair fd_isKeyPair _ (spIsKeyPair C) := ok_isKeyPair D_isKeyPair.F B T D_isIndex G_isIndex
  have G_checkedPairs : FnOk P w K mg base CX0 5 f_checkedPairs fd_checkedPairs _ (spChecked C) := ok_checkedPairs D_checkedPairs.F B D_isSequence G_isSequence D_isKeyPair G_isKeyPair
  have G_checkedBad : FnOk P w K mg base (L2.CX P w) 5 f_checkedPairs fd_checkedPairs _ (spCheckedBad C CL) := ok_checkedPairsBad D_checkedPairs.F B ML D_isSequence G_isSequence D_isKeyPair G_isKeyPair
  have G_put : FnOk P w K mg base CX0 7 f_putTogether fd_putTogether _ (spPutTogether C) := ok_putTogether D_putTogether.F B T hSt MkSt bI G_StoreInit D_checkedPairs G_checkedPairs
  have G_putBad : FnOk P w K mg base (L2.CX P w) 7 f_putTogether fd_putTogether _ (spPutBad C CL) := ok_putTogetherBad D_putTogether.F B T MR hSt MkSt bI G_StoreInit D_checkedPairs G_checkedBad
  have G_putRefused : FnOk P w K mg base (L2.CX P w) 7 f_putTogether fd_putTogether _ (spPutRefused C CR) := ok_putTogetherRefused D_putTogether.F B T MR hSt MkSt bI G_StoreInit D_checkedPairs G_checkedPairs
  have G_changedKey : FnOk P w K mg base CX0 1 f_changedKey fd_changedKey _ _ := ok_changedKey D_changedKey.F B
  have G_checkedLot : FnOk P w K mg base CX0 4 f_checkedLot fd_checkedLot _ (spCheckedLot C) := ok_checkedLot D_checkedLot.F B T D_isSequence G_isSequence D_isIndex G_isIndex
  have G_otherKeys : FnOk P w K mg base CX0 5 f_otherKeys fd_otherKeys _ (spOtherKeys C) := ok_otherKeys D_otherKeys.F B T D_checkedLot G_checkedLot
  have G_indexOf : FnOk P w K mg base CX0 1 fX fdX _ (spIndexOf C) := ok_indexOf FX T
  have G_near : FnOk P w K mg base CX0 2 f_near fd_near _ (spNear C) := ok_near D_near.F B T mX bX G_indexOf
  have G_findNear : FnOk P w K mg base CX0 3 f_findNear fd_findNear _ (spFindNear C) := ok_findNear D_findNear.F B T D_near G_near D_changedKey G_changedKey
  have G_homesOf : ∀ ks, FnOk P w K mg base CX0 6 f_homesOf fd_homesOf ["store", "lot"] (spHomesOf C (FoundAt w (tabsT PL PH) (A1 ks))) := fun ks => by
    have nj : ¬ A1 ks (.text "near") := fun z => by
      rcases z with z | z
      · injection z with z
        exact absurd z (by decide)
      · cases z
    have g1 : FnOk P w K mg base CX0 4 fF fdF ["self", "word", "work"] (spFoundNear C f_findNear (FoundAt w (tabsT PL PH) (A1 ks))) := ok_foundNear nj FF T D_findNear.F.kp D_findNear.b G_findNear
    have g2 : FnOk P w K mg base CX0 5 f_nearByKeys fd_nearByKeys ["store"] (spNearByKeys C (FoundAt w (tabsT PL PH) (A1 ks))) := ok_nearByKeys D_nearByKeys.F T mF bF D_findNear.g g1
    exact ok_homesOf found_hid D_homesOf.F B T D_nearByKeys g2
  have G_homes : FnOk P w K mg base CX0 9 f_homes fd_homes ["store", "lot"] (spHomes C (FoundAt w (tabsT PL PH) A0)) := ok_homes D_homes.F hc_homes TBH (.tail _ (.head _)) (fun p hp e => by
    simp only [List.mem_cons, List.not_mem_nil, or_false] at hp
    rcases hp with rfl | rfl
    · exact absurd e W.ne
    · rfl) T FF mF bF D_homesOf G_homesOf
  have G_whole : FnOk P w K mg base CX0 10 f_whole fd_whole ["store", "lot"] (spWhole C (FoundAt w (tabsT PL PH) A0)) := ok_whole found_hid D_whole.F B T D_homes G_homes D_otherKeys G_otherKeys D_seenOn G_seenOn
  have G_allLots : FnOk P w K mg base CX0 1 f_allLots fd_allLots ["store"] (spAllLots C) := ok_allLots D_allLots.F B T
  have G_findJoined : FnOk P w K mg base CX0 11 f_findJoined fd_findJoined ["store"] (spFindJoined C (FoundAt w (tabsT PL PH) A0)) := ok_findJoined found_hid D_findJoined.F B D_allLots G_allLots D_whole G_whole
  have G_foundJoined : FnOk P w K mg base CX0 12 fF fdF ["self", "word", "work"] (spFoundJoined C f_findJoined w (tabsT PL PH)) := ok_foundJoined FF T D_findJoined.F.kp D_findJoined.b G_findJoined
  have G_isJoined : FnOk P w K mg base CX0 13 f_isJoined fd_isJoined ["store"] (spIsJoined C (tabsT PL PH)) := ok_isJoined D_isJoined.F T mF bF D_findJoined.g G_foundJoined
  exact ⟨B, T, ⟨⟨W.c_pg, W.c_hd, W.c_po, W.c_sa⟩, W.c_ha, W.c_hn, W.c_ht, W.c_hm⟩, hSt, ⟨_, _, MkSt, bI, G_StoreInit⟩, ⟨_, _, D_lawDraw, G_lawDraw⟩, ⟨_, _, D_lawTwoStores, G_lawTwoStores⟩, ⟨_, _, D_lawMixed, G_lawMixed⟩, ⟨_, _, D_lawPairsOf, G_lawPairsOf⟩, ⟨_, _, D_lawOf, G_lawOf⟩, ⟨_, _, D_lawPut, G_lawPut⟩, ⟨_, _, D_lawAny, G_lawAny⟩, ⟨_, _, D_lawBad, G_lawBad⟩, ⟨_, _, D_lawJoined, G_lawJoined⟩, ⟨_, _, D_isJoined, G_isJoined⟩, ⟨_, _, D_putTogether, G_put, G_putBad, G_putRefused⟩⟩
theorem refK_of (W : WTxt P K C CQ CL CS CR cH PH cL PL) (X : K.In h) (G : h.Ns mainGlobals mg) : ∃ g fdR, RefK K mg g CQ CL CS CR fdR := by
  obtain ⟨f, fd, D⟩ := dn_lawRefusal W X G
  exact ⟨f, fd, D, W.e_CQ.t X G, W.e_CL.t X G, W.e_CS.t X G, W.e_CR.t X G, W.l1, W.l2, W.r1, W.r2, W.r3, W.r4⟩
end
end Bp

set_option Elab.async false
set_option linter.all false
set_option maxRecDepth 100000
set_option maxHeartbeats 4000000
namespace Bp
open PySem PySem.Spec PyProof.Rows L2 Evl
section
open PySem.W PySem.HandSPX
theorem x_in {P : Program} {K : Frag} {nm qual msg : Str} {C fI cc cda : Addr} {nm' q : Str} {N : Addr} {bs bm : List Value} {sn : List Str} {sub : List Value} {ab : Bool} {col : Option Bool} {dd : Option Addr} {k0 k1 k2 k3 k5 : Option Value}
    {oc : Value} {od : Option Addr} {doc pm : Value} {an : Option Addr} {ct : Value} {osl : Array (Option Value)} {p1 p2 a1 a2 a3 a4 a5 a6 b1 b2 b3 b4 : Pos} {j : Nat} {cl : Value} {cld : Option Addr} {csl : Array (Option Value)} {ccl : Value} {cdd : Option Addr} {vs : Array Value} {ccs : Array (Option Value)} {file : Str} {tf : Tok}
    (xL : K.lookup C = some (excClassObj nm' q C N bs bm true sn sub ab col dd k0 k1 k2 k3 k5 "ValueError.__new__")) (hbm : refsVE bm = true)
    (sa : findIn K (.ref C) "__setattr__" = some (some (.builtin "object.__setattr__"))) (ga : findIn K (.ref C) "__getattribute__" = some (some (.builtin "BaseException.__getattribute__"))) (gg : findIn K (.ref C) "__getattr__" = some none) (noN : findIn K (.ref C) "at" = some none)
    (iC : findIn K (.ref C) "__init__" = some (some (.ref fI))) (tC : typeIn K (.ref fI) = some (.type "function")) (kC : keepIn K (.ref C) = true) (exC : subIn K (.ref C) (.type "BaseException") = some true) (veC : subIn K (.ref C) (.type "ValueError") = some true) (tyC : typeIn K (.ref C) = some (.type "type")) (hdC : hasDictIn K C = true)
    (lfn : K.lookup fI = some ⟨oc, od, .func (ksFn "__init__" qual (xA p1 p2) (xB msg a1 a2 a3 a4 a5 a6 b1 b2 b3 b4 j) xS .none .none doc pm an (.ref cda) ct cc), osl⟩) (hcd : codeIn K (.ref cda) qual = true)
    (hcell : K.lookup cc = some ⟨cl, cld, .cell (some (.ref C)), csl⟩) (hcode : K.lookup cda = some ⟨ccl, cdd, .fields vs, ccs⟩) (hv2 : vs[2]? = some (.str file tf)) (hfile : ((P.main.file : Str) == file) = true) (top : (P.main.scope.names.lookup ("super" : Str)).isSome = false)
    (sub2 : mroIn K C (.ref C) = some true) (nop : nsIn K cStatics "thirdparty.any" = some none) (sup : ks_superIn K C C "__init__" = some (some (.builtin "ValueError.__init__")))
    (hev : ∀ env : Env, env.scope = xS → ∃ pl : Sem Bool, eval (.Call (.Attribute (.Call (.Name "super" a1) [] [] a2) "__init__" a3) [.Constant (.str msg) j a4] [] a5) env = (do
      let ov ← attributeBase (.Call (.Name "super" a1) [] [] a2) "__init__" env (eval (.Call (.Name "super" a1) [] [] a2) env)
      standAt a3.atName
      let (f, first) ← holding [ov] (getMethod ov "__init__" pl)
      callWith a5 f first (backTo a5 (starEach [.Constant (.str msg) j a4] env)) [])) : XIn P K nm qual msg C :=
  ⟨fI, cc, cda, fun mg gC gs => ⟨gC, gs, ⟨_, _, _, _, _, _, _, _, _, _, _, _, _, _, _, xL, hbm⟩, sa, ga, gg, noN, iC, tC, kC, exC, veC, tyC, hdC, ⟨_, _, _, hcell⟩, ⟨_, _, _, _, _, _, hcode, hv2, hfile⟩, top, sub2, nop, sup, ⟨_, _, _, _, _, _, _, _, _, _, _, _, _, _, _, _, _, _, _, _, lfn, hcd, hev⟩⟩⟩
end
/-- the whole row, from what the written part tells -/
theorem walk_law {l : PySem.W.OpenLaw} {q : Program} {loose : List Str} {XP : (Str → Option Value) → Heap → Prop} {d : DefRec} {K : Params → PySem.W.Frag} {as : List Addr} {e : ∀ P, as = (K P).map (·.1)} {C CQ CL CS CR cH PH cL PL : Addr} (hn : l.most = some 63) (hdf : d.params.defaults = []) (hd0 : d.name = ("law" : Str))
    (W : ∀ w : World, WTxt l.prog (K w.params) C CQ CL CS CR cH PH cL PL) : PySem.W.WalkO q loose XP (PySem.W.kmHook K as e [PH, PL]).says l.row.toRowW d [] (fun f vs => PySem.call f vs) := by
  refine Att.attach_callB hn hdf fun w s₀ s₁ mg mb fa o pm cd doc a vs ns G Y ho hd hcd hmg hobj hints hlen hbits hg => ?_
  have X := PySem.W.km_in_of Y
  have T8 := PySem.W.km_tabs_of Y
  have Wt := W w
  obtain ⟨f, fd, g, F, hc⟩ := Wt.d_law
  rw [hd0] at hmg
  have e := hmg.symm.trans (PySem.W.mg_of X G.T.g g)
  cases e
  have st : Stand (K w.params) mg mb s₁ [(cL, PL), (cH, PH)] a vs ns :=
    { kin := X, g := G.T.g, b := G.T.b, bb := G.T.builtins, lim := G.T.nolimit, gens := hg
      tab := fun p hp => by
        simp only [List.mem_cons, List.not_mem_nil, or_false] at hp
        rcases hp with rfl | rfl
        · exact T8 PL (.tail _ (.head _))
        · exact T8 PH (.head _)
      noK := fun p hp => by
        simp only [List.mem_cons, List.not_mem_nil, or_false] at hp
        rcases hp with rfl | rfl
        · exact Wt.n_law
        · exact Wt.n_homes
      hd := fun p hp => by
        simp only [List.mem_cons, List.not_mem_nil, or_false] at hp
        rcases hp with rfl | rfl
        · exact PySem.W.codeHd_of_K X Wt.h_law
        · exact PySem.W.codeHd_of_K X Wt.h_homes
      bm := G.T.bmain, obj := hobj, are := hints, len := Nat.le_trans hlen (by decide) }
  refine st.call fun base H kb nb TB tb0 src e0 => ?_
  obtain ⟨gR, fdR, RK⟩ := refK_of Wt kb nb
  have LG : LawG l.prog w (K w.params) mg base (tabsT PL PH) C CL CR := lawG_of Wt kb nb (TB _ (.tail _ (.head _)))
  have hb : BindsTo s₁ fd ⟨[.ref a], []⟩ ((["_law_script"] : List Str).zip [.ref a]) := by
    obtain ⟨oc, od, kV, doc', pm', an, cdv, ct, osl, rfl, _⟩ := F.ex
    exact .of_eq rfl
  refine run_law F hb LG RK ⟨hc, TB _ (.head _), .head _, fun p hp e => ?_⟩ rfl ⟨rfl, by decide, by decide⟩ e0 src hlen fun p hp => ?_
  · simp only [List.mem_cons, List.not_mem_nil, or_false] at hp
    rcases hp with rfl | rfl
    · rfl
    · exact absurd e.symm Wt.ne
  · simp only [List.mem_cons, List.not_mem_nil, or_false] at hp
    rcases hp with rfl | rfl
    · exact .nil (tb0 (cL, PL) (.head _))
    · exact .nil (tb0 (cH, PH) (.tail _ (.head _)))
end Bp

set_option Elab.async false
open PySem PySem.W PyProof.Rows
set_option maxRecDepth 100000 in
set_option maxHeartbeats 0 in
theorem PySem.Challenge.cw_bothplans_k21_whole_stores_put_together_holds : PySem.Challenge.rw_bothplans_k21_whole_stores_put_together.Holds := by
  w_on; o_law; k_head; (case hw => w_witness2)
  k_fill
  refine' Bp.walk_law rfl rfl rfl ?W
  case W =>
    intro w
    refine' Bp.WTxt.mk ?d_isInteger ?d_isNumber ?d_isIndex ?d_isSequence ?d_isStateOf ?d_checkedLot ?d_otherKeys ?d_seenOn ?d_near ?d_isKeyPair ?d_checkedPairs ?d_putTogether ?d_changedKey ?d_findNear ?d_nearByKeys ?d_homesOf ?d_whole ?d_allLots ?d_findJoined ?d_isJoined ?d_lawDraw ?d_lawAny ?d_lawOf ?d_lawMixed ?d_lawAll ?d_lawSizes ?d_lawAgree ?d_lawReached ?d_lawJoined ?d_lawJoinedStore ?d_lawStore ?d_lawTwoStores ?d_lawRefusal ?d_lawPut ?d_lawPairsOf ?d_lawBad ?d_homes ?d_law ?h_homes ?n_homes ?h_law ?n_law ?ne ?aC ?c_pg ?c_hd ?c_po ?c_sa ?c_nC ?c_nZ ?c_nS ?c_nI ?c_nF ?c_mk ?c_kc ?c_ha ?c_hn ?c_ht ?c_hm ?m_StoreInit ?m_StoreFound ?m_StoreIndexOf ?e_CQ ?e_CL ?e_CS ?e_CR ?x_CL ?x_CR ?l1 ?l2 ?r1 ?r2 ?r3 ?r4 ?b_len ?b_abs ?b_int ?b_bool ?b_sum ?b_min ?b_any ?b_all ?b_list ?b_tuple ?b_set ?b_sorted ?b_range ?b_enumerate ?b_zip ?b_isinstance ?b_repr ?b_super
    case d_isInteger => refine' Bp.def_in ?a ?l ?c ?k; (case a => k_is); (case l => k_is); (case c => k_is); (case k => k_is)
    case d_isNumber => refine' Bp.def_in ?a ?l ?c ?k; (case a => k_is); (case l => k_is); (case c => k_is); (case k => k_is)
    case d_isIndex => refine' Bp.def_in ?a ?l ?c ?k; (case a => k_is); (case l => k_is); (case c => k_is); (case k => k_is)
    case d_isSequence => refine' Bp.def_in ?a ?l ?c ?k; (case a => k_is); (case l => k_is); (case c => k_is); (case k => k_is)
    case d_isStateOf => refine' Bp.def_in ?a ?l ?c ?k; (case a => k_is); (case l => k_is); (case c => k_is); (case k => k_is)
    case d_checkedLot => refine' Bp.def_in ?a ?l ?c ?k; (case a => k_is); (case l => k_is); (case c => k_is); (case k => k_is)
    case d_otherKeys => refine' Bp.def_in ?a ?l ?c ?k; (case a => k_is); (case l => k_is); (case c => k_is); (case k => k_is)
    case d_seenOn => refine' Bp.def_in ?a ?l ?c ?k; (case a => k_is); (case l => k_is); (case c => k_is); (case k => k_is)
    case d_near => refine' Bp.def_in ?a ?l ?c ?k; (case a => k_is); (case l => k_is); (case c => k_is); (case k => k_is)
    case d_isKeyPair => refine' Bp.def_in ?a ?l ?c ?k; (case a => k_is); (case l => k_is); (case c => k_is); (case k => k_is)
    case d_checkedPairs => refine' Bp.def_in ?a ?l ?c ?k; (case a => k_is); (case l => k_is); (case c => k_is); (case k => k_is)
    case d_putTogether => refine' Bp.def_in ?a ?l ?c ?k; (case a => k_is); (case l => k_is); (case c => k_is); (case k => k_is)
    case d_changedKey => refine' Bp.def_in ?a ?l ?c ?k; (case a => k_is); (case l => k_is); (case c => k_is); (case k => k_is)
    case d_findNear => refine' Bp.def_in ?a ?l ?c ?k; (case a => k_is); (case l => k_is); (case c => k_is); (case k => k_is)
    case d_nearByKeys => refine' Bp.def_in ?a ?l ?c ?k; (case a => k_is); (case l => k_is); (case c => k_is); (case k => k_is)
    case d_homesOf => refine' Bp.def_in ?a ?l ?c ?k; (case a => k_is); (case l => k_is); (case c => k_is); (case k => k_is)
    case d_whole => refine' Bp.def_in ?a ?l ?c ?k; (case a => k_is); (case l => k_is); (case c => k_is); (case k => k_is)
    case d_allLots => refine' Bp.def_in ?a ?l ?c ?k; (case a => k_is); (case l => k_is); (case c => k_is); (case k => k_is)
    case d_findJoined => refine' Bp.def_in ?a ?l ?c ?k; (case a => k_is); (case l => k_is); (case c => k_is); (case k => k_is)
    case d_isJoined => refine' Bp.def_in ?a ?l ?c ?k; (case a => k_is); (case l => k_is); (case c => k_is); (case k => k_is)
    case d_lawDraw => refine' Bp.def_in ?a ?l ?c ?k; (case a => k_is); (case l => k_is); (case c => k_is); (case k => k_is)
    case d_lawAny => refine' Bp.def_in ?a ?l ?c ?k; (case a => k_is); (case l => k_is); (case c => k_is); (case k => k_is)
    case d_lawOf => refine' Bp.def_in ?a ?l ?c ?k; (case a => k_is); (case l => k_is); (case c => k_is); (case k => k_is)
    case d_lawMixed => refine' Bp.def_in ?a ?l ?c ?k; (case a => k_is); (case l => k_is); (case c => k_is); (case k => k_is)
    case d_lawAll => refine' Bp.def_in ?a ?l ?c ?k; (case a => k_is); (case l => k_is); (case c => k_is); (case k => k_is)
    case d_lawSizes => refine' Bp.def_in ?a ?l ?c ?k; (case a => k_is); (case l => k_is); (case c => k_is); (case k => k_is)
    case d_lawAgree => refine' Bp.def_in ?a ?l ?c ?k; (case a => k_is); (case l => k_is); (case c => k_is); (case k => k_is)
    case d_lawReached => refine' Bp.def_in ?a ?l ?c ?k; (case a => k_is); (case l => k_is); (case c => k_is); (case k => k_is)
    case d_lawJoined => refine' Bp.def_in ?a ?l ?c ?k; (case a => k_is); (case l => k_is); (case c => k_is); (case k => k_is)
    case d_lawJoinedStore => refine' Bp.def_in ?a ?l ?c ?k; (case a => k_is); (case l => k_is); (case c => k_is); (case k => k_is)
    case d_lawStore => refine' Bp.def_in ?a ?l ?c ?k; (case a => k_is); (case l => k_is); (case c => k_is); (case k => k_is)
    case d_lawTwoStores => refine' Bp.def_in ?a ?l ?c ?k; (case a => k_is); (case l => k_is); (case c => k_is); (case k => k_is)
    case d_lawRefusal => refine' Bp.def_in ?a ?l ?c ?k; (case a => k_is); (case l => k_is); (case c => k_is); (case k => k_is)
    case d_lawPut => refine' Bp.def_in ?a ?l ?c ?k; (case a => k_is); (case l => k_is); (case c => k_is); (case k => k_is)
    case d_lawPairsOf => refine' Bp.def_in ?a ?l ?c ?k; (case a => k_is); (case l => k_is); (case c => k_is); (case k => k_is)
    case d_lawBad => refine' Bp.def_in ?a ?l ?c ?k; (case a => k_is); (case l => k_is); (case c => k_is); (case k => k_is)
    case d_homes => refine' Bp.def_inC ?a ?l ?h ?k; (case a => k_is); (case l => k_is); (case h => k_is); (case k => k_is)
    case d_law => refine' Bp.def_inC ?a ?l ?h ?k; (case a => k_is); (case l => k_is); (case h => k_is); (case k => k_is)
    case h_homes => kernel_rfl
    case n_homes => kernel_rfl
    case h_law => kernel_rfl
    case n_law => kernel_rfl
    case ne => decide
    case aC => k_is
    case c_pg => k_is
    case c_hd => k_is
    case c_po => k_is
    case c_sa => k_is
    case c_nC => k_is
    case c_nZ => k_is
    case c_nS => k_is
    case c_nI => k_is
    case c_nF => k_is
    case c_mk => k_is
    case c_kc => k_is
    case c_ha => k_is
    case c_hn => k_is
    case c_ht => k_is
    case c_hm => k_is
    case m_StoreInit => refine' Bp.meth_in ?a ?i ?l ?c ?k; (case a => k_is); (case i => k_is); (case l => k_is); (case c => k_is); (case k => k_is)
    case m_StoreFound => refine' Bp.meth_in ?a ?i ?l ?c ?k; (case a => k_is); (case i => k_is); (case l => k_is); (case c => k_is); (case k => k_is)
    case m_StoreIndexOf => refine' Bp.meth_in ?a ?i ?l ?c ?k; (case a => k_is); (case i => k_is); (case l => k_is); (case c => k_is); (case k => k_is)
    case e_CQ => refine' Bp.ErrIn.mk ?a ?ga ?gg ?ex ?hd ?no; (case a => k_is); (case ga => k_is); (case gg => k_is); (case ex => k_is); (case hd => k_is); (case no => k_is)
    case e_CL => refine' Bp.ErrIn.mk ?a ?ga ?gg ?ex ?hd ?no; (case a => k_is); (case ga => k_is); (case gg => k_is); (case ex => k_is); (case hd => k_is); (case no => k_is)
    case e_CS => refine' Bp.ErrIn.mk ?a ?ga ?gg ?ex ?hd ?no; (case a => k_is); (case ga => k_is); (case gg => k_is); (case ex => k_is); (case hd => k_is); (case no => k_is)
    case e_CR => refine' Bp.ErrIn.mk ?a ?ga ?gg ?ex ?hd ?no; (case a => k_is); (case ga => k_is); (case gg => k_is); (case ex => k_is); (case hd => k_is); (case no => k_is)
    case x_CL => 
      refine' Bp.x_in ?xL ?hbm ?sa ?ga ?gg ?noN ?iC ?tC ?kC ?exC ?veC ?tyC ?hdC ?lfn ?hcd ?hcell ?hcode ?hv2 ?hfile ?top ?sub2 ?nop ?sup ?hev
      (case xL => k_is)
      (case hbm => decide +kernel)
      (case sa => k_is)
      (case ga => k_is)
      (case gg => k_is)
      (case noN => k_is)
      (case iC => k_is)
      (case tC => k_is)
      (case kC => k_is)
      (case exC => k_is)
      (case veC => k_is)
      (case tyC => k_is)
      (case hdC => k_is)
      (case lfn => k_is)
      (case hcd => k_is)
      (case hcell => k_is)
      (case hcode => k_is)
      (case hv2 => rfl)
      (case hfile => kernel_rfl)
      (case top => kernel_rfl)
      (case sub2 => k_is)
      (case nop => k_is)
      (case sup => kernel_rfl)
      (case hev => exact fun _ _ => ⟨_, rfl⟩)
    case x_CR => 
      refine' Bp.x_in ?xL ?hbm ?sa ?ga ?gg ?noN ?iC ?tC ?kC ?exC ?veC ?tyC ?hdC ?lfn ?hcd ?hcell ?hcode ?hv2 ?hfile ?top ?sub2 ?nop ?sup ?hev
      (case xL => k_is)
      (case hbm => decide +kernel)
      (case sa => k_is)
      (case ga => k_is)
      (case gg => k_is)
      (case noN => k_is)
      (case iC => k_is)
      (case tC => k_is)
      (case kC => k_is)
      (case exC => k_is)
      (case veC => k_is)
      (case tyC => k_is)
      (case hdC => k_is)
      (case lfn => k_is)
      (case hcd => k_is)
      (case hcell => k_is)
      (case hcode => k_is)
      (case hv2 => rfl)
      (case hfile => kernel_rfl)
      (case top => kernel_rfl)
      (case sub2 => k_is)
      (case nop => k_is)
      (case sup => kernel_rfl)
      (case hev => exact fun _ _ => ⟨_, rfl⟩)
    case l1 => kernel_rfl
    case l2 => kernel_rfl
    case r1 => kernel_rfl
    case r2 => kernel_rfl
    case r3 => kernel_rfl
    case r4 => kernel_rfl
    case b_len => k_is
    case b_abs => k_is
    case b_int => k_is
    case b_bool => k_is
    case b_sum => k_is
    case b_min => k_is
    case b_any => k_is
    case b_all => k_is
    case b_list => k_is
    case b_tuple => k_is
    case b_set => k_is
    case b_sorted => k_is
    case b_range => k_is
    case b_enumerate => k_is
    case b_zip => k_is
    case b_isinstance => k_is
    case b_repr => k_is
    case b_super => k_is
