import PyProof.Rows.All
import Wide.All
import OpenK.AllK
import Wide.FinOn
import Open.SpecLaws
import KE.OsGo
import HandS.ForSpec
import HandS.Comp
import HandS.Dict
import HandS.Iter
import HandS.Evl
import HandS.Walk
import HandS.Style
import HandS.SortRule
import PySem.Challenge.RW_meanblend_s06_property_range
set_option Elab.async false
set_option linter.all false
set_option maxRecDepth 100000
set_option maxHeartbeats 4000000
namespace Mb
open Ks595
/-! the fill of rows (property, amount), one after another -/
def total (l : List (Nat × Nat)) : Nat := (l.map (·.2)).sum
def taken : List (Nat × Nat) → Nat → Nat
  | [], _ => 0
  | r :: l, q => min q r.2 * r.1 + taken l (q - min q r.2)
def penU (t : Nat) (l : List (Nat × Nat)) : Nat := (l.map fun r => r.2 * (t - r.1)).sum
def penD (t : Nat) (l : List (Nat × Nat)) : Nat := (l.map fun r => r.2 * (r.1 - t)).sum
theorem total_cons (r : Nat × Nat) (l : List (Nat × Nat)) : total (r :: l) = r.2 + total l := rfl
theorem penU_cons (t : Nat) (r : Nat × Nat) (l : List (Nat × Nat)) : penU t (r :: l) = r.2 * (t - r.1) + penU t l := rfl
theorem penD_cons (t : Nat) (r : Nat × Nat) (l : List (Nat × Nat)) : penD t (r :: l) = r.2 * (r.1 - t) + penD t l := rfl
theorem taken_cons (r : Nat × Nat) (l : List (Nat × Nat)) (q : Nat) : taken (r :: l) q = min q r.2 * r.1 + taken l (q - min q r.2) := rfl
theorem total_perm {l m : List (Nat × Nat)} (h : l.Perm m) : total l = total m := (h.map _).sum_nat
theorem penU_perm {l m : List (Nat × Nat)} (t : Nat) (h : l.Perm m) : penU t l = penU t m := (h.map _).sum_nat
theorem penD_perm {l m : List (Nat × Nat)} (t : Nat) (h : l.Perm m) : penD t l = penD t m := (h.map _).sum_nat
theorem taken_zero : ∀ l : List (Nat × Nat), taken l 0 = 0
  | [] => rfl
  | r :: l => by
    rw [taken_cons, Nat.zero_min, Nat.zero_mul, Nat.zero_sub, taken_zero l]
theorem taken_lower (t : Nat) : ∀ (l : List (Nat × Nat)) (q : Nat), q ≤ total l → t * q ≤ taken l q + penU t l
  | [], q, h => by
    have : q = 0 := Nat.le_zero.mp h
    subst this
    exact Nat.zero_le _
  | r :: l, q, h => by
    rw [total_cons] at h
    rw [taken_cons, penU_cons]
    have ih := taken_lower t l (q - min q r.2) (by omega)
    have e : t * q = t * min q r.2 + t * (q - min q r.2) := by rw [← Nat.mul_add]; congr 1; omega
    have m1 : t * min q r.2 ≤ min q r.2 * r.1 + min q r.2 * (t - r.1) := by
      rw [← Nat.mul_add, Nat.mul_comm]
      exact Nat.mul_le_mul_left _ (by omega)
    have m2 : min q r.2 * (t - r.1) ≤ r.2 * (t - r.1) := Nat.mul_le_mul_right _ (Nat.min_le_right _ _)
    omega
theorem taken_upper (t : Nat) : ∀ (l : List (Nat × Nat)) (q : Nat), q ≤ total l → taken l q ≤ t * q + penD t l
  | [], q, h => Nat.zero_le _
  | r :: l, q, h => by
    rw [total_cons] at h
    rw [taken_cons, penD_cons]
    have ih := taken_upper t l (q - min q r.2) (by omega)
    have e : t * q = t * min q r.2 + t * (q - min q r.2) := by rw [← Nat.mul_add]; congr 1; omega
    have m1 : min q r.2 * r.1 ≤ t * min q r.2 + min q r.2 * (r.1 - t) := by
      rw [Nat.mul_comm t, ← Nat.mul_add]
      exact Nat.mul_le_mul_left _ (by omega)
    have m2 : min q r.2 * (r.1 - t) ≤ r.2 * (r.1 - t) := Nat.mul_le_mul_right _ (Nat.min_le_right _ _)
    omega
def Asc (l : List (Nat × Nat)) : Prop := l.Pairwise fun a b => a.1 ≤ b.1
def Desc (l : List (Nat × Nat)) : Prop := l.Pairwise fun a b => b.1 ≤ a.1
theorem penU_zero (t : Nat) : ∀ l : List (Nat × Nat), (∀ r ∈ l, t ≤ r.1) → penU t l = 0
  | [], _ => rfl
  | r :: l, h => by
    have h1 := h r List.mem_cons_self
    rw [penU_cons, penU_zero t l fun x hx => h x (List.mem_cons_of_mem _ hx), show t - r.1 = 0 by omega, Nat.mul_zero]
theorem penD_zero (t : Nat) : ∀ l : List (Nat × Nat), (∀ r ∈ l, r.1 ≤ t) → penD t l = 0
  | [], _ => rfl
  | r :: l, h => by
    have h1 := h r List.mem_cons_self
    rw [penD_cons, penD_zero t l fun x hx => h x (List.mem_cons_of_mem _ hx), show r.1 - t = 0 by omega, Nat.mul_zero]
theorem taken_asc : ∀ (l : List (Nat × Nat)) (q b : Nat), Asc l → (∀ r ∈ l, b ≤ r.1) → q ≤ total l → ∃ t, b ≤ t ∧ taken l q + penU t l = t * q
  | [], q, b, _, _, h => by
    have : q = 0 := Nat.le_zero.mp h
    subst this
    exact ⟨b, Nat.le_refl _, rfl⟩
  | r :: l, q, b, hs, hb, h => by
    rw [total_cons] at h
    obtain ⟨h1, h2⟩ := List.pairwise_cons.mp hs
    by_cases c : q ≤ r.2
    · refine ⟨r.1, hb r List.mem_cons_self, ?_⟩
      rw [taken_cons, penU_cons, Nat.min_eq_left c, Nat.sub_self, taken_zero, penU_zero r.1 l h1, Nat.sub_self, Nat.mul_zero, Nat.mul_comm]
      rfl
    · obtain ⟨t, ht, e⟩ := taken_asc l (q - r.2) r.1 h2 h1 (by omega)
      refine ⟨t, Nat.le_trans (hb r List.mem_cons_self) ht, ?_⟩
      rw [taken_cons, penU_cons, Nat.min_eq_right (by omega)]
      have e1 : r.2 * r.1 + r.2 * (t - r.1) = t * r.2 := by rw [← Nat.mul_add, Nat.mul_comm]; congr 1; omega
      have e2 : t * q = t * r.2 + t * (q - r.2) := by rw [← Nat.mul_add]; congr 1; omega
      omega
theorem taken_desc : ∀ (l : List (Nat × Nat)) (q : Nat), Desc l → q ≤ total l → ∃ t, (∀ b, (∀ r ∈ l, r.1 ≤ b) → l ≠ [] → t ≤ b) ∧ taken l q = t * q + penD t l
  | [], q, _, h => by
    have : q = 0 := Nat.le_zero.mp h
    subst this
    exact ⟨0, fun b _ _ => Nat.zero_le _, rfl⟩
  | r :: l, q, hs, h => by
    rw [total_cons] at h
    obtain ⟨h1, h2⟩ := List.pairwise_cons.mp hs
    by_cases c : q ≤ r.2
    · refine ⟨r.1, fun b hb _ => hb r List.mem_cons_self, ?_⟩
      rw [taken_cons, penD_cons, Nat.min_eq_left c, Nat.sub_self, taken_zero, penD_zero r.1 l h1, Nat.sub_self, Nat.mul_zero, Nat.mul_comm]
    · obtain ⟨t, ht, e⟩ := taken_desc l (q - r.2) h2 (by omega)
      have hne : l ≠ [] := by
        rintro rfl
        have : total [] = 0 := rfl
        omega
      have htr : t ≤ r.1 := ht r.1 h1 hne
      refine ⟨t, fun b hb _ => Nat.le_trans htr (hb r List.mem_cons_self), ?_⟩
      rw [taken_cons, penD_cons, Nat.min_eq_right (by omega)]
      have e1 : r.2 * r.1 = t * r.2 + r.2 * (r.1 - t) := by rw [Nat.mul_comm t, ← Nat.mul_add]; congr 1; omega
      have e2 : t * q = t * r.2 + t * (q - r.2) := by rw [← Nat.mul_add]; congr 1; omega
      omega
/-- the least fill is one, whatever the order of equal properties -/
theorem asc_le {l m : List (Nat × Nat)} {q : Nat} (h : l.Perm m) (hl : Asc l) (hq : q ≤ total l) : taken l q ≤ taken m q := by
  obtain ⟨t, _, e⟩ := taken_asc l q 0 hl (fun _ _ => Nat.zero_le _) hq
  have u := taken_lower t m q (by rw [← total_perm h]; exact hq)
  rw [← penU_perm t h] at u
  omega
theorem desc_ge {l m : List (Nat × Nat)} {q : Nat} (h : l.Perm m) (hl : Desc l) (hq : q ≤ total l) : taken m q ≤ taken l q := by
  obtain ⟨t, _, e⟩ := taken_desc l q hl hq
  have u := taken_upper t m q (by rw [← total_perm h]; exact hq)
  rw [← penD_perm t h] at u
  omega
theorem asc_one {l m : List (Nat × Nat)} {q : Nat} (h : l.Perm m) (hl : Asc l) (hm : Asc m) (hq : q ≤ total l) : taken l q = taken m q :=
  Nat.le_antisymm (asc_le h hl hq) (asc_le h.symm hm (by rw [← total_perm h]; exact hq))
theorem desc_one {l m : List (Nat × Nat)} {q : Nat} (h : l.Perm m) (hl : Desc l) (hm : Desc m) (hq : q ≤ total l) : taken l q = taken m q :=
  Nat.le_antisymm (desc_ge h.symm hm (by rw [← total_perm h]; exact hq)) (desc_ge h hl hq)
/-! the specification's order -/
def rowC (c : Component) : Nat × Nat := (c.property, c.amount)
def rowAt (p : Problem) (i : Nat) : Nat × Nat := rowC (componentAt p i)
theorem fill_taken (p : Problem) : ∀ (o : List Nat) (q : Nat), fillInOrder p o q = taken (o.map (rowAt p)) q
  | [], _ => rfl
  | i :: o, q => by
    show min q (componentAt p i).amount * (componentAt p i).property + fillInOrder p o (q - min q (componentAt p i).amount) = _
    rw [fill_taken p o]
    rfl
theorem insert_perm (p : Problem) (i : Nat) : ∀ l : List Nat, (insertByProperty p i l).Perm (i :: l)
  | [] => .refl _
  | j :: r => by
    unfold insertByProperty
    split
    · exact .refl _
    · exact ((insert_perm p i r).cons j).trans (.swap i j r)
theorem order_perm_aux (p : Problem) : ∀ l : List Nat, (l.foldr (insertByProperty p) []).Perm l
  | [] => .refl _
  | i :: l => (insert_perm p i _).trans ((order_perm_aux p l).cons i)
theorem order_perm (p : Problem) : (orderByProperty p).Perm (List.range p.components.length) := order_perm_aux p _
def AscP (p : Problem) (l : List Nat) : Prop := l.Pairwise fun i j => (componentAt p i).property ≤ (componentAt p j).property
theorem insert_asc (p : Problem) (i : Nat) : ∀ l : List Nat, AscP p l → AscP p (insertByProperty p i l)
  | [], _ => by
    show List.Pairwise _ [i]
    exact List.pairwise_singleton _ _
  | j :: r, h => by
    obtain ⟨h1, h2⟩ := List.pairwise_cons.mp h
    unfold insertByProperty
    split
    · rename_i c
      refine List.pairwise_cons.mpr ⟨fun k hk => ?_, h⟩
      rcases List.mem_cons.mp hk with rfl | hk
      · exact c
      · exact Nat.le_trans c (h1 k hk)
    · rename_i c
      refine List.pairwise_cons.mpr ⟨fun k hk => ?_, insert_asc p i r h2⟩
      rcases List.mem_cons.mp ((insert_perm p i r).mem_iff.mp hk) with rfl | hk
      · omega
      · exact h1 k hk
theorem order_asc_aux (p : Problem) : ∀ l : List Nat, AscP p (l.foldr (insertByProperty p) [])
  | [] => List.Pairwise.nil
  | i :: l => insert_asc p i _ (order_asc_aux p l)
theorem order_asc (p : Problem) : Asc ((orderByProperty p).map (rowAt p)) := List.pairwise_map.mpr (order_asc_aux p _)
theorem order_desc (p : Problem) : Desc ((orderByProperty p).reverse.map (rowAt p)) := by
  rw [List.map_reverse]
  exact List.pairwise_reverse.mpr (order_asc p)
theorem range_rows (cs : List Component) (q lo hi : Nat) : (List.range cs.length).map (rowAt ⟨cs, q, lo, hi⟩) = cs.map rowC := by
  refine List.ext_getElem (by simp) fun i h1 h2 => ?_
  rw [List.getElem_map, List.getElem_map, List.getElem_range]
  unfold rowAt componentAt
  have h : i < cs.length := by simpa using h2
  simp [List.getD, h]
theorem order_rows (cs : List Component) (q lo hi : Nat) : ((orderByProperty ⟨cs, q, lo, hi⟩).map (rowAt ⟨cs, q, lo, hi⟩)).Perm (cs.map rowC) := by
  have h := (order_perm ⟨cs, q, lo, hi⟩).map (rowAt ⟨cs, q, lo, hi⟩)
  have e := range_rows cs q lo hi
  show List.Perm _ _
  rw [← e]
  exact h
theorem total_rows (cs : List Component) (q lo hi : Nat) : totalAmount ⟨cs, q, lo, hi⟩ = total (cs.map rowC) := by
  unfold totalAmount total
  rw [List.map_map]
  rfl
/-- what the program sorts gives the specification's fill -/
theorem least_fill {cs : List Component} {q lo hi : Nat} {rows : List (Nat × Nat)} (hp : rows.Perm (cs.map rowC)) (hs : Asc rows) {k : Nat} (hk : k ≤ totalAmount ⟨cs, q, lo, hi⟩) :
    taken rows k = fillInOrder ⟨cs, q, lo, hi⟩ (orderByProperty ⟨cs, q, lo, hi⟩) k := by
  rw [fill_taken]
  rw [total_rows, ← total_perm hp] at hk
  exact asc_one (hp.trans (order_rows cs q lo hi).symm) hs (order_asc _) hk
theorem greatest_fill {cs : List Component} {q lo hi : Nat} {rows : List (Nat × Nat)} (hp : rows.Perm (cs.map rowC)) (hs : Asc rows) {k : Nat} (hk : k ≤ totalAmount ⟨cs, q, lo, hi⟩) :
    taken rows.reverse k = fillInOrder ⟨cs, q, lo, hi⟩ (orderByProperty ⟨cs, q, lo, hi⟩).reverse k := by
  rw [fill_taken]
  rw [total_rows, ← total_perm hp] at hk
  have h1 : rows.reverse.Perm ((orderByProperty ⟨cs, q, lo, hi⟩).reverse.map (rowAt ⟨cs, q, lo, hi⟩)) := by
    rw [List.map_reverse]
    exact (List.reverse_perm _).trans ((hp.trans (order_rows cs q lo hi).symm).trans (List.reverse_perm _).symm)
  refine desc_one h1 (List.pairwise_reverse.mpr hs) (order_desc _) ?_
  rw [total_perm (List.reverse_perm rows)]
  exact hk
end Mb
namespace Mb
open PySem PySem.Spec PyProof.Rows L2 Evl
/-! what evaluates to what, by a predicate of the heap ahead, the value, the heap behind -/
abbrev HPost := Hp → V → Hp → Prop
def EvP (te : TE) (σ : L2.St) (H : Hp) (P : HPost) : Prop := ∀ H1, Ex H H1 → ∀ Q : VK, (∀ v H2, Ex H1 H2 → P H1 v H2 → Q v H2) → te σ H1 Q
def RetP (H : Hp) (Q : VK) (P : HPost) : Prop := ∀ v H', Ex H H' → P H v H' → Q v H'
def ExB (D : Addr) (H H' : Hp) : Prop := ∀ b o, b ≠ D → H b = some o → H' b = some o
def IsLst (H : Hp) (D : Addr) : Prop := ∃ zs, H D = some (.lst zs)
theorem exB_of {D : Addr} {H H' : Hp} (e : Ex H H') : ExB D H H' := fun b o _ h => e b o h
theorem exB_upd {D : Addr} {H : Hp} {o : HO} : ExB D H (upd H D o) := fun b u n h => by
  rw [upd_ne n]
  exact h
theorem ExB.trans {D : Addr} {H H1 H2 : Hp} (a : ExB D H H1) (b : ExB D H1 H2) : ExB D H H2 := fun c o n h => b c o n (a c o n h)
theorem IsLst.upd {H : Hp} {D : Addr} {ys : List V} : IsLst (upd H D (.lst ys)) D := ⟨ys, upd_same⟩
theorem IsLst.ex {H H' : Hp} {D : Addr} (h : IsLst H D) (e : Ex H H') : IsLst H' D := let ⟨z, q⟩ := h; ⟨z, e _ _ q⟩
theorem sqT_exB {K : PySem.W.Frag} {D : Addr} {H H' : Hp} {a : Addr} {xs : List V} (h : SqT K H a xs) (d : IsLst H D) (e : ExB D H H') : SqT K H' a xs := by
  obtain ⟨zs, d⟩ := d
  rcases h with (h | ⟨o, h⟩) | h
  · exact .inl (.inl (e _ _ (ne_of h d (fun z => nomatch z)) h))
  · exact .inl (.inr ⟨o, e _ _ (ne_of h d (fun z => nomatch z)) h⟩)
  · exact .inr h
theorem sqL_exB {K : PySem.W.Frag} {D : Addr} {H H' : Hp} {a : Addr} {xs : List V} (h : SqL K H a xs) (n : a ≠ D) (e : ExB D H H') : SqL K H' a xs := by
  rcases h with (h | ⟨o, h⟩) | h
  · exact .inl (.inl (e _ _ n h))
  · exact .inl (.inr ⟨o, e _ _ n h⟩)
  · exact .inr h

/-! lists of values that stand for lists of things -/
structure Each {α : Type} (R : V → α → Prop) (vs : List V) (xs : List α) : Prop where
  len : vs.length = xs.length
  get : ∀ (i : Nat) v x, vs[i]? = some v → xs[i]? = some x → R v x
section
variable {α β : Type} {R S : V → α → Prop} {vs ws : List V} {xs ys : List α}
theorem Each.nil : Each R [] [] := ⟨rfl, fun i v x h => by simp at h⟩
theorem Each.mono (h : Each R vs xs) (k : ∀ v x, v ∈ vs → R v x → S v x) : Each S vs xs := ⟨h.len, fun i v x a b => k v x (List.mem_of_getElem? a) (h.get i v x a b)⟩
theorem Each.append (h : Each R vs xs) (k : Each R ws ys) : Each R (vs ++ ws) (xs ++ ys) := by
  refine ⟨by rw [List.length_append, List.length_append, h.len, k.len], fun i v x a b => ?_⟩
  by_cases hi : i < vs.length
  · rw [List.getElem?_append_left hi] at a
    rw [List.getElem?_append_left (by rw [← h.len]; exact hi)] at b
    exact h.get i v x a b
  · rw [List.getElem?_append_right (by omega)] at a
    rw [List.getElem?_append_right (by rw [← h.len]; omega), ← h.len] at b
    exact k.get _ v x a b
theorem Each.one {v : V} {x : α} (h : R v x) : Each R [v] [x] := by
  refine ⟨rfl, fun i w y a b => ?_⟩
  cases i with
  | zero => cases a; cases b; exact h
  | succ i => simp at a
theorem Each.snoc {v : V} {x : α} (h : Each R vs xs) (k : R v x) : Each R (vs ++ [v]) (xs ++ [x]) := h.append (.one k)
theorem Each.cons {v : V} {x : α} (k : R v x) (h : Each R vs xs) : Each R (v :: vs) (x :: xs) := (Each.one k).append h
theorem Each.at {i : Nat} {v : V} (h : Each R vs xs) (a : vs[i]? = some v) : ∃ x, xs[i]? = some x ∧ R v x := by
  have hi := (List.getElem?_eq_some_iff.mp a).1
  have hj : i < xs.length := by rw [← h.len]; exact hi
  exact ⟨xs[i], List.getElem?_eq_getElem hj, h.get i v _ a (List.getElem?_eq_getElem hj)⟩
theorem Each.back {i : Nat} {x : α} (h : Each R vs xs) (a : xs[i]? = some x) : ∃ v, vs[i]? = some v ∧ R v x := by
  have hi := (List.getElem?_eq_some_iff.mp a).1
  have hj : i < vs.length := by rw [h.len]; exact hi
  exact ⟨vs[i], List.getElem?_eq_getElem hj, h.get i _ x (List.getElem?_eq_getElem hj) a⟩
theorem Each.map {T : V → β → Prop} {f : α → β} (h : Each R vs xs) (k : ∀ v x, R v x → T v (f x)) : Each T vs (xs.map f) := by
  refine ⟨by rw [List.length_map]; exact h.len, fun i v y a b => ?_⟩
  rw [List.getElem?_map] at b
  obtain ⟨x, hx, rfl⟩ := Option.map_eq_some_iff.mp b
  exact k v x (h.get i v x a hx)
theorem Each.set {i : Nat} {v : V} {x : α} (h : Each R vs xs) (k : R v x) : Each R (vs.set i v) (xs.set i x) := by
  refine ⟨by rw [List.length_set, List.length_set]; exact h.len, fun j w y a b => ?_⟩
  rw [List.getElem?_set] at a b
  by_cases e : i = j
  · subst e
    rw [if_pos rfl] at a b
    split at a
    · split at b
      · cases a; cases b; exact k
      · cases b
    · cases a
  · rw [if_neg e] at a b
    exact h.get j w y a b
/-- a list of values that are what a function says -/
theorem Each.of_range {n : Nat} (h : Each (fun v (i : Nat) => ∀ x, xs[i]? = some x → R v x) vs (List.range n)) (hn : n = xs.length) : Each R vs xs := by
  subst hn
  refine ⟨by rw [h.len, List.length_range], fun i v x a b => ?_⟩
  have hi := (List.getElem?_eq_some_iff.mp b).1
  exact h.get i v i a (by rw [List.getElem?_range hi]) x b
theorem Each.eq_map {g : α → V} (h : Each (fun v x => v = g x) vs xs) : vs = xs.map g := by
  refine List.ext_getElem? fun i => ?_
  rw [List.getElem?_map]
  cases a : vs[i]? with
  | none =>
    have := List.getElem?_eq_none_iff.mp a
    rw [List.getElem?_eq_none_iff.mpr (by rw [← h.len]; exact this)]
    rfl
  | some v =>
    obtain ⟨x, hx, e⟩ := h.at a
    rw [hx, e]
    rfl
theorem Each.of_map (g : α → V) (xs : List α) (h : ∀ x, R (g x) x) : Each R (xs.map g) xs := by
  refine ⟨List.length_map g, fun i v x a b => ?_⟩
  rw [List.getElem?_map, b] at a
  cases a
  exact h x
end

/-! what a loop walks, leaving what is known: T tells the i-th thing -/
def EvI (wi : TI) (σ : L2.St) (H : Hp) (n : Nat) (T : Nat → V → Hp → Prop) : Prop := ∀ H1, Ex H H1 → ∀ R : It → Hp → Prop,
  (∀ J H2, Ex H1 H2 → Walk J n (Ex H2) (fun i Ha x Hb => Ex Ha Hb ∧ T i x Hb) → R J H2) → wi σ H1 R
section
variable {K : PySem.W.Frag} {σ : L2.St} {H : Hp}
theorem ei_list {tl : TE} {P : HPost} {n : Nat} {T : Nat → V → Hp → Prop} (h : EvP tl σ H P)
    (k : ∀ H1 v H2, Ex H H1 → Ex H1 H2 → P H1 v H2 → ∃ a xs, v = .ref a ∧ SqL K H2 a xs ∧ xs.length = n ∧ ∀ i x, xs[i]? = some x → ∀ H3, Ex H2 H3 → T i x H3) : EvI (iList K tl) σ H n T := fun H1 e1 R q =>
  h H1 e1 _ fun v H2 e2 p => by
    obtain ⟨a, xs, rfl, hs, rfl, hT⟩ := k H1 v H2 e1 e2 p
    exact ⟨a, rfl, ⟨xs, hs⟩, q _ H2 e2 (walk_list.mono (fun H3 e3 => ex_l e3 hs) fun i Ha x Hb _ e3 y => by
      obtain ⟨rfl, y⟩ := y
      exact ⟨Ex.refl _, hT i x y _ e3⟩)⟩
theorem ei_rng1 {ta : TA} {n : Nat} (h : EvA ta σ H [.int (n : Int)]) (hn : n ≤ 50000) : EvI (iRng1 ta) σ H n (fun i x _ => x = .int (i : Int)) := fun H1 e1 R q =>
  h H1 e1 _ fun H2 e2 => ⟨n, rfl, by omega, by omega, q _ H2 e2 (by
    have w := walk_range (lo := 0) (n := n)
    refine w.mono (fun _ _ => trivial) fun i Ha x Hb _ _ y => ?_
    obtain ⟨rfl, y⟩ := y
    refine ⟨Ex.refl _, ?_⟩
    have e0 : (0 : Int) + (i : Int) = (i : Int) := Int.zero_add _
    exact y.trans (congrArg V.int e0))⟩
theorem ei_rng3 {ta : TA} {i j c : Int} {n : Nat} (h : EvA ta σ H [.int i, .int j, .int c]) (hr : RgC i j c n) : EvI (iRng3 ta) σ H n (fun k x _ => x = .int (i + (k : Int) * c)) := fun H1 e1 R q =>
  h H1 e1 _ fun H2 e2 => ⟨i, j, c, n, rfl, hr, q _ H2 e2 (walk_rangeC.mono (fun _ _ => trivial) fun k Ha x Hb _ _ y => by
    obtain ⟨rfl, y⟩ := y
    exact ⟨Ex.refl _, y⟩)⟩
theorem ei_zip {ta : TA} {a b : Addr} {xs ys : List V} {n : Nat} (h : EvA ta σ H [.ref a, .ref b]) (ha : SqL K H a xs) (hb : SqL K H b ys) (hn : n = min xs.length ys.length) :
    EvI (iZip K ta) σ H n (fun i v Hb => ∃ T x y, v = .ref T ∧ SqT K Hb T [x, y] ∧ xs[i]? = some x ∧ ys[i]? = some y) := fun H1 e1 R q =>
  h H1 e1 _ fun H2 e2 => ⟨a, b, xs, ys, rfl, ex_l (e1.trans e2) ha, ex_l (e1.trans e2) hb, q _ H2 e2 ((walk_zip hn).mono (fun H3 e3 => ⟨ex_l ((e1.trans e2).trans e3) ha, ex_l ((e1.trans e2).trans e3) hb⟩) fun i Ha v Hb _ _ y => by
    obtain ⟨T, x, z, rfl, nT, rfl, hx, hy⟩ := y
    exact ⟨Ex.new nT, T, x, z, rfl, st_of upd_same, hx, hy⟩)⟩
theorem et_yes : EvT tYes σ H true := fun H1 _ _ q => q H1 (Ex.refl H1)
/-- a comprehension: what each element is (P, from its turn's start), what stays true of it beside the new list at D (R) -/
theorem ep_lc {wi : TI} {g : TG} {tt : TT} {te : TE} {vs : List Nat} {n : Nat} {T : Nat → V → Hp → Prop} (f : Nat → Bool) (P : Nat → HPost) (R : Addr → Nat → V → Hp → Prop) (hn : n ≤ 50000) (hi : EvI wi σ H n T)
    (turn : ∀ i x H1, Ex H H1 → i < n → T i x H1 → ∀ Q : L2.St → Hp → Prop, (∀ σ2 H2, Ex H1 H2 → wipe σ2 vs = wipe σ vs → EvT tt σ2 H2 (f i) → (f i = true → EvP te σ2 H2 (P i)) → Q σ2 H2) → g x (wipe σ vs) H1 Q)
    (hP : ∀ D i H1 y H2, i < n → IsLst H1 D → Ex H H1 → Ex H1 H2 → P i H1 y H2 → R D i y H2)
    (hR : ∀ D i y H1 H2, IsLst H1 D → ExB D H1 H2 → R D i y H1 → R D i y H2) :
    EvP (tLc wi g tt te vs) σ H (fun H1 v H2 => ∃ D ys, v = .ref D ∧ H1 D = none ∧ H2 D = some (.lst ys) ∧ Each (fun y i => R D i y H2) ys ((List.range n).filter f)) := fun H1 e1 Q q =>
  hi H1 e1 _ fun J H2 e2 w => fun D hD =>
    lc_it w (fun i H' => Ex H2 H' ∧ ∃ ys, H' D = some (.lst ys) ∧ Each (fun y j => R D j y H') ys ((List.range i).filter f))
      ⟨Ex.new hD, [], upd_same, Each.nil⟩ (fun i H' _ p => p.1)
      (fun i x Ha Hb hlt p y => by
        obtain ⟨p1, ys, p2, p3⟩ := p
        obtain ⟨y1, y2⟩ := y
        have eHb : Ex H Hb := ((e1.trans e2).trans p1).trans y1
        refine turn i x Hb eHb hlt y2 _ fun σ2 Hc ec hw ht he => ⟨hw, ht Hc (Ex.refl _) _ fun Hd ed => ?_⟩
        have p2c : Hd D = some (.lst ys) := ed _ _ (ec _ _ (y1 _ _ p2))
        have eAd : Ex Ha Hd := (y1.trans ec).trans ed
        have hl : ys.length ≤ n := by
          rw [p3.len]
          have := List.length_filter_le f (List.range i)
          rw [List.length_range] at this
          omega
        cases hf : f i with
        | true =>
          show te σ2 Hd fun y H4 => ∃ acc, H4 D = some (.lst acc) ∧ acc.length < sizeLine ∧ _
          refine he hf Hd ed _ fun z H4 e4 hz => ⟨ys, e4 _ _ p2c, sz_lt (by omega), Ex.mut (((p1.trans eAd).trans e4)) hD, ys ++ [z], upd_same, ?_⟩
          have up : ExB D H4 (upd H4 D (.lst (ys ++ [z]))) := exB_upd
          have h4 : IsLst H4 D := ⟨ys, e4 _ _ p2c⟩
          have a1 := p3.mono (S := fun y j => R D j y (upd H4 D (.lst (ys ++ [z])))) fun v j _ r => hR D j v _ _ ⟨ys, p2⟩ ((exB_of (eAd.trans e4)).trans up) r
          have a2 : R D i z (upd H4 D (.lst (ys ++ [z]))) := hR D i z _ _ h4 up (hP D i Hd z H4 hlt ⟨ys, p2c⟩ (eHb.trans (ec.trans ed)) e4 hz)
          rw [List.range_succ, List.filter_append, List.filter_cons, if_pos hf]
          exact a1.snoc a2
        | false =>
          show _ ∧ _
          refine ⟨p1.trans eAd, ys, p2c, ?_⟩
          rw [List.range_succ, List.filter_append, List.filter_cons, if_neg (by rw [hf]; decide), List.filter_nil, List.append_nil]
          exact p3.mono fun v j _ r => hR D j v _ _ ⟨ys, p2⟩ (exB_of eAd) r)
      (fun H' p => by
        obtain ⟨p1, ys, p2, p3⟩ := p
        exact q _ H' (e2.trans p1) ⟨D, ys, rfl, fresh_back e2 hD, p2, p3⟩)
/-- elements that are as a stable word says, every turn kept -/
theorem ep_lc1 {α : Type} {wi : TI} {g : TG} {te : TE} {vs : List Nat} {T : Nat → V → Hp → Prop} (xs : List α) (R : Hp → V → α → Prop) (hn : xs.length ≤ 50000) (hi : EvI wi σ H xs.length T)
    (turn : ∀ i x H1 c, Ex H H1 → xs[i]? = some c → T i x H1 → ∀ Q : L2.St → Hp → Prop, (∀ σ2 H2, Ex H1 H2 → wipe σ2 vs = wipe σ vs → EvP te σ2 H2 (fun _ y H3 => R H3 y c) → Q σ2 H2) → g x (wipe σ vs) H1 Q)
    (hR : ∀ D c y H1 H2, IsLst H1 D → ExB D H1 H2 → R H1 y c → R H2 y c) :
    EvP (tLc wi g tYes te vs) σ H (fun H1 v H2 => ∃ D ys, v = .ref D ∧ H1 D = none ∧ H2 D = some (.lst ys) ∧ Each (R H2) ys xs) := fun H1 e1 Q q =>
  ep_lc (fun _ => true) (fun i _ y H3 => ∀ c, xs[i]? = some c → R H3 y c) (fun _ i y H3 => ∀ c, xs[i]? = some c → R H3 y c) hn hi
    (fun i x Ha ea hlt t Q k => turn i x Ha xs[i] ea (List.getElem?_eq_getElem hlt) t Q fun σ2 H2 e2 hw he => k σ2 H2 e2 hw et_yes fun _ Hx ex Q' k' => he Hx ex Q' fun v Hy ey r => k' v Hy ey fun c hc => by
      rw [List.getElem?_eq_getElem hlt] at hc
      cases hc
      exact r)
    (fun _ _ _ _ _ _ _ _ _ p => p) (fun D i y Ha Hb d e r c hc => hR D c y Ha Hb d e (r c hc)) H1 e1 Q fun v H2 e2 p => by
      obtain ⟨D, ys, rfl, h1, h2, h3⟩ := p
      rw [List.filter_eq_self.mpr (fun _ _ => rfl)] at h3
      exact q _ H2 e2 ⟨D, ys, rfl, h1, h2, h3.of_range rfl⟩
end
section
variable {σ : L2.St} {H : Hp} {te : TE}
theorem ep_ev {v : V} (h : Ev te σ H v) : EvP te σ H (fun H1 x H2 => x = v) := fun H1 e Q q => h H1 e Q fun H2 e2 => q v H2 e2 rfl
theorem EvP.mono {H' : Hp} {P : HPost} (e : Ex H H') (h : EvP te σ H P) : EvP te σ H' P := fun H1 a Q q => h H1 (e.trans a) Q q
theorem EvP.imp {P P' : HPost} (h : EvP te σ H P) (k : ∀ H1 v H2, Ex H H1 → Ex H1 H2 → P H1 v H2 → P' H1 v H2) : EvP te σ H P' := fun H1 e Q q => h H1 e Q fun v H2 e2 p => q v H2 e2 (k H1 v H2 e e2 p)
end

/-! a def of the text that stands behind a name and keeps its promise -/
def Has (P : Program) (w : World) (K : PySem.W.Frag) (mg : Str → Option Value) (base : Heap) (x : Str) (k : Nat) (ps : List Str) (sp : Sp) : Prop :=
  ∃ f fd, FnOk P w K mg base CX0 k f fd ps sp ∧ mg x = some (.ref f) ∧ PySem.W.keepIn K (.ref f) = true ∧ Binds K fd ps []
theorem pe_has {X : Cx} {x : Str} {k : Nat} {ps : List Str} {sp : Sp} {p pos : Pos} {e : Expr} {es : List Expr} {t : TA} (h : Has X.prog X.w X.K X.mg X.base x k ps sp) (hr : Room k X.A) (hg : Gl X x) (ha : PA X (e :: es) t)
    (hdb : (x == ("__debug__" : Str)) = false := by decide) (he : starEach (e :: es) X.env = (false, eval e X.env) :: starEach es X.env := by rfl) (hpl : (backTo pos (starEach es X.env)).any (·.1) = false := by rfl) :
    PE X (.Call (.Name x p) (e :: es) [] pos) (tCall sp [] E0 t) := by
  obtain ⟨f, fd, F, hm, hk, hb⟩ := h
  exact pe_call F hr hg hm hk hb .nil pass0 ha hdb he hpl
/-- an int constant of the module -/
def IntC (mg : Str → Option Value) (x : Str) (n : Int) : Prop := ∃ t, mg x = some (.int n t)
theorem pe_intC {X : Cx} {x : Str} {n : Int} {pos : Pos} (h : IntC X.mg x n) (hg : Gl X x) (hd : (x == ("__debug__" : Str)) = false := by decide) : PE X (.Name x pos) (tC (.int n)) := by
  obtain ⟨t, h⟩ := h
  exact pe_glob hg h ⟨t, rfl⟩ hd
/-! values -/
theorem at_nat {xs : List V} {v : V} (j : Nat) (h : xs[j]? = some v) : atI xs (j : Int) = some v := atI_nat h
end Mb
namespace Mb
open PySem PySem.Spec PyProof.Rows L2 Evl
def topS (i : Nat) : Stmt := PySem.Challenge.pw_meanblend_s06_property_range.main.body.getD i (.Pass ⟨0, 0, 0, 0⟩)
abbrev s_parts_of : Stmt := topS 2
abbrev s_is_within : Stmt := topS 7
abbrev s_is_quantity : Stmt := topS 8
abbrev s_is_part : Stmt := topS 9
abbrev s_are_components : Stmt := topS 10
abbrev s_suffices : Stmt := topS 12
abbrev s_rows_by_property : Stmt := topS 13
abbrev s_taken : Stmt := topS 14
abbrev s_smallest_total : Stmt := topS 15
abbrev s_greatest_total : Stmt := topS 16
abbrev s_property_range : Stmt := topS 20
/-! readings, one word taken off -/
section
variable {D : Ends} {σ : L2.St} {H : Hp} {te : TE} {ta tr : TA} {Q : VK} {QA : List V → Hp → Prop} {t u : TS} {g : TG}
theorem g_seq (h : t { D with nx := u D } σ H) : tSeq t u D σ H := h
theorem g_when {c : TT} (h : c σ H fun b H1 => if b = true then t { D with nx := u D } σ H1 else u D σ H1) : tSeq (tIfS c t tNext) u D σ H := h
theorem g_let {i : Nat} (h : te σ H fun v H1 => u D (σ.set i (some v)) H1) : tSeq (tAsg te (gName i)) u D σ H := h
theorem g_next (h : D.nx σ H) : tNext D σ H := h
theorem g_ret (h : te σ H D.rt) : tRet te D σ H := h
theorem g_asg (h : te σ H fun x H1 => g x σ H1 D.nx) : tAsg te g D σ H := h
theorem g_cons (h : te σ H fun v H1 => tr σ H1 fun r H2 => QA (v :: r) H2) : tCons te tr σ H QA := h
theorem g_nil (h : QA [] H) : tNil σ H QA := h
theorem g_CB {r : List V → Hp → VK → Prop} (h : ta σ H fun vs H1 => r vs H1 Q) : tCB r ta σ H Q := h
theorem g_call {sp : Sp} {dvs : List V} {E : XK} (h : ta σ H fun vs H1 => sp (vs ++ dvs) H1 Q E) : tCall sp dvs E ta σ H Q := h
theorem g_op {r : R2} {tb : TE} (h : te σ H fun x H1 => tb σ H1 fun y H2 => r x y H2 Q) : tOp r te tb σ H Q := h
theorem g_drop (h : te σ H fun _ H1 => D.nx σ H1) : tDrop te D σ H := h
end
/-! what stands in the heap for what -/
def RatAt (K : PySem.W.Frag) (H : Hp) (v : V) (r : Rat) : Prop := ∃ a, v = .ref a ∧ SqT K H a [.int r.num, .int (r.den : Int)]
def PartAt (K : PySem.W.Frag) (H : Hp) (v : V) (c : Ks595.Component) : Prop := ∃ a, v = .ref a ∧ SqT K H a [.int (c.amount : Int), .int (c.cost : Int), .int (c.property : Int)]
def PairAt (K : PySem.W.Frag) (H : Hp) (v : V) (p : Nat × Nat) : Prop := ∃ a, v = .ref a ∧ SqT K H a [.int (p.1 : Int), .int (p.2 : Int)]
def LstAt {α : Type} (R : Hp → V → α → Prop) (H : Hp) (v : V) (xs : List α) : Prop := ∃ a vs, v = .ref a ∧ H a = some (.lst vs) ∧ Each (R H) vs xs
/-- a new list -/
def NewAt {α : Type} (R : Hp → V → α → Prop) (H1 : Hp) (v : V) (H2 : Hp) (xs : List α) : Prop := ∃ a vs, v = .ref a ∧ H1 a = none ∧ H2 a = some (.lst vs) ∧ Each (R H2) vs xs
def IntAt (_ : Hp) (v : V) (n : Int) : Prop := v = .int n
theorem NewAt.lst {α : Type} {R : Hp → V → α → Prop} {H1 H2 : Hp} {v : V} {xs : List α} (h : NewAt R H1 v H2 xs) : LstAt R H2 v xs :=
  let ⟨a, vs, e, _, h2, h3⟩ := h; ⟨a, vs, e, h2, h3⟩
theorem NewAt.back {α : Type} {R : Hp → V → α → Prop} {H0 H1 H2 : Hp} {v : V} {xs : List α} (e : Ex H0 H1) (h : NewAt R H1 v H2 xs) : NewAt R H0 v H2 xs :=
  let ⟨a, vs, e1, h1, h2, h3⟩ := h; ⟨a, vs, e1, fresh_back e h1, h2, h3⟩
section
variable {K : PySem.W.Frag} {H H' : Hp} {v : V}
theorem RatAt.mono {r : Rat} (e : Ex H H') (h : RatAt K H v r) : RatAt K H' v r := let ⟨a, e1, h1⟩ := h; ⟨a, e1, ex_t e h1⟩
theorem PartAt.mono {c : Ks595.Component} (e : Ex H H') (h : PartAt K H v c) : PartAt K H' v c := let ⟨a, e1, h1⟩ := h; ⟨a, e1, ex_t e h1⟩
theorem PairAt.mono {p : Nat × Nat} (e : Ex H H') (h : PairAt K H v p) : PairAt K H' v p := let ⟨a, e1, h1⟩ := h; ⟨a, e1, ex_t e h1⟩
theorem RatAt.exB {r : Rat} {D : Addr} (d : IsLst H D) (e : ExB D H H') (h : RatAt K H v r) : RatAt K H' v r := let ⟨a, e1, h1⟩ := h; ⟨a, e1, sqT_exB h1 d e⟩
theorem PartAt.exB {c : Ks595.Component} {D : Addr} (d : IsLst H D) (e : ExB D H H') (h : PartAt K H v c) : PartAt K H' v c := let ⟨a, e1, h1⟩ := h; ⟨a, e1, sqT_exB h1 d e⟩
theorem PairAt.exB {p : Nat × Nat} {D : Addr} (d : IsLst H D) (e : ExB D H H') (h : PairAt K H v p) : PairAt K H' v p := let ⟨a, e1, h1⟩ := h; ⟨a, e1, sqT_exB h1 d e⟩
abbrev RatsAt (K : PySem.W.Frag) (H : Hp) (v : V) (rs : List Rat) : Prop := LstAt (RatAt K) H v rs
abbrev PartsAt (K : PySem.W.Frag) (H : Hp) (v : V) (cs : List Ks595.Component) : Prop := LstAt (PartAt K) H v cs
abbrev IntsAt (H : Hp) (v : V) (ns : List Int) : Prop := LstAt IntAt H v ns
theorem RatsAt.mono {rs : List Rat} (e : Ex H H') (h : RatsAt K H v rs) : RatsAt K H' v rs := let ⟨a, vs, e1, h1, h2⟩ := h; ⟨a, vs, e1, e _ _ h1, h2.mono fun _ _ _ q => RatAt.mono e q⟩
theorem PartsAt.mono {cs : List Ks595.Component} (e : Ex H H') (h : PartsAt K H v cs) : PartsAt K H' v cs := let ⟨a, vs, e1, h1, h2⟩ := h; ⟨a, vs, e1, e _ _ h1, h2.mono fun _ _ _ q => PartAt.mono e q⟩
theorem IntsAt.mono {ns : List Int} (e : Ex H H') (h : IntsAt H v ns) : IntsAt H' v ns := let ⟨a, vs, e1, h1, h2⟩ := h; ⟨a, vs, e1, e _ _ h1, h2⟩
theorem ints_map {vs : List V} {ns : List Int} (h : Each (IntAt H) vs ns) : vs = ns.map V.int := h.eq_map
theorem IntsAt.list {ns : List Int} (h : IntsAt H v ns) : ∃ a, v = .ref a ∧ H a = some (.lst (ns.map V.int)) := by
  obtain ⟨a, vs, e1, h1, h2⟩ := h
  rw [ints_map h2] at h1
  exact ⟨a, e1, h1⟩
theorem IntsAt.of {ns : List Int} {a : Addr} (h : H a = some (.lst (ns.map V.int))) : IntsAt H (.ref a) ns := ⟨a, _, rfl, h, Each.of_map _ _ fun _ => rfl⟩
theorem ep_tup {te : TE} {σ : L2.St} {xs : List V} (h : EvU te σ H xs) : EvP te σ H (fun H1 v H2 => ∃ p, v = .ref p ∧ H1 p = none ∧ H2 p = some (.tup xs)) := fun H1 e Q q =>
  h H1 e Q fun p H2 h1 e2 h2 => q _ H2 e2 ⟨p, rfl, h1, h2⟩
/-- a list of ints made by a comprehension -/
theorem ints_of {ns : List Int} {H1 H2 : Hp} (h : NewAt IntAt H1 v H2 ns) : ∃ a, v = .ref a ∧ H1 a = none ∧ H2 a = some (.lst (ns.map V.int)) := by
  obtain ⟨a, vs, e1, h1, h2, h3⟩ := h
  rw [ints_map h3] at h2
  exact ⟨a, e1, h1, h2⟩
end
/-- the built-ins that the text's names are -/
structure Blt (mg : Str → Option Value) : Prop where
  len : mg "len" = none
  range : mg "range" = none
  sum : mg "sum" = none
  all : mg "all" = none
  zip : mg "zip" = none
  sorted : mg "sorted" = none
  min : mg "min" = none
  max : mg "max" = none
  abs : mg "abs" = none
  int : mg "int" = none
theorem has_of {P : Program} {w : World} {K : PySem.W.Frag} {mg : Str → Option Value} {base : Heap} {x : Str} {st : Stmt} {f : Addr} {fd : FuncData} {k : Nat} {ps : List Str} {sp : Sp} (F : Fun K x x st f fd) (hm : mg x = some (.ref f))
    (O : FnOk P w K mg base CX0 k f fd ps sp) (b : Binds K fd ps []) : Has P w K mg base x k ps sp := ⟨f, fd, O, hm, F.kp, b⟩
theorem int_inj_iff {i j : Int} : decide (V.int i = V.int j) = decide (i = j) := by
  rw [dec_int]
  rfl
/-- components out of a flat list -/
def partsM : List Int → List Ks595.Component
  | a :: b :: c :: r => ⟨a.toNat, b.toNat, c.toNat⟩ :: partsM r
  | _ => []
theorem partsM_len : ∀ (m : Nat) (ns : List Int), ns.length = 3 * m → (partsM ns).length = m
  | 0, ns, h => by
    have e : ns = [] := List.length_eq_zero_iff.mp (by omega)
    rw [e]
    rfl
  | m + 1, a :: b :: c :: r, h => by
    show (partsM r).length + 1 = m + 1
    rw [partsM_len m r (by simp only [List.length_cons] at h; omega)]
  | _ + 1, [], h => by simp at h
  | _ + 1, [_], h => by simp at h; omega
  | _ + 1, [_, _], h => by simp at h; omega
theorem partsM_get : ∀ (i : Nat) (ns : List Int) (c : Ks595.Component), (partsM ns)[i]? = some c → (∀ n ∈ ns, 0 ≤ n) →
    ns[3 * i]? = some (c.amount : Int) ∧ ns[3 * i + 1]? = some (c.cost : Int) ∧ ns[3 * i + 2]? = some (c.property : Int)
  | 0, x :: y :: z :: r, c, h, hn => by
    have e : (⟨x.toNat, y.toNat, z.toNat⟩ : Ks595.Component) = c := Option.some.inj h
    subst e
    have h1 := hn x (by simp)
    have h2 := hn y (by simp)
    have h3 := hn z (by simp)
    refine ⟨congrArg some ?_, congrArg some ?_, congrArg some ?_⟩
    · show x = (x.toNat : Int)
      omega
    · show y = (y.toNat : Int)
      omega
    · show z = (z.toNat : Int)
      omega
  | i + 1, x :: y :: z :: r, c, h, hn => by
    have ih := partsM_get i r c h fun n hm => hn n (by simp [hm])
    rw [show 3 * (i + 1) = 3 * i + 1 + 1 + 1 by omega]
    exact ih
  | _, [], _, h, _ => by simp [partsM] at h
  | _, [_], _, h, _ => by simp [partsM] at h
  | _, [_, _], _, h, _ => by simp [partsM] at h
theorem rg3 (m : Nat) (h : m ≤ 15) (h3 : m % 3 = 0) : RgC 0 (m : Int) 3 (m / 3) := by
  have : m = 0 ∨ m = 3 ∨ m = 6 ∨ m = 9 ∨ m = 12 ∨ m = 15 := by omega
  rcases this with rfl | rfl | rfl | rfl | rfl | rfl <;> exact ⟨by decide, by decide, by decide +kernel, by decide +kernel⟩
section
variable {P : Program} {w : World} {K : PySem.W.Frag} {mg : Str → Option Value} {base : Heap}
/-! parts_of -/
def spPartsOf (K : PySem.W.Frag) : Sp := fun vs H Q _ => ∃ (a : Addr) (ns : List Int), vs = [.ref a] ∧ SqL K H a (ns.map V.int) ∧ ns.length ≤ 15 ∧ ns.length % 3 = 0 ∧ (∀ n ∈ ns, 0 ≤ n) ∧
  RetP H Q (fun H1 v H2 => NewAt (PartAt K) H1 v H2 (partsM ns))
theorem sc_parts_of : FnScope ["components", "k"] ["components"] (defScope s_parts_of) := ⟨rfl, rfl, rfl, by decide +kernel, rfl, by decide +kernel, by decide +kernel⟩
theorem ok_parts_of {f : Addr} {fd : FuncData} (F : Fun K "parts_of" "parts_of" s_parts_of f fd) (B : Blt mg) (h3 : IntC mg "PART_SIZE" 3) : FnOk P w K mg base CX0 1 f fd ["components"] (spPartsOf K) := by
  refine F.ok sc_parts_of (fun vs H Q E h => ?_) (fun cdv A outer s H vs Q E hr h => ?_)
  · obtain ⟨a, ns, rfl, _⟩ := h
    rfl
  · obtain ⟨a, ns, rfl, hS, hl, hm, hn, q⟩ := h
    refine ⟨_, pss_one (ps_ret (pe_lc (own := [("k", 1)]) (g := gName 1) (tt := tYes) rfl sc_parts_of.nd
      (pi_range3 (by rfl) B.range (pa_cons pe_int (pa_cons (pe_callB call_len_seq (by rfl) B.len PySem.boot_len (pa_cons (pv 0) pa_nil)) (pa_cons (pe_intC h3 (by rfl)) pa_nil))))
      (blkOk_by (N := ["components", "k"]) (sc := defScope s_parts_of) (by decide +kernel)) (fun _ _ _ _ _ => pg_name (i := 1) sc_parts_of.nd rfl (Or.inl rfl)) (fun _ _ _ _ _ => pts_nil)
      (fun _ _ _ _ _ => pe_tup (pa_cons (pe_ix (r := rIxL K) ix_list (pv 0) (pv 1) (fun _ _ => rfl)) (pa_cons (pe_ix (r := rIxL K) ix_list (pv 0) (pe_op op_add (pv 1) pe_int) (fun _ _ => rfl)) (pa_cons (pe_ix (r := rIxL K) ix_list (pv 0) (pe_op op_add (pv 1) pe_int) (fun _ _ => rfl)) pa_nil)))))), ?_⟩
    have hpl : (partsM ns).length = ns.length / 3 := partsM_len _ ns (by omega)
    have hi : EvI (iRng3 (tCons (tC (.int 0)) (tCons (tCB (rLenS K) (tCons (tVar 0) tNil)) (tCons (tC (.int 3)) tNil)))) (start ["components", "k"] [.ref a]) H (partsM ns).length (fun k x _ => x = .int (0 + (k : Int) * 3)) := by
      refine ei_rng3 (ea_cons ev_c (ea_cons (ev_is (ev_len (ev_var rfl) hS) rfl) (ea_cons ev_c ea_nil))) ?_
      rw [hpl, List.length_map]
      exact rg3 ns.length hl hm
    refine ep_lc1 (partsM ns) (PartAt K) (by omega) hi (fun i x H1 c e1 hc t Q' k => ?_) (fun D c y Ha Hb d e r => PartAt.exB d e r) H (Ex.refl H) _ fun v H2 e2 p => q v H2 e2 ?_
    · subst t
      refine k _ H1 (Ex.refl _) rfl ?_
      obtain ⟨g1, g2, g3⟩ := partsM_get i ns c hc hn
      have hS1 : SqL K H1 a (ns.map V.int) := ex_l e1 hS
      have at1 : atI (ns.map V.int) (0 + (i : Int) * 3) = some (.int (c.amount : Int)) := at_of (j := 3 * i) (by omega) (by rw [List.getElem?_map, g1]; rfl)
      have at2 : atI (ns.map V.int) (0 + (i : Int) * 3 + 1) = some (.int (c.cost : Int)) := at_of (j := 3 * i + 1) (by omega) (by rw [List.getElem?_map, g2]; rfl)
      have at3 : atI (ns.map V.int) (0 + (i : Int) * 3 + 2) = some (.int (c.property : Int)) := at_of (j := 3 * i + 2) (by omega) (by rw [List.getElem?_map, g3]; rfl)
      refine (ep_tup (xs := [.int (c.amount : Int), .int (c.cost : Int), .int (c.property : Int)]) (eu_tup (ea_cons (ev_op (ev_var rfl) (ev_var rfl) (rv_ixL hS1 at1)) (ea_cons (ev_op (ev_var rfl) (ev_op (ev_var rfl) ev_c rv_I0) (rv_ixL hS1 at2)) (ea_cons (ev_op (ev_var rfl) (ev_op (ev_var rfl) ev_c rv_I0) (rv_ixL hS1 at3)) ea_nil))) (by show 3 ≤ 100000; omega))).imp fun Ha y Hb _ _ p => ?_
      obtain ⟨p, rfl, _, h2⟩ := p
      exact ⟨p, rfl, st_of h2⟩
    · exact p
/-! is_within -/
def spWithin : Sp := fun vs H Q _ => ∃ n l m : Int, vs = [.int n, .int l, .int m] ∧ Q (.bl (decide (l ≤ n) && decide (n ≤ m))) H
theorem sc_is_within : FnScope ["number", "least", "most"] ["number", "least", "most"] (defScope s_is_within) := ⟨rfl, rfl, rfl, by decide +kernel, rfl, by decide +kernel, by decide +kernel⟩
theorem ok_is_within {f : Addr} {fd : FuncData} (F : Fun K "is_within" "is_within" s_is_within f fd) : FnOk P w K mg base CX0 1 f fd ["number", "least", "most"] spWithin := by
  refine F.ok sc_is_within (fun vs H Q E h => ?_) (fun cdv A outer s H vs Q E hr h => ?_)
  · obtain ⟨a, b, c, rfl, _⟩ := h
    rfl
  · obtain ⟨n, l, m, rfl, q⟩ := h
    refine ⟨_, pss_one (ps_ret (pe_chain op_le op_le (pv 1) (pv 0) (pv 2))), ?_⟩
    refine ⟨_, rfl, _, rfl, l, n, rfl, rfl, _, rfl, ?_⟩
    cases c : decide (l ≤ n) with
    | true =>
      rw [c, Bool.true_and] at q
      exact iteT ⟨_, rfl, n, m, rfl, rfl, q⟩
    | false =>
      rw [c, Bool.false_and] at q
      exact iteF q
/-! is_quantity -/
def spIsQuantity : Sp := fun vs H Q _ => ∃ n : Int, vs = [.int n] ∧ Q (.bl (decide (0 ≤ n) && decide (n ≤ 99))) H
theorem sc_is_quantity : FnScope ["quantity"] ["quantity"] (defScope s_is_quantity) := ⟨rfl, rfl, rfl, by decide +kernel, rfl, by decide +kernel, by decide +kernel⟩
theorem ok_is_quantity {f : Addr} {fd : FuncData} (F : Fun K "is_quantity" "is_quantity" s_is_quantity f fd) (hM : IntC mg "MOST_NUMBER" 99) (hW : Has P w K mg base "is_within" 1 ["number", "least", "most"] spWithin) : FnOk P w K mg base CX0 2 f fd ["quantity"] spIsQuantity := by
  refine F.ok sc_is_quantity (fun vs H Q E h => ?_) (fun cdv A outer s H vs Q E hr h => ?_)
  · obtain ⟨a, rfl, _⟩ := h
    rfl
  · obtain ⟨n, rfl, q⟩ := h
    refine ⟨_, pss_one (ps_ret (pe_has hW hr (by rfl) (pa_cons (pv 0) (pa_cons pe_int (pa_cons (pe_intC hM (by rfl)) pa_nil))))), ?_⟩
    exact ⟨_, rfl, n, 0, 99, rfl, q⟩
/-! is_part -/
def partOk (c : Ks595.Component) : Bool := (decide (0 ≤ (c.amount : Int)) && decide ((c.amount : Int) ≤ 50)) && ((decide (0 ≤ (c.cost : Int)) && decide ((c.cost : Int) ≤ 99)) && (decide (0 ≤ (c.property : Int)) && decide ((c.property : Int) ≤ 99)))
def spIsPart (K : PySem.W.Frag) : Sp := fun vs H Q _ => ∃ (v : V) (c : Ks595.Component), vs = [v] ∧ PartAt K H v c ∧ Q (.bl (partOk c)) H
theorem sc_is_part : FnScope ["part", "available", "price", "value"] ["part"] (defScope s_is_part) := ⟨rfl, rfl, rfl, by decide +kernel, rfl, by decide +kernel, by decide +kernel⟩
theorem ok_is_part {f : Addr} {fd : FuncData} (F : Fun K "is_part" "is_part" s_is_part f fd) (hA : IntC mg "MOST_AVAILABLE" 50) (hM : IntC mg "MOST_NUMBER" 99) (hW : Has P w K mg base "is_within" 1 ["number", "least", "most"] spWithin) : FnOk P w K mg base CX0 2 f fd ["part"] (spIsPart K) := by
  refine F.ok sc_is_part (fun vs H Q E h => ?_) (fun cdv A outer s H vs Q E hr h => ?_)
  · obtain ⟨a, c, rfl, _⟩ := h
    rfl
  · obtain ⟨v, c, rfl, ⟨a, rfl, hS⟩, q⟩ := h
    refine ⟨_, pss_cons (ps_asg (pv 0) (pg_tup rfl (pgs_cons (pg_name (i := 1) sc_is_part.nd rfl (Or.inl rfl)) (pgs_cons (pg_name (i := 2) sc_is_part.nd rfl (Or.inl rfl)) (pgs_cons (pg_name (i := 3) sc_is_part.nd rfl (Or.inl rfl)) pgs_nil)))))
      (pss_cons (ps_if (pt_not (pt_val (pe_has hW hr (by rfl) (pa_cons (pv 1) (pa_cons pe_int (pa_cons (pe_intC hA (by rfl)) pa_nil)))))) (pss_one (ps_ret pe_bl)) pss_nil)
      (pss_one (ps_ret (pe_and (pe_has hW hr (by rfl) (pa_cons (pv 2) (pa_cons pe_int (pa_cons (pe_intC hM (by rfl)) pa_nil))))
        (pe_one (pe_has hW hr (by rfl) (pa_cons (pv 3) (pa_cons pe_int (pa_cons (pe_intC hM (by rfl)) pa_nil))))))))), ?_⟩
    refine ⟨.ref a, rfl, a, _, rfl, hS, rfl, _, _, rfl, _, _, rfl, _, _, rfl, rfl, ?_⟩
    refine ⟨_, rfl, (c.amount : Int), 0, 50, rfl, _, rfl, ?_⟩
    unfold partOk at q
    cases e1 : (decide (0 ≤ (c.amount : Int)) && decide ((c.amount : Int) ≤ 50)) with
    | false =>
      rw [e1, Bool.false_and] at q
      exact iteT q
    | true =>
      rw [e1, Bool.true_and] at q
      refine iteF ?_
      refine ⟨_, rfl, (c.cost : Int), 0, 99, rfl, _, rfl, ?_⟩
      cases e2 : (decide (0 ≤ (c.cost : Int)) && decide ((c.cost : Int) ≤ 99)) with
      | false =>
        rw [e2, Bool.false_and] at q
        exact iteF q
      | true =>
        rw [e2, Bool.true_and] at q
        exact iteT ⟨_, rfl, (c.property : Int), 0, 99, rfl, q⟩
/-! are_components -/
def compsOk (ns : List Int) : Bool := (decide (ns.length % 3 = 0) && decide (ns.length ≤ 12)) && (partsM ns).all partOk
def spAreComponents (K : PySem.W.Frag) : Sp := fun vs H Q _ => ∃ (a : Addr) (ns : List Int), vs = [.ref a] ∧ SqL K H a (ns.map V.int) ∧ ns.length ≤ 15 ∧ (∀ n ∈ ns, 0 ≤ n) ∧ RetP H Q (fun _ v _ => v = .bl (compsOk ns))
theorem sc_are_components : FnScope ["components", "part"] ["components"] (defScope s_are_components) := ⟨rfl, rfl, rfl, by decide +kernel, rfl, by decide +kernel, by decide +kernel⟩
theorem ok_are_components {f : Addr} {fd : FuncData} (F : Fun K "are_components" "are_components" s_are_components f fd) (B : Blt mg) (h3 : IntC mg "PART_SIZE" 3) (h4 : IntC mg "MOST_PARTS" 4)
    (hI : Has P w K mg base "is_part" 2 ["part"] (spIsPart K)) (hP : Has P w K mg base "parts_of" 1 ["components"] (spPartsOf K)) : FnOk P w K mg base CX0 3 f fd ["components"] (spAreComponents K) := by
  refine F.ok sc_are_components (fun vs H Q E h => ?_) (fun cdv A outer s H vs Q E hr h => ?_)
  · obtain ⟨a, ns, rfl, _⟩ := h
    rfl
  · obtain ⟨a, ns, rfl, hS, hl, hn, q⟩ := h
    refine ⟨_, pss_cons (ps_if (PW.pt (pw_or (pt_cmpR op_ne (pe_op op_mod (pe_callB call_len_seq (by rfl) B.len PySem.boot_len (pa_cons (pv 0) pa_nil)) (pe_intC h3 (by rfl))) pe_int (nomark _))
        (pw_or1 (pt_cmpR op_gt (pe_callB call_len_seq (by rfl) B.len PySem.boot_len (pa_cons (pv 0) pa_nil)) (pe_op op_mul (pe_intC h3 (by rfl)) (pe_intC h4 (by rfl))) (nomark _))))) (pss_one (ps_ret pe_bl)) pss_nil)
      (pss_one (ps_ret (pe_callB (cr_all rfl) (by rfl) B.all PyProof.Rows.boot_all (pa_cons (pe_lc (own := [("part", 1)]) (g := gName 1) (tt := tYes) rfl sc_are_components.nd
        (pi_list (pe_has hP (hr.mono (by decide)) (by rfl) (pa_cons (pv 0) pa_nil)))
        (blkOk_by (N := ["components", "part"]) (sc := defScope s_are_components) (by decide +kernel)) (fun _ _ _ _ _ => pg_name (i := 1) sc_are_components.nd rfl (Or.inl rfl)) (fun _ _ _ _ _ => pts_nil)
        (fun _ _ _ _ _ => pe_has hI hr (by rfl) (pa_cons (pv 1) pa_nil))) pa_nil)))), ?_⟩
    have hlen : ((ns.map V.int).length : Int) = (ns.length : Int) := by rw [List.length_map]
    refine g_when ⟨_, rfl, a, _, rfl, .inl hS, _, 3, rfl, rfl, (by show (0 : Int) < 3; decide), rfl, _, rfl, ?_⟩
    rw [hlen, int_inj_iff]
    by_cases c3 : ns.length % 3 = 0
    · have e3 : decide ((ns.length : Int) % 3 = 0) = true := decide_eq_true (by omega)
      rw [e3]
      refine iteF ⟨_, rfl, a, _, rfl, .inl hS, 3, 4, rfl, rfl, .inl ⟨by decide, by decide⟩, _, _, rfl, rfl, _, rfl, ?_⟩
      rw [hlen]
      by_cases c12 : ns.length ≤ 12
      · rw [decide_eq_false (show ¬ ((3 : Int) * 4 < (ns.length : Int)) by omega)]
        refine iteF (g_ret (g_CB (g_cons ?_)))
        have hi : EvI (iList K (tCall (spPartsOf K) [] E0 (tCons (tVar 0) tNil))) (start ["components", "part"] [.ref a]) H (partsM ns).length (fun i x Hb => ∀ c, (partsM ns)[i]? = some c → PartAt K Hb x c) := by
          refine ei_list (P := fun H1 v H2 => NewAt (PartAt K) H1 v H2 (partsM ns)) (fun H1 e1 Q' k => ⟨_, rfl, a, ns, rfl, ex_l e1 hS, hl, c3, hn, fun v H2 e2 p => k v H2 e2 p⟩) fun H1 v H2 e1 e2 p => ?_
          obtain ⟨p, vs, rfl, _, h2, h3⟩ := p
          exact ⟨p, vs, rfl, sq_of h2, h3.len, fun i x hx H3 e3 c hc => PartAt.mono e3 (h3.get i x c hx hc)⟩
        refine ep_lc1 (partsM ns) (fun _ v c => v = .bl (partOk c)) (by rw [partsM_len (ns.length / 3) ns (by omega)]; omega) hi (fun i x H1 c e1 hc t Q' k => ?_) (fun D c y Ha Hb d e r => r) H (Ex.refl H) _ fun v H2 e2 p => ?_
        · refine k _ H1 (Ex.refl _) rfl fun H2 e2 Q2 k2 => ?_
          exact ⟨_, rfl, x, c, rfl, PartAt.mono e2 (t c hc), k2 _ H2 (Ex.refl _) rfl⟩
        · obtain ⟨D, ys, rfl, _, h2, h3⟩ := p
          have ey : ys = ((partsM ns).map partOk).map V.bl := by
            rw [List.map_map]
            exact h3.eq_map
          refine ⟨D, (partsM ns).map partOk, rfl, sq_of (by rw [← ey]; exact h2), ?_⟩
          refine q _ H2 e2 ?_
          unfold compsOk
          rw [decide_eq_true c3, decide_eq_true c12, List.all_map]
          rfl
      · rw [decide_eq_true (show ((3 : Int) * 4 < (ns.length : Int)) by omega)]
        refine iteT (q _ H (Ex.refl _) ?_)
        unfold compsOk
        rw [decide_eq_false c12, Bool.and_false, Bool.false_and]
    · have e3 : decide ((ns.length : Int) % 3 = 0) = false := decide_eq_false (by omega)
      rw [e3]
      refine iteT (iteT (q _ H (Ex.refl _) ?_))
      unfold compsOk
      rw [decide_eq_false c3, Bool.false_and, Bool.false_and]
/-! suffices -/
def spSuffices (K : PySem.W.Frag) : Sp := fun vs H Q _ => ∃ (v : V) (cs : List Ks595.Component) (q : Int), vs = [v, .int q] ∧ PartsAt K H v cs ∧ cs.length ≤ 15 ∧ RetP H Q (fun _ v _ => v = .bl (decide (q ≤ ((total (cs.map rowC) : Nat) : Int))))
theorem sc_suffices : FnScope ["parts", "quantity", "part"] ["parts", "quantity"] (defScope s_suffices) := ⟨rfl, rfl, rfl, by decide +kernel, rfl, by decide +kernel, by decide +kernel⟩
theorem sum_amounts : ∀ cs : List Ks595.Component, (cs.map fun c => (c.amount : Int)).sum = ((total (cs.map rowC) : Nat) : Int)
  | [] => rfl
  | c :: cs => by
    rw [List.map_cons, List.map_cons, List.sum_cons, total_cons, sum_amounts cs]
    exact (Int.natCast_add _ _).symm
theorem ok_suffices {f : Addr} {fd : FuncData} (F : Fun K "suffices" "suffices" s_suffices f fd) (B : Blt mg) : FnOk P w K mg base CX0 1 f fd ["parts", "quantity"] (spSuffices K) := by
  refine F.ok sc_suffices (fun vs H Q E h => ?_) (fun cdv A outer s H vs Q E hr h => ?_)
  · obtain ⟨a, c, q, rfl, _⟩ := h
    rfl
  · obtain ⟨v, cs, k, rfl, ⟨a, vs, rfl, hA, hE⟩, hl, q⟩ := h
    refine ⟨_, pss_one (ps_ret (pe_cmpR op_ge (pe_callB (cr_sum rfl) (by rfl) B.sum PyProof.Rows.boot_sum (pa_cons (pe_lc (own := [("part", 2)]) (g := gName 2) (tt := tYes) rfl sc_suffices.nd
        (pi_list (pv 0)) (blkOk_by (N := ["parts", "quantity", "part"]) (sc := defScope s_suffices) (by decide +kernel)) (fun _ _ _ _ _ => pg_name (i := 2) sc_suffices.nd rfl (Or.inl rfl)) (fun _ _ _ _ _ => pts_nil)
        (fun _ _ _ _ _ => pe_ix (r := rIxT K) ix_tup (pv 2) pe_int (fun _ _ => rfl))) pa_nil)) (pv 1) (nomark _))), ?_⟩
    have hi : EvI (iList K (tVar 0)) (start ["parts", "quantity", "part"] [.ref a, .int k]) H cs.length (fun i x Hb => ∀ c, cs[i]? = some c → PartAt K Hb x c) := by
      refine ei_list (ep_ev (ev_var rfl)) fun H1 v H2 e1 e2 p => ?_
      subst p
      exact ⟨a, vs, rfl, sq_of (e2 _ _ (e1 _ _ hA)), hE.len, fun i x hx H3 e3 c hc => PartAt.mono ((e1.trans e2).trans e3) (hE.get i x c hx hc)⟩
    refine g_ret (g_op (g_CB (g_cons ?_)))
    refine ep_lc1 cs (fun _ v c => v = .int (c.amount : Int)) (by omega) hi (fun i x H1 c e1 hc t Q' k => ?_) (fun D c y Ha Hb d e r => r) H (Ex.refl H) _ fun v H2 e2 p => ?_
    · refine k _ H1 (Ex.refl _) rfl ?_
      obtain ⟨p, rfl, hp⟩ := t c hc
      exact ep_ev (ev_op (ev_var rfl) ev_c (rv_ixT hp (at_nat 0 rfl)))
    · obtain ⟨D, ys, rfl, _, h2, h3⟩ := p
      have ey : ys = (cs.map fun c => (c.amount : Int)).map V.int := by
        rw [List.map_map]
        exact h3.eq_map
      refine ⟨D, _, rfl, sq_of (by rw [← ey]; exact h2), _, rfl, _, k, rfl, rfl, q _ H2 e2 ?_⟩
      rw [sum_amounts]
/-! rows_by_property -/
def RowAt (H : Hp) (v : V) (r : Nat × Nat) : Prop := ∃ t, v = .ref t ∧ H t = some (.tup [.int (r.1 : Int), .int (r.2 : Int)])
theorem RowAt.exB {H H' : Hp} {v : V} {r : Nat × Nat} {D : Addr} (d : IsLst H D) (e : ExB D H H') (h : RowAt H v r) : RowAt H' v r := by
  obtain ⟨t, rfl, h⟩ := h
  obtain ⟨zs, d⟩ := d
  exact ⟨t, rfl, e _ _ (ne_of h d (fun z => nomatch z)) h⟩
theorem RowAt.mono {H H' : Hp} {v : V} {r : Nat × Nat} (e : Ex H H') (h : RowAt H v r) : RowAt H' v r := let ⟨t, e1, h⟩ := h; ⟨t, e1, e _ _ h⟩
def keyOf (H : Hp) : V → Int × Int
  | .ref t => match H t with
    | some (.tup [.int i, .int j]) => (i, j)
    | _ => (0, 0)
  | _ => (0, 0)
theorem keyOf_row {H : Hp} {v : V} {r : Nat × Nat} (h : RowAt H v r) : keyOf H v = ((r.1 : Int), (r.2 : Int)) := by
  obtain ⟨t, rfl, h⟩ := h
  show (match H t with
    | some (.tup [.int i, .int j]) => (i, j)
    | _ => (0, 0)) = _
  rw [h]
def rowK (H : Hp) (v : V) : Nat × Nat := ((keyOf H v).1.toNat, (keyOf H v).2.toNat)
theorem rowK_row {H : Hp} {v : V} {r : Nat × Nat} (h : RowAt H v r) : rowK H v = r := by
  unfold rowK
  rw [keyOf_row h]
  rfl
def spRows (K : PySem.W.Frag) : Sp := fun vs H Q _ => ∃ (v : V) (cs : List Ks595.Component), vs = [v] ∧ PartsAt K H v cs ∧ cs.length ≤ 15 ∧
  RetP H Q (fun H1 v H2 => ∃ rows, NewAt RowAt H1 v H2 rows ∧ rows.Perm (cs.map rowC) ∧ Asc rows)
theorem sc_rows_by_property : FnScope ["parts", "available", "price", "value"] ["parts"] (defScope s_rows_by_property) := ⟨rfl, rfl, rfl, by decide +kernel, rfl, by decide +kernel, by decide +kernel⟩
theorem ok_rows_by_property {f : Addr} {fd : FuncData} (F : Fun K "rows_by_property" "rows_by_property" s_rows_by_property f fd) (B : Blt mg) : FnOk P w K mg base CX0 1 f fd ["parts"] (spRows K) := by
  refine F.ok sc_rows_by_property (fun vs H Q E h => ?_) (fun cdv A outer s H vs Q E hr h => ?_)
  · obtain ⟨a, c, rfl, _⟩ := h
    rfl
  · obtain ⟨v, cs, rfl, ⟨a, vs, rfl, hA, hE⟩, hl, q⟩ := h
    refine ⟨_, pss_one (ps_ret (pe_callB cr_sortedPO (by rfl) B.sorted PyProof.Rows.boot_sorted (pa_cons (pe_lc (own := [("available", 1), ("price", 2), ("value", 3)]) (g := gTup K 3 (gCons (gName 1) (gCons (gName 2) (gCons (gName 3) gNil)))) (tt := tYes) rfl sc_rows_by_property.nd
        (pi_list (pv 0)) (blkOk_by (N := ["parts", "available", "price", "value"]) (sc := defScope s_rows_by_property) (by decide +kernel))
        (fun _ _ _ _ _ => pg_tup rfl (pgs_cons (pg_name (i := 1) sc_rows_by_property.nd rfl (Or.inl rfl)) (pgs_cons (pg_name (i := 2) sc_rows_by_property.nd rfl (Or.inl rfl)) (pgs_cons (pg_name (i := 3) sc_rows_by_property.nd rfl (Or.inl rfl)) pgs_nil)))) (fun _ _ _ _ _ => pts_nil)
        (fun _ _ _ _ _ => pe_tup (pa_cons (pv 3) (pa_cons (pv 1) pa_nil)))) pa_nil))), ?_⟩
    have hi : EvI (iList K (tVar 0)) (start ["parts", "available", "price", "value"] [.ref a]) H cs.length (fun i x Hb => ∀ c, cs[i]? = some c → PartAt K Hb x c) := by
      refine ei_list (ep_ev (ev_var rfl)) fun H1 v H2 e1 e2 p => ?_
      subst p
      exact ⟨a, vs, rfl, sq_of (e2 _ _ (e1 _ _ hA)), hE.len, fun i x hx H3 e3 c hc => PartAt.mono ((e1.trans e2).trans e3) (hE.get i x c hx hc)⟩
    refine g_ret (g_CB (g_cons ?_))
    refine ep_lc1 cs (fun H v c => RowAt H v (rowC c)) (by omega) hi (fun i x H1 c e1 hc t Q' k => ?_) (fun D c y Ha Hb d e r => RowAt.exB d e r) H (Ex.refl H) _ fun v H2 e2 p => ?_
    · obtain ⟨p, rfl, hp⟩ := t c hc
      refine ⟨p, _, rfl, hp, rfl, _, _, rfl, _, _, rfl, _, _, rfl, rfl, k _ H1 (Ex.refl _) rfl ?_⟩
      refine (ep_tup (xs := [.int (c.property : Int), .int (c.amount : Int)]) (eu_tup (ea_cons (ev_var rfl) (ea_cons (ev_var rfl) ea_nil)) (by show 2 ≤ 100000; omega))).imp fun Ha y Hb _ _ p => ?_
      obtain ⟨p, rfl, _, h2⟩ := p
      exact ⟨p, rfl, h2⟩
    · obtain ⟨D, xs, rfl, hD, h2, h3⟩ := p
      have hrow : ∀ x ∈ xs, ∃ r, RowAt H2 x r := fun x hx => by
        obtain ⟨i, hi⟩ := List.mem_iff_getElem?.mp hx
        obtain ⟨c, _, hc⟩ := h3.at hi
        exact ⟨_, hc⟩
      refine ⟨D, xs, keyOf H2, rfl, sq_of h2, fun x hx => ?_, fun ys p hs hb hp => ?_⟩
      · obtain ⟨r, hr⟩ := hrow x hx
        have ek := keyOf_row hr
        obtain ⟨t, rfl, ht⟩ := hr
        exact ⟨t, rfl, by rw [ek]; exact ht⟩
      · have hy : ∀ y ∈ ys, RowAt H2 y (rowK H2 y) := fun y hy => by
          obtain ⟨r, hr⟩ := hrow y (hb.perm.mem_iff.mp hy)
          rw [rowK_row hr]
          exact hr
        have ex : Ex H2 (upd H2 p (.lst ys)) := Ex.new hp
        refine q _ _ (e2.trans ex) ⟨ys.map (rowK H2), ⟨p, ys, rfl, fresh_back e2 hp, upd_same, ?_⟩, ?_, ?_⟩
        · refine ⟨(List.length_map _).symm, fun i v r hv hr => ?_⟩
          rw [List.getElem?_map, hv] at hr
          cases hr
          exact RowAt.mono ex (hy v (List.mem_of_getElem? hv))
        · have e1 : xs.map (rowK H2) = cs.map rowC := by
            refine List.ext_getElem? fun i => ?_
            rw [List.getElem?_map, List.getElem?_map]
            cases hx : xs[i]? with
            | none =>
              have := List.getElem?_eq_none_iff.mp hx
              rw [List.getElem?_eq_none_iff.mpr (by rw [← h3.len]; exact this)]
              rfl
            | some x =>
              obtain ⟨c, hc, hr⟩ := h3.at hx
              rw [hc]
              show some (rowK H2 x) = some (rowC c)
              rw [rowK_row hr]
          rw [← e1]
          exact hb.perm.map _
        · refine List.pairwise_map.mpr (hs.imp_of_mem fun {u v} hu hv h => ?_)
          have h' := SrtO.lexB_no.mp h
          have e1 := keyOf_row (hy u hu)
          have e2 := keyOf_row (hy v hv)
          rw [e1, e2] at h'
          have h'' : ¬ (((rowK H2 v).1 : Int) < ((rowK H2 u).1 : Int) ∨ _) := h'
          have : ¬ (((rowK H2 v).1 : Int) < ((rowK H2 u).1 : Int)) := fun z => h'' (.inl z)
          omega
/-! taken -/
def spTaken (K : PySem.W.Frag) : Sp := fun vs H Q _ => ∃ (v : V) (rows : List (Nat × Nat)) (q : Nat), vs = [v, .int (q : Int)] ∧ LstAt RowAt H v rows ∧ rows.length ≤ 50000 ∧ q < 1000 ∧ Q (.int ((taken rows q : Nat) : Int)) H
theorem sc_taken : FnScope ["rows", "quantity", "rest", "found", "value", "available", "amount"] ["rows", "quantity"] (defScope s_taken) := ⟨rfl, rfl, rfl, by decide +kernel, rfl, by decide +kernel, by decide +kernel⟩
theorem ok_taken {f : Addr} {fd : FuncData} (F : Fun K "taken" "taken" s_taken f fd) (B : Blt mg) : FnOk P w K mg base CX0 1 f fd ["rows", "quantity"] (spTaken K) := by
  refine F.ok sc_taken (fun vs H Q E h => ?_) (fun cdv A outer s H vs Q E hr h => ?_)
  · obtain ⟨a, c, k, rfl, _⟩ := h
    rfl
  · obtain ⟨v, rows, k, rfl, ⟨a, vs, rfl, hA, hE⟩, hl, hk, q⟩ := h
    refine ⟨_, pss_cons (ps_par rfl sc_taken.nd (i := 2) (j := 3) rfl rfl (by decide) rfl rfl (pa_cons (pv 1) (pa_cons pe_int pa_nil)) (by rfl))
      (pss_cons (ps_for PassesOwn.never rfl (pi_list (pv 0)) (pg_tup rfl (pgs_cons (pg_name (i := 4) sc_taken.nd rfl (Or.inl rfl)) (pgs_cons (pg_name (i := 5) sc_taken.nd rfl (Or.inl rfl)) pgs_nil)))
        (pss_cons (ps_set (i := 6) sc_taken.nd rfl (Or.inl rfl) (pe_callB (call_min2 rfl) (by rfl) B.min PyProof.Rows.boot_min (pa_cons (pv 5) (pa_cons (pv 2) pa_nil))))
        (pss_cons (ps_set (i := 3) sc_taken.nd rfl (Or.inl rfl) (pe_op op_add (pv 3) (pe_op op_mul (pv 6) (pv 4))))
        (pss_one (ps_set (i := 2) sc_taken.nd rfl (Or.inl rfl) (pe_op op_sub (pv 2) (pv 6)))))))
      (pss_one (ps_ret (pv 3)))), ?_⟩
    refine ⟨_, rfl, _, _, rfl, ?_⟩
    refine ⟨_, rfl, a, rfl, ⟨vs, sq_of hA⟩, for_list (K := K) (a := a) (xs := vs) (fun i σ H' => H' = H ∧ ∃ (r f : Nat) (v4 v5 v6 : Option V), r ≤ k ∧ f + taken (rows.drop i) r = taken rows k ∧ σ = [some (.ref a), some (.int (k : Int)), some (.int (r : Int)), some (.int (f : Int)), v4, v5, v6])
      ⟨rfl, k, 0, none, none, none, Nat.le_refl _, by rw [Nat.zero_add]; rfl, rfl⟩ (fun i σ H' _ p => by rw [p.1]; exact sq_of hA) ?_ ?_⟩
    · rintro i x σ H' hx ⟨rfl, r, f, v4, v5, v6, hr, ef, rfl⟩
      obtain ⟨row, hrow, t, rfl, ht⟩ := hE.at hx
      refine ⟨t, _, rfl, st_of ht, rfl, _, _, rfl, _, _, rfl, rfl, ?_⟩
      refine ⟨_, rfl, _, rfl, _, _, rfl, ?_⟩
      have em : (if (r : Int) < (row.2 : Int) then (r : Int) else (row.2 : Int)) = ((min r row.2 : Nat) : Int) := by
        split <;> omega
      rw [em]
      refine ⟨_, rfl, _, rfl, _, rfl, _, _, rfl, rfl, .inl ⟨by omega, by omega⟩, _, _, rfl, rfl, ?_⟩
      refine ⟨_, rfl, _, rfl, _, _, rfl, rfl, ?_⟩
      refine ⟨rfl, r - min r row.2, f + min r row.2 * row.1, some (.int (row.1 : Int)), some (.int (row.2 : Int)), some (.int ((min r row.2 : Nat) : Int)), by omega, ?_, ?_⟩
      · have ed : rows.drop i = row :: rows.drop (i + 1) := by
          have hlt := (List.getElem?_eq_some_iff.mp hrow)
          obtain ⟨hlt, e⟩ := hlt
          rw [List.drop_eq_getElem_cons hlt, e]
        rw [ed, taken_cons] at ef
        rw [← ef]
        omega
      · have e1 : (r : Int) - ((min r row.2 : Nat) : Int) = ((r - min r row.2 : Nat) : Int) := by omega
        have e2 : (f : Int) + ((min r row.2 : Nat) : Int) * (row.1 : Int) = ((f + min r row.2 * row.1 : Nat) : Int) := by
          rw [Int.natCast_add, Int.natCast_mul]
        rw [← e1, ← e2]
        rfl
    · rintro σ H' ⟨rfl, r, f, v4, v5, v6, hr, ef, rfl⟩
      rw [hE.len, List.drop_length] at ef
      have e : f = taken rows k := by
        rw [← ef]
        rfl
      rw [e]
      exact ⟨_, rfl, q⟩
/-! smallest_total -/
def spSmallest (K : PySem.W.Frag) : Sp := fun vs H Q _ => ∃ (v : V) (cs : List Ks595.Component) (q : Nat), vs = [v, .int (q : Int)] ∧ PartsAt K H v cs ∧ cs.length ≤ 15 ∧ q < 1000 ∧
  RetP H Q (fun _ v _ => ∃ rows : List (Nat × Nat), rows.Perm (cs.map rowC) ∧ Asc rows ∧ v = .int ((taken rows q : Nat) : Int))
theorem sc_smallest_total : FnScope ["parts", "quantity"] ["parts", "quantity"] (defScope s_smallest_total) := ⟨rfl, rfl, rfl, by decide +kernel, rfl, by decide +kernel, by decide +kernel⟩
theorem ok_smallest_total {f : Addr} {fd : FuncData} (F : Fun K "smallest_total" "smallest_total" s_smallest_total f fd) (hT : Has P w K mg base "taken" 1 ["rows", "quantity"] (spTaken K)) (hR : Has P w K mg base "rows_by_property" 1 ["parts"] (spRows K)) :
    FnOk P w K mg base CX0 2 f fd ["parts", "quantity"] (spSmallest K) := by
  refine F.ok sc_smallest_total (fun vs H Q E h => ?_) (fun cdv A outer s H vs Q E hr h => ?_)
  · obtain ⟨a, c, k, rfl, _⟩ := h
    rfl
  · obtain ⟨v, cs, k, rfl, hP, hl, hk, q⟩ := h
    refine ⟨_, pss_one (ps_ret (pe_has hT hr (by rfl) (pa_cons (pe_has hR hr (by rfl) (pa_cons (pv 0) pa_nil)) (pa_cons (pv 1) pa_nil)))), ?_⟩
    refine ⟨_, rfl, v, cs, rfl, hP, hl, fun v2 H2 e2 p => ?_⟩
    obtain ⟨rows, hn, hp, ha⟩ := p
    exact ⟨_, rfl, v2, rows, k, rfl, hn.lst, by rw [hp.length_eq, List.length_map]; omega, hk, q _ H2 e2 ⟨rows, hp, ha, rfl⟩⟩
/-! greatest_total -/
def spGreatest (K : PySem.W.Frag) : Sp := fun vs H Q _ => ∃ (v : V) (cs : List Ks595.Component) (q : Nat), vs = [v, .int (q : Int)] ∧ PartsAt K H v cs ∧ cs.length ≤ 15 ∧ q < 1000 ∧
  RetP H Q (fun _ v _ => ∃ rows : List (Nat × Nat), rows.Perm (cs.map rowC) ∧ Asc rows ∧ v = .int ((taken rows.reverse q : Nat) : Int))
theorem sc_greatest_total : FnScope ["parts", "quantity"] ["parts", "quantity"] (defScope s_greatest_total) := ⟨rfl, rfl, rfl, by decide +kernel, rfl, by decide +kernel, by decide +kernel⟩
theorem each_rev {α : Type} {R : V → α → Prop} {vs : List V} {xs : List α} (h : Each R vs xs) : Each R vs.reverse xs.reverse := by
  refine ⟨by rw [List.length_reverse, List.length_reverse, h.len], fun i v x a b => ?_⟩
  have hi : i < vs.length := by
    have := (List.getElem?_eq_some_iff.mp a).1
    rw [List.length_reverse] at this
    exact this
  rw [List.getElem?_reverse hi] at a
  rw [List.getElem?_reverse (by rw [← h.len]; exact hi), ← h.len] at b
  exact h.get _ v x a b
theorem ok_greatest_total {f : Addr} {fd : FuncData} (F : Fun K "greatest_total" "greatest_total" s_greatest_total f fd) (hT : Has P w K mg base "taken" 1 ["rows", "quantity"] (spTaken K)) (hR : Has P w K mg base "rows_by_property" 1 ["parts"] (spRows K)) :
    FnOk P w K mg base CX0 2 f fd ["parts", "quantity"] (spGreatest K) := by
  refine F.ok sc_greatest_total (fun vs H Q E h => ?_) (fun cdv A outer s H vs Q E hr h => ?_)
  · obtain ⟨a, c, k, rfl, _⟩ := h
    rfl
  · obtain ⟨v, cs, k, rfl, hP, hl, hk, q⟩ := h
    refine ⟨_, pss_one (ps_ret (pe_has hT hr (by rfl) (pa_cons (pe_revL (pe_has hR hr (by rfl) (pa_cons (pv 0) pa_nil))) (pa_cons (pv 1) pa_nil)))), ?_⟩
    refine ⟨_, rfl, v, cs, rfl, hP, hl, fun v2 H2 e2 p => ?_⟩
    obtain ⟨rows, ⟨a, xs, rfl, h1, h2, h3⟩, hp, ha⟩ := p
    refine ⟨a, xs, rfl, sq_of h2, fun b hb => ?_⟩
    have ex : Ex H2 (upd H2 b (.lst xs.reverse)) := Ex.new hb
    exact ⟨_, rfl, .ref b, rows.reverse, k, rfl, ⟨b, xs.reverse, rfl, upd_same, each_rev (h3.mono fun _ _ _ z => RowAt.mono ex z)⟩, by rw [List.length_reverse, hp.length_eq, List.length_map]; omega, hk, q _ _ (e2.trans ex) ⟨rows, hp, ha, rfl⟩⟩
/-! the plain law of property_range -/
theorem parse_none : ∀ (ns : List Int), (∀ n ∈ ns, 0 ≤ n) → ¬ (ns.length % 3 = 0 ∧ (partsM ns).all partOk = true) → Ks595.parseComponents (ns.map Int.toNat) = none
  | [], _, h => absurd ⟨rfl, rfl⟩ h
  | [_], _, _ => rfl
  | [_, _], _, _ => rfl
  | a :: b :: c :: r, hn, h => by
    have ha := hn a (by simp)
    have hb := hn b (by simp)
    have hc := hn c (by simp)
    show (if 50 < a.toNat ∨ 99 < b.toNat ∨ 99 < c.toNat then none else (Ks595.parseComponents (r.map Int.toNat)).map fun components => (⟨a.toNat, b.toNat, c.toNat⟩ : Ks595.Component) :: components) = none
    by_cases e : 50 < a.toNat ∨ 99 < b.toNat ∨ 99 < c.toNat
    · rw [if_pos e]
    · rw [if_neg e, parse_none r (fun n hm => hn n (by simp [hm])) ?_]
      · rfl
      · rintro ⟨h1, h2⟩
        refine h ⟨by simp only [List.length_cons]; omega, ?_⟩
        show (partOk ⟨a.toNat, b.toNat, c.toNat⟩ && (partsM r).all partOk) = true
        rw [h2, Bool.and_true]
        unfold partOk
        simp only [Bool.and_eq_true, decide_eq_true_eq]
        omega
theorem parse_some : ∀ (ns : List Int), (∀ n ∈ ns, 0 ≤ n) → ns.length % 3 = 0 → (partsM ns).all partOk = true → Ks595.parseComponents (ns.map Int.toNat) = some (partsM ns)
  | [], _, _, _ => rfl
  | [_], _, h, _ => by simp at h
  | [_, _], _, h, _ => by simp at h
  | a :: b :: c :: r, hn, h1, h2 => by
    have h2' : (partOk ⟨a.toNat, b.toNat, c.toNat⟩ && (partsM r).all partOk) = true := h2
    rw [Bool.and_eq_true] at h2'
    have g := h2'.1
    unfold partOk at g
    simp only [Bool.and_eq_true, decide_eq_true_eq] at g
    show (if 50 < a.toNat ∨ 99 < b.toNat ∨ 99 < c.toNat then none else (Ks595.parseComponents (r.map Int.toNat)).map fun components => (⟨a.toNat, b.toNat, c.toNat⟩ : Ks595.Component) :: components) = some (⟨a.toNat, b.toNat, c.toNat⟩ :: partsM r)
    rw [if_neg (by omega), parse_some r (fun n hm => hn n (by simp [hm])) (by simp only [List.length_cons] at h1; omega) h2'.2]
    rfl
/-- the specification's problem, out of what the program tests -/
theorem problem_eq {q lo hi : Int} {ns : List Int} (hn : ∀ n ∈ ns, 0 ≤ n) (hq : 0 ≤ q) (hlo : 0 ≤ lo) (hhi : 0 ≤ hi) (hl : ns.length ≤ 15) :
    Ks595.parseProblem q.toNat lo.toNat hi.toNat (ns.map Int.toNat) = if compsOk ns = true ∧ q ≤ 99 ∧ lo ≤ hi ∧ hi ≤ 99 then some ⟨partsM ns, q.toNat, lo.toNat, hi.toNat⟩ else none := by
  unfold Ks595.parseProblem compsOk
  by_cases c : ns.length % 3 = 0 ∧ (partsM ns).all partOk = true
  · rw [parse_some ns hn c.1 c.2]
    show (if 4 < (partsM ns).length ∨ 99 < q.toNat ∨ hi.toNat < lo.toNat ∨ 99 < hi.toNat then none else some _) = _
    have hpl := partsM_len (ns.length / 3) ns (by omega)
    rw [c.2, decide_eq_true c.1, Bool.true_and, Bool.and_true, hpl]
    by_cases d : ns.length ≤ 12 ∧ q ≤ 99 ∧ lo ≤ hi ∧ hi ≤ 99
    · rw [if_neg (by omega), if_pos (by rw [decide_eq_true_iff]; exact d)]
    · rw [if_pos (by omega), if_neg (by rw [decide_eq_true_iff]; exact d)]
  · rw [parse_none ns hn c, if_neg]
    rintro ⟨h, _⟩
    rw [Bool.and_eq_true, Bool.and_eq_true] at h
    exact c ⟨of_decide_eq_true h.1.1, h.2⟩
theorem pr_unfold (q : Int) (ns : List Int) : PyKs595.property_range q ns = Ks595Neutral.integers (Ks595.answer (.propertyRange q.toNat (ns.map Int.toNat))) := rfl
theorem pr_bad {q : Int} {ns : List Int} (hn : ∀ n ∈ ns, 0 ≤ n) (hq : 0 ≤ q) (hl : ns.length ≤ 15) (h : compsOk ns = false ∨ (decide (0 ≤ q) && decide (q ≤ 99)) = false) : PyKs595.property_range q ns = [-22] := by
  rw [pr_unfold]
  have e := problem_eq hn hq (lo := 0) (hi := 0) (by omega) (by omega) hl
  rw [if_neg] at e
  · show Ks595Neutral.integers (Ks595.withProblem q.toNat 0 0 (ns.map Int.toNat) _) = _
    unfold Ks595.withProblem
    rw [show Ks595.parseProblem q.toNat 0 0 (ns.map Int.toNat) = none from e]
    rfl
  · rintro ⟨h1, h2, _⟩
    rcases h with h | h
    · rw [h1] at h
      cases h
    · rw [decide_eq_true hq, decide_eq_true h2] at h
      cases h
theorem pr_prob {q : Int} {ns : List Int} (hn : ∀ n ∈ ns, 0 ≤ n) (hq : 0 ≤ q) (hl : ns.length ≤ 15) (h1 : compsOk ns = true) (h2 : q ≤ 99) : PyKs595.property_range q ns =
    Ks595Neutral.integers (if Ks595.totalAmount ⟨partsM ns, q.toNat, 0, 0⟩ < q.toNat then Ks595.number (-33) else { value := Ks595.fillInOrder ⟨partsM ns, q.toNat, 0, 0⟩ (Ks595.orderByProperty ⟨partsM ns, q.toNat, 0, 0⟩) q.toNat, rest := [(Ks595.fillInOrder ⟨partsM ns, q.toNat, 0, 0⟩ (Ks595.orderByProperty ⟨partsM ns, q.toNat, 0, 0⟩).reverse q.toNat : Int)] }) := by
  rw [pr_unfold]
  have e := problem_eq hn hq (lo := 0) (hi := 0) (by omega) (by omega) hl
  rw [if_pos ⟨h1, h2, by omega, by omega⟩] at e
  show Ks595Neutral.integers (Ks595.withProblem q.toNat 0 0 (ns.map Int.toNat) _) = _
  unfold Ks595.withProblem
  rw [show Ks595.parseProblem q.toNat 0 0 (ns.map Int.toNat) = _ from e]
  rfl
theorem pr_short {m : Nat} {ns : List Int} (hn : ∀ n ∈ ns, 0 ≤ n) (hl : ns.length ≤ 15) (h1 : compsOk ns = true) (h2 : (m : Int) ≤ 99) (h3 : ¬ ((m : Int) ≤ ((total ((partsM ns).map rowC) : Nat) : Int))) : PyKs595.property_range (m : Int) ns = [-33] := by
  rw [pr_prob hn (by omega) hl h1 h2, total_rows, if_pos (by rw [Int.toNat_natCast]; omega)]
  rfl
theorem pr_good {m : Nat} {ns : List Int} {r s : List (Nat × Nat)} (hn : ∀ n ∈ ns, 0 ≤ n) (hl : ns.length ≤ 15) (h1 : compsOk ns = true) (h2 : (m : Int) ≤ 99) (h3 : (m : Int) ≤ ((total ((partsM ns).map rowC) : Nat) : Int))
    (pr : r.Perm ((partsM ns).map rowC)) (ar : Asc r) (ps : s.Perm ((partsM ns).map rowC)) (as : Asc s) : PyKs595.property_range (m : Int) ns = [((taken r m : Nat) : Int), ((taken s.reverse m : Nat) : Int)] := by
  rw [pr_prob hn (by omega) hl h1 h2, Int.toNat_natCast]
  have hk : m ≤ Ks595.totalAmount ⟨partsM ns, m, 0, 0⟩ := by
    rw [total_rows]
    omega
  rw [if_neg (by omega), ← least_fill pr ar hk, ← greatest_fill ps as hk]
  rfl
/-! property_range -/
def spPropertyRange (K : PySem.W.Frag) : Sp := fun vs H Q _ => ∃ (q : Int) (a : Addr) (ns : List Int), vs = [.int q, .ref a] ∧ SqL K H a (ns.map V.int) ∧ ns.length ≤ 15 ∧ (∀ n ∈ ns, 0 ≤ n) ∧ 0 ≤ q ∧
  RetP H Q (fun _ v H2 => IntsAt H2 v (PyKs595.property_range q ns))
theorem sc_property_range : FnScope ["quantity", "components", "parts"] ["quantity", "components"] (defScope s_property_range) := ⟨rfl, rfl, rfl, by decide +kernel, rfl, by decide +kernel, by decide +kernel⟩
theorem ok_property_range {f : Addr} {fd : FuncData} (F : Fun K "property_range" "property_range" s_property_range f fd) (hO : IntC mg "OUT_OF_LIMITS" (-22)) (hN : IntC mg "NOT_FEASIBLE" (-33))
    (hC : Has P w K mg base "are_components" 3 ["components"] (spAreComponents K)) (hQ : Has P w K mg base "is_quantity" 2 ["quantity"] spIsQuantity) (hP : Has P w K mg base "parts_of" 1 ["components"] (spPartsOf K))
    (hF : Has P w K mg base "suffices" 1 ["parts", "quantity"] (spSuffices K)) (hS : Has P w K mg base "smallest_total" 2 ["parts", "quantity"] (spSmallest K)) (hG : Has P w K mg base "greatest_total" 2 ["parts", "quantity"] (spGreatest K)) :
    FnOk P w K mg base CX0 4 f fd ["quantity", "components"] (spPropertyRange K) := by
  refine F.ok sc_property_range (fun vs H Q E h => ?_) (fun cdv A outer s H vs Q E hr h => ?_)
  · obtain ⟨q, a, ns, rfl, _⟩ := h
    rfl
  · obtain ⟨k, a, ns, rfl, hL, hl, hn, hk, q⟩ := h
    refine ⟨_, pss_cons (ps_if (PW.pt (pw_or (pt_not (pt_val (pe_has hC hr (by rfl) (pa_cons (pv 1) pa_nil)))) (pw_or1 (pt_not (pt_val (pe_has hQ (hr.mono (by decide)) (by rfl) (pa_cons (pv 0) pa_nil)))))))
        (pss_one (ps_ret (pe_lst (pa_cons (pe_intC hO (by rfl)) pa_nil)))) pss_nil)
      (pss_cons (ps_set (i := 2) sc_property_range.nd rfl (Or.inl rfl) (pe_has hP (hr.mono (by decide)) (by rfl) (pa_cons (pv 1) pa_nil)))
      (pss_cons (ps_if (pt_not (pt_val (pe_has hF (hr.mono (by decide)) (by rfl) (pa_cons (pv 2) (pa_cons (pv 0) pa_nil))))) (pss_one (ps_ret (pe_lst (pa_cons (pe_intC hN (by rfl)) pa_nil)))) pss_nil)
      (pss_one (ps_ret (pe_lst (pa_cons (pe_has hS (hr.mono (by decide)) (by rfl) (pa_cons (pv 2) (pa_cons (pv 0) pa_nil))) (pa_cons (pe_has hG (hr.mono (by decide)) (by rfl) (pa_cons (pv 2) (pa_cons (pv 0) pa_nil))) pa_nil))))))), ?_⟩
    have one : ∀ (z : Int) (H1 : Hp), Ex H H1 → PyKs595.property_range k ns = [z] → ∀ p, H1 p = none → Q (.ref p) (upd H1 p (.lst [.int z])) := fun z H1 e1 ez p hp => by
      refine q _ _ (e1.trans (Ex.new hp)) ?_
      rw [ez]
      exact IntsAt.of upd_same
    refine g_when ⟨_, rfl, a, ns, rfl, hL, hl, hn, fun v H1 e1 p => ?_⟩
    subst p
    refine ⟨_, rfl, ?_⟩
    cases c1 : compsOk ns with
    | false => exact iteT (iteT ⟨by show 1 ≤ sizeLine; decide, one _ H1 e1 (pr_bad hn hk hl (.inl c1))⟩)
    | true =>
      refine iteF ⟨_, rfl, k, rfl, _, rfl, ?_⟩
      cases c2 : (decide (0 ≤ k) && decide (k ≤ 99)) with
      | false => exact iteT ⟨by show 1 ≤ sizeLine; decide, one _ H1 e1 (pr_bad hn hk hl (.inr c2))⟩
      | true =>
        have hk2 : k ≤ 99 := by
          rw [Bool.and_eq_true] at c2
          exact of_decide_eq_true c2.2
        obtain ⟨m, rfl⟩ : ∃ m : Nat, k = (m : Int) := ⟨k.toNat, by omega⟩
        have c1' := c1
        unfold compsOk at c1'
        rw [Bool.and_eq_true, Bool.and_eq_true] at c1'
        have c3 : ns.length % 3 = 0 := of_decide_eq_true c1'.1.1
        have hpl : (partsM ns).length ≤ 15 := by
          rw [partsM_len (ns.length / 3) ns (by omega)]
          omega
        refine iteF (g_let ⟨_, rfl, a, ns, rfl, ex_l e1 hL, hl, c3, hn, fun v H2 e2 p => ?_⟩)
        have hPa : PartsAt K H2 v (partsM ns) := p.lst
        have e02 := e1.trans e2
        refine g_when ⟨_, rfl, _, rfl, v, partsM ns, m, rfl, hPa, hpl, fun v3 H3 e3 p3 => ?_⟩
        subst p3
        refine ⟨_, rfl, ?_⟩
        cases c4 : decide ((m : Int) ≤ ((total ((partsM ns).map rowC) : Nat) : Int)) with
        | false => exact iteT ⟨by show 1 ≤ sizeLine; decide, one _ H3 (e02.trans e3) (pr_short hn hl c1 hk2 (of_decide_eq_false c4))⟩
        | true =>
          refine iteF ⟨_, rfl, _, rfl, v, partsM ns, m, rfl, hPa.mono e3, hpl, by omega, fun v4 H4 e4 p4 => ?_⟩
          refine ⟨_, rfl, _, rfl, v, partsM ns, m, rfl, hPa.mono (e3.trans e4), hpl, by omega, fun v5 H5 e5 p5 => ?_⟩
          obtain ⟨r4, a4, b4, rfl⟩ := p4
          obtain ⟨r5, a5, b5, rfl⟩ := p5
          refine ⟨by show 2 ≤ sizeLine; decide, fun p hp => q _ _ ((((e02.trans e3).trans e4).trans e5).trans (Ex.new hp)) ?_⟩
          rw [pr_good hn hl c1 hk2 (of_decide_eq_true c4) a4 b4 a5 b5]
          exact IntsAt.of upd_same
theorem end_property_range {K : PySem.W.Frag} {H : Hp} {xs : List V} {a : PySem.W.Codec.denoteAll PySem.Challenge.fa_meanblend_s06_property_range}
    (hwi : PySem.W.Codec.withinAll PySem.Challenge.fa_meanblend_s06_property_range a = true) (hx : DwAll K H xs (PySem.W.Codec.encAll PySem.Challenge.fa_meanblend_s06_property_range a)) :
    spPropertyRange K xs H (fun v H' => Dw K H' v (PySem.W.Codec.enc PySem.Challenge.fr_meanblend_s06_property_range (PyKs595.property_range a.1 a.2.1))) (fun _ _ _ => False) := by
  obtain ⟨q, ns, u⟩ := a
  have hw : (PySem.W.Codec.inInt 0 4294967295 q && ((PySem.W.Codec.inLen 0 15 ns && ns.all (PySem.W.Codec.inInt 0 4294967295)) && true)) = true := hwi
  rw [Bool.and_eq_true, Bool.and_eq_true, Bool.and_eq_true] at hw
  have hx' : DwAll K H xs [PySem.W.WData.int q, PySem.W.WData.list (ns.map PySem.W.WData.int)] := hx
  cases hx' with
  | cons h1 h2 =>
    cases h1
    cases h2 with
    | cons h3 h4 =>
      cases h4
      cases h3 with
      | lst hs ha =>
        have e := L2.ints_dw ns _ ha
        subst e
        refine ⟨q, _, ns, rfl, hs, (PySem.W.Codec.inNat_iff.mp hw.2.1.1).2, fun n hn => ?_, (PySem.W.Codec.inInt_iff.mp hw.1).1, fun v H' _ p => ?_⟩
        · exact (PySem.W.Codec.inInt_iff.mp (List.all_eq_true.mp hw.2.1.2 n hn)).1
        · obtain ⟨p, rfl, hp⟩ := p.list
          exact .lst (L2.SqL.of hp) (L2.dw_ints _)
end
/-! the end -/
theorem all_mk {P : Program} {w : World} {K : PySem.W.Frag} {h : Heap} {mg : Str → Option Value} {fa : Addr} (X : K.In h) (G : h.Ns mainGlobals mg) (hfa : mg "property_range" = some (.ref fa))
    {f_parts_of f_is_within f_is_quantity f_is_part f_are_components f_suffices f_rows_by_property f_taken f_smallest_total f_greatest_total f_property_range : Addr}
    {od_parts_of an_parts_of od_is_within an_is_within od_is_quantity an_is_quantity od_is_part an_is_part od_are_components an_are_components od_suffices an_suffices od_rows_by_property an_rows_by_property od_taken an_taken od_smallest_total an_smallest_total od_greatest_total an_greatest_total od_property_range an_property_range : Option Addr}
    {sl_parts_of sl_is_within sl_is_quantity sl_is_part sl_are_components sl_suffices sl_rows_by_property sl_taken sl_smallest_total sl_greatest_total sl_property_range : Array (Option Value)}
    {oc_parts_of kV_parts_of dc_parts_of pm_parts_of cd_parts_of ct_parts_of oc_is_within kV_is_within dc_is_within pm_is_within cd_is_within ct_is_within oc_is_quantity kV_is_quantity dc_is_quantity pm_is_quantity cd_is_quantity ct_is_quantity oc_is_part kV_is_part dc_is_part pm_is_part cd_is_part ct_is_part oc_are_components kV_are_components dc_are_components pm_are_components cd_are_components ct_are_components oc_suffices kV_suffices dc_suffices pm_suffices cd_suffices ct_suffices oc_rows_by_property kV_rows_by_property dc_rows_by_property pm_rows_by_property cd_rows_by_property ct_rows_by_property oc_taken kV_taken dc_taken pm_taken cd_taken ct_taken oc_smallest_total kV_smallest_total dc_smallest_total pm_smallest_total cd_smallest_total ct_smallest_total oc_greatest_total kV_greatest_total dc_greatest_total pm_greatest_total cd_greatest_total ct_greatest_total oc_property_range kV_property_range dc_property_range pm_property_range cd_property_range ct_property_range : Value}
    {t_PART_SIZE t_MOST_NUMBER t_MOST_AVAILABLE t_MOST_PARTS t_OUT_OF_LIMITS t_NOT_FEASIBLE : Tok}
    (a_parts_of : PySem.W.nsIn K mainGlobals "parts_of" = some (some (.ref f_parts_of))) (l_parts_of : K.lookup f_parts_of = some ⟨oc_parts_of, od_parts_of, .func (PySem.W.fnOf "parts_of" "parts_of" (defArgs s_parts_of) (defBody s_parts_of) (defScope s_parts_of) .none kV_parts_of dc_parts_of pm_parts_of an_parts_of cd_parts_of ct_parts_of), sl_parts_of⟩) (c_parts_of : PySem.W.codeIn K cd_parts_of "parts_of" = true) (k_parts_of : PySem.W.keepIn K (.ref f_parts_of) = true)
    (a_is_within : PySem.W.nsIn K mainGlobals "is_within" = some (some (.ref f_is_within))) (l_is_within : K.lookup f_is_within = some ⟨oc_is_within, od_is_within, .func (PySem.W.fnOf "is_within" "is_within" (defArgs s_is_within) (defBody s_is_within) (defScope s_is_within) .none kV_is_within dc_is_within pm_is_within an_is_within cd_is_within ct_is_within), sl_is_within⟩) (c_is_within : PySem.W.codeIn K cd_is_within "is_within" = true) (k_is_within : PySem.W.keepIn K (.ref f_is_within) = true)
    (a_is_quantity : PySem.W.nsIn K mainGlobals "is_quantity" = some (some (.ref f_is_quantity))) (l_is_quantity : K.lookup f_is_quantity = some ⟨oc_is_quantity, od_is_quantity, .func (PySem.W.fnOf "is_quantity" "is_quantity" (defArgs s_is_quantity) (defBody s_is_quantity) (defScope s_is_quantity) .none kV_is_quantity dc_is_quantity pm_is_quantity an_is_quantity cd_is_quantity ct_is_quantity), sl_is_quantity⟩) (c_is_quantity : PySem.W.codeIn K cd_is_quantity "is_quantity" = true) (k_is_quantity : PySem.W.keepIn K (.ref f_is_quantity) = true)
    (a_is_part : PySem.W.nsIn K mainGlobals "is_part" = some (some (.ref f_is_part))) (l_is_part : K.lookup f_is_part = some ⟨oc_is_part, od_is_part, .func (PySem.W.fnOf "is_part" "is_part" (defArgs s_is_part) (defBody s_is_part) (defScope s_is_part) .none kV_is_part dc_is_part pm_is_part an_is_part cd_is_part ct_is_part), sl_is_part⟩) (c_is_part : PySem.W.codeIn K cd_is_part "is_part" = true) (k_is_part : PySem.W.keepIn K (.ref f_is_part) = true)
    (a_are_components : PySem.W.nsIn K mainGlobals "are_components" = some (some (.ref f_are_components))) (l_are_components : K.lookup f_are_components = some ⟨oc_are_components, od_are_components, .func (PySem.W.fnOf "are_components" "are_components" (defArgs s_are_components) (defBody s_are_components) (defScope s_are_components) .none kV_are_components dc_are_components pm_are_components an_are_components cd_are_components ct_are_components), sl_are_components⟩) (c_are_components : PySem.W.codeIn K cd_are_components "are_components" = true) (k_are_components : PySem.W.keepIn K (.ref f_are_components) = true)
    (a_suffices : PySem.W.nsIn K mainGlobals "suffices" = some (some (.ref f_suffices))) (l_suffices : K.lookup f_suffices = some ⟨oc_suffices, od_suffices, .func (PySem.W.fnOf "suffices" "suffices" (defArgs s_suffices) (defBody s_suffices) (defScope s_suffices) .none kV_suffices dc_suffices pm_suffices an_suffices cd_suffices ct_suffices), sl_suffices⟩) (c_suffices : PySem.W.codeIn K cd_suffices "suffices" = true) (k_suffices : PySem.W.keepIn K (.ref f_suffices) = true)
    (a_rows_by_property : PySem.W.nsIn K mainGlobals "rows_by_property" = some (some (.ref f_rows_by_property))) (l_rows_by_property : K.lookup f_rows_by_property = some ⟨oc_rows_by_property, od_rows_by_property, .func (PySem.W.fnOf "rows_by_property" "rows_by_property" (defArgs s_rows_by_property) (defBody s_rows_by_property) (defScope s_rows_by_property) .none kV_rows_by_property dc_rows_by_property pm_rows_by_property an_rows_by_property cd_rows_by_property ct_rows_by_property), sl_rows_by_property⟩) (c_rows_by_property : PySem.W.codeIn K cd_rows_by_property "rows_by_property" = true) (k_rows_by_property : PySem.W.keepIn K (.ref f_rows_by_property) = true)
    (a_taken : PySem.W.nsIn K mainGlobals "taken" = some (some (.ref f_taken))) (l_taken : K.lookup f_taken = some ⟨oc_taken, od_taken, .func (PySem.W.fnOf "taken" "taken" (defArgs s_taken) (defBody s_taken) (defScope s_taken) .none kV_taken dc_taken pm_taken an_taken cd_taken ct_taken), sl_taken⟩) (c_taken : PySem.W.codeIn K cd_taken "taken" = true) (k_taken : PySem.W.keepIn K (.ref f_taken) = true)
    (a_smallest_total : PySem.W.nsIn K mainGlobals "smallest_total" = some (some (.ref f_smallest_total))) (l_smallest_total : K.lookup f_smallest_total = some ⟨oc_smallest_total, od_smallest_total, .func (PySem.W.fnOf "smallest_total" "smallest_total" (defArgs s_smallest_total) (defBody s_smallest_total) (defScope s_smallest_total) .none kV_smallest_total dc_smallest_total pm_smallest_total an_smallest_total cd_smallest_total ct_smallest_total), sl_smallest_total⟩) (c_smallest_total : PySem.W.codeIn K cd_smallest_total "smallest_total" = true) (k_smallest_total : PySem.W.keepIn K (.ref f_smallest_total) = true)
    (a_greatest_total : PySem.W.nsIn K mainGlobals "greatest_total" = some (some (.ref f_greatest_total))) (l_greatest_total : K.lookup f_greatest_total = some ⟨oc_greatest_total, od_greatest_total, .func (PySem.W.fnOf "greatest_total" "greatest_total" (defArgs s_greatest_total) (defBody s_greatest_total) (defScope s_greatest_total) .none kV_greatest_total dc_greatest_total pm_greatest_total an_greatest_total cd_greatest_total ct_greatest_total), sl_greatest_total⟩) (c_greatest_total : PySem.W.codeIn K cd_greatest_total "greatest_total" = true) (k_greatest_total : PySem.W.keepIn K (.ref f_greatest_total) = true)
    (a_property_range : PySem.W.nsIn K mainGlobals "property_range" = some (some (.ref f_property_range))) (l_property_range : K.lookup f_property_range = some ⟨oc_property_range, od_property_range, .func (PySem.W.fnOf "property_range" "property_range" (defArgs s_property_range) (defBody s_property_range) (defScope s_property_range) .none kV_property_range dc_property_range pm_property_range an_property_range cd_property_range ct_property_range), sl_property_range⟩) (c_property_range : PySem.W.codeIn K cd_property_range "property_range" = true) (k_property_range : PySem.W.keepIn K (.ref f_property_range) = true)
    (q_PART_SIZE : PySem.W.nsIn K mainGlobals "PART_SIZE" = some (some (.int 3 t_PART_SIZE)))
    (q_MOST_NUMBER : PySem.W.nsIn K mainGlobals "MOST_NUMBER" = some (some (.int 99 t_MOST_NUMBER)))
    (q_MOST_AVAILABLE : PySem.W.nsIn K mainGlobals "MOST_AVAILABLE" = some (some (.int 50 t_MOST_AVAILABLE)))
    (q_MOST_PARTS : PySem.W.nsIn K mainGlobals "MOST_PARTS" = some (some (.int 4 t_MOST_PARTS)))
    (q_OUT_OF_LIMITS : PySem.W.nsIn K mainGlobals "OUT_OF_LIMITS" = some (some (.int (-22) t_OUT_OF_LIMITS)))
    (q_NOT_FEASIBLE : PySem.W.nsIn K mainGlobals "NOT_FEASIBLE" = some (some (.int (-33) t_NOT_FEASIBLE)))
    (z_len : PySem.W.nsIn K mainGlobals "len" = some none)
    (z_range : PySem.W.nsIn K mainGlobals "range" = some none)
    (z_sum : PySem.W.nsIn K mainGlobals "sum" = some none)
    (z_all : PySem.W.nsIn K mainGlobals "all" = some none)
    (z_zip : PySem.W.nsIn K mainGlobals "zip" = some none)
    (z_sorted : PySem.W.nsIn K mainGlobals "sorted" = some none)
    (z_min : PySem.W.nsIn K mainGlobals "min" = some none)
    (z_max : PySem.W.nsIn K mainGlobals "max" = some none)
    (z_abs : PySem.W.nsIn K mainGlobals "abs" = some none)
    (z_int : PySem.W.nsIn K mainGlobals "int" = some none)
    : ∃ fd : FuncData, (∀ (s : Shared) (us : List Value), us.length = (["quantity", "components"] : List Str).length → BindsTo s fd ⟨us, []⟩ ((["quantity", "components"] : List Str).zip us)) ∧ ∀ base : Heap, K.In base → base.Ns mainGlobals mg → FnOk P w K mg base CX0 4 fa fd ["quantity", "components"] (spPropertyRange K) := by
  have e := hfa.symm.trans (PySem.W.mg_of X G a_property_range)
  cases e
  have B : Blt mg := ⟨PySem.W.mg_none_of X G z_len, PySem.W.mg_none_of X G z_range, PySem.W.mg_none_of X G z_sum, PySem.W.mg_none_of X G z_all, PySem.W.mg_none_of X G z_zip, PySem.W.mg_none_of X G z_sorted, PySem.W.mg_none_of X G z_min, PySem.W.mg_none_of X G z_max, PySem.W.mg_none_of X G z_abs, PySem.W.mg_none_of X G z_int⟩
  have i_PART_SIZE : IntC mg "PART_SIZE" 3 := ⟨_, PySem.W.mg_of X G q_PART_SIZE⟩
  have i_MOST_NUMBER : IntC mg "MOST_NUMBER" 99 := ⟨_, PySem.W.mg_of X G q_MOST_NUMBER⟩
  have i_MOST_AVAILABLE : IntC mg "MOST_AVAILABLE" 50 := ⟨_, PySem.W.mg_of X G q_MOST_AVAILABLE⟩
  have i_MOST_PARTS : IntC mg "MOST_PARTS" 4 := ⟨_, PySem.W.mg_of X G q_MOST_PARTS⟩
  have i_OUT_OF_LIMITS : IntC mg "OUT_OF_LIMITS" (-22) := ⟨_, PySem.W.mg_of X G q_OUT_OF_LIMITS⟩
  have i_NOT_FEASIBLE : IntC mg "NOT_FEASIBLE" (-33) := ⟨_, PySem.W.mg_of X G q_NOT_FEASIBLE⟩
  have F_parts_of := fun_mk (st := s_parts_of) l_parts_of c_parts_of k_parts_of
  have F_is_within := fun_mk (st := s_is_within) l_is_within c_is_within k_is_within
  have F_is_quantity := fun_mk (st := s_is_quantity) l_is_quantity c_is_quantity k_is_quantity
  have F_is_part := fun_mk (st := s_is_part) l_is_part c_is_part k_is_part
  have F_are_components := fun_mk (st := s_are_components) l_are_components c_are_components k_are_components
  have F_suffices := fun_mk (st := s_suffices) l_suffices c_suffices k_suffices
  have F_rows_by_property := fun_mk (st := s_rows_by_property) l_rows_by_property c_rows_by_property k_rows_by_property
  have F_taken := fun_mk (st := s_taken) l_taken c_taken k_taken
  have F_smallest_total := fun_mk (st := s_smallest_total) l_smallest_total c_smallest_total k_smallest_total
  have F_greatest_total := fun_mk (st := s_greatest_total) l_greatest_total c_greatest_total k_greatest_total
  have F_property_range := fun_mk (st := s_property_range) l_property_range c_property_range k_property_range
  refine ⟨PySem.W.fnOf "property_range" "property_range" (defArgs s_property_range) (defBody s_property_range) (defScope s_property_range) .none kV_property_range dc_property_range pm_property_range an_property_range cd_property_range ct_property_range, fun s us hu => match us, hu with | [_, _], _ => .of_eq rfl, fun base _ _ => ?_⟩
  have h_parts_of : Has P w K mg base "parts_of" 1 ["components"] (spPartsOf K) := has_of F_parts_of (PySem.W.mg_of X G a_parts_of) (ok_parts_of F_parts_of B i_PART_SIZE) (F_parts_of.binds (ps := ["components"]) fun _ _ _ _ _ _ us hl => match us, hl with | [_], _ => rfl)
  have h_is_within : Has P w K mg base "is_within" 1 ["number", "least", "most"] spWithin := has_of F_is_within (PySem.W.mg_of X G a_is_within) (ok_is_within F_is_within) (F_is_within.binds (ps := ["number", "least", "most"]) fun _ _ _ _ _ _ us hl => match us, hl with | [_, _, _], _ => rfl)
  have h_is_quantity : Has P w K mg base "is_quantity" 2 ["quantity"] spIsQuantity := has_of F_is_quantity (PySem.W.mg_of X G a_is_quantity) (ok_is_quantity F_is_quantity i_MOST_NUMBER h_is_within) (F_is_quantity.binds (ps := ["quantity"]) fun _ _ _ _ _ _ us hl => match us, hl with | [_], _ => rfl)
  have h_is_part : Has P w K mg base "is_part" 2 ["part"] (spIsPart K) := has_of F_is_part (PySem.W.mg_of X G a_is_part) (ok_is_part F_is_part i_MOST_AVAILABLE i_MOST_NUMBER h_is_within) (F_is_part.binds (ps := ["part"]) fun _ _ _ _ _ _ us hl => match us, hl with | [_], _ => rfl)
  have h_are_components : Has P w K mg base "are_components" 3 ["components"] (spAreComponents K) := has_of F_are_components (PySem.W.mg_of X G a_are_components) (ok_are_components F_are_components B i_PART_SIZE i_MOST_PARTS h_is_part h_parts_of) (F_are_components.binds (ps := ["components"]) fun _ _ _ _ _ _ us hl => match us, hl with | [_], _ => rfl)
  have h_suffices : Has P w K mg base "suffices" 1 ["parts", "quantity"] (spSuffices K) := has_of F_suffices (PySem.W.mg_of X G a_suffices) (ok_suffices F_suffices B) (F_suffices.binds (ps := ["parts", "quantity"]) fun _ _ _ _ _ _ us hl => match us, hl with | [_, _], _ => rfl)
  have h_rows_by_property : Has P w K mg base "rows_by_property" 1 ["parts"] (spRows K) := has_of F_rows_by_property (PySem.W.mg_of X G a_rows_by_property) (ok_rows_by_property F_rows_by_property B) (F_rows_by_property.binds (ps := ["parts"]) fun _ _ _ _ _ _ us hl => match us, hl with | [_], _ => rfl)
  have h_taken : Has P w K mg base "taken" 1 ["rows", "quantity"] (spTaken K) := has_of F_taken (PySem.W.mg_of X G a_taken) (ok_taken F_taken B) (F_taken.binds (ps := ["rows", "quantity"]) fun _ _ _ _ _ _ us hl => match us, hl with | [_, _], _ => rfl)
  have h_smallest_total : Has P w K mg base "smallest_total" 2 ["parts", "quantity"] (spSmallest K) := has_of F_smallest_total (PySem.W.mg_of X G a_smallest_total) (ok_smallest_total F_smallest_total h_taken h_rows_by_property) (F_smallest_total.binds (ps := ["parts", "quantity"]) fun _ _ _ _ _ _ us hl => match us, hl with | [_, _], _ => rfl)
  have h_greatest_total : Has P w K mg base "greatest_total" 2 ["parts", "quantity"] (spGreatest K) := has_of F_greatest_total (PySem.W.mg_of X G a_greatest_total) (ok_greatest_total F_greatest_total h_taken h_rows_by_property) (F_greatest_total.binds (ps := ["parts", "quantity"]) fun _ _ _ _ _ _ us hl => match us, hl with | [_, _], _ => rfl)
  exact ok_property_range F_property_range i_OUT_OF_LIMITS i_NOT_FEASIBLE h_are_components h_is_quantity h_parts_of h_suffices h_smallest_total h_greatest_total
end Mb
open PySem PySem.W PyProof.Rows
set_option maxRecDepth 100000 in
set_option maxHeartbeats 8000000 in
theorem PySem.Challenge.cw_meanblend_s06_property_range_holds : PySem.Challenge.rw_meanblend_s06_property_range.Holds := by
  w_on; k_headS; (case hw => exact ⟨[.int 0, .list []], by decide +kernel, by decide +kernel⟩)
  k_fillS
  refine L2.walk_specK (r := PySem.Challenge.rw_meanblend_s06_property_range) (k := 4) (CX := L2.CX0) (ps := ["quantity", "components"]) (sp := fun K => Mb.spPropertyRange K) (by decide +kernel) rfl rfl ⟨rfl, by decide, by decide⟩ (fun w h Y => PySem.W.kIn_of Y) ?F ?S (fun _ _ _ _ z => z)
  case F =>
    intro w mg fa h Y KX G hmg
    refine' Mb.all_mk KX G hmg ?a_parts_of ?l_parts_of ?c_parts_of ?k_parts_of ?a_is_within ?l_is_within ?c_is_within ?k_is_within ?a_is_quantity ?l_is_quantity ?c_is_quantity ?k_is_quantity ?a_is_part ?l_is_part ?c_is_part ?k_is_part ?a_are_components ?l_are_components ?c_are_components ?k_are_components ?a_suffices ?l_suffices ?c_suffices ?k_suffices ?a_rows_by_property ?l_rows_by_property ?c_rows_by_property ?k_rows_by_property ?a_taken ?l_taken ?c_taken ?k_taken ?a_smallest_total ?l_smallest_total ?c_smallest_total ?k_smallest_total ?a_greatest_total ?l_greatest_total ?c_greatest_total ?k_greatest_total ?a_property_range ?l_property_range ?c_property_range ?k_property_range ?q_PART_SIZE ?q_MOST_NUMBER ?q_MOST_AVAILABLE ?q_MOST_PARTS ?q_OUT_OF_LIMITS ?q_NOT_FEASIBLE ?z_len ?z_range ?z_sum ?z_all ?z_zip ?z_sorted ?z_min ?z_max ?z_abs ?z_int
    (case a_parts_of => k_is)
    (case l_parts_of => k_is)
    (case c_parts_of => k_is)
    (case k_parts_of => k_is)
    (case a_is_within => k_is)
    (case l_is_within => k_is)
    (case c_is_within => k_is)
    (case k_is_within => k_is)
    (case a_is_quantity => k_is)
    (case l_is_quantity => k_is)
    (case c_is_quantity => k_is)
    (case k_is_quantity => k_is)
    (case a_is_part => k_is)
    (case l_is_part => k_is)
    (case c_is_part => k_is)
    (case k_is_part => k_is)
    (case a_are_components => k_is)
    (case l_are_components => k_is)
    (case c_are_components => k_is)
    (case k_are_components => k_is)
    (case a_suffices => k_is)
    (case l_suffices => k_is)
    (case c_suffices => k_is)
    (case k_suffices => k_is)
    (case a_rows_by_property => k_is)
    (case l_rows_by_property => k_is)
    (case c_rows_by_property => k_is)
    (case k_rows_by_property => k_is)
    (case a_taken => k_is)
    (case l_taken => k_is)
    (case c_taken => k_is)
    (case k_taken => k_is)
    (case a_smallest_total => k_is)
    (case l_smallest_total => k_is)
    (case c_smallest_total => k_is)
    (case k_smallest_total => k_is)
    (case a_greatest_total => k_is)
    (case l_greatest_total => k_is)
    (case c_greatest_total => k_is)
    (case k_greatest_total => k_is)
    (case a_property_range => k_is)
    (case l_property_range => k_is)
    (case c_property_range => k_is)
    (case k_property_range => k_is)
    (case q_PART_SIZE => k_is)
    (case q_MOST_NUMBER => k_is)
    (case q_MOST_AVAILABLE => k_is)
    (case q_MOST_PARTS => k_is)
    (case q_OUT_OF_LIMITS => k_is)
    (case q_NOT_FEASIBLE => k_is)
    (case z_len => k_is)
    (case z_range => k_is)
    (case z_sum => k_is)
    (case z_all => k_is)
    (case z_zip => k_is)
    (case z_sorted => k_is)
    (case z_min => k_is)
    (case z_max => k_is)
    (case z_abs => k_is)
    (case z_int => k_is)
  case S =>
    intro K H xs a hO hwi hask hx
    exact Mb.end_property_range hwi hx
#print axioms PySem.Challenge.cw_meanblend_s06_property_range_holds

