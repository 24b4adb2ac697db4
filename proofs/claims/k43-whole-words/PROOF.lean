import PyProof.Rows.All
import Wide.All
import OpenK.AllK
import Wide.FinOn
import HandS.ForMost
import HandS.Sort
import HandS.SortOrd
import HandS.SortRule
import HandS.SortInts
import HandS.Conv
import HandS.Strs
import KE.KSortTupAny
import KE.KRevSl
import KE.GoesEnum
import KE.GoesMore
import HandS.DictComp
import HandS.Evl
import HandS.IsInst
import HandS.Style
import PyProof.Rows.StrFin3
import HandS.Walk
import PySem.Challenge.RW_foldedways_k43_whole_words_of_words
import HandS.Replace
import HandS.StrMore
import KE.KSortedM
import HandS.Iter
import HandS.Dict
import HandS.Small
import HandS.More
import HandS.TupAny
set_option Elab.async false
set_option linter.all false
set_option maxRecDepth 100000
set_option maxHeartbeats 4000000
namespace FW
/-! words over letters with opposites; cancelling -/
section
variable {A : Type} [DecidableEq A] (v : A → A)
def gpush (st : List A) (x : A) : List A := match st with
  | [] => [x]
  | y :: t => if y = v x then t else x :: y :: t
def gact (w st : List A) : List A := w.foldl (gpush v) st
def gred (w : List A) : List A := (gact v w []).reverse
def Rdd : List A → Prop
  | [] => True
  | [_] => True
  | x :: y :: t => x ≠ v y ∧ Rdd (y :: t)
def ginv (w : List A) : List A := (w.map v).reverse
def Eqw (u w : List A) : Prop := gred v u = gred v w
theorem gpush_cons (y : A) (t : List A) (x : A) : gpush v (y :: t) x = if y = v x then t else x :: y :: t := rfl
theorem rdd_nil : Rdd v [] := trivial
theorem rdd_one (x : A) : Rdd v [x] := trivial
variable {v} (hv : ∀ x, v (v x) = x)
include hv
theorem v_swap {x y : A} (h : y = v x) : x = v y := by rw [h, hv]
theorem Rdd.tail {x : A} {t : List A} (h : Rdd v (x :: t)) : Rdd v t := by
  cases t with
  | nil => trivial
  | cons y t => exact h.2
theorem rdd_push {st : List A} (h : Rdd v st) (x : A) : Rdd v (gpush v st x) := by
  cases st with
  | nil => trivial
  | cons y t =>
    rw [gpush_cons]
    split
    · rename_i e
      exact Rdd.tail hv h
    · rename_i e
      exact ⟨fun z => e (v_swap hv z), h⟩
theorem push_back {st : List A} (h : Rdd v st) (x : A) : gpush v (gpush v st x) (v x) = st := by
  cases st with
  | nil => simp [gpush, hv]
  | cons y t =>
    by_cases e : y = v x
    · have e1 : gpush v (y :: t) x = t := by simp [gpush, e]
      rw [e1]
      cases t with
      | nil => simp [gpush, e]
      | cons z t =>
        have hz : ¬ z = v (v x) := fun q => by
          have := h.1
          rw [e, q, hv] at this
          exact this rfl
        simp [gpush, hz, e]
    · have e1 : gpush v (y :: t) x = x :: y :: t := by simp [gpush, e]
      rw [e1]
      simp [gpush, hv]
theorem rdd_act : ∀ (w : List A) {st : List A}, Rdd v st → Rdd v (gact v w st)
  | [], _, h => h
  | x :: w, st, h => rdd_act w (rdd_push hv h x)
omit hv in
theorem act_app (u w st : List A) : gact v (u ++ w) st = gact v w (gact v u st) := by
  unfold gact
  rw [List.foldl_append]
theorem act_stack : ∀ (w s : List A) {st : List A}, Rdd v st → gact v ((gact v w s).reverse) st = gact v w (gact v s.reverse st)
  | [], _, _, _ => rfl
  | x :: w, s, st, h => by
    have e : gact v ((gpush v s x).reverse) st = gpush v (gact v s.reverse st) x := by
      cases s with
      | nil => rfl
      | cons y t =>
        by_cases q : y = v x
        · have e1 : gpush v (y :: t) x = t := by simp [gpush, q]
          rw [e1, List.reverse_cons, act_app]
          have hr : Rdd v (gact v t.reverse st) := rdd_act hv _ h
          have := push_back hv hr y
          rw [← v_swap hv q] at this
          exact this.symm
        · have e1 : gpush v (y :: t) x = x :: y :: t := by simp [gpush, q]
          rw [e1, List.reverse_cons, act_app]
          rfl
    show gact v ((gact v w (gpush v s x)).reverse) st = gact v w (gpush v (gact v s.reverse st) x)
    rw [act_stack w _ h, e]
theorem act_red (w : List A) {st : List A} (h : Rdd v st) : gact v (gred v w) st = gact v w st := act_stack hv w [] h
theorem Eqw.act {u w : List A} (e : Eqw v u w) {st : List A} (h : Rdd v st) : gact v u st = gact v w st := by
  rw [← act_red hv u h, ← act_red hv w h, show gred v u = gred v w from e]
omit hv in
theorem Eqw.refl (u : List A) : Eqw v u u := rfl
omit hv in
theorem Eqw.symm {u w : List A} (e : Eqw v u w) : Eqw v w u := Eq.symm e
omit hv in
theorem Eqw.trans {u w z : List A} (e : Eqw v u w) (f : Eqw v w z) : Eqw v u z := Eq.trans e f
omit hv in
theorem eqw_of_act {u w : List A} (e : gact v u [] = gact v w []) : Eqw v u w := by
  show (gact v u []).reverse = (gact v w []).reverse
  rw [e]
theorem Eqw.app {u u' w w' : List A} (e : Eqw v u u') (f : Eqw v w w') : Eqw v (u ++ w) (u' ++ w') := by
  apply eqw_of_act
  rw [act_app, act_app, e.act hv (rdd_nil v), f.act hv (rdd_act hv _ (rdd_nil v))]
theorem eqw_red (w : List A) : Eqw v (gred v w) w := eqw_of_act (act_red hv w trivial)
theorem red_red (w : List A) : gred v (gred v w) = gred v w := eqw_red hv w
theorem eqw_pair (x : A) : Eqw v [x, v x] [] := by
  apply eqw_of_act
  exact push_back hv (st := []) trivial x
theorem eqw_pair2 (x : A) : Eqw v [v x, x] [] := by
  have := eqw_pair hv (v x)
  rw [hv] at this
  exact this
omit hv in
theorem ginv_app (u w : List A) : ginv v (u ++ w) = ginv v w ++ ginv v u := by simp [ginv]
omit hv in
theorem ginv_nil : ginv v ([] : List A) = [] := rfl
theorem ginv_ginv (w : List A) : ginv v (ginv v w) = w := by
  simp only [ginv, List.map_reverse, List.reverse_reverse, List.map_map]
  have : v ∘ v = id := funext hv
  rw [this, List.map_id]
theorem eqw_inv1 : ∀ w : List A, Eqw v (w ++ ginv v w) []
  | [] => rfl
  | x :: w => by
    have e : x :: w ++ ginv v (x :: w) = [x] ++ ((w ++ ginv v w) ++ [v x]) := by simp [ginv]
    rw [e]
    have h1 : Eqw v ((w ++ ginv v w) ++ [v x]) ([] ++ [v x]) := Eqw.app hv (eqw_inv1 w) (Eqw.refl _)
    exact (Eqw.app hv (Eqw.refl [x]) h1).trans (eqw_pair hv x)
theorem eqw_inv2 (w : List A) : Eqw v (ginv v w ++ w) [] := by
  have := eqw_inv1 hv (ginv v w)
  rw [ginv_ginv hv] at this
  exact this
/-- right and left cancelling -/
theorem eqw_mid {a b : List A} {c : List A} : Eqw v (a ++ (ginv v c ++ (c ++ b))) (a ++ b) := by
  rw [← List.append_assoc (ginv v c)]
  exact Eqw.app hv (Eqw.refl a) (Eqw.app hv (eqw_inv2 hv c) (Eqw.refl b))
theorem eqw_mid2 {a b : List A} {c : List A} : Eqw v (a ++ (c ++ (ginv v c ++ b))) (a ++ b) := by
  rw [← List.append_assoc c]
  exact Eqw.app hv (Eqw.refl a) (Eqw.app hv (eqw_inv1 hv c) (Eqw.refl b))
theorem Eqw.inv {u w : List A} (e : Eqw v u w) : Eqw v (ginv v u) (ginv v w) := by
  have h1 : Eqw v (ginv v u ++ (w ++ ginv v w)) (ginv v u ++ []) := Eqw.app hv (Eqw.refl _) (eqw_inv1 hv w)
  have h2 : Eqw v (ginv v u ++ (u ++ ginv v w)) (ginv v u ++ (w ++ ginv v w)) := Eqw.app hv (Eqw.refl _) (Eqw.app hv e (Eqw.refl _))
  have h3 : Eqw v (ginv v u ++ (u ++ ginv v w)) (ginv v w) := eqw_mid hv (a := [])
  rw [List.append_nil] at h1
  exact (h1.symm.trans h2.symm).trans h3
omit hv in
theorem rdd_mem_step : ∀ {l : List A}, Rdd v l ↔ ∀ i x y, l[i]? = some x → l[i+1]? = some y → x ≠ v y
  | [] => by simp [Rdd]
  | [a] => by simp [Rdd]
  | a :: b :: t => by
    have ih := rdd_mem_step (l := b :: t)
    constructor
    · intro h i x y h1 h2
      cases i with
      | zero => simp at h1 h2; subst h1 h2; exact h.1
      | succ i => exact (ih.mp h.2) i x y (by simpa using h1) (by simpa using h2)
    · intro h
      exact ⟨h 0 a b rfl rfl, ih.mpr fun i x y h1 h2 => h (i+1) x y (by simpa using h1) (by simpa using h2)⟩
theorem rdd_snoc : ∀ {l : List A} {x y : A}, Rdd v (l ++ [x]) → x ≠ v y → Rdd v (l ++ [x, y])
  | [], x, y, _, h => ⟨h, trivial⟩
  | [a], x, y, h1, h => ⟨h1.1, h, trivial⟩
  | a :: b :: t, x, y, h1, h => ⟨h1.1, rdd_snoc (l := b :: t) h1.2 h⟩
theorem rdd_rev : ∀ {l : List A}, Rdd v l → Rdd v l.reverse
  | [], _ => trivial
  | [a], _ => trivial
  | a :: b :: t, h => by
    have ih := rdd_rev (l := b :: t) h.2
    rw [List.reverse_cons] at ih
    have e : (a :: b :: t).reverse = t.reverse ++ [b, a] := by simp
    rw [e]
    exact rdd_snoc hv ih fun q => h.1 (v_swap hv q)
theorem rdd_red (w : List A) : Rdd v (gred v w) := rdd_rev hv (rdd_act hv w trivial)
theorem act_keep : ∀ (w st : List A), Rdd v (w.reverse ++ st) → gact v w st = w.reverse ++ st
  | [], _, _ => rfl
  | x :: w, st, h => by
    have e : (x :: w).reverse ++ st = w.reverse ++ (x :: st) := by simp
    rw [e] at h
    have hp : gpush v st x = x :: st := by
      cases st with
      | nil => rfl
      | cons y t =>
        have h2 : Rdd v (x :: y :: t) := by
          have go : ∀ l : List A, Rdd v (l ++ x :: y :: t) → Rdd v (x :: y :: t) := fun l => by
            induction l with
            | nil => exact id
            | cons a l ih => exact fun q => ih (Rdd.tail hv q)
          exact go _ h
        have : ¬ y = v x := fun q => h2.1 (v_swap hv q)
        simp [gpush, this]
    show gact v w (gpush v st x) = _
    rw [hp, act_keep w _ h, e]
theorem red_of_rdd {w : List A} (h : Rdd v w) : gred v w = w := by
  have h2 : Rdd v (w.reverse ++ []) := by rw [List.append_nil]; exact rdd_rev hv h
  have := act_keep hv w [] h2
  unfold gred
  rw [this, List.append_nil, List.reverse_reverse]
theorem rdd_inv {w : List A} (h : Rdd v w) : Rdd v (ginv v w) := by
  apply rdd_rev hv
  rw [rdd_mem_step] at h ⊢
  intro i x y h1 h2
  rw [List.getElem?_map] at h1 h2
  cases e1 : w[i]? with
  | none => rw [e1] at h1; cases h1
  | some a =>
    cases e2 : w[i+1]? with
    | none => rw [e2] at h2; cases h2
    | some b =>
      rw [e1] at h1; rw [e2] at h2
      simp at h1 h2
      subst h1 h2
      intro q
      apply h i a b e1 e2
      rw [hv] at q
      rw [← q, hv] <;> rfl
theorem red_inv (w : List A) : gred v (ginv v w) = ginv v (gred v w) := by
  have h1 : gred v (ginv v (gred v w)) = ginv v (gred v w) := red_of_rdd hv (rdd_inv hv (rdd_red hv w))
  rw [← h1]
  exact (Eqw.inv hv (eqw_red hv w)).symm
theorem red_app (u w : List A) : gred v (gred v u ++ w) = gred v (u ++ w) := Eqw.app hv (eqw_red hv u) (Eqw.refl w)
omit hv in
theorem push_mem {st : List A} {x y : A} (h : y ∈ gpush v st x) : y = x ∨ y ∈ st := by
  cases st with
  | nil => simp [gpush] at h; exact .inl h
  | cons z t =>
    rw [gpush_cons] at h
    split at h
    · exact .inr (List.mem_cons_of_mem _ h)
    · rcases List.mem_cons.mp h with h | h
      · exact .inl h
      · exact .inr h
omit hv in
theorem act_mem : ∀ (w : List A) {st : List A} {y : A}, y ∈ gact v w st → y ∈ w ∨ y ∈ st
  | [], _, _, h => .inr h
  | x :: w, st, y, h => by
    rcases act_mem w (st := gpush v st x) h with h | h
    · exact .inl (List.mem_cons_of_mem _ h)
    · rcases push_mem h with h | h
      · exact .inl (by rw [h]; exact List.mem_cons_self)
      · exact .inr h
omit hv in
theorem red_mem {w : List A} {y : A} (h : y ∈ gred v w) : y ∈ w := by
  rcases act_mem w (List.mem_reverse.mp h) with h | h
  · exact h
  · cases h
omit hv in
theorem push_len (st : List A) (x : A) : (gpush v st x).length ≤ st.length + 1 := by
  cases st with
  | nil => simp [gpush]
  | cons z t =>
    rw [gpush_cons]
    split <;> simp <;> omega
omit hv in
theorem act_len : ∀ (w st : List A), (gact v w st).length ≤ w.length + st.length
  | [], st => by simp [gact]
  | x :: w, st => by
    have h1 := act_len w (gpush v st x)
    have h2 := push_len (v := v) st x
    show (gact v w (gpush v st x)).length ≤ _
    simp only [List.length_cons]
    omega
omit hv in
theorem red_len (w : List A) : (gred v w).length ≤ w.length := by
  unfold gred
  rw [List.length_reverse]
  simpa using act_len (v := v) w []
omit hv in
theorem ginv_len (w : List A) : (ginv v w).length = w.length := by simp [ginv]
end
end FW
namespace FW
/-! letters, words, members of a family, actions -/
abbrev L := Fin 3 × Bool
abbrev Wd := List L
def inv (x : L) : L := (x.1, !x.2)
theorem inv_inv (x : L) : inv (inv x) = x := by
  obtain ⟨a, b⟩ := x
  simp [inv]
theorem inv_ne (x : L) : inv x ≠ x := by
  obtain ⟨a, b⟩ := x
  cases b <;> simp [inv]
abbrev red (w : Wd) : Wd := gred inv w
abbrev winv (w : Wd) : Wd := ginv inv w
abbrev E (u w : Wd) : Prop := Eqw inv u w
theorem E.app {u u' w w' : Wd} (e : E u u') (f : E w w') : E (u ++ w) (u' ++ w') := Eqw.app inv_inv e f
theorem E.inv {u w : Wd} (e : E u w) : E (winv u) (winv w) := Eqw.inv inv_inv e
theorem E.rfl' {u : Wd} : E u u := Eqw.refl u
theorem e_red (w : Wd) : E (red w) w := eqw_red inv_inv w
theorem e_right (w : Wd) : E (w ++ winv w) [] := eqw_inv1 inv_inv w
theorem e_left (w : Wd) : E (winv w ++ w) [] := eqw_inv2 inv_inv w
theorem E.right {a b c : Wd} (e : E a (b ++ winv c)) : E (a ++ c) b := by
  have h1 : E (a ++ c) ((b ++ winv c) ++ c) := E.app e E.rfl'
  have h2 : E ((b ++ winv c) ++ c) (b ++ []) := by
    rw [List.append_assoc]
    exact E.app E.rfl' (e_left c)
  rw [List.append_nil] at h2
  exact Eqw.trans h1 h2
theorem E.moveR {a b c : Wd} (e : E (a ++ c) b) : E a (b ++ winv c) := by
  have h1 : E ((a ++ c) ++ winv c) (b ++ winv c) := E.app e E.rfl'
  have h2 : E ((a ++ c) ++ winv c) (a ++ []) := by
    rw [List.append_assoc]
    exact E.app E.rfl' (e_right c)
  rw [List.append_nil] at h2
  exact Eqw.trans (Eqw.symm h2) h1
theorem E.mid {a b c : Wd} : E ((a ++ winv c) ++ (c ++ b)) (a ++ b) := by
  rw [List.append_assoc]
  exact eqw_mid inv_inv
theorem E.mid2 {a b c : Wd} : E ((a ++ c) ++ (winv c ++ b)) (a ++ b) := by
  rw [List.append_assoc]
  exact eqw_mid2 inv_inv
theorem winv_winv (w : Wd) : winv (winv w) = w := ginv_ginv inv_inv w
theorem winv_app (u w : Wd) : winv (u ++ w) = winv w ++ winv u := ginv_app u w

/-- the members: what is made of given words and their inverses -/
inductive Mem (gs : List Wd) : Wd → Prop where
  | nil : Mem gs []
  | mul {u g : Wd} : Mem gs u → g ∈ gs → Mem gs (u ++ g)
  | mulInv {u g : Wd} : Mem gs u → g ∈ gs → Mem gs (u ++ winv g)
  | eqv {u w : Wd} : Mem gs u → E u w → Mem gs w
theorem Mem.one {gs : List Wd} {g : Wd} (h : g ∈ gs) : Mem gs g := Mem.mul (u := []) .nil h
theorem Mem.oneInv {gs : List Wd} {g : Wd} (h : g ∈ gs) : Mem gs (winv g) := Mem.mulInv (u := []) .nil h
theorem Mem.app {gs : List Wd} {u w : Wd} (hu : Mem gs u) (hw : Mem gs w) : Mem gs (u ++ w) := by
  induction hw with
  | nil => rw [List.append_nil]; exact hu
  | mul _ hg ih => rw [← List.append_assoc]; exact .mul ih hg
  | mulInv _ hg ih => rw [← List.append_assoc]; exact .mulInv ih hg
  | eqv _ e ih => exact .eqv ih (E.app E.rfl' e)
theorem Mem.inv {gs : List Wd} {w : Wd} (h : Mem gs w) : Mem gs (winv w) := by
  induction h with
  | nil => exact .nil
  | mul _ hg ih => rw [winv_app]; exact Mem.app (Mem.oneInv hg) ih
  | @mulInv u g _ hg ih => rw [winv_app, winv_winv]; exact Mem.app (Mem.one hg) ih
  | eqv _ e ih => exact .eqv ih (E.inv e)
theorem mem_inv {gs : List Wd} {w : Wd} : Mem gs (winv w) ↔ Mem gs w := ⟨fun h => by have := h.inv; rwa [winv_winv] at this, Mem.inv⟩
theorem mem_red {gs : List Wd} {w : Wd} : Mem gs (red w) ↔ Mem gs w := ⟨fun h => .eqv h (e_red w), fun h => .eqv h (Eqw.symm (e_red w))⟩
theorem mem_of_app_left {gs : List Wd} {u w : Wd} (hu : Mem gs u) (h : Mem gs (u ++ w)) : Mem gs w := by
  refine .eqv (Mem.app hu.inv h) ?_
  rw [← List.append_assoc]
  exact Eqw.trans (E.app (e_left u) E.rfl') E.rfl'
theorem mem_of_app_right {gs : List Wd} {u w : Wd} (hw : Mem gs w) (h : Mem gs (u ++ w)) : Mem gs u := by
  refine .eqv (Mem.app h hw.inv) ?_
  rw [List.append_assoc]
  have := E.app (E.rfl' (u := u)) (e_right w)
  rw [List.append_nil] at this
  exact this
theorem Mem.more {gs hs : List Wd} {w : Wd} (h : Mem gs w) : Mem (gs ++ hs) w := by
  induction h with
  | nil => exact .nil
  | mul _ hg ih => exact .mul ih (List.mem_append_left _ hg)
  | mulInv _ hg ih => exact .mulInv ih (List.mem_append_left _ hg)
  | eqv _ e ih => exact .eqv ih e

/-! actions: rows of images -/
abbrev Act := List (List Nat)
structure IsPerm (n : Nat) (row : List Nat) : Prop where
  len : row.length = n
  nd : row.Nodup
  lt : ∀ x ∈ row, x < n
def ActOk (n : Nat) (a : Act) : Prop := ∀ row ∈ a, IsPerm n row
def img (a : Act) (p : Nat) (x : L) : Nat := match a[x.1.val]? with
  | some row => if x.2 then row.idxOf p else row.getD p 0
  | none => p
def imgs (a : Act) (p : Nat) (w : Wd) : Nat := w.foldl (img a) p
theorem imgs_app (a : Act) (p : Nat) (u w : Wd) : imgs a p (u ++ w) = imgs a (imgs a p u) w := by
  unfold imgs
  rw [List.foldl_append]
/-- a list of n different numbers below n has each of them -/
theorem full_mem : ∀ (n : Nat) (l : List Nat), l.length = n → l.Nodup → (∀ x ∈ l, x < n) → ∀ p, p < n → p ∈ l
  | 0, _, _, _, _, p, h => absurd h (Nat.not_lt_zero p)
  | n + 1, l, hl, hn, hb, p, hp => by
    by_cases hm : n ∈ l
    · have h1 : (l.erase n).length = n := by rw [List.length_erase_of_mem hm]; omega
      have h2 : (l.erase n).Nodup := hn.erase n
      have h3 : ∀ x ∈ l.erase n, x < n := fun x hx => by
        have := (List.Nodup.mem_erase_iff hn).mp hx
        have := hb x this.2
        omega
      by_cases e : p = n
      · rw [e]; exact hm
      · exact List.mem_of_mem_erase (full_mem n (l.erase n) h1 h2 h3 p (by omega))
    · exfalso
      cases l with
      | nil => simp at hl
      | cons a t =>
        have h3 : ∀ x ∈ a :: t, x < n := fun x hx => by
          have := hb x hx
          have : x ≠ n := fun e => hm (e ▸ hx)
          omega
        have ht : t.length = n := by simpa using hl
        have := full_mem n t ht (List.nodup_cons.mp hn).2 (fun x hx => h3 x (List.mem_cons_of_mem _ hx)) a (h3 a List.mem_cons_self)
        exact (List.nodup_cons.mp hn).1 this
theorem IsPerm.mem {n : Nat} {row : List Nat} (h : IsPerm n row) {p : Nat} (hp : p < n) : p ∈ row := full_mem n row h.len h.nd h.lt p hp
theorem img_lt {n : Nat} {a : Act} (h : ActOk n a) {p : Nat} (hp : p < n) (x : L) : img a p x < n := by
  unfold img
  split
  · rename_i row e
    have hr := h row (List.mem_of_getElem? e)
    split
    · rw [← hr.len]
      exact List.idxOf_lt_length_of_mem (hr.mem hp)
    · rw [List.getD_eq_getElem?_getD, List.getElem?_eq_getElem (by rw [hr.len]; exact hp)]
      exact hr.lt _ (List.getElem_mem _)
  · exact hp
theorem img_back {n : Nat} {a : Act} (h : ActOk n a) {p : Nat} (hp : p < n) (x : L) : img a (img a p x) (inv x) = p := by
  unfold img
  show (match a[x.1.val]? with | some row => _ | none => _) = p
  cases e : a[x.1.val]? with
  | none => rfl
  | some row =>
    have hr := h row (List.mem_of_getElem? e)
    have hp' : p < row.length := by rw [hr.len]; exact hp
    cases hx : x.2 with
    | true =>
      show (if (inv x).2 = true then row.idxOf (row.idxOf p) else row.getD (row.idxOf p) 0) = p
      have : (inv x).2 = false := by simp [inv, hx]
      rw [this]
      have hi : row.idxOf p < row.length := List.idxOf_lt_length_of_mem (hr.mem hp)
      rw [if_neg (by decide), List.getD_eq_getElem?_getD, List.getElem?_eq_getElem hi]
      exact List.getElem_idxOf hi
    | false =>
      show (if (inv x).2 = true then row.idxOf (row.getD p 0) else row.getD (row.getD p 0) 0) = p
      have : (inv x).2 = true := by simp [inv, hx]
      rw [this, if_pos rfl, List.getD_eq_getElem?_getD, List.getElem?_eq_getElem hp']
      exact hr.nd.idxOf_getElem p hp'
theorem imgs_lt {n : Nat} {a : Act} (h : ActOk n a) : ∀ (w : Wd) {p : Nat}, p < n → imgs a p w < n
  | [], _, hp => hp
  | x :: w, p, hp => imgs_lt h w (img_lt h hp x)
theorem inv_img_back {n : Nat} {a : Act} (h : ActOk n a) {p : Nat} (hp : p < n) (x : L) : img a (img a p (inv x)) x = p := by
  have := img_back h hp (inv x)
  rwa [inv_inv] at this
/-- the stack and what it does -/
theorem imgs_stack {n : Nat} {a : Act} (h : ActOk n a) : ∀ (w s : Wd) {p : Nat}, p < n → imgs a p (gact inv w s).reverse = imgs a (imgs a p s.reverse) w
  | [], _, _, _ => rfl
  | x :: w, s, p, hp => by
    show imgs a p (gact inv w (gpush inv s x)).reverse = imgs a (img a (imgs a p s.reverse) x) w
    rw [imgs_stack h w (gpush inv s x) hp]
    congr 1
    cases s with
    | nil => rfl
    | cons y t =>
      rw [gpush_cons]
      split
      · rename_i e
        rw [List.reverse_cons, imgs_app]
        show _ = img a (img a (imgs a p t.reverse) y) x
        rw [e]
        exact (inv_img_back h (imgs_lt h _ hp) x).symm
      · rw [List.reverse_cons, imgs_app]
        rfl
theorem imgs_red {n : Nat} {a : Act} (h : ActOk n a) (w : Wd) {p : Nat} (hp : p < n) : imgs a p (red w) = imgs a p w := imgs_stack h w [] hp
theorem imgs_E {n : Nat} {a : Act} (h : ActOk n a) {u w : Wd} (e : E u w) {p : Nat} (hp : p < n) : imgs a p u = imgs a p w := by
  rw [← imgs_red h u hp, ← imgs_red h w hp, show red u = red w from e]
theorem imgs_inv {n : Nat} {a : Act} (h : ActOk n a) {w : Wd} {p : Nat} (hp : p < n) (hw : imgs a p w = p) : imgs a p (winv w) = p := by
  have h1 := imgs_E h (e_right w) hp
  rw [imgs_app, hw] at h1
  exact h1
theorem Mem.img {gs : List Wd} {n : Nat} {a : Act} (h : ActOk n a) (hn : 0 < n) (hg : ∀ g ∈ gs, imgs a 0 g = 0) {w : Wd} (m : Mem gs w) : imgs a 0 w = 0 := by
  induction m with
  | nil => rfl
  | mul _ hm ih => rw [imgs_app, ih]; exact hg _ hm
  | mulInv _ hm ih => rw [imgs_app, ih]; exact imgs_inv h hn (hg _ hm)
  | eqv _ e ih => rw [← imgs_E h e hn]; exact ih
end FW
namespace FW
/-! the folding: points, parents, links, steps -/
abbrev Fac := Bool × Nat × Bool
abbrev Ed := Nat × Fin 3 × Nat
abbrev Stp := Wd × List Fac
def finv (f : Fac) : Fac := (f.1, f.2.1, !f.2.2)
theorem finv_finv (f : Fac) : finv (finv f) = f := by
  obtain ⟨a, b, c⟩ := f
  simp [finv]
abbrev opp (fs : List Fac) : List Fac := ginv finv fs
abbrev short (fs : List Fac) : List Fac := gred finv fs
structure FS where
  pre : List Wd
  edges : List Ed
  par : List (Option Nat)
  lnk : List (Option Nat)
  steps : List Stp
def root (par : List (Option Nat)) (p : Nat) : Nat := match par[p]? with
  | some (some q) => if q < p then root par q else p
  | _ => p
termination_by p
def chain (par lnk : List (Option Nat)) (p : Nat) : List Fac := match par[p]? with
  | some (some q) => if q < p then (match lnk[p]? with
    | some (some i) => (true, i, true) :: chain par lnk q
    | _ => chain par lnk q) else []
  | _ => []
termination_by p
def sg (w : Wd) (b : Bool) : Wd := if b then w else winv w
def fval (gs : List Wd) (st : List Stp) (f : Fac) : Wd := sg (if f.1 then (st.getD f.2.1 ([], [])).1 else gs.getD f.2.1 []) f.2.2
def fprod (gs : List Wd) (st : List Stp) (fs : List Fac) : Wd := (fs.map (fval gs st)).flatten
def Pt (S : FS) (p : Nat) : Wd := S.pre.getD p []
def FacOk (gs : List Wd) (n : Nat) (f : Fac) : Prop := if f.1 then f.2.1 < n else f.2.1 < gs.length
def InR (r : Nat) (w : Wd) : Prop := ∀ x ∈ w, x.1.val < r
/-- a step that holds at its index; k bounds the letters, m the factors -/
structure StepOk (r k m : Nat) (gs : List Wd) (st : List Stp) (i : Nat) (s : Stp) : Prop where
  val : red (fprod gs st s.2) = s.1
  fac : ∀ f ∈ s.2, FacOk gs i f
  inr : InR r s.1
  len : s.1.length ≤ k
  many : s.2.length ≤ m

theorem fprod_app (gs : List Wd) (st : List Stp) (a b : List Fac) : fprod gs st (a ++ b) = fprod gs st a ++ fprod gs st b := by
  simp [fprod]
theorem fprod_nil (gs : List Wd) (st : List Stp) : fprod gs st [] = [] := rfl
theorem fprod_cons (gs : List Wd) (st : List Stp) (f : Fac) (fs : List Fac) : fprod gs st (f :: fs) = fval gs st f ++ fprod gs st fs := rfl
theorem fval_finv (gs : List Wd) (st : List Stp) (f : Fac) : fval gs st (finv f) = winv (fval gs st f) := by
  obtain ⟨a, b, c⟩ := f
  cases c
  · simp [fval, finv, sg, winv_winv]
  · simp [fval, finv, sg]
theorem fprod_opp (gs : List Wd) (st : List Stp) : ∀ fs : List Fac, fprod gs st (opp fs) = winv (fprod gs st fs)
  | [] => rfl
  | f :: fs => by
    have e : opp (f :: fs) = opp fs ++ [finv f] := by simp [ginv]
    rw [e, fprod_app, fprod_opp gs st fs, fprod_cons, fprod_nil, fval_finv, List.append_nil, fprod_cons gs st f fs, winv_app]
theorem fprod_push (gs : List Wd) (st : List Stp) (s : List Fac) (f : Fac) : E (fprod gs st (gpush finv s f).reverse) (fprod gs st s.reverse ++ fval gs st f) := by
  cases s with
  | nil => show E (fprod gs st [f]) _; rw [fprod_cons, fprod_nil, List.append_nil]; exact E.rfl'
  | cons y t =>
    rw [gpush_cons]
    split
    · rename_i e
      rw [List.reverse_cons, fprod_app, fprod_cons, fprod_nil, List.append_nil, e, fval_finv, List.append_assoc]
      have := E.app (E.rfl' (u := fprod gs st t.reverse)) (e_left (fval gs st f))
      rw [List.append_nil] at this
      exact Eqw.symm this
    · rw [List.reverse_cons, fprod_app, fprod_cons, fprod_nil, List.append_nil]
      exact E.rfl'
theorem fprod_act (gs : List Wd) (st : List Stp) : ∀ (fs s : List Fac), E (fprod gs st (gact finv fs s).reverse) (fprod gs st s.reverse ++ fprod gs st fs)
  | [], s => by rw [fprod_nil, List.append_nil]; exact E.rfl'
  | f :: fs, s => by
    have h1 := fprod_act gs st fs (gpush finv s f)
    have h2 := E.app (fprod_push gs st s f) (E.rfl' (u := fprod gs st fs))
    rw [List.append_assoc] at h2
    exact Eqw.trans h1 h2
theorem fprod_short (gs : List Wd) (st : List Stp) (fs : List Fac) : E (fprod gs st (short fs)) (fprod gs st fs) := fprod_act gs st fs []
theorem short_ok {gs : List Wd} {n : Nat} {fs : List Fac} (h : ∀ f ∈ fs, FacOk gs n f) : ∀ f ∈ short fs, FacOk gs n f := fun f hf => h f (red_mem hf)
theorem opp_ok {gs : List Wd} {n : Nat} {fs : List Fac} (h : ∀ f ∈ fs, FacOk gs n f) : ∀ f ∈ opp fs, FacOk gs n f := fun f hf => by
  obtain ⟨g, hg, e⟩ := List.mem_map.mp (List.mem_reverse.mp hf)
  have := h g hg
  rw [← e]
  exact this
theorem FacOk.mono {gs : List Wd} {n m : Nat} {f : Fac} (h : FacOk gs n f) (hnm : n ≤ m) : FacOk gs m f := by
  unfold FacOk at *
  split
  · rename_i e; rw [if_pos e] at h; omega
  · rename_i e; rw [if_neg e] at h; exact h
theorem fval_more {gs hs : List Wd} {st us : List Stp} {f : Fac} (h : FacOk gs st.length f) : fval (gs ++ hs) (st ++ us) f = fval gs st f := by
  unfold fval
  unfold FacOk at h
  congr 1
  split
  · rename_i e
    rw [if_pos e] at h
    rw [List.getD_eq_getElem?_getD, List.getD_eq_getElem?_getD, List.getElem?_append_left h]
  · rename_i e
    rw [if_neg e] at h
    rw [List.getD_eq_getElem?_getD, List.getD_eq_getElem?_getD, List.getElem?_append_left h]
theorem fprod_more {gs hs : List Wd} {st us : List Stp} {fs : List Fac} (h : ∀ f ∈ fs, FacOk gs st.length f) : fprod (gs ++ hs) (st ++ us) fs = fprod gs st fs := by
  unfold fprod
  congr 1
  exact List.map_congr_left fun f hf => fval_more (h f hf)

/-- number of points that have a parent -/
def bound (par : List (Option Nat)) : Nat := (par.filter Option.isSome).length
structure WF (r : Nat) (gs : List Wd) (S : FS) : Prop where
  plen : S.par.length = S.pre.length
  llen : S.lnk.length = S.pre.length
  zero : S.pre[0]? = some []
  par : ∀ p q : Nat, S.par[p]? = some (some q) → q < p
  lnk : ∀ p q i : Nat, S.par[p]? = some (some q) → S.lnk[p]? = some (some i) → ∃ s, S.steps[i]? = some s ∧ E s.1 (Pt S p ++ winv (Pt S q))
  non : ∀ p q : Nat, S.par[p]? = some (some q) → S.lnk[p]? = some none → E (Pt S p) (Pt S q)
  steps : ∀ (i : Nat) (s : Stp), S.steps[i]? = some s → StepOk r 16 1000 gs S.steps i s
  edge : ∀ (a : Nat) (k : Fin 3) (b : Nat), (a, k, b) ∈ S.edges → a < S.pre.length ∧ b < S.pre.length ∧ E (Pt S b) (Pt S a ++ [(k, false)]) ∧ k.val < r
  count : S.steps.length ≤ bound S.par
  wlen : ∀ w ∈ S.pre, w.length ≤ 8 ∧ InR r w
  elen : S.edges.length + 1 = S.pre.length
  lfree : ∀ p : Nat, S.par[p]? = some none → S.lnk[p]? = some none
section
variable {r : Nat} {gs : List Wd} {S : FS}
theorem WF.pos (h : WF r gs S) : 0 < S.pre.length := (List.getElem?_eq_some_iff.mp h.zero).1
theorem WF.pt0 (h : WF r gs S) : Pt S 0 = [] := by
  unfold Pt
  rw [List.getD_eq_getElem?_getD, h.zero] <;> rfl
theorem WF.par0 (h : WF r gs S) : S.par[0]? = some none := by
  have h0 : 0 < S.par.length := by rw [h.plen]; exact h.pos
  cases e : S.par[0]? with
  | none => exact absurd (List.getElem?_eq_none_iff.mp e) (by omega)
  | some o =>
    cases o with
    | none => rfl
    | some q => exact absurd (h.par 0 q e) (Nat.not_lt_zero q)
end
theorem root_some {par : List (Option Nat)} {p q : Nat} (h : par[p]? = some (some q)) (hq : q < p) : root par p = root par q := by
  rw [root, h]
  simp [hq]
theorem root_none {par : List (Option Nat)} {p : Nat} (h : par[p]? = some none) : root par p = p := by
  rw [root, h]
theorem root_out {par : List (Option Nat)} {p : Nat} (h : par[p]? = none) : root par p = p := by
  rw [root, h]
theorem chain_none {par lnk : List (Option Nat)} {p : Nat} (h : par[p]? = some none) : chain par lnk p = [] := by
  rw [chain, h]
theorem chain_out {par lnk : List (Option Nat)} {p : Nat} (h : par[p]? = none) : chain par lnk p = [] := by
  rw [chain, h]
theorem chain_link {par lnk : List (Option Nat)} {p q i : Nat} (h : par[p]? = some (some q)) (hq : q < p) (hl : lnk[p]? = some (some i)) : chain par lnk p = (true, i, true) :: chain par lnk q := by
  rw [chain, h]
  simp [hq, hl]
theorem chain_free {par lnk : List (Option Nat)} {p q : Nat} (h : par[p]? = some (some q)) (hq : q < p) (hl : lnk[p]? = some none) : chain par lnk p = chain par lnk q := by
  rw [chain, h]
  simp [hq, hl]
section
variable {r : Nat} {gs : List Wd} {S : FS}
theorem WF.root_le (h : WF r gs S) : ∀ (n p : Nat), p ≤ n → root S.par p ≤ p ∧ (p < S.pre.length → S.par[root S.par p]? = some none)
  | n, p, hp => by
    cases e : S.par[p]? with
    | none =>
      rw [root_out e]
      have := List.getElem?_eq_none_iff.mp e
      have := h.plen
      exact ⟨Nat.le_refl _, fun hq => by omega⟩
    | some o =>
      cases o with
      | none => rw [root_none e]; exact ⟨Nat.le_refl _, fun _ => e⟩
      | some q =>
        have hq := h.par p q e
        rw [root_some e hq]
        cases n with
        | zero => omega
        | succ n =>
          have ih := WF.root_le h n q (by omega)
          exact ⟨by omega, fun hl => ih.2 (by omega)⟩
theorem WF.rle (h : WF r gs S) (p : Nat) : root S.par p ≤ p := (h.root_le p p (Nat.le_refl _)).1
theorem WF.rnone (h : WF r gs S) {p : Nat} (hp : p < S.pre.length) : S.par[root S.par p]? = some none := (h.root_le p p (Nat.le_refl _)).2 hp
theorem WF.rlt (h : WF r gs S) {p : Nat} (hp : p < S.pre.length) : root S.par p < S.pre.length := Nat.lt_of_le_of_lt (h.rle p) hp
theorem WF.rr (h : WF r gs S) {p : Nat} (hp : p < S.pre.length) : root S.par (root S.par p) = root S.par p := root_none (h.rnone hp)
theorem WF.root0 (h : WF r gs S) : root S.par 0 = 0 := root_none h.par0
theorem step_val {st : List Stp} {i : Nat} {s : Stp} (hs : st[i]? = some s) : fval gs st (true, i, true) = s.1 := by
  unfold fval
  simp [List.getD_eq_getElem?_getD, hs, sg]
/-- the chain's value, its factors, its length -/
theorem WF.chain' (h : WF r gs S) : ∀ (n p : Nat), p ≤ n → p < S.pre.length → E (fprod gs S.steps (chain S.par S.lnk p)) (Pt S p ++ winv (Pt S (root S.par p))) ∧ (∀ f ∈ chain S.par S.lnk p, FacOk gs S.steps.length f) ∧ (chain S.par S.lnk p).length ≤ p
  | n, p, hn, hp => by
    have hpl : p < S.par.length := by rw [h.plen]; exact hp
    have hll : p < S.lnk.length := by rw [h.llen]; exact hp
    cases e : S.par[p]? with
    | none => exact absurd (List.getElem?_eq_none_iff.mp e) (by omega)
    | some o =>
      cases o with
      | none =>
        rw [chain_none e, root_none e]
        exact ⟨Eqw.symm (e_right _), by simp, by simp⟩
      | some q =>
        have hq := h.par p q e
        rw [root_some e hq]
        cases n with
        | zero => omega
        | succ n =>
          obtain ⟨i1, i2, i3⟩ := WF.chain' h n q (by omega) (by omega)
          cases e2 : S.lnk[p]? with
          | none => exact absurd (List.getElem?_eq_none_iff.mp e2) (by omega)
          | some o2 =>
            cases o2 with
            | none =>
              rw [chain_free e hq e2]
              have := h.non p q e e2
              exact ⟨Eqw.trans i1 (E.app (Eqw.symm this) E.rfl'), i2, by omega⟩
            | some i =>
              rw [chain_link e hq e2]
              obtain ⟨s, hs, hE⟩ := h.lnk p q i e e2
              refine ⟨?_, fun f hf => ?_, by simp; omega⟩
              · rw [fprod_cons, step_val hs]
                exact Eqw.trans (E.app hE i1) E.mid
              · rcases List.mem_cons.mp hf with e3 | hf
                · rw [e3]
                  show FacOk gs S.steps.length (true, i, true)
                  exact (List.getElem?_eq_some_iff.mp hs).1
                · exact i2 f hf
end
end FW
namespace FW
/-! graphs as lists of edges; walking -/
def Eg (es : List Ed) (a : Nat) (x : L) (b : Nat) : Prop := if x.2 then (b, x.1, a) ∈ es else (a, x.1, b) ∈ es
def Wk (es : List Ed) : Nat → Wd → Nat → Prop
  | a, [], b => a = b
  | a, x :: w, b => ∃ c, Eg es a x c ∧ Wk es c w b
def Det (es : List Ed) : Prop := ∀ a x b c, Eg es a x b → Eg es a x c → b = c
theorem eg_inv {es : List Ed} {a b : Nat} {x : L} : Eg es a x b → Eg es b (inv x) a := by
  obtain ⟨k, c⟩ := x
  cases c <;> simp [Eg, inv]
theorem eg_inv' {es : List Ed} {a b : Nat} {x : L} (h : Eg es b (inv x) a) : Eg es a x b := by
  have := eg_inv h
  rwa [inv_inv] at this
theorem wk_app {es : List Ed} : ∀ {u w : Wd} {a b : Nat}, Wk es a (u ++ w) b ↔ ∃ c, Wk es a u c ∧ Wk es c w b
  | [], w, a, b => by simp [Wk]
  | x :: u, w, a, b => by
    constructor
    · rintro ⟨c, h1, h2⟩
      obtain ⟨d, h3, h4⟩ := wk_app.mp h2
      exact ⟨d, ⟨c, h1, h3⟩, h4⟩
    · rintro ⟨d, ⟨c, h1, h3⟩, h4⟩
      exact ⟨c, h1, wk_app.mpr ⟨d, h3, h4⟩⟩
theorem wk_one {es : List Ed} {a b : Nat} {x : L} : Wk es a [x] b ↔ Eg es a x b := by
  constructor
  · rintro ⟨c, h, e⟩
    have e : c = b := e
    rw [← e]; exact h
  · intro h
    exact ⟨b, h, rfl⟩
theorem wk_inv {es : List Ed} : ∀ {w : Wd} {a b : Nat}, Wk es a w b → Wk es b (winv w) a
  | [], a, b, h => Eq.symm h
  | x :: w, a, b, ⟨c, h1, h2⟩ => by
    have e : winv (x :: w) = winv w ++ [inv x] := by simp [ginv]
    rw [e]
    exact wk_app.mpr ⟨c, wk_inv h2, wk_one.mpr (eg_inv h1)⟩
theorem wk_det {es : List Ed} (D : Det es) : ∀ {w : Wd} {a b c : Nat}, Wk es a w b → Wk es a w c → b = c
  | [], a, b, c, h, k => Eq.trans (Eq.symm h) k
  | x :: w, a, b, c, ⟨d, h1, h2⟩, ⟨e, k1, k2⟩ => by
    have := D a x d e h1 k1
    subst this
    exact wk_det D h2 k2
theorem wk_push {es : List Ed} (D : Det es) {s : Wd} {x : L} {a b c : Nat} (h : Wk es a s.reverse b) (hx : Eg es b x c) : Wk es a (gpush inv s x).reverse c := by
  cases s with
  | nil =>
    have h : a = b := h
    subst h
    exact wk_one.mpr hx
  | cons y t =>
    rw [gpush_cons]
    split
    · rename_i e
      rw [List.reverse_cons] at h
      obtain ⟨d, h1, h2⟩ := wk_app.mp h
      have h2 := wk_one.mp h2
      rw [e] at h2
      have h3 : Eg es b x d := eg_inv' (eg_inv' (by rw [inv_inv]; exact eg_inv' h2))
      have := D b x c d hx h3
      rw [this]
      exact h1
    · rw [List.reverse_cons]
      exact wk_app.mpr ⟨b, h, wk_one.mpr hx⟩
theorem wk_act {es : List Ed} (D : Det es) : ∀ {w s : Wd} {a b c : Nat}, Wk es a s.reverse b → Wk es b w c → Wk es a (gact inv w s).reverse c
  | [], s, a, b, c, h, k => by
    have k : b = c := k
    rw [← k]; exact h
  | x :: w, s, a, b, c, h, ⟨d, k1, k2⟩ => wk_act D (s := gpush inv s x) (wk_push D h k1) k2
theorem wk_red {es : List Ed} (D : Det es) {w : Wd} {a b : Nat} (h : Wk es a w b) : Wk es a (red w) b := wk_act D (s := []) (b := a) rfl h
def mapE (f : Nat → Nat) (es : List Ed) : List Ed := es.map fun e => (f e.1, e.2.1, f e.2.2)
theorem eg_map {f : Nat → Nat} {es : List Ed} {a b : Nat} {x : L} (h : Eg es a x b) : Eg (mapE f es) (f a) x (f b) := by
  obtain ⟨k, c⟩ := x
  cases c
  · exact List.mem_map.mpr ⟨_, h, rfl⟩
  · exact List.mem_map.mpr ⟨_, h, rfl⟩
theorem wk_map {f : Nat → Nat} {es : List Ed} : ∀ {w : Wd} {a b : Nat}, Wk es a w b → Wk (mapE f es) (f a) w (f b)
  | [], a, b, h => congrArg f h
  | x :: w, a, b, ⟨c, h1, h2⟩ => ⟨f c, eg_map h1, wk_map h2⟩
theorem eg_sub {es fs : List Ed} (s : ∀ e ∈ es, e ∈ fs) {a b : Nat} {x : L} (h : Eg es a x b) : Eg fs a x b := by
  obtain ⟨k, c⟩ := x
  cases c
  · exact s _ h
  · exact s _ h
theorem wk_sub {es fs : List Ed} (s : ∀ e ∈ es, e ∈ fs) : ∀ {w : Wd} {a b : Nat}, Wk es a w b → Wk fs a w b
  | [], _, _, h => h
  | x :: w, a, b, ⟨c, h1, h2⟩ => ⟨c, eg_sub s h1, wk_sub s h2⟩
theorem mapE_map (f g : Nat → Nat) (es : List Ed) : mapE f (mapE g es) = mapE (f ∘ g) es := by
  simp [mapE]

/-! one state to the next -/
def oneStep : List Fac → Option Nat
  | [(true, n, true)] => some n
  | _ => none
def linkS (S : FS) (p q : Nat) (fs : List Fac) : FS :=
  if red (Pt S p ++ winv (Pt S q)) = [] then { S with par := S.par.set p (some q) }
  else match oneStep (short fs) with
    | some n => { S with par := S.par.set p (some q), lnk := S.lnk.set p (some n) }
    | none => { S with par := S.par.set p (some q), lnk := S.lnk.set p (some S.steps.length), steps := S.steps ++ [(red (Pt S p ++ winv (Pt S q)), short fs)] }
def whole (S : FS) (one other : Nat) (fs : List Fac) : List Fac := opp (chain S.par S.lnk one) ++ fs ++ chain S.par S.lnk other
def mergeS (S : FS) (one other : Nat) (fs : List Fac) : FS :=
  if root S.par one = root S.par other then S
  else if root S.par other < root S.par one then linkS S (root S.par one) (root S.par other) (whole S one other fs)
  else linkS S (root S.par other) (root S.par one) (opp (whole S one other fs))
def fold2 (S : FS) (e f : Ed) : Option FS :=
  if (root S.par e.1 == root S.par f.1) = (root S.par e.2.2 == root S.par f.2.2) then none
  else if root S.par e.1 = root S.par f.1 then some (mergeS S e.2.2 f.2.2 (chain S.par S.lnk e.1 ++ opp (chain S.par S.lnk f.1)))
  else some (mergeS S e.1 f.1 (chain S.par S.lnk e.2.2 ++ opp (chain S.par S.lnk f.2.2)))
def qE (S : FS) : List Ed := mapE (root S.par) S.edges

theorem StepOk.more {r k m : Nat} {gs hs : List Wd} {st us : List Stp} {i : Nat} {s : Stp} (h : StepOk r k m gs st i s) (hi : i ≤ st.length) : StepOk r k m (gs ++ hs) (st ++ us) i s where
  val := by rw [fprod_more fun f hf => (h.fac f hf).mono hi]; exact h.val
  fac := fun f hf => by
    have := h.fac f hf
    unfold FacOk at *
    split
    · rename_i e; rw [if_pos e] at this; exact this
    · rename_i e
      rw [if_neg e] at this
      rw [List.length_append]
      omega
  inr := h.inr
  len := h.len
  many := h.many
theorem StepOk.wide {r k m k' m' : Nat} {gs : List Wd} {st : List Stp} {i : Nat} {s : Stp} (h : StepOk r k m gs st i s) (hk : k ≤ k') (hm : m ≤ m') : StepOk r k' m' gs st i s :=
  ⟨h.val, h.fac, h.inr, Nat.le_trans h.len hk, Nat.le_trans h.many hm⟩
theorem bound_set {par : List (Option Nat)} {p q : Nat} (h : par[p]? = some none) : bound (par.set p (some q)) = bound par + 1 := by
  induction par generalizing p with
  | nil => simp at h
  | cons o t ih =>
    cases p with
    | zero =>
      simp at h
      subst h
      simp [bound]
    | succ p =>
      have := ih (p := p) (by simpa using h)
      unfold bound at *
      rw [List.set_cons_succ, List.filter_cons, List.filter_cons]
      split
      · rw [List.length_cons, List.length_cons]; omega
      · exact this
theorem bound_le (par : List (Option Nat)) : bound par ≤ par.length := List.length_filter_le ..
section
variable {r : Nat} {gs : List Wd} {S : FS}
theorem WF.inr (h : WF r gs S) (p : Nat) : InR r (Pt S p) ∧ (Pt S p).length ≤ 8 := by
  unfold Pt
  rw [List.getD_eq_getElem?_getD]
  cases e : S.pre[p]? with
  | none => exact ⟨fun x hx => absurd hx (by simp), by simp⟩
  | some w =>
    have := h.wlen w (List.mem_of_getElem? e)
    exact ⟨this.2, this.1⟩
theorem InR.app {r : Nat} {u w : Wd} (hu : InR r u) (hw : InR r w) : InR r (u ++ w) := fun x hx => by
  rcases List.mem_append.mp hx with h | h
  · exact hu x h
  · exact hw x h
theorem InR.inv {r : Nat} {u : Wd} (hu : InR r u) : InR r (winv u) := fun x hx => by
  obtain ⟨y, hy, e⟩ := List.mem_map.mp (List.mem_reverse.mp hx)
  rw [← e]
  exact hu y hy
theorem InR.red {r : Nat} {u : Wd} (hu : InR r u) : InR r (red u) := fun x hx => hu x (red_mem hx)
theorem oneStep_some {fs : List Fac} {n : Nat} (h : oneStep fs = some n) : fs = [(true, n, true)] := by
  unfold oneStep at h
  split at h
  · cases h; rfl
  · cases h
/-- linking keeps what holds -/
theorem WF.link (h : WF r gs S) {p q : Nat} {fs : List Fac} (hp : p < S.pre.length) (hq : q < p) (hpn : S.par[p]? = some none) (hf : ∀ f ∈ fs, FacOk gs S.steps.length f)
    (hv : E (fprod gs S.steps fs) (Pt S p ++ winv (Pt S q))) (hm : fs.length ≤ 1000) : WF r gs (linkS S p q fs) := by
  have hpl : p < S.par.length := by rw [h.plen]; exact hp
  have hll : p < S.lnk.length := by rw [h.llen]; exact hp
  have hpar : ∀ x y : Nat, (S.par.set p (some q))[x]? = some (some y) → (x = p ∧ y = q) ∨ (x ≠ p ∧ S.par[x]? = some (some y)) := fun x y e => by
    by_cases hx : x = p
    · subst hx
      rw [List.getElem?_set_self hpl] at e
      cases e
      exact .inl ⟨rfl, rfl⟩
    · rw [List.getElem?_set_ne (Ne.symm hx)] at e
      exact .inr ⟨hx, e⟩
  have hfree : ∀ x : Nat, (S.par.set p (some q))[x]? = some none → x ≠ p ∧ S.par[x]? = some none := fun x e => by
    by_cases hx : x = p
    · subst hx
      rw [List.getElem?_set_self hpl] at e
      cases e
    · rw [List.getElem?_set_ne (Ne.symm hx)] at e
      exact ⟨hx, e⟩
  have hb := bound_set (q := q) hpn
  unfold linkS
  split
  · rename_i hw
    refine ⟨by simpa using h.plen, h.llen, h.zero, fun x y e => ?_, fun x y i e1 e2 => ?_, fun x y e1 e2 => ?_, h.steps, h.edge, ?_, h.wlen, h.elen, fun x e => h.lfree x (hfree x e).2⟩
    · rcases hpar x y e with ⟨rfl, rfl⟩ | ⟨_, e⟩
      · exact hq
      · exact h.par x y e
    · rcases hpar x y e1 with ⟨rfl, rfl⟩ | ⟨_, e1⟩
      · have e2 : S.lnk[x]? = some (some i) := e2
        rw [h.lfree x hpn] at e2
        cases e2
      · exact h.lnk x y i e1 e2
    · rcases hpar x y e1 with ⟨rfl, rfl⟩ | ⟨_, e1⟩
      · have h1 : E (Pt S x ++ winv (Pt S y)) [] := hw
        have := E.right (a := []) (Eqw.symm h1)
        exact Eqw.symm this
      · exact h.non x y e1 e2
    · show S.steps.length ≤ bound (S.par.set p (some q))
      rw [hb]
      have := h.count
      omega
  · rename_i hw
    cases ho : oneStep (short fs) with
    | some n =>
      have hsh := oneStep_some ho
      have hn : FacOk gs S.steps.length (true, n, true) := short_ok hf _ (by rw [hsh]; exact List.mem_singleton.mpr rfl)
      have hn : n < S.steps.length := hn
      have hval : E (S.steps[n].1) (Pt S p ++ winv (Pt S q)) := by
        have h1 := fprod_short gs S.steps fs
        rw [hsh, fprod_cons, fprod_nil, List.append_nil, step_val (List.getElem?_eq_getElem hn)] at h1
        exact Eqw.trans h1 hv
      refine ⟨by simpa using h.plen, by simpa using h.llen, h.zero, fun x y e => ?_, fun x y i e1 e2 => ?_, fun x y e1 e2 => ?_, h.steps, h.edge, ?_, h.wlen, h.elen, fun x e => ?_⟩
      · rcases hpar x y e with ⟨rfl, rfl⟩ | ⟨_, e⟩
        · exact hq
        · exact h.par x y e
      · rcases hpar x y e1 with ⟨rfl, rfl⟩ | ⟨hx, e1⟩
        · have e2 : (S.lnk.set x (some n))[x]? = some (some i) := e2
          rw [List.getElem?_set_self hll] at e2
          cases e2
          exact ⟨_, List.getElem?_eq_getElem hn, hval⟩
        · have e2 : (S.lnk.set p (some n))[x]? = some (some i) := e2
          rw [List.getElem?_set_ne (Ne.symm hx)] at e2
          exact h.lnk x y i e1 e2
      · rcases hpar x y e1 with ⟨rfl, rfl⟩ | ⟨hx, e1⟩
        · have e2 : (S.lnk.set x (some n))[x]? = some none := e2
          rw [List.getElem?_set_self hll] at e2
          cases e2
        · have e2 : (S.lnk.set p (some n))[x]? = some none := e2
          rw [List.getElem?_set_ne (Ne.symm hx)] at e2
          exact h.non x y e1 e2
      · show S.steps.length ≤ bound (S.par.set p (some q))
        rw [hb]
        have := h.count
        omega
      · show (S.lnk.set p (some n))[x]? = some none
        obtain ⟨hx, e⟩ := hfree x e
        rw [List.getElem?_set_ne (Ne.symm hx)]
        exact h.lfree x e
    | none =>
      have hnew : StepOk r 16 1000 gs (S.steps ++ [(red (Pt S p ++ winv (Pt S q)), short fs)]) S.steps.length (red (Pt S p ++ winv (Pt S q)), short fs) := by
        refine ⟨?_, short_ok hf, (InR.app (h.inr p).1 (h.inr q).1.inv).red, ?_, Nat.le_trans (red_len fs) hm⟩
        · have := fprod_more (hs := []) (us := [(red (Pt S p ++ winv (Pt S q)), short fs)]) (short_ok hf)
          rw [List.append_nil] at this
          show red (fprod gs _ (short fs)) = _
          rw [this]
          exact Eqw.trans (fprod_short gs S.steps fs) hv
        · have h1 : (red (Pt S p ++ winv (Pt S q))).length ≤ (Pt S p ++ winv (Pt S q)).length := red_len _
          have h2 := (h.inr p).2
          have h3 := (h.inr q).2
          have h4 : (winv (Pt S q)).length = (Pt S q).length := ginv_len _
          rw [List.length_append] at h1
          show (red (Pt S p ++ winv (Pt S q))).length ≤ 16
          omega
      refine ⟨by simpa using h.plen, by simpa using h.llen, h.zero, fun x y e => ?_, fun x y i e1 e2 => ?_, fun x y e1 e2 => ?_, fun i s e => ?_, h.edge, ?_, h.wlen, h.elen, fun x e => ?_⟩
      · rcases hpar x y e with ⟨rfl, rfl⟩ | ⟨_, e⟩
        · exact hq
        · exact h.par x y e
      · rcases hpar x y e1 with ⟨rfl, rfl⟩ | ⟨hx, e1⟩
        · have e2 : (S.lnk.set x (some S.steps.length))[x]? = some (some i) := e2
          rw [List.getElem?_set_self hll] at e2
          cases e2
          exact ⟨(red (Pt S x ++ winv (Pt S y)), short fs), by show (S.steps ++ [_])[S.steps.length]? = _; simp, e_red _⟩
        · have e2 : (S.lnk.set p (some S.steps.length))[x]? = some (some i) := e2
          rw [List.getElem?_set_ne (Ne.symm hx)] at e2
          obtain ⟨s, hs, he⟩ := h.lnk x y i e1 e2
          exact ⟨s, by show (S.steps ++ [_])[i]? = _; rw [List.getElem?_append_left (List.getElem?_eq_some_iff.mp hs).1]; exact hs, he⟩
      · rcases hpar x y e1 with ⟨rfl, rfl⟩ | ⟨hx, e1⟩
        · have e2 : (S.lnk.set x (some S.steps.length))[x]? = some none := e2
          rw [List.getElem?_set_self hll] at e2
          cases e2
        · have e2 : (S.lnk.set p (some S.steps.length))[x]? = some none := e2
          rw [List.getElem?_set_ne (Ne.symm hx)] at e2
          exact h.non x y e1 e2
      · have e : (S.steps ++ [(red (Pt S p ++ winv (Pt S q)), short fs)])[i]? = some s := e
        by_cases hi : i < S.steps.length
        · rw [List.getElem?_append_left hi] at e
          have := (h.steps i s e).more (hs := []) (us := [(red (Pt S p ++ winv (Pt S q)), short fs)]) (Nat.le_of_lt hi)
          rw [List.append_nil] at this
          exact this
        · have hlen := (List.getElem?_eq_some_iff.mp e).1
          simp at hlen
          have hi2 : i = S.steps.length := by omega
          subst hi2
          simp at e
          subst e
          exact hnew
      · show (S.steps ++ [_]).length ≤ bound (S.par.set p (some q))
        rw [hb]
        have := h.count
        simp
        omega
      · show (S.lnk.set p (some S.steps.length))[x]? = some none
        obtain ⟨hx, e⟩ := hfree x e
        rw [List.getElem?_set_ne (Ne.symm hx)]
        exact h.lfree x e
theorem link_pre (S : FS) (p q : Nat) (fs : List Fac) : (linkS S p q fs).pre = S.pre ∧ (linkS S p q fs).edges = S.edges ∧ (linkS S p q fs).par = S.par.set p (some q) := by
  unfold linkS
  split
  · exact ⟨rfl, rfl, rfl⟩
  · split <;> exact ⟨rfl, rfl, rfl⟩
/-- the roots behind a link -/
theorem WF.root_link (h : WF r gs S) {p q : Nat} (hp : p < S.pre.length) (hq : q < p) (hpn : S.par[p]? = some none) (hqn : S.par[q]? = some none) :
    ∀ (n x : Nat), x ≤ n → x < S.pre.length → root (S.par.set p (some q)) x = if root S.par x = p then q else root S.par x
  | n, x, hn, hx => by
    have hpl : p < S.par.length := by rw [h.plen]; exact hp
    have hxl : x < S.par.length := by rw [h.plen]; exact hx
    have rq : root (S.par.set p (some q)) q = q := root_none (by rw [List.getElem?_set_ne (by omega)]; exact hqn)
    by_cases hxp : x = p
    · subst hxp
      rw [root_none hpn, if_pos rfl, root_some (List.getElem?_set_self hpl) hq, rq]
    · cases e : S.par[x]? with
      | none => exact absurd (List.getElem?_eq_none_iff.mp e) (by omega)
      | some o =>
        cases o with
        | none =>
          rw [root_none e, if_neg hxp]
          exact root_none (by rw [List.getElem?_set_ne (Ne.symm hxp)]; exact e)
        | some y =>
          have hy := h.par x y e
          rw [root_some e hy, root_some (q := y) (by rw [List.getElem?_set_ne (Ne.symm hxp)]; exact e) hy]
          cases n with
          | zero => omega
          | succ n => exact WF.root_link h hp hq hpn hqn n y (by omega) (by omega)
end
end FW
namespace FW
/-! merges, petals -/
/-- S' is S with more points identified -/
structure Crs (S S' : FS) : Prop where
  pre : S'.pre = S.pre
  edges : S'.edges = S.edges
  map : ∃ m : Nat → Nat, m 0 = 0 ∧ qE S' = mapE m (qE S) ∧ ∀ x, x < S.pre.length → root S'.par x = m (root S.par x)
theorem mapE_congr {f g : Nat → Nat} {es : List Ed} (h : ∀ e ∈ es, f e.1 = g e.1 ∧ f e.2.2 = g e.2.2) : mapE f es = mapE g es :=
  List.map_congr_left fun e he => by rw [(h e he).1, (h e he).2]
section
variable {r : Nat} {gs : List Wd} {S : FS}
theorem mapE_id (es : List Ed) : mapE id es = es := by simp [mapE]
theorem Crs.refl (S : FS) : Crs S S := ⟨rfl, rfl, id, rfl, (mapE_id _).symm, fun _ _ => rfl⟩
theorem Crs.trans {S S1 S2 : FS} (a : Crs S S1) (b : Crs S1 S2) : Crs S S2 := by
  obtain ⟨m, m0, me, mx⟩ := a.map
  obtain ⟨k, k0, ke, kx⟩ := b.map
  refine ⟨b.pre.trans a.pre, b.edges.trans a.edges, k ∘ m, by simp [m0, k0], ?_, fun x hx => ?_⟩
  · rw [ke, me, mapE_map]
  · rw [kx x (by rw [a.pre]; exact hx), mx x hx]
    rfl
theorem Crs.wk {S' : FS} (c : Crs S S') {w : Wd} (h : Wk (qE S) 0 w 0) : Wk (qE S') 0 w 0 := by
  obtain ⟨m, m0, me, _⟩ := c.map
  have := wk_map (f := m) h
  rw [m0] at this
  rw [me]
  exact this
theorem Crs.wk2 {S' : FS} (c : Crs S S') {w : Wd} {a b : Nat} (ha : a < S.pre.length) (hb : b < S.pre.length) (h : Wk (qE S) (root S.par a) w (root S.par b)) : Wk (qE S') (root S'.par a) w (root S'.par b) := by
  obtain ⟨m, m0, me, mx⟩ := c.map
  have := wk_map (f := m) h
  rw [me, mx a ha, mx b hb]
  exact this
theorem WF.crs_link (h : WF r gs S) {p q : Nat} {fs : List Fac} (hp : p < S.pre.length) (hq : q < p) (hpn : S.par[p]? = some none) (hqn : S.par[q]? = some none) : Crs S (linkS S p q fs) := by
  obtain ⟨e1, e2, e3⟩ := link_pre S p q fs
  have hr : ∀ x, x < S.pre.length → root (linkS S p q fs).par x = (fun y => if y = p then q else y) (root S.par x) := fun x hx => by
    rw [e3]
    exact h.root_link hp hq hpn hqn x x (Nat.le_refl _) hx
  refine ⟨e1, e2, fun y => if y = p then q else y, by simp; omega, ?_, hr⟩
  unfold qE
  rw [mapE_map, e2]
  exact mapE_congr fun e he => by
    obtain ⟨a, k, b⟩ := e
    obtain ⟨ha, hb, _⟩ := h.edge a k b he
    exact ⟨hr a ha, hr b hb⟩
theorem WF.whole' (h : WF r gs S) {a b : Nat} {fs : List Fac} (ha : a < S.pre.length) (hb : b < S.pre.length) (hf : ∀ f ∈ fs, FacOk gs S.steps.length f) (hv : E (fprod gs S.steps fs) (Pt S a ++ winv (Pt S b))) :
    E (fprod gs S.steps (whole S a b fs)) (Pt S (root S.par a) ++ winv (Pt S (root S.par b))) ∧ (∀ f ∈ whole S a b fs, FacOk gs S.steps.length f) ∧ (whole S a b fs).length ≤ a + fs.length + b := by
  obtain ⟨a1, a2, a3⟩ := h.chain' a a (Nat.le_refl _) ha
  obtain ⟨b1, b2, b3⟩ := h.chain' b b (Nat.le_refl _) hb
  refine ⟨?_, fun f hm => ?_, ?_⟩
  · unfold whole
    rw [fprod_app, fprod_app, fprod_opp]
    have h1 := E.app (E.app (E.inv a1) hv) b1
    rw [winv_app, winv_winv] at h1
    refine Eqw.trans h1 ?_
    have h2 : E ((Pt S (root S.par a) ++ winv (Pt S a)) ++ (Pt S a ++ winv (Pt S b))) (Pt S (root S.par a) ++ winv (Pt S b)) := E.mid
    exact Eqw.trans (E.app h2 E.rfl') E.mid
  · unfold whole at hm
    rcases List.mem_append.mp hm with hm | hm
    · rcases List.mem_append.mp hm with hm | hm
      · exact opp_ok a2 f hm
      · exact hf f hm
    · exact b2 f hm
  · unfold whole
    have : (opp (chain S.par S.lnk a)).length = (chain S.par S.lnk a).length := ginv_len _
    rw [List.length_append, List.length_append]
    omega
theorem WF.merge (h : WF r gs S) {a b : Nat} {fs : List Fac} (ha : a < S.pre.length) (hb : b < S.pre.length) (hf : ∀ f ∈ fs, FacOk gs S.steps.length f) (hv : E (fprod gs S.steps fs) (Pt S a ++ winv (Pt S b)))
    (hm : a + fs.length + b ≤ 1000) : WF r gs (mergeS S a b fs) ∧ Crs S (mergeS S a b fs) ∧ root (mergeS S a b fs).par a = root (mergeS S a b fs).par b ∧ (root S.par a ≠ root S.par b → bound (mergeS S a b fs).par = bound S.par + 1) := by
  obtain ⟨w1, w2, w3⟩ := h.whole' ha hb hf hv
  have na := h.rnone ha
  have nb := h.rnone hb
  have la := h.rlt ha
  have lb := h.rlt hb
  unfold mergeS
  split
  · rename_i e
    exact ⟨h, Crs.refl S, e, fun n => absurd e n⟩
  · rename_i ne
    split
    · rename_i hlt
      refine ⟨h.link la hlt na w2 w1 (by omega), h.crs_link la hlt na nb, ?_, fun _ => ?_⟩
      · rw [(link_pre S _ _ _).2.2, h.root_link la hlt na nb a a (Nat.le_refl _) ha, h.root_link la hlt na nb b b (Nat.le_refl _) hb, if_pos rfl, if_neg (Ne.symm ne)]
      · rw [(link_pre S _ _ _).2.2]
        exact bound_set na
    · rename_i hnl
      have hlt : root S.par a < root S.par b := by omega
      have hlen : (opp (whole S a b fs)).length = (whole S a b fs).length := ginv_len _
      have hv2 : E (fprod gs S.steps (opp (whole S a b fs))) (Pt S (root S.par b) ++ winv (Pt S (root S.par a))) := by
        rw [fprod_opp]
        have := E.inv w1
        rw [winv_app, winv_winv] at this
        exact this
      refine ⟨h.link lb hlt nb (opp_ok w2) hv2 (by omega), h.crs_link lb hlt nb na, ?_, fun _ => ?_⟩
      · rw [(link_pre S _ _ _).2.2, h.root_link lb hlt nb na a a (Nat.le_refl _) ha, h.root_link lb hlt nb na b b (Nat.le_refl _) hb, if_pos rfl, if_neg ne]
      · rw [(link_pre S _ _ _).2.2]
        exact bound_set nb
/-- two edges folded -/
theorem WF.fold2' (h : WF r gs S) {e f : Ed} {S' : FS} (he : e ∈ S.edges) (hf : f ∈ S.edges) (hk : e.2.1 = f.2.1) (hz : S.pre.length ≤ 200) (hS : fold2 S e f = some S') :
    WF r gs S' ∧ Crs S S' ∧ bound S'.par = bound S.par + 1 := by
  obtain ⟨a, k, b⟩ := e
  obtain ⟨c, k', d⟩ := f
  have hk : k = k' := hk
  subst hk
  obtain ⟨ha, hb, e1, _⟩ := h.edge a k b he
  obtain ⟨hc, hd, e2, _⟩ := h.edge c k d hf
  obtain ⟨ca1, ca2, ca3⟩ := h.chain' a a (Nat.le_refl _) ha
  obtain ⟨cb1, cb2, cb3⟩ := h.chain' b b (Nat.le_refl _) hb
  obtain ⟨cc1, cc2, cc3⟩ := h.chain' c c (Nat.le_refl _) hc
  obtain ⟨cd1, cd2, cd3⟩ := h.chain' d d (Nat.le_refl _) hd
  have oc : (opp (chain S.par S.lnk c)).length = (chain S.par S.lnk c).length := ginv_len _
  have od : (opp (chain S.par S.lnk d)).length = (chain S.par S.lnk d).length := ginv_len _
  unfold fold2 at hS
  dsimp only at hS
  split at hS
  · cases hS
  · rename_i hne
    split at hS
    · rename_i heq
      cases hS
      have hdif : root S.par b ≠ root S.par d := fun q => hne (by rw [heq, q]; simp)
      have hv : E (fprod gs S.steps (chain S.par S.lnk a ++ opp (chain S.par S.lnk c))) (Pt S b ++ winv (Pt S d)) := by
        rw [fprod_app, fprod_opp]
        have h1 := E.app ca1 (E.inv cc1)
        rw [winv_app, winv_winv, heq] at h1
        have h2 : E ((Pt S a ++ winv (Pt S (root S.par c))) ++ (Pt S (root S.par c) ++ winv (Pt S c))) (Pt S a ++ winv (Pt S c)) := E.mid
        have h3 := E.app e1 (E.inv e2)
        rw [winv_app] at h3
        have h4 : E ((Pt S a ++ [(k, false)]) ++ (winv [(k, false)] ++ winv (Pt S c))) (Pt S a ++ winv (Pt S c)) := E.mid2
        exact Eqw.trans (Eqw.trans h1 h2) (Eqw.symm (Eqw.trans h3 h4))
      have := h.merge hb hd (fs := chain S.par S.lnk a ++ opp (chain S.par S.lnk c)) (fun f hm => by
        rcases List.mem_append.mp hm with hm | hm
        · exact ca2 f hm
        · exact opp_ok cc2 f hm) hv (by rw [List.length_append]; omega)
      exact ⟨this.1, this.2.1, this.2.2.2 hdif⟩
    · rename_i hns
      cases hS
      have heq : root S.par b = root S.par d := by
        by_cases q : root S.par b = root S.par d
        · exact q
        · exfalso
          apply hne
          rw [beq_eq_false_iff_ne.mpr hns, beq_eq_false_iff_ne.mpr q]
      have hv : E (fprod gs S.steps (chain S.par S.lnk b ++ opp (chain S.par S.lnk d))) (Pt S a ++ winv (Pt S c)) := by
        rw [fprod_app, fprod_opp]
        have h1 := E.app cb1 (E.inv cd1)
        rw [winv_app, winv_winv, heq] at h1
        have h2 : E ((Pt S b ++ winv (Pt S (root S.par d))) ++ (Pt S (root S.par d) ++ winv (Pt S d))) (Pt S b ++ winv (Pt S d)) := E.mid
        have h3 := E.app e1 (E.inv e2)
        rw [winv_app] at h3
        have h4 : E ((Pt S a ++ [(k, false)]) ++ (winv [(k, false)] ++ winv (Pt S c))) (Pt S a ++ winv (Pt S c)) := E.mid2
        exact Eqw.trans (Eqw.trans h1 h2) (Eqw.trans h3 h4)
      have := h.merge ha hc (fs := chain S.par S.lnk b ++ opp (chain S.par S.lnk d)) (fun f hm => by
        rcases List.mem_append.mp hm with hm | hm
        · exact cb2 f hm
        · exact opp_ok cd2 f hm) hv (by rw [List.length_append]; omega)
      exact ⟨this.1, this.2.1, this.2.2.2 hns⟩
/-- no pair of edges is left to be folded -/
def Stable (S : FS) : Prop := S.edges.Pairwise fun e f => e.2.1 = f.2.1 → fold2 S e f = none
theorem fold2_none {e f : Ed} (h : fold2 S e f = none) : root S.par e.1 = root S.par f.1 ↔ root S.par e.2.2 = root S.par f.2.2 := by
  unfold fold2 at h
  split at h
  · rename_i q
    have : (root S.par e.1 == root S.par f.1) = true ↔ (root S.par e.2.2 == root S.par f.2.2) = true := by rw [q]
    simpa using this
  · split at h <;> cases h
theorem pairwise_two {A : Type} {R : A → A → Prop} {l : List A} (h : l.Pairwise R) (sy : ∀ a b, R a b → R b a) {a b : A} (ha : a ∈ l) (hb : b ∈ l) : a = b ∨ R a b := by
  induction l with
  | nil => cases ha
  | cons x t ih =>
    obtain ⟨h1, h2⟩ := List.pairwise_cons.mp h
    rcases List.mem_cons.mp ha with ha | ha
    · rcases List.mem_cons.mp hb with hb | hb
      · exact .inl (ha.trans hb.symm)
      · rw [ha]; exact .inr (h1 b hb)
    · rcases List.mem_cons.mp hb with hb | hb
      · rw [hb]; exact .inr (sy _ _ (h1 a ha))
      · exact ih h2 ha hb
theorem Stable.det (h : Stable S) : Det (qE S) := by
  have h2 : S.edges.Pairwise fun e f => e.2.1 = f.2.1 → (root S.par e.1 = root S.par f.1 ↔ root S.par e.2.2 = root S.par f.2.2) := h.imp fun q k => fold2_none (q k)
  have key : ∀ e ∈ S.edges, ∀ f ∈ S.edges, e.2.1 = f.2.1 → (root S.par e.1 = root S.par f.1 ↔ root S.par e.2.2 = root S.par f.2.2) := fun e he f hf hk => by
    rcases pairwise_two h2 (fun a b q k => ⟨fun z => ((q k.symm).mp z.symm).symm, fun z => ((q k.symm).mpr z.symm).symm⟩) he hf with q | q
    · rw [q]
      exact ⟨fun _ => rfl, fun _ => rfl⟩
    · exact q hk
  rintro a ⟨k, c⟩ b d h1 h2
  cases c with
  | false =>
    obtain ⟨e, he, q1⟩ := List.mem_map.mp h1
    obtain ⟨f, hf, q2⟩ := List.mem_map.mp h2
    simp only [Prod.mk.injEq] at q1 q2
    have := (key e he f hf (q1.2.1.trans q2.2.1.symm)).mp (q1.1.trans q2.1.symm)
    rw [← q1.2.2, ← q2.2.2]; exact this
  | true =>
    obtain ⟨e, he, q1⟩ := List.mem_map.mp h1
    obtain ⟨f, hf, q2⟩ := List.mem_map.mp h2
    simp only [Prod.mk.injEq] at q1 q2
    have := (key e he f hf (q1.2.1.trans q2.2.1.symm)).mpr (q1.2.2.trans q2.2.2.symm)
    rw [← q1.1, ← q2.1]; exact this

/-! petals -/
def edgeOf (here : Nat) (x : L) (point : Nat) : Ed := if x.2 then (point, x.1, here) else (here, x.1, point)
def petal1 (S : FS) (here : Nat) (w : Wd) (x : L) : FS :=
  { S with pre := S.pre ++ [w], par := S.par ++ [none], lnk := S.lnk ++ [none], edges := S.edges ++ [edgeOf here x S.pre.length] }
def petalGo (S : FS) (here : Nat) (done : Wd) : Wd → FS × Nat
  | [] => (S, here)
  | x :: w => petalGo (petal1 S here (done ++ [x]) x) S.pre.length (done ++ [x]) w
theorem root_app {par : List (Option Nat)} : ∀ (n x : Nat), x ≤ n → root (par ++ [none]) x = root par x
  | n, x, hn => by
    cases e : par[x]? with
    | none =>
      rw [root_out e]
      have hx := List.getElem?_eq_none_iff.mp e
      by_cases q : x = par.length
      · exact root_none (by rw [q]; simp)
      · exact root_out (by rw [List.getElem?_eq_none_iff]; simp; omega)
    | some o =>
      have hx := (List.getElem?_eq_some_iff.mp e).1
      have e' : (par ++ [none])[x]? = some o := by rw [List.getElem?_append_left hx]; exact e
      cases o with
      | none => rw [root_none e, root_none e']
      | some q =>
        by_cases hq : q < x
        · rw [root_some e hq, root_some e' hq]
          cases n with
          | zero => omega
          | succ n => exact root_app n q (by omega)
        · rw [root, e', root, e]
          simp [hq]
theorem bound_app (par : List (Option Nat)) : bound (par ++ [none]) = bound par := by simp [bound]
theorem pt_app {w : Wd} {x : Nat} (hx : x < S.pre.length) {T : FS} (hT : T.pre = S.pre ++ [w]) : Pt T x = Pt S x := by
  unfold Pt
  rw [hT, List.getD_eq_getElem?_getD, List.getD_eq_getElem?_getD, List.getElem?_append_left hx]
theorem WF.petal1' (h : WF r gs S) {here : Nat} {done : Wd} {x : L} (hh : here < S.pre.length) (hp : Pt S here = done) (hl : (done ++ [x]).length ≤ 8) (hi : InR r (done ++ [x])) :
    WF r gs (petal1 S here (done ++ [x]) x) ∧ Pt (petal1 S here (done ++ [x]) x) S.pre.length = done ++ [x] := by
  have hz : ∀ y, y < S.pre.length → Pt (petal1 S here (done ++ [x]) x) y = Pt S y := fun y hy => pt_app hy rfl
  have hnew : Pt (petal1 S here (done ++ [x]) x) S.pre.length = done ++ [x] := by
    unfold Pt
    rw [List.getD_eq_getElem?_getD]
    show ((S.pre ++ [done ++ [x]])[S.pre.length]?).getD [] = _
    simp
  have hpar : ∀ (y : Nat) (q : Nat), (S.par ++ [none])[y]? = some (some q) → S.par[y]? = some (some q) := fun y q e => by
    by_cases hy : y < S.par.length
    · rw [List.getElem?_append_left hy] at e; exact e
    · have := (List.getElem?_eq_some_iff.mp e).1
      simp at this
      have hy2 : y = S.par.length := by omega
      subst hy2
      simp at e
  have hlk : ∀ (y q : Nat) (o : Option Nat), S.par[y]? = some (some q) → (S.lnk ++ [none])[y]? = some o → S.lnk[y]? = some o := fun y q o e1 e2 => by
    have hy := (List.getElem?_eq_some_iff.mp e1).1
    rw [List.getElem?_append_left (by rw [h.llen, ← h.plen]; exact hy)] at e2
    exact e2
  refine ⟨⟨by show (S.par ++ [none]).length = (S.pre ++ [_]).length; simp [h.plen], by show (S.lnk ++ [none]).length = (S.pre ++ [_]).length; simp [h.llen], ?_, fun y q e => h.par y q (hpar y q e), fun y q i e1 e2 => ?_, fun y q e1 e2 => ?_, h.steps, fun a k b e => ?_, ?_, fun w hw => ?_, ?_, fun y e => ?_⟩, hnew⟩
  · show (S.pre ++ [_])[0]? = _
    rw [List.getElem?_append_left h.pos]
    exact h.zero
  · have e1 := hpar y q e1
    have hy := (List.getElem?_eq_some_iff.mp e1).1
    have hq := h.par y q e1
    have hpl := h.plen
    rw [hz y (by omega), hz q (by omega)]
    exact h.lnk y q i e1 (hlk y q _ e1 e2)
  · have e1 := hpar y q e1
    have hy := (List.getElem?_eq_some_iff.mp e1).1
    have hq := h.par y q e1
    have hpl := h.plen
    rw [hz y (by omega), hz q (by omega)]
    exact h.non y q e1 (hlk y q _ e1 e2)
  · have hlen : (petal1 S here (done ++ [x]) x).pre.length = S.pre.length + 1 := by show (S.pre ++ [_]).length = _; simp
    rcases List.mem_append.mp e with e | e
    · obtain ⟨h1, h2, h3, h4⟩ := h.edge a k b e
      rw [hz a h1, hz b h2, hlen]
      exact ⟨by omega, by omega, h3, h4⟩
    · have e := List.mem_singleton.mp e
      have hxr : x.1.val < r := hi x (by simp)
      obtain ⟨kx, c⟩ := x
      cases c with
      | false =>
        obtain ⟨rfl, rfl, rfl⟩ : a = here ∧ k = kx ∧ b = S.pre.length := by simpa [edgeOf] using e
        rw [hnew, hz a hh, hp, hlen]
        exact ⟨by omega, by omega, E.rfl', hxr⟩
      | true =>
        obtain ⟨rfl, rfl, rfl⟩ : a = S.pre.length ∧ k = kx ∧ b = here := by simpa [edgeOf] using e
        rw [hnew, hz b hh, hp, hlen]
        refine ⟨by omega, by omega, ?_, hxr⟩
        have := E.app (E.rfl' (u := done)) (e_right [(k, true)])
        rw [List.append_nil] at this
        rw [List.append_assoc]
        exact Eqw.symm this
  · show S.steps.length ≤ bound (S.par ++ [none])
    rw [bound_app]
    exact h.count
  · rcases List.mem_append.mp hw with hw | hw
    · exact h.wlen w hw
    · rw [List.mem_singleton.mp hw]
      exact ⟨hl, hi⟩
  · show (S.edges ++ [_]).length + 1 = (S.pre ++ [_]).length
    have := h.elen
    simp
    omega
  · show (S.lnk ++ [none])[y]? = some none
    by_cases hy : y < S.par.length
    · have e : (S.par ++ [none])[y]? = some none := e
      rw [List.getElem?_append_left hy] at e
      rw [List.getElem?_append_left (by rw [h.llen, ← h.plen]; exact hy)]
      exact h.lfree y e
    · have e : (S.par ++ [none])[y]? = some none := e
      have := (List.getElem?_eq_some_iff.mp e).1
      simp at this
      have hy2 : y = S.lnk.length := by rw [h.llen, ← h.plen]; omega
      rw [hy2]
      simp
theorem petal_sub (here : Nat) (w : Wd) (x : L) : ∀ e ∈ qE S, e ∈ qE (petal1 S here w x) := fun e he => by
  obtain ⟨f, hf, q⟩ := List.mem_map.mp he
  refine List.mem_map.mpr ⟨f, List.mem_append_left _ hf, ?_⟩
  rw [← q]
  show (root (S.par ++ [none]) f.1, f.2.1, root (S.par ++ [none]) f.2.2) = _
  rw [root_app f.1 f.1 (Nat.le_refl _), root_app f.2.2 f.2.2 (Nat.le_refl _)]
theorem petal_root (here : Nat) (w : Wd) (x : L) (y : Nat) : root (petal1 S here w x).par y = root S.par y := root_app y y (Nat.le_refl _)
/-- a whole petal -/
theorem WF.petal : ∀ (rest : Wd) {S : FS} {here : Nat} {done : Wd}, WF r gs S → here < S.pre.length → Pt S here = done → (done ++ rest).length ≤ 8 → InR r (done ++ rest) → Wk (qE S) 0 done (root S.par here) →
    ∀ (g : List Wd), (∀ u ∈ g, Wk (qE S) 0 u 0) →
    WF r gs (petalGo S here done rest).1 ∧ (petalGo S here done rest).2 < (petalGo S here done rest).1.pre.length ∧ Pt (petalGo S here done rest).1 (petalGo S here done rest).2 = done ++ rest ∧
    Wk (qE (petalGo S here done rest).1) 0 (done ++ rest) (root (petalGo S here done rest).1.par (petalGo S here done rest).2) ∧ (∀ u ∈ g, Wk (qE (petalGo S here done rest).1) 0 u 0) ∧
    (petalGo S here done rest).1.pre.length = S.pre.length + rest.length
  | [], S, here, done, h, hh, hp, hl, hi, hw, g, hg => by
    rw [List.append_nil]
    exact ⟨h, hh, hp, hw, hg, rfl⟩
  | x :: rest, S, here, done, h, hh, hp, hl, hi, hw, g, hg => by
    have e : done ++ x :: rest = (done ++ [x]) ++ rest := by simp
    rw [e] at hl hi ⊢
    have hl1 : (done ++ [x]).length ≤ 8 := by rw [List.length_append] at hl; omega
    have hi1 : InR r (done ++ [x]) := fun y hy => hi y (List.mem_append_left _ hy)
    obtain ⟨w1, w2⟩ := h.petal1' (x := x) hh hp hl1 hi1
    have hlen : (petal1 S here (done ++ [x]) x).pre.length = S.pre.length + 1 := by show (S.pre ++ [_]).length = _; simp
    have hw1 : Wk (qE (petal1 S here (done ++ [x]) x)) 0 (done ++ [x]) (root (petal1 S here (done ++ [x]) x).par S.pre.length) := by
      refine wk_app.mpr ⟨root S.par here, wk_sub (petal_sub here _ x) hw, wk_one.mpr ?_⟩
      have hm : edgeOf here x S.pre.length ∈ (petal1 S here (done ++ [x]) x).edges := List.mem_append_right _ (List.mem_singleton.mpr rfl)
      have hm2 : (root (petal1 S here (done ++ [x]) x).par (edgeOf here x S.pre.length).1, (edgeOf here x S.pre.length).2.1, root (petal1 S here (done ++ [x]) x).par (edgeOf here x S.pre.length).2.2) ∈ qE (petal1 S here (done ++ [x]) x) := List.mem_map.mpr ⟨_, hm, rfl⟩
      have hr := petal_root (S := S) here (done ++ [x]) x here
      obtain ⟨k, c⟩ := x
      cases c with
      | false => rw [← hr]; exact hm2
      | true => rw [← hr]; exact hm2
    have := WF.petal rest w1 (by omega) w2 hl hi hw1 g fun u hu => wk_sub (petal_sub here _ x) (hg u hu)
    obtain ⟨q1, q2, q3, q4, q5, q6⟩ := this
    exact ⟨q1, q2, q3, q4, q5, by rw [show (petalGo S here done (x :: rest)) = petalGo (petal1 S here (done ++ [x]) x) S.pre.length (done ++ [x]) rest from rfl, q6, hlen, List.length_cons]; omega⟩
end
end FW
namespace FW
/-! members and walks; the trace; derivations -/
structure Done (r : Nat) (gs : List Wd) (S : FS) : Prop where
  wf : WF r gs S
  stable : Stable S
  loops : ∀ g ∈ gs, Wk (qE S) 0 (red g) 0
  size : S.pre.length ≤ 40
def StepsOk (r k m : Nat) (gs : List Wd) (st : List Stp) : Prop := ∀ (i : Nat) (s : Stp), st[i]? = some s → StepOk r k m gs st i s
theorem sg_mem {gs : List Wd} {w : Wd} (h : Mem gs w) (b : Bool) : Mem gs (sg w b) := by
  cases b
  · exact h.inv
  · exact h
theorem fprod_mem {gs : List Wd} {st : List Stp} {n : Nat} (hst : ∀ (i : Nat) (s : Stp), i < n → st[i]? = some s → Mem gs s.1) (hn : n ≤ st.length) : ∀ {fs : List Fac}, (∀ f ∈ fs, FacOk gs n f) → Mem gs (fprod gs st fs)
  | [], _ => .nil
  | f :: fs, h => by
    rw [fprod_cons]
    refine Mem.app ?_ (fprod_mem hst hn fun g hg => h g (List.mem_cons_of_mem _ hg))
    have hf := h f List.mem_cons_self
    obtain ⟨t, j, b⟩ := f
    cases t with
    | true =>
      have hj : j < n := hf
      refine sg_mem (w := (st.getD j ([], [])).1) ?_ b
      have hjl : j < st.length := by omega
      rw [List.getD_eq_getElem?_getD, List.getElem?_eq_getElem hjl]
      exact hst j _ hj (List.getElem?_eq_getElem hjl)
    | false =>
      have hj : j < gs.length := hf
      refine sg_mem (w := gs.getD j []) ?_ b
      rw [List.getD_eq_getElem?_getD, List.getElem?_eq_getElem hj]
      exact Mem.one (List.getElem_mem hj)
theorem StepsOk.mem {r k m : Nat} {gs : List Wd} {st : List Stp} (h : StepsOk r k m gs st) : ∀ (n i : Nat) (s : Stp), i < n → st[i]? = some s → Mem gs s.1
  | 0, i, _, hi, _ => absurd hi (Nat.not_lt_zero i)
  | n + 1, i, s, hi, e => by
    have q := h i s e
    have hl := (List.getElem?_eq_some_iff.mp e).1
    have := fprod_mem (n := i) (fun j t hj ej => StepsOk.mem h n j t (by omega) ej) (Nat.le_of_lt hl) q.fac
    have := mem_red.mpr this
    rw [q.val] at this
    exact this
section
variable {r : Nat} {gs : List Wd} {S : FS}
theorem Done.det (h : Done r gs S) : Det (qE S) := h.stable.det
theorem Done.walk (h : Done r gs S) {w : Wd} (m : Mem gs w) : Wk (qE S) 0 (red w) 0 := by
  induction m with
  | nil => rfl
  | @mul u g _ hg ih =>
    have h1 := wk_red h.det (wk_app.mpr ⟨0, ih, h.loops g hg⟩)
    have : red (red u ++ red g) = red (u ++ g) := E.app (e_red u) (e_red g)
    rw [this] at h1
    exact h1
  | @mulInv u g _ hg ih =>
    have h1 := wk_red h.det (wk_app.mpr ⟨0, ih, wk_inv (h.loops g hg)⟩)
    have : red (red u ++ winv (red g)) = red (u ++ winv g) := E.app (e_red u) (E.inv (e_red g))
    rw [this] at h1
    exact h1
  | eqv _ e ih =>
    rw [← show red _ = red _ from e]
    exact ih
/-- the first edge of the list that fits -/
def nextGo (par : List (Option Nat)) (here : Nat) (x : L) : List Ed → Option (Nat × Nat)
  | [] => none
  | e :: es => if e.2.1 = x.1 ∧ root par (if x.2 then e.2.2 else e.1) = here then some (if x.2 then (e.2.2, e.1) else (e.1, e.2.2)) else nextGo par here x es
def trGo (S : FS) : Nat → List Fac → Wd → Option (List Fac)
  | here, fs, [] => if here = 0 then some fs else none
  | here, fs, x :: w => match nextGo S.par here x S.edges with
    | none => none
    | some nf => trGo S (root S.par nf.2) (fs ++ opp (chain S.par S.lnk nf.1) ++ chain S.par S.lnk nf.2) w
theorem nextGo_cons (par : List (Option Nat)) (here : Nat) (x : L) (e : Ed) (es : List Ed) : nextGo par here x (e :: es) = if e.2.1 = x.1 ∧ root par (if x.2 then e.2.2 else e.1) = here then some (if x.2 then (e.2.2, e.1) else (e.1, e.2.2)) else nextGo par here x es := rfl
theorem nextGo_some {par : List (Option Nat)} {here : Nat} {x : L} : ∀ {es : List Ed} {nf : Nat × Nat}, nextGo par here x es = some nf →
    root par nf.1 = here ∧ (if x.2 then (nf.2, x.1, nf.1) ∈ es else (nf.1, x.1, nf.2) ∈ es)
  | [], _, h => by cases h
  | e :: es, nf, h => by
    rw [nextGo_cons] at h
    by_cases q : e.2.1 = x.1 ∧ root par (if x.2 then e.2.2 else e.1) = here
    · rw [if_pos q] at h
      obtain ⟨a, k, b⟩ := e
      obtain ⟨kx, c⟩ := x
      obtain ⟨q1, q2⟩ := q
      have q1 : k = kx := q1
      subst q1
      cases c with
      | true =>
        cases h
        exact ⟨q2, List.mem_cons_self⟩
      | false =>
        cases h
        exact ⟨q2, List.mem_cons_self⟩
    · rw [if_neg q] at h
      obtain ⟨h1, h2⟩ := nextGo_some h
      refine ⟨h1, ?_⟩
      obtain ⟨kx, c⟩ := x
      cases c with
      | true => exact List.mem_cons_of_mem _ h2
      | false => exact List.mem_cons_of_mem _ h2
theorem nextGo_none {par : List (Option Nat)} {here : Nat} {x : L} : ∀ {es : List Ed}, nextGo par here x es = none → ∀ b, ¬ Eg (mapE (root par) es) here x b
  | [], _, b, h => by
    obtain ⟨k, c⟩ := x
    cases c <;> simp [Eg, mapE] at h
  | e :: es, h, b, hb => by
    rw [nextGo_cons] at h
    by_cases q : e.2.1 = x.1 ∧ root par (if x.2 then e.2.2 else e.1) = here
    · rw [if_pos q] at h
      cases h
    · rw [if_neg q] at h
      have ih := nextGo_none h b
      obtain ⟨a, k, d⟩ := e
      obtain ⟨kx, c⟩ := x
      cases c with
      | true =>
        have hb : (b, kx, here) ∈ (root par a, k, root par d) :: mapE (root par) es := hb
        rcases List.mem_cons.mp hb with z | z
        · simp only [Prod.mk.injEq] at z
          exact q ⟨z.2.1.symm, z.2.2.symm⟩
        · exact ih z
      | false =>
        have hb : (here, kx, b) ∈ (root par a, k, root par d) :: mapE (root par) es := hb
        rcases List.mem_cons.mp hb with z | z
        · simp only [Prod.mk.injEq] at z
          exact q ⟨z.2.1.symm, z.1.symm⟩
        · exact ih z
theorem WF.next (h : WF r gs S) {here : Nat} {x : L} {nf : Nat × Nat} (hn : nextGo S.par here x S.edges = some nf) :
    nf.1 < S.pre.length ∧ nf.2 < S.pre.length ∧ root S.par nf.1 = here ∧ Eg (qE S) here x (root S.par nf.2) ∧ E (Pt S nf.2) (Pt S nf.1 ++ [x]) := by
  obtain ⟨h1, h2⟩ := nextGo_some hn
  obtain ⟨k, c⟩ := x
  obtain ⟨n, f⟩ := nf
  cases c with
  | false =>
    have h2 : (n, k, f) ∈ S.edges := h2
    obtain ⟨a1, a2, a3, _⟩ := h.edge n k f h2
    refine ⟨a1, a2, h1, ?_, a3⟩
    rw [← h1]
    exact List.mem_map.mpr ⟨_, h2, rfl⟩
  | true =>
    have h2 : (f, k, n) ∈ S.edges := h2
    obtain ⟨a1, a2, a3, _⟩ := h.edge f k n h2
    refine ⟨a2, a1, h1, ?_, ?_⟩
    · rw [← h1]
      exact List.mem_map.mpr ⟨_, h2, rfl⟩
    · have h4 := E.moveR (Eqw.symm a3)
      exact h4
theorem WF.trace (h : WF r gs S) : ∀ {w : Wd} {here : Nat} {fs fs' : List Fac}, root S.par here = here → trGo S here fs w = some fs' → (∀ f ∈ fs, FacOk gs S.steps.length f) →
    Wk (qE S) here w 0 ∧ E (fprod gs S.steps fs') (fprod gs S.steps fs ++ (Pt S here ++ w)) ∧ (∀ f ∈ fs', FacOk gs S.steps.length f) ∧ fs'.length ≤ fs.length + w.length * (2 * S.pre.length)
  | [], here, fs, fs', hh, e, hf => by
    unfold trGo at e
    split at e
    · rename_i q
      cases e
      subst q
      rw [h.pt0]
      simp only [List.append_nil]
      exact ⟨rfl, E.rfl', hf, by simp⟩
    · cases e
  | x :: w, here, fs, fs', hh, e, hf => by
    unfold trGo at e
    cases hn : nextGo S.par here x S.edges with
    | none => rw [hn] at e; cases e
    | some nf =>
      rw [hn] at e
      obtain ⟨n, f⟩ := nf
      obtain ⟨n1, n2, n3, n4, n5⟩ := h.next hn
      obtain ⟨a1, a2, a3⟩ := h.chain' n n (Nat.le_refl _) n1
      obtain ⟨b1, b2, b3⟩ := h.chain' f f (Nat.le_refl _) n2
      have hf2 : ∀ g ∈ fs ++ opp (chain S.par S.lnk n) ++ chain S.par S.lnk f, FacOk gs S.steps.length g := fun g hg => by
        rcases List.mem_append.mp hg with hg | hg
        · rcases List.mem_append.mp hg with hg | hg
          · exact hf g hg
          · exact opp_ok a2 g hg
        · exact b2 g hg
      obtain ⟨t1, t2, t3, t4⟩ := WF.trace h (here := root S.par f) (h.rr n2) e hf2
      refine ⟨⟨_, n4, t1⟩, ?_, t3, ?_⟩
      · refine Eqw.trans t2 ?_
        rw [fprod_app, fprod_app, fprod_opp]
        dsimp only at n3 n5
        rw [n3] at a1
        have c1 := E.inv a1
        rw [winv_app, winv_winv] at c1
        have c2 : E ((winv (fprod gs S.steps (chain S.par S.lnk n)) ++ fprod gs S.steps (chain S.par S.lnk f)) ++ Pt S (root S.par f)) (Pt S here ++ [x]) := by
          have d1 := E.app (E.app c1 b1) (E.rfl' (u := Pt S (root S.par f)))
          have d2 : E (((Pt S here ++ winv (Pt S n)) ++ (Pt S f ++ winv (Pt S (root S.par f)))) ++ Pt S (root S.par f)) ((Pt S here ++ winv (Pt S n)) ++ Pt S f) := by
            rw [← List.append_assoc (Pt S here ++ winv (Pt S n))]
            exact E.right E.rfl'
          have d3 : E ((Pt S here ++ winv (Pt S n)) ++ Pt S f) ((Pt S here ++ winv (Pt S n)) ++ (Pt S n ++ [x])) := E.app E.rfl' n5
          exact Eqw.trans (Eqw.trans d1 d2) (Eqw.trans d3 E.mid)
        have c3 := E.app (E.rfl' (u := fprod gs S.steps fs)) (E.app c2 (E.rfl' (u := w)))
        have e1 : fprod gs S.steps fs ++ winv (fprod gs S.steps (chain S.par S.lnk n)) ++ fprod gs S.steps (chain S.par S.lnk f) ++ (Pt S (root S.par f) ++ w) = fprod gs S.steps fs ++ ((winv (fprod gs S.steps (chain S.par S.lnk n)) ++ fprod gs S.steps (chain S.par S.lnk f)) ++ Pt S (root S.par f) ++ w) := by simp only [List.append_assoc]
        have e2 : fprod gs S.steps fs ++ (Pt S here ++ (x :: w)) = fprod gs S.steps fs ++ (Pt S here ++ [x] ++ w) := by simp
        rw [e1, e2]
        exact c3
      · have o : (opp (chain S.par S.lnk n)).length = (chain S.par S.lnk n).length := ginv_len _
        dsimp only at n1 n2
        have t5 : fs'.length ≤ (fs.length + (opp (chain S.par S.lnk n)).length + (chain S.par S.lnk f).length) + w.length * (2 * S.pre.length) := by
          rw [← List.length_append, ← List.length_append]
          exact t4
        have t6 : (x :: w).length * (2 * S.pre.length) = w.length * (2 * S.pre.length) + 2 * S.pre.length := by
          rw [List.length_cons, Nat.add_mul, Nat.one_mul]
        rw [t6]
        have n1' : n < S.pre.length := n1
        have n2' : f < S.pre.length := n2
        omega
theorem trace_none (D : Det (qE S)) : ∀ {w : Wd} {here : Nat} {fs : List Fac}, (∀ (x : L) (a : Nat) (nf : Nat × Nat), nextGo S.par a x S.edges = some nf → Eg (qE S) a x (root S.par nf.2)) → trGo S here fs w = none → ¬ Wk (qE S) here w 0
  | [], here, fs, _, e, h => by
    have h : here = 0 := h
    unfold trGo at e
    rw [if_pos h] at e
    cases e
  | x :: w, here, fs, hx, e, ⟨c, h1, h2⟩ => by
    unfold trGo at e
    cases hn : nextGo S.par here x S.edges with
    | none => exact nextGo_none hn c h1
    | some nf =>
      rw [hn] at e
      have := D here x _ _ h1 (hx x here nf hn)
      rw [this] at h2
      exact trace_none D hx e h2
theorem Done.mem (h : Done r gs S) {w : Wd} : (∃ fs, trGo S 0 [] (red w) = some fs) ↔ Mem gs w := by
  constructor
  · rintro ⟨fs, e⟩
    obtain ⟨_, t2, t3, _⟩ := h.wf.trace (here := 0) h.wf.root0 e (by simp)
    rw [h.wf.pt0, fprod_nil] at t2
    have st : StepsOk r 16 1000 gs S.steps := h.wf.steps
    have m := fprod_mem (n := S.steps.length) (fun i s hi e => st.mem (i + 1) i s (by omega) e) (Nat.le_refl _) t3
    exact .eqv m (Eqw.trans t2 (e_red w))
  · intro m
    cases e : trGo S 0 [] (red w) with
    | some fs => exact ⟨fs, rfl⟩
    | none => exact absurd (h.walk m) (trace_none h.det (fun x a nf hn => (h.wf.next hn).2.2.2.1) e)
end

/-! derivations -/
structure DerivOk (r : Nat) (gs : List Wd) (w : Wd) (st : List Stp) : Prop where
  steps : StepsOk r 24 2000 gs st
  pos : 1 ≤ st.length
  most : st.length ≤ 100
  last : ∀ s, st[st.length - 1]? = some s → s.1 = red w
def rawSteps (S : FS) (w : Wd) (fs : List Fac) : List Stp := S.steps ++ [(red w, short fs)]
theorem Done.raw {r : Nat} {gs : List Wd} {S : FS} (h : Done r gs S) {w : Wd} {fs : List Fac} (hw : w.length ≤ 24) (hr : InR r w) (e : trGo S 0 [] (red w) = some fs) : DerivOk r gs w (rawSteps S w fs) := by
  obtain ⟨_, t2, t3, t4⟩ := h.wf.trace (here := 0) h.wf.root0 e (by simp)
  rw [h.wf.pt0, fprod_nil] at t2
  have hlen : (rawSteps S w fs).length = S.steps.length + 1 := by simp [rawSteps]
  have hb := h.wf.count
  have hb2 := bound_le S.par
  have hb3 := h.wf.plen
  have hz := h.size
  have hrl : (red w).length ≤ w.length := red_len w
  refine ⟨fun i s hs => ?_, by omega, by omega, fun s hs => ?_⟩
  · by_cases hi : i < S.steps.length
    · unfold rawSteps at hs
      rw [List.getElem?_append_left hi] at hs
      have := (h.wf.steps i s hs).more (hs := []) (us := [(red w, short fs)]) (Nat.le_of_lt hi)
      rw [List.append_nil] at this
      exact this.wide (by omega) (by omega)
    · have hl := (List.getElem?_eq_some_iff.mp hs).1
      have hi2 : i = S.steps.length := by omega
      subst hi2
      unfold rawSteps at hs
      simp at hs
      subst hs
      refine ⟨?_, short_ok t3, hr.red, by show (red w).length ≤ 24; omega, ?_⟩
      · have := fprod_more (hs := []) (us := [(red w, short fs)]) (short_ok t3)
        rw [List.append_nil] at this
        show red (fprod gs (S.steps ++ [(red w, short fs)]) (short fs)) = red w
        rw [this]
        have h1 : E (fprod gs S.steps (short fs)) w := Eqw.trans (Eqw.trans (fprod_short gs S.steps fs) t2) (e_red w)
        exact h1
      · have h1 : (short fs).length ≤ fs.length := red_len fs
        have h2 : w.length * (2 * S.pre.length) ≤ 24 * 80 := Nat.mul_le_mul hw (by omega)
        have h3 : (red w).length * (2 * S.pre.length) ≤ w.length * (2 * S.pre.length) := Nat.mul_le_mul_right _ hrl
        have h0 : ([] : List Fac).length = 0 := rfl
        show (short fs).length ≤ 2000
        omega
  · have : (rawSteps S w fs).length - 1 = S.steps.length := by omega
    rw [this] at hs
    unfold rawSteps at hs
    simp at hs
    rw [← hs]
/-! trimming -/
def ren (kept : List Nat) (f : Fac) : Fac := if f.1 then (true, kept.idxOf f.2.1, f.2.2) else f
def renS (kept : List Nat) (s : Stp) : Stp := (s.1, s.2.map (ren kept))
structure Kept (st : List Stp) (kept : List Nat) : Prop where
  asc : kept.Pairwise (· < ·)
  lt : ∀ i ∈ kept, i < st.length
  last : st.length - 1 ∈ kept
  closed : ∀ i ∈ kept, ∀ s, st[i]? = some s → ∀ f ∈ s.2, f.1 = true → f.2.1 ∈ kept
def trimBy (st : List Stp) (kept : List Nat) : List Stp := kept.map fun i => renS kept (st.getD i ([], []))
theorem asc_last : ∀ {l : List Nat} {m : Nat}, l.Pairwise (· < ·) → m ∈ l → (∀ x ∈ l, x ≤ m) → l[l.length - 1]? = some m
  | [], _, _, h, _ => by cases h
  | [a], m, _, h, _ => by rw [List.mem_singleton.mp h] <;> rfl
  | a :: b :: t, m, hp, h, hb => by
    obtain ⟨h1, h2⟩ := List.pairwise_cons.mp hp
    have hm : m ∈ b :: t := by
      rcases List.mem_cons.mp h with e | h
      · have := h1 b List.mem_cons_self
        have := hb b (by simp)
        omega
      · exact h
    have := asc_last h2 hm fun x hx => hb x (List.mem_cons_of_mem _ hx)
    simpa using this
theorem Kept.idx {st : List Stp} {kept : List Nat} (h : Kept st kept) {i : Nat} (hi : i ∈ kept) : kept.idxOf i < kept.length ∧ kept[kept.idxOf i]? = some i := by
  have hl := List.idxOf_lt_length_of_mem hi
  refine ⟨hl, ?_⟩
  rw [List.getElem?_eq_getElem hl, List.getElem_idxOf hl]
theorem asc_idx {l : List Nat} (h : l.Pairwise (· < ·)) {a b i j : Nat} (hi : l[i]? = some a) (hj : l[j]? = some b) (hab : a < b) : i < j := by
  obtain ⟨h1, e1⟩ := List.getElem?_eq_some_iff.mp hi
  obtain ⟨h2, e2⟩ := List.getElem?_eq_some_iff.mp hj
  rcases Nat.lt_trichotomy i j with q | q | q
  · exact q
  · subst q
    rw [e1] at e2
    omega
  · have := List.pairwise_iff_getElem.mp h j i h2 h1 q
    omega
theorem fval_ren {gs : List Wd} {st : List Stp} {kept : List Nat} (h : Kept st kept) {f : Fac} (hf : f.1 = true → f.2.1 ∈ kept) : fval gs (trimBy st kept) (ren kept f) = fval gs st f := by
  obtain ⟨t, j, b⟩ := f
  cases t with
  | false => rfl
  | true =>
    obtain ⟨h1, h2⟩ := h.idx (hf rfl)
    show sg ((trimBy st kept).getD (kept.idxOf j) ([], [])).1 b = sg (st.getD j ([], [])).1 b
    congr 1
    unfold trimBy
    rw [List.getD_eq_getElem?_getD, List.getElem?_map, h2]
    rfl
theorem fprod_ren {gs : List Wd} {st : List Stp} {kept : List Nat} (h : Kept st kept) {fs : List Fac} (hf : ∀ f ∈ fs, f.1 = true → f.2.1 ∈ kept) : fprod gs (trimBy st kept) (fs.map (ren kept)) = fprod gs st fs := by
  unfold fprod
  rw [List.map_map]
  congr 1
  exact List.map_congr_left fun f hm => fval_ren h (hf f hm)
theorem pair_len {l : List Nat} (h : l.Pairwise (· < ·)) : ∀ {n : Nat}, (∀ x ∈ l, x < n) → l.length ≤ n := by
  intro n hb
  have hn : l.Nodup := h.imp fun q => Nat.ne_of_lt q
  by_cases hl : l.length ≤ n
  · exact hl
  · exfalso
    have h1 : (l.take (n + 1)).length = n + 1 := by rw [List.length_take]; omega
    have h2 : (l.take (n + 1)).Nodup := hn.sublist (List.take_sublist _ _)
    have := full_mem (n + 1) (l.take (n + 1)) h1 h2 (fun x hx => Nat.lt_succ_of_lt (hb x (List.mem_of_mem_take hx))) n (by omega)
    exact Nat.lt_irrefl n (hb n (List.mem_of_mem_take this))
theorem DerivOk.trim {r : Nat} {gs : List Wd} {w : Wd} {st : List Stp} {kept : List Nat} (d : DerivOk r gs w st) (h : Kept st kept) : DerivOk r gs w (trimBy st kept) := by
  have hlen : (trimBy st kept).length = kept.length := by simp [trimBy]
  have hle := pair_len h.asc h.lt
  have hpos : 0 < kept.length := List.length_pos_of_mem h.last
  refine ⟨fun j s hs => ?_, by omega, by have := d.most; omega, fun s hs => ?_⟩
  · unfold trimBy at hs
    rw [List.getElem?_map] at hs
    cases e : kept[j]? with
    | none => rw [e] at hs; cases hs
    | some i =>
      rw [e] at hs
      have hik := List.mem_of_getElem? e
      have hi := h.lt i hik
      have hst : st[i]? = some st[i] := List.getElem?_eq_getElem hi
      have hs : renS kept (st.getD i ([], [])) = s := Option.some.inj hs
      rw [List.getD_eq_getElem?_getD, hst] at hs
      have hs : renS kept st[i] = s := hs
      subst hs
      have q := d.steps i _ hst
      have hcl := h.closed i hik _ hst
      refine ⟨?_, fun f hf => ?_, q.inr, q.len, by show (st[i].2.map (ren kept)).length ≤ 2000; rw [List.length_map]; exact q.many⟩
      · show red (fprod gs (trimBy st kept) (st[i].2.map (ren kept))) = st[i].1
        rw [fprod_ren h hcl]
        exact q.val
      · obtain ⟨g, hg, eg⟩ := List.mem_map.mp hf
        have hgo := q.fac g hg
        obtain ⟨t, n, b⟩ := g
        cases t with
        | false =>
          rw [← eg]
          exact hgo
        | true =>
          rw [← eg]
          have hn : n < i := hgo
          obtain ⟨h1, h2⟩ := h.idx (hcl _ hg rfl)
          exact asc_idx h.asc h2 e hn
  · rw [hlen] at hs
    have hl := asc_last h.asc h.last fun x hx => by have := h.lt x hx; omega
    unfold trimBy at hs
    rw [List.getElem?_map, hl] at hs
    have hs : renS kept (st.getD (st.length - 1) ([], [])) = s := Option.some.inj hs
    have hb := d.pos
    have hst : st[st.length - 1]? = some st[st.length - 1] := List.getElem?_eq_getElem (by omega)
    rw [List.getD_eq_getElem?_getD, hst] at hs
    have := d.last _ hst
    rw [← this, ← hs]
    rfl
end FW
namespace FW
/-! numbering a graph, attaching a word, completing -/
structure NumOk (es : List Ed) (n : Nat) (G : List Ed) : Prop where
  ex : ∃ found : List Nat, found.length = n ∧ found.Nodup ∧ found[0]? = some 0 ∧ (∀ a ∈ found, ∀ x b, Eg es a x b → b ∈ found) ∧
    ∀ (i : Nat) (k : Fin 3) (j : Nat), (i, k, j) ∈ G ↔ ∃ a b : Nat, found[i]? = some a ∧ found[j]? = some b ∧ (a, k, b) ∈ es
structure GraphOk (r : Nat) (gs : List Wd) (n : Nat) (G : List Ed) : Prop where
  det : Det G
  lt : ∀ (i : Nat) (k : Fin 3) (j : Nat), (i, k, j) ∈ G → i < n ∧ j < n ∧ k.val < r
  pos : 0 < n
  size : n ≤ 40
  loops : ∀ g ∈ gs, Wk G 0 (red g) 0
  back : ∀ u : Wd, Wk G 0 u 0 → Mem gs u
theorem nd_ix {l : List Nat} (h : l.Nodup) {i j a : Nat} (hi : l[i]? = some a) (hj : l[j]? = some a) : i = j := by
  obtain ⟨h1, e1⟩ := List.getElem?_eq_some_iff.mp hi
  obtain ⟨h2, e2⟩ := List.getElem?_eq_some_iff.mp hj
  exact (List.getElem_inj h).mp (e1.trans e2.symm)
section
variable {es G : List Ed} {found : List Nat}
theorem num_eg (hG : ∀ (i : Nat) (k : Fin 3) (j : Nat), (i, k, j) ∈ G ↔ ∃ a b : Nat, found[i]? = some a ∧ found[j]? = some b ∧ (a, k, b) ∈ es) (i : Nat) (x : L) (j : Nat) :
    Eg G i x j ↔ ∃ a b : Nat, found[i]? = some a ∧ found[j]? = some b ∧ Eg es a x b := by
  obtain ⟨k, c⟩ := x
  cases c with
  | false => exact hG i k j
  | true =>
    constructor
    · intro h
      obtain ⟨a, b, h1, h2, h3⟩ := (hG j k i).mp h
      exact ⟨b, a, h2, h1, h3⟩
    · rintro ⟨a, b, h1, h2, h3⟩
      exact (hG j k i).mpr ⟨b, a, h2, h1, h3⟩
theorem num_to (hG : ∀ (i : Nat) (k : Fin 3) (j : Nat), (i, k, j) ∈ G ↔ ∃ a b : Nat, found[i]? = some a ∧ found[j]? = some b ∧ (a, k, b) ∈ es) (hc : ∀ a ∈ found, ∀ x b, Eg es a x b → b ∈ found) :
    ∀ {w : Wd} {i a b : Nat}, found[i]? = some a → Wk es a w b → ∃ j : Nat, found[j]? = some b ∧ Wk G i w j
  | [], i, a, b, hi, h => by
    have h : a = b := h
    exact ⟨i, by rw [← h]; exact hi, rfl⟩
  | x :: w, i, a, b, hi, ⟨c, h1, h2⟩ => by
    have hm := hc a (List.mem_of_getElem? hi) x c h1
    obtain ⟨j, hj⟩ := List.getElem?_of_mem hm
    obtain ⟨q, hq, hw⟩ := num_to hG hc hj h2
    exact ⟨q, hq, j, (num_eg hG i x j).mpr ⟨a, c, hi, hj, h1⟩, hw⟩
theorem num_from (hG : ∀ (i : Nat) (k : Fin 3) (j : Nat), (i, k, j) ∈ G ↔ ∃ a b : Nat, found[i]? = some a ∧ found[j]? = some b ∧ (a, k, b) ∈ es) (hn : found.Nodup) :
    ∀ {w : Wd} {i j a : Nat}, found[i]? = some a → Wk G i w j → ∃ b : Nat, found[j]? = some b ∧ Wk es a w b
  | [], i, j, a, hi, h => by
    have h : i = j := h
    exact ⟨a, by rw [← h]; exact hi, rfl⟩
  | x :: w, i, j, a, hi, ⟨c, h1, h2⟩ => by
    obtain ⟨a', b, q1, q2, q3⟩ := (num_eg hG i x c).mp h1
    rw [hi] at q1
    cases q1
    obtain ⟨d, hd, hw⟩ := num_from hG hn q2 h2
    exact ⟨d, hd, b, q3, hw⟩
end
theorem NumOk.graph {r : Nat} {gs : List Wd} {S : FS} {n : Nat} {G : List Ed} (h : NumOk (qE S) n G) (d : Done r gs S) (hn : n ≤ 40) : GraphOk r gs n G := by
  obtain ⟨found, hl, hnd, h0, hc, hG⟩ := h.ex
  refine ⟨fun i x j k h1 h2 => ?_, fun i k j hm => ?_, ?_, hn, fun g hg => ?_, fun u hu => ?_⟩
  · obtain ⟨a, b, p1, p2, p3⟩ := (num_eg hG i x j).mp h1
    obtain ⟨a', b', q1, q2, q3⟩ := (num_eg hG i x k).mp h2
    rw [p1] at q1
    cases q1
    have := d.det a x b b' p3 q3
    subst this
    exact nd_ix hnd p2 q2
  · obtain ⟨a, b, p1, p2, p3⟩ := (hG i k j).mp hm
    refine ⟨by rw [← hl]; exact (List.getElem?_eq_some_iff.mp p1).1, by rw [← hl]; exact (List.getElem?_eq_some_iff.mp p2).1, ?_⟩
    obtain ⟨e, he, q⟩ := List.mem_map.mp p3
    obtain ⟨a', k', b'⟩ := e
    simp only [Prod.mk.injEq] at q
    rw [← q.2.1]
    exact (d.wf.edge a' k' b' he).2.2.2
  · rw [← hl]
    exact (List.getElem?_eq_some_iff.mp h0).1
  · obtain ⟨j, hj, hw⟩ := num_to hG hc h0 (d.loops g hg)
    rw [nd_ix hnd hj h0] at hw
    exact hw
  · obtain ⟨b, hb, hw⟩ := num_from hG hnd h0 hu
    rw [h0] at hb
    cases hb
    have h1 := wk_red d.det hw
    cases e : trGo S 0 [] (red u) with
    | some fs => exact d.mem.mp ⟨fs, e⟩
    | none => exact absurd h1 (trace_none d.det (fun x a nf hn => (d.wf.next hn).2.2.2.1) e)

/-! attaching -/
structure AttInv (n : Nat) (G : List Ed) (u : Wd) (n' : Nat) (G' : List Ed) (here : Nat) (r : Nat) : Prop where
  det : Det G'
  sub : ∀ e ∈ G, e ∈ G'
  lt : ∀ (i : Nat) (k : Fin 3) (j : Nat), (i, k, j) ∈ G' → i < n' ∧ j < n' ∧ k.val < r
  n1 : n ≤ n'
  n2 : n' ≤ n + u.length
  walk : Wk G' 0 u here
  hlt : here < n'
  two : (n' = n ∧ Wk G 0 u here ∧ ∀ e ∈ G', e ∈ G) ∨ (n ≤ here ∧ ∃ u0 x, u = u0 ++ [x] ∧ ∀ y b, Eg G' here y b → y = inv x)
theorem att_start {r : Nat} {gs : List Wd} {n : Nat} {G : List Ed} (g : GraphOk r gs n G) : AttInv n G [] n G 0 r :=
  ⟨g.det, fun _ h => h, g.lt, Nat.le_refl _, Nat.le_refl _, rfl, g.pos, .inl ⟨rfl, rfl, fun _ h => h⟩⟩
theorem rdd_last {u0 : Wd} {x y : L} {w : Wd} (h : Rdd inv (u0 ++ [x] ++ y :: w)) : x ≠ inv y := by
  rw [rdd_mem_step] at h
  refine h u0.length x y ?_ ?_ <;> simp
theorem AttInv.old {n n' here r : Nat} {G G' : List Ed} {u w : Wd} {y : L} {b : Nat} (h : AttInv n G u n' G' here r) (hr : Rdd inv (u ++ y :: w)) (hb : Eg G' here y b) : AttInv n G (u ++ [y]) n' G' b r := by
  have hbl : b < n' := by
    obtain ⟨k, c⟩ := y
    cases c with
    | false => exact (h.lt _ _ _ hb).2.1
    | true => exact (h.lt _ _ _ hb).1
  refine ⟨h.det, h.sub, h.lt, h.n1, by have := h.n2; simp; omega, wk_app.mpr ⟨here, h.walk, wk_one.mpr hb⟩, hbl, ?_⟩
  rcases h.two with ⟨e, hw, hs⟩ | ⟨_, u0, x, e, hx⟩
  · exact .inl ⟨e, wk_app.mpr ⟨here, hw, wk_one.mpr (eg_sub hs hb)⟩, hs⟩
  · subst e
    have := hx y b hb
    have q := rdd_last hr
    rw [this, inv_inv] at q
    exact absurd rfl q
theorem eg_snoc {G : List Ed} {here m : Nat} {y : L} {a b : Nat} {x : L} : Eg (G ++ [edgeOf here y m]) a x b ↔ Eg G a x b ∨ (a = here ∧ x = y ∧ b = m) ∨ (a = m ∧ x = inv y ∧ b = here) := by
  obtain ⟨ky, cy⟩ := y
  obtain ⟨kx, cx⟩ := x
  cases cy <;> cases cx <;> simp [Eg, edgeOf, inv] <;> grind
theorem AttInv.new {n n' here r : Nat} {G G' : List Ed} {u : Wd} {y : L} (h : AttInv n G u n' G' here r) (hn : ∀ b, ¬ Eg G' here y b) (hy : y.1.val < r) : AttInv n G (u ++ [y]) (n' + 1) (G' ++ [edgeOf here y n']) n' r := by
  have hlt : ∀ a x b, Eg G' a x b → a < n' ∧ b < n' := fun a x b e => by
    obtain ⟨k, c⟩ := x
    cases c with
    | false => have := h.lt _ _ _ e; exact ⟨this.1, this.2.1⟩
    | true => have := h.lt _ _ _ e; exact ⟨this.2.1, this.1⟩
  have hh := h.hlt
  have only : ∀ z b, Eg (G' ++ [edgeOf here y n']) n' z b → z = inv y := fun z b e => by
    rcases eg_snoc.mp e with q | ⟨q, _, _⟩ | ⟨_, q, _⟩
    · have := hlt _ _ _ q
      omega
    · omega
    · exact q
  refine ⟨fun a x b c h1 h2 => ?_, fun e he => List.mem_append_left _ (h.sub e he), fun i k j hm => ?_, by have := h.n1; omega, by have := h.n2; simp; omega, ?_, by omega, .inr ⟨h.n1, u, y, rfl, only⟩⟩
  · rcases eg_snoc.mp h1 with p | ⟨p1, p2, p3⟩ | ⟨p1, p2, p3⟩
    · have pl := hlt _ _ _ p
      rcases eg_snoc.mp h2 with q | ⟨q1, q2, q3⟩ | ⟨q1, q2, q3⟩
      · exact h.det a x b c p q
      · subst q1 q2
        exact absurd p (hn b)
      · omega
    · rcases eg_snoc.mp h2 with q | ⟨q1, q2, q3⟩ | ⟨q1, q2, q3⟩
      · subst p1 p2
        exact absurd q (hn c)
      · rw [p3, q3]
      · omega
    · rcases eg_snoc.mp h2 with q | ⟨q1, q2, q3⟩ | ⟨q1, q2, q3⟩
      · have := hlt _ _ _ q
        omega
      · omega
      · rw [p3, q3]
  · rcases List.mem_append.mp hm with hm | hm
    · have := h.lt i k j hm
      exact ⟨by omega, by omega, this.2.2⟩
    · have e := List.mem_singleton.mp hm
      obtain ⟨ky, cy⟩ := y
      cases cy <;> simp [edgeOf] at e <;> obtain ⟨rfl, rfl, rfl⟩ := e <;> exact ⟨by omega, by omega, hy⟩
  · refine wk_app.mpr ⟨here, wk_sub (fun e he => List.mem_append_left _ he) h.walk, wk_one.mpr (eg_snoc.mpr (.inr (.inl ⟨rfl, rfl, rfl⟩)))⟩
theorem AttInv.end0 {n n' here r : Nat} {G G' : List Ed} {u : Wd} (h : AttInv n G u n' G' here r) (hp : 0 < n) (e : here = 0) : Wk G 0 u 0 := by
  rcases h.two with ⟨_, hw, _⟩ | ⟨q, _⟩
  · rw [e] at hw; exact hw
  · rw [e] at q
    exact absurd hp (by omega)

/-! completing -/
def rowGo (im : Nat → Option Nat) : List Nat → List Nat → List Nat
  | [], _ => []
  | p :: ps, free => match im p with
    | some b => b :: rowGo im ps free
    | none => free.headD 0 :: rowGo im ps free.tail
theorem rowGo_len (im : Nat → Option Nat) : ∀ (ps free : List Nat), (rowGo im ps free).length = ps.length
  | [], _ => rfl
  | p :: ps, free => by
    unfold rowGo
    split <;> simp [rowGo_len im ps]
theorem rowGo_perm (im : Nat → Option Nat) : ∀ (ps free : List Nat), (ps.filter fun p => (im p).isNone).length = free.length → (rowGo im ps free).Perm (ps.filterMap im ++ free)
  | [], free, h => by
    have : free = [] := List.eq_nil_of_length_eq_zero h.symm
    subst this
    exact List.Perm.refl _
  | p :: ps, free, h => by
    unfold rowGo
    cases e : im p with
    | some b =>
      have h' : (ps.filter fun p => (im p).isNone).length = free.length := by
        rw [List.filter_cons] at h
        simpa [e] using h
      have hc : (p :: ps).filterMap im = b :: ps.filterMap im := List.filterMap_cons_some e
      rw [hc]
      exact (rowGo_perm im ps free h').cons b
    | none =>
      have hc : (p :: ps).filterMap im = ps.filterMap im := List.filterMap_cons_none e
      rw [hc]
      cases free with
      | nil => rw [List.filter_cons] at h; simp [e] at h
      | cons f fs =>
        have h' : (ps.filter fun p => (im p).isNone).length = fs.length := by
          rw [List.filter_cons] at h
          simpa [e] using h
        exact ((rowGo_perm im ps fs h').cons f).trans List.perm_middle.symm
theorem rowGo_get (im : Nat → Option Nat) : ∀ (ps free : List Nat) (i p b : Nat), ps[i]? = some p → im p = some b → (rowGo im ps free)[i]? = some b
  | [], _, i, p, b, h, _ => by simp at h
  | q :: ps, free, 0, p, b, h, e => by
    have : q = p := by simpa using h
    subst this
    unfold rowGo
    rw [e] <;> rfl
  | q :: ps, free, i + 1, p, b, h, e => by
    have h' : ps[i]? = some p := by simpa using h
    unfold rowGo
    split
    · exact rowGo_get im ps free i p b h' e
    · exact rowGo_get im ps free.tail i p b h' e
theorem comp_len {n : Nat} {l : List Nat} (hn : l.Nodup) (hl : ∀ x ∈ l, x < n) : ((List.range n).filter fun p => decide (p ∉ l)).length + l.length = n := by
  have h1 := List.filter_append_perm (fun p => decide (p ∈ l)) (List.range n)
  have h2 := h1.length_eq
  rw [List.length_append, List.length_range] at h2
  have h3 : ((List.range n).filter fun p => decide (p ∈ l)).Perm l := by
    refine (List.perm_ext_iff_of_nodup (List.nodup_range.filter _) hn).mpr fun a => ?_
    rw [List.mem_filter, List.mem_range]
    constructor
    · intro h; exact of_decide_eq_true h.2
    · intro h; exact ⟨hl a h, decide_eq_true h⟩
  have h4 := h3.length_eq
  have h5 : ((List.range n).filter fun p => !decide (p ∈ l)) = (List.range n).filter fun p => decide (p ∉ l) := by
    congr 1
    funext p
    exact (decide_not).symm
  rw [h5] at h2
  omega
theorem filterMap_nodup (im : Nat → Option Nat) (hi : ∀ a b c, im a = some c → im b = some c → a = b) : ∀ {l : List Nat}, l.Nodup → (l.filterMap im).Nodup
  | [], _ => List.nodup_nil
  | p :: ps, h => by
    obtain ⟨h1, h2⟩ := List.nodup_cons.mp h
    have ih := filterMap_nodup im hi h2
    cases e : im p with
    | none => rw [List.filterMap_cons_none e]; exact ih
    | some b =>
      rw [List.filterMap_cons_some e]
      refine List.nodup_cons.mpr ⟨fun hm => ?_, ih⟩
      obtain ⟨q, hq, eq⟩ := List.mem_filterMap.mp hm
      have := hi p q b e eq
      subst this
      exact h1 hq
theorem filterMap_len (im : Nat → Option Nat) : ∀ l : List Nat, (l.filterMap im).length + (l.filter fun p => (im p).isNone).length = l.length
  | [] => rfl
  | p :: ps => by
    have ih := filterMap_len im ps
    rw [List.filter_cons]
    cases e : im p with
    | none => rw [List.filterMap_cons_none e]; simp; omega
    | some b => rw [List.filterMap_cons_some e]; simp; omega
/-- the completed row: a permutation that takes each point along its edge -/
theorem row_ok {n : Nat} {im : Nat → Option Nat} (hi : ∀ a b c, im a = some c → im b = some c → a = b) (hl : ∀ a c, im a = some c → c < n) {free : List Nat}
    (hf : free = (List.range n).filter fun p => decide (p ∉ (List.range n).filterMap im)) :
    IsPerm n (rowGo im (List.range n) free) ∧ (∀ a b, a < n → im a = some b → (rowGo im (List.range n) free)[a]? = some b) ∧ ((List.range n).filter fun p => (im p).isNone).length = free.length := by
  have hnd : ((List.range n).filterMap im).Nodup := filterMap_nodup im hi List.nodup_range
  have hlt : ∀ x ∈ (List.range n).filterMap im, x < n := fun x hx => by
    obtain ⟨a, _, e⟩ := List.mem_filterMap.mp hx
    exact hl a x e
  have h1 := comp_len hnd hlt
  have h2 := filterMap_len im (List.range n)
  rw [List.length_range] at h2
  have hc : ((List.range n).filter fun p => (im p).isNone).length = free.length := by rw [hf]; omega
  have hp := rowGo_perm im (List.range n) free hc
  refine ⟨⟨by rw [rowGo_len, List.length_range], ?_, fun x hx => ?_⟩, fun a b ha e => rowGo_get im _ _ a a b (by rw [List.getElem?_range ha]) e, hc⟩
  · refine hp.nodup_iff.mpr (List.nodup_append.mpr ⟨hnd, ?_, ?_⟩)
    · rw [hf]; exact List.nodup_range.filter _
    · intro a ha b hb e
      rw [hf] at hb
      have := of_decide_eq_true (List.mem_filter.mp hb).2
      rw [← e] at this
      exact this ha
  · rcases List.mem_append.mp (hp.mem_iff.mp hx) with h | h
    · exact hlt x h
    · rw [hf] at h
      exact List.mem_range.mp (List.mem_filter.mp h).1
/-- the rows that complete a graph -/
structure RowsOk (r n : Nat) (G : List Ed) (act : Act) : Prop where
  len : act.length = r
  perm : ActOk n act
  edge : ∀ (a : Nat) (k : Fin 3) (b : Nat), (a, k, b) ∈ G → ∃ row : List Nat, act[k.val]? = some row ∧ row[a]? = some b
theorem RowsOk.img {r n : Nat} {G : List Ed} {act : Act} (h : RowsOk r n G act) {a b : Nat} {x : L} (e : Eg G a x b) : img act a x = b := by
  obtain ⟨k, c⟩ := x
  cases c with
  | false =>
    obtain ⟨row, h1, h2⟩ := h.edge a k b e
    unfold FW.img
    dsimp only
    rw [h1]
    dsimp only
    rw [if_neg (by decide), List.getD_eq_getElem?_getD, h2] <;> rfl
  | true =>
    obtain ⟨row, h1, h2⟩ := h.edge b k a e
    unfold FW.img
    dsimp only
    rw [h1]
    dsimp only
    rw [if_pos rfl]
    obtain ⟨hb, eb⟩ := List.getElem?_eq_some_iff.mp h2
    rw [← eb]
    exact (h.perm row (List.mem_of_getElem? h1)).nd.idxOf_getElem b hb
theorem RowsOk.walk {r n : Nat} {G : List Ed} {act : Act} (h : RowsOk r n G act) : ∀ {w : Wd} {a b : Nat}, Wk G a w b → imgs act a w = b
  | [], _, _, e => e
  | x :: w, a, b, ⟨c, h1, h2⟩ => by
    show imgs act (FW.img act a x) w = b
    rw [h.img h1]
    exact h.walk h2
structure Against (r : Nat) (gs : List Wd) (w : Wd) (act : Act) : Prop where
  len : act.length = r
  ex : ∃ n, 1 ≤ n ∧ n ≤ 60 ∧ ActOk n act ∧ (∀ g ∈ gs, imgs act 0 g = 0) ∧ imgs act 0 w ≠ 0
theorem against_ok {r n n' here : Nat} {gs : List Wd} {G G' : List Ed} {w : Wd} {act : Act} (g : GraphOk r gs n G) (h : AttInv n G (red w) n' G' here r) (hr : RowsOk r n' G' act) (hw : (red w).length ≤ 20) (hm : ¬ Mem gs w) : here ≠ 0 ∧ Against r gs w act := by
  have hp := g.pos
  have hs := g.size
  have h1 := h.n1
  have h2 := h.n2
  have hne : here ≠ 0 := fun e => hm (mem_red.mp (g.back _ (h.end0 hp e)))
  refine ⟨hne, hr.len, n', by omega, by omega, hr.perm, fun u hu => ?_, ?_⟩
  · rw [← imgs_red hr.perm u (by omega)]
    exact hr.walk (wk_sub h.sub (g.loops u hu))
  · rw [← imgs_red hr.perm w (by omega), hr.walk h.walk]
    exact hne
theorem Against.more {r : Nat} {gs : List Wd} {w o : Wd} {act : Act} (h : Against r gs w act) (m : Mem gs o) : Against r (gs ++ [o]) w act := by
  obtain ⟨hl, n, h1, h2, h3, h4, h5⟩ := h
  refine ⟨hl, n, h1, h2, h3, fun g hg => ?_, h5⟩
  rcases List.mem_append.mp hg with hg | hg
  · exact h4 g hg
  · rw [List.mem_singleton.mp hg]
    exact m.img h3 (by omega) h4
theorem DerivOk.more {r : Nat} {gs hs : List Wd} {w : Wd} {st : List Stp} (h : DerivOk r gs w st) : DerivOk r (gs ++ hs) w st := by
  refine ⟨fun i s e => ?_, h.pos, h.most, h.last⟩
  have := (h.steps i s e).more (hs := hs) (us := []) (Nat.le_of_lt (List.getElem?_eq_some_iff.mp e).1)
  rw [List.append_nil] at this
  exact this
end FW
namespace FW
def S0 : FS := ⟨[[]], [], [none], [none], []⟩
theorem WF.init (r : Nat) (gs : List Wd) : WF r gs S0 where
  plen := rfl
  llen := rfl
  zero := rfl
  par := fun p q h => by
    cases p with
    | zero => cases h
    | succ p => cases h
  lnk := fun p q i h _ => by
    cases p with
    | zero => cases h
    | succ p => cases h
  non := fun p q h _ => by
    cases p with
    | zero => cases h
    | succ p => cases h
  steps := fun i s h => by cases h
  edge := fun a k b h => by cases h
  count := Nat.zero_le _
  wlen := fun w hw => by
    have : w = [] := by simpa [S0] using hw
    rw [this]
    exact ⟨Nat.zero_le _, fun x hx => by cases hx⟩
  elen := rfl
  lfree := fun p h => by
    cases p with
    | zero => rfl
    | succ p => cases h
theorem WF.add {r : Nat} {gs : List Wd} {S : FS} (h : WF r gs S) {i : Nat} {u : Wd} (hu : gs[i]? = some u) (hr : InR r u) (hl : u.length ≤ 8) (hz : S.pre.length ≤ 100) (g : List Wd) (hg : ∀ x ∈ g, Wk (qE S) 0 x 0) :
    WF r gs (mergeS (petalGo S 0 [] (red u)).1 (petalGo S 0 [] (red u)).2 0 [(false, i, true)]) ∧ (∀ x ∈ red u :: g, Wk (qE (mergeS (petalGo S 0 [] (red u)).1 (petalGo S 0 [] (red u)).2 0 [(false, i, true)])) 0 x 0) ∧
      (mergeS (petalGo S 0 [] (red u)).1 (petalGo S 0 [] (red u)).2 0 [(false, i, true)]).pre.length = S.pre.length + (red u).length ∧ WF r gs (petalGo S 0 [] (red u)).1 ∧ (petalGo S 0 [] (red u)).2 < (petalGo S 0 [] (red u)).1.pre.length ∧ (petalGo S 0 [] (red u)).1.pre.length = S.pre.length + (red u).length := by
  have hrl : (red u).length ≤ u.length := red_len u
  have hp := WF.petal (red u) (done := []) h h.pos h.pt0 (by rw [List.nil_append]; omega) (by rw [List.nil_append]; exact hr.red) (by rw [h.root0]; exact rfl) g hg
  obtain ⟨p1, p2, p3, p4, p5, p6⟩ := hp
  rw [List.nil_append] at p3 p4
  generalize (petalGo S 0 [] (red u)).1 = S1 at p1 p2 p3 p4 p5 p6 ⊢
  generalize (petalGo S 0 [] (red u)).2 = e at p2 p3 p4 ⊢
  have hil : i < gs.length := (List.getElem?_eq_some_iff.mp hu).1
  have hp0 : 0 < S1.pre.length := p1.pos
  have hfv : fprod gs S1.steps [(false, i, true)] = u := by
    rw [fprod_cons, fprod_nil, List.append_nil]
    unfold fval
    simp [List.getD_eq_getElem?_getD, hu, sg]
  obtain ⟨m1, m2, m3, _⟩ := p1.merge (a := e) (b := 0) (fs := [(false, i, true)]) p2 hp0 (fun f hf => by
    rw [List.mem_singleton.mp hf]
    exact hil) (by
    rw [hfv, p3, p1.pt0]
    show E u (red u ++ [])
    rw [List.append_nil]
    exact Eqw.symm (e_red u)) (by
    simp only [List.length_cons, List.length_nil]
    omega)
  refine ⟨m1, fun x hx => ?_, by rw [m2.pre, p6], p1, p2, p6⟩
  rcases List.mem_cons.mp hx with rfl | hx
  · have := m2.wk2 (a := 0) (b := e) hp0 p2 (by rw [p1.root0]; exact p4)
    rw [m3, m1.root0] at this
    exact this
  · exact m2.wk (p5 x hx)
end FW
namespace FW
/-! numbering: lists without repeats, ways, the breadth first search -/
section
variable {A B : Type} [DecidableEq A]
def addN (l : List A) (x : A) : List A := if x ∈ l then l else l ++ [x]
def uniq (xs : List A) : List A := xs.foldl addN []
theorem uniq_snoc (xs : List A) (x : A) : uniq (xs ++ [x]) = addN (uniq xs) x := by simp [uniq]
theorem mem_addN {l : List A} {x y : A} : y ∈ addN l x ↔ y ∈ l ∨ y = x := by
  unfold addN
  split
  · rename_i h
    constructor
    · exact .inl
    · rintro (h2 | rfl)
      · exact h2
      · exact h
  · simp
theorem uniq_aux : ∀ (n : Nat) (xs : List A), xs.length = n → (∀ y, y ∈ uniq xs ↔ y ∈ xs) ∧ (uniq xs).length ≤ n
  | 0, xs, h => by
    have : xs = [] := List.length_eq_zero_iff.mp h
    subst this
    exact ⟨fun y => Iff.rfl, Nat.le_refl _⟩
  | n + 1, xs, h => by
    rcases List.eq_nil_or_concat xs with rfl | ⟨ys, x, rfl⟩
    · simp at h
    · rw [List.concat_eq_append] at h ⊢
      have hy : ys.length = n := by simpa using h
      obtain ⟨h1, h2⟩ := uniq_aux n ys hy
      rw [uniq_snoc]
      refine ⟨fun y => ?_, ?_⟩
      · rw [mem_addN, h1, List.mem_append, List.mem_singleton]
      · unfold addN
        split
        · omega
        · rw [List.length_append, List.length_singleton]; omega
theorem mem_uniq {xs : List A} {y : A} : y ∈ uniq xs ↔ y ∈ xs := (uniq_aux _ xs rfl).1 y
theorem uniq_len (xs : List A) : (uniq xs).length ≤ xs.length := (uniq_aux _ xs rfl).2
end
theorem perm_back {A B : Type} {g : A → B} {vs us : List B} (h : vs.Perm us) : ∀ {es : List A}, vs = es.map g → ∃ es' : List A, es'.Perm es ∧ us = es'.map g := by
  induction h with
  | nil => exact fun {es} r => ⟨es, .refl _, r⟩
  | cons x h ih =>
    intro es r
    cases es with
    | nil => cases r
    | cons e es =>
      injection r with r1 r2
      obtain ⟨es', p, q⟩ := ih r2
      exact ⟨e :: es', p.cons e, by rw [List.map_cons, ← q, r1]⟩
  | swap x y l =>
    intro es r
    cases es with
    | nil => cases r
    | cons e es =>
      injection r with r1 r2
      cases es with
      | nil => cases r2
      | cons e2 es =>
        injection r2 with r2 r3
        exact ⟨e2 :: e :: es, .swap _ _ _, by rw [List.map_cons, List.map_cons, ← r1, ← r2, ← r3]⟩
  | trans h1 h2 ih1 ih2 =>
    intro es r
    obtain ⟨es1, p1, q1⟩ := ih1 r
    obtain ⟨es2, p2, q2⟩ := ih2 q1
    exact ⟨es2, p2.trans p1, q2⟩
/-- the search: points below N found, those before at closed -/
structure BInv (es : List Ed) (N : Nat) (at_ : Nat) (found : List Nat) : Prop where
  nodup : found.Nodup
  zero : found[0]? = some 0
  lt : ∀ p ∈ found, p < N
  atl : at_ ≤ found.length
  cl : ∀ i a, i < at_ → found[i]? = some a → ∀ x b, Eg es a x b → b ∈ found
theorem eg_lt {es : List Ed} {N : Nat} (hN : ∀ e ∈ es, e.1 < N ∧ e.2.2 < N) {a b : Nat} {x : L} (h : Eg es a x b) : a < N ∧ b < N := by
  obtain ⟨k, c⟩ := x
  cases c with
  | false => exact hN _ (show (a, k, b) ∈ es from h)
  | true =>
    have := hN _ (show (b, k, a) ∈ es from h)
    exact ⟨this.2, this.1⟩
theorem BInv.push {es : List Ed} {N at_ : Nat} {found : List Nat} (h : BInv es N at_ found) {p : Nat} (hp : p < N) (hn : p ∉ found) : BInv es N at_ (found ++ [p]) := by
  refine ⟨?_, ?_, fun q hq => ?_, by have := h.atl; simp; omega, fun i a hi ha x b hb => ?_⟩
  · rw [List.nodup_append]
    exact ⟨h.nodup, by simp, fun a ha b hb => by
      rw [List.mem_singleton.mp hb]
      exact fun e => hn (e ▸ ha)⟩
  · have hl := (List.getElem?_eq_some_iff.mp h.zero).1
    rw [List.getElem?_append_left hl]
    exact h.zero
  · rcases List.mem_append.mp hq with hq | hq
    · exact h.lt q hq
    · rw [List.mem_singleton.mp hq]; exact hp
  · have := h.atl
    rw [List.getElem?_append_left (by omega)] at ha
    exact List.mem_append_left _ (h.cl i a hi ha x b hb)
theorem BInv.next {es : List Ed} {N at_ : Nat} {found : List Nat} (h : BInv es N at_ found) {a : Nat} (ha : found[at_]? = some a) (hc : ∀ x b, Eg es a x b → b ∈ found) : BInv es N (at_ + 1) found := by
  refine ⟨h.nodup, h.zero, h.lt, ?_, fun i c hi hx x b hb => ?_⟩
  · have := (List.getElem?_eq_some_iff.mp ha).1
    omega
  · by_cases e : i = at_
    · subst e
      rw [ha] at hx
      rw [← Option.some.inj hx] at hb
      exact hc x b hb
    · exact h.cl i c (by omega) hx x b hb
def rowOf (found : List Nat) (e : Ed) : Option Ed := if e.1 ∈ found then some (found.idxOf e.1, e.2.1, found.idxOf e.2.2) else none
theorem ix_get {l : List Nat} {a : Nat} (h : a ∈ l) : l[l.idxOf a]? = some a := by
  have hl := List.idxOf_lt_length_of_mem h
  rw [List.getElem?_eq_getElem hl, List.getElem_idxOf hl]
theorem BInv.num {es G : List Ed} {N : Nat} {found : List Nat} (h : BInv es N found.length found) (hG : ∀ e, e ∈ G ↔ e ∈ es.filterMap (rowOf found)) : NumOk es found.length G := by
  have hcl : ∀ a ∈ found, ∀ x b, Eg es a x b → b ∈ found := fun a ha x b hb => by
    obtain ⟨i, hi⟩ := List.mem_iff_getElem?.mp ha
    exact h.cl i a (List.getElem?_eq_some_iff.mp hi).1 hi x b hb
  refine ⟨found, rfl, h.nodup, h.zero, hcl, fun i k j => ?_⟩
  rw [hG, List.mem_filterMap]
  constructor
  · rintro ⟨⟨a, l, b⟩, he, hr⟩
    unfold rowOf at hr
    split at hr
    · rename_i ha
      have ha : a ∈ found := ha
      have hb : b ∈ found := hcl a ha (l, false) b he
      injection hr with hr
      injection hr with h1 hr
      injection hr with h2 h3
      subst h1 h2 h3
      exact ⟨a, b, ix_get ha, ix_get hb, he⟩
    · cases hr
  · rintro ⟨a, b, ha, hb, he⟩
    refine ⟨(a, k, b), he, ?_⟩
    have hm := List.mem_of_getElem? ha
    have hmb := List.mem_of_getElem? hb
    unfold rowOf
    rw [if_pos hm, nd_ix h.nodup (ix_get hm) ha, nd_ix h.nodup (ix_get hmb) hb]
end FW
/-! rules of one's own: sorting -/
namespace FW
open PySem PySem.Spec PyProof.Rows L2
section
variable {prog : Program} {w : World} {A : Around} {E : Value → Shared → Prop} {s : Shared}
/-- sorting what a thing gives when it is collected -/
theorem sorted_coll {v : Value} {vs : List Value} {ltv : Value → Value → Bool} {Q : Value → Shared → Prop} (O : SrtO.Swo ltv) (hz : vs.length ≤ sizeLine)
    (hc : ∀ (R : List Value → Shared → Prop), (∀ h' tk, (∀ b o, s.heap.get? b = some o → h'.get? b = some o) → R vs { s with heap := h', toks := tk }) → wpAny (model prog w) A.in1 (collect v) R E s)
    (hS : 2 ≤ vs.length → ∀ (h1 : Heap) (tk : Nat) (a : Addr), h1.get? a = some (seqObj "list" vs.toArray 0) → (∀ b o, s.heap.get? b = some o → b ≠ a ∧ h1.get? b = some o) → SrtO.SortableO prog w A.in1.in1 { s with heap := h1, toks := tk } a vs ltv)
    (h : ∀ (h' : Heap) (tk : Nat) (d : Addr) (out : List Value), SrtO.Srtd ltv out → SrtO.Stb ltv out vs → (∃ h1 : Heap, (∀ b o, s.heap.get? b = some o → h1.get? b = some o) ∧ h1.objs.size ≤ d ∧ (∀ b o, h1.get? b = some o → h'.get? b = some o)) → (∃ n, h'.get? d = some (seqObj "list" out.toArray n)) → Q (.ref d) { s with heap := h', toks := tk }) :
    wpAny (model prog w) A (call (.builtin "sorted") [v]) Q E s := by
  refine Calls.call_function_entry PyProof.Rows.kind_sorted PyProof.Rows.plain_sorted PyProof.Rows.entry_sorted (PyProof.Rows.args_sorted1 _) ?_
  unfold Builtin.«sorted»
  refine wpAny_bind (m := checkCount "sorted" 1 1 _) (wpAny_pure ?_)
  refine wpAny_bind (hc _ fun h1 tk k1 => ?_)
  refine wpAny_bind (wpAny_newList ?_ hz)
  have hoL : (h1.push (seqObj "list" vs.toArray 0)).get? h1.objs.size = some (seqObj "list" vs.toArray 0) := Heap.get?_push_size _ rfl
  have keep : ∀ b o, s.heap.get? b = some o → b ≠ h1.objs.size ∧ (h1.push (seqObj "list" vs.toArray 0)).get? b = some o := fun b o q =>
    ⟨Nat.ne_of_lt (Heap.lt_size (k1 b o q)), Heap.get?_push_of_some _ (k1 b o q)⟩
  show wpAny _ _ _ _ _ { s with heap := h1.push (seqObj "list" vs.toArray 0), toks := tk }
  refine wpAny_bind (wpAny_holding (wpAny_call_entry PyProof.Rows.slot_list_sort ⟨_, hoL, rfl⟩ PyProof.Rows.entry_list_sort
    (SrtO.list_sort_ord O (s := { s with heap := h1.push (seqObj "list" vs.toArray 0), toks := tk }) hoL hz (fun h2 => hS h2 _ tk _ hoL keep) fun out hs hb => ⟨_, rfl, ?_⟩) (PyProof.Rows.args_list_sort _)))
  refine wpAny_pure ⟨_, rfl, h _ _ _ out hs hb ⟨h1, k1, Nat.le_refl _, fun b o q => ?_⟩ (PyProof.Rows.sortedHeap_at (vs := vs) (out := out.toArray) hoL)⟩
  have q2 := Heap.get?_push_of_some (seqObj "list" vs.toArray 0) q
  rw [PyProof.Rows.sortedHeap_old (Nat.ne_of_lt (Heap.lt_size q)) (Heap.lt_size q2)]
  exact q2
/-- a tuple of an int, a text, an int -/
def IsTri (h : Heap) (v : Value) : Prop := ∃ a o i t x u j y n, v = .ref a ∧ h.get? a = some o ∧ o.cls = .type "tuple" ∧ o.data = .seq #[.int i t, .str x u, .int j y] n
theorem IsTri.keeps {h h' : Heap} {v : Value} (p : IsTri h v) (k : ∀ b o, h.get? b = some o → o.cls = .type "tuple" → h'.get? b = some o) : IsTri h' v := by
  obtain ⟨a, o, i, t, x, u, j, y, n, e, ho, hc, hd⟩ := p
  exact ⟨a, o, i, t, x, u, j, y, n, e, k _ _ ho hc, hc, hd⟩
def triShape (i : Nat) : Bool := i == 1
def keyAt (h : Heap) (v : Value) : List (Int ⊕ List Nat) := (tupKey h triShape v).getD []
def ltTri (h : Heap) (v u : Value) : Bool := lexLt itemOrd (keyAt h v) (keyAt h u)
theorem swo_tri (h : Heap) : SrtO.Swo (ltTri h) := by
  refine ⟨fun x y q => ?_, fun x y z q1 q2 => ?_⟩
  · cases e : ltTri h y x with
    | false => rfl
    | true =>
      have := lex_trans _ _ _ q e
      rw [lex_irrefl] at this
      cases this
  · cases e : ltTri h z x with
    | false => rfl
    | true =>
      rcases lex_negTrans _ (keyAt h y) _ e with p | p
      · rw [show ltTri h z y = true from p] at q2; cases q2
      · rw [show ltTri h y x = true from p] at q1; cases q1
theorem tri_key {h : Heap} {v : Value} (p : IsTri h v) : ∃ l, tupKey h triShape v = some l ∧ keyAt h v = l := by
  obtain ⟨a, o, i, t, x, u, j, y, n, e, ho, hc, hd⟩ := p
  subst e
  have : tupKey h triShape (.ref a) = some [Sum.inl i, Sum.inr x.cps.toList, Sum.inl j] := by
    simp only [tupKey, ho, hd]
    rfl
  exact ⟨_, this, by unfold keyAt; rw [this]; rfl⟩
theorem tri_same {h h' : Heap} {v : Value} (p : IsTri h v) (k : ∀ b o, h.get? b = some o → o.cls = .type "tuple" → h'.get? b = some o) : keyAt h' v = keyAt h v := by
  obtain ⟨a, o, i, t, x, u, j, y, n, e, ho, hc, hd⟩ := p
  subst e
  unfold keyAt
  simp only [tupKey, ho, hd, k _ _ ho hc]
theorem tri_sortable {h0 : Heap} {a : Addr} {vs : List Value} (hl : 0 < vs.length) (hp : ∀ v ∈ vs, IsTri h0 v) (hk : ∀ b o, h0.get? b = some o → b ≠ a ∧ s.heap.get? b = some o) : SrtO.SortableO prog w A s a vs (ltTri h0) := by
  intro h' keep
  have kk : ∀ b o, h0.get? b = some o → o.cls = .type "tuple" → h'.get? b = some o := fun b o e _ => keep b o (hk b o e).1 (hk b o e).2
  have hf : ∃ fs, TupsOf h' triShape vs fs ∧ fs.length = vs.length := by
    clear hl
    induction vs with
    | nil => exact ⟨[], .nil, rfl⟩
    | cons v vs ih =>
      obtain ⟨fs, h1, h2⟩ := ih fun u hu => hp u (List.mem_cons_of_mem _ hu)
      obtain ⟨b, o, i, t, x, u, j, y, n, e, ho, hc, hd⟩ := (hp v List.mem_cons_self).keeps kk
      exact ⟨.int i t :: fs, .cons ⟨b, o, _, n, e, ho, hc, hd, rfl, fun _ => ⟨i, t, rfl⟩, fun q => by cases q⟩ h1, by simp [h2]⟩
  obtain ⟨fs, h1, h2⟩ := hf
  refine ⟨tuples' true, fun Q E hq => tup_kind (by omega) h1 hq, fun p q hp1 hp2 => ?_⟩
  obtain ⟨l1, e1, e1'⟩ := tri_key ((hp _ hp1).keeps kk)
  obtain ⟨l2, e2, e2'⟩ := tri_key ((hp _ hp2).keeps kk)
  refine tup_ltAt (s := { s with heap := h' }) (shape := triShape) true A (fun _ _ => False) p.1 q.1 l1 l2 e1 e2 ⟨rfl, ?_⟩
  show lexLt itemOrd l1 l2 = lexLt itemOrd (keyAt h0 p.1) (keyAt h0 q.1)
  rw [← tri_same (hp _ hp1) kk, ← tri_same (hp _ hp2) kk, e1', e2']
end
section
variable {X : Cx} {pins : List (Addr × Obj)} {σ : L2.St} {H : Hp} {s : Shared}
theorem tri_of (I : Inv X pins σ H s) {t : Addr} {i j : Int} {x : Str} (h : H t = some (.tup [.int i, .str x, .int j])) : IsTri s.heap (.ref t) := by
  obtain ⟨_, its, rv, o, ho, hc, n, hd⟩ := I.hok _ _ h
  cases rv with
  | cons r1 rv =>
    cases rv with
    | cons r2 rv =>
      cases rv with
      | cons r3 rv =>
        cases rv
        obtain ⟨t1, rfl⟩ := r1
        obtain ⟨t2, rfl⟩ := r2
        obtain ⟨t3, rfl⟩ := r3
        exact ⟨t, o, i, t1, x, t2, j, t3, n, rfl, ho, hc, hd⟩
/-- sorted(xs), a list of tuples of an int, a text, an int: the same, in some order -/
def rSortTri (K : PySem.W.Frag) : List V → Hp → VK → Prop := fun vs H Q => ∃ a xs, vs = [V.ref a] ∧ SqL K H a xs ∧ (∀ x ∈ xs, ∃ t i z j, x = V.ref t ∧ H t = some (.tup [.int i, .str z, .int j])) ∧
  ∀ ys p, ys.Perm xs → H p = none → Q (.ref p) (upd H p (.lst ys))
theorem cr_sortTri : CallR X (.builtin "sorted") (rSortTri X.K) := by
  intro pins s σ H vs us Q I r h
  obtain ⟨a, xs, rfl, hs, hx, q⟩ := h
  obtain ⟨its, rv, hl, hz⟩ := I.list hs
  obtain ⟨u, rfl, ru⟩ := vals1 r
  obtain rfl : u = Value.ref a := ru
  obtain ⟨e1, e2⟩ := refs_back rv fun x m => by
    obtain ⟨t, _, _, _, e, _⟩ := hx x m
    exact ⟨t, e⟩
  have hp : ∀ v ∈ its, IsTri s.heap v := fun v hv => by
    obtain ⟨t, rfl⟩ := e2 v hv
    have hm : V.ref t ∈ xs := by rw [e1]; exact List.mem_map.mpr ⟨_, hv, rfl⟩
    obtain ⟨t', i, z, j, e, ht⟩ := hx _ hm
    cases e
    exact tri_of I ht
  have hzv : its.length ≤ sizeLine := by rw [← rv.length]; exact hz
  obtain ⟨o, n, ho, hc, _, hd⟩ := hl
  refine sorted_coll (swo_tri s.heap) hzv (fun R hR => wpAny_collect_seq a (.inl rfl) ho hc hd (fun h' k => ?_) (by rw [List.size_toArray]; exact hzv)) (fun h2 h1 tk b ha kk => tri_sortable (by omega) hp kk) fun h' tk d out hs hb hk hn => ?_
  · have := hR h' s.toks k
    simpa using this
  · have h3 : ∀ u ∈ out, ∃ a, u = Value.ref a := fun u hu => e2 u (hb.perm.mem_iff.mp hu)
    obtain ⟨n, hn⟩ := hn
    obtain ⟨h1, kp1, hd1, kp2⟩ := hk
    have I1 : Inv X pins σ H { s with heap := h1, toks := tk } := I.kept kp1
    refine ⟨.ref d, upd H d (.lst (out.map backV)), I1.laid (t' := tk) kp2 hd1 ⟨?_, out, n, vals_back h3, hn⟩, rfl, q _ d ?_ (I1.hok.fresh hd1)⟩
    · rw [List.length_map, hb.perm.length_eq]; exact hzv
    · rw [e1]; exact hb.perm.map backV
/-- sorted(d), a dict whose keys are tuples of an int, a text, an int: its key tuples, in some order -/
def rSortTriD : List V → Hp → VK → Prop := fun vs H Q => ∃ a kvs, vs = [V.ref a] ∧ H a = some (.dT kvs) ∧ (∀ kv ∈ kvs, ∃ i z j, kv.1 = [Sum.inl i, Sum.inr z, Sum.inl j]) ∧
  ∀ bs ys p, IsKeys H kvs bs → ys.Perm (bs.map V.ref) → H p = none → Q (.ref p) (upd H p (.lst ys))
theorem isKeys_mem {H : Hp} {kvs : List (List Key × V)} {bs : List Addr} (h : IsKeys H kvs bs) : ∀ b ∈ bs, ∃ kv ∈ kvs, H b = some (.tup (kv.1.map kV)) := by
  unfold IsKeys at h
  induction h with
  | nil => intro b hb; cases hb
  | cons h t ih =>
    intro b hb
    rcases List.mem_cons.mp hb with e | hb
    · rw [e]; exact ⟨_, List.mem_cons_self, h⟩
    · obtain ⟨kv, h1, h2⟩ := ih b hb
      exact ⟨kv, List.mem_cons_of_mem _ h1, h2⟩
theorem cr_sortTriD (hc : X.calm = true) : CallR X (.builtin "sorted") rSortTriD := by
  intro pins s σ H vs us Q I r h
  obtain ⟨a, kvs, rfl, hd, hx, q⟩ := h
  obtain ⟨u, rfl, ru⟩ := vals1 r
  obtain rfl : u = Value.ref a := ru
  obtain ⟨z, lo, ks, pr, o, es, ep, ho, hxd, hdt, he, hn⟩ := (show ObjOk X.prog X.w H s.heap a (.dT kvs) from I.hok a _ hd)
  have l1 : es.size = ks.length := size_of_entries he
  have l2 : kvs.length = ks.length := Paired.length pr
  have hK : IsKeys H kvs (ks.map fun x => x.2.1) := isKeys_of pr
  have hvs : (ks.map fun x => Value.ref x.2.1).length ≤ sizeLine := by rw [List.length_map]; omega
  have href : ∀ v ∈ (ks.map fun x => Value.ref x.2.1), ∃ b, v = Value.ref b := fun v hv => by
    obtain ⟨x, _, e⟩ := List.mem_map.mp hv
    exact ⟨_, e.symm⟩
  have hp : ∀ v ∈ (ks.map fun x => Value.ref x.2.1), IsTri s.heap v := fun v hv => by
    obtain ⟨x, hx1, e⟩ := List.mem_map.mp hv
    obtain ⟨kv, h1, h2⟩ := isKeys_mem hK x.2.1 (List.mem_map.mpr ⟨x, hx1, rfl⟩)
    obtain ⟨i, y, j, e3⟩ := hx kv h1
    rw [e3] at h2
    rw [← e]
    exact tri_of I h2
  refine sorted_coll (swo_tri s.heap) hvs (fun R hR => PySem.W.kdu_collect (A := X.A.in1) (kdl_raw lo hxd hdt) (I.ok.hd hc) ho (by omega) fun h' tk acc k it => ?_) (fun h2 h1 tk b ha kk => tri_sortable (by omega) hp kk) fun h' tk d out hs hb hk hn => ?_
  · have ea : acc.toList = ks.map fun x => Value.ref x.2.1 := by
      have hl : acc.toList.length = ks.length := by rw [Array.length_toList, it.1]; exact l1
      refine List.ext_getElem? fun j => ?_
      rw [List.getElem?_map]
      cases hj : acc.toList[j]? with
      | none =>
        have := List.getElem?_eq_none_iff.mp hj
        rw [List.getElem?_eq_none (by omega)] <;> rfl
      | some v =>
        obtain ⟨en, hen, hv⟩ := it.2 j v (by rw [← Array.getElem?_toList]; exact hj)
        have qe := entry_at he j
        rw [hen] at qe
        cases hb2 : ks[j]? with
        | none => rw [hb2] at qe; cases qe
        | some b2 =>
          rw [hb2] at qe
          have e2 : en = entryOfKey (tupleKind (mixKind X.prog X.w)) b2 := Option.some.inj qe
          rw [hv, e2] <;> rfl
    rw [ea]
    exact hR h' tk k
  · have h3 : ∀ u ∈ out, ∃ a, u = Value.ref a := fun u hu => href u (hb.perm.mem_iff.mp hu)
    obtain ⟨n, hn⟩ := hn
    obtain ⟨h1, kp1, hd1, kp2⟩ := hk
    have I1 : Inv X pins σ H { s with heap := h1, toks := tk } := I.kept kp1
    refine ⟨.ref d, upd H d (.lst (out.map backV)), I1.laid (t' := tk) kp2 hd1 ⟨?_, out, n, vals_back h3, hn⟩, rfl, q _ _ d hK ?_ (I1.hok.fresh hd1)⟩
    · rw [List.length_map, hb.perm.length_eq]; exact hvs
    · have := hb.perm.map backV
      rw [List.map_map] at this
      rw [List.map_map]
      exact this
/-- sorted(t), a tuple of ints -/
def rSortTupI (K : PySem.W.Frag) : List V → Hp → VK → Prop := fun vs H Q => ∃ (a : Addr) (ns : List Int), vs = [V.ref a] ∧ SqT K H a (ns.map V.int) ∧
  ∀ (ns' : List Int) (p : Addr), ns'.Perm ns → ns'.Pairwise (· ≤ ·) → H p = none → Q (.ref p) (upd H p (.lst (ns'.map V.int)))
theorem cr_sortTupI : CallR X (.builtin "sorted") (rSortTupI X.K) := by
  intro pins s σ H vs us Q I r h
  obtain ⟨a, ns, rfl, hs, q⟩ := h
  obtain ⟨its, rv, ⟨o, ho, hc, n, hd⟩, hz⟩ := I.tuple hs
  rw [Vals.ref1 r]
  have hi := rv.ints
  have hzv : its.length ≤ sizeLine := by rw [← rv.length]; exact hz
  refine sorted_coll SrtO.swo_int hzv (fun R hR => wpAny_collect_seq a (.inr rfl) ho hc hd (fun h' k => ?_) (by rw [List.size_toArray]; exact hzv)) (fun h2 h1 tk b ha kk => SrtO.ints_sortable hi h2) fun h' tk d out hs hb hk hn => ?_
  · have := hR h' s.toks k
    simpa using this
  · obtain ⟨k1, k2, k3⟩ := SrtO.ints_out hi hs hb
    obtain ⟨n, hn⟩ := hn
    obtain ⟨h1, kp1, hd1, kp2⟩ := hk
    have I1 : Inv X pins σ H { s with heap := h1, toks := tk } := I.kept kp1
    refine ⟨.ref d, upd H d (.lst ((out.map SrtO.iv).map V.int)), I1.laid (t' := tk) kp2 hd1 ⟨?_, out, n, vals_of_ints k1, hn⟩, rfl, q _ d k2 k3 (I1.hok.fresh hd1)⟩
    rw [List.length_map, k2.length_eq]
    rw [List.length_map] at hz
    exact hz
end
end FW
/-! rules of one's own: enumerate over a text and a tuple; a text reversed, repeated; a tuple's index -/
namespace FW
open PySem PySem.Spec PyProof.Rows L2

theorem vals_two {x y : V} {us : List Value} (r : Vals [x, y] us) : ∃ u v, us = [u, v] ∧ RelV x u ∧ RelV y v := by
  cases r with
  | cons r1 t =>
    cases t with
    | cons r2 t =>
      cases t
      exact ⟨_, _, rfl, r1, r2⟩
section
variable {X : Cx}
/-- t.index(n) in a tuple of ints: the first place -/
theorem mt_tupIxI : MtR X "tuple.index" (fun x xs H Q => ∃ (p : Addr) (ns : List Int) (n : Int) (j : Nat), x = .ref p ∧ xs = [.int n] ∧ SqT X.K H p (ns.map V.int) ∧ ns[j]? = some n ∧ (∀ m : Nat, m < j → ns[m]? ≠ some n) ∧ Q (.int (j : Nat)) H) := by
  intro pins s σ H x xs v us Q I rx rs h
  obtain ⟨p, ns, n, j, rfl, rfl, hq, hy, hno, q⟩ := h
  cases rx
  obtain ⟨u, rfl, t, rfl⟩ := vals1 rs
  obtain ⟨its, r, ⟨⟨cls, dd, dt, sl⟩, ho, hc, c, hd⟩, hz⟩ := I.tuple hq
  have hc : cls = .type "tuple" := hc
  have hd : dt = .seq its.toArray c := hd
  subst hc hd
  have hl : its.toArray.size = ns.length := by rw [List.size_toArray, ← r.length, List.length_map]
  have at' : ∀ (m : Nat) (hm : m < its.toArray.size), ∃ y t', ns[m]? = some y ∧ its.toArray[m] = Value.int y t' := fun m hm => by
    have hm' : m < ns.length := hl ▸ hm
    obtain ⟨w, hw, t', hw'⟩ := r.get (i := m) (x := .int ns[m]) (by simp [hm'])
    refine ⟨ns[m], t', List.getElem?_eq_getElem hm', ?_⟩
    have e := (List.getElem?_eq_some_iff.mp hw).2
    rw [← hw', ← e, List.getElem_toArray]
  have hj : j < its.toArray.size := by rw [hl]; exact (List.getElem?_eq_some_iff.mp hy).1
  have hflat : (ns.map V.int).all flatV = true := by
    rw [List.all_map, List.all_eq_true]
    intro _ _
    rfl
  refine call_meets PySem.F.slot_tuple_index ⟨_, ho, rfl⟩ PySem.F.entry_tuple_index (PySem.F.args_tuple_index_2 _ _) (TI.tuple_indexAt p its.toArray c dd sl (.int n t) (eqU (.int n)) j hj ?_ fun m hm hmj => ?_)
    ⟨ho, fun w hw => mem_eqAt (x := .int n) ⟨t, rfl⟩ rfl r hflat w (by simpa using hw), ⟨.int (j : Nat), H, I.tok _, ⟨_, rfl⟩, q⟩⟩
  · obtain ⟨y, t', h1, h2⟩ := at' j hj
    rw [hy] at h1
    rw [h2, ← Option.some.inj h1]
    show (n == n) = true
    exact beq_self_eq_true n
  · obtain ⟨y, t', h1, h2⟩ := at' m hm
    rw [h2]
    show (y == n) = false
    exact beq_eq_false_iff_ne.mpr fun e => hno m hmj (e ▸ h1)
/-- text * n, n written small -/
def rRepS : R2 := fun x y H Q => ∃ (z : Str) (n : Int), x = .str z ∧ y = .int n ∧ 2 ≤ n ∧ n ≤ 100 ∧ z.length ≤ 1000 ∧ Q (.str ⟨(List.replicate n.toNat z.cps).foldl (· ++ ·) #[]⟩) H
theorem rep_len (z : Array Nat) : ∀ (n : Nat) (a : Array Nat), ((List.replicate n z).foldl (· ++ ·) a).size = a.size + n * z.size
  | 0, a => by simp
  | n + 1, a => by
    rw [List.replicate_succ, List.foldl_cons, rep_len z n, Array.size_append, Nat.add_mul]
    omega
theorem op_repS : OpR X (binaryOp .Mult) rRepS := by
  intro pins s σ H x y v u Q I rx ry h
  obtain ⟨z, n, rfl, rfl, h1, h2, hz, q⟩ := h
  obtain ⟨t, rfl⟩ := rx
  obtain ⟨k, rfl⟩ := ry
  have hzs : z.cps.size ≤ 1000 := hz
  have hn : ¬ n < 1 := by omega
  have hprod : n.toNat * z.cps.size ≤ 100 * 1000 := Nat.mul_le_mul (by omega) hzs
  refine PySem.P.mul_str ?_ (fun _ _ => ?_) (fun _ _ => ?_) ?_
  · rw [decide_eq_false (by omega), decide_eq_false (by omega)] <;> rfl
  · have h3 : (1000 : Int) ≤ (2 ^ 63 - 1) / n := Int.le_ediv_of_mul_le (by omega) (by omega)
    have h4 : ((z.length : Nat) : Int) ≤ 1000 := by exact_mod_cast hz
    omega
  · have h3 : z.length * n.toNat ≤ 100 * 1000 := by rw [Nat.mul_comm]; exact hprod
    show decide (_ < z.length * n.toNat) = false
    refine decide_eq_false ?_
    have : (100000 : Nat) ≤ sizeLine := by decide
    omega
  · rw [if_neg hn]
    by_cases c : (n == 1 || z.length == 0) = true
    · rw [if_pos c]
      have hc : z.length = 0 := by
        rcases Bool.or_eq_true_iff.mp c with e | e
        · have := eq_of_beq e
          omega
        · exact eq_of_beq e
      have hs : z.cps.size = 0 := hc
      have e : (⟨(List.replicate n.toNat z.cps).foldl (· ++ ·) #[]⟩ : Str) = z := by
        have hl := rep_len z.cps n.toNat #[]
        rw [hs, Nat.mul_zero] at hl
        obtain ⟨zc⟩ := z
        have h1 : zc = #[] := Array.eq_empty_of_size_eq_zero hs
        have h2 : ((List.replicate n.toNat zc).foldl (· ++ ·) #[]) = #[] := Array.eq_empty_of_size_eq_zero (by simpa using hl)
        rw [show (Str.mk zc).cps = zc from rfl, h2, h1]
      rw [e] at q
      exact ⟨.str z, H, I, ⟨t, rfl⟩, q⟩
    · rw [if_neg c]
      have hl := rep_len z.cps n.toNat #[]
      refine ⟨?_, .str _, H, I.tok _, ⟨_, rfl⟩, q⟩
      show ((List.replicate n.toNat z.cps).foldl (· ++ ·) #[]).size ≤ sizeLine
      rw [hl]
      have : (100000 : Nat) ≤ sizeLine := by decide
      simp
      omega
/-- text[::-1] -/
def tRevS (te : TE) : TE := fun σ H Q => te σ H fun x H1 => ∃ z, x = .str z ∧ z.length ≤ sizeLine ∧ Q (.str ⟨z.cps.toList.reverse.toArray⟩) H1
theorem revS_pick (z : Str) : (Builtin.Str.strSliceIndices none none (-1) z.length).filterMap (z.cps[·]?) = z.cps.toList.reverse := by
  show (sliceRange ((z.length : Int) - 1) (-1) (-1)).filterMap (z.cps[·]?) = _
  rw [PySem.W.krv_sliceRange, PySem.W.krv_range, List.filterMap_reverse]
  have := PySem.W.krv_all z.cps
  rw [show z.length = z.cps.size from rfl, this]
theorem pe_revS {e : Expr} {te : TE} {k : Nat} {p1 p2 p3 pos : Pos} (he : PE X e te) : PE X (.Subscript e (.Slice none none (some (.UnaryOp .USub (.Constant (.int 1) k p1) p2)) p3) pos) (tRevS te) := by
  refine ⟨fun pins s σ H Q I h => ?_⟩
  refine Subscript_ (thn (he.run pins s σ H _ I h) fun v s1 ⟨x, H1, I1, r1, z, ex, hz, q⟩ => ?_)
  subst ex
  obtain ⟨t, rfl⟩ := r1
  have hst : PO X (some (.UnaryOp .USub (.Constant (.int 1) k p1) p2)) (tPart (tUn (rU fun i => .int (-i)) (tC (.int 1)))) := po_some (pe_un un_neg pe_int)
  refine wpAny_Slice (thn (po_none.run pins s1 σ H1 (fun o H2 => o = none ∧ H2 = H1) I1 ⟨rfl, rfl⟩) fun vl s2 ⟨l, H2, I2, pl, el, e2⟩ => ?_)
  subst el e2
  refine thn (po_none.run pins s2 σ H2 (fun o H3 => o = none ∧ H3 = H2) I2 ⟨rfl, rfl⟩) fun vu s3 ⟨u, H3, I3, pu, eu, e3⟩ => ?_
  subst eu e3
  refine thn (hst.run pins s3 σ H3 (fun o H4 => o = some (-1) ∧ H4 = H3) I3 ⟨1, rfl, -1, rfl, rfl, rfl⟩) fun vs s4 ⟨o, H4, I4, ps, eo, e4⟩ => ?_
  subst eo e4
  have I5 : Inv X pins σ H4 { s4 with heap := s4.heap.push { cls := .type "slice", data := .fields #[vl, vu, vs] } } := I4.kept (t' := s4.toks) fun b ob q => Heap.get?_push_of_some _ q
  obtain ⟨l1, rfl, hl1⟩ := IsPart.raw pl
  obtain ⟨u1, rfl, hu1⟩ := IsPart.raw pu
  obtain ⟨k1, rfl, hk1⟩ := IsPart.raw ps
  refine tail_any (ops := [.str z t, .ref s4.heap.objs.size]) (typeIs_str _ _ _) (F.slot_str_getitem.lookup) ?_ (by with_unfolding_all rfl)
  have hk1' : k1.map (·.1) = some (-1) := hk1
  have hl1' : l1.map (·.1) = none := hl1
  have hu1' : u1.map (·.1) = none := hu1
  refine wpAny_getItem_str_slice (l := l1) (u := u1) (st := k1) ⟨_, Heap.get?_push_size _ rfl, rfl, rfl⟩ ?_ ?_
  · rw [hk1'] <;> rfl
  · unfold sliceMade slicePicked
    rw [hl1', hu1', hk1']
    show Made.post (if (((-1 : Int) == 1) && _) = true then _ else Made.str ⟨((Builtin.Str.strSliceIndices none none (-1) z.length).filterMap (z.cps[·]?)).toArray⟩) (EP X pins σ Q) _
    rw [if_neg (by rw [show ((-1 : Int) == 1) = false from rfl, Bool.false_and]; decide), revS_pick]
    refine ⟨?_, .str _, H4, I5.tok _, ⟨_, rfl⟩, q⟩
    show z.cps.toList.reverse.toArray.size ≤ sizeLine
    rw [List.size_toArray, List.length_reverse, Array.length_toList]
    exact hz
end
end FW
/-! enumerate over a tuple, over a text -/
namespace FW
open PySem PySem.Spec PyProof.Rows L2
set_option maxHeartbeats 4000000 in
theorem meets_enum1 {v : Value} {o : Obj} {H : Heap → Prop} (B : Begins v o H) :
    Meets (Builtin.«enumerate.__new__» ⟨[.type "enumerate", v], []⟩) (fun _ R s => H s.heap ∧
      R (.ok (.ret (.ref (s.heap.push o).objs.size))) { s with heap := (s.heap.push o).push { cls := .type "enumerate", data := .fields #[.none, .bool false, .ref s.heap.objs.size, rawInt 0, .none, .none] } }) :=
  .of_wp fun prog w A R s h => by
    obtain ⟨hp, g, d, tk, os⟩ := s
    obtain ⟨h1, h⟩ := h
    have hsub := sub_enumerate
    have q1 : ∀ {A' : Around} {E : Value → Shared → Prop} {Q : Value → Shared → Prop}, Q (.ref hp.objs.size) ⟨hp.push o, g, d, tk, os⟩ → wpAny (model prog w) A' (pyIter v) Q E ⟨hp, g, d, tk, os⟩ :=
      fun q => B.iter prog w _ _ ⟨hp, g, d, tk, os⟩ _ h1 q
    wp_walk using q1
    refine wpAny_stack_any fun st => wpAny_pure ?_
    split
    · rename_i c _ _ _ _ _
      cases (c == Value.type "enumerate")
      all_goals
        wp_walk using q1
        exact ⟨_, rfl, h⟩
    · wp_walk using q1
      exact ⟨_, rfl, h⟩
section
variable {prog : Program} {w : World} {A : Around} {E : Value → Shared → Prop} {s : Shared}
theorem enum1_begins {v : Value} {o : Obj} {H : Heap → Prop} {Q : Value → Shared → Prop} (B : Begins v o H) (h1 : H s.heap)
    (h : ∀ h', IsEnum h' (s.heap.objs.size + 1) s.heap.objs.size ((0 : Nat) : Int) .none → h'.get? s.heap.objs.size = some o → (∀ b o, s.heap.get? b = some o → h'.get? b = some o) → Q (.ref (s.heap.objs.size + 1)) { s with heap := h' }) :
    wpAny (model prog w) A (call (.type "enumerate") [v]) Q E s := by
  refine callType_new F.called_enumerate (by decide) (F.typeCall_enumerate_1 _) (F.newCall_enumerate_1 _) (fun obj => F.args_object_init_2 obj _) F.entry_enumerate_new (meets_enum1 B) ⟨h1, ?_⟩
  have hz : (s.heap.push o).objs.size = s.heap.objs.size + 1 := Heap.size_push ..
  have he := Heap.get?_push_size (s.heap.push o) (o := { cls := .type "enumerate", data := .fields #[.none, .bool false, .ref s.heap.objs.size, rawInt 0, .none, .none] }) rfl
  show _ ∧ _
  rw [hz] at he ⊢
  exact ⟨⟨_, he, rfl⟩, h _ he (Heap.get?_push_of_some _ (Heap.get?_push_size _ B.free)) fun b ob q => Heap.get?_push_of_some _ (Heap.get?_push_of_some _ q)⟩
end
/-- a turn of enumerate, over whatever its inner iterator draws -/
theorem enum_turn {X : Cx} {pins : List (Addr × Obj)} {σ : L2.St} {H : Hp} {s : Shared} {E : Value → Shared → Prop} {e it : Addr} {fp : List Addr} {n i : Nat} {Pd : Nat → Value → Prop} {Sn : Nat → Heap → Prop} {old : Value} {xv : V → Prop} {elts : List Expr} {kk : Nat} {tpos : Pos}
    (I : L2.Inv X pins σ H s) (D : Draws X.prog X.w X.A.in1 it fp n Pd Sn) (he : IsEnum s.heap e it ((i : Nat) : Int) old) (hst : Sn i s.heap) (hlt : i < n) (hne : e ≠ it) (hef : e ∉ fp) (hf : ∀ b ∈ [e, it], FpOk X pins H b)
    (hP : ∀ x, Pd i x → ∃ v, RelV v x ∧ xv v) :
    wpAny (model X.prog X.w) X.A (pyNext (.ref e)) (fun r s1 => ∃ u, r = some u ∧ wpAny (model X.prog X.w) X.A (letOwnedTupleGo (.Tuple elts kk tpos) (.ref e) u) (fun _ s2 => ∃ x H', L2.Inv X pins σ H' s2 ∧ RelV x u ∧
      (∃ T v, x = .ref T ∧ H T = none ∧ H' = upd H T (.tup [.int (i : Nat), v]) ∧ xv v) ∧ ((∃ old, IsEnum s2.heap e it ((i + 1 : Nat) : Int) old) ∧ Sn (i + 1) s2.heap) ∧ ∀ b ∈ [e, it], H' b = none) E s1) E s := by
  have hel : e < s.heap.objs.size := Heap.lt_size he
  have hil : it < s.heap.objs.size := by obtain ⟨_, q⟩ := D.live _ _ hst; exact Heap.lt_size q
  refine wpAny_pyNext_enum_itemC D he hst hlt hne hef fun x h' tk hx ho hs' hT hsz hk => ?_
  obtain ⟨v, rv, hv⟩ := hP x hx
  refine ⟨_, rfl, wpAny_letOwnedTupleGo_enum (s := { s with heap := h', toks := tk + 1 }) ho fun h2 he' sb => ?_⟩
  have hT2 : h2.get? s.heap.objs.size = some { cls := .type "tuple", data := .seq #[.int i tk, x] } := (sb.2 _ (Nat.ne_of_gt hel)).trans hT
  have new : ObjOk X.prog X.w (upd H s.heap.objs.size (.tup [.int (i : Nat), v])) h2 s.heap.objs.size (.tup [.int (i : Nat), v]) :=
    ⟨by show 2 ≤ sizeLine; decide, [.int i tk, x], .cons ⟨_, rfl⟩ (.cons rv .nil), ⟨_, hT2, rfl, _, rfl⟩⟩
  have I1 : L2.Inv X pins σ (upd H s.heap.objs.size (.tup [.int (i : Nat), v])) { s with heap := h2, toks := tk + 1 } :=
    I.turnedNew (ch := [e, it]) (fun b ob hb q => (sb.2 b (fun z => hb (by simp [z]))).trans (hk b ob (fun z => hb (by simp [z])) (fun z => hb (by simp [z])) q)) hf (Nat.le_refl _) new
  refine ⟨.ref s.heap.objs.size, _, I1, rfl, ⟨_, v, rfl, I.hok.fresh (Nat.le_refl _), rfl, hv⟩, ⟨⟨x, ?_⟩, D.frame _ _ _ hs' fun b hb o q => (sb.2 b fun z => hef (z ▸ hb)).trans q⟩, fun b hb => ?_⟩
  · rw [show ((i + 1 : Nat) : Int) = (i : Int) + 1 by omega]
    exact he'
  · have hb' : b < s.heap.objs.size := by
      rcases List.mem_cons.mp hb with z | z
      · rw [z]; exact hel
      · rw [List.mem_singleton.mp z]; exact hil
    rw [upd_ne (Nat.ne_of_lt hb')]
    exact (hf b hb).1
/-- enumerate(t) of a tuple | of a text -/
def IteT (a : Addr) (xs : List V) : It :=
  ⟨fun i H => i < xs.length ∧ H a = some (.tup xs), fun i H v H' => ∃ T x, v = .ref T ∧ H T = none ∧ H' = upd H T (.tup [.int (i : Nat), x]) ∧ xs[i]? = some x, fun i H => i = xs.length ∧ H a = some (.tup xs)⟩
def IteS (z : Str) : It :=
  ⟨fun i _ => i < z.cps.size, fun i H v H' => ∃ T x, v = .ref T ∧ H T = none ∧ H' = upd H T (.tup [.int (i : Nat), x]) ∧ ∃ c, z.cps[i]? = some c ∧ x = .str ⟨#[c]⟩, fun i _ => i = z.cps.size⟩
theorem turn_enumT {P : Program} {w : World} {K : PySem.W.Frag} {elts : List Expr} {kk : Nat} {tpos : Pos} (a e it : Addr) (xs : List V) :
    Turn P w K (.Tuple elts kk tpos) (IteT a xs) [e, it] e (fun i h => (∃ old, IsEnum h e it ((i : Nat) : Int) old) ∧ h.IsTupleIter it a i ∧ e ≠ it) where
  mem := by simp
  obj := fun i h st b hb => by
    obtain ⟨⟨old, he⟩, ⟨o, ho, hc, hd⟩, _⟩ := st
    rcases List.mem_cons.mp hb with z | z
    · rw [z]; exact ⟨_, he, fun v q => nomatch q⟩
    · rw [List.mem_singleton.mp z]; exact ⟨o, ho, fun v q => by rw [hd] at q; cases q⟩
  keep := fun i h h' st k => let ⟨⟨old, he⟩, hi, hne⟩ := st; ⟨⟨old, k e (by simp) _ he⟩, hi.at fun o q => k it (by simp) o q, hne⟩
  item := by
    intro X hP hw hK hc i pins s σ H E I hf st hg
    subst hP hw hK
    obtain ⟨⟨old, he⟩, hit, hne⟩ := st
    obtain ⟨hlt, hq⟩ := hg
    obtain ⟨its, rv, p, hz⟩ := I.tuple (SqT.of hq)
    have hea : e ≠ a := fun z => by
      have := (hf e (by simp)).1
      rw [z, hq] at this
      cases this
    have hia : a ≠ it := fun z => by
      have := (hf it (by simp)).1
      rw [← z, hq] at this
      cases this
    have D := Draws.tuple (prog := X.prog) (w := X.w) (A := X.A.in1) (I.ok.hd hc) it a hia its.toArray
    refine wpAny_mono (enum_turn (xv := fun v => xs[i]? = some v) I D he ⟨hit, p⟩ (by rw [List.size_toArray, ← rv.length]; exact hlt) hne (by simp [hne, hea]) hf fun x hx => ?_) (fun r s1 ⟨u, e1, h2⟩ => ⟨u, e1, wpAny_mono h2 (fun _ s2 ⟨x, H', I2, r2, y2, st2, n2⟩ => ⟨x, H', I2, r2, y2, ⟨st2.1, st2.2.1, hne⟩, n2⟩) fun _ _ q => q⟩) fun _ _ q => q
    have hx : its[i]? = some x := by simpa using hx
    have hl : i < xs.length := hlt
    obtain ⟨u, hu, ru⟩ := rv.get (List.getElem?_eq_getElem hl)
    rw [hx] at hu
    cases hu
    exact ⟨_, ru, List.getElem?_eq_getElem hl⟩
  done := by
    intro X hP hw hK hc i pins s σ H E I hf st hg
    subst hP hw hK
    obtain ⟨⟨old, he⟩, hit, hne⟩ := st
    obtain ⟨hlt, hq⟩ := hg
    obtain ⟨its, rv, p, hz⟩ := I.tuple (SqT.of hq)
    obtain ⟨f0, f1, f2, f3, f4, f5⟩ := hf it (by simp)
    have hia : a ≠ it := fun z => by
      rw [← z, hq] at f0
      cases f0
    have D := Draws.tuple (prog := X.prog) (w := X.w) (A := X.A.in1) (I.ok.hd hc) it a hia its.toArray
    have hn : i = its.toArray.size := by rw [List.size_toArray, ← rv.length]; exact hlt
    rw [hn] at hit
    exact wpAny_pyNext_enum_endD D he ⟨hit, p⟩ fun h' eb => ⟨rfl, I.turned (t' := s.toks) (fun b o hb q => eb b o hb q) f0 f1 f3 f4 f5⟩
  self := fun A i s Q E st h => let ⟨⟨_, he⟩, _⟩ := st; wpAny_pyIter_enum he h
theorem turn_enumS {P : Program} {w : World} {K : PySem.W.Frag} {elts : List Expr} {kk : Nat} {tpos : Pos} (z : Str) (t : Tok) (e it : Addr) :
    Turn P w K (.Tuple elts kk tpos) (IteS z) [e, it] e (fun i h => (∃ old, IsEnum h e it ((i : Nat) : Int) old) ∧ h.IsStrIter it (strIterType z) z t i ∧ e ≠ it) where
  mem := by simp
  obj := fun i h st b hb => by
    obtain ⟨⟨old, he⟩, ⟨o, ho, hc, hd⟩, _⟩ := st
    rcases List.mem_cons.mp hb with z | z
    · rw [z]; exact ⟨_, he, fun v q => nomatch q⟩
    · rw [List.mem_singleton.mp z]; exact ⟨o, ho, fun v q => by rw [hd] at q; cases q⟩
  keep := fun i h h' st k => by
    obtain ⟨⟨old, he⟩, ⟨o, ho, r⟩, hne⟩ := st
    exact ⟨⟨old, k e (by simp) _ he⟩, ⟨o, k it (by simp) o ho, r⟩, hne⟩
  item := by
    intro X hP hw hK hc i pins s σ H E I hf st hg
    subst hP hw hK
    obtain ⟨⟨old, he⟩, hit, hne⟩ := st
    have D := Draws.text (prog := X.prog) (w := X.w) (A := X.A.in1) (I.ok.hd hc) it z t
    refine wpAny_mono (enum_turn (xv := fun v => ∃ c, z.cps[i]? = some c ∧ v = .str ⟨#[c]⟩) I D he hit hg hne (by simp [hne]) hf fun x hx => ?_) (fun r s1 ⟨u, e1, h2⟩ => ⟨u, e1, wpAny_mono h2 (fun _ s2 ⟨x, H', I2, r2, y2, st2, n2⟩ => ⟨x, H', I2, r2, y2, ⟨st2.1, st2.2, hne⟩, n2⟩) fun _ _ q => q⟩) fun _ _ q => q
    obtain ⟨c, u, hcx, rfl⟩ := hx
    exact ⟨.str ⟨#[c]⟩, ⟨u, rfl⟩, c, hcx, rfl⟩
  done := by
    intro X hP hw hK hc i pins s σ H E I hf st hg
    subst hP hw hK
    obtain ⟨⟨old, he⟩, hit, hne⟩ := st
    obtain ⟨f0, f1, f2, f3, f4, f5⟩ := hf it (by simp)
    have D := Draws.text (prog := X.prog) (w := X.w) (A := X.A.in1) (I.ok.hd hc) it z t
    have hg : i = z.cps.size := hg
    rw [hg] at hit
    exact wpAny_pyNext_enum_endD D he hit fun h' eb => ⟨rfl, I.turned (t' := s.toks) (fun b o hb q => eb b o hb q) f0 f1 f3 f4 f5⟩
  self := fun A i s Q E st h => let ⟨⟨_, he⟩, _⟩ := st; wpAny_pyIter_enum he h
def iEnumT (ta : TA) : TI := fun σ H R => ta σ H fun vs H1 => ∃ a xs, vs = [.ref a] ∧ H1 a = some (.tup xs) ∧ R (IteT a xs) H1
def iEnumS (ta : TA) : TI := fun σ H R => ta σ H fun vs H1 => ∃ z, vs = [.str z] ∧ R (IteS z) H1
section
variable {X : Cx} {e : Expr} {ta : TA} {p pos tpos : Pos} {elts : List Expr} {kk : Nat}
theorem pi_enumT (hg : Gl X "enumerate") (hm : X.mg "enumerate" = none) (ha : PA X [e] ta) (hs : starEach [e] X.env = [(false, eval e X.env)] := by rfl) :
    PI X (.Tuple elts kk tpos) (.Call (.Name "enumerate" p) [e] [] pos) (iEnumT ta) := by
  refine ⟨fun pins s σ H R I h => ?_⟩
  refine Call_ (ld_blt I hg hm boot_enumerate (PyProof.Rows.callWith_type1 (thn (ha.run pos pins s σ H _ I h) fun us s1 ⟨vs, H1, I1, r1, a, xs, ex, hq, q⟩ => ?_) hs rfl))
  subst ex
  obtain ⟨u, rfl, ru⟩ := vals1 r1
  cases ru
  obtain ⟨its, rv, p', hz⟩ := I1.tuple (SqT.of hq)
  refine enum1_begins (begins_tuple a its.toArray) p' fun h' he hit hk => wpAny_pyIter_enum he ?_
  have I2 : L2.Inv X pins σ H1 { s1 with heap := h' } := I1.kept (t' := s1.toks) hk
  refine ⟨s1.heap.objs.size + 1, [s1.heap.objs.size + 1, s1.heap.objs.size], _, _, H1, rfl, I2, turn_enumT a (s1.heap.objs.size + 1) s1.heap.objs.size xs, ⟨⟨.none, he⟩, ⟨_, hit, rfl, rfl⟩, Nat.succ_ne_self _⟩, fun b hb => ?_, q⟩
  have hle : s1.heap.objs.size ≤ b := by
    rcases List.mem_cons.mp hb with z | z
    · rw [z]; exact Nat.le_add_right _ _
    · rw [List.mem_singleton.mp z]; exact Nat.le_refl _
  exact I1.fpOk hle (I1.hok.fresh hle)
theorem pi_enumS (hg : Gl X "enumerate") (hm : X.mg "enumerate" = none) (ha : PA X [e] ta) (hs : starEach [e] X.env = [(false, eval e X.env)] := by rfl) :
    PI X (.Tuple elts kk tpos) (.Call (.Name "enumerate" p) [e] [] pos) (iEnumS ta) := by
  refine ⟨fun pins s σ H R I h => ?_⟩
  refine Call_ (ld_blt I hg hm boot_enumerate (PyProof.Rows.callWith_type1 (thn (ha.run pos pins s σ H _ I h) fun us s1 ⟨vs, H1, I1, r1, z, ex, q⟩ => ?_) hs rfl))
  subst ex
  obtain ⟨u, rfl, ru⟩ := vals1 r1
  obtain ⟨t, rfl⟩ := ru
  refine enum1_begins (begins_text z t) trivial fun h' he hit hk => wpAny_pyIter_enum he ?_
  have I2 : L2.Inv X pins σ H1 { s1 with heap := h' } := I1.kept (t' := s1.toks) hk
  refine ⟨s1.heap.objs.size + 1, [s1.heap.objs.size + 1, s1.heap.objs.size], _, _, H1, rfl, I2, turn_enumS z t (s1.heap.objs.size + 1) s1.heap.objs.size, ⟨⟨.none, he⟩, ⟨_, hit, rfl, rfl⟩, Nat.succ_ne_self _⟩, fun b hb => ?_, q⟩
  have hle : s1.heap.objs.size ≤ b := by
    rcases List.mem_cons.mp hb with z | z
    · rw [z]; exact Nat.le_add_right _ _
    · rw [List.mem_singleton.mp z]; exact Nat.le_refl _
  exact I1.fpOk hle (I1.hok.fresh hle)
end
/-- the loops over them -/
theorem for_enumT {a : Addr} {xs : List V} {g : TG} {tb : TS} {D : Ends} {σ : L2.St} {H : Hp} (Pv : Nat → L2.St → Hp → Prop) (h0 : Pv 0 σ H) (hl : ∀ i σ H, i ≤ xs.length → Pv i σ H → H a = some (.tup xs))
    (hs : ∀ i x T σ H, xs[i]? = some x → Pv i σ H → H T = none → g (.ref T) σ (upd H T (.tup [.int (i : Nat), x])) fun σ2 H2 => tb { D with nx := Pv (i + 1), ct := Pv (i + 1), bk := D.nx } σ2 H2) (hd : ∀ σ H, Pv xs.length σ H → D.nx σ H) :
    ∃ W : Nat → Nat → L2.St → Hp → Prop, (∃ m, W 0 m σ H) ∧ ∀ i m σ H, W i m σ H →
      ((IteT a xs).stop i H ∧ D.nx σ H) ∨ ((IteT a xs).go i H ∧ ∃ N : L2.St → Hp → Prop, (∀ σ' H', N σ' H' → ∃ m', m' < m ∧ W (i + 1) m' σ' H') ∧ ∀ x H', (IteT a xs).yld i H x H' → g x σ H' fun σ2 H2 => tb { D with nx := N, ct := N, bk := D.nx } σ2 H2) := by
  refine ⟨fun i m σ H => m = xs.length - i ∧ i ≤ xs.length ∧ Pv i σ H, ⟨xs.length, by simp, Nat.zero_le _, h0⟩, ?_⟩
  rintro i m σ H ⟨rfl, hi, p⟩
  by_cases hlt : i < xs.length
  · refine .inr ⟨⟨hlt, hl i σ H hi p⟩, Pv (i + 1), fun σ' H' p' => ⟨xs.length - (i + 1), by omega, rfl, hlt, p'⟩, fun x H' y => ?_⟩
    obtain ⟨T, v, rfl, hT, rfl, hv⟩ := y
    exact hs i v T σ H hv p hT
  · obtain rfl : i = xs.length := by omega
    exact .inl ⟨⟨rfl, hl _ σ H hi p⟩, hd σ H p⟩
theorem for_enumS {z : Str} {g : TG} {tb : TS} {D : Ends} {σ : L2.St} {H : Hp} (Pv : Nat → L2.St → Hp → Prop) (h0 : Pv 0 σ H)
    (hs : ∀ i c T σ H, z.cps[i]? = some c → Pv i σ H → H T = none → g (.ref T) σ (upd H T (.tup [.int (i : Nat), .str ⟨#[c]⟩])) fun σ2 H2 => tb { D with nx := Pv (i + 1), ct := Pv (i + 1), bk := D.nx } σ2 H2) (hd : ∀ σ H, Pv z.cps.size σ H → D.nx σ H) :
    ∃ W : Nat → Nat → L2.St → Hp → Prop, (∃ m, W 0 m σ H) ∧ ∀ i m σ H, W i m σ H →
      ((IteS z).stop i H ∧ D.nx σ H) ∨ ((IteS z).go i H ∧ ∃ N : L2.St → Hp → Prop, (∀ σ' H', N σ' H' → ∃ m', m' < m ∧ W (i + 1) m' σ' H') ∧ ∀ x H', (IteS z).yld i H x H' → g x σ H' fun σ2 H2 => tb { D with nx := N, ct := N, bk := D.nx } σ2 H2) := by
  refine ⟨fun i m σ H => m = z.cps.size - i ∧ i ≤ z.cps.size ∧ Pv i σ H, ⟨z.cps.size, by simp, Nat.zero_le _, h0⟩, ?_⟩
  rintro i m σ H ⟨rfl, hi, p⟩
  by_cases hlt : i < z.cps.size
  · refine .inr ⟨hlt, Pv (i + 1), fun σ' H' p' => ⟨z.cps.size - (i + 1), by omega, rfl, hlt, p'⟩, fun x H' y => ?_⟩
    obtain ⟨T, v, rfl, hT, rfl, c, hc, rfl⟩ := y
    exact hs i c T σ H hc p hT
  · obtain rfl : i = z.cps.size := by omega
    exact .inl ⟨rfl, hd σ H p⟩
end FW
/-! dict comprehensions whose keys are tuples -/
namespace FW
open PySem PySem.Spec PyProof.Rows L2
/-- d[k] = v within a comprehension, k a tuple of ints and texts -/
theorem put_tup {X : Cx} {pins : List (Addr × Obj)} {σ : L2.St} {H : Hp} {s : Shared} {E : Value → Shared → Prop} {D b : Addr} {kvs : List (List Key × V)} {k : List Key} {v : V} {u r : Value} {Q : Unit → Shared → Prop} (hu : X.A.units < cLine) (I : L2.Inv X pins σ H s)
    (hD : H D = some (.dT kvs)) (hb : H b = some (.tup (k.map kV))) (hz : kvs.length < sizeLine) (ry : RelV (.ref b) u) (rv : RelV v r) (h : ∀ s', L2.Inv X pins σ (upd H D (.dT (putK kvs k v))) s' → Q () s') : wpAny (model X.prog X.w) X.A (dictSet D u r) Q E s := by
  cases (show u = Value.ref b from ry)
  obtain ⟨z, hd, xs, rel, dd⟩ := dt_of I.hok hD
  have hxl : xs.length ≤ sizeLine := by rw [← Paired.length rel]; exact z
  have hpl : (putK kvs k v).length ≤ sizeLine := by have := length_putK kvs k v; omega
  refine wpAny_dictSet_heap (hsz := hxl) (show (tupleKind (mixKind X.prog X.w)).room X.A from hu) (key_of I.hok hb) dd fun h' dd' hs => h _ ?_
  obtain ⟨q, es, ep, hq, c2, c3, c4, _, c5⟩ := dd'
  refine d_write (ob := .dT (putK kvs k v)) I (by rw [hD]; trivial) hs ⟨q, hq⟩ ⟨hpl, hd, _, (rel.put k hb rv).keeps fun c ys ec => ?_, q, es, ep, hq, c2, c3, c4, c5⟩
  rw [upd_ne (ne_of ec hD (fun z => nomatch z))]
  exact ec
/-- {k: v for target in iter if ..}, k a tuple: D the new dict -/
def tDcT (wi : TI) (g : TG) (tt : TT) (tk tv : TE) (vs : List Nat) : TE := fun σ H Q => wi σ H fun J H1 => ∀ D, H1 D = none → ∃ W : Nat → Nat → Hp → Prop, (∃ m, W 0 m (upd H1 D (.dT []))) ∧ ∀ i m H, W i m H →
  (J.stop i H ∧ Q (.ref D) H) ∨ (J.go i H ∧ ∃ Nx : Hp → Prop, (∀ H', Nx H' → ∃ m', m' < m ∧ W (i + 1) m' H') ∧ ∀ x H', J.yld i H x H' → g x (wipe σ vs) H' fun σ2 H2 => wipe σ2 vs = wipe σ vs ∧ tt σ2 H2 fun b H3 =>
    if b = true then tk σ2 H3 fun y H4 => tv σ2 H4 fun z H5 => ∃ kvs k c, y = .ref c ∧ H5 c = some (.tup (k.map kV)) ∧ H5 D = some (.dT kvs) ∧ kvs.length < sizeLine ∧ Nx (upd H5 D (.dT (putK kvs k z))) else Nx H3)
section
variable {X : Cx}
theorem pe_dcT {kx vx tg iter : Expr} {ifs : List Expr} {scope : Scope} {own : List (Str × Nat)} {pos : Pos} {wi : TI} {g : TG} {tt : TT} {tk tv : TE} (hc : X.calm = true) (hu : X.A.units < cLine) (hN : X.N.Nodup) (hi : PI X tg iter wi) (ok : BlkOk X.N X.env.scope scope own)
    (hg : ∀ (s : Shared) (H : Hp) (C : Addr) (cl : List (Str × Addr)) (fp : List Addr), PG (X.blk s H scope (compEnvC scope cl C X.env) fp) tg g)
    (ht : ∀ (s : Shared) (H : Hp) (C : Addr) (cl : List (Str × Addr)) (fp : List Addr), PTs (X.blk s H scope (compEnvC scope cl C X.env) fp) ifs tt)
    (hk : ∀ (s : Shared) (H : Hp) (C : Addr) (cl : List (Str × Addr)) (fp : List Addr), PE (X.blk s H scope (compEnvC scope cl C X.env) fp) kx tk)
    (he : ∀ (s : Shared) (H : Hp) (C : Addr) (cl : List (Str × Addr)) (fp : List Addr), PE (X.blk s H scope (compEnvC scope cl C X.env) fp) vx tv) (hs : ∀ x, foldedSetIterable iter X.env x = pure x := by intro _; rfl) :
    PE X (.DictComp kx vx [⟨tg, iter, ifs, 0⟩] scope pos) (tDcT wi g tt tk tv (own.map (·.2))) := by
  refine ⟨fun pins s σ H Q I h => ?_⟩
  rw [arm_eval_DictComp]
  have closed : ∀ y ∈ scope.names, y.2 = .free → ∃ c, X.env.cells.lookup y.1 = some c := fun y hy e =>
    (ok.free y hy e).elim (fun k => I.ok.has _ (.inl k)) fun k => I.ok.has _ (.inr k)
  refine wpAny_comprehension_free (use := none) rfl hs (closure_ok closed) ok.kind (fun y hy e => by rw [ok.uniq y hy, e])
    (thn (hi.run pins s σ H _ I h) fun xv s1 hx => thn hx fun itv s2 ⟨it, fp, tn, J, H2, e, I2, T, st2, f2, q⟩ => ?_)
  subst e
  refine wpAny_newObj_type (newEnv_comp ?_)
  generalize hD : s2.heap.objs.size = D
  have nD : H2 D = none := I2.hok.fresh (Nat.le_of_eq hD)
  obtain ⟨W, ⟨m0, w0⟩, turn⟩ := q D nD
  generalize hs3 : ({ s2 with heap := s2.heap.push { cls := .type "dict", data := .dict #[] } } : Shared) = s3
  have I3 : L2.Inv X pins σ (upd H2 D (.dT [])) s3 := by
    subst hs3 hD
    exact I2.laid (t' := s2.toks) (fun b o z => Heap.get?_push_of_some _ z) (Nat.le_refl _) (dt_empty s2.heap I2.big)
  have h3 : s3.heap = s2.heap.push { cls := .type "dict", data := .dict #[] } := by rw [← hs3]
  have f3 : ∀ b ∈ fp, FpOk X pins (upd H2 D (.dT [])) b ∧ b < s3.heap.objs.size := fun b hb => by
    obtain ⟨o, z, _⟩ := T.obj _ _ st2 b hb
    have hlt := Heap.lt_size z
    refine ⟨⟨?_, (f2 b hb).2⟩, by rw [h3, Heap.size_push]; exact Nat.lt_succ_of_lt hlt⟩
    rw [upd_ne (by rw [← hD]; exact Nat.ne_of_lt hlt)]
    exact (f2 b hb).1
  have I4 := block_start I3 ok hN f3
  generalize hcl : cellsFrom (s3.heap.objs.size + 1) scope.names (cloFrom X.env.cells scope.names []) = cl at I4 ⊢
  generalize hH3 : upd H2 D (.dT []) = H3 at I3 I4 w0 f3
  generalize hs4 : ({ s3 with heap := pushCells (s3.heap.push { cls := .type "dict", data := .dict #[] }) scope.names } : Shared) = s4 at I4
  have st4 : tn 0 s4.heap := T.keep _ _ _ st2 fun b _ o z => by
    rw [← hs4]
    exact pushCells_keeps _ _ _ _ (Heap.get?_push_of_some _ (by rw [h3]; exact Heap.get?_push_of_some _ z))
  have pg := hg s3 H3 s3.heap.objs.size cl fp
  have pt := ht s3 H3 s3.heap.objs.size cl fp
  have pk := hk s3 H3 s3.heap.objs.size cl fp
  have pe := he s3 H3 s3.heap.objs.size cl fp
  have nfp : ∀ b ∈ fp, H3 b = none := fun b hb => (f3 b hb).1.1
  generalize hce : compEnvC scope cl s3.heap.objs.size X.env = ce at I4 pg pt pk pe
  have cL : ce.locals = s3.heap.objs.size := by subst hce; rfl
  have stat : ∀ {σ' : L2.St} {H' : Hp} {s' : Shared}, L2.Inv (X.blk s3 H3 scope ce fp) [] σ' H' s' → (∀ b ∈ fp, H' b = none) → ∀ b ∈ fp, FpOk (X.blk s3 H3 scope ce fp) [] H' b := fun {σ' H' s'} I' hn b hb =>
    ⟨hn b hb, (I'.ok.exf b hb).1, I'.ok.exfs b hb, .inl hb, fun x c z => (I'.ok.exf b hb).2 x c z, fun p hp => absurd (show p ∈ ([] : List (Addr × Obj)) ++ [] from hp) (by simp)⟩
  have loop : codeAny (model X.prog X.w) X.A (.compLoop (.DictComp kx vx [⟨tg, iter, ifs, 0⟩] scope pos) 0 (.ref it) (.ref D) ce) (compPost (model X.prog X.w) X.A X.xe none (EP X pins σ Q) (.ref D) s3.heap.objs.size) s4 := by
    refine compLoop_anyD (fun n s' => ∃ i H', L2.Inv (X.blk s3 H3 scope ce fp) [] (wipe σ (own.map (·.2))) H' s' ∧ tn i s'.heap ∧ (∀ b ∈ fp, H' b = none) ∧ W i n H') ?_ m0 ⟨0, H3, I4, st4, nfp, w0⟩
    rintro n s5 ⟨i, H5, I5, st5, n5, w5⟩
    rcases turn i n H5 w5 with ⟨stop, qq⟩ | ⟨go, Nx, hNx, step⟩
    · refine thnF (T.done (X.blk s3 H3 scope ce fp) rfl rfl rfl hc i [] s5 _ H5 (fun _ _ => False) I5 (stat I5 n5) st5 stop) fun r s6 ⟨hr, I6⟩ => ?_
      subst hr
      have I7 : L2.Inv X pins σ H5 s6 := I3.call' (ch := fp) I6.os I6.base I6.hok I6.bare fun b hb => ⟨(f3 b hb).1.2.2.2.1, (f3 b hb).1.2.1, (f3 b hb).1.2.2.2.2.1, (f3 b hb).1.2.2.2.2.2⟩
      have nC : H5 s3.heap.objs.size = none := by
        have z : H5 ce.locals = none := I6.free
        rwa [cL] at z
      obtain ⟨m, hn, _⟩ := I6.loc
      have hn : s6.heap.Ns ce.locals m := hn
      rw [cL] at hn
      obtain ⟨g0, g1, g2, g3, g4, g5⟩ := I3.fpOk (Nat.le_refl _) nC
      have g0 : H5 s3.heap.objs.size = none := nC
      exact ⟨m, hn, fun h'' sb => ⟨.ref D, H5, I7.turned (t' := s6.toks) (fun b o hb z => (sb.2 b hb).trans z) g0 g1 g3 g4 g5, rfl, qq⟩⟩
    · refine thnF (T.item (X.blk s3 H3 scope ce fp) rfl rfl rfl hc i [] s5 _ H5 (fun _ _ => False) I5 (stat I5 n5) st5 go) fun r s6 ⟨u, hr, h6⟩ => ?_
      subst hr
      refine thnF h6 fun _ s7 ⟨x, H7, I7, r7, y7, st7, n7⟩ => ?_
      have I7p := I7.pinned (stat I7 n7) (T.obj _ _ st7)
      refine thnF (pg.run _ s7 _ H7 x u _ I7p r7 (step x H7 y7)) fun _ s8 ⟨σ8, H8, I8, hw8, q8⟩ => ?_
      refine thnF (pt.run _ s8 σ8 H8 _ I8 q8) fun b s9 ⟨H9, I9, q9⟩ => ?_
      have fin : ∀ {s' : Shared} {H' : Hp}, L2.Inv (X.blk s3 H3 scope ce fp) ([] ++ pinsAt fp s7.heap) σ8 H' s' → Nx H' → ∃ m, m < n ∧ ∃ i H', L2.Inv (X.blk s3 H3 scope ce fp) [] (wipe σ (own.map (·.2))) H' s' ∧ tn i s'.heap ∧ (∀ b ∈ fp, H' b = none) ∧ W i m H' := fun {s' H'} I' nx => by
        obtain ⟨m', hm, w'⟩ := hNx H' nx
        have pin' : ∀ b ∈ fp, ∀ o, s7.heap.get? b = some o → s'.heap.get? b = some o ∧ H' b = none := fun b hb o z =>
          let y := I'.pin (b, o) (List.mem_append_right _ (List.mem_append_right _ (mem_pinsAt hb z)))
          ⟨y.1, y.2.1⟩
        refine ⟨m', hm, i + 1, H', (I'.unpinned (pins := [])).weak (by rw [← hw8, wipe_length]) (fun j v z => ?_), T.keep _ _ _ st7 fun b hb o z => (pin' b hb o z).1, fun b hb => ?_, w'⟩
        · rw [← hw8] at z
          exact (wipe_some z).1
        · obtain ⟨o, z, _⟩ := T.obj _ _ st7 b hb
          exact (pin' b hb o z).2
      cases b with
      | false => exact fin I9 q9
      | true =>
        refine thnF (pk.run _ s9 σ8 H9 _ I9 q9) fun z s10 ⟨yk, H10, I10, r10, q10⟩ => ?_
        refine thnF (pe.run _ s10 σ8 H10 _ I10 q10) fun z2 s11 ⟨yv, H11, I11, r11, kvs, k, c, ek, hc11, hD11, hz11, nx⟩ => ?_
        subst ek
        exact put_tup (X := X.blk s3 H3 scope ce fp) hu I11 hD11 hc11 hz11 r10 r11 fun s12 I12 => fin I12 nx
  have start := codeAny_compStart_dict loop (T.self X.A 0 _ _ _ st4 loop)
  subst hce
  exact start
end
end FW
/-! rows of an action: tuples whose own object is known -/
namespace FW
open PySem PySem.Spec PyProof.Rows L2
section
variable {X : Cx}
/-- tuple(xs) of a list, the new object known -/
def rTupZ (K : PySem.W.Frag) : List V → Hp → VK → Prop := fun xs H Q => ∃ p ys, xs = [.ref p] ∧ SqL K H p ys ∧ ∀ (l : Addr) (o : Obj), o.cls = .type "tuple" → o.dict = none → H l = none → Q (.ref l) (upd H l (.frz o (.tup ys)))
theorem call_tupZ : CallR X (.type "tuple") (rTupZ X.K) := by
  intro pins s σ H xs us Q I r h
  obtain ⟨p, ys, rfl, hq, q⟩ := h
  obtain ⟨u, rfl, rx⟩ := vals1 r
  cases rx
  obtain ⟨its, r', pl, hz⟩ := I.list hq
  have hlen := r'.length
  refine call_tuple_list pl.isList (fun h' kp => ?_) (by simp only [List.size_toArray] <;> omega)
  have I1 : L2.Inv X pins σ H { s with heap := h' } := I.kept (t' := s.toks) kp
  have hp := Heap.get?_push_size h' (o := { cls := .type "tuple", data := .seq its.toArray }) rfl
  have I2 : L2.Inv X pins σ (upd H h'.objs.size (.frz { cls := .type "tuple", data := .seq its.toArray } (.tup ys))) { s with heap := h'.push { cls := .type "tuple", data := .seq its.toArray } } :=
    I1.laid (t' := s.toks) (fun b o e => Heap.get?_push_of_some _ e) (Nat.le_refl _) ⟨hp, hz, its, r', _, hp, rfl, _, rfl⟩
  exact ⟨.ref h'.objs.size, _, I2, rfl, q _ _ rfl rfl (I1.hok.fresh (Nat.le_refl _))⟩
/-- row.index(n) -/
def tTupIx (to t : TE) : TE := fun σ H Q => to σ H fun x H1 => ∃ (p : Addr) (o : Obj) (ns : List Int), x = .ref p ∧ H1 p = some (.frz o (.tup (ns.map V.int))) ∧ o.cls = .type "tuple" ∧ o.dict = none ∧
  t σ H1 fun y H2 => ∃ (n : Int) (j : Nat), y = .int n ∧ H2 p = some (.frz o (.tup (ns.map V.int))) ∧ ns[j]? = some n ∧ (∀ m : Nat, m < j → ns[m]? ≠ some n) ∧ Q (.int (j : Nat)) H2
theorem pe_tupIx {o e : Expr} {to t : TE} {apos cpos : Pos} (ho : PE X o to) (ha : PE X e t)
    (hbase : attributeBase o "index" X.env (eval o X.env) = eval o X.env := by rfl)
    (hfew : ((backTo cpos (starEach [e] X.env)).all (fun x => !x.1) && (backToKw cpos (keywordEach [] X.env)).all (fun x => x.1.isSome)
      && decide ([e].length + ([] : List Keyword).length + (if ([] : List Keyword).isEmpty then 0 else 1) < 30)) = true := by rfl)
    (hline : (apos.endLine == cpos.line) = true := by rfl) (hs : starEach [e] X.env = (false, eval e X.env) :: starEach [] X.env := by rfl) (hplain : (backTo cpos (starEach [] X.env)).any (·.1) = false := by rfl) :
    PE X (.Call (.Attribute o "index" apos) [e] [] cpos) (tTupIx to t) := by
  refine ⟨fun pins s σ H Q I h => ?_⟩
  refine wpAny_Call_method_late hbase hfew hline rfl (thn (ho.run pins s σ H _ I h) fun v s1 ⟨x, H1, I1, r1, p, ob, ns, ex, hp, hc, hd, q1⟩ => ?_)
  subst ex
  cases r1
  have hob := (I1.hok p _ hp).1
  refine ⟨"tuple", "tuple.index", PySem.F.plainAttrs_tuple, PySem.F.slot_tuple_index, PySem.F.type_tuple_index, ⟨ob, hob, hc⟩, fun a e => by cases e; exact ⟨ob, hob, hd⟩, ?_⟩
  have hA := (pa_cons (es := []) ha pa_nil hs).run cpos pins s1 σ H1 (fun vs H2 => ∃ (n : Int) (j : Nat), vs = [.int n] ∧ H2 p = some (.frz ob (.tup (ns.map V.int))) ∧ ns[j]? = some n ∧ (∀ m : Nat, m < j → ns[m]? ≠ some n) ∧ Q (.int (j : Nat)) H2) I1 (by
    show t σ H1 _
    have mono : ∀ {te : TE} {Q1 Q2 : VK}, (∀ v H, Q1 v H → Q2 v H) → True := fun _ => trivial
    exact cast (congrArg (t σ H1) (funext fun y => funext fun H2 => propext ⟨fun ⟨n, j, a, b⟩ => ⟨n, j, by rw [a], b⟩, fun ⟨n, j, a, b⟩ => ⟨n, j, List.head_eq_of_cons_eq a, b⟩⟩)) q1)
  rw [hs] at hA ⊢
  refine Calls.callWith_builtin (by show (false || (backTo cpos (starEach [] X.env)).any (·.1)) = false; rw [hplain] <;> rfl) (Calls.evalArgs_plain ?_)
  exact thn hA fun us s2 ⟨vs, H2, I2, r2, n, j, ev, hp2, h1, h2, q2⟩ => by
    subst ev
    exact mt_tupIxI pins s2 σ H2 (.ref p) [.int n] (.ref p) us Q I2 rfl r2 ⟨p, ns, n, j, rfl, rfl, .inl (.inr ⟨ob, hp2⟩), h1, h2, q2⟩
end
end FW
/-! name = a dict comprehension -/
namespace FW
open PySem PySem.Spec PyProof.Rows L2
section
variable {X : Cx}
theorem dcT_core {pins : List (Addr × Obj)} {s : Shared} {σ : L2.St} {H : Hp} {Q : VK} {pos' : Pos} {use : Option (Value → Sem Unit)} {Qf : Value → Shared → Prop} {kx vx tg iter : Expr} {ifs : List Expr} {scope : Scope} {own : List (Str × Nat)} {pos : Pos} {wi : TI} {g : TG} {tt : TT} {tk tv : TE} (hc : X.calm = true) (hu : X.A.units < cLine) (hN : X.N.Nodup) (hi : PI X tg iter wi) (ok : BlkOk X.N X.env.scope scope own)
    (hg : ∀ (s : Shared) (H : Hp) (C : Addr) (cl : List (Str × Addr)) (fp : List Addr), PG (X.blk s H scope (compEnvC scope cl C X.env) fp) tg g)
    (ht : ∀ (s : Shared) (H : Hp) (C : Addr) (cl : List (Str × Addr)) (fp : List Addr), PTs (X.blk s H scope (compEnvC scope cl C X.env) fp) ifs tt)
    (hk : ∀ (s : Shared) (H : Hp) (C : Addr) (cl : List (Str × Addr)) (fp : List Addr), PE (X.blk s H scope (compEnvC scope cl C X.env) fp) kx tk)
    (he : ∀ (s : Shared) (H : Hp) (C : Addr) (cl : List (Str × Addr)) (fp : List Addr), PE (X.blk s H scope (compEnvC scope cl C X.env) fp) vx tv) (hs : ∀ x, foldedSetIterable iter X.env x = pure x) (I : L2.Inv X pins σ H s) (h : tDcT wi g tt tk tv (own.map (·.2)) σ H Q)
    (hRR : ∀ D C s' m H', L2.Inv X pins σ H' s' → Q (.ref D) H' → s'.heap.Ns C m → FpOk X pins H' C → compPost (model X.prog X.w) X.A X.xe use Qf (.ref D) C (.ok .next) s') :
    wpAny (model X.prog X.w) X.A (comprehension (.DictComp kx vx [⟨tg, iter, ifs, 0⟩] scope pos) scope X.env pos' newDict false (eval iter X.env) use) Qf X.xe s := by
  have closed : ∀ y ∈ scope.names, y.2 = .free → ∃ c, X.env.cells.lookup y.1 = some c := fun y hy e =>
    (ok.free y hy e).elim (fun k => I.ok.has _ (.inl k)) fun k => I.ok.has _ (.inr k)
  refine wpAny_comprehension_free (use := use) rfl hs (closure_ok closed) ok.kind (fun y hy e => by rw [ok.uniq y hy, e])
    (thn (hi.run pins s σ H _ I h) fun xv s1 hx => thn hx fun itv s2 ⟨it, fp, tn, J, H2, e, I2, T, st2, f2, q⟩ => ?_)
  subst e
  refine wpAny_newObj_type (newEnv_comp ?_)
  generalize hD : s2.heap.objs.size = D
  have nD : H2 D = none := I2.hok.fresh (Nat.le_of_eq hD)
  obtain ⟨W, ⟨m0, w0⟩, turn⟩ := q D nD
  generalize hs3 : ({ s2 with heap := s2.heap.push { cls := .type "dict", data := .dict #[] } } : Shared) = s3
  have I3 : L2.Inv X pins σ (upd H2 D (.dT [])) s3 := by
    subst hs3 hD
    exact I2.laid (t' := s2.toks) (fun b o z => Heap.get?_push_of_some _ z) (Nat.le_refl _) (dt_empty s2.heap I2.big)
  have h3 : s3.heap = s2.heap.push { cls := .type "dict", data := .dict #[] } := by rw [← hs3]
  have f3 : ∀ b ∈ fp, FpOk X pins (upd H2 D (.dT [])) b ∧ b < s3.heap.objs.size := fun b hb => by
    obtain ⟨o, z, _⟩ := T.obj _ _ st2 b hb
    have hlt := Heap.lt_size z
    refine ⟨⟨?_, (f2 b hb).2⟩, by rw [h3, Heap.size_push]; exact Nat.lt_succ_of_lt hlt⟩
    rw [upd_ne (by rw [← hD]; exact Nat.ne_of_lt hlt)]
    exact (f2 b hb).1
  have I4 := block_start I3 ok hN f3
  generalize hcl : cellsFrom (s3.heap.objs.size + 1) scope.names (cloFrom X.env.cells scope.names []) = cl at I4 ⊢
  generalize hH3 : upd H2 D (.dT []) = H3 at I3 I4 w0 f3
  generalize hs4 : ({ s3 with heap := pushCells (s3.heap.push { cls := .type "dict", data := .dict #[] }) scope.names } : Shared) = s4 at I4
  have st4 : tn 0 s4.heap := T.keep _ _ _ st2 fun b _ o z => by
    rw [← hs4]
    exact pushCells_keeps _ _ _ _ (Heap.get?_push_of_some _ (by rw [h3]; exact Heap.get?_push_of_some _ z))
  have pg := hg s3 H3 s3.heap.objs.size cl fp
  have pt := ht s3 H3 s3.heap.objs.size cl fp
  have pk := hk s3 H3 s3.heap.objs.size cl fp
  have pe := he s3 H3 s3.heap.objs.size cl fp
  have nfp : ∀ b ∈ fp, H3 b = none := fun b hb => (f3 b hb).1.1
  generalize hce : compEnvC scope cl s3.heap.objs.size X.env = ce at I4 pg pt pk pe
  have cL : ce.locals = s3.heap.objs.size := by subst hce; rfl
  have stat : ∀ {σ' : L2.St} {H' : Hp} {s' : Shared}, L2.Inv (X.blk s3 H3 scope ce fp) [] σ' H' s' → (∀ b ∈ fp, H' b = none) → ∀ b ∈ fp, FpOk (X.blk s3 H3 scope ce fp) [] H' b := fun {σ' H' s'} I' hn b hb =>
    ⟨hn b hb, (I'.ok.exf b hb).1, I'.ok.exfs b hb, .inl hb, fun x c z => (I'.ok.exf b hb).2 x c z, fun p hp => absurd (show p ∈ ([] : List (Addr × Obj)) ++ [] from hp) (by simp)⟩
  have loop : codeAny (model X.prog X.w) X.A (.compLoop (.DictComp kx vx [⟨tg, iter, ifs, 0⟩] scope pos) 0 (.ref it) (.ref D) ce) (compPost (model X.prog X.w) X.A X.xe use Qf (.ref D) s3.heap.objs.size) s4 := by
    refine compLoop_anyD (fun n s' => ∃ i H', L2.Inv (X.blk s3 H3 scope ce fp) [] (wipe σ (own.map (·.2))) H' s' ∧ tn i s'.heap ∧ (∀ b ∈ fp, H' b = none) ∧ W i n H') ?_ m0 ⟨0, H3, I4, st4, nfp, w0⟩
    rintro n s5 ⟨i, H5, I5, st5, n5, w5⟩
    rcases turn i n H5 w5 with ⟨stop, qq⟩ | ⟨go, Nx, hNx, step⟩
    · refine thnF (T.done (X.blk s3 H3 scope ce fp) rfl rfl rfl hc i [] s5 _ H5 (fun _ _ => False) I5 (stat I5 n5) st5 stop) fun r s6 ⟨hr, I6⟩ => ?_
      subst hr
      have I7 : L2.Inv X pins σ H5 s6 := I3.call' (ch := fp) I6.os I6.base I6.hok I6.bare fun b hb => ⟨(f3 b hb).1.2.2.2.1, (f3 b hb).1.2.1, (f3 b hb).1.2.2.2.2.1, (f3 b hb).1.2.2.2.2.2⟩
      have nC : H5 s3.heap.objs.size = none := by
        have z : H5 ce.locals = none := I6.free
        rwa [cL] at z
      obtain ⟨m, hn, _⟩ := I6.loc
      have hn : s6.heap.Ns ce.locals m := hn
      rw [cL] at hn
      exact hRR D s3.heap.objs.size s6 m H5 I7 qq hn (I3.fpOk (Nat.le_refl _) nC)
    · refine thnF (T.item (X.blk s3 H3 scope ce fp) rfl rfl rfl hc i [] s5 _ H5 (fun _ _ => False) I5 (stat I5 n5) st5 go) fun r s6 ⟨u, hr, h6⟩ => ?_
      subst hr
      refine thnF h6 fun _ s7 ⟨x, H7, I7, r7, y7, st7, n7⟩ => ?_
      have I7p := I7.pinned (stat I7 n7) (T.obj _ _ st7)
      refine thnF (pg.run _ s7 _ H7 x u _ I7p r7 (step x H7 y7)) fun _ s8 ⟨σ8, H8, I8, hw8, q8⟩ => ?_
      refine thnF (pt.run _ s8 σ8 H8 _ I8 q8) fun b s9 ⟨H9, I9, q9⟩ => ?_
      have fin : ∀ {s' : Shared} {H' : Hp}, L2.Inv (X.blk s3 H3 scope ce fp) ([] ++ pinsAt fp s7.heap) σ8 H' s' → Nx H' → ∃ m, m < n ∧ ∃ i H', L2.Inv (X.blk s3 H3 scope ce fp) [] (wipe σ (own.map (·.2))) H' s' ∧ tn i s'.heap ∧ (∀ b ∈ fp, H' b = none) ∧ W i m H' := fun {s' H'} I' nx => by
        obtain ⟨m', hm, w'⟩ := hNx H' nx
        have pin' : ∀ b ∈ fp, ∀ o, s7.heap.get? b = some o → s'.heap.get? b = some o ∧ H' b = none := fun b hb o z =>
          let y := I'.pin (b, o) (List.mem_append_right _ (List.mem_append_right _ (mem_pinsAt hb z)))
          ⟨y.1, y.2.1⟩
        refine ⟨m', hm, i + 1, H', (I'.unpinned (pins := [])).weak (by rw [← hw8, wipe_length]) (fun j v z => ?_), T.keep _ _ _ st7 fun b hb o z => (pin' b hb o z).1, fun b hb => ?_, w'⟩
        · rw [← hw8] at z
          exact (wipe_some z).1
        · obtain ⟨o, z, _⟩ := T.obj _ _ st7 b hb
          exact (pin' b hb o z).2
      cases b with
      | false => exact fin I9 q9
      | true =>
        refine thnF (pk.run _ s9 σ8 H9 _ I9 q9) fun z s10 ⟨yk, H10, I10, r10, q10⟩ => ?_
        refine thnF (pe.run _ s10 σ8 H10 _ I10 q10) fun z2 s11 ⟨yv, H11, I11, r11, kvs, k, c, ek, hc11, hD11, hz11, nx⟩ => ?_
        subst ek
        exact put_tup (X := X.blk s3 H3 scope ce fp) hu I11 hD11 hc11 hz11 r10 r11 fun s12 I12 => fin I12 nx
  have start := codeAny_compStart_dict loop (T.self X.A 0 _ _ _ st4 loop)
  subst hce
  exact start

theorem ps_setDcT {i : Nat} {y : Str} {py : Pos} {kx vx tg iter : Expr} {ifs : List Expr} {scope : Scope} {own : List (Str × Nat)} {pos spos : Pos} {wi : TI} {g : TG} {tt : TT} {tk tv : TE} (hc : X.calm = true) (hu : X.A.units < cLine) (hN : X.N.Nodup) (hy : X.N[i]? = some y) (hyl : X.env.scope.names.lookup y = some .local)
    (hsw : swapsWith (.DictComp kx vx [⟨tg, iter, ifs, 0⟩] scope pos) (some (.Name y py)) spos.line X.env = pure true) (hi : PI X tg iter wi) (ok : BlkOk X.N X.env.scope scope own)
    (hg : ∀ (s : Shared) (H : Hp) (C : Addr) (cl : List (Str × Addr)) (fp : List Addr), PG (X.blk s H scope (compEnvC scope cl C X.env) fp) tg g)
    (ht : ∀ (s : Shared) (H : Hp) (C : Addr) (cl : List (Str × Addr)) (fp : List Addr), PTs (X.blk s H scope (compEnvC scope cl C X.env) fp) ifs tt)
    (hk : ∀ (s : Shared) (H : Hp) (C : Addr) (cl : List (Str × Addr)) (fp : List Addr), PE (X.blk s H scope (compEnvC scope cl C X.env) fp) kx tk)
    (he : ∀ (s : Shared) (H : Hp) (C : Addr) (cl : List (Str × Addr)) (fp : List Addr), PE (X.blk s H scope (compEnvC scope cl C X.env) fp) vx tv) (hs : ∀ x, foldedSetIterable iter X.env x = pure x := by intro _; rfl) :
    PS X (.Assign [.Name y py] (.DictComp kx vx [⟨tg, iter, ifs, 0⟩] scope pos) spos) (tAsg (tDcT wi g tt tk tv (own.map (·.2))) (gName i)) := by
  refine ⟨fun pins s σ H D I h => ?_⟩
  rw [exec_Assign_Name_used _ _ _ _ hsw]
  refine wpAny_bind (wpAny_standAt (wpAny_bind ?_))
  show wpAny _ X.A (do let _ ← comprehension (.DictComp kx vx [⟨tg, iter, ifs, 0⟩] scope pos) scope X.env (firstIterPos [⟨tg, iter, ifs, 0⟩] pos) newDict false (eval iter X.env) (some (assign (.Name y py) X.env))) _ _ s
  have h : tDcT wi g tt tk tv (own.map (·.2)) σ H (fun x H1 => gName i x σ H1 D.nx) := h
  refine wpAny_bind (thn (dcT_core (Qf := fun _ s' => SP X pins D .next s') hc hu hN hi ok hg ht hk he hs I h fun L C s' m H' I' q hn f => ?_) fun _ s' hq => wpAny_pure (wpAny_pure hq))
  show wpAny _ _ (assign (.Name y py) X.env (.ref L)) _ _ _
  refine wpAny_assign_Name (store_ok2 (v := V.ref L) I' hN hy (.inl hyl) rfl (fun s2 I2 ⟨a, sb, ha⟩ => ?_) (.inr hyl))
  obtain ⟨f0, f1, f2, f3, f4, f5⟩ := f
  have haC : C ≠ a := by
    rcases ha with z | z
    · rw [z]; exact f1
    · exact fun e => f4 y a z e.symm
  refine ⟨m, hn.sameBut sb haC, fun h3 sb3 => ?_⟩
  exact ⟨_, H', I2.turned (t' := s2.toks) (fun b o hb e => (sb3.2 b hb).trans e) f0 f1 f3 f4 f5, q⟩

theorem ps_setDcK {i : Nat} {y : Str} {py : Pos} {kx vx tg iter : Expr} {ifs : List Expr} {scope : Scope} {own : List (Str × Nat)} {pos spos : Pos} {wi : TI} {g : TG} {tt : TT} {tk tv : TE} (hc : X.calm = true) (hN : X.N.Nodup) (hy : X.N[i]? = some y) (hyl : X.env.scope.names.lookup y = some .local)
    (hsw : swapsWith (.DictComp kx vx [⟨tg, iter, ifs, 0⟩] scope pos) (some (.Name y py)) spos.line X.env = pure true) (hi : PI X tg iter wi) (ok : BlkOk X.N X.env.scope scope own)
    (hg : ∀ (s : Shared) (H : Hp) (C : Addr) (cl : List (Str × Addr)) (fp : List Addr), PG (X.blk s H scope (compEnvC scope cl C X.env) fp) tg g)
    (ht : ∀ (s : Shared) (H : Hp) (C : Addr) (cl : List (Str × Addr)) (fp : List Addr), PTs (X.blk s H scope (compEnvC scope cl C X.env) fp) ifs tt)
    (hk : ∀ (s : Shared) (H : Hp) (C : Addr) (cl : List (Str × Addr)) (fp : List Addr), PE (X.blk s H scope (compEnvC scope cl C X.env) fp) kx tk)
    (he : ∀ (s : Shared) (H : Hp) (C : Addr) (cl : List (Str × Addr)) (fp : List Addr), PE (X.blk s H scope (compEnvC scope cl C X.env) fp) vx tv) (hs : ∀ x, foldedSetIterable iter X.env x = pure x := by intro _; rfl) :
    PS X (.Assign [.Name y py] (.DictComp kx vx [⟨tg, iter, ifs, 0⟩] scope pos) spos) (tAsg (tDc wi g tt tk tv (own.map (·.2))) (gName i)) := by
  refine ⟨fun pins s σ H D I h => ?_⟩
  rw [exec_Assign_Name_used _ _ _ _ hsw]
  refine wpAny_bind (wpAny_standAt (wpAny_bind ?_))
  show wpAny _ X.A (do let _ ← comprehension (.DictComp kx vx [⟨tg, iter, ifs, 0⟩] scope pos) scope X.env (firstIterPos [⟨tg, iter, ifs, 0⟩] pos) newDict false (eval iter X.env) (some (assign (.Name y py) X.env))) _ _ s
  have h : tDc wi g tt tk tv (own.map (·.2)) σ H (fun x H1 => gName i x σ H1 D.nx) := h
  refine wpAny_bind (thn (dc_core (Qf := fun _ s' => SP X pins D .next s') hc hN I hi ok hg ht hk he hs h fun L C s' m H' I' q hn f => ?_) fun _ s' hq => wpAny_pure (wpAny_pure hq))
  show wpAny _ _ (assign (.Name y py) X.env (.ref L)) _ _ _
  refine wpAny_assign_Name (store_ok2 (v := V.ref L) I' hN hy (.inl hyl) rfl (fun s2 I2 ⟨a, sb, ha⟩ => ?_) (.inr hyl))
  obtain ⟨f0, f1, f2, f3, f4, f5⟩ := f
  have haC : C ≠ a := by
    rcases ha with z | z
    · rw [z]; exact f1
    · exact fun e => f4 y a z e.symm
  refine ⟨m, hn.sameBut sb haC, fun h3 sb3 => ?_⟩
  exact ⟨_, H', I2.turned (t' := s2.toks) (fun b o hb e => (sb3.2 b hb).trans e) f0 f1 f3 f4 f5, q⟩
end
end FW
/-! data in the heap; one calculus for expressions -/
namespace FW
open PySem L2
inductive D where
  | i (n : Int) | s (x : Str) | b (c : Bool) | n
  | t (ds : List D) | l (ds : List D) | r (ns : List Nat) | ty (n : String)
mutual
def Rp (H : Hp) : D → V → Prop
  | .i n, v => v = .int n
  | .s x, v => v = .str x
  | .b c, v => v = .bl c
  | .n, v => v = .non
  | .ty n, v => v = .ty n
  | .t ds, v => ∃ p vs, v = .ref p ∧ H p = some (.tup vs) ∧ Rps H ds vs
  | .l ds, v => ∃ p vs, v = .ref p ∧ H p = some (.lst vs) ∧ Rps H ds vs
  | .r ns, v => ∃ (p : Addr) (o : Obj), v = .ref p ∧ H p = some (.frz o (.tup ((ns.map Int.ofNat).map V.int))) ∧ o.cls = .type "tuple" ∧ o.dict = none
def Rps (H : Hp) : List D → List V → Prop
  | [], vs => vs = []
  | d :: ds, vs => ∃ v w, vs = v :: w ∧ Rp H d v ∧ Rps H ds w
end
mutual
theorem Rp.mono {H H' : Hp} (e : Same H H') : ∀ {d : D} {v : V}, Rp H d v → Rp H' d v
  | .i n, v, h => h
  | .s x, v, h => h
  | .b c, v, h => h
  | .n, v, h => h
  | .ty n, v, h => h
  | .t ds, v, h => by
    obtain ⟨p, vs, h1, h2, h3⟩ := (show ∃ p vs, v = .ref p ∧ H p = some (.tup vs) ∧ Rps H ds vs from h)
    exact ⟨p, vs, h1, e _ _ h2, Rps.mono e h3⟩
  | .l ds, v, h => by
    obtain ⟨p, vs, h1, h2, h3⟩ := (show ∃ p vs, v = .ref p ∧ H p = some (.lst vs) ∧ Rps H ds vs from h)
    exact ⟨p, vs, h1, e _ _ h2, Rps.mono e h3⟩
  | .r ns, v, h => by
    obtain ⟨p, o, h1, h2, h3⟩ := (show ∃ (p : Addr) (o : Obj), v = .ref p ∧ H p = some (.frz o (.tup ((ns.map Int.ofNat).map V.int))) ∧ o.cls = .type "tuple" ∧ o.dict = none from h)
    exact ⟨p, o, h1, e _ _ h2, h3⟩
theorem Rps.mono {H H' : Hp} (e : Same H H') : ∀ {ds : List D} {vs : List V}, Rps H ds vs → Rps H' ds vs
  | [], vs, h => h
  | d :: ds, vs, h => by
    obtain ⟨v, w, h1, h2, h3⟩ := (show ∃ v w, vs = v :: w ∧ Rp H d v ∧ Rps H ds w from h)
    exact ⟨v, w, h1, Rp.mono e h2, Rps.mono e h3⟩
end
theorem Rps.nil {H : Hp} : Rps H [] [] := rfl
theorem Rps.cons {H : Hp} {d : D} {ds : List D} {v : V} {vs : List V} (h : Rp H d v) (t : Rps H ds vs) : Rps H (d :: ds) (v :: vs) := ⟨v, vs, rfl, h, t⟩
theorem Rps.len {H : Hp} : ∀ {ds : List D} {vs : List V}, Rps H ds vs → vs.length = ds.length
  | [], _, h => by rw [show _ = [] from h] <;> rfl
  | d :: ds, _, ⟨v, w, h1, _, h3⟩ => by rw [h1, List.length_cons, List.length_cons, Rps.len h3]
theorem Rps.get {H : Hp} : ∀ {ds : List D} {vs : List V} {i : Nat} {d : D}, Rps H ds vs → ds[i]? = some d → ∃ v, vs[i]? = some v ∧ Rp H d v
  | [], _, i, d, _, h => by simp at h
  | e :: ds, _, 0, d, ⟨v, w, h1, h2, _⟩, h => by
    have : e = d := by simpa using h
    exact ⟨v, by rw [h1] <;> rfl, this ▸ h2⟩
  | e :: ds, _, i + 1, d, ⟨v, w, h1, _, h3⟩, h => by
    obtain ⟨u, q1, q2⟩ := Rps.get h3 (i := i) (by simpa using h)
    exact ⟨u, by rw [h1]; simpa using q1, q2⟩
theorem Rps.back {H : Hp} : ∀ {ds : List D} {vs : List V} {i : Nat} {v : V}, Rps H ds vs → vs[i]? = some v → ∃ d, ds[i]? = some d ∧ Rp H d v
  | [], vs, i, v, h, e => by rw [show vs = [] from h] at e; simp at e
  | d :: ds, _, 0, v, ⟨u, w, h1, h2, _⟩, e => by
    rw [h1] at e
    have : u = v := by simpa using e
    exact ⟨d, rfl, this ▸ h2⟩
  | d :: ds, _, i + 1, v, ⟨u, w, h1, _, h3⟩, e => by
    rw [h1] at e
    obtain ⟨c, q1, q2⟩ := Rps.back h3 (i := i) (by simpa using e)
    exact ⟨c, by simpa using q1, q2⟩
theorem Rps.app {H : Hp} : ∀ {ds es : List D} {vs us : List V}, Rps H ds vs → Rps H es us → Rps H (ds ++ es) (vs ++ us)
  | [], es, vs, us, h, k => by rw [show vs = [] from h]; exact k
  | d :: ds, es, _, us, ⟨v, w, h1, h2, h3⟩, k => by rw [h1]; exact ⟨v, w ++ us, rfl, h2, Rps.app h3 k⟩
theorem Rps.rev {H : Hp} : ∀ {ds : List D} {vs : List V}, Rps H ds vs → Rps H ds.reverse vs.reverse
  | [], vs, h => by rw [show vs = [] from h]; exact rfl
  | d :: ds, _, ⟨v, w, h1, h2, h3⟩ => by
    rw [h1, List.reverse_cons, List.reverse_cons]
    exact Rps.app (Rps.rev h3) ⟨v, [], rfl, h2, rfl⟩
theorem Rps.drop {H : Hp} : ∀ {ds : List D} {vs : List V} (n : Nat), Rps H ds vs → Rps H (ds.drop n) (vs.drop n)
  | ds, vs, 0, h => h
  | [], vs, n + 1, h => by rw [show vs = [] from h]; exact rfl
  | d :: ds, _, n + 1, ⟨v, w, h1, h2, h3⟩ => by rw [h1]; exact Rps.drop n h3
theorem Rps.take {H : Hp} : ∀ {ds : List D} {vs : List V} (n : Nat), Rps H ds vs → Rps H (ds.take n) (vs.take n)
  | ds, vs, 0, h => rfl
  | [], vs, n + 1, h => by rw [show vs = [] from h]; exact rfl
  | d :: ds, _, n + 1, ⟨v, w, h1, h2, h3⟩ => by rw [h1]; exact ⟨v, _, rfl, h2, Rps.take n h3⟩
theorem Rps.set {H : Hp} {d : D} {v : V} (r : Rp H d v) : ∀ {ds : List D} {vs : List V} (n : Nat), Rps H ds vs → Rps H (ds.set n d) (vs.set n v)
  | [], vs, n, h => by rw [show vs = [] from h]; exact rfl
  | e :: ds, _, 0, ⟨u, w, h1, h2, h3⟩ => by rw [h1]; exact ⟨v, w, rfl, r, h3⟩
  | e :: ds, _, n + 1, ⟨u, w, h1, h2, h3⟩ => by rw [h1]; exact ⟨u, _, rfl, h2, Rps.set r n h3⟩
theorem Rps.ints {H : Hp} : ∀ {ns : List Int} {vs : List V}, Rps H (ns.map D.i) vs → vs = ns.map V.int
  | [], vs, h => h
  | n :: ns, vs, ⟨v, w, h1, h2, h3⟩ => by rw [h1, show v = .int n from h2, Rps.ints h3] <;> rfl
theorem Rps.strs {H : Hp} : ∀ {ns : List Str} {vs : List V}, Rps H (ns.map D.s) vs → vs = ns.map V.str
  | [], vs, h => h
  | n :: ns, vs, ⟨v, w, h1, h2, h3⟩ => by rw [h1, show v = .str n from h2, Rps.strs h3] <;> rfl
theorem Rps.bools {H : Hp} : ∀ {ns : List Bool} {vs : List V}, Rps H (ns.map D.b) vs → vs = ns.map V.bl
  | [], vs, h => h
  | n :: ns, vs, ⟨v, w, h1, h2, h3⟩ => by rw [h1, show v = .bl n from h2, Rps.bools h3] <;> rfl
theorem rps_ints {H : Hp} : ∀ ns : List Int, Rps H (ns.map D.i) (ns.map V.int)
  | [] => rfl
  | n :: ns => ⟨.int n, _, rfl, rfl, rps_ints ns⟩
theorem rps_strs {H : Hp} : ∀ ns : List Str, Rps H (ns.map D.s) (ns.map V.str)
  | [] => rfl
  | n :: ns => ⟨.str n, _, rfl, rfl, rps_strs ns⟩
theorem rps_bools {H : Hp} : ∀ ns : List Bool, Rps H (ns.map D.b) (ns.map V.bl)
  | [] => rfl
  | n :: ns => ⟨.bl n, _, rfl, rfl, rps_bools ns⟩

theorem same_new {H : Hp} {p : Addr} {o : HO} (h : H p = none) : Same H (upd H p o) := fun a u e => by
  rw [upd_ne (ne_of_none e h)]
  exact e
/-- an object that H does not know may change -/
theorem Same.mut {H H' : Hp} {p : Addr} {o : HO} (e : Same H H') (h : H p = none) : Same H (upd H' p o) := fun a u ha => by
  rw [upd_ne (ne_of_none ha h)]
  exact e a u ha
theorem sz5 {n : Nat} (h : n ≤ 100000) : n ≤ sizeLine := Nat.le_trans h (by decide)
theorem sz5' {n : Nat} (h : n < 100000) : n < sizeLine := Nat.lt_of_lt_of_le h (by decide)

/-! ### readings at large -/
def wE (X : Cx) (e : Expr) : TE := fun σ H Q => ∃ t, PE X e t ∧ t σ H Q
def wT (X : Cx) (e : Expr) : TT := fun σ H Q => ∃ t, PT X e t ∧ t σ H Q
def wA (X : Cx) (es : List Expr) : TA := fun σ H Q => ∃ t, PA X es t ∧ t σ H Q
def wSs (X : Cx) (sts : List Stmt) : TS := fun D σ H => ∃ t, PSs X sts t ∧ t D σ H
section
variable {X : Cx} {e e1 e2 a b : Expr} {es : List Expr} {sts rest : List Stmt} {σ : L2.St} {H : Hp} {d d1 d2 : D} {ds : List D} {pos : Pos}
theorem wE_ok : PE X e (wE X e) := ⟨fun pins s σ H Q I ⟨t, h, q⟩ => h.run pins s σ H Q I q⟩
theorem wT_ok : PT X e (wT X e) := ⟨fun pins s σ H Q I ⟨t, h, q⟩ => h.run pins s σ H Q I q⟩
theorem wA_ok : PA X es (wA X es) := ⟨fun pos pins s σ H Q I ⟨t, h, q⟩ => h.run pos pins s σ H Q I q⟩
theorem wSs_ok : PSs X sts (wSs X sts) := ⟨fun pins s σ H D I ⟨t, h, q⟩ => h.run pins s σ H D I q⟩
/-- the expression gives the data d and leaves what is known -/
def JE (X : Cx) (e : Expr) (σ : L2.St) (H : Hp) (d : D) : Prop := ∀ H1, Same H H1 → ∀ Q : VK, (∀ v H2, Same H1 H2 → Rp H2 d v → Q v H2) → wE X e σ H1 Q
def JT (X : Cx) (e : Expr) (σ : L2.St) (H : Hp) (c : Bool) : Prop := ∀ H1, Same H H1 → ∀ Q : Bool → Hp → Prop, (∀ H2, Same H1 H2 → Q c H2) → wT X e σ H1 Q
def JA (X : Cx) (es : List Expr) (σ : L2.St) (H : Hp) (ds : List D) : Prop := ∀ H1, Same H H1 → ∀ Q : List V → Hp → Prop, (∀ vs H2, Same H1 H2 → Rps H2 ds vs → Q vs H2) → wA X es σ H1 Q
/-- .. a new list -/
def JF (X : Cx) (e : Expr) (σ : L2.St) (H : Hp) (ds : List D) : Prop := ∀ H1, Same H H1 → ∀ Q : VK, (∀ p vs H2, H1 p = none → Same H1 H2 → H2 p = some (.lst vs) → Rps H2 ds vs → Q (.ref p) H2) → wE X e σ H1 Q
theorem JF.je (h : JF X e σ H ds) : JE X e σ H (.l ds) := fun H1 e1 Q k => h H1 e1 Q fun p vs H2 _ e2 h1 h2 => k _ _ e2 ⟨p, vs, rfl, h1, h2⟩
theorem JE.mono {H' : Hp} (h : JE X e σ H d) (s : Same H H') : JE X e σ H' d := fun H1 e1 => h H1 (s.trans e1)
theorem JT.mono {H' : Hp} {c : Bool} (h : JT X e σ H c) (s : Same H H') : JT X e σ H' c := fun H1 e1 => h H1 (s.trans e1)
theorem JF.mono {H' : Hp} (h : JF X e σ H ds) (s : Same H H') : JF X e σ H' ds := fun H1 e1 => h H1 (s.trans e1)
theorem JE.go (h : JE X e σ H d) {Q : VK} (k : ∀ v H2, Same H H2 → Rp H2 d v → Q v H2) : wE X e σ H Q := h H (Same.refl _) Q k
theorem JF.go (h : JF X e σ H ds) {Q : VK} (k : ∀ p vs H2, H p = none → Same H H2 → H2 p = some (.lst vs) → Rps H2 ds vs → Q (.ref p) H2) : wE X e σ H Q := h H (Same.refl _) Q k
theorem JT.go {c : Bool} (h : JT X e σ H c) {Q : Bool → Hp → Prop} (k : ∀ H2, Same H H2 → Q c H2) : wT X e σ H Q := h H (Same.refl _) Q k
theorem JE.of {d' : D} (h : JE X e σ H d) (e' : d = d') : JE X e σ H d' := e' ▸ h
theorem JT.of {c c' : Bool} (h : JT X e σ H c) (e' : c = c') : JT X e σ H c' := e' ▸ h
/-- by a term of rules -/
theorem wE_by {t : TE} {Q : VK} (p : PE X e t) (h : t σ H Q) : wE X e σ H Q := ⟨t, p, h⟩
theorem je_by {t : TE} (p : PE X e t) (h : ∀ H1, Same H H1 → ∀ Q : VK, (∀ v H2, Same H1 H2 → Rp H2 d v → Q v H2) → t σ H1 Q) : JE X e σ H d := fun H1 e1 Q k => ⟨t, p, h H1 e1 Q k⟩

/-! ### names, constants -/
theorem je_var (i : Nat) {x : Str} {v : V} (hs : σ[i]? = some (some v) := by rfl) (r : Rp H d v := by assumption) (hN : X.N[i]? = some x := by rfl) (hv : Vis X.env.scope x := by first | exact Or.inl rfl | exact Or.inr (Or.inl rfl) | exact Or.inr (Or.inr rfl)) (hd : (x == ("__debug__" : Str)) = false := by decide)
    (hcd : (x == ("__classdict__" : Str)) = false := by decide) : JE X (.Name x pos) σ H d :=
  je_by (pe_var hN hv hd hcd) fun H1 e1 Q k => ⟨v, hs, k _ _ (Same.refl _) (r.mono e1)⟩
theorem je_int {i : Int} {j : Nat} : JE X (.Constant (.int i) j pos) σ H (.i i) := je_by pe_int fun H1 e1 Q k => k _ _ (Same.refl _) rfl
theorem je_str {x : Str} {j : Nat} : JE X (.Constant (.str x) j pos) σ H (.s x) := je_by pe_str fun H1 e1 Q k => k _ _ (Same.refl _) rfl
theorem je_bl {c : Bool} {j : Nat} : JE X (.Constant (.bool c) j pos) σ H (.b c) := je_by pe_bl fun H1 e1 Q k => k _ _ (Same.refl _) rfl
theorem je_non {j : Nat} : JE X (.Constant .none j pos) σ H .n := je_by pe_non fun H1 e1 Q k => k _ _ (Same.refl _) rfl
theorem je_globI {x : Str} {i : Int} {t : Tok} (hm : X.mg x = some (.int i t)) (hg : Gl X x := by rfl) (hdb : (x == ("__debug__" : Str)) = false := by decide) : JE X (.Name x pos) σ H (.i i) :=
  je_by (pe_glob (v := .int i) hg hm ⟨t, rfl⟩ hdb) fun H1 e1 Q k => k _ _ (Same.refl _) rfl
theorem je_globS {x : Str} {z : Str} {t : Tok} (hm : X.mg x = some (.str z t)) (hg : Gl X x := by rfl) (hdb : (x == ("__debug__" : Str)) = false := by decide) : JE X (.Name x pos) σ H (.s z) :=
  je_by (pe_glob (v := .str z) hg hm ⟨t, rfl⟩ hdb) fun H1 e1 Q k => k _ _ (Same.refl _) rfl

/-! ### arguments, displays -/
theorem ja_nil : JA X [] σ H [] := fun H1 _ Q k => ⟨_, pa_nil, k _ _ (Same.refl _) rfl⟩
theorem ja_cons (ha : JE X e σ H d) (hr : JA X es σ H ds) (hs : starEach (e :: es) X.env = (false, eval e X.env) :: starEach es X.env := by rfl) : JA X (e :: es) σ H (d :: ds) := fun H1 e1 Q k =>
  ⟨_, pa_cons wE_ok wA_ok hs, ha H1 e1 _ fun v H2 e2 r => hr H2 (e1.trans e2) _ fun vs H3 e3 rs => k _ _ (e2.trans e3) (.cons (r.mono e3) rs)⟩
theorem je_tup {k : Nat} (h : JA X es σ H ds) (hl : ds.length ≤ 100000 := by decide) : JE X (.Tuple es k pos) σ H (.t ds) :=
  je_by (pe_tup wA_ok) fun H1 e1 Q q => h H1 e1 _ fun vs H2 e2 r => ⟨sz5 (by rw [r.len]; exact hl), fun p hp => q _ _ (e2.trans (same_new hp)) ⟨p, vs, rfl, upd_same, r.mono (same_new hp)⟩⟩
theorem jf_lst (h : JA X es σ H ds) (hl : ds.length ≤ 100000 := by decide) : JF X (.List es pos) σ H ds := fun H1 e1 Q q =>
  ⟨_, pe_lst wA_ok, h H1 e1 _ fun vs H2 e2 r => ⟨sz5 (by rw [r.len]; exact hl), fun p hp => q p vs _ (Same.free e2 hp) (e2.trans (same_new hp)) upd_same (r.mono (same_new hp))⟩⟩

/-! ### operators -/
theorem je_op {op : Operator} {r : R2} (ho : OpR X (binaryOp op) r) (ha : JE X a σ H d1) (hb : JE X b σ H d2) (hr : ∀ H2 x y (Q : VK), Same H H2 → Rp H2 d1 x → Rp H2 d2 y → (∀ v H3, Same H2 H3 → Rp H3 d v → Q v H3) → r x y H2 Q) : JE X (.BinOp a op b pos) σ H d :=
  je_by (pe_op ho wE_ok wE_ok) fun H1 e1 Q k => ha H1 e1 _ fun x H2 e2 rx => hb H2 (e1.trans e2) _ fun y H3 e3 ry => hr H3 x y Q ((e1.trans e2).trans e3) (rx.mono e3) ry fun v H4 e4 rv => k v H4 ((e2.trans e3).trans e4) rv
theorem jf_op {op : Operator} {r : R2} (ho : OpR X (binaryOp op) r) (ha : JE X a σ H d1) (hb : JE X b σ H d2) (hr : ∀ H2 x y (Q : VK), Same H H2 → Rp H2 d1 x → Rp H2 d2 y → (∀ p vs H3, H2 p = none → Same H2 H3 → H3 p = some (.lst vs) → Rps H3 ds vs → Q (.ref p) H3) → r x y H2 Q) : JF X (.BinOp a op b pos) σ H ds := fun H1 e1 Q k =>
  ⟨_, pe_op ho wE_ok wE_ok, ha H1 e1 _ fun x H2 e2 rx => hb H2 (e1.trans e2) _ fun y H3 e3 ry => hr H3 x y Q ((e1.trans e2).trans e3) (rx.mono e3) ry fun p vs H4 hp e4 h1 h2 => k p vs H4 (Same.free (e2.trans e3) hp) ((e2.trans e3).trans e4) h1 h2⟩
theorem je_addI {i j : Int} (ha : JE X a σ H (.i i)) (hb : JE X b σ H (.i j)) : JE X (.BinOp a .Add b pos) σ H (.i (i + j)) :=
  je_op op_add ha hb fun H2 x y Q _ rx ry k => ⟨i, j, rx, ry, k _ _ (Same.refl _) rfl⟩
theorem je_subI {i j : Int} (ha : JE X a σ H (.i i)) (hb : JE X b σ H (.i j)) : JE X (.BinOp a .Sub b pos) σ H (.i (i - j)) :=
  je_op op_sub ha hb fun H2 x y Q _ rx ry k => ⟨i, j, rx, ry, k _ _ (Same.refl _) rfl⟩
theorem je_mulI {i j : Int} (ha : JE X a σ H (.i i)) (hb : JE X b σ H (.i j)) (hz : -(2 ^ 64) < i ∧ i < 2 ^ 64) : JE X (.BinOp a .Mult b pos) σ H (.i (i * j)) :=
  je_op op_mul ha hb fun H2 x y Q _ rx ry k => ⟨i, j, rx, ry, .inl hz, k _ _ (Same.refl _) rfl⟩
theorem je_addS {x y : Str} (ha : JE X a σ H (.s x)) (hb : JE X b σ H (.s y)) (hz : x.length + y.length ≤ 100000) : JE X (.BinOp a .Add b pos) σ H (.s (x ++ y)) :=
  je_op op_add_str ha hb fun H2 u v Q _ rx ry k => ⟨x, y, rx, ry, sz5 hz, k _ _ (Same.refl _) rfl⟩
/-- lists joined: a new list -/
theorem jf_cat {es fs : List D} (ha : JE X a σ H (.l es)) (hb : JE X b σ H (.l fs)) (hz : es.length + fs.length ≤ 100000) : JF X (.BinOp a .Add b pos) σ H (es ++ fs) :=
  jf_op op_cat ha hb fun H2 x y Q _ rx ry k => by
    obtain ⟨p, xs, rfl, hp, hx⟩ := rx
    obtain ⟨q, ys, rfl, hq, hy⟩ := ry
    refine ⟨p, q, xs, ys, rfl, rfl, hp, hq, sz5 (by rw [hx.len, hy.len]; exact hz), fun w hw => ?_⟩
    exact k w _ _ hw (same_new hw) upd_same ((hx.app hy).mono (same_new hw))

/-! ### comparisons -/
theorem je_cmp {op : CmpOp} {r : R2} (ho : OpR X (compareOp op) r) (hm : behindInMarks op b = false) (ha : JE X a σ H d1) (hb : JE X b σ H d2) (hr : ∀ H2 x y (Q : VK), Same H H2 → Rp H2 d1 x → Rp H2 d2 y → (∀ v H3, Same H2 H3 → Rp H3 d v → Q v H3) → r x y H2 Q) : JE X (.Compare a [op] [b] pos) σ H d :=
  je_by (pe_cmpR ho wE_ok wE_ok hm) fun H1 e1 Q k => ha H1 e1 _ fun x H2 e2 rx => hb H2 (e1.trans e2) _ fun y H3 e3 ry => hr H3 x y Q ((e1.trans e2).trans e3) (rx.mono e3) ry fun v H4 e4 rv => k v H4 ((e2.trans e3).trans e4) rv
theorem jt_cmp {op : CmpOp} {r : R2} {c : Bool} (ho : OpR X (compareOp op) r) (hm : behindInMarks op b = false) (ha : JE X a σ H d1) (hb : JE X b σ H d2) (hr : ∀ H2 x y (Q : VK), Same H H2 → Rp H2 d1 x → Rp H2 d2 y → (∀ v H3, Same H2 H3 → Rp H3 (.b c) v → Q v H3) → r x y H2 Q) : JT X (.Compare a [op] [b] pos) σ H c := fun H1 e1 Q k =>
  ⟨_, pt_cmpR ho wE_ok wE_ok hm, ha H1 e1 _ fun x H2 e2 rx => hb H2 (e1.trans e2) _ fun y H3 e3 ry => hr H3 x y _ ((e1.trans e2).trans e3) (rx.mono e3) ry fun v H4 e4 rv => ⟨c, rv, k H4 ((e2.trans e3).trans e4)⟩⟩
/-- a value that is a truth value, as a test -/
theorem JE.test {c : Bool} (h : JE X e σ H (.b c)) (he : ∀ whole, isTrue e X.env whole = (do let v ← whole; standAt e.pos; holding [v] (truthy v)) := by intro _; rfl) : JT X e σ H c := fun H1 e1 Q k =>
  ⟨_, pt_val wE_ok he, h H1 e1 _ fun v H2 e2 r => ⟨c, r, k H2 e2⟩⟩
/-- any value, as a test -/
theorem JE.truth {k : Bool} (h : JE X e σ H d) (hk : ∀ H2 v, Same H H2 → Rp H2 d v → TruV X.K v H2 k) (he : ∀ whole, isTrue e X.env whole = (do let v ← whole; standAt e.pos; holding [v] (truthy v)) := by intro _; rfl) : JT X e σ H k := fun H1 e1 Q q =>
  ⟨_, pt_truth wE_ok he, h H1 e1 _ fun v H2 e2 r => ⟨k, hk H2 v (e1.trans e2) r, q H2 e2⟩⟩
theorem jt_not {c : Bool} (h : JT X e σ H c) : JT X (.UnaryOp .Not e pos) σ H (!c) := fun H1 e1 Q k => ⟨_, pt_not wT_ok, h H1 e1 _ fun H2 e2 => k H2 e2⟩
/-- and, or as tests -/
def wW (X : Cx) (e : Expr) : TT := fun σ H Q => ∃ t, PW X e t ∧ t σ H Q
theorem wW_ok : PW X e (wW X e) := ⟨fun wh pins s σ H Q I ⟨t, h, q⟩ => h.run wh pins s σ H Q I q⟩
def JW (X : Cx) (e : Expr) (σ : L2.St) (H : Hp) (c : Bool) : Prop := ∀ H1, Same H H1 → ∀ Q : Bool → Hp → Prop, (∀ H2, Same H1 H2 → Q c H2) → wW X e σ H1 Q
theorem JW.t {c : Bool} (h : JW X e σ H c) : JT X e σ H c := fun H1 e1 Q k => ⟨_, wW_ok.pt, h H1 e1 Q k⟩
theorem jw_and1 {c : Bool} (h : JT X a σ H c) : JW X (.BoolOp .And [a] pos) σ H c := fun H1 e1 Q k => ⟨_, pw_and1 wT_ok, h H1 e1 Q k⟩
theorem jw_or1 {c : Bool} (h : JT X a σ H c) : JW X (.BoolOp .Or [a] pos) σ H c := fun H1 e1 Q k => ⟨_, pw_or1 wT_ok, h H1 e1 Q k⟩
theorem jw_and {c c' : Bool} {more : List Expr} (h : JT X a σ H c) (h' : c = true → JW X (.BoolOp .And (b :: more) pos) σ H c') : JW X (.BoolOp .And (a :: b :: more) pos) σ H (c && c') := fun H1 e1 Q k =>
  ⟨_, pw_and wT_ok wW_ok, h H1 e1 _ fun H2 e2 => by
    cases c with
    | true => exact h' rfl H2 (e1.trans e2) Q fun H3 e3 => k H3 (e2.trans e3)
    | false => exact k H2 e2⟩
theorem jw_or {c c' : Bool} {more : List Expr} (h : JT X a σ H c) (h' : c = false → JW X (.BoolOp .Or (b :: more) pos) σ H c') : JW X (.BoolOp .Or (a :: b :: more) pos) σ H (c || c') := fun H1 e1 Q k =>
  ⟨_, pw_or wT_ok wW_ok, h H1 e1 _ fun H2 e2 => by
    cases c with
    | true => exact k H2 e2
    | false => exact h' rfl H2 (e1.trans e2) Q fun H3 e3 => k H3 (e2.trans e3)⟩
/-- and, or, not as values (truth values) -/
theorem je_one {op : BoolOp} {c : Bool} (h : JE X a σ H (.b c)) : JE X (.BoolOp op [a] pos) σ H (.b c) := je_by (pe_one wE_ok) fun H1 e1 Q k => h H1 e1 Q k
theorem je_and {c c' : Bool} {more : List Expr} (h : JE X a σ H (.b c)) (h' : c = true → JE X (.BoolOp .And (b :: more) pos) σ H (.b c')) : JE X (.BoolOp .And (a :: b :: more) pos) σ H (.b (c && c')) :=
  je_by (pe_and wE_ok wE_ok) fun H1 e1 Q k => h H1 e1 _ fun v H2 e2 r => ⟨c, r, by
    cases c with
    | true => exact h' rfl H2 (e1.trans e2) Q fun v H3 e3 r3 => k v H3 (e2.trans e3) r3
    | false => exact k _ H2 e2 rfl⟩
theorem je_or {c c' : Bool} {more : List Expr} (h : JE X a σ H (.b c)) (h' : c = false → JE X (.BoolOp .Or (b :: more) pos) σ H (.b c')) : JE X (.BoolOp .Or (a :: b :: more) pos) σ H (.b (c || c')) :=
  je_by (pe_or wE_ok wE_ok) fun H1 e1 Q k => h H1 e1 _ fun v H2 e2 r => ⟨c, r, by
    cases c with
    | true => exact k _ H2 e2 rfl
    | false => exact h' rfl H2 (e1.trans e2) Q fun v H3 e3 r3 => k v H3 (e2.trans e3) r3⟩
theorem je_not {c : Bool} (h : JE X a σ H (.b c)) : JE X (.UnaryOp .Not a pos) σ H (.b (!c)) := je_by (pe_not wE_ok) fun H1 e1 Q k => h H1 e1 _ fun v H2 e2 r => ⟨c, r, k _ H2 e2 rfl⟩
theorem je_if {c : Expr} {k : Bool} (h : JT X c σ H k) (h1 : k = true → JE X a σ H d) (h2 : k = false → JE X b σ H d) : JE X (.IfExp c a b pos) σ H d :=
  je_by (pe_ifExp wT_ok wE_ok wE_ok) fun H1 e1 Q q => h H1 e1 _ fun H2 e2 => by
    cases k with
    | true => exact h1 rfl H2 (e1.trans e2) Q fun v H3 e3 r => q v H3 (e2.trans e3) r
    | false => exact h2 rfl H2 (e1.trans e2) Q fun v H3 e3 r => q v H3 (e2.trans e3) r
/-- ints, bools, texts compared -/
theorem jt_ltI {i j : Int} (ha : JE X a σ H (.i i)) (hb : JE X b σ H (.i j)) : JT X (.Compare a [.Lt] [b] pos) σ H (decide (i < j)) := jt_cmp op_lt (nomark _) ha hb fun _ _ _ _ _ rx ry k => ⟨i, j, rx, ry, k _ _ (Same.refl _) rfl⟩
theorem jt_leI {i j : Int} (ha : JE X a σ H (.i i)) (hb : JE X b σ H (.i j)) : JT X (.Compare a [.LtE] [b] pos) σ H (decide (i ≤ j)) := jt_cmp op_le (nomark _) ha hb fun _ _ _ _ _ rx ry k => ⟨i, j, rx, ry, k _ _ (Same.refl _) rfl⟩
theorem jt_gtI {i j : Int} (ha : JE X a σ H (.i i)) (hb : JE X b σ H (.i j)) : JT X (.Compare a [.Gt] [b] pos) σ H (decide (j < i)) := jt_cmp op_gt (nomark _) ha hb fun _ _ _ _ _ rx ry k => ⟨i, j, rx, ry, k _ _ (Same.refl _) rfl⟩
theorem je_leI {i j : Int} (ha : JE X a σ H (.i i)) (hb : JE X b σ H (.i j)) : JE X (.Compare a [.LtE] [b] pos) σ H (.b (decide (i ≤ j))) := je_cmp op_le (nomark _) ha hb fun _ _ _ _ _ rx ry k => ⟨i, j, rx, ry, k _ _ (Same.refl _) rfl⟩
theorem je_ltI {i j : Int} (ha : JE X a σ H (.i i)) (hb : JE X b σ H (.i j)) : JE X (.Compare a [.Lt] [b] pos) σ H (.b (decide (i < j))) := je_cmp op_lt (nomark _) ha hb fun _ _ _ _ _ rx ry k => ⟨i, j, rx, ry, k _ _ (Same.refl _) rfl⟩
theorem jt_eqI {i j : Int} (ha : JE X a σ H (.i i)) (hb : JE X b σ H (.i j)) : JT X (.Compare a [.Eq] [b] pos) σ H (decide (i = j)) := jt_cmp op_eq (nomark _) ha hb fun _ _ _ _ _ rx ry k => by
  rw [show _ = V.int i from rx, show _ = V.int j from ry]
  refine ⟨rfl, k _ _ (Same.refl _) ?_⟩
  show V.bl _ = V.bl _
  congr 1
  by_cases q : i = j
  · rw [q]; simp
  · rw [decide_eq_false q, decide_eq_false fun z => q (V.int.inj z)]
theorem jt_neI {i j : Int} (ha : JE X a σ H (.i i)) (hb : JE X b σ H (.i j)) : JT X (.Compare a [.NotEq] [b] pos) σ H (!decide (i = j)) := jt_cmp op_ne (nomark _) ha hb fun _ _ _ _ _ rx ry k => by
  rw [show _ = V.int i from rx, show _ = V.int j from ry]
  refine ⟨rfl, k _ _ (Same.refl _) ?_⟩
  show V.bl _ = V.bl _
  congr 2
  by_cases q : i = j
  · rw [q]; simp
  · rw [decide_eq_false q, decide_eq_false fun z => q (V.int.inj z)]
theorem je_eqI {i j : Int} (ha : JE X a σ H (.i i)) (hb : JE X b σ H (.i j)) : JE X (.Compare a [.Eq] [b] pos) σ H (.b (decide (i = j))) := je_cmp op_eq (nomark _) ha hb fun _ _ _ _ _ rx ry k => by
  rw [show _ = V.int i from rx, show _ = V.int j from ry]
  refine ⟨rfl, k _ _ (Same.refl _) ?_⟩
  show V.bl _ = V.bl _
  congr 1
  by_cases q : i = j
  · rw [q]; simp
  · rw [decide_eq_false q, decide_eq_false fun z => q (V.int.inj z)]
theorem dec_str (x y : Str) : decide (V.str x = V.str y) = decide (x = y) := by
  by_cases q : x = y
  · rw [q]; simp
  · rw [decide_eq_false q, decide_eq_false fun z => q (V.str.inj z)]
theorem dec_bl (x y : Bool) : decide (V.bl x = V.bl y) = decide (x = y) := by
  cases x <;> cases y <;> rfl
theorem jt_eqS {x y : Str} (ha : JE X a σ H (.s x)) (hb : JE X b σ H (.s y)) : JT X (.Compare a [.Eq] [b] pos) σ H (decide (x = y)) := jt_cmp op_eq (nomark _) ha hb fun _ _ _ _ _ rx ry k => by
  rw [show _ = V.str x from rx, show _ = V.str y from ry]
  exact ⟨rfl, k _ _ (Same.refl _) (congrArg V.bl (dec_str x y))⟩
theorem jt_neS {x y : Str} (ha : JE X a σ H (.s x)) (hb : JE X b σ H (.s y)) : JT X (.Compare a [.NotEq] [b] pos) σ H (!decide (x = y)) := jt_cmp op_ne (nomark _) ha hb fun _ _ _ _ _ rx ry k => by
  rw [show _ = V.str x from rx, show _ = V.str y from ry]
  exact ⟨rfl, k _ _ (Same.refl _) (congrArg (fun z => V.bl (!z)) (dec_str x y))⟩
theorem je_eqS {x y : Str} (ha : JE X a σ H (.s x)) (hb : JE X b σ H (.s y)) : JE X (.Compare a [.Eq] [b] pos) σ H (.b (decide (x = y))) := je_cmp op_eq (nomark _) ha hb fun _ _ _ _ _ rx ry k => by
  rw [show _ = V.str x from rx, show _ = V.str y from ry]
  exact ⟨rfl, k _ _ (Same.refl _) (congrArg V.bl (dec_str x y))⟩
theorem jt_neB {x y : Bool} (ha : JE X a σ H (.b x)) (hb : JE X b σ H (.b y)) : JT X (.Compare a [.NotEq] [b] pos) σ H (!decide (x = y)) := jt_cmp op_ne (nomark _) ha hb fun _ _ _ _ _ rx ry k => by
  rw [show _ = V.bl x from rx, show _ = V.bl y from ry]
  exact ⟨rfl, k _ _ (Same.refl _) (congrArg (fun z => V.bl (!z)) (dec_bl x y))⟩
theorem jt_eqB {x y : Bool} (ha : JE X a σ H (.b x)) (hb : JE X b σ H (.b y)) : JT X (.Compare a [.Eq] [b] pos) σ H (decide (x = y)) := jt_cmp op_eq (nomark _) ha hb fun _ _ _ _ _ rx ry k => by
  rw [show _ = V.bl x from rx, show _ = V.bl y from ry]
  exact ⟨rfl, k _ _ (Same.refl _) (congrArg V.bl (dec_bl x y))⟩
/-- None or not -/
def isN : D → Bool
  | .n => true
  | _ => false
theorem rp_isN {H : Hp} {d : D} {v : V} (r : Rp H d v) : decide (v = .non) = isN d := by
  cases d with
  | n => rw [show v = .non from r] <;> rfl
  | i n => rw [show v = .int n from r] <;> rfl
  | s n => rw [show v = .str n from r] <;> rfl
  | b n => rw [show v = .bl n from r] <;> rfl
  | ty n => rw [show v = .ty n from r] <;> rfl
  | t ds => obtain ⟨p, vs, e, _⟩ := r; rw [e] <;> rfl
  | l ds => obtain ⟨p, vs, e, _⟩ := r; rw [e] <;> rfl
  | r ds => obtain ⟨p, o, e, _⟩ := r; rw [e] <;> rfl
theorem jt_isN {j : Nat} {p2 : Pos} (ha : JE X a σ H d) : JT X (.Compare a [.Is] [.Constant .none j p2] pos) σ H (isN d) := jt_cmp op_isN (nomark _) ha je_non fun _ x _ _ _ rx ry k => ⟨ry, k _ _ (Same.refl _) (congrArg V.bl (rp_isN rx))⟩
theorem jt_notN {j : Nat} {p2 : Pos} (ha : JE X a σ H d) : JT X (.Compare a [.IsNot] [.Constant .none j p2] pos) σ H (!isN d) := jt_cmp op_notN (nomark _) ha je_non fun _ x _ _ _ rx ry k => ⟨ry, k _ _ (Same.refl _) (congrArg (fun z => V.bl (!z)) (rp_isN rx))⟩
end
end FW
/-! the calculus, further: subscripts, calls, comprehensions, statements -/
namespace FW
open PySem L2
section
variable {X : Cx} {e e1 e2 a b o : Expr} {es : List Expr} {sts rest : List Stmt} {σ : L2.St} {H : Hp} {d d1 d2 : D} {ds : List D} {pos : Pos}
/-! ### subscripts -/
theorem at_rps {H : Hp} {vs : List V} {i : Int} {d : D} (r : Rps H ds vs) (h : atI ds i = some d) : ∃ v, atI vs i = some v ∧ Rp H d v := by
  unfold atI at h ⊢
  rw [r.len]
  cases e : ixN ds.length i with
  | none => rw [e] at h; cases h
  | some j =>
    rw [e] at h
    exact r.get h
theorem je_ixT {i : Int} (ha : JE X a σ H (.t ds)) (hb : JE X b σ H (.i i)) (hd : atI ds i = some d) (hs : PlainIx b := by exact fun _ _ => rfl) : JE X (.Subscript a b pos) σ H d :=
  je_by (pe_ix ix_tup wE_ok wE_ok hs) fun H1 e1 Q k => ha H1 e1 _ fun x H2 e2 ⟨p, vs, ex, hp, hv⟩ => hb H2 (e1.trans e2) _ fun y H3 e3 ry => by
    obtain ⟨v, q1, q2⟩ := at_rps hv hd
    exact ⟨p, vs, i, v, ex, ry, SqT.of (e3 _ _ hp), q1, k v H3 (e2.trans e3) (q2.mono e3)⟩
theorem je_ixL {i : Int} (ha : JE X a σ H (.l ds)) (hb : JE X b σ H (.i i)) (hd : atI ds i = some d) (hs : PlainIx b := by exact fun _ _ => rfl) : JE X (.Subscript a b pos) σ H d :=
  je_by (pe_ix ix_list wE_ok wE_ok hs) fun H1 e1 Q k => ha H1 e1 _ fun x H2 e2 ⟨p, vs, ex, hp, hv⟩ => hb H2 (e1.trans e2) _ fun y H3 e3 ry => by
    obtain ⟨v, q1, q2⟩ := at_rps hv hd
    exact ⟨p, vs, i, v, ex, ry, SqL.of (e3 _ _ hp), q1, k v H3 (e2.trans e3) (q2.mono e3)⟩
theorem je_ixS {i : Int} {z : Str} {c : Nat} (ha : JE X a σ H (.s z)) (hb : JE X b σ H (.i i)) (hz : z.length ≤ 100000) (hd : atI z.cps.toList i = some c) (hs : PlainIx b := by exact fun _ _ => rfl) : JE X (.Subscript a b pos) σ H (.s ⟨#[c]⟩) :=
  je_by (pe_ix ix_str wE_ok wE_ok hs) fun H1 e1 Q k => ha H1 e1 _ fun x H2 e2 rx => hb H2 (e1.trans e2) _ fun y H3 e3 ry => ⟨z, i, c, rx, ry, sz5 hz, hd, k _ H3 (e2.trans e3) rfl⟩
/-- a row's place -/
theorem je_ixR {ns : List Nat} {j m : Nat} (ha : JE X a σ H (.r ns)) (hb : JE X b σ H (.i (j : Int))) (hd : ns[j]? = some m) (hs : PlainIx b := by exact fun _ _ => rfl) : JE X (.Subscript a b pos) σ H (.i (m : Int)) :=
  je_by (pe_ix ix_tup wE_ok wE_ok hs) fun H1 e1 Q k => ha H1 e1 _ fun x H2 e2 ⟨p, ob, ex, hp, hc, hdi⟩ => hb H2 (e1.trans e2) _ fun y H3 e3 ry => by
    refine ⟨p, _, j, .int m, ex, ry, .inl (.inr ⟨ob, e3 _ _ hp⟩), atI_nat ?_, k _ H3 (e2.trans e3) rfl⟩
    rw [List.getElem?_map, List.getElem?_map, hd] <;> rfl
theorem jf_fromL {lo : Expr} {p2 : Pos} {i : Int} {n : Nat} (ha : JE X a σ H (.l ds)) (hl : JE X lo σ H (.i i)) (hi : i = (n : Int)) : JF X (.Subscript a (.Slice (some lo) none none p2) pos) σ H (ds.drop n) := fun H1 e1 Q k =>
  ⟨_, pe_slice sl_list wE_ok (po_some wE_ok) po_none, ha H1 e1 _ fun x H2 e2 ⟨p, vs, ex, hp, hv⟩ => hl H2 (e1.trans e2) _ fun y H3 e3 ry => ⟨i, ry, p, vs, ex, SqL.of (e3 _ _ hp), fun q hq => by
    have e : cutV vs (some i) none = vs.drop n := by
      unfold cutV
      subst hi
      have h1 : HT.sIx vs.length 0 (some (n : Int)) = min n vs.length := by
        show (if (n : Int) < 0 then ((n : Int) + (vs.length : Int)).toNat else min (n : Int).toNat vs.length) = min n vs.length
        rw [if_neg (by omega)] <;> simp
      have h2 : HT.sIx vs.length vs.length none = vs.length := rfl
      rw [h1, h2, List.take_of_length_le (by rw [List.length_drop]; omega)]
      by_cases q : n ≤ vs.length
      · rw [Nat.min_eq_left q]
      · rw [Nat.min_eq_right (by omega), List.drop_eq_nil_of_le (Nat.le_refl _), List.drop_eq_nil_of_le (by omega)]
    refine k q (vs.drop n) _ (Same.free (e2.trans e3) hq) ((e2.trans e3).trans (same_new hq)) (by rw [← e]; exact upd_same) ?_
    exact (hv.drop n).mono (e3.trans (same_new hq))⟩⟩
theorem jf_revL {k : Nat} {p1 p2 p3 : Pos} (ha : JE X a σ H (.l ds)) : JF X (.Subscript a (.Slice none none (some (.UnaryOp .USub (.Constant (.int 1) k p1) p2)) p3) pos) σ H ds.reverse := fun H1 e1 Q q =>
  ⟨_, pe_revL wE_ok, ha H1 e1 _ fun x H2 e2 ⟨p, vs, ex, hp, hv⟩ => ⟨p, vs, ex, SqL.of hp, fun w hw => q w _ _ (Same.free e2 hw) (e2.trans (same_new hw)) upd_same (hv.rev.mono (same_new hw))⟩⟩
theorem je_revS {k : Nat} {p1 p2 p3 : Pos} {z : Str} (ha : JE X a σ H (.s z)) (hz : z.length ≤ 100000) : JE X (.Subscript a (.Slice none none (some (.UnaryOp .USub (.Constant (.int 1) k p1) p2)) p3) pos) σ H (.s ⟨z.cps.toList.reverse.toArray⟩) :=
  je_by (pe_revS wE_ok) fun H1 e1 Q q => ha H1 e1 _ fun x H2 e2 rx => ⟨z, rx, sz5 hz, q _ _ e2 rfl⟩
theorem sIx_nat (n d m : Nat) : HT.sIx n d (some (m : Int)) = min m n := by
  show (if (m : Int) < 0 then ((m : Int) + (n : Int)).toNat else min (m : Int).toNat n) = min m n
  rw [if_neg (by omega)] <;> simp
theorem je_toS {hi : Expr} {p2 : Pos} {z : Str} {i : Int} {n : Nat} (ha : JE X a σ H (.s z)) (hu : JE X hi σ H (.i i)) (hz : z.length ≤ 100000) (hn : i = (n : Int)) : JE X (.Subscript a (.Slice none (some hi) none p2) pos) σ H (.s ⟨(z.cps.toList.take n).toArray⟩) :=
  je_by (pe_slice sl_str wE_ok po_none (po_some wE_ok)) fun H1 e1 Q k => ha H1 e1 _ fun x H2 e2 rx => hu H2 (e1.trans e2) _ fun y H3 e3 ry => ⟨i, ry, z, rx, sz5 hz, by
    have e : cutS z none (some i) = ⟨(z.cps.toList.take n).toArray⟩ := by
      subst hn
      unfold cutS
      rw [sIx_nat]
      have h1 : HT.sIx z.length 0 none = 0 := rfl
      rw [h1, List.drop_zero, Nat.sub_zero]
      congr 2
      have hl : z.length = z.cps.toList.length := by rw [Array.length_toList] <;> rfl
      by_cases q : n ≤ z.length
      · rw [Nat.min_eq_left q]
      · rw [Nat.min_eq_right (by omega), List.take_of_length_le (by omega), List.take_of_length_le (by omega)]
    rw [e]
    exact k _ _ (e2.trans e3) rfl⟩
/-! ### calls of built-in functions and types -/
theorem je_callB {id : String} {r : List V → Hp → VK → Prop} {x : Str} {p : Pos} (hc : CallR X (.builtin id) r) (hm : X.mg x = none) (hv : bootBuiltins x = some (.builtin id)) (ha : JA X (e :: es) σ H ds)
    (hr : ∀ H2 vs (Q : VK), Same H H2 → Rps H2 ds vs → (∀ v H3, Same H2 H3 → Rp H3 d v → Q v H3) → r vs H2 Q) (hg : Gl X x := by rfl) (hn : x ≠ "__name__" := by decide) (hdb : (x == ("__debug__" : Str)) = false := by decide)
    (he : starEach (e :: es) X.env = (false, eval e X.env) :: starEach es X.env := by rfl) (hpl : (backTo pos (starEach es X.env)).any (·.1) = false := by rfl) : JE X (.Call (.Name x p) (e :: es) [] pos) σ H d :=
  je_by (pe_callB hc hg hm hv wA_ok hn hdb he hpl) fun H1 e1 Q k => ha H1 e1 _ fun vs H2 e2 rs => hr H2 vs Q (e1.trans e2) rs fun v H3 e3 rv => k v H3 (e2.trans e3) rv
theorem je_callTy {T : String} {r : List V → Hp → VK → Prop} {x : Str} {p : Pos} (hc : CallR X (.type T) r) (hm : X.mg x = none) (hv : bootBuiltins x = some (.type T)) (ha : JA X (e :: es) σ H ds)
    (hr : ∀ H2 vs (Q : VK), Same H H2 → Rps H2 ds vs → (∀ v H3, Same H2 H3 → Rp H3 d v → Q v H3) → r vs H2 Q) (hg : Gl X x := by rfl) (hn : x ≠ "__name__" := by decide) (hdb : (x == ("__debug__" : Str)) = false := by decide)
    (he : starEach (e :: es) X.env = (false, eval e X.env) :: starEach es X.env := by rfl) (hpl : (backTo pos (starEach es X.env)).any (·.1) = false := by rfl) : JE X (.Call (.Name x p) (e :: es) [] pos) σ H d :=
  je_by (pe_callTy hc hg hm hv wA_ok hn hdb he hpl) fun H1 e1 Q k => ha H1 e1 _ fun vs H2 e2 rs => hr H2 vs Q (e1.trans e2) rs fun v H3 e3 rv => k v H3 (e2.trans e3) rv
theorem rps1 {H : Hp} {d : D} {vs : List V} (r : Rps H [d] vs) : ∃ v, vs = [v] ∧ Rp H d v := by
  obtain ⟨v, w, h1, h2, h3⟩ := r
  exact ⟨v, by rw [h1, show w = [] from h3], h2⟩
theorem rps2 {H : Hp} {d d' : D} {vs : List V} (r : Rps H [d, d'] vs) : ∃ v w, vs = [v, w] ∧ Rp H d v ∧ Rp H d' w := by
  obtain ⟨v, u, h1, h2, h3⟩ := r
  obtain ⟨w, h4, h5⟩ := rps1 h3
  exact ⟨v, w, by rw [h1, h4], h2, h5⟩
theorem rps3 {H : Hp} {d d' d'' : D} {vs : List V} (r : Rps H [d, d', d''] vs) : ∃ v w u, vs = [v, w, u] ∧ Rp H d v ∧ Rp H d' w ∧ Rp H d'' u := by
  obtain ⟨v, u, h1, h2, h3⟩ := r
  obtain ⟨w, z, h4, h5, h6⟩ := rps2 h3
  exact ⟨v, w, z, by rw [h1, h4], h2, h5, h6⟩
theorem je_lenL {x : Str} {p : Pos} (hm : X.mg "len" = none) (ha : JE X e σ H (.l ds)) (hx : x = "len" := by rfl) (hg : Gl X "len" := by rfl) (he : starEach [e] X.env = (false, eval e X.env) :: starEach [] X.env := by rfl) (hpl : (backTo pos (starEach [] X.env)).any (·.1) = false := by rfl) :
    JE X (.Call (.Name x p) [e] [] pos) σ H (.i (ds.length : Int)) := by
  subst hx
  exact je_callB call_len_seq hm PySem.boot_len (ja_cons ha ja_nil he) (fun H2 vs Q _ r k => by
    obtain ⟨v, rfl, q, ys, rfl, hq, hy⟩ := rps1 r
    exact ⟨q, ys, rfl, .inl (SqL.of hq), by rw [hy.len]; exact k _ _ (Same.refl _) rfl⟩) hg (he := he) (hpl := hpl)
theorem je_lenT {x : Str} {p : Pos} (hm : X.mg "len" = none) (ha : JE X e σ H (.t ds)) (hx : x = "len" := by rfl) (hg : Gl X "len" := by rfl) (he : starEach [e] X.env = (false, eval e X.env) :: starEach [] X.env := by rfl) (hpl : (backTo pos (starEach [] X.env)).any (·.1) = false := by rfl) :
    JE X (.Call (.Name x p) [e] [] pos) σ H (.i (ds.length : Int)) := by
  subst hx
  exact je_callB call_len_seq hm PySem.boot_len (ja_cons ha ja_nil he) (fun H2 vs Q _ r k => by
    obtain ⟨v, rfl, q, ys, rfl, hq, hy⟩ := rps1 r
    exact ⟨q, ys, rfl, .inr (SqT.of hq), by rw [hy.len]; exact k _ _ (Same.refl _) rfl⟩) hg (he := he) (hpl := hpl)
theorem je_lenR {x : Str} {p : Pos} {ns : List Nat} (hm : X.mg "len" = none) (ha : JE X e σ H (.r ns)) (hx : x = "len" := by rfl) (hg : Gl X "len" := by rfl) (he : starEach [e] X.env = (false, eval e X.env) :: starEach [] X.env := by rfl) (hpl : (backTo pos (starEach [] X.env)).any (·.1) = false := by rfl) :
    JE X (.Call (.Name x p) [e] [] pos) σ H (.i (ns.length : Int)) := by
  subst hx
  exact je_callB call_len_seq hm PySem.boot_len (ja_cons ha ja_nil he) (fun H2 vs Q _ r k => by
    obtain ⟨v, rfl, q, ob, rfl, hq, _⟩ := rps1 r
    exact ⟨q, _, rfl, .inr (.inl (.inr ⟨ob, hq⟩)), by rw [List.length_map, List.length_map]; exact k _ _ (Same.refl _) rfl⟩) hg (he := he) (hpl := hpl)
theorem je_lenS {x : Str} {p : Pos} {z : Str} (hm : X.mg "len" = none) (ha : JE X e σ H (.s z)) (hz : z.length ≤ 100000) (hx : x = "len" := by rfl) (hg : Gl X "len" := by rfl) (he : starEach [e] X.env = (false, eval e X.env) :: starEach [] X.env := by rfl) (hpl : (backTo pos (starEach [] X.env)).any (·.1) = false := by rfl) :
    JE X (.Call (.Name x p) [e] [] pos) σ H (.i (z.length : Int)) := by
  subst hx
  exact je_callB call_len_str hm PySem.boot_len (ja_cons ha ja_nil he) (fun H2 vs Q _ r k => by
    obtain ⟨v, rfl, rv⟩ := rps1 r
    rw [show v = .str z from rv]
    exact ⟨z, rfl, sz5 hz, k _ _ (Same.refl _) rfl⟩) hg (he := he) (hpl := hpl)
/-- a built-in type's name as a value -/
theorem je_ty {x : Str} {n : String} (hm : X.mg x = none) (hv : bootBuiltins x = some (.type n)) (hg : Gl X x := by rfl) (hn : x ≠ "__name__" := by decide) (hdb : (x == ("__debug__" : Str)) = false := by decide) : JE X (.Name x pos) σ H (.ty n) :=
  je_by (pe_bltn (v := .ty n) hg hm hv rfl hn hdb) fun H1 e1 Q k => k _ _ (Same.refl _) rfl
/-- the built-in type of data -/
def tyName : D → String
  | .n => "NoneType" | .i _ => "int" | .s _ => "str" | .b _ => "bool" | .t _ => "tuple" | .l _ => "list" | .r _ => "tuple" | .ty _ => "type"
def isTyD : D → Prop
  | .ty _ => False
  | _ => True
theorem tyX_of {K : PySem.W.Frag} {H : Hp} {d : D} {v : V} (r : Rp H d v) (hn : isTyD d) : TyX K H v (.type (tyName d)) := by
  cases d with
  | n => rw [show v = .non from r]; exact .base .non
  | i n => rw [show v = .int n from r]; exact .base (.int _)
  | s n => rw [show v = .str n from r]; exact .base (.str _)
  | b n => rw [show v = .bl n from r]; exact .base (.bl _)
  | ty n => exact hn.elim
  | t ds => obtain ⟨p, vs, e, h, _⟩ := r; rw [e]; exact .base (.tup h)
  | l ds => obtain ⟨p, vs, e, h, _⟩ := r; rw [e]; exact .base (.lst h)
  | r ds => obtain ⟨p, o, e, h, _⟩ := r; rw [e]; exact .fTuple h
theorem je_isi {x : Str} {p : Pos} {n : String} {c : Bool} (hm : X.mg "isinstance" = none) (ha : JE X e σ H d) (hb : JE X e2 σ H (.ty n)) (hk : kitB (tyName d) n = some c) (hn : isTyD d := by trivial) (hx : x = "isinstance" := by rfl) (hg : Gl X "isinstance" := by rfl)
    (he : starEach [e, e2] X.env = (false, eval e X.env) :: starEach [e2] X.env := by rfl) (he2 : starEach [e2] X.env = (false, eval e2 X.env) :: starEach [] X.env := by rfl) (hpl : (backTo pos (starEach [e2] X.env)).any (·.1) = false := by rfl) : JE X (.Call (.Name x p) [e, e2] [] pos) σ H (.b c) := by
  subst hx
  exact je_callB call_isi hm (by decide +kernel) (ja_cons ha (ja_cons hb ja_nil he2) he) (fun H2 vs Q _ r k => by
    obtain ⟨v, w, rfl, rv, rw'⟩ := rps2 r
    rw [show w = .ty n from rw']
    exact ⟨v, .ty n, _, _, c, rfl, .ty n, tyX_of rv hn, kit_ty hk, k _ _ (Same.refl _) rfl⟩) hg (he := he) (hpl := hpl)
/-- all([..]) -/
theorem je_all {x : Str} {p : Pos} {bs : List Bool} (hcalm : X.calm = true) (hm : X.mg "all" = none) (ha : JE X e σ H (.l (bs.map D.b))) (hx : x = "all" := by rfl) (hg : Gl X "all" := by rfl) (he : starEach [e] X.env = (false, eval e X.env) :: starEach [] X.env := by rfl) (hpl : (backTo pos (starEach [] X.env)).any (·.1) = false := by rfl) :
    JE X (.Call (.Name x p) [e] [] pos) σ H (.b (bs.all id)) := by
  subst hx
  exact je_callB (cr_all hcalm) hm (by decide +kernel) (ja_cons ha ja_nil he) (fun H2 vs Q _ r k => by
    obtain ⟨v, rfl, q, ys, rfl, hq, hy⟩ := rps1 r
    rw [hy.bools] at hq
    exact ⟨q, bs, rfl, SqL.of hq, k _ _ (Same.refl _) rfl⟩) hg (he := he) (hpl := hpl)
/-- tuple(xs) of a list -/
theorem je_tupleL {x : Str} {p : Pos} (hm : X.mg "tuple" = none) (ha : JE X e σ H (.l ds)) (hx : x = "tuple" := by rfl) (hg : Gl X "tuple" := by rfl) (he : starEach [e] X.env = (false, eval e X.env) :: starEach [] X.env := by rfl) (hpl : (backTo pos (starEach [] X.env)).any (·.1) = false := by rfl) :
    JE X (.Call (.Name x p) [e] [] pos) σ H (.t ds) := by
  subst hx
  exact je_callTy call_tuple_of hm (by decide +kernel) (ja_cons ha ja_nil he) (fun H2 vs Q _ r k => by
    obtain ⟨v, rfl, q, ys, rfl, hq, hy⟩ := rps1 r
    exact ⟨q, ys, rfl, .inl ⟨SqL.of hq, fun l hl => k _ _ (same_new hl) ⟨l, ys, rfl, upd_same, hy.mono (same_new hl)⟩⟩⟩) hg (he := he) (hpl := hpl)
theorem je_tupleR {x : Str} {p : Pos} {ns : List Nat} (hm : X.mg "tuple" = none) (ha : JE X e σ H (.l (ns.map fun n : Nat => D.i (n : Int)))) (hx : x = "tuple" := by rfl) (hg : Gl X "tuple" := by rfl) (he : starEach [e] X.env = (false, eval e X.env) :: starEach [] X.env := by rfl) (hpl : (backTo pos (starEach [] X.env)).any (·.1) = false := by rfl) :
    JE X (.Call (.Name x p) [e] [] pos) σ H (.r ns) := by
  subst hx
  exact je_callTy call_tupZ hm (by decide +kernel) (ja_cons ha ja_nil he) (fun H2 vs Q _ r k => by
    obtain ⟨v, rfl, q, ys, rfl, hq, hy⟩ := rps1 r
    have hy2 : Rps H2 ((ns.map Int.ofNat).map D.i) ys := by rw [List.map_map]; exact hy
    refine ⟨q, ys, rfl, SqL.of hq, fun l ob hc hd hl => k _ _ (same_new hl) ⟨l, ob, rfl, ?_, hc, hd⟩⟩
    rw [hy2.ints]
    exact upd_same) hg (he := he) (hpl := hpl)
/-! ### texts -/
theorem je_lower {apos : Pos} {z : Str} (ha : JE X o σ H (.s z)) (hz : z.length ≤ 100000) (hbase : attributeBase o "lower" X.env (eval o X.env) = eval o X.env := by rfl) (hline : (apos.endLine == pos.line) = true := by rfl) : JE X (.Call (.Attribute o "lower" apos) [] [] pos) σ H (.s (Txt.lower z)) :=
  je_by (pe_lower wE_ok hbase hline) fun H1 e1 Q k => ha H1 e1 _ fun x H2 e2 rx => ⟨⟨z, rx⟩, z, rx, rfl, by omega, k _ _ e2 rfl⟩
theorem je_upper {apos : Pos} {z : Str} (ha : JE X o σ H (.s z)) (hz : z.length ≤ 100000) (hbase : attributeBase o "upper" X.env (eval o X.env) = eval o X.env := by rfl) (hline : (apos.endLine == pos.line) = true := by rfl) : JE X (.Call (.Attribute o "upper" apos) [] [] pos) σ H (.s (Txt.upper z)) :=
  je_by (pe_upper wE_ok hbase hline) fun H1 e1 Q k => ha H1 e1 _ fun x H2 e2 rx => ⟨⟨z, rx⟩, z, rx, rfl, by omega, k _ _ e2 rfl⟩
theorem je_join {apos : Pos} {z : Str} {ys : List Str} (ha : JE X o σ H (.s z)) (hb : JE X e σ H (.l (ys.map D.s))) (hz : (ys.map (·.length)).sum + ys.length * z.length ≤ 16777216) (hs : starEach [e] X.env = [(false, eval e X.env)] := by rfl) (hbase : attributeBase o "join" X.env (eval o X.env) = eval o X.env := by rfl) (hline : (apos.endLine == pos.line) = true := by rfl) :
    JE X (.Call (.Attribute o "join" apos) [e] [] pos) σ H (.s (Txt.join z ys)) :=
  je_by (pe_join wE_ok wE_ok hs hbase hline) fun H1 e1 Q k => ha H1 e1 _ fun x H2 e2 rx => ⟨⟨z, rx⟩, hb H2 (e1.trans e2) _ fun y H3 e3 ⟨q, vs, ey, hq, hv⟩ => ⟨z, q, ys, rx, by rw [ey], .inl (SqL.of (by rw [← hv.strs]; exact hq)), hz, k _ _ (e2.trans e3) rfl⟩⟩
theorem je_inS {c : Nat} {z : Str} (ha : JE X a σ H (.s ⟨#[c]⟩)) (hb : JE X b σ H (.s z)) (hm : behindInMarks .In b = false := by rfl) : JE X (.Compare a [.In] [b] pos) σ H (.b (decide (c ∈ z.cps.toList))) := je_cmp op_in_sign hm ha hb fun _ _ _ _ _ rx ry k => ⟨c, z, rx, ry, k _ _ (Same.refl _) rfl⟩
theorem jt_inS {c : Nat} {z : Str} (ha : JE X a σ H (.s ⟨#[c]⟩)) (hb : JE X b σ H (.s z)) (hm : behindInMarks .In b = false := by rfl) : JT X (.Compare a [.In] [b] pos) σ H (decide (c ∈ z.cps.toList)) := jt_cmp op_in_sign hm ha hb fun _ _ _ _ _ rx ry k => ⟨c, z, rx, ry, k _ _ (Same.refl _) rfl⟩
/-! ### calls of defs by their promises -/
/-- a pure def: from arguments that φ relates to the answer -/
def spD (φ : List D → D → Prop) : Sp := fun vs H Q _ => ∃ ds d, Rps H ds vs ∧ φ ds d ∧ ∀ v H', Same H H' → Rp H' d v → Q v H'
/-- .. that hands back a new list -/
def spF (φ : List D → List D → Prop) : Sp := fun vs H Q _ => ∃ ds es, Rps H ds vs ∧ φ ds es ∧ ∀ p us H', H p = none → Same H H' → H' p = some (.lst us) → Rps H' es us → Q (.ref p) H'
theorem je_call {φ : List D → D → Prop} {CX : CXT} {k : Nat} {f : Addr} {fd : FuncData} {ps : List Str} {x : Str} {p : Pos} {E : XK} (F : FnOk X.prog X.w X.K X.mg X.base CX k f fd ps (spD φ)) (hr : Room k X.A) (hm : X.mg x = some (.ref f)) (hk : PySem.W.keepIn X.K (.ref f) = true) (hb : Binds X.K fd ps []) (hx : Passes CX X E)
    (ha : JA X (e :: es) σ H ds) (hφ : φ ds d) (hg : Gl X x := by rfl) (hdb : (x == ("__debug__" : Str)) = false := by decide) (he : starEach (e :: es) X.env = (false, eval e X.env) :: starEach es X.env := by rfl) (hpl : (backTo pos (starEach es X.env)).any (·.1) = false := by rfl) :
    JE X (.Call (.Name x p) (e :: es) [] pos) σ H d :=
  je_by (pe_call F hr hg hm hk hb .nil hx wA_ok hdb he hpl) fun H1 e1 Q q => ha H1 e1 _ fun vs H2 e2 rs => ⟨ds, d, by rw [List.append_nil]; exact rs, hφ, fun v H' e3 rv => q v H' (e2.trans e3) rv⟩
theorem jf_call {φ : List D → List D → Prop} {CX : CXT} {k : Nat} {f : Addr} {fd : FuncData} {ps : List Str} {x : Str} {p : Pos} {E : XK} {fs : List D} (F : FnOk X.prog X.w X.K X.mg X.base CX k f fd ps (spF φ)) (hr : Room k X.A) (hm : X.mg x = some (.ref f)) (hk : PySem.W.keepIn X.K (.ref f) = true) (hb : Binds X.K fd ps []) (hx : Passes CX X E)
    (ha : JA X (e :: es) σ H ds) (hφ : φ ds fs) (hg : Gl X x := by rfl) (hdb : (x == ("__debug__" : Str)) = false := by decide) (he : starEach (e :: es) X.env = (false, eval e X.env) :: starEach es X.env := by rfl) (hpl : (backTo pos (starEach es X.env)).any (·.1) = false := by rfl) :
    JF X (.Call (.Name x p) (e :: es) [] pos) σ H fs := fun H1 e1 Q q =>
  ⟨_, pe_call F hr hg hm hk hb .nil hx wA_ok hdb he hpl, ha H1 e1 _ fun vs H2 e2 rs => ⟨ds, fs, by rw [List.append_nil]; exact rs, hφ, fun l us H' hl e3 h1 h2 => q l us H' (Same.free e2 hl) (e2.trans e3) h1 h2⟩⟩
end
/-! ### statements -/
section
variable {X : Cx} {e e1 e2 a b : Expr} {sts rest body : List Stmt} {σ : L2.St} {H : Hp} {d : D} {ds : List D} {pos : Pos} {Ds : Ends} {x : Str} {p1 : Pos}
theorem ws_nil (h : Ds.nx σ H) : wSs X [] Ds σ H := ⟨_, pss_nil, h⟩
theorem ws_cons {st : Stmt} {t : TS} (hp : PS X st t) (h : t { Ds with nx := wSs X rest Ds } σ H) : wSs X (st :: rest) Ds σ H := ⟨_, pss_cons hp wSs_ok, h⟩
/-- name = e -/
theorem ws_setE (i : Nat) (nd : X.N.Nodup) (h : wE X e σ H fun v H1 => wSs X rest Ds (σ.set i (some v)) H1) (hi : X.N[i]? = some x := by rfl) (hx : Loc X.env.scope x := by first | exact Or.inl rfl | exact Or.inr rfl) (hs : swapsWith e (some (.Name x p1)) pos.line X.env = pure false := by rfl) (hf : X.fn x = true ∨ X.env.scope.names.lookup x = some .local := by first | exact Or.inl rfl | exact Or.inr rfl) :
    wSs X (.Assign [.Name x p1] e pos :: rest) Ds σ H := ws_cons (ps_set nd hi hx wE_ok hs hf) h
theorem ws_set (i : Nat) (nd : X.N.Nodup) (h : JE X e σ H d) (k : ∀ v H1, Same H H1 → Rp H1 d v → wSs X rest Ds (σ.set i (some v)) H1) (hi : X.N[i]? = some x := by rfl) (hx : Loc X.env.scope x := by first | exact Or.inl rfl | exact Or.inr rfl) (hs : swapsWith e (some (.Name x p1)) pos.line X.env = pure false := by rfl) (hf : X.fn x = true ∨ X.env.scope.names.lookup x = some .local := by first | exact Or.inl rfl | exact Or.inr rfl) :
    wSs X (.Assign [.Name x p1] e pos :: rest) Ds σ H := ws_setE i nd (h.go k) hi hx hs hf
theorem ws_setF (i : Nat) (nd : X.N.Nodup) (h : JF X e σ H ds) (k : ∀ p vs H1, H p = none → Same H H1 → H1 p = some (.lst vs) → Rps H1 ds vs → wSs X rest Ds (σ.set i (some (.ref p))) H1) (hi : X.N[i]? = some x := by rfl) (hx : Loc X.env.scope x := by first | exact Or.inl rfl | exact Or.inr rfl) (hs : swapsWith e (some (.Name x p1)) pos.line X.env = pure false := by rfl) (hf : X.fn x = true ∨ X.env.scope.names.lookup x = some .local := by first | exact Or.inl rfl | exact Or.inr rfl) :
    wSs X (.Assign [.Name x p1] e pos :: rest) Ds σ H := ws_setE i nd (h.go k) hi hx hs hf
theorem ws_retE (h : wE X e σ H Ds.rt) : wSs X (.Return (some e) pos :: rest) Ds σ H := ⟨_, pss_cons (ps_ret wE_ok) wSs_ok, h⟩
theorem ws_ret (h : JE X e σ H d) (k : ∀ v H1, Same H H1 → Rp H1 d v → Ds.rt v H1) : wSs X (.Return (some e) pos :: rest) Ds σ H := ws_retE (h.go k)
theorem ws_retN (h : Ds.rt .non H) : wSs X (.Return none pos :: rest) Ds σ H := ⟨_, pss_cons ps_retN wSs_ok, h⟩
theorem ws_ifE {c : Expr} {el : List Stmt} (h : wT X c σ H fun k H1 => if k = true then wSs X body { Ds with nx := wSs X rest Ds } σ H1 else wSs X el { Ds with nx := wSs X rest Ds } σ H1) : wSs X (.If c body el pos :: rest) Ds σ H :=
  ws_cons (ps_if wT_ok wSs_ok wSs_ok) h
theorem ws_if {c : Expr} {el : List Stmt} {k : Bool} (h : JT X c σ H k) (h1 : k = true → ∀ H1, Same H H1 → wSs X body { Ds with nx := wSs X rest Ds } σ H1) (h2 : k = false → ∀ H1, Same H H1 → wSs X el { Ds with nx := wSs X rest Ds } σ H1) : wSs X (.If c body el pos :: rest) Ds σ H :=
  ws_ifE (h.go fun H2 s => by
    cases k with
    | true => exact h1 rfl H2 s
    | false => exact h2 rfl H2 s)
/-- an if that is not taken, without else -/
theorem ws_ifF {c : Expr} (h : JT X c σ H false) (k : ∀ H1, Same H H1 → wSs X rest Ds σ H1) : wSs X (.If c body [] pos :: rest) Ds σ H := ws_if h (fun q => by cases q) fun _ H1 s => ws_nil (k H1 s)
theorem ws_ifT {c : Expr} {el : List Stmt} (h : JT X c σ H true) (k : ∀ H1, Same H H1 → wSs X body { Ds with nx := wSs X rest Ds } σ H1) : wSs X (.If c body el pos :: rest) Ds σ H := ws_if h (fun _ H1 s => k H1 s) fun q => by cases q
theorem ws_exprE (h : wE X e σ H fun _ H1 => wSs X rest Ds σ H1) (hs : swapsWith e none pos.line X.env = pure false := by rfl) : wSs X (.Expr e pos :: rest) Ds σ H := ws_cons (ps_expr wE_ok hs) h
theorem ws_for {tg iter : Expr} {wi : TI} {g : TG} (hi : PI X tg iter wi) (hg : PG X tg g) (h : tFor wi g (wSs X body) { Ds with nx := wSs X rest Ds } σ H) (hp : PassesOwn (model X.prog X.w) X.A X.env X.xe := by exact PassesOwn.never) (hc : X.calm = true := by rfl)
    (hs : ∀ x, foldedSetIterable iter X.env x = pure x := by intro _; rfl) : wSs X (.For tg iter body [] pos :: rest) Ds σ H := ws_cons (ps_for hp hc hi hg wSs_ok hs) h
theorem ws_while {c : Expr} (W : Nat → L2.St → Hp → Prop) (m0 : Nat) (h0 : W m0 σ H)
    (hs : ∀ m σ' H', W m σ' H' → ∃ k, JT X c σ' H' k ∧ (k = true → ∀ H1, Same H' H1 → wSs X body { Ds with nx := fun σ2 H2 => ∃ m', m' < m ∧ W m' σ2 H2, ct := fun σ2 H2 => ∃ m', m' < m ∧ W m' σ2 H2, bk := wSs X rest Ds } σ' H1) ∧ (k = false → ∀ H1, Same H' H1 → wSs X rest Ds σ' H1))
    (hp : PassesOwn (model X.prog X.w) X.A X.env X.xe := by exact PassesOwn.never) : wSs X (.While c body [] pos :: rest) Ds σ H :=
  ws_cons (ps_while hp wT_ok wSs_ok) ⟨W, ⟨m0, h0⟩, fun m σ' H' w => by
    obtain ⟨k, hk, h1, h2⟩ := hs m σ' H' w
    refine hk.go fun H2 s => ?_
    cases k with
    | true => exact ⟨_, fun σ2 H2 q => q, h1 rfl H2 s⟩
    | false => exact h2 rfl H2 s⟩
/-- l.append(e), l a list that stands -/
theorem ws_app {o : Expr} {apos cpos : Pos} {l : Addr} {vs : List V} (ho : ∀ H1, Same H H1 → ∀ Q : VK, (∀ H2, Same H1 H2 → Q (.ref l) H2) → wE X o σ H1 Q) (hl : H l = some (.lst vs)) (h : JE X e σ H d) (hz : vs.length < 100000) (k : ∀ v H1, Same H H1 → Rp H1 d v → wSs X rest Ds σ (upd H1 l (.lst (vs ++ [v]))))
    (hbase : attributeBase o "append" X.env (eval o X.env) = eval o X.env := by rfl)
    (hfew : ((backTo cpos (starEach [e] X.env)).all (fun x => !x.1) && (backToKw cpos (keywordEach [] X.env)).all (fun x => x.1.isSome) && decide ([e].length + ([] : List Keyword).length + (if ([] : List Keyword).isEmpty then 0 else 1) < 30)) = true := by rfl)
    (hline : (apos.endLine == cpos.line) = true := by rfl) (hs : starEach [e] X.env = (false, eval e X.env) :: starEach [] X.env := by rfl) (hplain : (backTo cpos (starEach [] X.env)).any (·.1) = false := by rfl)
    (hsw : swapsWith (.Call (.Attribute o "append" apos) [e] [] cpos) none pos.line X.env = pure false := by rfl) : wSs X (.Expr (.Call (.Attribute o "append" apos) [e] [] cpos) pos :: rest) Ds σ H :=
  ws_exprE ⟨_, pe_bm PySem.F.plainAttrs_list PySem.F.slot_list_append PySem.F.type_list_append mt_append wE_ok (pa_cons wE_ok pa_nil hs) hbase hfew hline hs hplain,
    ho H (Same.refl _) _ fun H2 s2 => ⟨.inl ⟨rfl, vs, SqL.of (s2 _ _ hl)⟩, h H2 s2 _ fun v H3 s3 r => ⟨l, vs, v, rfl, rfl, s3 _ _ (s2 _ _ hl), sz5' hz, k v H3 (s2.trans s3) r⟩⟩⟩ hsw
theorem wv_var (i : Nat) {v : V} (hs : σ[i]? = some (some v) := by rfl) (hN : X.N[i]? = some x := by rfl) (hv : Vis X.env.scope x := by first | exact Or.inl rfl | exact Or.inr (Or.inl rfl) | exact Or.inr (Or.inr rfl)) (hd : (x == ("__debug__" : Str)) = false := by decide)
    (hcd : (x == ("__classdict__" : Str)) = false := by decide) : ∀ H1, Same H H1 → ∀ Q : VK, (∀ H2, Same H1 H2 → Q v H2) → wE X (.Name x pos) σ H1 Q := fun H1 _ Q k => ⟨_, pe_var hN hv hd hcd, v, hs, k _ (Same.refl _)⟩
end
end FW
/-! words as texts -/
namespace FW
open PySem L2
def code (x : L) : Nat := (if x.2 then 65 else 97) + x.1.val
def enc (w : Wd) : Str := ⟨(w.map code).toArray⟩
theorem code_inj {x y : L} (h : code x = code y) : x = y := by
  obtain ⟨⟨a, ha⟩, b⟩ := x
  obtain ⟨⟨c, hc⟩, d⟩ := y
  unfold code at h
  cases b <;> cases d <;> simp at h ⊢ <;> omega
theorem enc_list (w : Wd) : (enc w).cps.toList = w.map code := rfl
theorem enc_inj {u w : Wd} (h : enc u = enc w) : u = w := by
  have h1 : (enc u).cps.toList = (enc w).cps.toList := by rw [h]
  rw [enc_list, enc_list] at h1
  exact List.map_inj_right (fun x y q => code_inj q) |>.mp h1
theorem enc_len (w : Wd) : (enc w).length = w.length := by
  show (w.map code).toArray.size = w.length
  simp
theorem str_ext {x y : Str} (h : x.cps.toList = y.cps.toList) : x = y := by
  obtain ⟨a⟩ := x
  obtain ⟨b⟩ := y
  congr 1
  exact Array.toList_inj.mp h
theorem enc_app (u w : Wd) : enc u ++ enc w = enc (u ++ w) := by
  apply str_ext
  show ((enc u).cps ++ (enc w).cps).toList = _
  rw [Array.toList_append, enc_list, enc_list, enc_list, List.map_append]
theorem enc_dec (u w : Wd) : decide (enc u = enc w) = decide (u = w) := by
  by_cases q : u = w
  · rw [q]; simp
  · rw [decide_eq_false q, decide_eq_false fun z => q (enc_inj z)]
theorem enc_at {w : Wd} {i c : Nat} (h : (enc w).cps[i]? = some c) : ∃ x, w[i]? = some x ∧ (⟨#[c]⟩ : Str) = enc [x] ∧ w.take (i + 1) = w.take i ++ [x] := by
  have h1 : (enc w).cps.toList[i]? = some c := by rw [Array.getElem?_toList]; exact h
  rw [enc_list, List.getElem?_map] at h1
  cases e : w[i]? with
  | none => rw [e] at h1; cases h1
  | some x =>
    rw [e] at h1
    have : code x = c := Option.some.inj h1
    refine ⟨x, rfl, by rw [← this] <;> rfl, ?_⟩
    obtain ⟨hi, hx⟩ := List.getElem?_eq_some_iff.mp e
    rw [List.take_succ, e] <;> rfl
theorem enc_size (w : Wd) : (enc w).cps.size = w.length := enc_len w
theorem enc_rev (w : Wd) : (⟨(enc w).cps.toList.reverse.toArray⟩ : Str) = enc w.reverse := by
  apply str_ext
  rw [enc_list, enc_list, List.map_reverse]
theorem enc_take (w : Wd) (n : Nat) : (⟨((enc w).cps.toList.take n).toArray⟩ : Str) = enc (w.take n) := by
  apply str_ext
  rw [enc_list, enc_list, List.map_take]
theorem enc_nil : enc [] = ("" : Str) := by decide +kernel
theorem enc_nil' : ("" : Str) = enc [] := by decide +kernel
/-- lower, upper of a letter -/
theorem low_enc : ∀ x : L, Txt.lower (enc [x]) = enc [(x.1, false)]
  | (0, false) => by decide +kernel
  | (0, true) => by decide +kernel
  | (1, false) => by decide +kernel
  | (1, true) => by decide +kernel
  | (2, false) => by decide +kernel
  | (2, true) => by decide +kernel
theorem up_enc : ∀ x : L, Txt.upper (enc [x]) = enc [(x.1, true)]
  | (0, false) => by decide +kernel
  | (0, true) => by decide +kernel
  | (1, false) => by decide +kernel
  | (1, true) => by decide +kernel
  | (2, false) => by decide +kernel
  | (2, true) => by decide +kernel
theorem isup_enc : ∀ x : L, Txt.isupper (enc [x]) = x.2
  | (0, false) => by decide +kernel
  | (0, true) => by decide +kernel
  | (1, false) => by decide +kernel
  | (1, true) => by decide +kernel
  | (2, false) => by decide +kernel
  | (2, true) => by decide +kernel
abbrev wD (w : Wd) : D := .s (enc w)
theorem join_enc (ws : List Wd) : Txt.join (enc []) (ws.map enc) = enc ws.flatten := by
  rw [eq_of_beq (PyProof.Rows.join_plain_closes (enc []) (ws.map enc))]
  show Str.join ⟨#[]⟩ (ws.map enc) = _
  induction ws with
  | nil => exact enc_nil'
  | cons w ws ih =>
    rw [List.map_cons, PyProof.Rows.join_nil_cons, ih, enc_app, List.flatten_cons]
end FW
/-! loops, comprehensions by data -/
namespace FW
open PySem L2
/-! data that no list is part of: it stands when lists and dicts change -/
mutual
def imm : D → Bool
  | .l _ => false
  | .t ds => imms ds
  | _ => true
def imms : List D → Bool
  | [] => true
  | d :: ds => imm d && imms ds
end
def KeepT (H H' : Hp) : Prop := (∀ p xs, H p = some (.tup xs) → H' p = some (.tup xs)) ∧ ∀ p o u, H p = some (.frz o u) → H' p = some (.frz o u)
theorem Same.keepT {H H' : Hp} (s : Same H H') : KeepT H H' := ⟨fun _ _ e => s _ _ e, fun _ _ _ e => s _ _ e⟩
theorem KeepT.trans {H H1 H2 : Hp} (a : KeepT H H1) (b : KeepT H1 H2) : KeepT H H2 := ⟨fun p xs e => b.1 p xs (a.1 p xs e), fun p o u e => b.2 p o u (a.2 p o u e)⟩
theorem keepT_upd {H : Hp} {p : Addr} {o u : HO} (h : H p = some o) (h1 : ∀ xs, o ≠ .tup xs) (h2 : ∀ a b, o ≠ .frz a b) : KeepT H (upd H p u) :=
  ⟨fun q xs e => by rw [upd_ne (ne_of e h fun z => h1 xs z.symm)]; exact e, fun q a b e => by rw [upd_ne (ne_of e h fun z => h2 a b z.symm)]; exact e⟩
theorem keepT_lst {H : Hp} {p : Addr} {xs : List V} {u : HO} (h : H p = some (.lst xs)) : KeepT H (upd H p u) := keepT_upd h (fun _ z => nomatch z) fun _ _ z => nomatch z
mutual
theorem Rp.imm {H H' : Hp} (k : KeepT H H') : ∀ {d : D} {v : V}, imm d = true → Rp H d v → Rp H' d v
  | .i n, v, _, h => h
  | .s x, v, _, h => h
  | .b c, v, _, h => h
  | .n, v, _, h => h
  | .ty n, v, _, h => h
  | .t ds, v, i, h => by
    obtain ⟨p, vs, h1, h2, h3⟩ := (show ∃ p vs, v = .ref p ∧ H p = some (.tup vs) ∧ Rps H ds vs from h)
    exact ⟨p, vs, h1, k.1 _ _ h2, Rps.imm k i h3⟩
  | .l ds, v, i, h => by cases i
  | .r ns, v, _, h => by
    obtain ⟨p, o, h1, h2, h3⟩ := (show ∃ (p : Addr) (o : Obj), v = .ref p ∧ H p = some (.frz o (.tup ((ns.map Int.ofNat).map V.int))) ∧ o.cls = .type "tuple" ∧ o.dict = none from h)
    exact ⟨p, o, h1, k.2 _ _ _ h2, h3⟩
theorem Rps.imm {H H' : Hp} (k : KeepT H H') : ∀ {ds : List D} {vs : List V}, imms ds = true → Rps H ds vs → Rps H' ds vs
  | [], vs, _, h => h
  | d :: ds, vs, i, h => by
    obtain ⟨v, w, h1, h2, h3⟩ := (show ∃ v w, vs = v :: w ∧ Rp H d v ∧ Rps H ds w from h)
    have i : (FW.imm d && imms ds) = true := i
    rw [Bool.and_eq_true] at i
    exact ⟨v, w, h1, Rp.imm k i.1 h2, Rps.imm k i.2 h3⟩
end
theorem imms_app {a b : List D} : imms (a ++ b) = (imms a && imms b) := by
  induction a with
  | nil => rfl
  | cons d a ih =>
    show (imm d && imms (a ++ b)) = ((imm d && imms a) && imms b)
    rw [ih, Bool.and_assoc]
theorem imms_map {A : Type} {f : A → D} (h : ∀ x, imm (f x) = true) : ∀ l : List A, imms (l.map f) = true
  | [] => rfl
  | x :: l => by
    show (imm (f x) && imms (l.map f)) = true
    rw [h x, imms_map h l] <;> rfl
section
variable {X : Cx} {e e2 a b : Expr} {sts rest body : List Stmt} {σ : L2.St} {H : Hp} {d : D} {ds : List D} {pos : Pos} {Ds : Ends} {tg : Expr} {g : TG}
/-- for .. in a word -/
theorem ws_forW {w : Wd} (he : JE X e σ H (wD w)) (hg : PG X tg g) (Pv : Nat → L2.St → Hp → Prop) (h0 : ∀ H1, Same H H1 → Pv 0 σ H1)
    (hs : ∀ i x σ' H', w[i]? = some x → w.take (i + 1) = w.take i ++ [x] → Pv i σ' H' → g (.str (enc [x])) σ' H' fun σ2 H2 => wSs X body { Ds with nx := Pv (i + 1), ct := Pv (i + 1), bk := wSs X rest Ds } σ2 H2) (hd : ∀ σ' H', Pv w.length σ' H' → wSs X rest Ds σ' H')
    (hp : PassesOwn (model X.prog X.w) X.A X.env X.xe := by exact PassesOwn.never) (hc : X.calm = true := by rfl) (hf : ∀ x, foldedSetIterable e X.env x = pure x := by intro _; rfl) : wSs X (.For tg e body [] pos :: rest) Ds σ H :=
  ws_for (pi_str wE_ok) hg (he.go fun v H1 s1 r1 => ⟨enc w, r1, for_it walk_str Pv (h0 H1 s1) (fun _ _ _ _ _ => trivial) (fun i v2 σ' H' H'' hi p y => by
    obtain ⟨rfl, c, hc2, rfl⟩ := y
    obtain ⟨x, h1, h2, h3⟩ := enc_at hc2
    rw [h2]
    exact hs i x σ' _ h1 h3 p) fun σ' H' p => hd σ' H' (by rw [enc_size] at p; exact p)⟩) hp hc hf
/-- .. a list -/
theorem ws_forL (he : JE X e σ H (.l ds)) (hg : PG X tg g) (Pv : Addr → List V → Nat → L2.St → Hp → Prop) (h0 : ∀ q vs H1, Same H H1 → H1 q = some (.lst vs) → Rps H1 ds vs → Pv q vs 0 σ H1)
    (hl : ∀ q vs i σ' H', Pv q vs i σ' H' → H' q = some (.lst vs) ∧ Rps H' ds vs)
    (hs : ∀ q vs i d v σ' H', ds[i]? = some d → Rp H' d v → Pv q vs i σ' H' → g v σ' H' fun σ2 H2 => wSs X body { Ds with nx := Pv q vs (i + 1), ct := Pv q vs (i + 1), bk := wSs X rest Ds } σ2 H2) (hd : ∀ q vs σ' H', Pv q vs ds.length σ' H' → wSs X rest Ds σ' H')
    (hp : PassesOwn (model X.prog X.w) X.A X.env X.xe := by exact PassesOwn.never) (hc : X.calm = true := by rfl) (hf : ∀ x, foldedSetIterable e X.env x = pure x := by intro _; rfl) : wSs X (.For tg e body [] pos :: rest) Ds σ H :=
  ws_for (pi_list wE_ok) hg (he.go fun v H1 s1 ⟨q, vs, ev, h1, h2⟩ => ⟨q, ev, ⟨vs, SqL.of h1⟩, for_it (walk_list (xs := vs)) (Pv q vs) (h0 q vs H1 s1 h1 h2) (fun i σ' H' _ p => SqL.of (hl q vs i σ' H' p).1) (fun i v2 σ' H' H'' hi p y => by
    obtain ⟨rfl, hv⟩ := y
    obtain ⟨d, q1, q2⟩ := (hl q vs i σ' _ p).2.back hv
    exact hs q vs i d v2 σ' _ q1 q2 p) fun σ' H' p => hd q vs σ' H' (by rw [h2.len] at p; exact p)⟩) hp hc hf
/-- .. a tuple -/
theorem ws_forT (he : JE X e σ H (.t ds)) (hg : PG X tg g) (Pv : Addr → List V → Nat → L2.St → Hp → Prop) (h0 : ∀ q vs H1, Same H H1 → H1 q = some (.tup vs) → Rps H1 ds vs → Pv q vs 0 σ H1)
    (hl : ∀ q vs i σ' H', Pv q vs i σ' H' → H' q = some (.tup vs) ∧ Rps H' ds vs)
    (hs : ∀ q vs i d v σ' H', ds[i]? = some d → Rp H' d v → Pv q vs i σ' H' → g v σ' H' fun σ2 H2 => wSs X body { Ds with nx := Pv q vs (i + 1), ct := Pv q vs (i + 1), bk := wSs X rest Ds } σ2 H2) (hd : ∀ q vs σ' H', Pv q vs ds.length σ' H' → wSs X rest Ds σ' H')
    (hp : PassesOwn (model X.prog X.w) X.A X.env X.xe := by exact PassesOwn.never) (hc : X.calm = true := by rfl) (hf : ∀ x, foldedSetIterable e X.env x = pure x := by intro _; rfl) : wSs X (.For tg e body [] pos :: rest) Ds σ H :=
  ws_for (pi_tup wE_ok) hg (he.go fun v H1 s1 ⟨q, vs, ev, h1, h2⟩ => ⟨q, ev, ⟨vs, SqT.of h1⟩, for_it (walk_tup (xs := vs)) (Pv q vs) (h0 q vs H1 s1 h1 h2) (fun i σ' H' _ p => SqT.of (hl q vs i σ' H' p).1) (fun i v2 σ' H' H'' hi p y => by
    obtain ⟨rfl, hv⟩ := y
    obtain ⟨d, q1, q2⟩ := (hl q vs i σ' _ p).2.back hv
    exact hs q vs i d v2 σ' _ q1 q2 p) fun σ' H' p => hd q vs σ' H' (by rw [h2.len] at p; exact p)⟩) hp hc hf
/-- for i in range(n) -/
theorem ws_forR {n : Int} {p : Pos} (hm : X.mg "range" = none) (he : JE X e σ H (.i n)) (hn : 0 ≤ n ∧ n ≤ 100000) (hg : PG X tg g) (Pv : Nat → L2.St → Hp → Prop) (h0 : ∀ H1, Same H H1 → Pv 0 σ H1)
    (hs : ∀ i σ' H', i < n.toNat → Pv i σ' H' → g (.int (i : Int)) σ' H' fun σ2 H2 => wSs X body { Ds with nx := Pv (i + 1), ct := Pv (i + 1), bk := wSs X rest Ds } σ2 H2) (hd : ∀ σ' H', Pv n.toNat σ' H' → wSs X rest Ds σ' H')
    {p3 : Pos} (hgl : Gl X "range" := by rfl) (hst : starEach [e] X.env = (false, eval e X.env) :: starEach [] X.env := by rfl) (hst2 : starEach [e] X.env = [(false, eval e X.env)] := by rfl)
    (hp : PassesOwn (model X.prog X.w) X.A X.env X.xe := by exact PassesOwn.never) (hc : X.calm = true := by rfl) (hf : ∀ x, foldedSetIterable (.Call (.Name "range" p) [e] [] p3) X.env x = pure x := by intro _; rfl) : wSs X (.For tg (.Call (.Name "range" p) [e] [] p3) body [] pos :: rest) Ds σ H :=
  ws_for (pi_range1 hgl hm (pa_cons wE_ok pa_nil hst) (hs := hst2)) hg (he.go fun v H1 s1 r1 => ⟨n, by rw [show v = .int n from r1], by omega, by omega, for_range (lo := 0) (n := n.toNat) Pv (h0 H1 s1) (fun i σ' H' hi q => by
    have := hs i σ' H' hi q
    rw [Int.zero_add]
    exact this) hd⟩) hp hc hf
/-- target names: a, b, c = a tuple of data -/
theorem gTup3 {K : PySem.W.Frag} {i j k : Nat} {d1 d2 d3 : D} {v : V} {Q : L2.St → Hp → Prop} (r : Rp H (.t [d1, d2, d3]) v) (h : ∀ v1 v2 v3, Rp H d1 v1 → Rp H d2 v2 → Rp H d3 v3 → Q (((σ.set i (some v1)).set j (some v2)).set k (some v3)) H) :
    gTup K 3 (gCons (gName i) (gCons (gName j) (gCons (gName k) gNil))) v σ H Q := by
  obtain ⟨p, vs, rfl, h1, h2⟩ := r
  obtain ⟨v1, v2, v3, rfl, r1, r2, r3⟩ := rps3 h2
  exact ⟨p, _, rfl, SqT.of h1, rfl, v1, _, rfl, v2, _, rfl, v3, _, rfl, rfl, h v1 v2 v3 r1 r2 r3⟩
theorem gTup2 {K : PySem.W.Frag} {i j : Nat} {d1 d2 : D} {v : V} {Q : L2.St → Hp → Prop} (r : Rp H (.t [d1, d2]) v) (h : ∀ v1 v2, Rp H d1 v1 → Rp H d2 v2 → Q ((σ.set i (some v1)).set j (some v2)) H) :
    gTup K 2 (gCons (gName i) (gCons (gName j) gNil)) v σ H Q := by
  obtain ⟨p, vs, rfl, h1, h2⟩ := r
  obtain ⟨v1, v2, rfl, r1, r2⟩ := rps2 h2
  exact ⟨p, _, rfl, SqT.of h1, rfl, v1, _, rfl, v2, _, rfl, rfl, h v1 v2 r1 r2⟩
/-- x, y = e | x, y, z = e -/
theorem ws_asg {te : Expr} (he : JE X e σ H d) (hg : PG X te g) (k : ∀ v H1, Same H H1 → Rp H1 d v → g v σ H1 (wSs X rest Ds)) (hs : swapsWithSole [te] e pos.line X.env = pure false := by rfl) (hw : swappedStores [te] e X.env = pure none := by rfl)
    (h1 : (assignEach [te] X.env).map (·.2) = [assign te X.env] := by rfl) : wSs X (.Assign [te] e pos :: rest) Ds σ H := ws_cons (ps_asg wE_ok hg hs hw h1) (he.go k)
/-- l.pop(), its value not used -/
theorem ws_pop {o : Expr} {apos cpos : Pos} {l : Addr} {vs : List V} {v : V} (ho : ∀ H1, Same H H1 → ∀ Q : VK, (∀ H2, Same H1 H2 → Q (.ref l) H2) → wE X o σ H1 Q) (hl : H l = some (.lst (vs ++ [v]))) (k : ∀ H1, Same H H1 → wSs X rest Ds σ (upd H1 l (.lst vs)))
    (hbase : attributeBase o "pop" X.env (eval o X.env) = eval o X.env := by rfl) (hline : (apos.endLine == cpos.line) = true := by rfl)
    (hsw : swapsWith (.Call (.Attribute o "pop" apos) [] [] cpos) none pos.line X.env = pure false := by rfl) : wSs X (.Expr (.Call (.Attribute o "pop" apos) [] [] cpos) pos :: rest) Ds σ H :=
  ws_exprE ⟨_, pe_bm0 PySem.F.plainAttrs_list PySem.F.slot_list_pop PySem.F.type_list_pop mt_pop wE_ok hbase hline,
    ho H (Same.refl _) _ fun H2 s2 => ⟨.inl ⟨rfl, _, SqL.of (s2 _ _ hl)⟩, l, _, v, rfl, rfl, s2 _ _ hl, by simp, by rw [List.dropLast_concat]; exact k H2 s2⟩⟩ hsw
/-- a comprehension over what is walked, its element data: D holds es i behind i turns -/
theorem lc_data {J : It} {n : Nat} {Y : Nat → Hp → V → Hp → Prop} {G : Hp → Prop} {tt : TT} {te : TE} {vs : List Nat} {H1 : Hp} {Dl : Addr} {Qd : Hp → Prop} (w : Walk J n G Y) (es : Nat → List D) (e0 : es 0 = []) (hz : ∀ i, i ≤ n → (es i).length ≤ 50000) (hi : ∀ i, i ≤ n → imms (es i) = true) (hD : H1 Dl = none) (hG : ∀ H', Same H1 H' → G H')
    (hs : ∀ i x H' H'', i < n → Same H1 H' → Y i H' x H'' → g x (wipe σ vs) H'' fun σ2 H2 => wipe σ2 vs = wipe σ vs ∧ Same H' H2 ∧ ((∃ d, es (i + 1) = es i ++ [d] ∧ (∀ H3, Same H2 H3 → ∀ Q : Bool → Hp → Prop, (∀ H4, Same H3 H4 → Q true H4) → tt σ2 H3 Q) ∧ ∀ H3, Same H2 H3 → ∀ Q : VK, (∀ v H4, Same H3 H4 → Rp H4 d v → Q v H4) → te σ2 H3 Q) ∨
      (es (i + 1) = es i ∧ ∀ H3, Same H2 H3 → ∀ Q : Bool → Hp → Prop, (∀ H4, Same H3 H4 → Q false H4) → tt σ2 H3 Q)))
    (mono : ∀ x σ' H' Q Q', (∀ σ2 H2, Q σ2 H2 → Q' σ2 H2) → g x σ' H' Q → g x σ' H' Q')
    (hd : ∀ us H', Same H1 H' → H' Dl = some (.lst us) → Rps H' (es n) us → Qd H') :
    ∃ W : Nat → Nat → Hp → Prop, (∃ m, W 0 m (upd H1 Dl (.lst []))) ∧ ∀ i m H, W i m H →
      (J.stop i H ∧ Qd H) ∨ (J.go i H ∧ ∃ Nx : Hp → Prop, (∀ H', Nx H' → ∃ m', m' < m ∧ W (i + 1) m' H') ∧ ∀ x H', J.yld i H x H' → g x (wipe σ vs) H' fun σ2 H2 => wipe σ2 vs = wipe σ vs ∧ tt σ2 H2 fun b H3 =>
        if b = true then te σ2 H3 fun y H4 => ∃ acc, H4 Dl = some (.lst acc) ∧ acc.length < sizeLine ∧ Nx (upd H4 Dl (.lst (acc ++ [y]))) else Nx H3) := by
  refine lc_it w (fun i H' => ∃ us, Same H1 H' ∧ H' Dl = some (.lst us) ∧ Rps H' (es i) us) ⟨[], same_new hD, upd_same, by rw [e0]; exact rfl⟩ (fun i H' _ ⟨us, s, _, _⟩ => hG H' s) (fun i x H' H'' hlt ⟨us, s, h1, h2⟩ y => ?_) fun H' ⟨us, s, h1, h2⟩ => hd us H' s h1 h2
  refine mono _ _ _ _ _ (fun σ2 H2 ⟨ew, s2, alt⟩ => ⟨ew, ?_⟩) (hs i x H' H'' hlt s y)
  rcases alt with ⟨d, ed, ht, he⟩ | ⟨ed, ht⟩
  · refine ht H2 (Same.refl _) _ fun H3 s3 => ?_
    show te σ2 H3 _
    refine he H3 s3 _ fun v H4 s4 r => ⟨us, s4 _ _ (s3 _ _ (s2 _ _ h1)), sz5' (by rw [h2.len]; have := hz i (by omega); omega), us ++ [v], Same.mut (((s.trans s2).trans s3).trans s4) hD, upd_same, ?_⟩
    refine Rps.imm (keepT_lst (s4 _ _ (s3 _ _ (s2 _ _ h1)))) (hi (i + 1) hlt) ?_
    rw [ed]
    exact Rps.app (h2.mono ((s2.trans s3).trans s4)) (.cons r rfl)
  · refine ht H2 (Same.refl _) _ fun H3 s3 => ?_
    show ∃ us, _
    exact ⟨us, (s.trans s2).trans s3, s3 _ _ (s2 _ _ h1), by rw [ed]; exact h2.mono (s2.trans s3)⟩
end
end FW
/-! comprehensions of data -/
namespace FW
open PySem L2
def GMono (g : TG) : Prop := ∀ v σ H (Q Q' : L2.St → Hp → Prop), (∀ σ2 H2, Q σ2 H2 → Q' σ2 H2) → g v σ H Q → g v σ H Q'
theorem gm_name {i : Nat} : GMono (gName i) := fun _ _ _ _ _ k h => k _ _ h
theorem gm_tup3 {K : PySem.W.Frag} {i j k : Nat} : GMono (gTup K 3 (gCons (gName i) (gCons (gName j) (gCons (gName k) gNil)))) := fun v σ H Q Q' m h => by
  obtain ⟨a, xs, e, hq, hl, v1, r1, e1, v2, r2, e2, v3, r3, e3, e4, q⟩ := h
  exact ⟨a, xs, e, hq, hl, v1, r1, e1, v2, r2, e2, v3, r3, e3, e4, m _ _ q⟩
theorem gm_tup2 {K : PySem.W.Frag} {i j : Nat} : GMono (gTup K 2 (gCons (gName i) (gCons (gName j) gNil))) := fun v σ H Q Q' m h => by
  obtain ⟨a, xs, e, hq, hl, v1, r1, e1, v2, r2, e2, e4, q⟩ := h
  exact ⟨a, xs, e, hq, hl, v1, r1, e1, v2, r2, e2, e4, m _ _ q⟩
section
variable {X : Cx} {e elt iter tg : Expr} {σ : L2.St} {H : Hp} {d : D} {ds items es : List D} {pos : Pos} {g : TG} {scope : Scope}
/-- the iterable walks over data -/
def JI (X : Cx) (tg iter : Expr) (σ : L2.St) (H : Hp) (items : List D) : Prop := ∃ wi, PI X tg iter wi ∧ ∀ H1, Same H H1 → ∀ R : It → Hp → Prop,
  (∀ J H2, Same H1 H2 → Walk J items.length (Same H2) (fun i Ha v Hb => Hb = Ha ∧ ∃ d, items[i]? = some d ∧ Rp H2 d v) → R J H2) → wi σ H1 R
theorem ji_list (he : JE X e σ H (.l ds)) : JI X tg e σ H ds := ⟨_, pi_list wE_ok, fun H1 s1 R k => he H1 s1 _ fun v H2 s2 ⟨q, vs, ev, h1, h2⟩ => ⟨q, ev, ⟨vs, SqL.of h1⟩, k _ H2 s2 (by
  rw [← h2.len]
  exact (walk_list (K := X.K) (a := q) (xs := vs)).mono (fun H' s => SqL.of (s _ _ h1)) fun i H' x H'' hi s y => ⟨y.1, h2.back y.2⟩)⟩⟩
theorem ji_tup (he : JE X e σ H (.t ds)) : JI X tg e σ H ds := ⟨_, pi_tup wE_ok, fun H1 s1 R k => he H1 s1 _ fun v H2 s2 ⟨q, vs, ev, h1, h2⟩ => ⟨q, ev, ⟨vs, SqT.of h1⟩, k _ H2 s2 (by
  rw [← h2.len]
  exact (walk_tup (K := X.K) (a := q) (xs := vs)).mono (fun H' s => SqT.of (s _ _ h1)) fun i H' x H'' hi s y => ⟨y.1, h2.back y.2⟩)⟩⟩
theorem ji_row {ns : List Nat} (he : JE X e σ H (.r ns)) : JI X tg e σ H ((ns.map Int.ofNat).map D.i) := ⟨_, pi_tup wE_ok, fun H1 s1 R k => he H1 s1 _ fun v H2 s2 ⟨q, ob, ev, h1, _⟩ => ⟨q, ev, ⟨_, .inl (.inr ⟨ob, h1⟩)⟩, k _ H2 s2 (by
  have hl : ((ns.map Int.ofNat).map D.i).length = ((ns.map Int.ofNat).map V.int).length := by simp
  rw [hl]
  exact (walk_tup (K := X.K) (a := q) (xs := (ns.map Int.ofNat).map V.int)).mono (fun H' s => .inl (.inr ⟨ob, s _ _ h1⟩)) fun i H' x H'' hi s y => ⟨y.1, (rps_ints (H := H2) (ns.map Int.ofNat)).back y.2⟩)⟩⟩
theorem ji_word {w : Wd} (he : JE X e σ H (wD w)) : JI X tg e σ H (w.map fun x => wD [x]) := ⟨_, pi_str wE_ok, fun H1 s1 R k => he H1 s1 _ fun v H2 s2 r => ⟨enc w, r, k _ H2 s2 (by
  have hl : (w.map fun x => wD [x]).length = (enc w).cps.size := by rw [enc_size, List.length_map]
  rw [hl]
  exact walk_str.mono (fun _ _ => trivial) fun i H' x H'' hi s y => by
    obtain ⟨e1, c, hc, e2⟩ := y
    obtain ⟨z, h1, h2, _⟩ := enc_at hc
    exact ⟨e1, wD [z], by rw [List.getElem?_map, h1] <;> rfl, by rw [e2, h2] <;> rfl⟩)⟩⟩
theorem ji_range {n : Nat} {p p3 : Pos} (hm : X.mg "range" = none) (he : JE X e σ H (.i (n : Int))) (hn : n ≤ 100000) (hgl : Gl X "range" := by rfl) (hst : starEach [e] X.env = (false, eval e X.env) :: starEach [] X.env := by rfl) (hst2 : starEach [e] X.env = [(false, eval e X.env)] := by rfl) :
    JI X tg (.Call (.Name "range" p) [e] [] p3) σ H ((List.range n).map fun i : Nat => D.i (i : Int)) := ⟨_, pi_range1 hgl hm (pa_cons wE_ok pa_nil hst) (hs := hst2), fun H1 s1 R k => he H1 s1 _ fun v H2 s2 r => ⟨n, by rw [show v = .int n from r], by omega, by omega, k _ H2 s2 (by
  have hl : ((List.range n).map fun i : Nat => D.i (i : Int)).length = ((n : Int)).toNat := by simp
  rw [hl]
  exact walk_range.mono (fun _ _ => trivial) fun i H' x H'' hi s y => by
    refine ⟨y.1, .i (i : Int), ?_, ?_⟩
    · rw [List.getElem?_map, List.getElem?_range (by simpa using hi)] <;> rfl
    · rw [y.2]
      show V.int _ = V.int _
      congr 1
      omega)⟩⟩
/-- in the block of a comprehension -/
def wEb (X : Cx) (scope : Scope) (e : Expr) : TE := fun σ H Q => ∀ (s : Shared) (Hb : Hp) (C : Addr) (cl : List (Str × Addr)) (fp : List Addr), wE (X.blk s Hb scope (compEnvC scope cl C X.env) fp) e σ H Q
theorem wEb_ok (s : Shared) (Hb : Hp) (C : Addr) (cl : List (Str × Addr)) (fp : List Addr) : PE (X.blk s Hb scope (compEnvC scope cl C X.env) fp) e (wEb X scope e) :=
  ⟨fun pins sh σ H Q I h => wE_ok.run pins sh σ H Q I (h s Hb C cl fp)⟩
def JEb (X : Cx) (scope : Scope) (e : Expr) (σ : L2.St) (H : Hp) (d : D) : Prop := ∀ (s : Shared) (Hb : Hp) (C : Addr) (cl : List (Str × Addr)) (fp : List Addr), JE (X.blk s Hb scope (compEnvC scope cl C X.env) fp) e σ H d
def wTb (X : Cx) (scope : Scope) (e : Expr) : TT := fun σ H Q => ∀ (s : Shared) (Hb : Hp) (C : Addr) (cl : List (Str × Addr)) (fp : List Addr), wT (X.blk s Hb scope (compEnvC scope cl C X.env) fp) e σ H Q
theorem wTb_ok (s : Shared) (Hb : Hp) (C : Addr) (cl : List (Str × Addr)) (fp : List Addr) : PT (X.blk s Hb scope (compEnvC scope cl C X.env) fp) e (wTb X scope e) :=
  ⟨fun pins sh σ H Q I h => wT_ok.run pins sh σ H Q I (h s Hb C cl fp)⟩
def JTb (X : Cx) (scope : Scope) (e : Expr) (σ : L2.St) (H : Hp) (c : Bool) : Prop := ∀ (s : Shared) (Hb : Hp) (C : Addr) (cl : List (Str × Addr)) (fp : List Addr), JT (X.blk s Hb scope (compEnvC scope cl C X.env) fp) e σ H c
/-- [elt for tg in iter] -/
theorem lc_reads {own : List (Str × Nat)} (hi : JI X tg iter σ H items) (hl : es.length = items.length) (hz : es.length ≤ 50000) (him : imms es = true) (gm : GMono g)
    (hel : ∀ (i : Nat) (d r : D) (v : V) (H2 : Hp), items[i]? = some d → es[i]? = some r → Same H H2 → Rp H2 d v → g v (wipe σ (own.map (·.2))) H2 fun σ2 H3 => wipe σ2 (own.map (·.2)) = wipe σ (own.map (·.2)) ∧ H3 = H2 ∧ JEb X scope elt σ2 H2 r) :
    ∃ wi, PI X tg iter wi ∧ ∀ H1, Same H H1 → ∀ Q : VK, (∀ p vs H2, H1 p = none → Same H1 H2 → H2 p = some (.lst vs) → Rps H2 es vs → Q (.ref p) H2) → tLc wi g tYes (wEb X scope elt) (own.map (·.2)) σ H1 Q := by
  obtain ⟨wi, hwi, hr⟩ := hi
  refine ⟨wi, hwi, fun H1 s1 Q k => hr H1 s1 _ fun J H2 s2 w Dl hD => ?_⟩
  refine lc_data w (fun i => es.take i) (by simp) (fun i _ => by rw [List.length_take]; omega) (fun i _ => ?_) hD (fun H' s => s) (fun i x H' H'' hlt s y => ?_) (fun x σ' H' Q Q' m h => gm x σ' H' Q Q' m h) fun us H' s h1 h2 => ?_
  · have h := List.take_append_drop i es
    have h3 : imms (es.take i ++ es.drop i) = true := by rw [h]; exact him
    rw [imms_app, Bool.and_eq_true] at h3
    exact h3.1
  · obtain ⟨rfl, d, hd, hdr⟩ := y
    have hie : i < es.length := by omega
    have he : es[i]? = some es[i] := List.getElem?_eq_getElem hie
    refine gm _ _ _ _ _ (fun σ2 H3 ⟨ew, e3, je⟩ => ?_) (hel i d _ x _ hd he ((s1.trans s2).trans s) (hdr.mono s))
    subst e3
    refine ⟨ew, Same.refl _, .inl ⟨es[i], by rw [List.take_succ, he] <;> rfl, fun H4 s4 Q q => q H4 (Same.refl _), fun H4 s4 Q q => fun sh Hb C cl fp => je sh Hb C cl fp H4 s4 Q q⟩⟩
  · refine k Dl us H' (Same.free s2 hD) (s2.trans s) h1 ?_
    have : es.take items.length = es := List.take_of_length_le (by omega)
    rw [this] at h2
    exact h2
theorem jf_lc {own : List (Str × Nat)} (nd : X.N.Nodup) (ok : BlkOk X.N X.env.scope scope own) (hi : JI X tg iter σ H items) (hl : es.length = items.length) (hz : es.length ≤ 50000) (him : imms es = true) (gm : GMono g)
    (hg : ∀ (s : Shared) (H : Hp) (C : Addr) (cl : List (Str × Addr)) (fp : List Addr), PG (X.blk s H scope (compEnvC scope cl C X.env) fp) tg g)
    (hel : ∀ (i : Nat) (d r : D) (v : V) (H2 : Hp), items[i]? = some d → es[i]? = some r → Same H H2 → Rp H2 d v → g v (wipe σ (own.map (·.2))) H2 fun σ2 H3 => wipe σ2 (own.map (·.2)) = wipe σ (own.map (·.2)) ∧ H3 = H2 ∧ JEb X scope elt σ2 H2 r)
    (hc : X.calm = true := by rfl) (hs : ∀ x, foldedSetIterable iter X.env x = pure x := by intro _; rfl) : JF X (.ListComp elt [⟨tg, iter, [], 0⟩] scope pos) σ H es := by
  obtain ⟨wi, hwi, h⟩ := lc_reads (scope := scope) (elt := elt) (own := own) hi hl hz him gm hel
  exact fun H1 s1 Q k => ⟨_, pe_lc hc nd hwi ok hg (fun _ _ _ _ _ => pts_nil) wEb_ok hs, h H1 s1 Q k⟩
/-- name = [elt for tg in iter] -/
theorem ws_setLc {own : List (Str × Nat)} {rest : List Stmt} {Ds : Ends} {y : Str} {py spos : Pos} (j : Nat) (nd : X.N.Nodup) (ok : BlkOk X.N X.env.scope scope own) (hi : JI X tg iter σ H items) (hl : es.length = items.length) (hz : es.length ≤ 50000) (him : imms es = true) (gm : GMono g)
    (hg : ∀ (s : Shared) (H : Hp) (C : Addr) (cl : List (Str × Addr)) (fp : List Addr), PG (X.blk s H scope (compEnvC scope cl C X.env) fp) tg g)
    (hel : ∀ (i : Nat) (d r : D) (v : V) (H2 : Hp), items[i]? = some d → es[i]? = some r → Same H H2 → Rp H2 d v → g v (wipe σ (own.map (·.2))) H2 fun σ2 H3 => wipe σ2 (own.map (·.2)) = wipe σ (own.map (·.2)) ∧ H3 = H2 ∧ JEb X scope elt σ2 H2 r)
    (k : ∀ p vs H1, H p = none → Same H H1 → H1 p = some (.lst vs) → Rps H1 es vs → wSs X rest Ds (σ.set j (some (.ref p))) H1)
    (hsw : swapsWith (.ListComp elt [⟨tg, iter, [], 0⟩] scope pos) (some (.Name y py)) spos.line X.env = pure true) (hy : X.N[j]? = some y := by rfl) (hyl : X.env.scope.names.lookup y = some .local := by rfl)
    (hc : X.calm = true := by rfl) (hs : ∀ x, foldedSetIterable iter X.env x = pure x := by intro _; rfl) : wSs X (.Assign [.Name y py] (.ListComp elt [⟨tg, iter, [], 0⟩] scope pos) spos :: rest) Ds σ H := by
  obtain ⟨wi, hwi, h⟩ := lc_reads (scope := scope) (elt := elt) (own := own) hi hl hz him gm hel
  exact ws_cons (ps_setLc hc nd hy hyl hsw hwi ok hg (fun _ _ _ _ _ => pts_nil) wEb_ok hs) (h H (Same.refl _) _ k)
end
end FW
/-! the text by places, what the top has left -/
namespace FW
open PySem L2
def topS (i : Nat) : Stmt := PySem.Challenge.pw_foldedways_k43_whole_words_of_words.main.body.getD i (.Pass ⟨0, 0, 0, 0⟩)
/-- a def of the text as it stands behind the top -/
structure Df (K : PySem.W.Frag) (mg : Str → Option Value) (g x qual : Str) (st : Stmt) (ps : List Str) where
  f : Addr
  fd : FuncData
  F : Fun K x qual st f fd
  b : Binds K fd ps []
  m : mg g = some (.ref f)
structure Mf (K : PySem.W.Frag) (C : Addr) (x qual : Str) (st : Stmt) (ps : List Str) where
  f : Addr
  fd : FuncData
  F : Fun K x qual st f fd
  b : Binds K fd ps []
  m : Meth K C x f
structure Txt (K : PySem.W.Frag) (mg : Str → Option Value) where
  C : Addr
  cl : Cls K C
  mgC : mg "Folding" = some (.ref C)
  n_prefixes : NoAttr K C "prefixes"
  n_edges : NoAttr K C "edges"
  n_parents : NoAttr K C "parents"
  n_links : NoAttr K C "links"
  n_steps : NoAttr K C "steps"
  is_between : Df K mg "is_between" "is_between" "is_between" (topS 7) ["value", "low", "high"]
  is_rank : Df K mg "is_rank" "is_rank" "is_rank" (topS 8) ["value"]
  letters_of : Df K mg "letters_of" "letters_of" "letters_of" (topS 9) ["rank"]
  is_letters : Df K mg "is_letters" "is_letters" "is_letters" (topS 10) ["value", "rank"]
  is_word : Df K mg "is_word" "is_word" "is_word" (topS 11) ["value", "rank"]
  opposite_of : Df K mg "opposite_of" "opposite_of" "opposite_of" (topS 12) ["letter"]
  reduce_of : Df K mg "reduce_of" "reduce_of" "reduce_of" (topS 13) ["word"]
  inverse_of : Df K mg "inverse_of" "inverse_of" "inverse_of" (topS 14) ["word"]
  is_integer_actions : Df K mg "is_integer_actions" "is_integer" "is_integer" (topS 18) ["value"]
  is_permutation : Df K mg "is_permutation" "is_permutation" "is_permutation" (topS 20) ["value", "many"]
  is_action : Df K mg "is_action" "is_action" "is_action" (topS 21) ["value", "rank"]
  image_by : Df K mg "image_by" "image_by" "image_by" (topS 22) ["action", "point", "letter"]
  image_of : Df K mg "image_of" "image_of" "image_of" (topS 23) ["action", "point", "word"]
  returns_in : Df K mg "returns_in" "returns_in" "returns_in" (topS 24) ["action", "word"]
  is_family : Df K mg "is_family" "is_family" "is_family" (topS 28) ["value"]
  check_family : Df K mg "check_family" "check_family" "check_family" (topS 29) ["family"]
  opposite : Df K mg "opposite" "opposite" "opposite" (topS 30) ["factors"]
  shortened : Df K mg "shortened" "shortened" "shortened" (topS 31) ["factors"]
  Finit : Mf K C "__init__" "Folding.__init__" (inClass (topS 32) 0) ["self", "words"]
  Fadd_petal : Mf K C "add_petal" "Folding.add_petal" (inClass (topS 32) 1) ["self", "word"]
  Froot : Mf K C "root" "Folding.root" (inClass (topS 32) 2) ["self", "point"]
  Fchain : Mf K C "chain" "Folding.chain" (inClass (topS 32) 3) ["self", "point"]
  Flink : Mf K C "link" "Folding.link" (inClass (topS 32) 4) ["self", "point", "lower", "factors"]
  Fmerge : Mf K C "merge" "Folding.merge" (inClass (topS 32) 5) ["self", "one", "other", "factors"]
  Ffold_two : Mf K C "fold_two" "Folding.fold_two" (inClass (topS 32) 6) ["self", "first", "second"]
  Ffold_all : Mf K C "fold_all" "Folding.fold_all" (inClass (topS 32) 7) ["self"]
  numbered : Df K mg "numbered" "numbered" "numbered" (topS 33) ["edges"]
  fold : Df K mg "fold" "fold" "fold" (topS 34) ["rank", "words"]
  check_word : Df K mg "check_word" "check_word" "check_word" (topS 36) ["family", "word"]
  ways_in : Df K mg "ways_in" "ways_in" "ways_in" (topS 37) ["graph"]
  graph_in : Df K mg "graph_in" "graph_in" "graph_in" (topS 38) ["family"]
  attach : Df K mg "attach" "attach" "attach" (topS 41) ["graph", "word"]
  images_of : Df K mg "images_of" "images_of" "images_of" (topS 42) ["graph", "letter"]
  complete : Df K mg "complete" "complete" "complete" (topS 43) ["rank", "graph"]
  against : Df K mg "against" "against" "against" (topS 44) ["family", "word"]
  is_against : Df K mg "is_against" "is_against" "is_against" (topS 45) ["family", "word", "value"]
  is_integer_derivations : Df K mg "is_integer_derivations" "is_integer" "is_integer" (topS 50) ["value"]
  is_factor : Df K mg "is_factor" "is_factor" "is_factor" (topS 52) ["family", "index", "value"]
  is_reduced : Df K mg "is_reduced" "is_reduced" "is_reduced" (topS 53) ["family", "value"]
  is_step : Df K mg "is_step" "is_step" "is_step" (topS 54) ["family", "index", "value"]
  value_of : Df K mg "value_of" "value_of" "value_of" (topS 55) ["family", "steps", "factor"]
  made_of : Df K mg "made_of" "made_of" "made_of" (topS 56) ["family", "steps", "factors"]
  holds : Df K mg "holds" "holds" "holds" (topS 57) ["family", "value"]
  is_right : Df K mg "is_right" "is_right" "is_right" (topS 58) ["family", "word", "value"]
  next_edge : Df K mg "next_edge" "next_edge" "next_edge" (topS 59) ["folding", "here", "letter"]
  traced : Df K mg "traced" "traced" "traced" (topS 60) ["folding", "word"]
  derive : Df K mg "derive" "derive" "derive" (topS 61) ["family", "word"]
  trim : Df K mg "trim" "trim" "trim" (topS 62) ["steps"]
  renamed : Df K mg "renamed" "renamed" "renamed" (topS 63) ["factors", "kept"]
  answer_of : Df K mg "answer_of" "answer_of" "answer_of" (topS 65) ["family", "word"]
  answer_for : Df K mg "answer_for" "answer_for" "answer_for" (topS 66) ["family", "word"]
  is_answer : Df K mg "is_answer" "is_answer" "is_answer" (topS 67) ["family", "word", "value"]
  accepts_answer : Df K mg "accepts_answer" "accepts_answer" "accepts_answer" (topS 68) ["family", "word", "value"]
  law_stream : Df K mg "_law_stream" "_law_stream" "_law_stream" (topS 70) ["_law_script"]
  law_next : Df K mg "_law_next" "_law_next" "_law_next" (topS 71) ["_law_stream_here", "_law_many"]
  law_flip : Df K mg "_law_flip" "_law_flip" "_law_flip" (topS 73) ["_law_letter"]
  law_reduce : Df K mg "_law_reduce" "_law_reduce" "_law_reduce" (topS 74) ["_law_word_here"]
  law_inverse : Df K mg "_law_inverse" "_law_inverse" "_law_inverse" (topS 75) ["_law_word_here"]
  law_letters : Df K mg "_law_letters" "_law_letters" "_law_letters" (topS 76) ["_law_rank"]
  law_word : Df K mg "_law_word" "_law_word" "_law_word" (topS 77) ["_law_stream_here", "_law_rank", "_law_most"]
  law_given : Df K mg "_law_given" "_law_given" "_law_given" (topS 79) ["_law_stream_here", "_law_rank"]
  law_image : Df K mg "_law_image" "_law_image" "_law_image" (topS 87) ["_law_action_here", "_law_point", "_law_word_here"]
  law_action : Df K mg "_law_action" "_law_action" "_law_action" (topS 91) ["_law_stream_here", "_law_rank"]
  law_ : Df K mg "law" "law" "law" (topS 92) ["_law_script"]
  mkC : Mk K C Finit.f
  g_LETTERS : ∃ t, mg "LETTERS" = some (.str "aAbBcC" t)
  g_MOST_RANK : ∃ t, mg "MOST_RANK" = some (.int 3 t)
  g_LONGEST : ∃ t, mg "LONGEST" = some (.int 24 t)
  g_MOST_POINTS : ∃ t, mg "MOST_POINTS" = some (.int 60 t)
  g_SMALL_actions : ∃ t, mg "SMALL_actions" = some (.str "abc" t)
  g_MOST_GIVEN : ∃ t, mg "MOST_GIVEN" = some (.int 4 t)
  g_MOST_LETTERS_folding : ∃ t, mg "MOST_LETTERS_folding" = some (.int 8 t)
  g_SMALL_completing : ∃ t, mg "SMALL_completing" = some (.str "abc" t)
  g_MOST_STEPS : ∃ t, mg "MOST_STEPS" = some (.int 100 t)
  g_MOST_FACTORS : ∃ t, mg "MOST_FACTORS" = some (.int 2000 t)
  g_MOST_LETTERS_derivations : ∃ t, mg "MOST_LETTERS_derivations" = some (.int 100 t)
  b_isinstance : mg "isinstance" = none
  b_len : mg "len" = none
  b_all : mg "all" = none
  b_sorted : mg "sorted" = none
  b_list : mg "list" = none
  b_tuple : mg "tuple" = none
  b_range : mg "range" = none
  b_abs : mg "abs" = none
  b_int : mg "int" = none
  b_str : mg "str" = none
  b_bool : mg "bool" = none
  b_enumerate : mg "enumerate" = none
end FW
/-! chains, data compared -/
namespace FW
open PySem L2
section
variable {X : Cx} {a b c : Expr} {σ : L2.St} {H : Hp} {pos : Pos} {i j k : Int}
theorem je_chain {op op' : CmpOp} {r r' : R2} {x y : Bool} {d1 d2 d3 : D} (ho : OpR X (compareOp op) r) (ho' : OpR X (compareOp op') r') (ha : JE X a σ H d1) (hb : JE X b σ H d2) (hc : JE X c σ H d3)
    (h1 : ∀ H2 u v (Q : VK), Rp H2 d1 u → Rp H2 d2 v → (∀ w, w = .bl x → Q w H2) → r u v H2 Q) (h2 : ∀ H2 u v (Q : VK), Rp H2 d2 u → Rp H2 d3 v → (∀ w, w = .bl y → Q w H2) → r' u v H2 Q) (hm : lastMarks [op, op'] [b, c] = false := by with_unfolding_all rfl) :
    JE X (.Compare a [op, op'] [b, c] pos) σ H (.b (x && y)) :=
  je_by (pe_chain ho ho' wE_ok wE_ok wE_ok hm) fun H1 e1 Q q => ha H1 e1 _ fun u H2 e2 ru => hb H2 (e1.trans e2) _ fun v H3 e3 rv => h1 H3 u v _ (ru.mono e3) rv fun w ew => ⟨x, ew, by
    cases x with
    | true => exact hc H3 ((e1.trans e2).trans e3) _ fun z H4 e4 rz => h2 H4 v z _ (rv.mono e4) rz fun w ew => q _ _ ((e2.trans e3).trans e4) ew
    | false => exact q _ _ (e2.trans e3) rfl⟩
theorem je_leLe (ha : JE X a σ H (.i i)) (hb : JE X b σ H (.i j)) (hc : JE X c σ H (.i k)) (hm : lastMarks [.LtE, .LtE] [b, c] = false := by with_unfolding_all rfl) : JE X (.Compare a [.LtE, .LtE] [b, c] pos) σ H (.b (decide (i ≤ j) && decide (j ≤ k))) :=
  je_chain op_le op_le ha hb hc (fun _ _ _ _ ru rv q => ⟨i, j, ru, rv, q _ rfl⟩) (fun _ _ _ _ ru rv q => ⟨j, k, ru, rv, q _ rfl⟩) hm
theorem je_leLt (ha : JE X a σ H (.i i)) (hb : JE X b σ H (.i j)) (hc : JE X c σ H (.i k)) (hm : lastMarks [.LtE, .Lt] [b, c] = false := by with_unfolding_all rfl) : JE X (.Compare a [.LtE, .Lt] [b, c] pos) σ H (.b (decide (i ≤ j) && decide (j < k))) :=
  je_chain op_le op_lt ha hb hc (fun _ _ _ _ ru rv q => ⟨i, j, ru, rv, q _ rfl⟩) (fun _ _ _ _ ru rv q => ⟨j, k, ru, rv, q _ rfl⟩) hm
end
section
variable {X : Cx} {a b c d : Expr} {σ : L2.St} {H : Hp} {pos : Pos} {x y z u r : Bool}
/-- two, three, four tests; r is what is wanted of them together -/
theorem jt_and2 (h1 : JT X a σ H x) (h2 : x = true → JT X b σ H y) (e : (x && y) = r) : JT X (.BoolOp .And [a, b] pos) σ H r := JT.of (JW.t (jw_and h1 fun q => jw_and1 (h2 q))) e
theorem jt_or2 (h1 : JT X a σ H x) (h2 : x = false → JT X b σ H y) (e : (x || y) = r) : JT X (.BoolOp .Or [a, b] pos) σ H r := JT.of (JW.t (jw_or h1 fun q => jw_or1 (h2 q))) e
theorem jt_or3 (h1 : JT X a σ H x) (h2 : x = false → JT X b σ H y) (h3 : x = false → y = false → JT X c σ H z) (e : (x || (y || z)) = r) : JT X (.BoolOp .Or [a, b, c] pos) σ H r := JT.of (JW.t (jw_or h1 fun q => jw_or (h2 q) fun p => jw_or1 (h3 q p))) e
theorem jt_or4 (h1 : JT X a σ H x) (h2 : x = false → JT X b σ H y) (h3 : x = false → y = false → JT X c σ H z) (h4 : x = false → y = false → z = false → JT X d σ H u) (e : (x || (y || (z || u))) = r) : JT X (.BoolOp .Or [a, b, c, d] pos) σ H r :=
  JT.of (JW.t (jw_or h1 fun q => jw_or (h2 q) fun p => jw_or (h3 q p) fun o => jw_or1 (h4 q p o))) e
theorem jt_and3 (h1 : JT X a σ H x) (h2 : x = true → JT X b σ H y) (h3 : x = true → y = true → JT X c σ H z) (e : (x && (y && z)) = r) : JT X (.BoolOp .And [a, b, c] pos) σ H r := JT.of (JW.t (jw_and h1 fun q => jw_and (h2 q) fun p => jw_and1 (h3 q p))) e
theorem je_and2 (h1 : JE X a σ H (.b x)) (h2 : x = true → JE X b σ H (.b y)) (e : (x && y) = r) : JE X (.BoolOp .And [a, b] pos) σ H (.b r) := JE.of (je_and h1 fun q => je_one (h2 q)) (congrArg D.b e)
theorem je_and3 (h1 : JE X a σ H (.b x)) (h2 : x = true → JE X b σ H (.b y)) (h3 : x = true → y = true → JE X c σ H (.b z)) (e : (x && (y && z)) = r) : JE X (.BoolOp .And [a, b, c] pos) σ H (.b r) := JE.of (je_and h1 fun q => je_and (h2 q) fun p => je_one (h3 q p)) (congrArg D.b e)
theorem je_or2 (h1 : JE X a σ H (.b x)) (h2 : x = false → JE X b σ H (.b y)) (e : (x || y) = r) : JE X (.BoolOp .Or [a, b] pos) σ H (.b r) := JE.of (je_or h1 fun q => je_one (h2 q)) (congrArg D.b e)
end
section
variable {X : Cx} {a : Expr} {σ : L2.St} {H : Hp} {pos : Pos} {i : Int}
theorem je_neg (h : JE X a σ H (.i i)) : JE X (.UnaryOp .USub a pos) σ H (.i (-i)) := je_by (pe_un un_neg wE_ok) fun H1 e1 Q k => h H1 e1 _ fun v H2 e2 r => ⟨i, r, k _ H2 e2 rfl⟩
theorem je_m1 {k : Nat} {p : Pos} : JE X (.UnaryOp .USub (.Constant (.int 1) k p) pos) σ H (.i (-1)) := je_neg je_int
end
section
variable {X : Cx} {σ : L2.St} {H : Hp} {pos : Pos}
theorem je_tyInt (hm : X.mg "int" = none) (hg : Gl X "int" := by rfl) : JE X (.Name "int" pos) σ H (.ty "int") := je_ty hm (by decide +kernel) hg
theorem je_tyStr (hm : X.mg "str" = none) (hg : Gl X "str" := by rfl) : JE X (.Name "str" pos) σ H (.ty "str") := je_ty hm (by decide +kernel) hg
theorem je_tyBool (hm : X.mg "bool" = none) (hg : Gl X "bool" := by rfl) : JE X (.Name "bool" pos) σ H (.ty "bool") := je_ty hm (by decide +kernel) hg
theorem je_tyTup (hm : X.mg "tuple" = none) (hg : Gl X "tuple" := by rfl) : JE X (.Name "tuple" pos) σ H (.ty "tuple") := je_ty hm (by decide +kernel) hg
theorem kb_int (n : Int) : kitB (tyName (.i n)) "int" = some true := by show kitB "int" "int" = _; decide +kernel
theorem kb_intb (n : Int) : kitB (tyName (.i n)) "bool" = some false := by show kitB "int" "bool" = _; decide +kernel
theorem kb_str (x : Str) : kitB (tyName (.s x)) "str" = some true := by show kitB "str" "str" = _; decide +kernel
theorem kb_tup (ds : List D) : kitB (tyName (.t ds)) "tuple" = some true := by show kitB "tuple" "tuple" = _; decide +kernel
theorem kb_row (ds : List Nat) : kitB (tyName (.r ds)) "tuple" = some true := by show kitB "tuple" "tuple" = _; decide +kernel
end
section
variable {X : Cx} {o e : Expr} {es : List Expr} {σ : L2.St} {H : Hp} {pos : Pos} {d : D} {ds fs : List D}
/-- a def of the text called -/
theorem je_callD {φ : List D → D → Prop} {k : Nat} {g x q : Str} {st : Stmt} {ps : List Str} {p : Pos} (Dd : Df X.K X.mg g x q st ps) (G : FnOk X.prog X.w X.K X.mg X.base CX0 k Dd.f Dd.fd ps (spD φ)) (hr : Room k X.A) (ha : JA X (e :: es) σ H ds) (hφ : φ ds d)
    (hg : Gl X g := by rfl) (hdb : (g == ("__debug__" : Str)) = false := by decide) (he : starEach (e :: es) X.env = (false, eval e X.env) :: starEach es X.env := by rfl) (hpl : (backTo pos (starEach es X.env)).any (·.1) = false := by rfl) :
    JE X (.Call (.Name g p) (e :: es) [] pos) σ H d := je_call G hr Dd.m Dd.F.kp Dd.b pass0 ha hφ hg hdb he hpl
theorem jf_callD {φ : List D → List D → Prop} {k : Nat} {g x q : Str} {st : Stmt} {ps : List Str} {p : Pos} (Dd : Df X.K X.mg g x q st ps) (G : FnOk X.prog X.w X.K X.mg X.base CX0 k Dd.f Dd.fd ps (spF φ)) (hr : Room k X.A) (ha : JA X (e :: es) σ H ds) (hφ : φ ds fs)
    (hg : Gl X g := by rfl) (hdb : (g == ("__debug__" : Str)) = false := by decide) (he : starEach (e :: es) X.env = (false, eval e X.env) :: starEach es X.env := by rfl) (hpl : (backTo pos (starEach es X.env)).any (·.1) = false := by rfl) :
    JF X (.Call (.Name g p) (e :: es) [] pos) σ H fs := jf_call G hr Dd.m Dd.F.kp Dd.b pass0 ha hφ hg hdb he hpl
/-- z.index(y), found -/
theorem je_sindex {apos : Pos} {z y : Str} {i : Nat} {more : List Nat} (ha : JE X o σ H (.s z)) (hb : JE X e σ H (.s y)) (hi : Builtin.Str.occurrences z y 0 z.length 1 = i :: more) (hs : starEach [e] X.env = [(false, eval e X.env)] := by rfl) (hbase : attributeBase o "index" X.env (eval o X.env) = eval o X.env := by rfl) (hline : (apos.endLine == pos.line) = true := by rfl) :
    JE X (.Call (.Attribute o "index" apos) [e] [] pos) σ H (.i (i : Int)) :=
  je_by (pe_m1 PySem.F.slot_str_index PySem.F.type_str_index mt_sindex wE_ok wE_ok hs hbase hline) fun H1 e1 Q k => ha H1 e1 _ fun x H2 e2 rx => ⟨⟨z, rx⟩, hb H2 (e1.trans e2) _ fun u H3 e3 ru => ⟨z, y, i, more, rx, by rw [show u = .str y from ru], hi, k _ _ (e2.trans e3) rfl⟩⟩
theorem je_isupper {apos : Pos} {z : Str} (ha : JE X o σ H (.s z)) (hbase : attributeBase o "isupper" X.env (eval o X.env) = eval o X.env := by rfl) (hline : (apos.endLine == pos.line) = true := by rfl) : JE X (.Call (.Attribute o "isupper" apos) [] [] pos) σ H (.b (Txt.isupper z)) :=
  je_by (pe_m0 PySem.F.slot_str_isupper PySem.F.type_str_isupper mt_isupper wE_ok hbase hline) fun H1 e1 Q k => ha H1 e1 _ fun x H2 e2 rx => ⟨⟨z, rx⟩, z, rx, rfl, trivial, k _ _ e2 rfl⟩
end
/-! data as the model's own: tuples of ints and texts, lists of ints -/
theorem dp_ints {K : PySem.W.Frag} {H : Hp} : ∀ ns : List Int, DpAll K H (ns.map V.int) (ns.map PyData.int)
  | [] => .nil
  | n :: ns => .cons (.int n) (dp_ints ns)
theorem lay_ints : ∀ ns : List Int, PyData.canLayAll0 (ns.map PyData.int) = true ∧ PyData.depthAll (ns.map PyData.int) = 0
  | [] => ⟨rfl, rfl⟩
  | n :: ns => by
    obtain ⟨h1, h2⟩ := lay_ints ns
    refine ⟨?_, ?_⟩
    · show (PyData.canLay0 (.int n) && PyData.canLayAll0 (ns.map PyData.int)) = true
      rw [h1] <;> rfl
    · show max (PyData.depth (.int n)) (PyData.depthAll (ns.map PyData.int)) = 0
      rw [h2] <;> rfl
theorem shaped_ints (ns : List Int) : SeqAt.shaped (.list (ns.map PyData.int)) = true := by
  obtain ⟨h1, h2⟩ := lay_ints ns
  show (PyData.canLayAll0 (ns.map PyData.int) && decide (PyData.depthAll (ns.map PyData.int) + 1 ≤ 64)) = true
  rw [h1, h2] <;> rfl
theorem eqv_ints (ns : List Int) : PyData.eqv (.list (ns.map PyData.int)) (.list (ns.map PyData.int)) = true := by
  obtain ⟨h1, h2⟩ := lay_ints ns
  exact SeqAt.eqv_refl _ h1
section
variable {X : Cx} {a b : Expr} {σ : L2.St} {H : Hp} {pos : Pos}
/-- two lists of ints that are equal -/
theorem je_eqInts {k : Nat} {ns : List Int} (hr : Room k X.A) (ha : JE X a σ H (.l (ns.map D.i))) (hb : JE X b σ H (.l (ns.map D.i))) : JE X (.Compare a [.Eq] [b] pos) σ H (.b true) :=
  je_cmp (op_eqD hr.units) (nomark _) ha hb fun H2 x y Q _ ⟨p, xs, ex, hp, hx⟩ ⟨q, ys, ey, hq, hy⟩ k => by
    rw [hx.ints] at hp
    rw [hy.ints] at hq
    refine ⟨.list (ns.map PyData.int), .list (ns.map PyData.int), ex ▸ .lst (SqL.of hp) (dp_ints ns), ey ▸ .lst (SqL.of hq) (dp_ints ns), shaped_ints ns, shaped_ints ns, ?_⟩
    rw [eqv_ints]
    exact k _ _ (Same.refl _) rfl
end
end FW
/-! lists of numbers: in, index, sorted; range downwards -/
namespace FW
open PySem L2
def natsD (ns : List Nat) : List D := ns.map fun n : Nat => D.i (n : Int)
theorem natsD_eq (ns : List Nat) : natsD ns = (ns.map Int.ofNat).map D.i := by unfold natsD; rw [List.map_map] <;> rfl
theorem imms_nats (ns : List Nat) : imms (natsD ns) = true := imms_map (fun _ => rfl) ns
theorem rps_nats {H : Hp} {ns : List Nat} {vs : List V} (r : Rps H (natsD ns) vs) : vs = ns.map fun n : Nat => V.int (n : Int) := by
  rw [natsD_eq] at r
  rw [r.ints, List.map_map] <;> rfl
theorem inV_nats (m : Nat) (ns : List Nat) : inV (.int (m : Int)) (ns.map fun n : Nat => V.int (n : Int)) = decide (m ∈ ns) := by
  unfold inV
  induction ns with
  | nil => rfl
  | cons n ns ih =>
    rw [List.map_cons, List.any_cons, ih]
    have : eqV (.int (n : Int)) (.int (m : Int)) = decide (m = n) := by
      show ((n : Int) == (m : Int)) = decide (m = n)
      by_cases q : m = n
      · subst q; simp
      · rw [decide_eq_false q]
        exact beq_eq_false_iff_ne.mpr (by omega)
    rw [this]
    by_cases q : m = n <;> simp [q]
theorem flat_nats (ns : List Nat) : (ns.map fun n : Nat => V.int (n : Int)).all flatV = true := by
  induction ns with
  | nil => rfl
  | cons n ns ih => rw [List.map_cons, List.all_cons, ih] <;> rfl
section
variable {X : Cx} {a b e o : Expr} {σ : L2.St} {H : Hp} {pos : Pos} {m : Nat} {ns : List Nat}
theorem jt_inN (ha : JE X a σ H (.i (m : Int))) (hb : JE X b σ H (.l (natsD ns))) (hm : behindInMarks .In b = false := by rfl) : JT X (.Compare a [.In] [b] pos) σ H (decide (m ∈ ns)) :=
  jt_cmp op_in_seq hm ha hb fun H2 x y Q _ rx ⟨p, vs, ey, hp, hv⟩ k => ⟨p, vs, ey, .inl (SqL.of hp), by rw [show x = .int _ from rx] <;> rfl, by rw [rps_nats hv]; exact flat_nats ns, k _ _ (Same.refl _) (by
    rw [show x = .int _ from rx, rps_nats hv, inV_nats] <;> rfl)⟩
theorem jt_ninN (ha : JE X a σ H (.i (m : Int))) (hb : JE X b σ H (.l (natsD ns))) (hm : behindInMarks .NotIn b = false := by rfl) : JT X (.Compare a [.NotIn] [b] pos) σ H (!decide (m ∈ ns)) :=
  jt_cmp op_notIn_seq hm ha hb fun H2 x y Q _ rx ⟨p, vs, ey, hp, hv⟩ k => ⟨p, vs, ey, .inl (SqL.of hp), by rw [show x = .int _ from rx] <;> rfl, by rw [rps_nats hv]; exact flat_nats ns, k _ _ (Same.refl _) (by
    rw [show x = .int _ from rx, rps_nats hv, inV_nats] <;> rfl)⟩
/-- xs.index(m) -/
theorem je_lidx {apos : Pos} (ha : JE X o σ H (.l (natsD ns))) (hb : JE X e σ H (.i (m : Int))) (hi : m ∈ ns) (hbase : attributeBase o "index" X.env (eval o X.env) = eval o X.env := by rfl)
    (hfew : ((backTo pos (starEach [e] X.env)).all (fun x => !x.1) && (backToKw pos (keywordEach [] X.env)).all (fun x => x.1.isSome) && decide ([e].length + ([] : List Keyword).length + (if ([] : List Keyword).isEmpty then 0 else 1) < 30)) = true := by rfl)
    (hline : (apos.endLine == pos.line) = true := by rfl) (hs : starEach [e] X.env = (false, eval e X.env) :: starEach [] X.env := by rfl) (hplain : (backTo pos (starEach [] X.env)).any (·.1) = false := by rfl) :
    JE X (.Call (.Attribute o "index" apos) [e] [] pos) σ H (.i ((ns.idxOf m : Nat) : Int)) :=
  je_by (pe_bm PySem.F.plainAttrs_list PySem.F.slot_list_index PySem.F.type_list_index mt_index wE_ok (pa_cons wE_ok pa_nil hs) hbase hfew hline hs hplain) fun H1 e1 Q k => ha H1 e1 _ fun x H2 e2 ⟨q, vs, ex, hq, hv⟩ => by
    subst ex
    refine ⟨.inl ⟨rfl, _, SqL.of hq⟩, hb H2 (e1.trans e2) _ fun y H3 e3 ry => ?_⟩
    have hl := List.idxOf_lt_length_of_mem hi
    have hvs := rps_nats hv
    obtain rfl : y = .int (m : Int) := ry
    refine ⟨q, vs, .int (m : Int), ns.idxOf m, .int (m : Int), rfl, rfl, SqL.of (e3 _ _ hq), rfl, by rw [hvs]; exact flat_nats ns, ?_, ?_, fun j z' hj hz => ?_, k _ _ (e2.trans e3) rfl⟩
    · rw [hvs, List.getElem?_map, List.getElem?_eq_getElem hl, List.getElem_idxOf hl] <;> rfl
    · show ((m : Int) == (m : Int)) = true
      simp
    · rw [hvs, List.getElem?_map] at hz
      cases q2 : ns[j]? with
      | none => rw [q2] at hz; cases hz
      | some y =>
        rw [q2] at hz
        obtain rfl : V.int (y : Int) = z' := Option.some.inj hz
        show ((y : Int) == (m : Int)) = false
        obtain ⟨hm1, hm2⟩ := List.getElem?_eq_some_iff.mp q2
        have hne := List.not_of_lt_findIdx (p := (· == m)) (xs := ns) (i := j) hj
        have hne : y ≠ m := by simpa [hm2] using hne
        exact beq_eq_false_iff_ne.mpr (by omega)
theorem nats_back {ns' : List Int} {ns : List Nat} (hp : ns'.Perm (ns.map Int.ofNat)) : ∃ ks : List Nat, ns' = ks.map Int.ofNat ∧ ks.Perm ns := by
  have h : ns' = (ns'.map Int.toNat).map Int.ofNat := by
    rw [List.map_map]
    have : ∀ x ∈ ns', (Int.ofNat ∘ Int.toNat) x = id x := fun x hx => by
      obtain ⟨n, _, e⟩ := List.mem_map.mp (hp.mem_iff.mp hx)
      rw [← e] <;> rfl
    rw [List.map_congr_left this, List.map_id]
  refine ⟨ns'.map Int.toNat, h, ?_⟩
  have := hp.map Int.toNat
  rw [List.map_map] at this
  have e : (Int.toNat ∘ Int.ofNat) = (id : Nat → Nat) := by funext x; rfl
  rw [e, List.map_id] at this
  exact this
/-- sorted(xs) -/
theorem we_sortN {p : Pos} {Q : VK} (hm : X.mg "sorted" = none) (ha : JE X e σ H (.l (natsD ns))) (q : ∀ (ks : List Nat) (p : Addr) (vs : List V) (H' : Hp), ks.Perm ns → ks.Pairwise (· ≤ ·) → H p = none → Same H H' → H' p = some (.lst vs) → Rps H' (natsD ks) vs → Q (.ref p) H')
    (hg : Gl X "sorted" := by rfl) (he : starEach [e] X.env = (false, eval e X.env) :: starEach [] X.env := by rfl) (hpl : (backTo pos (starEach [] X.env)).any (·.1) = false := by rfl) : wE X (.Call (.Name "sorted" p) [e] [] pos) σ H Q :=
  ⟨_, pe_callB cr_sortedI hg hm (by decide +kernel) (pa_cons wE_ok pa_nil he) (by decide) (by decide) he hpl, ha H (Same.refl _) _ fun v H1 s1 ⟨q1, vs, ev, hq, hv⟩ => by
    subst ev
    refine ⟨q1, ns.map Int.ofNat, rfl, SqL.of (by
      have e := rps_nats hv
      have e2 : (ns.map Int.ofNat).map V.int = vs := by rw [e, List.map_map] <;> rfl
      rw [e2]
      exact hq), fun ns' p hp hs hn => ?_⟩
    obtain ⟨ks, rfl, hk⟩ := nats_back hp
    refine q ks p _ _ hk ?_ (Same.free s1 hn) (s1.trans (same_new hn)) upd_same (by rw [natsD_eq]; exact rps_ints _)
    rw [List.pairwise_map] at hs
    exact hs.imp fun h => Int.ofNat_le.mp h⟩
end
section
variable {X : Cx} {a b c tg : Expr} {rest body : List Stmt} {σ : L2.St} {H : Hp} {pos p3 p : Pos} {Ds : Ends} {g : TG}
/-- for .. in range(n - 1, -1, -1) -/
theorem ws_forDown {n : Nat} (hm : X.mg "range" = none) (ha : JE X a σ H (.i ((n : Int) - 1))) (hb : JE X b σ H (.i (-1))) (hc1 : JE X c σ H (.i (-1))) (hn : n ≤ 100000) (hg : PG X tg g) (Pv : Nat → L2.St → Hp → Prop) (h0 : ∀ H1, Same H H1 → Pv 0 σ H1)
    (hs : ∀ i σ' H', i < n → Pv i σ' H' → g (.int ((n - 1 - i : Nat) : Int)) σ' H' fun σ2 H2 => wSs X body { Ds with nx := Pv (i + 1), ct := Pv (i + 1), bk := wSs X rest Ds } σ2 H2) (hd : ∀ σ' H', Pv n σ' H' → wSs X rest Ds σ' H')
    (hgl : Gl X "range" := by rfl) (h1 : starEach [a, b, c] X.env = (false, eval a X.env) :: starEach [b, c] X.env := by rfl) (h2 : starEach [b, c] X.env = (false, eval b X.env) :: starEach [c] X.env := by rfl) (h3 : starEach [c] X.env = (false, eval c X.env) :: starEach [] X.env := by rfl) (hpl : (backTo p3 (starEach [b, c] X.env)).any (·.1) = false := by rfl)
    (hp : PassesOwn (model X.prog X.w) X.A X.env X.xe := by exact PassesOwn.never) (hc : X.calm = true := by rfl) (hf : ∀ x, foldedSetIterable (.Call (.Name "range" p) [a, b, c] [] p3) X.env x = pure x := by intro _; rfl) : wSs X (.For tg (.Call (.Name "range" p) [a, b, c] [] p3) body [] pos :: rest) Ds σ H :=
  ws_for (pi_range3 hgl hm (pa_cons wE_ok (pa_cons wE_ok (pa_cons wE_ok pa_nil h3) h2) h1) h1 hpl) hg (ha H (Same.refl _) _ fun v1 H1 s1 r1 => hb H1 s1 _ fun v2 H2 s2 r2 => hc1 H2 (s1.trans s2) _ fun v3 H3 s3 r3 => by
    obtain rfl : v1 = .int ((n : Int) - 1) := r1
    obtain rfl : v2 = .int (-1) := r2
    obtain rfl : v3 = .int (-1) := r3
    refine ⟨_, _, _, _, rfl, RgC.neg (by omega) (by omega) (by omega) (by omega), ?_⟩
    have e : ((n : Int) - 1 - (-1)).toNat = n := by omega
    rw [e]
    exact for_rangeC Pv (h0 H3 ((s1.trans s2).trans s3)) (fun i σ' H' hi q => by
      have := hs i σ' H' hi q
      have e2 : (n : Int) - 1 + (i : Nat) * (-1) = ((n - 1 - i : Nat) : Int) := by omega
      rw [e2]
      exact this) hd) hp hc hf
end
end FW
/-! dicts -/
namespace FW
open PySem L2
/-- one key; a key that is a tuple -/
def kD : Key → D
  | .inl i => .i i
  | .inr z => .s z
def keyD (k : List Key) : D := .t (k.map kD)
theorem rp_kD {H : Hp} {k : Key} {v : V} (r : Rp H (kD k) v) : v = kV k := by
  cases k with
  | inl i => exact r
  | inr z => exact r
theorem rps_kD {H : Hp} : ∀ {k : List Key} {vs : List V}, Rps H (k.map kD) vs → vs = k.map kV
  | [], vs, h => h
  | a :: k, _, ⟨v, w, h1, h2, h3⟩ => by rw [h1, rp_kD h2, rps_kD h3] <;> rfl
theorem rp_keyD {H : Hp} {k : List Key} {v : V} (r : Rp H (keyD k) v) : ∃ b, v = .ref b ∧ H b = some (.tup (k.map kV)) := by
  obtain ⟨p, vs, rfl, h1, h2⟩ := r
  rw [rps_kD h2] at h1
  exact ⟨p, rfl, h1⟩
theorem keepT_dK {H : Hp} {p : Addr} {kvs : List (Key × V)} {u : HO} (h : H p = some (.dK kvs)) : KeepT H (upd H p u) := keepT_upd h (fun _ z => nomatch z) fun _ _ z => nomatch z
theorem keepT_dT {H : Hp} {p : Addr} {kvs : List (List Key × V)} {u : HO} (h : H p = some (.dT kvs)) : KeepT H (upd H p u) := keepT_upd h (fun _ z => nomatch z) fun _ _ z => nomatch z
section
variable {X : Cx} {o i e f value : Expr} {rest : List Stmt} {σ : L2.St} {H : Hp} {pos cpos apos p2 : Pos} {Ds : Ends} {a : Addr} {d dv : D} {kvs : List (Key × V)} {kvt : List (List Key × V)} {k : Key} {kt : List Key} {n : Nat}
def JVl (X : Cx) (e : Expr) (σ : L2.St) (H : Hp) (v : V) : Prop := ∀ H1, Same H H1 → ∀ Q : VK, (∀ H2, Same H1 H2 → Q v H2) → wE X e σ H1 Q
theorem units1 (hr : Room n X.A) : X.A.units + 1 < cLine := by have := hr.units; omega
/-- d.get(key, x), keys tuples -/
theorem je_dgetT (hr : Room n X.A) (ho : JVl X o σ H (.ref a)) (ha : H a = some (.dT kvt)) (hk : JE X e σ H (keyD kt)) (hx : JE X f σ H .n) (hd : ∀ H2, Same H H2 → Rp H2 d ((valV kvt kt).getD .non)) (m : M2 X o "get" apos e f cpos := by exact ⟨rfl, rfl, rfl, rfl⟩) : JE X (.Call (.Attribute o "get" apos) [e, f] [] cpos) σ H d :=
  je_by (pe_dget2 (units1 hr) wE_ok wE_ok wE_ok m) fun H1 s1 Q q => ho H1 s1 _ fun H2 s2 => ⟨a, rfl, .inr ⟨kvt, .inl ((s1.trans s2) _ _ ha)⟩, hk H2 (s1.trans s2) _ fun v H3 s3 r3 => hx H3 ((s1.trans s2).trans s3) _ fun z H4 s4 r4 => by
    obtain ⟨b, rfl, hb⟩ := rp_keyD r3
    obtain rfl : z = .non := r4
    exact ⟨_, DGet.t ((((s1.trans s2).trans s3).trans s4) _ _ ha) (s4 _ _ hb), q _ _ ((s2.trans s3).trans s4) (hd _ (((s1.trans s2).trans s3).trans s4))⟩⟩
/-- d[key], keys tuples -/
theorem je_dixT {v : V} (hr : Room n X.A) (ho : JVl X o σ H (.ref a)) (ha : H a = some (.dT kvt)) (hk : JE X e σ H (keyD kt)) (hv : valV kvt kt = some v) (hd : ∀ H2, Same H H2 → Rp H2 d v) (hs : NoSl e := by exact fun _ _ => rfl) : JE X (.Subscript o e pos) σ H d :=
  je_by (pe_dget (units1 hr) wE_ok wE_ok hs) fun H1 s1 Q q => ho H1 s1 _ fun H2 s2 => hk H2 (s1.trans s2) _ fun u H3 s3 r3 => by
    obtain ⟨b, rfl, hb⟩ := rp_keyD r3
    exact ⟨a, v, rfl, by rw [← hv]; exact DGet.t (((s1.trans s2).trans s3) _ _ ha) hb, q _ _ (s2.trans s3) (hd _ ((s1.trans s2).trans s3))⟩
theorem je_dixK {v : V} (hr : Room n X.A) (ho : JVl X o σ H (.ref a)) (ha : H a = some (.dK kvs)) (hk : JE X e σ H (kD k)) (hv : valV kvs k = some v) (hd : ∀ H2, Same H H2 → Rp H2 d v) (hs : NoSl e := by exact fun _ _ => rfl) : JE X (.Subscript o e pos) σ H d :=
  je_by (pe_dget (units1 hr) wE_ok wE_ok hs) fun H1 s1 Q q => ho H1 s1 _ fun H2 s2 => hk H2 (s1.trans s2) _ fun u H3 s3 r3 => by
    obtain rfl := rp_kD r3
    exact ⟨a, v, rfl, by rw [← hv]; exact DGet.k (((s1.trans s2).trans s3) _ _ ha), q _ _ (s2.trans s3) (hd _ ((s1.trans s2).trans s3))⟩
theorem jt_dinK (hr : Room n X.A) (ho : JVl X o σ H (.ref a)) (ha : H a = some (.dK kvs)) (hk : JE X e σ H (kD k)) (h1 : behindInMarks .In o = false := by rfl) : JT X (.Compare e [.In] [o] pos) σ H (valV kvs k).isSome := fun H1 s1 Q q =>
  ⟨_, pt_cmp (pc_din (units1 hr) wE_ok wE_ok) h1, hk H1 s1 _ fun u H2 s2 r2 => ho H2 (s1.trans s2) _ fun H3 s3 => by
    obtain rfl := rp_kD r2
    exact ⟨a, _, rfl, DGet.k (((s1.trans s2).trans s3) _ _ ha), _, rfl, q _ (s2.trans s3)⟩⟩
theorem jt_dninK (hr : Room n X.A) (ho : JVl X o σ H (.ref a)) (ha : H a = some (.dK kvs)) (hk : JE X e σ H (kD k)) (h1 : behindInMarks .NotIn o = false := by rfl) : JT X (.Compare e [.NotIn] [o] pos) σ H (!(valV kvs k).isSome) := fun H1 s1 Q q =>
  ⟨_, pt_cmp (pc_dnotin (units1 hr) wE_ok wE_ok) h1, hk H1 s1 _ fun u H2 s2 r2 => ho H2 (s1.trans s2) _ fun H3 s3 => by
    obtain rfl := rp_kD r2
    exact ⟨a, _, rfl, DGet.k (((s1.trans s2).trans s3) _ _ ha), _, rfl, q _ (s2.trans s3)⟩⟩
theorem jt_dninT (hr : Room n X.A) (ho : JVl X o σ H (.ref a)) (ha : H a = some (.dT kvt)) (hk : JE X e σ H (keyD kt)) (h1 : behindInMarks .NotIn o = false := by rfl) : JT X (.Compare e [.NotIn] [o] pos) σ H (!(valV kvt kt).isSome) := fun H1 s1 Q q =>
  ⟨_, pt_cmp (pc_dnotin (units1 hr) wE_ok wE_ok) h1, hk H1 s1 _ fun u H2 s2 r2 => ho H2 (s1.trans s2) _ fun H3 s3 => by
    obtain ⟨b, rfl, hb⟩ := rp_keyD r2
    exact ⟨a, _, rfl, DGet.t (((s1.trans s2).trans s3) _ _ ha) (s3 _ _ hb), _, rfl, q _ (s2.trans s3)⟩⟩
/-- d[key] = value -/
theorem ws_dputT (hr : Room n X.A) (ho : JVl X o σ H (.ref a)) (ha : H a = some (.dT kvt)) (hz : kvt.length < 100000) (hk : JE X i σ H (keyD kt)) (hv : JE X value σ H d) (q : ∀ v H1, Same H H1 → H1 a = some (.dT kvt) → Rp H1 d v → wSs X rest Ds σ (upd H1 a (.dT (putK kvt kt v))))
    (hs : swapsWith value (some (.Subscript o i p2)) pos.line X.env = pure false := by rfl) : wSs X (.Assign [.Subscript o i p2] value pos :: rest) Ds σ H :=
  ws_cons (ps_dput (units1 hr) wE_ok wE_ok wE_ok hs) (hv.go fun v H1 s1 r1 => ho H1 s1 _ fun H2 s2 => hk H2 (s1.trans s2) _ fun y H3 s3 r3 => by
    obtain ⟨b, rfl, hb⟩ := rp_keyD r3
    have h3 := ((s1.trans s2).trans s3) _ _ ha
    exact ⟨a, _, rfl, DPut.t h3 hb (sz5' hz), q v H3 ((s1.trans s2).trans s3) h3 (r1.mono (s2.trans s3))⟩)
theorem ws_dputK (hr : Room n X.A) (ho : JVl X o σ H (.ref a)) (ha : H a = some (.dK kvs)) (hz : kvs.length < 100000) (hk : JE X i σ H (kD k)) (hv : JE X value σ H d) (q : ∀ v H1, Same H H1 → H1 a = some (.dK kvs) → Rp H1 d v → wSs X rest Ds σ (upd H1 a (.dK (putK kvs k v))))
    (hs : swapsWith value (some (.Subscript o i p2)) pos.line X.env = pure false := by rfl) : wSs X (.Assign [.Subscript o i p2] value pos :: rest) Ds σ H :=
  ws_cons (ps_dput (units1 hr) wE_ok wE_ok wE_ok hs) (hv.go fun v H1 s1 r1 => ho H1 s1 _ fun H2 s2 => hk H2 (s1.trans s2) _ fun y H3 s3 r3 => by
    obtain rfl := rp_kD r3
    have h3 := ((s1.trans s2).trans s3) _ _ ha
    exact ⟨a, _, rfl, DPut.k h3 (sz5' hz), q v H3 ((s1.trans s2).trans s3) h3 (r1.mono (s2.trans s3))⟩)
/-- {} -/
theorem we_newT {Q : VK} (q : ∀ p H1, H p = none → Same H H1 → H1 p = some (.dT []) → Q (.ref p) H1) : wE X (.Dict [] [] pos) σ H Q := ⟨_, pe_dnewT, fun p hp => q p _ hp (same_new hp) upd_same⟩
end

/-! dict comprehensions -/
theorem go_it {J : It} {n : Nat} {G : Hp → Prop} {Y : Nat → Hp → V → Hp → Prop} (w : Walk J n G Y) {H0 : Hp} {Qd : Hp → Prop} {Z : V → Hp → (Hp → Prop) → Prop} (Pv : Nat → Hp → Prop) (h0 : Pv 0 H0) (hG : ∀ i H, i ≤ n → Pv i H → G H)
    (hs : ∀ i x H H', i < n → Pv i H → Y i H x H' → Z x H' (Pv (i + 1))) (hd : ∀ H, Pv n H → Qd H) :
    ∃ W : Nat → Nat → Hp → Prop, (∃ m, W 0 m H0) ∧ ∀ i m H, W i m H →
      (J.stop i H ∧ Qd H) ∨ (J.go i H ∧ ∃ Nx : Hp → Prop, (∀ H', Nx H' → ∃ m', m' < m ∧ W (i + 1) m' H') ∧ ∀ x H', J.yld i H x H' → Z x H' Nx) := by
  refine ⟨fun i m H => m = n - i ∧ i ≤ n ∧ Pv i H, ⟨n, by simp, Nat.zero_le _, h0⟩, ?_⟩
  rintro i m H ⟨rfl, hi, p⟩
  have q := hG i H hi p
  by_cases hlt : i < n
  · refine .inr ⟨w.goes i H hlt q, Pv (i + 1), fun H' p' => ⟨n - (i + 1), by omega, rfl, hlt, p'⟩, fun x H' y => hs i x H H' hlt p (w.yields i H x H' hlt q y)⟩
  · have e : i = n := by omega
    subst e
    exact .inl ⟨w.stops H q, hd H p⟩
section
variable {X : Cx} {kx vx iter tg : Expr} {ifs : List Expr} {σ : L2.St} {H : Hp} {items : List D} {pos : Pos} {g : TG} {scope : Scope} {n : Nat}
/-- what a turn does to a dict f -/
def DcStep (X : Cx) (scope : Scope) (kx vx : Expr) {κ : Type} [DecidableEq κ] (kd : κ → D) (tt : TT) (f : Nat → List (κ × V)) (i : Nat) (σ : L2.St) (H : Hp) : Prop :=
  (∃ k z dv, f (i + 1) = putK (f i) k z ∧ (∀ H', Rp H' dv z) ∧ (∀ H' v, Rp H' dv v → v = z) ∧ (∀ H3, Same H H3 → ∀ Q : Bool → Hp → Prop, (∀ H4, Same H3 H4 → Q true H4) → tt σ H3 Q) ∧ JEb X scope kx σ H (kd k) ∧ JEb X scope vx σ H dv) ∨
    (f (i + 1) = f i ∧ ∀ H3, Same H H3 → ∀ Q : Bool → Hp → Prop, (∀ H4, Same H3 H4 → Q false H4) → tt σ H3 Q)
theorem jd_K_reads {own : List (Str × Nat)} {tt : TT} {Q : VK} (f : Nat → List (Key × V)) (f0 : f 0 = []) (fz : ∀ i, i ≤ items.length → (f i).length ≤ 50000) (nd : X.N.Nodup) (ok : BlkOk X.N X.env.scope scope own) (hi : JI X tg iter σ H items) (gm : GMono g)
    (hg : ∀ (s : Shared) (H : Hp) (C : Addr) (cl : List (Str × Addr)) (fp : List Addr), PG (X.blk s H scope (compEnvC scope cl C X.env) fp) tg g)
    (ht : ∀ (s : Shared) (H : Hp) (C : Addr) (cl : List (Str × Addr)) (fp : List Addr), PTs (X.blk s H scope (compEnvC scope cl C X.env) fp) ifs tt)
    (hel : ∀ (i : Nat) (d : D) (v : V) (H2 : Hp), items[i]? = some d → Same H H2 → Rp H2 d v → g v (wipe σ (own.map (·.2))) H2 fun σ2 H3 => wipe σ2 (own.map (·.2)) = wipe σ (own.map (·.2)) ∧ H3 = H2 ∧ DcStep X scope kx vx kD tt f i σ2 H2)
    (q : ∀ p H', H p = none → Same H H' → H' p = some (.dK (f items.length)) → Q (.ref p) H') : ∃ wi, PI X tg iter wi ∧ tDc wi g tt (wEb X scope kx) (wEb X scope vx) (own.map (·.2)) σ H Q := by
  obtain ⟨wi, hwi, hr⟩ := hi
  refine ⟨wi, hwi, hr H (Same.refl _) _ fun J H2 s2 w Dl hD => ?_⟩
  refine go_it w (fun i H' => Same H2 H' ∧ H' Dl = some (.dK (f i))) ⟨same_new hD, by rw [f0]; exact upd_same⟩ (fun i H' _ h => h.1) (fun i x H' H'' hlt h y => ?_) fun H' h => q Dl H' (Same.free s2 hD) (s2.trans h.1) h.2
  obtain ⟨s, hd⟩ := h
  obtain ⟨rfl, d, hdi, hdr⟩ := y
  refine gm _ _ _ _ _ (fun σ2 H3 ⟨ew, e3, st⟩ => ⟨ew, ?_⟩) (hel i d _ _ hdi (s2.trans s) (hdr.mono s))
  subst e3
  rcases st with ⟨k, z, dv, ef, _, hz, htt, jk, jv⟩ | ⟨ef, htt⟩
  · refine htt _ (Same.refl _) _ fun H4 s4 => ?_
    show wEb X scope kx σ2 H4 _
    intro sh Hb C cl fp
    refine jk sh Hb C cl fp H4 s4 _ fun u H5 s5 r5 => ?_
    intro sh' Hb' C' cl' fp'
    refine jv sh' Hb' C' cl' fp' H5 (s4.trans s5) _ fun v H6 s6 r6 => ?_
    obtain rfl := hz _ _ r6
    have h6 := s6 _ _ (s5 _ _ (s4 _ _ hd))
    refine ⟨f i, k, rp_kD r5, h6, sz5' (by have := fz i (by omega); omega), ?_⟩
    rw [← ef]
    exact ⟨Same.mut (((s.trans s4).trans s5).trans s6) hD, upd_same⟩
  · refine htt _ (Same.refl _) _ fun H4 s4 => ?_
    show Same H2 H4 ∧ _
    rw [ef]
    exact ⟨s.trans s4, s4 _ _ hd⟩
theorem jd_K {own : List (Str × Nat)} {tt : TT} {Q : VK} (f : Nat → List (Key × V)) (f0 : f 0 = []) (fz : ∀ i, i ≤ items.length → (f i).length ≤ 50000) (nd : X.N.Nodup) (ok : BlkOk X.N X.env.scope scope own) (hi : JI X tg iter σ H items) (gm : GMono g)
    (hg : ∀ (s : Shared) (H : Hp) (C : Addr) (cl : List (Str × Addr)) (fp : List Addr), PG (X.blk s H scope (compEnvC scope cl C X.env) fp) tg g)
    (ht : ∀ (s : Shared) (H : Hp) (C : Addr) (cl : List (Str × Addr)) (fp : List Addr), PTs (X.blk s H scope (compEnvC scope cl C X.env) fp) ifs tt)
    (hel : ∀ (i : Nat) (d : D) (v : V) (H2 : Hp), items[i]? = some d → Same H H2 → Rp H2 d v → g v (wipe σ (own.map (·.2))) H2 fun σ2 H3 => wipe σ2 (own.map (·.2)) = wipe σ (own.map (·.2)) ∧ H3 = H2 ∧ DcStep X scope kx vx kD tt f i σ2 H2)
    (q : ∀ p H', H p = none → Same H H' → H' p = some (.dK (f items.length)) → Q (.ref p) H')
    (hc : X.calm = true := by rfl) (hs : ∀ x, foldedSetIterable iter X.env x = pure x := by intro _; rfl) : wE X (.DictComp kx vx [⟨tg, iter, ifs, 0⟩] scope pos) σ H Q := by
  obtain ⟨wi, hwi, h⟩ := jd_K_reads f f0 fz nd ok hi gm hg ht hel q
  exact ⟨_, pe_dc hc nd hwi ok hg ht wEb_ok wEb_ok hs, h⟩
theorem ws_setDK {own : List (Str × Nat)} {tt : TT} {rest : List Stmt} {Ds : Ends} {y : Str} {py spos : Pos} (j : Nat) (f : Nat → List (Key × V)) (f0 : f 0 = []) (fz : ∀ i, i ≤ items.length → (f i).length ≤ 50000) (nd : X.N.Nodup) (ok : BlkOk X.N X.env.scope scope own) (hi : JI X tg iter σ H items) (gm : GMono g)
    (hg : ∀ (s : Shared) (H : Hp) (C : Addr) (cl : List (Str × Addr)) (fp : List Addr), PG (X.blk s H scope (compEnvC scope cl C X.env) fp) tg g)
    (ht : ∀ (s : Shared) (H : Hp) (C : Addr) (cl : List (Str × Addr)) (fp : List Addr), PTs (X.blk s H scope (compEnvC scope cl C X.env) fp) ifs tt)
    (hel : ∀ (i : Nat) (d : D) (v : V) (H2 : Hp), items[i]? = some d → Same H H2 → Rp H2 d v → g v (wipe σ (own.map (·.2))) H2 fun σ2 H3 => wipe σ2 (own.map (·.2)) = wipe σ (own.map (·.2)) ∧ H3 = H2 ∧ DcStep X scope kx vx kD tt f i σ2 H2)
    (q : ∀ p H', H p = none → Same H H' → H' p = some (.dK (f items.length)) → wSs X rest Ds (σ.set j (some (.ref p))) H')
    (hsw : swapsWith (.DictComp kx vx [⟨tg, iter, ifs, 0⟩] scope pos) (some (.Name y py)) spos.line X.env = pure true := by rfl) (hy : X.N[j]? = some y := by rfl) (hyl : X.env.scope.names.lookup y = some .local := by rfl)
    (hc : X.calm = true := by rfl) (hs : ∀ x, foldedSetIterable iter X.env x = pure x := by intro _; rfl) : wSs X (.Assign [.Name y py] (.DictComp kx vx [⟨tg, iter, ifs, 0⟩] scope pos) spos :: rest) Ds σ H := by
  obtain ⟨wi, hwi, h⟩ := jd_K_reads (Q := fun v H' => wSs X rest Ds (σ.set j (some v)) H') f f0 fz nd ok hi gm hg ht hel q
  exact ws_cons (ps_setDcK hc nd hy hyl hsw hwi ok hg ht wEb_ok wEb_ok hs) h
theorem jd_T_reads {own : List (Str × Nat)} {tt : TT} {Q : VK} (hr : Room n X.A) (f : Nat → List (List Key × V)) (f0 : f 0 = []) (fz : ∀ i, i ≤ items.length → (f i).length ≤ 50000) (nd : X.N.Nodup) (ok : BlkOk X.N X.env.scope scope own) (hi : JI X tg iter σ H items) (gm : GMono g)
    (hg : ∀ (s : Shared) (H : Hp) (C : Addr) (cl : List (Str × Addr)) (fp : List Addr), PG (X.blk s H scope (compEnvC scope cl C X.env) fp) tg g)
    (ht : ∀ (s : Shared) (H : Hp) (C : Addr) (cl : List (Str × Addr)) (fp : List Addr), PTs (X.blk s H scope (compEnvC scope cl C X.env) fp) ifs tt)
    (hel : ∀ (i : Nat) (d : D) (v : V) (H2 : Hp), items[i]? = some d → Same H H2 → Rp H2 d v → g v (wipe σ (own.map (·.2))) H2 fun σ2 H3 => wipe σ2 (own.map (·.2)) = wipe σ (own.map (·.2)) ∧ H3 = H2 ∧ DcStep X scope kx vx keyD tt f i σ2 H2)
    (q : ∀ p H', H p = none → Same H H' → H' p = some (.dT (f items.length)) → Q (.ref p) H') : ∃ wi, PI X tg iter wi ∧ tDcT wi g tt (wEb X scope kx) (wEb X scope vx) (own.map (·.2)) σ H Q := by
  obtain ⟨wi, hwi, hri⟩ := hi
  refine ⟨wi, hwi, hri H (Same.refl _) _ fun J H2 s2 w Dl hD => ?_⟩
  refine go_it w (fun i H' => Same H2 H' ∧ H' Dl = some (.dT (f i))) ⟨same_new hD, by rw [f0]; exact upd_same⟩ (fun i H' _ h => h.1) (fun i x H' H'' hlt h y => ?_) fun H' h => q Dl H' (Same.free s2 hD) (s2.trans h.1) h.2
  obtain ⟨s, hd⟩ := h
  obtain ⟨rfl, d, hdi, hdr⟩ := y
  refine gm _ _ _ _ _ (fun σ2 H3 ⟨ew, e3, st⟩ => ⟨ew, ?_⟩) (hel i d _ _ hdi (s2.trans s) (hdr.mono s))
  subst e3
  rcases st with ⟨k, z, dv, ef, _, hz, htt, jk, jv⟩ | ⟨ef, htt⟩
  · refine htt _ (Same.refl _) _ fun H4 s4 => ?_
    show wEb X scope kx σ2 H4 _
    intro sh Hb C cl fp
    refine jk sh Hb C cl fp H4 s4 _ fun u H5 s5 r5 => ?_
    intro sh' Hb' C' cl' fp'
    refine jv sh' Hb' C' cl' fp' H5 (s4.trans s5) _ fun v H6 s6 r6 => ?_
    obtain rfl := hz _ _ r6
    obtain ⟨c, rfl, hc2⟩ := rp_keyD r5
    have h6 := s6 _ _ (s5 _ _ (s4 _ _ hd))
    refine ⟨f i, k, c, rfl, s6 _ _ hc2, h6, sz5' (by have := fz i (by omega); omega), ?_⟩
    rw [← ef]
    exact ⟨Same.mut (((s.trans s4).trans s5).trans s6) hD, upd_same⟩
  · refine htt _ (Same.refl _) _ fun H4 s4 => ?_
    show Same H2 H4 ∧ _
    rw [ef]
    exact ⟨s.trans s4, s4 _ _ hd⟩
theorem jd_T {own : List (Str × Nat)} {tt : TT} {Q : VK} (hr : Room n X.A) (f : Nat → List (List Key × V)) (f0 : f 0 = []) (fz : ∀ i, i ≤ items.length → (f i).length ≤ 50000) (nd : X.N.Nodup) (ok : BlkOk X.N X.env.scope scope own) (hi : JI X tg iter σ H items) (gm : GMono g)
    (hg : ∀ (s : Shared) (H : Hp) (C : Addr) (cl : List (Str × Addr)) (fp : List Addr), PG (X.blk s H scope (compEnvC scope cl C X.env) fp) tg g)
    (ht : ∀ (s : Shared) (H : Hp) (C : Addr) (cl : List (Str × Addr)) (fp : List Addr), PTs (X.blk s H scope (compEnvC scope cl C X.env) fp) ifs tt)
    (hel : ∀ (i : Nat) (d : D) (v : V) (H2 : Hp), items[i]? = some d → Same H H2 → Rp H2 d v → g v (wipe σ (own.map (·.2))) H2 fun σ2 H3 => wipe σ2 (own.map (·.2)) = wipe σ (own.map (·.2)) ∧ H3 = H2 ∧ DcStep X scope kx vx keyD tt f i σ2 H2)
    (q : ∀ p H', H p = none → Same H H' → H' p = some (.dT (f items.length)) → Q (.ref p) H')
    (hc : X.calm = true := by rfl) (hs : ∀ x, foldedSetIterable iter X.env x = pure x := by intro _; rfl) : wE X (.DictComp kx vx [⟨tg, iter, ifs, 0⟩] scope pos) σ H Q := by
  obtain ⟨wi, hwi, h⟩ := jd_T_reads hr f f0 fz nd ok hi gm hg ht hel q
  exact ⟨_, pe_dcT hc (by have := hr.units; omega) nd hwi ok hg ht wEb_ok wEb_ok hs, h⟩
theorem ws_setDT {own : List (Str × Nat)} {tt : TT} {rest : List Stmt} {Ds : Ends} {y : Str} {py spos : Pos} (j : Nat) (hr : Room n X.A) (f : Nat → List (List Key × V)) (f0 : f 0 = []) (fz : ∀ i, i ≤ items.length → (f i).length ≤ 50000) (nd : X.N.Nodup) (ok : BlkOk X.N X.env.scope scope own) (hi : JI X tg iter σ H items) (gm : GMono g)
    (hg : ∀ (s : Shared) (H : Hp) (C : Addr) (cl : List (Str × Addr)) (fp : List Addr), PG (X.blk s H scope (compEnvC scope cl C X.env) fp) tg g)
    (ht : ∀ (s : Shared) (H : Hp) (C : Addr) (cl : List (Str × Addr)) (fp : List Addr), PTs (X.blk s H scope (compEnvC scope cl C X.env) fp) ifs tt)
    (hel : ∀ (i : Nat) (d : D) (v : V) (H2 : Hp), items[i]? = some d → Same H H2 → Rp H2 d v → g v (wipe σ (own.map (·.2))) H2 fun σ2 H3 => wipe σ2 (own.map (·.2)) = wipe σ (own.map (·.2)) ∧ H3 = H2 ∧ DcStep X scope kx vx keyD tt f i σ2 H2)
    (q : ∀ p H', H p = none → Same H H' → H' p = some (.dT (f items.length)) → wSs X rest Ds (σ.set j (some (.ref p))) H')
    (hsw : swapsWith (.DictComp kx vx [⟨tg, iter, ifs, 0⟩] scope pos) (some (.Name y py)) spos.line X.env = pure true := by rfl) (hy : X.N[j]? = some y := by rfl) (hyl : X.env.scope.names.lookup y = some .local := by rfl)
    (hc : X.calm = true := by rfl) (hs : ∀ x, foldedSetIterable iter X.env x = pure x := by intro _; rfl) : wSs X (.Assign [.Name y py] (.DictComp kx vx [⟨tg, iter, ifs, 0⟩] scope pos) spos :: rest) Ds σ H := by
  obtain ⟨wi, hwi, h⟩ := jd_T_reads (Q := fun v H' => wSs X rest Ds (σ.set j (some v)) H') hr f f0 fz nd ok hi gm hg ht hel q
  exact ws_cons (ps_setDcT hc (by have := hr.units; omega) nd hy hyl hsw hwi ok hg ht wEb_ok wEb_ok hs) h
end
end FW
/-! words: opposite_of, reduce_of, inverse_of -/
namespace FW
open PySem L2
section
variable {P : Program} {w : World} {K : PySem.W.Frag} {mg : Str → Option Value} {base : Heap}
theorem rps_len {H : Hp} {ds : List D} {vs : List V} {n : Nat} (h : Rps H ds vs) (e : ds.length = n) : vs.length = n := h.len.trans e
abbrev s_opp : Stmt := topS 12
theorem sc_opp : FnScope ["letter"] ["letter"] (defScope s_opp) := ⟨rfl, rfl, rfl, by decide +kernel, rfl, by decide +kernel, by decide +kernel⟩
def fi_opp (ds : List D) (d : D) : Prop := ∃ x : L, ds = [wD [x]] ∧ d = wD [inv x]
theorem up_iff (x : L) : decide (enc [x] = enc [(x.1, true)]) = x.2 := by
  rw [enc_dec]
  obtain ⟨k, c⟩ := x
  cases c <;> simp
theorem ok_opp (T : Txt K mg) : FnOk P w K mg base CX0 1 T.opposite_of.f T.opposite_of.fd ["letter"] (spD fi_opp) := by
  refine T.opposite_of.F.ok sc_opp (fun vs H Q E h => ?_) (fun cdv A outer s H vs Q E hr h => ?_)
  · obtain ⟨ds, d, r, ⟨x, rfl, rfl⟩, _⟩ := h
    exact rps_len r rfl
  · obtain ⟨ds, d, r, ⟨x, rfl, rfl⟩, k⟩ := h
    obtain ⟨v, rfl, rv⟩ := rps1 r
    refine ⟨_, wSs_ok, ?_⟩
    have hz : (enc [x]).length ≤ 100000 := by rw [enc_len]; simp
    have e1 : decide (enc [x] = Txt.upper (enc [x])) = x.2 := by rw [up_enc]; exact up_iff x
    refine ws_ret (d := wD [inv x]) (je_if (jt_eqS (je_var 0) (je_upper (je_var 0) hz)) (fun hk => JE.of (je_lower (je_var 0) hz) ?_) (fun hk => JE.of (je_upper (je_var 0) hz) ?_)) fun v H1 s1 r1 => k v H1 s1 r1
    · rw [e1] at hk
      rw [low_enc, inv, hk] <;> rfl
    · rw [e1] at hk
      rw [up_enc, inv, hk] <;> rfl
end
end FW
/-! words: reduce_of, inverse_of, is_between .. is_word -/
namespace FW
open PySem L2
section
variable {P : Program} {w : World} {K : PySem.W.Frag} {mg : Str → Option Value} {base : Heap}
abbrev s_red : Stmt := topS 13
theorem sc_red : FnScope ["word", "found", "letter"] ["word"] (defScope s_red) := ⟨rfl, rfl, rfl, by decide +kernel, rfl, by decide +kernel, by decide +kernel⟩
def fi_red (ds : List D) (d : D) : Prop := ∃ u : Wd, ds = [wD u] ∧ u.length ≤ 50000 ∧ d = wD (red u)
def letsD (w : Wd) : List D := w.map fun x => wD [x]
theorem imms_lets (w : Wd) : imms (letsD w) = true := imms_map (fun _ => rfl) w
theorem lets_strs (w : Wd) : letsD w = ((w.map fun x => [x]).map enc).map D.s := by
  unfold letsD
  rw [List.map_map, List.map_map] <;> rfl
theorem flat_one (w : Wd) : (w.map fun x => [x]).flatten = w := by
  induction w with
  | nil => rfl
  | cons x w ih => rw [List.map_cons, List.flatten_cons, ih] <;> rfl
theorem len_ones (w : Wd) : (((w.map fun x => [x]).map enc).map (·.length)).sum = w.length := by
  induction w with
  | nil => rfl
  | cons x w ih =>
    rw [List.map_cons, List.map_cons, List.map_cons, List.sum_cons, ih, enc_len, List.length_cons, List.length_cons, List.length_nil]
    omega
theorem nil_len : ("" : Str).length = 0 := by decide +kernel
/-- "".join of single letters -/
theorem je_joinW {X : Cx} {o e : Expr} {σ : L2.St} {H : Hp} {pos apos : Pos} {u : Wd} (ha : JE X o σ H (.s "")) (hb : JE X e σ H (.l (letsD u))) (hz : u.length ≤ 100000) (hs : starEach [e] X.env = [(false, eval e X.env)] := by rfl) (hbase : attributeBase o "join" X.env (eval o X.env) = eval o X.env := by rfl) (hline : (apos.endLine == pos.line) = true := by rfl) :
    JE X (.Call (.Attribute o "join" apos) [e] [] pos) σ H (wD u) := by
  refine JE.of (je_join ha (lets_strs u ▸ hb) ?_ hs hbase hline) ?_
  · rw [len_ones, nil_len]; omega
  · rw [enc_nil', join_enc, flat_one]
theorem gact_take {u : Wd} {i : Nat} {x : L} (h : u.take (i + 1) = u.take i ++ [x]) : gact inv (u.take (i + 1)) [] = gpush inv (gact inv (u.take i) []) x := by
  rw [h, act_app] <;> rfl
theorem at_last {A : Type} (xs : List A) (v : A) : atI (xs ++ [v]) (-1) = some v := L2.atI_last xs v
theorem rps_snoc {H : Hp} : ∀ {ds : List D} {d : D} {vs : List V}, Rps H (ds ++ [d]) vs → ∃ us v, vs = us ++ [v] ∧ Rps H ds us
  | [], d, vs, h => by
    obtain ⟨v, e, r⟩ := rps1 h
    exact ⟨[], v, e, rfl⟩
  | e :: ds, d, vs, ⟨v, w, h1, h2, h3⟩ => by
    obtain ⟨us, u, q1, q2⟩ := rps_snoc h3
    exact ⟨v :: us, u, by rw [h1, q1] <;> rfl, .cons h2 q2⟩
theorem ok_red (T : Txt K mg) : FnOk P w K mg base CX0 2 T.reduce_of.f T.reduce_of.fd ["word"] (spD fi_red) := by
  refine T.reduce_of.F.ok sc_red (fun vs H Q E h => ?_) (fun cdv A outer s H vs Q E hr h => ?_)
  · obtain ⟨ds, d, r, ⟨x, rfl, _, rfl⟩, _⟩ := h
    exact rps_len r rfl
  · obtain ⟨ds, d, r, ⟨u, rfl, hu, rfl⟩, k⟩ := h
    obtain ⟨v, rfl, rv⟩ := rps1 r
    refine ⟨_, wSs_ok, ?_⟩
    refine ws_setF 1 sc_red.nd (jf_lst ja_nil) fun p vs H1 hp s1 h1 r1 => ?_
    refine ws_forW (w := u) (je_var 0 rfl (rv.mono s1)) (pg_name (i := 2) sc_red.nd rfl (.inl rfl)) (fun i σ' H' => ∃ us z, σ' = [some v, some (.ref p), z] ∧ Same H H' ∧ H' p = some (.lst us) ∧ Rps H' (letsD (gact inv (u.take i) []).reverse) us)
      (fun H2 s2 => ⟨vs, none, rfl, s1.trans s2, s2 _ _ h1, r1.mono s2⟩) ?_ ?_
    · rintro i x σ' H' hx ht ⟨us, z, rfl, s2, h2, r2⟩
      have hf : Rp H' (.l (letsD (gact inv (u.take i) []).reverse)) (.ref p) := ⟨p, us, rfl, h2, r2⟩
      show wSs _ _ _ [some v, some (V.ref p), some (V.str (enc [x]))] H'
      have hz : (gact inv (u.take i) []).length ≤ 50000 := by
        have h5 := act_len (v := inv) (u.take i) []
        have h6 : (u.take i).length ≤ u.length := by rw [List.length_take]; omega
        simp at h5
        omega
      rw [show (i + 1) = i + 1 from rfl]
      have hpush := gact_take ht
      generalize hst : gact inv (u.take i) [] = st at r2 hf hz hpush
      have hlen : (letsD st.reverse).length = st.length := by simp [letsD]
      cases st with
      | nil =>
        refine ws_if (k := false) (jt_and2 (x := false) (y := true) (JT.of (jt_gtI (je_lenL T.b_len (je_var 1 rfl hf)) je_int) rfl) (fun q => by cases q) rfl) (fun q => by cases q) fun _ H3 s3 => ?_
        refine ws_app (wv_var 1) (s3 _ _ h2) (d := wD [x]) (je_var 2 rfl rfl) (by rw [r2.len, hlen]; simp) fun w2 H4 s4 r4 => ws_nil (ws_nil ⟨us ++ [w2], _, rfl, Same.mut ((s2.trans s3).trans s4) hp, upd_same, ?_⟩)
        rw [hpush]
        refine Rps.imm (keepT_lst (s4 _ _ (s3 _ _ h2))) (imms_lets _) ?_
        exact Rps.app (r2.mono (s3.trans s4)) (.cons r4 rfl)
      | cons y t =>
        have hl : letsD (y :: t).reverse = letsD t.reverse ++ [wD [y]] := by simp [letsD]
        have hpos : decide ((0 : Int) < ((letsD (y :: t).reverse).length : Int)) = true := by rw [hlen]; simp
        refine ws_if (k := decide (y = inv x)) (jt_and2 (x := true) (y := decide (y = inv x)) (JT.of (jt_gtI (je_lenL T.b_len (je_var 1 rfl hf)) je_int) hpos) (fun _ => JT.of (jt_eqS (x := enc [y]) (y := enc [inv x])
          (je_ixL (i := -1) (je_var 1 rfl hf) je_m1 (by rw [hl]; exact at_last _ _))
          (je_call (ok_opp T) (hr.mono (by decide)) T.opposite_of.m T.opposite_of.F.kp T.opposite_of.b pass0 (ja_cons (je_var (d := wD [x]) 2 rfl rfl) ja_nil) ⟨x, rfl, rfl⟩)) (by rw [enc_dec]; simp)) rfl) (fun hk H3 s3 => ?_) (fun hk H3 s3 => ?_)
        · have hy : y = inv x := of_decide_eq_true hk
          obtain ⟨us', ey⟩ : ∃ us' v', us = us' ++ [v'] ∧ Rps H' (letsD t.reverse) us' := by
            rw [hl] at r2
            exact rps_snoc r2
          obtain ⟨v', rfl, r2'⟩ := ey
          refine ws_pop (wv_var 1) (s3 _ _ h2) fun H4 s4 => ws_nil (ws_nil ⟨us', _, rfl, Same.mut ((s2.trans s3).trans s4) hp, upd_same, ?_⟩)
          rw [hpush, gpush_cons, if_pos hy]
          exact Rps.imm (keepT_lst (s4 _ _ (s3 _ _ h2))) (imms_lets _) (r2'.mono (s3.trans s4))
        · have hy : ¬ y = inv x := of_decide_eq_false hk
          refine ws_app (wv_var 1) (s3 _ _ h2) (d := wD [x]) (je_var 2 rfl rfl) (by rw [r2.len, hlen]; omega) fun w2 H4 s4 r4 => ws_nil (ws_nil ⟨us ++ [w2], _, rfl, Same.mut ((s2.trans s3).trans s4) hp, upd_same, ?_⟩)
          rw [hpush, gpush_cons, if_neg hy]
          refine Rps.imm (keepT_lst (s4 _ _ (s3 _ _ h2))) (imms_lets _) ?_
          have e3 : letsD (x :: y :: t).reverse = letsD (y :: t).reverse ++ [wD [x]] := by simp [letsD]
          rw [e3]
          exact Rps.app (r2.mono (s3.trans s4)) (.cons r4 rfl)
    · rintro σ' H' ⟨us, z, rfl, s2, h2, r2⟩
      have e : u.take u.length = u := List.take_length
      rw [e] at r2
      refine ws_ret (je_joinW (u := red u) je_str (je_var 1 rfl ⟨p, us, rfl, h2, r2⟩) ?_) fun v2 H3 s3 r3 => k v2 H3 (s2.trans s3) r3
      have : (red u).length ≤ u.length := red_len u
      omega
end
end FW
/-! words: inverse_of, is_between .. is_word -/
namespace FW
open PySem L2
section
variable {P : Program} {w : World} {K : PySem.W.Frag} {mg : Str → Option Value} {base : Heap}
abbrev s_inv : Stmt := topS 14
theorem sc_inv : FnScope ["word", "letter"] ["word"] (defScope s_inv) := ⟨rfl, rfl, rfl, by decide +kernel, rfl, by decide +kernel, by decide +kernel⟩
def fi_inv (ds : List D) (d : D) : Prop := ∃ u : Wd, ds = [wD u] ∧ u.length ≤ 50000 ∧ d = wD (winv u)
theorem hw1 {σ : L2.St} {j : Nat} (v : V) : wipe ((wipe σ [j]).set j (some v)) [j] = wipe σ [j] := by
  show ((σ.set j none).set j (some v)).set j none = σ.set j none
  rw [List.set_set, List.set_set]
theorem ok_inv (T : Txt K mg) : FnOk P w K mg base CX0 2 T.inverse_of.f T.inverse_of.fd ["word"] (spD fi_inv) := by
  refine T.inverse_of.F.ok sc_inv (fun vs H Q E h => ?_) (fun cdv A outer s H vs Q E hr h => ?_)
  · obtain ⟨ds, d, r, ⟨x, rfl, _, rfl⟩, _⟩ := h
    exact rps_len r rfl
  · obtain ⟨ds, d, r, ⟨u, rfl, hu, rfl⟩, k⟩ := h
    obtain ⟨v, rfl, rv⟩ := rps1 r
    refine ⟨_, wSs_ok, ?_⟩
    have hlen : (letsD (winv u)).length = (u.reverse.map fun x => wD [x]).length := by simp [letsD, ginv]
    refine ws_ret (je_joinW (u := winv u) je_str (JF.je (jf_lc (own := [("letter", 1)]) (g := gName 1) (es := letsD (winv u)) (items := u.reverse.map fun x => wD [x]) sc_inv.nd (blkOk_by (N := ["word", "letter"]) (sc := defScope s_inv) (by decide +kernel))
      (ji_word (JE.of (je_revS (je_var 0) (by rw [enc_len]; omega)) (congrArg D.s (enc_rev u)))) hlen (by rw [hlen]; simp; omega) (imms_lets _) gm_name (fun _ _ _ _ _ => pg_name (i := 1) sc_inv.nd rfl (.inl rfl))
      (fun i d r v2 H2 h1 h2 s2 r2 => ?_))) (by simp [ginv]; omega)) fun v2 H3 s3 r3 => k v2 H3 s3 r3
    refine ⟨hw1 v2, rfl, fun sh Hb C cl fp => ?_⟩
    have hx : ∃ x, d = wD [x] ∧ r = wD [inv x] := by
      rw [List.getElem?_map] at h1
      cases e : u.reverse[i]? with
      | none => rw [e] at h1; cases h1
      | some x =>
        rw [e] at h1
        refine ⟨x, (Option.some.inj h1).symm, ?_⟩
        have : winv u = u.reverse.map inv := by simp [ginv]
        unfold letsD at h2
        rw [this, List.map_map, List.getElem?_map, e] at h2
        exact (Option.some.inj h2).symm
    obtain ⟨x, rfl, rfl⟩ := hx
    exact je_callD T.opposite_of (ok_opp T) (hr.mono (by decide)) (ja_cons (je_var 1 rfl r2) ja_nil) ⟨x, rfl, rfl⟩
abbrev s_btw : Stmt := topS 7
theorem sc_btw : FnScope ["value", "low", "high"] ["value", "low", "high"] (defScope s_btw) := ⟨rfl, rfl, rfl, by decide +kernel, rfl, by decide +kernel, by decide +kernel⟩
def fi_btw (ds : List D) (d : D) : Prop := ∃ a b c : Int, ds = [.i a, .i b, .i c] ∧ d = .b (decide (b ≤ a) && decide (a ≤ c))
theorem ok_btw (T : Txt K mg) : FnOk P w K mg base CX0 1 T.is_between.f T.is_between.fd ["value", "low", "high"] (spD fi_btw) := by
  refine T.is_between.F.ok sc_btw (fun vs H Q E h => ?_) (fun cdv A outer s H vs Q E hr h => ?_)
  · obtain ⟨ds, d, r, ⟨a, b, c, rfl, rfl⟩, _⟩ := h
    exact rps_len r rfl
  · obtain ⟨ds, d, r, ⟨a, b, c, rfl, rfl⟩, k⟩ := h
    obtain ⟨va, vb, vc, rfl, ra, rb, rc⟩ := rps3 r
    refine ⟨_, wSs_ok, ?_⟩
    refine ws_ret (je_and3 (x := true) (y := true) (je_isi T.b_isinstance (je_var 0 rfl ra) (je_tyInt T.b_int) (kb_int _)) (fun _ => JE.of (je_not (je_isi (c := false) T.b_isinstance (je_var 0 rfl ra) (je_tyBool T.b_bool) (kb_intb _))) rfl)
      (fun _ _ => je_leLe (je_var 1 rfl rb) (je_var 0 rfl ra) (je_var 2 rfl rc)) rfl) fun v2 H3 s3 r3 => k v2 H3 s3 r3
abbrev s_rank : Stmt := topS 8
theorem sc_rank : FnScope ["value"] ["value"] (defScope s_rank) := ⟨rfl, rfl, rfl, by decide +kernel, rfl, by decide +kernel, by decide +kernel⟩
def fi_rank (ds : List D) (d : D) : Prop := ∃ r : Nat, 1 ≤ r ∧ r ≤ 3 ∧ ds = [.i (r : Int)] ∧ d = .b true
theorem ok_rank (T : Txt K mg) : FnOk P w K mg base CX0 2 T.is_rank.f T.is_rank.fd ["value"] (spD fi_rank) := by
  refine T.is_rank.F.ok sc_rank (fun vs H Q E h => ?_) (fun cdv A outer s H vs Q E hr h => ?_)
  · obtain ⟨ds, d, r, ⟨a, _, _, rfl, rfl⟩, _⟩ := h
    exact rps_len r rfl
  · obtain ⟨ds, d, r, ⟨a, h1, h2, rfl, rfl⟩, k⟩ := h
    obtain ⟨va, rfl, ra⟩ := rps1 r
    obtain ⟨t, gt⟩ := T.g_MOST_RANK
    refine ⟨_, wSs_ok, ?_⟩
    refine ws_ret (je_callD T.is_between (ok_btw T) (hr.mono (by decide)) (ja_cons (je_var 0 rfl ra) (ja_cons je_int (ja_cons (je_globI gt) ja_nil))) ⟨a, 1, 3, rfl, ?_⟩) fun v2 H3 s3 r3 => k v2 H3 s3 r3
    rw [decide_eq_true (by omega), decide_eq_true (by omega)] <;> rfl
abbrev s_lets : Stmt := topS 9
theorem sc_lets : FnScope ["rank"] ["rank"] (defScope s_lets) := ⟨rfl, rfl, rfl, by decide +kernel, rfl, by decide +kernel, by decide +kernel⟩
def lets (r : Nat) : Str := ⟨((("aAbBcC" : Str)).cps.toList.take (2 * r)).toArray⟩
def fi_lets (ds : List D) (d : D) : Prop := ∃ r : Nat, r ≤ 3 ∧ ds = [.i (r : Int)] ∧ d = .s (lets r)
theorem six_len : (("aAbBcC" : Str)).length = 6 := by decide +kernel
theorem ok_lets (T : Txt K mg) : FnOk P w K mg base CX0 1 T.letters_of.f T.letters_of.fd ["rank"] (spD fi_lets) := by
  refine T.letters_of.F.ok sc_lets (fun vs H Q E h => ?_) (fun cdv A outer s H vs Q E hr h => ?_)
  · obtain ⟨ds, d, r, ⟨a, _, rfl, rfl⟩, _⟩ := h
    exact rps_len r rfl
  · obtain ⟨ds, d, r, ⟨a, h1, rfl, rfl⟩, k⟩ := h
    obtain ⟨va, rfl, ra⟩ := rps1 r
    obtain ⟨t, gt⟩ := T.g_LETTERS
    refine ⟨_, wSs_ok, ?_⟩
    exact ws_ret (je_toS (n := 2 * a) (je_globS gt) (je_mulI je_int (je_var 0 rfl ra) (by decide)) (by rw [six_len]; decide) (by omega)) fun v2 H3 s3 r3 => k v2 H3 s3 r3
theorem in_lets {r : Nat} (hr : r ≤ 3) {x : L} (hx : x.1.val < r) : decide (code x ∈ (lets r).cps.toList) = true := by
  have h3 : ∀ (r : Fin 4) (a : Fin 3) (b : Bool), a.val < r.val → decide (code (a, b) ∈ (lets r.val).cps.toList) = true := by decide +kernel
  exact h3 ⟨r, by omega⟩ x.1 x.2 hx
abbrev s_isl : Stmt := topS 10
theorem sc_isl : FnScope ["value", "rank", "letter"] ["value", "rank"] (defScope s_isl) := ⟨rfl, rfl, rfl, by decide +kernel, rfl, by decide +kernel, by decide +kernel⟩
def fi_isl (ds : List D) (d : D) : Prop := ∃ (u : Wd) (r : Nat), r ≤ 3 ∧ InR r u ∧ u.length ≤ 5000 ∧ ds = [wD u, .i (r : Int)] ∧ d = .b true
theorem all_true {A : Type} (l : List A) : (l.map fun _ => true).all id = true := by simp
theorem ok_isl (T : Txt K mg) : FnOk P w K mg base CX0 2 T.is_letters.f T.is_letters.fd ["value", "rank"] (spD fi_isl) := by
  refine T.is_letters.F.ok sc_isl (fun vs H Q E h => ?_) (fun cdv A outer s H vs Q E hr h => ?_)
  · obtain ⟨ds, d, r, ⟨u, a, _, _, _, rfl, rfl⟩, _⟩ := h
    exact rps_len r rfl
  · obtain ⟨ds, d, r, ⟨u, a, h1, h2, h3, rfl, rfl⟩, k⟩ := h
    obtain ⟨vu, va, rfl, ru, ra⟩ := rps2 r
    refine ⟨_, wSs_ok, ?_⟩
    refine ws_ret (je_and2 (x := true) (y := (u.map fun _ => true).all id) (je_isi T.b_isinstance (je_var 0 rfl ru) (je_tyStr T.b_str) (kb_str _)) (fun _ => je_all rfl T.b_all (JF.je (jf_lc (own := [("letter", 2)]) (g := gName 2) (items := u.map fun x => wD [x]) sc_isl.nd (blkOk_by (N := ["value", "rank", "letter"]) (sc := defScope s_isl) (by decide +kernel))
      (ji_word (je_var 0 rfl ru)) (by simp) (by simp; omega) (imms_map (fun _ => rfl) _) gm_name (fun _ _ _ _ _ => pg_name (i := 2) sc_isl.nd rfl (.inl rfl)) (fun i d r v2 H2 e1 e2 s2 r2 => ?_)))) (by rw [all_true] <;> rfl)) fun v2 H3 s3 r3 => k v2 H3 s3 r3
    refine ⟨hw1 v2, rfl, fun sh Hb C cl fp => ?_⟩
    rw [List.getElem?_map] at e1 e2
    cases e : u[i]? with
    | none => rw [e] at e1; cases e1
    | some x =>
      rw [List.getElem?_map] at e2
      rw [e] at e1 e2
      obtain rfl := Option.some.inj e1
      obtain rfl := Option.some.inj e2
      exact JE.of (je_inS (je_var 2 rfl r2) (je_callD T.letters_of (ok_lets T) (hr.mono (by decide)) (ja_cons (je_var 1 rfl (ra.mono s2)) ja_nil) ⟨a, h1, rfl, rfl⟩)) (congrArg D.b (in_lets h1 (h2 x (List.mem_of_getElem? e))))
abbrev s_isw : Stmt := topS 11
theorem sc_isw : FnScope ["value", "rank"] ["value", "rank"] (defScope s_isw) := ⟨rfl, rfl, rfl, by decide +kernel, rfl, by decide +kernel, by decide +kernel⟩
def fi_isw (ds : List D) (d : D) : Prop := ∃ (u : Wd) (r : Nat), 1 ≤ r ∧ r ≤ 3 ∧ InR r u ∧ u.length ≤ 24 ∧ ds = [wD u, .i (r : Int)] ∧ d = .b true
theorem ok_isw (T : Txt K mg) : FnOk P w K mg base CX0 3 T.is_word.f T.is_word.fd ["value", "rank"] (spD fi_isw) := by
  refine T.is_word.F.ok sc_isw (fun vs H Q E h => ?_) (fun cdv A outer s H vs Q E hr h => ?_)
  · obtain ⟨ds, d, r, ⟨u, a, _, _, _, _, rfl, rfl⟩, _⟩ := h
    exact rps_len r rfl
  · obtain ⟨ds, d, r, ⟨u, a, h0, h1, h2, h3, rfl, rfl⟩, k⟩ := h
    obtain ⟨vu, va, rfl, ru, ra⟩ := rps2 r
    obtain ⟨t, gt⟩ := T.g_LONGEST
    refine ⟨_, wSs_ok, ?_⟩
    refine ws_ret (je_and3 (x := true) (y := true) (je_callD T.is_rank (ok_rank T) (hr.mono (by decide)) (ja_cons (je_var 1 rfl ra) ja_nil) ⟨a, h0, h1, rfl, rfl⟩) (fun _ => je_callD T.is_letters (ok_isl T) (hr.mono (by decide)) (ja_cons (je_var 0 rfl ru) (ja_cons (je_var 1 rfl ra) ja_nil)) ⟨u, a, h1, h2, by omega, rfl, rfl⟩)
      (fun _ _ => je_leI (je_lenS T.b_len (je_var 0 rfl ru) (by rw [enc_len]; omega)) (je_globI gt)) ?_) fun v2 H3 s3 r3 => k v2 H3 s3 r3
    rw [enc_len, decide_eq_true (by omega)] <;> rfl
end
end FW
/-! actions -/
namespace FW
open PySem L2
section
variable {P : Program} {w : World} {K : PySem.W.Frag} {mg : Str → Option Value} {base : Heap}
abbrev s_isia : Stmt := topS 18
theorem sc_isia : FnScope ["value"] ["value"] (defScope s_isia) := ⟨rfl, rfl, rfl, by decide +kernel, rfl, by decide +kernel, by decide +kernel⟩
def fi_isi (ds : List D) (d : D) : Prop := ∃ n : Int, ds = [.i n] ∧ d = .b true
theorem ok_isia (T : Txt K mg) : FnOk P w K mg base CX0 1 T.is_integer_actions.f T.is_integer_actions.fd ["value"] (spD fi_isi) := by
  refine T.is_integer_actions.F.ok sc_isia (fun vs H Q E h => ?_) (fun cdv A outer s H vs Q E hr h => ?_)
  · obtain ⟨ds, d, r, ⟨a, rfl, rfl⟩, _⟩ := h
    exact rps_len r rfl
  · obtain ⟨ds, d, r, ⟨a, rfl, rfl⟩, k⟩ := h
    obtain ⟨va, rfl, ra⟩ := rps1 r
    refine ⟨_, wSs_ok, ?_⟩
    exact ws_ret (je_and2 (x := true) (y := true) (je_isi T.b_isinstance (je_var 0 rfl ra) (je_tyInt T.b_int) (kb_int _)) (fun _ => JE.of (je_not (je_isi (c := false) T.b_isinstance (je_var 0 rfl ra) (je_tyBool T.b_bool) (kb_intb _))) rfl) rfl) fun v2 H3 s3 r3 => k v2 H3 s3 r3
abbrev s_isid : Stmt := topS 50
theorem sc_isid : FnScope ["value"] ["value"] (defScope s_isid) := ⟨rfl, rfl, rfl, by decide +kernel, rfl, by decide +kernel, by decide +kernel⟩
theorem ok_isid (T : Txt K mg) : FnOk P w K mg base CX0 1 T.is_integer_derivations.f T.is_integer_derivations.fd ["value"] (spD fi_isi) := by
  refine T.is_integer_derivations.F.ok sc_isid (fun vs H Q E h => ?_) (fun cdv A outer s H vs Q E hr h => ?_)
  · obtain ⟨ds, d, r, ⟨a, rfl, rfl⟩, _⟩ := h
    exact rps_len r rfl
  · obtain ⟨ds, d, r, ⟨a, rfl, rfl⟩, k⟩ := h
    obtain ⟨va, rfl, ra⟩ := rps1 r
    refine ⟨_, wSs_ok, ?_⟩
    exact ws_ret (je_and2 (x := true) (y := true) (je_isi T.b_isinstance (je_var 0 rfl ra) (je_tyInt T.b_int) (kb_int _)) (fun _ => JE.of (je_not (je_isi (c := false) T.b_isinstance (je_var 0 rfl ra) (je_tyBool T.b_bool) (kb_intb _))) rfl) rfl) fun v2 H3 s3 r3 => k v2 H3 s3 r3
/-! is_permutation -/
def rngI (n : Nat) : List Int := (List.range n).map Int.ofNat
theorem perm_range {n : Nat} {row : List Nat} (h : IsPerm n row) : row.Perm (List.range n) := by
  refine (List.perm_ext_iff_of_nodup h.nd List.nodup_range).mpr fun a => ?_
  rw [List.mem_range]
  exact ⟨h.lt a, h.mem⟩
theorem sorted_rng {n : Nat} {row : List Nat} (h : IsPerm n row) {ns : List Int} (hp : ns.Perm (row.map Int.ofNat)) (hs : ns.Pairwise (· ≤ ·)) : ns = rngI n := by
  refine PySem.W.ksm_same (hp.trans ((perm_range h).map Int.ofNat)) hs ?_
  unfold rngI
  rw [List.pairwise_map]
  exact List.pairwise_lt_range.imp fun q => by show Int.ofNat _ ≤ Int.ofNat _; exact Int.ofNat_le.mpr (Nat.le_of_lt q)
theorem je_sortR {X : Cx} {e : Expr} {σ : L2.St} {H : Hp} {pos p : Pos} {n : Nat} {row : List Nat} (hm : X.mg "sorted" = none) (hp : IsPerm n row) (ha : JE X e σ H (.r row)) (hg : Gl X "sorted" := by rfl) (he : starEach [e] X.env = (false, eval e X.env) :: starEach [] X.env := by rfl) (hpl : (backTo pos (starEach [] X.env)).any (·.1) = false := by rfl) :
    JE X (.Call (.Name "sorted" p) [e] [] pos) σ H (.l ((rngI n).map D.i)) :=
  je_callB cr_sortTupI hm (by decide +kernel) (ja_cons ha ja_nil he) (fun H2 vs Q _ r k => by
    obtain ⟨v, rfl, q, ob, rfl, hq, _⟩ := rps1 r
    refine ⟨q, row.map Int.ofNat, rfl, .inl (.inr ⟨ob, hq⟩), fun ns' l h1 h2 hl => ?_⟩
    have e := sorted_rng hp h1 h2
    subst e
    exact k _ _ (same_new hl) ⟨l, _, rfl, upd_same, rps_ints _⟩) hg (he := he) (hpl := hpl)
theorem je_listRg {X : Cx} {e : Expr} {σ : L2.St} {H : Hp} {pos p p2 p3 : Pos} {n : Nat} (hm : X.mg "list" = none) (hm2 : X.mg "range" = none) (ha : JE X e σ H (.i (n : Int))) (hn : n ≤ 10000) (hc : X.calm = true := by rfl) (hg : Gl X "list" := by rfl) (hg2 : Gl X "range" := by rfl) (he : starEach [e] X.env = (false, eval e X.env) :: starEach [] X.env := by rfl)
    (na : starEach [.Call (.Name "range" p2) [e] [] p3] X.env = (false, eval (.Call (.Name "range" p2) [e] [] p3) X.env) :: starEach [] X.env := by rfl) : JF X (.Call (.Name "list" p) [.Call (.Name "range" p2) [e] [] p3] [] pos) σ H ((rngI n).map D.i) := fun H1 e1 Q k =>
  ⟨_, pe_listRg hc hg hm (prg_1 hg2 hm2 wE_ok he) na, ha H1 e1 _ fun v H2 e2 r => ⟨n, r, RgOk.of_le (by omega) (by omega) (by omega) (by omega), fun q hq => by
    have e : rgV 0 (n : Int) = (rngI n).map V.int := by
      unfold rgV rngI
      rw [List.map_map, show ((n : Int) - 0).toNat = n by omega]
      refine List.map_congr_left fun i _ => ?_
      show V.int (0 + (i : Int)) = V.int (Int.ofNat i)
      rw [Int.zero_add] <;> rfl
    rw [e]
    exact k q _ _ (Same.free e2 hq) (e2.trans (same_new hq)) upd_same (rps_ints _)⟩⟩
abbrev s_isp : Stmt := topS 20
theorem sc_isp : FnScope ["value", "many", "one"] ["value", "many"] (defScope s_isp) := ⟨rfl, rfl, rfl, by decide +kernel, rfl, by decide +kernel, by decide +kernel⟩
def fi_isp (ds : List D) (d : D) : Prop := ∃ (row : List Nat) (n : Nat), IsPerm n row ∧ n ≤ 1000 ∧ ds = [.r row, .i (n : Int)] ∧ d = .b true
theorem ok_isp (T : Txt K mg) : FnOk P w K mg base CX0 2 T.is_permutation.f T.is_permutation.fd ["value", "many"] (spD fi_isp) := by
  refine T.is_permutation.F.ok sc_isp (fun vs H Q E h => ?_) (fun cdv A outer s H vs Q E hr h => ?_)
  · obtain ⟨ds, d, r, ⟨row, n, _, _, rfl, rfl⟩, _⟩ := h
    exact rps_len r rfl
  · obtain ⟨ds, d, r, ⟨row, n, hp, hn, rfl, rfl⟩, k⟩ := h
    obtain ⟨va, vb, rfl, ra, rb⟩ := rps2 r
    have hl := hp.len
    refine ⟨_, wSs_ok, ?_⟩
    refine ws_ifF (jt_or3 (x := false) (y := false) (z := false) (JT.of (jt_not (JE.test (je_isi (c := true) T.b_isinstance (je_var 0 rfl ra) (je_tyTup T.b_tuple) (kb_row _)))) rfl) (fun _ => JT.of (jt_neI (je_lenR T.b_len (je_var 0 rfl ra)) (je_var 1 rfl rb)) (by rw [hl]; simp)) (fun _ _ => JT.of (jt_not (JE.test (je_all (bs := row.map fun _ => true) rfl T.b_all (JF.je (jf_lc (own := [("one", 2)]) (g := gName 2) (items := (row.map Int.ofNat).map D.i) sc_isp.nd (blkOk_by (N := ["value", "many", "one"]) (sc := defScope s_isp) (by decide +kernel))
      (ji_row (je_var 0 rfl ra)) (by simp) (by simp; omega) (imms_map (fun _ => rfl) _) gm_name (fun _ _ _ _ _ => pg_name (i := 2) sc_isp.nd rfl (.inl rfl)) (fun i d r v2 H2 e1 e2 s2 r2 => ?_)))))) (by rw [all_true] <;> rfl)) rfl) fun H1 s1 => ?_
    · refine ⟨hw1 v2, rfl, fun sh Hb C cl fp => ?_⟩
      obtain ⟨z, hz⟩ : ∃ z : Int, d = .i z := by
        rw [List.getElem?_map] at e1
        cases q : (row.map Int.ofNat)[i]? with
        | none => rw [q] at e1; cases e1
        | some z => rw [q] at e1; exact ⟨z, (Option.some.inj e1).symm⟩
      have hr' : r = .b true := by
        rw [List.getElem?_map, List.getElem?_map] at e2
        cases q : row[i]? with
        | none => rw [q] at e2; cases e2
        | some z => rw [q] at e2; exact (Option.some.inj e2).symm
      subst hz hr'
      exact je_callD T.is_integer_actions (ok_isia T) (hr.mono (by decide)) (ja_cons (je_var 2 rfl r2) ja_nil) ⟨z, rfl, rfl⟩
    · exact ws_ret (je_eqInts hr (je_sortR T.b_sorted hp (je_var 0 rfl (ra.mono s1))) (JF.je (je_listRg T.b_list T.b_range (je_var 1 rfl (rb.mono s1)) (by omega)))) fun v2 H3 s3 r3 => k v2 H3 (s1.trans s3) r3
end
end FW
/-! actions, further -/
namespace FW
open PySem L2
section
variable {X : Cx} {e o : Expr} {σ : L2.St} {H : Hp} {pos : Pos} {ds : List D}
theorem jt_truT (h : JE X e σ H (.t ds)) (he : ∀ whole, isTrue e X.env whole = (do let v ← whole; standAt e.pos; holding [v] (truthy v)) := by intro _; rfl) : JT X e σ H (!ds.isEmpty) :=
  JE.truth h (fun H2 v s ⟨p, vs, ev, h1, h2⟩ => by
    have : vs.isEmpty = ds.isEmpty := by
      have := h2.len
      cases vs <;> cases ds <;> simp at this ⊢
    rw [ev, ← this]
    exact .inr (.inl ⟨vs, SqT.of h1, rfl⟩)) he
theorem jt_truL (h : JE X e σ H (.l ds)) (he : ∀ whole, isTrue e X.env whole = (do let v ← whole; standAt e.pos; holding [v] (truthy v)) := by intro _; rfl) : JT X e σ H (!ds.isEmpty) :=
  JE.truth h (fun H2 v s ⟨p, vs, ev, h1, h2⟩ => by
    have : vs.isEmpty = ds.isEmpty := by
      have := h2.len
      cases vs <;> cases ds <;> simp at this ⊢
    rw [ev, ← this]
    exact .inl ⟨vs, SqL.of h1, rfl⟩) he
/-- row.index(p) -/
theorem je_rowIx {apos : Pos} {row : List Nat} {p : Nat} (ha : JE X o σ H (.r row)) (hb : JE X e σ H (.i (p : Int))) (hp : p ∈ row) (hbase : attributeBase o "index" X.env (eval o X.env) = eval o X.env := by rfl)
    (hfew : ((backTo pos (starEach [e] X.env)).all (fun x => !x.1) && (backToKw pos (keywordEach [] X.env)).all (fun x => x.1.isSome) && decide ([e].length + ([] : List Keyword).length + (if ([] : List Keyword).isEmpty then 0 else 1) < 30)) = true := by rfl)
    (hline : (apos.endLine == pos.line) = true := by rfl) (hs : starEach [e] X.env = (false, eval e X.env) :: starEach [] X.env := by rfl) (hplain : (backTo pos (starEach [] X.env)).any (·.1) = false := by rfl) :
    JE X (.Call (.Attribute o "index" apos) [e] [] pos) σ H (.i ((row.idxOf p : Nat) : Int)) :=
  je_by (pe_tupIx wE_ok wE_ok hbase hfew hline hs hplain) fun H1 e1 Q k => ha H1 e1 _ fun x H2 e2 ⟨q, ob, ex, hq, hc, hd⟩ => ⟨q, ob, row.map Int.ofNat, ex, hq, hc, hd, hb H2 (e1.trans e2) _ fun y H3 e3 ry => by
    have hl := List.idxOf_lt_length_of_mem hp
    refine ⟨p, row.idxOf p, ry, e3 _ _ hq, ?_, fun m hm => ?_, k _ _ (e2.trans e3) rfl⟩
    · rw [List.getElem?_map, List.getElem?_eq_getElem hl, List.getElem_idxOf hl] <;> rfl
    · intro z
      rw [List.getElem?_map] at z
      cases q2 : row[m]? with
      | none => rw [q2] at z; cases z
      | some y =>
        rw [q2] at z
        have ey : y = p := by
          have h5 : (Int.ofNat y) = (p : Int) := Option.some.inj z
          exact Int.ofNat.inj h5
        obtain ⟨hm1, hm2⟩ := List.getElem?_eq_some_iff.mp q2
        have := List.not_of_lt_findIdx (p := (· == p)) (xs := row) (i := m) hm
        simp [hm2, ey] at this⟩
end
section
variable {P : Program} {w : World} {K : PySem.W.Frag} {mg : Str → Option Value} {base : Heap}
def actD (act : Act) : D := .t (act.map D.r)
abbrev s_isac : Stmt := topS 21
theorem sc_isac : FnScope ["value", "rank", "many", "one"] ["value", "rank"] (defScope s_isac) := ⟨rfl, rfl, rfl, by decide +kernel, rfl, by decide +kernel, by decide +kernel⟩
def fi_isac (ds : List D) (d : D) : Prop := ∃ (act : Act) (n : Nat), ActOk n act ∧ 1 ≤ n ∧ n ≤ 60 ∧ 1 ≤ act.length ∧ act.length ≤ 3 ∧ ds = [actD act, .i (act.length : Int)] ∧ d = .b true
theorem ok_isac (T : Txt K mg) : FnOk P w K mg base CX0 3 T.is_action.f T.is_action.fd ["value", "rank"] (spD fi_isac) := by
  refine T.is_action.F.ok sc_isac (fun vs H Q E h => ?_) (fun cdv A outer s H vs Q E hr h => ?_)
  · obtain ⟨ds, d, r, ⟨row, n, _, _, _, _, _, rfl, rfl⟩, _⟩ := h
    exact rps_len r rfl
  · obtain ⟨ds, d, r, ⟨act, n, hA, h1, h2, h3, h4, rfl, rfl⟩, k⟩ := h
    obtain ⟨va, vb, rfl, ra, rb⟩ := rps2 r
    have hl : (act.map D.r).length = act.length := by simp
    obtain ⟨row0, rest0, ea⟩ : ∃ r0 t, act = r0 :: t := by
      cases act with
      | nil => simp at h3
      | cons a t => exact ⟨a, t, rfl⟩
    have h0 : atI (act.map D.r) ((0 : Nat) : Int) = some (.r row0) := atI_nat (by rw [ea] <;> rfl)
    have hrow : row0.length = n := (hA row0 (by rw [ea]; exact List.mem_cons_self)).len
    obtain ⟨t, gt⟩ := T.g_MOST_POINTS
    refine ⟨_, wSs_ok, ?_⟩
    refine ws_ifF (jt_or4 (x := false) (y := false) (z := false) (u := false) (JT.of (jt_not (JE.test (je_isi (c := true) T.b_isinstance (je_var (d := .t (act.map D.r)) 0 rfl ra) (je_tyTup T.b_tuple) (kb_tup _)))) rfl)
      (fun _ => JT.of (jt_neI (je_lenT T.b_len (je_var (d := .t (act.map D.r)) 0 rfl ra)) (je_var 1 rfl rb)) (by rw [hl]; simp)) (fun _ _ => JT.of (jt_not (jt_truT (je_var (d := .t (act.map D.r)) 0 rfl ra))) (by rw [ea] <;> rfl))
      (fun _ _ _ => JT.of (jt_not (JE.test (je_isi (c := true) T.b_isinstance (je_ixT (ds := act.map D.r) (d := .r row0) (je_var 0 rfl ra) je_int h0) (je_tyTup T.b_tuple) (kb_row _)))) rfl) rfl) fun H1 s1 => ?_
    refine ws_set 2 sc_isac.nd (je_lenR T.b_len (je_ixT (ds := act.map D.r) (d := .r row0) (je_var 0 rfl (ra.mono s1)) je_int h0)) fun vm H2 s2 r2 => ?_
    rw [hrow] at r2
    refine ws_ret (je_and2 (x := true) (y := (act.map fun _ => true).all id) (JE.of (je_leLe je_int (je_var 2 rfl r2) (je_globI gt)) (by rw [decide_eq_true (by omega), decide_eq_true (by omega)] <;> rfl)) (fun _ => je_all rfl T.b_all (JF.je (jf_lc (own := [("one", 3)]) (g := gName 3) (items := act.map D.r) sc_isac.nd (blkOk_by (N := ["value", "rank", "many", "one"]) (sc := defScope s_isac) (by decide +kernel))
      (ji_tup (je_var (d := .t (act.map D.r)) 0 rfl ((ra.mono s1).mono s2))) (by simp) (by simp; omega) (imms_map (fun _ => rfl) _) gm_name (fun _ _ _ _ _ => pg_name (i := 3) sc_isac.nd rfl (.inl rfl)) (fun i d r v3 H3 e1 e2 s3 r3 => ?_)))) (by rw [all_true] <;> rfl)) fun v2 H3 s3 r3 => k v2 H3 ((s1.trans s2).trans s3) r3
    refine ⟨hw1 v3, rfl, fun sh Hb C cl fp => ?_⟩
    rw [List.getElem?_map] at e1
    rw [List.getElem?_map, List.getElem?_map] at e2
    cases q : act[i]? with
    | none => rw [q] at e1; cases e1
    | some row =>
      rw [q] at e1 e2
      obtain rfl := Option.some.inj e1
      obtain rfl := Option.some.inj e2
      exact je_callD T.is_permutation (ok_isp T) (hr.mono (by decide)) (ja_cons (je_var 3 rfl r3) (ja_cons (je_var 2 rfl (r2.mono s3)) ja_nil)) ⟨row, n, hA row (List.mem_of_getElem? q), by omega, rfl, rfl⟩
/-! image_by, image_of, returns_in -/
abbrev s_imb : Stmt := topS 22
theorem sc_imb : FnScope ["action", "point", "letter", "row"] ["action", "point", "letter"] (defScope s_imb) := ⟨rfl, rfl, rfl, by decide +kernel, rfl, by decide +kernel, by decide +kernel⟩
def fi_imb (ds : List D) (d : D) : Prop := ∃ (act : Act) (n p : Nat) (x : L), ActOk n act ∧ p < n ∧ x.1.val < act.length ∧ ds = [actD act, .i (p : Int), wD [x]] ∧ d = .i (img act p x : Int)
theorem occ_abc (k : Fin 3) : ∃ more, Builtin.Str.occurrences ("abc" : Str) (enc [(k, false)]) 0 ("abc" : Str).length 1 = k.val :: more := by
  match k with
  | 0 => exact ⟨[], by decide +kernel⟩
  | 1 => exact ⟨[], by decide +kernel⟩
  | 2 => exact ⟨[], by decide +kernel⟩
theorem in_abc (x : L) : decide (code x ∈ (("abc" : Str)).cps.toList) = !x.2 := by
  have h : ∀ (a : Fin 3) (b : Bool), decide (code (a, b) ∈ (("abc" : Str)).cps.toList) = !b := by decide +kernel
  exact h x.1 x.2
theorem one_len (x : L) : (enc [x]).length ≤ 100000 := by rw [enc_len]; simp
theorem ok_imb (T : Txt K mg) : FnOk P w K mg base CX0 1 T.image_by.f T.image_by.fd ["action", "point", "letter"] (spD fi_imb) := by
  refine T.image_by.F.ok sc_imb (fun vs H Q E h => ?_) (fun cdv A outer s H vs Q E hr h => ?_)
  · obtain ⟨ds, d, r, ⟨act, n, p, x, _, _, _, rfl, rfl⟩, _⟩ := h
    exact rps_len r rfl
  · obtain ⟨ds, d, r, ⟨act, n, p, x, hA, hp, hx, rfl, rfl⟩, k⟩ := h
    obtain ⟨va, vp, vx, rfl, ra, rp, rx⟩ := rps3 r
    obtain ⟨t, gt⟩ := T.g_SMALL_actions
    have hrow : act[x.1.val]? = some act[x.1.val] := List.getElem?_eq_getElem hx
    generalize act[x.1.val] = row at hrow
    have hP := hA row (List.mem_of_getElem? hrow)
    have hix : atI (act.map D.r) ((x.1.val : Nat) : Int) = some (.r row) := atI_nat (by rw [List.getElem?_map, hrow] <;> rfl)
    obtain ⟨more, hocc⟩ := occ_abc x.1
    refine ⟨_, wSs_ok, ?_⟩
    refine ws_set 3 sc_imb.nd (je_ixT (ds := act.map D.r) (d := .r row) (je_var 0 rfl ra) (je_sindex (je_globS gt) (JE.of (je_lower (je_var 2 rfl rx) (one_len x)) (congrArg D.s (low_enc x))) hocc) hix) fun vr H1 s1 r1 => ?_
    have him : img act p x = if x.2 then row.idxOf p else row.getD p 0 := by unfold img; rw [hrow]
    refine ws_ret (d := .i (img act p x : Int)) (je_if (k := !x.2) (JT.of (jt_inS (c := code x) (je_var (d := wD [x]) 2 rfl (rx.mono s1)) (je_globS gt)) (in_abc x)) (fun hk => ?_) (fun hk => ?_)) fun v2 H3 s3 r3 => k v2 H3 (s1.trans s3) r3
    · have hk2 : x.2 = false := by simpa using hk
      have hlt : p < row.length := by rw [hP.len]; exact hp
      rw [him, hk2, if_neg (by decide), List.getD_eq_getElem?_getD, List.getElem?_eq_getElem hlt]
      exact je_ixR (je_var 3 rfl r1) (je_var 1 rfl (rp.mono s1)) (List.getElem?_eq_getElem hlt)
    · have hk2 : x.2 = true := by simpa using hk
      rw [him, hk2, if_pos rfl]
      exact je_rowIx (je_var 3 rfl r1) (je_var 1 rfl (rp.mono s1)) (hP.mem hp)
abbrev s_imo : Stmt := topS 23
theorem sc_imo : FnScope ["action", "point", "word", "letter"] ["action", "point", "word"] (defScope s_imo) := ⟨rfl, rfl, rfl, by decide +kernel, rfl, by decide +kernel, by decide +kernel⟩
def fi_imo (ds : List D) (d : D) : Prop := ∃ (act : Act) (n p : Nat) (u : Wd), ActOk n act ∧ p < n ∧ InR act.length u ∧ ds = [actD act, .i (p : Int), wD u] ∧ d = .i (imgs act p u : Int)
theorem ok_imo (T : Txt K mg) : FnOk P w K mg base CX0 2 T.image_of.f T.image_of.fd ["action", "point", "word"] (spD fi_imo) := by
  refine T.image_of.F.ok sc_imo (fun vs H Q E h => ?_) (fun cdv A outer s H vs Q E hr h => ?_)
  · obtain ⟨ds, d, r, ⟨act, n, p, x, _, _, _, rfl, rfl⟩, _⟩ := h
    exact rps_len r rfl
  · obtain ⟨ds, d, r, ⟨act, n, p, u, hA, hp, hu, rfl, rfl⟩, k⟩ := h
    obtain ⟨va, vp, vu, rfl, ra, rp, ru⟩ := rps3 r
    refine ⟨_, wSs_ok, ?_⟩
    refine ws_forW (w := u) (je_var 2 rfl ru) (pg_name (i := 3) sc_imo.nd rfl (.inl rfl)) (fun i σ' H' => ∃ y z, σ' = [some va, some y, some vu, z] ∧ Same H H' ∧ Rp H' (.i (imgs act p (u.take i) : Int)) y) (fun H2 s2 => ⟨vp, none, rfl, s2, rp.mono s2⟩) ?_ ?_
    · rintro i x σ' H' hx ht ⟨y, z, rfl, s2, r2⟩
      show wSs _ _ _ [some va, some y, some vu, some (V.str (enc [x]))] H'
      refine ws_set 1 sc_imo.nd (je_callD T.image_by (ok_imb T) (hr.mono (by decide)) (ja_cons (je_var 0 rfl (ra.mono s2)) (ja_cons (je_var 1 rfl r2) (ja_cons (je_var (d := wD [x]) 3 rfl rfl) ja_nil))) ⟨act, n, _, x, hA, imgs_lt hA _ hp, hu x (List.mem_of_getElem? hx), rfl, rfl⟩) fun v3 H3 s3 r3 => ws_nil ⟨v3, _, rfl, s2.trans s3, ?_⟩
      rw [ht, imgs_app]
      exact r3
    · rintro σ' H' ⟨y, z, rfl, s2, r2⟩
      rw [show u.take u.length = u from List.take_length] at r2
      exact ws_ret (je_var 1 rfl r2) fun v2 H3 s3 r3 => k v2 H3 (s2.trans s3) r3
abbrev s_ret : Stmt := topS 24
theorem sc_ret : FnScope ["action", "word"] ["action", "word"] (defScope s_ret) := ⟨rfl, rfl, rfl, by decide +kernel, rfl, by decide +kernel, by decide +kernel⟩
def fi_ret (ds : List D) (d : D) : Prop := ∃ (act : Act) (n : Nat) (u : Wd), ActOk n act ∧ 0 < n ∧ InR act.length u ∧ ds = [actD act, wD u] ∧ d = .b (decide (imgs act 0 u = 0))
theorem dec_nat (a b : Nat) : decide ((a : Int) = (b : Int)) = decide (a = b) := by
  by_cases q : a = b
  · rw [q]; simp
  · rw [decide_eq_false q, decide_eq_false (by omega)]
theorem ok_ret (T : Txt K mg) : FnOk P w K mg base CX0 3 T.returns_in.f T.returns_in.fd ["action", "word"] (spD fi_ret) := by
  refine T.returns_in.F.ok sc_ret (fun vs H Q E h => ?_) (fun cdv A outer s H vs Q E hr h => ?_)
  · obtain ⟨ds, d, r, ⟨act, n, x, _, _, _, rfl, rfl⟩, _⟩ := h
    exact rps_len r rfl
  · obtain ⟨ds, d, r, ⟨act, n, u, hA, hn, hu, rfl, rfl⟩, k⟩ := h
    obtain ⟨va, vu, rfl, ra, ru⟩ := rps2 r
    refine ⟨_, wSs_ok, ?_⟩
    exact ws_ret (JE.of (je_eqI (je_callD T.image_of (ok_imo T) (hr.mono (by decide)) (ja_cons (je_var 0 rfl ra) (ja_cons je_int (ja_cons (je_var 1 rfl ru) ja_nil))) ⟨act, n, 0, u, hA, hn, hu, rfl, rfl⟩) je_int) (congrArg D.b (dec_nat _ 0))) fun v2 H3 s3 r3 => k v2 H3 s3 r3
end
end FW
/-! families, factors -/
namespace FW
open PySem L2
def kindS (b : Bool) : Str := if b then "step" else "given"
def sgn (b : Bool) : Int := if b then 1 else -1
def facD (f : Fac) : D := .t [.s (kindS f.1), .i (f.2.1 : Int), .i (sgn f.2.2)]
def facsD (fs : List Fac) : List D := fs.map facD
theorem imms_facs (fs : List Fac) : imms (facsD fs) = true := imms_map (fun _ => rfl) fs
def facP (f : Fac) : PyData := .tuple [.str (kindS f.1), .int (f.2.1 : Int), .int (sgn f.2.2)]
theorem kind_dec (a b : Bool) : (kindS a == kindS b) = decide (a = b) := by
  revert a b
  decide +kernel
theorem sgn_dec (a b : Bool) : (sgn a == sgn b) = decide (a = b) := by
  revert a b
  decide
theorem shaped_fac (f : Fac) : SeqAt.shaped (facP f) = true := by
  obtain ⟨a, n, b⟩ := f
  show ((PyData.canLay0 (.str (kindS a)) && (true && (true && true))) && decide (max 0 (max 0 (max 0 0)) + 1 ≤ 64)) = true
  have : PyData.canLay0 (.str (kindS a)) = true := by
    revert a
    decide +kernel
  rw [this] <;> rfl
theorem eqv_fac (f g : Fac) : PyData.eqv (facP f) (facP g) = decide (f = g) := by
  obtain ⟨a, n, b⟩ := f
  obtain ⟨c, m, d⟩ := g
  have h1 : PyData.eqv (facP (a, n, b)) (facP (c, m, d)) = ((kindS a == kindS c) && (((n : Int) == (m : Int)) && ((sgn b == sgn d) && true))) := by
    simp [facP, PyData.eqv, PyData.eqvAll]
  rw [h1, kind_dec, sgn_dec]
  by_cases q : n = m
  · subst q
    cases a <;> cases b <;> cases c <;> cases d <;> simp
  · have : ((n : Int) == (m : Int)) = false := beq_eq_false_iff_ne.mpr (by omega)
    rw [this]
    simp [q]
end FW
/-! families, factors -/
namespace FW
open PySem L2
structure FamOk (r : Nat) (gs : List Wd) : Prop where
  lo : 1 ≤ r
  hi : r ≤ 3
  many : gs.length ≤ 4
  inr : ∀ g ∈ gs, InR r g
  len : ∀ g ∈ gs, g.length ≤ 8
def famD (r : Nat) (gs : List Wd) : D := .t [.i (r : Int), .t (gs.map wD)]
theorem map_at {A : Type} {f : A → D} {l : List A} {i : Nat} {d : D} (h : (l.map f)[i]? = some d) : ∃ a, l[i]? = some a ∧ d = f a := by
  rw [List.getElem?_map] at h
  cases e : l[i]? with
  | none => rw [e] at h; cases h
  | some a => rw [e] at h; exact ⟨a, rfl, (Option.some.inj h).symm⟩
section
variable {P : Program} {w : World} {K : PySem.W.Frag} {mg : Str → Option Value} {base : Heap}
theorem je_fam0 {X : Cx} {e : Expr} {σ : L2.St} {H : Hp} {pos p2 : Pos} {j : Nat} {r : Nat} {gs : List Wd} (h : JE X e σ H (famD r gs)) : JE X (.Subscript e (.Constant (.int 0) j p2) pos) σ H (.i (r : Int)) := je_ixT (i := 0) h je_int rfl
theorem je_fam1 {X : Cx} {e : Expr} {σ : L2.St} {H : Hp} {pos p2 : Pos} {j : Nat} {r : Nat} {gs : List Wd} (h : JE X e σ H (famD r gs)) : JE X (.Subscript e (.Constant (.int 1) j p2) pos) σ H (.t (gs.map wD)) := je_ixT (i := 1) h je_int rfl
abbrev s_isf : Stmt := topS 28
theorem sc_isf : FnScope ["value", "word"] ["value"] (defScope s_isf) := ⟨rfl, rfl, rfl, by decide +kernel, rfl, by decide +kernel, by decide +kernel⟩
def fi_isf (ds : List D) (d : D) : Prop := ∃ (r : Nat) (gs : List Wd), FamOk r gs ∧ ds = [famD r gs] ∧ d = .b true
theorem ok_isf (T : Txt K mg) : FnOk P w K mg base CX0 4 T.is_family.f T.is_family.fd ["value"] (spD fi_isf) := by
  refine T.is_family.F.ok sc_isf (fun vs H Q E h => ?_) (fun cdv A outer s H vs Q E hr h => ?_)
  · obtain ⟨ds, d, r, ⟨_, _, _, rfl, rfl⟩, _⟩ := h
    exact rps_len r rfl
  · obtain ⟨ds, d, rr, ⟨r, gs, hF, rfl, rfl⟩, k⟩ := h
    obtain ⟨va, rfl, ra⟩ := rps1 rr
    obtain ⟨t, gt⟩ := T.g_MOST_GIVEN
    obtain ⟨t2, gt2⟩ := T.g_MOST_LETTERS_folding
    have h1 := hF.lo
    have h2 := hF.hi
    have h3 := hF.many
    refine ⟨_, wSs_ok, ?_⟩
    refine ws_ifF (jt_or4 (x := false) (y := false) (z := false) (u := false) (JT.of (jt_not (JE.test (je_isi (c := true) T.b_isinstance (je_var (d := famD r gs) 0 rfl ra) (je_tyTup T.b_tuple) (kb_tup _)))) rfl)
      (fun _ => JT.of (jt_neI (je_lenT T.b_len (je_var (d := famD r gs) 0 rfl ra)) je_int) rfl) (fun _ _ => JT.of (jt_not (JE.test (je_callD T.is_rank (ok_rank T) (hr.mono (by decide)) (ja_cons (je_fam0 (je_var 0 rfl ra)) ja_nil) ⟨r, h1, h2, rfl, rfl⟩))) rfl)
      (fun _ _ _ => JT.of (jt_not (JE.test (je_isi (c := true) T.b_isinstance (je_fam1 (je_var 0 rfl ra)) (je_tyTup T.b_tuple) (kb_tup _)))) rfl) rfl) fun H1 s1 => ?_
    refine ws_ifF (JT.of (jt_gtI (je_lenT T.b_len (je_fam1 (je_var 0 rfl (ra.mono s1)))) (je_globI gt)) (by simp; omega)) fun H2 s2 => ?_
    have ra2 := (ra.mono s1).mono s2
    refine ws_ret (JE.of (je_all (bs := gs.map fun _ => true) rfl T.b_all (JF.je (jf_lc (own := [("word", 1)]) (g := gName 1) (items := gs.map wD) sc_isf.nd (blkOk_by (N := ["value", "word"]) (sc := defScope s_isf) (by decide +kernel))
      (ji_tup (je_fam1 (je_var 0 rfl ra2))) (by simp) (by simp; omega) (imms_map (fun _ => rfl) _) gm_name (fun _ _ _ _ _ => pg_name (i := 1) sc_isf.nd rfl (.inl rfl)) (fun i d r v3 H3 e1 e2 s3 r3 => ?_)))) (by rw [all_true])) fun v2 H3 s3 r3 => k v2 H3 ((s1.trans s2).trans s3) r3
    refine ⟨hw1 v3, rfl, fun sh Hb C cl fp => ?_⟩
    obtain ⟨g, hg, rfl⟩ := map_at e1
    obtain ⟨b, hb, rfl⟩ := map_at e2
    have hb2 : b = true := by
      rw [List.getElem?_map, hg] at hb
      exact (Option.some.inj hb).symm
    subst hb2
    have hgm := List.mem_of_getElem? hg
    have hl := hF.len g hgm
    exact je_and2 (x := true) (y := true) (je_callD T.is_word (ok_isw T) (hr.mono (by decide)) (ja_cons (je_var 1 rfl r3) (ja_cons (je_fam0 (je_var 0 rfl (ra2.mono s3))) ja_nil)) ⟨g, _, h1, h2, hF.inr g hgm, by omega, rfl, rfl⟩)
      (fun _ => JE.of (je_leI (je_lenS T.b_len (je_var (d := wD g) 1 rfl r3) (by rw [enc_len]; omega)) (je_globI gt2)) (by rw [enc_len, decide_eq_true (by omega)])) rfl
abbrev s_chf : Stmt := topS 29
theorem sc_chf : FnScope ["family"] ["family"] (defScope s_chf) := ⟨rfl, rfl, rfl, by decide +kernel, rfl, by decide +kernel, by decide +kernel⟩
def fi_chf (ds : List D) (d : D) : Prop := ∃ (r : Nat) (gs : List Wd), FamOk r gs ∧ ds = [famD r gs] ∧ d = .n
theorem ok_chf (T : Txt K mg) : FnOk P w K mg base CX0 5 T.check_family.f T.check_family.fd ["family"] (spD fi_chf) := by
  refine T.check_family.F.ok sc_chf (fun vs H Q E h => ?_) (fun cdv A outer s H vs Q E hr h => ?_)
  · obtain ⟨ds, d, r, ⟨_, _, _, rfl, rfl⟩, _⟩ := h
    exact rps_len r rfl
  · obtain ⟨ds, d, rr, ⟨r, gs, hF, rfl, rfl⟩, k⟩ := h
    obtain ⟨va, rfl, ra⟩ := rps1 rr
    refine ⟨_, wSs_ok, ?_⟩
    exact ws_ifF (JT.of (jt_not (JE.test (je_callD T.is_family (ok_isf T) (hr.mono (by decide)) (ja_cons (je_var 0 rfl ra) ja_nil) ⟨r, gs, hF, rfl, rfl⟩))) rfl) fun H1 s1 => ws_nil (k _ _ s1 rfl)
abbrev s_chw : Stmt := topS 36
theorem sc_chw : FnScope ["family", "word"] ["family", "word"] (defScope s_chw) := ⟨rfl, rfl, rfl, by decide +kernel, rfl, by decide +kernel, by decide +kernel⟩
structure WdOk (r : Nat) (u : Wd) : Prop where
  inr : InR r u
  len : u.length ≤ 24
def fi_chw (ds : List D) (d : D) : Prop := ∃ (r : Nat) (gs : List Wd) (u : Wd), FamOk r gs ∧ WdOk r u ∧ ds = [famD r gs, wD u] ∧ d = .n
theorem ok_chw (T : Txt K mg) : FnOk P w K mg base CX0 6 T.check_word.f T.check_word.fd ["family", "word"] (spD fi_chw) := by
  refine T.check_word.F.ok sc_chw (fun vs H Q E h => ?_) (fun cdv A outer s H vs Q E hr h => ?_)
  · obtain ⟨ds, d, r, ⟨_, _, _, _, _, rfl, rfl⟩, _⟩ := h
    exact rps_len r rfl
  · obtain ⟨ds, d, rr, ⟨r, gs, u, hF, hu, rfl, rfl⟩, k⟩ := h
    obtain ⟨va, vu, rfl, ra, ru⟩ := rps2 rr
    refine ⟨_, wSs_ok, ?_⟩
    refine ws_exprE ((je_callD T.check_family (ok_chf T) (hr.mono (by decide)) (ja_cons (je_var 0 rfl ra) ja_nil) ⟨r, gs, hF, rfl, rfl⟩).go fun v H1 s1 _ => ?_)
    exact ws_ifF (JT.of (jt_not (JE.test (je_callD T.is_word (ok_isw T) (hr.mono (by decide)) (ja_cons (je_var 1 rfl (ru.mono s1)) (ja_cons (je_fam0 (je_var 0 rfl (ra.mono s1))) ja_nil)) ⟨u, r, hF.lo, hF.hi, hu.inr, hu.len, rfl, rfl⟩))) rfl) fun H2 s2 => ws_nil (k _ _ (s1.trans s2) rfl)
end
end FW
/-! opposite, shortened -/
namespace FW
open PySem L2
theorem sgn_neg (b : Bool) : 0 - sgn b = sgn (!b) := by cases b <;> rfl
theorem opp_map (fs : List Fac) : opp fs = fs.reverse.map finv := by simp [ginv]
theorem fac_back {f : Fac} {d1 d2 d3 : D} (h : D.t [d1, d2, d3] = facD f) : d1 = .s (kindS f.1) ∧ d2 = .i (f.2.1 : Int) ∧ d3 = .i (sgn f.2.2) := by
  unfold facD at h
  injection h with h
  injection h with h1 h
  injection h with h2 h
  injection h with h3 h
  exact ⟨h1, h2, h3⟩
section
variable {X : Cx} {a b : Expr} {σ : L2.St} {H : Hp} {pos : Pos}
theorem dp_fac {K : PySem.W.Frag} {H : Hp} {f : Fac} {v : V} (r : Rp H (facD f) v) : Dp K H v (facP f) := by
  obtain ⟨p, vs, rfl, h1, h2⟩ := r
  obtain ⟨x, y, z, rfl, rx, ry, rz⟩ := rps3 h2
  rw [show x = .str _ from rx, show y = .int _ from ry, show z = .int _ from rz] at h1
  exact .tup (SqT.of h1) (.cons (.str _) (.cons (.int _) (.cons (.int _) .nil)))
theorem jt_eqFac {k : Nat} {f g : Fac} (hr : Room k X.A) (ha : JE X a σ H (facD f)) (hb : JE X b σ H (facD g)) : JT X (.Compare a [.Eq] [b] pos) σ H (decide (f = g)) :=
  jt_cmp (op_eqD hr.units) (nomark _) ha hb fun H2 x y Q _ rx ry k => ⟨facP f, facP g, dp_fac rx, dp_fac ry, shaped_fac f, shaped_fac g, by
    rw [eqv_fac]
    exact k _ _ (Same.refl _) rfl⟩
/-- (kind, number, sign) -/
theorem je_fac {e1 e2 e3 : Expr} {n : Nat} {f : Fac} {i : Int} (h1 : JE X e1 σ H (.s (kindS f.1))) (h2 : JE X e2 σ H (.i (f.2.1 : Int))) (h3 : JE X e3 σ H (.i i)) (hi : i = sgn f.2.2) (s1 : starEach [e1, e2, e3] X.env = (false, eval e1 X.env) :: starEach [e2, e3] X.env := by rfl) (s2 : starEach [e2, e3] X.env = (false, eval e2 X.env) :: starEach [e3] X.env := by rfl) (s3 : starEach [e3] X.env = (false, eval e3 X.env) :: starEach [] X.env := by rfl) : JE X (.Tuple [e1, e2, e3] n pos) σ H (facD f) := by
  subst hi
  exact je_tup (ja_cons h1 (ja_cons h2 (ja_cons h3 ja_nil s3) s2) s1) (by show 3 ≤ 100000; decide)
end
section
variable {X : Cx} {e tg : Expr} {rest body : List Stmt} {σ : L2.St} {H : Hp} {pos : Pos} {Ds : Ends} {g : TG}
/-- for .. in a list that stands -/
theorem ws_forK {q : Addr} {ws : List V} (ho : ∀ H1, Same H H1 → ∀ Q : VK, (∀ H2, Same H1 H2 → Q (.ref q) H2) → wE X e σ H1 Q) (hq : H q = some (.lst ws)) (hg : PG X tg g) (Pv : Nat → L2.St → Hp → Prop) (h0 : ∀ H1, Same H H1 → Pv 0 σ H1)
    (hl : ∀ i σ' H', Pv i σ' H' → H' q = some (.lst ws))
    (hs : ∀ i v σ' H', ws[i]? = some v → Pv i σ' H' → g v σ' H' fun σ2 H2 => wSs X body { Ds with nx := Pv (i + 1), ct := Pv (i + 1), bk := wSs X rest Ds } σ2 H2) (hd : ∀ σ' H', Pv ws.length σ' H' → wSs X rest Ds σ' H')
    (hp : PassesOwn (model X.prog X.w) X.A X.env X.xe := by exact PassesOwn.never) (hc : X.calm = true := by rfl) (hf : ∀ x, foldedSetIterable e X.env x = pure x := by intro _; rfl) : wSs X (.For tg e body [] pos :: rest) Ds σ H :=
  ws_for (pi_list wE_ok) hg (ho H (Same.refl _) _ fun H1 s1 => ⟨q, rfl, ⟨ws, SqL.of (s1 _ _ hq)⟩, for_it (walk_list (xs := ws)) Pv (h0 H1 s1) (fun i σ' H' _ p => SqL.of (hl i σ' H' p)) (fun i v2 σ' H' H'' hi p y => by
    obtain ⟨rfl, hv⟩ := y
    exact hs i v2 σ' _ hv p) fun σ' H' p => hd σ' H' p⟩) hp hc hf
theorem ws_retV {x : Str} {p1 : Pos} (i : Nat) {v : V} (h : Ds.rt v H) (hs : σ[i]? = some (some v) := by rfl) (hN : X.N[i]? = some x := by rfl) (hv : Vis X.env.scope x := by first | exact Or.inl rfl | exact Or.inr (Or.inl rfl) | exact Or.inr (Or.inr rfl)) (hd : (x == ("__debug__" : Str)) = false := by decide)
    (hcd : (x == ("__classdict__" : Str)) = false := by decide) : wSs X (.Return (some (.Name x p1)) pos :: rest) Ds σ H := ws_retE ⟨_, pe_var hN hv hd hcd, v, hs, h⟩
/-- .. a tuple that stands -/
theorem ws_forKT {q : Addr} {ws : List V} (ho : ∀ H1, Same H H1 → ∀ Q : VK, (∀ H2, Same H1 H2 → Q (.ref q) H2) → wE X e σ H1 Q) (hq : H q = some (.tup ws)) (hg : PG X tg g) (Pv : Nat → L2.St → Hp → Prop) (h0 : ∀ H1, Same H H1 → Pv 0 σ H1)
    (hl : ∀ i σ' H', Pv i σ' H' → H' q = some (.tup ws))
    (hs : ∀ i v σ' H', ws[i]? = some v → Pv i σ' H' → g v σ' H' fun σ2 H2 => wSs X body { Ds with nx := Pv (i + 1), ct := Pv (i + 1), bk := wSs X rest Ds } σ2 H2) (hd : ∀ σ' H', Pv ws.length σ' H' → wSs X rest Ds σ' H')
    (hp : PassesOwn (model X.prog X.w) X.A X.env X.xe := by exact PassesOwn.never) (hc : X.calm = true := by rfl) (hf : ∀ x, foldedSetIterable e X.env x = pure x := by intro _; rfl) : wSs X (.For tg e body [] pos :: rest) Ds σ H :=
  ws_for (pi_tup wE_ok) hg (ho H (Same.refl _) _ fun H1 s1 => ⟨q, rfl, ⟨ws, SqT.of (s1 _ _ hq)⟩, for_it (walk_tup (xs := ws)) Pv (h0 H1 s1) (fun i σ' H' _ p => SqT.of (hl i σ' H' p)) (fun i v2 σ' H' H'' hi p y => by
    obtain ⟨rfl, hv⟩ := y
    exact hs i v2 σ' _ hv p) fun σ' H' p => hd σ' H' p⟩) hp hc hf
end
section
variable {P : Program} {w : World} {K : PySem.W.Frag} {mg : Str → Option Value} {base : Heap}
abbrev s_oppo : Stmt := topS 30
theorem sc_oppo : FnScope ["factors", "kind", "number", "sign"] ["factors"] (defScope s_oppo) := ⟨rfl, rfl, rfl, by decide +kernel, rfl, by decide +kernel, by decide +kernel⟩
def fi_oppo (ds es : List D) : Prop := ∃ fs : List Fac, fs.length ≤ 40000 ∧ ds = [.l (facsD fs)] ∧ es = facsD (opp fs)
theorem ok_oppo (T : Txt K mg) : FnOk P w K mg base CX0 1 T.opposite.f T.opposite.fd ["factors"] (spF fi_oppo) := by
  refine T.opposite.F.ok sc_oppo (fun vs H Q E h => ?_) (fun cdv A outer s H vs Q E hr h => ?_)
  · obtain ⟨ds, d, r, ⟨_, _, rfl, rfl⟩, _⟩ := h
    exact rps_len r rfl
  · obtain ⟨ds, d, r, ⟨fs, hl, rfl, rfl⟩, k⟩ := h
    obtain ⟨va, rfl, ra⟩ := rps1 r
    refine ⟨_, wSs_ok, ?_⟩
    refine ws_retE (JF.go (jf_lc (own := [("kind", 1), ("number", 2), ("sign", 3)]) (g := gTup K 3 (gCons (gName 1) (gCons (gName 2) (gCons (gName 3) gNil)))) (es := facsD (opp fs)) (items := (facsD fs).reverse) sc_oppo.nd (blkOk_by (N := ["factors", "kind", "number", "sign"]) (sc := defScope s_oppo) (by decide +kernel))
      (ji_list (JF.je (jf_revL (je_var 0 rfl ra)))) (by rw [opp_map]; simp [facsD]) (by rw [opp_map]; simp [facsD]; omega) (imms_facs _) gm_tup3 (fun _ _ _ _ _ => pg_tup rfl (pgs_cons (pg_name (i := 1) sc_oppo.nd rfl (.inl rfl)) (pgs_cons (pg_name (i := 2) sc_oppo.nd rfl (.inl rfl)) (pgs_cons (pg_name (i := 3) sc_oppo.nd rfl (.inl rfl)) pgs_nil)))) (fun i d r v3 H3 e1 e2 s3 r3 => ?_)) fun p vs H2 hp s2 h1 h2 => k p vs H2 hp s2 h1 h2)
    unfold facsD at e1 e2
    rw [← List.map_reverse] at e1
    obtain ⟨f, hf, rfl⟩ := map_at e1
    obtain ⟨g, hg, rfl⟩ := map_at e2
    rw [opp_map, List.getElem?_map, hf] at hg
    obtain rfl := Option.some.inj hg
    refine gTup3 r3 fun v1 v2 v4 q1 q2 q3 => ⟨rfl, rfl, fun sh Hb C cl fp => ?_⟩
    exact je_fac (je_var 1 rfl q1) (je_var 2 rfl q2) (je_subI je_int (je_var 3 rfl q3)) (sgn_neg _)
abbrev s_shor : Stmt := topS 31
theorem sc_shor : FnScope ["factors", "found", "kind", "number", "sign"] ["factors"] (defScope s_shor) := ⟨rfl, rfl, rfl, by decide +kernel, rfl, by decide +kernel, by decide +kernel⟩
def fi_shor (ds es : List D) : Prop := ∃ fs : List Fac, fs.length ≤ 40000 ∧ ds = [.l (facsD fs)] ∧ es = facsD (short fs)
theorem fact_take {u : List Fac} {i : Nat} {x : Fac} (h : u.take (i + 1) = u.take i ++ [x]) : gact finv (u.take (i + 1)) [] = gpush finv (gact finv (u.take i) []) x := by
  rw [h, act_app] <;> rfl
theorem take_snoc {A : Type} {l : List A} {i : Nat} {x : A} (h : l[i]? = some x) : l.take (i + 1) = l.take i ++ [x] := by
  rw [List.take_succ, h] <;> rfl
theorem ok_shor (T : Txt K mg) : FnOk P w K mg base CX0 1 T.shortened.f T.shortened.fd ["factors"] (spF fi_shor) := by
  refine T.shortened.F.ok sc_shor (fun vs H Q E h => ?_) (fun cdv A outer s H vs Q E hr h => ?_)
  · obtain ⟨ds, d, r, ⟨_, _, rfl, rfl⟩, _⟩ := h
    exact rps_len r rfl
  · obtain ⟨ds, d, r, ⟨fs, hl, rfl, rfl⟩, k⟩ := h
    obtain ⟨va, rfl, ra⟩ := rps1 r
    refine ⟨_, wSs_ok, ?_⟩
    refine ws_setF 1 sc_shor.nd (jf_lst ja_nil) fun p vs H1 hp s1 h1 r1 => ?_
    obtain ⟨q, ws, rfl, hq, rq⟩ := ra
    have hpq : p ≠ q := fun e => by rw [e, hq] at hp; cases hp
    refine ws_forK (q := q) (ws := ws) (wv_var 0) (s1 _ _ hq) (pg_tup rfl (pgs_cons (pg_name (i := 2) sc_shor.nd rfl (.inl rfl)) (pgs_cons (pg_name (i := 3) sc_shor.nd rfl (.inl rfl)) (pgs_cons (pg_name (i := 4) sc_shor.nd rfl (.inl rfl)) pgs_nil))))
      (fun i σ' H' => ∃ us x y z, σ' = [some (.ref q), some (.ref p), x, y, z] ∧ Same H H' ∧ H' p = some (.lst us) ∧ Rps H' (facsD (gact finv (fs.take i) []).reverse) us)
      (fun H2 s2 => ⟨vs, none, none, none, rfl, s1.trans s2, s2 _ _ h1, r1.mono s2⟩) (fun i σ' H' ⟨_, _, _, _, _, s2, _, _⟩ => s2 _ _ hq) ?_ ?_
    · rintro i v σ' H' hv ⟨us, x, y, z, rfl, s2, h2, r2⟩
      obtain ⟨d, hd, rd⟩ := (rq.mono s2).back hv
      obtain ⟨f, hf, rfl⟩ := map_at hd
      have hpush := fact_take (take_snoc hf)
      refine gTup3 rd fun v1 v2 v3 q1 q2 q3 => ?_
      show wSs _ _ _ [some (V.ref q), some (V.ref p), some v1, some v2, some v3] H'
      have hz : (gact finv (fs.take i) []).length ≤ 40000 := by
        have h5 := act_len (v := finv) (fs.take i) []
        have h6 : (fs.take i).length ≤ fs.length := by rw [List.length_take]; omega
        simp at h5
        omega
      generalize hst : gact finv (fs.take i) [] = st at r2 hz hpush
      have hlen : (facsD st.reverse).length = st.length := by simp [facsD]
      have hfo : Rp H' (.l (facsD st.reverse)) (.ref p) := ⟨p, us, rfl, h2, r2⟩
      cases st with
      | nil =>
        refine ws_if (k := false) (jt_and2 (x := false) (y := true) (jt_truL (je_var 1 rfl hfo)) (fun q => by cases q) rfl) (fun q => by cases q) fun _ H3 s3 => ?_
        refine ws_app (d := facD f) (wv_var 1) (s3 _ _ h2) (je_fac (je_var 2 rfl (q1.mono s3)) (je_var 3 rfl (q2.mono s3)) (je_var 4 rfl (q3.mono s3)) rfl) (by rw [r2.len, hlen]; simp) fun w2 H4 s4 r4 => ws_nil (ws_nil ⟨us ++ [w2], _, _, _, rfl, Same.mut ((s2.trans s3).trans s4) hp, upd_same, ?_⟩)
        rw [hpush]
        refine Rps.imm (keepT_lst (s4 _ _ (s3 _ _ h2))) (imms_facs _) ?_
        exact Rps.app (r2.mono (s3.trans s4)) (.cons r4 rfl)
      | cons y t =>
        have hl2 : facsD (y :: t).reverse = facsD t.reverse ++ [facD y] := by simp [facsD]
        have htru : (!(facsD (y :: t).reverse).isEmpty) = true := by rw [hl2]; simp
        refine ws_if (k := decide (y = finv f)) (jt_and2 (x := true) (y := decide (y = finv f)) (JT.of (jt_truL (je_var 1 rfl hfo)) htru) (fun _ => jt_eqFac hr
          (je_ixL (i := -1) (je_var 1 rfl hfo) je_m1 (by rw [hl2]; exact at_last _ _))
          (je_fac (f := finv f) (je_var 2 rfl q1) (je_var 3 rfl q2) (je_subI je_int (je_var 4 rfl q3)) (sgn_neg _))) rfl) (fun hk H3 s3 => ?_) (fun hk H3 s3 => ?_)
        · have hy : y = finv f := of_decide_eq_true hk
          obtain ⟨us', ey⟩ : ∃ us' v', us = us' ++ [v'] ∧ Rps H' (facsD t.reverse) us' := by
            rw [hl2] at r2
            exact rps_snoc r2
          obtain ⟨v', rfl, r2'⟩ := ey
          refine ws_pop (wv_var 1) (s3 _ _ h2) fun H4 s4 => ws_nil (ws_nil ⟨us', _, _, _, rfl, Same.mut ((s2.trans s3).trans s4) hp, upd_same, ?_⟩)
          rw [hpush, gpush_cons, if_pos hy]
          exact Rps.imm (keepT_lst (s4 _ _ (s3 _ _ h2))) (imms_facs _) (r2'.mono (s3.trans s4))
        · have hy : ¬ y = finv f := of_decide_eq_false hk
          refine ws_app (d := facD f) (wv_var 1) (s3 _ _ h2) (je_fac (je_var 2 rfl (q1.mono s3)) (je_var 3 rfl (q2.mono s3)) (je_var 4 rfl (q3.mono s3)) rfl) (by rw [r2.len, hlen]; omega) fun w2 H4 s4 r4 => ws_nil (ws_nil ⟨us ++ [w2], _, _, _, rfl, Same.mut ((s2.trans s3).trans s4) hp, upd_same, ?_⟩)
          rw [hpush, gpush_cons, if_neg hy]
          refine Rps.imm (keepT_lst (s4 _ _ (s3 _ _ h2))) (imms_facs _) ?_
          have e3 : facsD (f :: y :: t).reverse = facsD (y :: t).reverse ++ [facD f] := by simp [facsD]
          rw [e3]
          exact Rps.app (r2.mono (s3.trans s4)) (.cons r4 rfl)
    · rintro σ' H' ⟨us, x, y, z, rfl, s2, h2, r2⟩
      have e : fs.take ws.length = fs := by rw [rq.len]; simp [facsD]
      rw [e] at r2
      exact ws_retV 1 (k p us H' hp s2 h2 r2)
end
end FW
/-! a Folding in the heap -/
namespace FW
open PySem L2
structure Adr where
  dx : Addr
  pp : Addr
  pe : Addr
  pa : Addr
  pl : Addr
  ps : Addr
def Adr.fs (A : Adr) : List (Str × V) := [("prefixes", .ref A.pp), ("edges", .ref A.pe), ("parents", .ref A.pa), ("links", .ref A.pl), ("steps", .ref A.ps)]
def edD (e : Ed) : D := .t [.i (e.1 : Int), wD [(e.2.1, false)], .i (e.2.2 : Int)]
def optD : Option Nat → D
  | none => .n
  | some q => .i (q : Int)
def stpD (s : Stp) : D := .t [wD s.1, .t (facsD s.2)]
theorem imm_stp (s : Stp) : imm (stpD s) = true := by
  show (true && (imms (facsD s.2) && true)) = true
  rw [imms_facs] <;> rfl
theorem imm_opt (o : Option Nat) : imm (optD o) = true := by cases o <;> rfl
theorem imms_ws (l : List Wd) : imms (l.map wD) = true := imms_map (fun _ => rfl) l
theorem imms_eds (l : List Ed) : imms (l.map edD) = true := imms_map (fun _ => rfl) l
theorem imms_opts (l : List (Option Nat)) : imms (l.map optD) = true := imms_map imm_opt l
theorem imms_stps (l : List Stp) : imms (l.map stpD) = true := imms_map imm_stp l
/-- the list at p holds ds -/
def LstAt (H : Hp) (p : Addr) (ds : List D) : Prop := ∃ vs, H p = some (.lst vs) ∧ Rps H ds vs
theorem LstAt.rp {H : Hp} {p : Addr} {ds : List D} (h : LstAt H p ds) : Rp H (.l ds) (.ref p) := let ⟨vs, a, b⟩ := h; ⟨p, vs, rfl, a, b⟩
theorem LstAt.mono {H H' : Hp} {p : Addr} {ds : List D} (h : LstAt H p ds) (s : Same H H') : LstAt H' p ds := let ⟨vs, a, b⟩ := h; ⟨vs, s _ _ a, b.mono s⟩
/-- everything stands but what is at ls -/
def KeepL (ls : List Addr) (H H' : Hp) : Prop := ∀ a o, a ∉ ls → H a = some o → H' a = some o
theorem same_keepL {H H' : Hp} (s : Same H H') (ls : List Addr) : KeepL ls H H' := fun a o _ e => s a o e
theorem KeepL.trans {ls : List Addr} {H H1 H2 : Hp} (a : KeepL ls H H1) (b : KeepL ls H1 H2) : KeepL ls H H2 := fun p o n e => b p o n (a p o n e)
theorem KeepL.wide {ls ms : List Addr} {H H' : Hp} (a : KeepL ls H H') (h : ∀ x ∈ ls, x ∈ ms) : KeepL ms H H' := fun p o n e => a p o (fun q => n (h p q)) e
theorem keepL_upd {H : Hp} {p : Addr} {o : HO} {ls : List Addr} (h : p ∈ ls) : KeepL ls H (upd H p o) := fun a u n e => by
  rw [upd_ne (fun q => n (by rw [q]; exact h))]
  exact e
theorem KeepL.keepT {ls : List Addr} {H H' : Hp} (k : KeepL ls H H') (h : ∀ a ∈ ls, ∃ vs, H a = some (.lst vs)) : KeepT H H' :=
  ⟨fun p xs e => k p _ (fun q => by
    obtain ⟨vs, z⟩ := h p q
    rw [e] at z
    cases z) e, fun p o u e => k p _ (fun q => by
    obtain ⟨vs, z⟩ := h p q
    rw [e] at z
    cases z) e⟩
theorem LstAt.keep {ls : List Addr} {H H' : Hp} {p : Addr} {ds : List D} (h : LstAt H p ds) (hn : p ∉ ls) (k : KeepL ls H H') (t : KeepT H H') (i : imms ds = true) : LstAt H' p ds :=
  let ⟨vs, a, b⟩ := h; ⟨vs, k _ _ hn a, b.imm t i⟩
structure FoldAt (C : Addr) (H : Hp) (f : Addr) (A : Adr) (S : FS) : Prop where
  ins : H f = some (.ins C A.dx A.fs)
  pp : LstAt H A.pp (S.pre.map wD)
  pe : LstAt H A.pe (S.edges.map edD)
  pa : LstAt H A.pa (S.par.map optD)
  pl : LstAt H A.pl (S.lnk.map optD)
  ps : LstAt H A.ps (S.steps.map stpD)
  nd : [A.pp, A.pe, A.pa, A.pl, A.ps].Nodup
theorem FoldAt.mono {C : Addr} {H H' : Hp} {f : Addr} {A : Adr} {S : FS} (h : FoldAt C H f A S) (s : Same H H') : FoldAt C H' f A S :=
  ⟨s _ _ h.ins, h.pp.mono s, h.pe.mono s, h.pa.mono s, h.pl.mono s, h.ps.mono s, h.nd⟩
/-- the lists that a merge changes; those that a petal changes -/
def Adr.mut (A : Adr) : List Addr := [A.pa, A.pl, A.ps]
def Adr.grow (A : Adr) : List Addr := [A.pp, A.pe, A.pa, A.pl]
def Adr.all (A : Adr) : List Addr := [A.pp, A.pe, A.pa, A.pl, A.ps]
theorem FoldAt.lists {C : Addr} {H : Hp} {f : Addr} {A : Adr} {S : FS} (h : FoldAt C H f A S) : ∀ a ∈ A.all, ∃ vs, H a = some (.lst vs) := fun a ha => by
  have : a = A.pp ∨ a = A.pe ∨ a = A.pa ∨ a = A.pl ∨ a = A.ps := by simpa [Adr.all] using ha
  rcases this with rfl | rfl | rfl | rfl | rfl
  · exact let ⟨vs, e, _⟩ := h.pp; ⟨vs, e⟩
  · exact let ⟨vs, e, _⟩ := h.pe; ⟨vs, e⟩
  · exact let ⟨vs, e, _⟩ := h.pa; ⟨vs, e⟩
  · exact let ⟨vs, e, _⟩ := h.pl; ⟨vs, e⟩
  · exact let ⟨vs, e, _⟩ := h.ps; ⟨vs, e⟩
theorem FoldAt.keepT {C : Addr} {H H' : Hp} {f : Addr} {A : Adr} {S : FS} (h : FoldAt C H f A S) (k : KeepL A.all H H') : KeepT H H' := k.keepT h.lists
theorem mut_all {A : Adr} : ∀ x ∈ A.mut, x ∈ A.all := fun x h => by
  simp [Adr.mut, Adr.all] at h ⊢
  rcases h with h | h | h <;> simp [h]
theorem grow_all {A : Adr} : ∀ x ∈ A.grow, x ∈ A.all := fun x h => by
  simp [Adr.grow, Adr.all] at h ⊢
  rcases h with h | h | h | h <;> simp [h]
/-- a fresh address is none of the Folding's -/
theorem FoldAt.fresh {C : Addr} {H : Hp} {f : Addr} {A : Adr} {S : FS} (h : FoldAt C H f A S) {p : Addr} (hp : H p = none) : p ∉ A.all := fun q => by
  obtain ⟨vs, e⟩ := h.lists p q
  rw [hp] at e
  cases e
section
variable {X : Cx} {e o i value : Expr} {es : List Expr} {rest : List Stmt} {σ : L2.St} {H : Hp} {pos apos : Pos} {Ds : Ends} {C : Addr} {f : Addr} {A : Adr} {S : FS} {nm : Str}
/-- the expression gives this very value and leaves what is known -/
def JV (X : Cx) (e : Expr) (σ : L2.St) (H : Hp) (v : V) : Prop := ∀ H1, Same H H1 → ∀ Q : VK, (∀ H2, Same H1 H2 → Q v H2) → wE X e σ H1 Q
theorem JV.mono {H' : Hp} {v : V} (h : JV X e σ H v) (s : Same H H') : JV X e σ H' v := fun H1 e1 => h H1 (s.trans e1)
theorem JV.je {v : V} {d : D} (h : JV X e σ H v) (r : Rp H d v) : JE X e σ H d := fun H1 s1 Q k => h H1 s1 Q fun H2 s2 => k v H2 s2 (r.mono (s1.trans s2))
theorem jv_var (i : Nat) {x : Str} {v : V} (hs : σ[i]? = some (some v) := by rfl) (hN : X.N[i]? = some x := by rfl) (hv : Vis X.env.scope x := by first | exact Or.inl rfl | exact Or.inr (Or.inl rfl) | exact Or.inr (Or.inr rfl)) (hd : (x == ("__debug__" : Str)) = false := by decide)
    (hcd : (x == ("__classdict__" : Str)) = false := by decide) : JV X (.Name x pos) σ H v := wv_var i hs hN hv hd hcd
theorem jv_fld {a dx : Addr} {fs : List (Str × V)} {v : V} (h : JV X o σ H (.ref a)) (hi : H a = some (.ins C dx fs)) (c : Cls X.K C) (n : NoAttr X.K C nm) (l : fs.lookup nm = some v) (hb : attributeBase o nm X.env (eval o X.env) = eval o X.env := by rfl) : JV X (.Attribute o nm pos) σ H v :=
  fun H1 s1 Q k => ⟨_, pe_fld wE_ok hb, h H1 s1 _ fun H2 s2 => ⟨a, C, dx, fs, v, rfl, s2 _ _ (s1 _ _ hi), c, n, l, k H2 s2⟩⟩
theorem fsl_pp : A.fs.lookup ("prefixes" : Str) = some (V.ref A.pp) := rfl
theorem fsl_pe : A.fs.lookup ("edges" : Str) = some (V.ref A.pe) := rfl
theorem fsl_pa : A.fs.lookup ("parents" : Str) = some (V.ref A.pa) := rfl
theorem fsl_pl : A.fs.lookup ("links" : Str) = some (V.ref A.pl) := rfl
theorem fsl_ps : A.fs.lookup ("steps" : Str) = some (V.ref A.ps) := rfl
end
section
variable {K : PySem.W.Frag} {mg : Str → Option Value}
variable {P : Program} {w : World} {base : Heap} {X : Cx} {o : Expr} {σ : L2.St} {H : Hp} {pos : Pos} {f : Addr} {A : Adr} {S : FS}
theorem jv_pp (T : Txt X.K X.mg) (F : FoldAt T.C H f A S) (h : JV X o σ H (.ref f)) (hb : attributeBase o "prefixes" X.env (eval o X.env) = eval o X.env := by rfl) : JV X (.Attribute o "prefixes" pos) σ H (.ref A.pp) := jv_fld h F.ins T.cl T.n_prefixes fsl_pp hb
theorem jv_pe (T : Txt X.K X.mg) (F : FoldAt T.C H f A S) (h : JV X o σ H (.ref f)) (hb : attributeBase o "edges" X.env (eval o X.env) = eval o X.env := by rfl) : JV X (.Attribute o "edges" pos) σ H (.ref A.pe) := jv_fld h F.ins T.cl T.n_edges fsl_pe hb
theorem jv_pa (T : Txt X.K X.mg) (F : FoldAt T.C H f A S) (h : JV X o σ H (.ref f)) (hb : attributeBase o "parents" X.env (eval o X.env) = eval o X.env := by rfl) : JV X (.Attribute o "parents" pos) σ H (.ref A.pa) := jv_fld h F.ins T.cl T.n_parents fsl_pa hb
theorem jv_pl (T : Txt X.K X.mg) (F : FoldAt T.C H f A S) (h : JV X o σ H (.ref f)) (hb : attributeBase o "links" X.env (eval o X.env) = eval o X.env := by rfl) : JV X (.Attribute o "links" pos) σ H (.ref A.pl) := jv_fld h F.ins T.cl T.n_links fsl_pl hb
theorem jv_ps (T : Txt X.K X.mg) (F : FoldAt T.C H f A S) (h : JV X o σ H (.ref f)) (hb : attributeBase o "steps" X.env (eval o X.env) = eval o X.env := by rfl) : JV X (.Attribute o "steps" pos) σ H (.ref A.ps) := jv_fld h F.ins T.cl T.n_steps fsl_ps hb
end
/-! promises of methods -/
/-- reads the Folding only -/
def spM (C : Addr) (φ : FS → List D → D → Prop) : Sp := fun vs H Q _ => ∃ f A S ws ds d, vs = .ref f :: ws ∧ FoldAt C H f A S ∧ Rps H ds ws ∧ φ S ds d ∧ ∀ v H', Same H H' → Rp H' d v → Q v H'
def spMF (C : Addr) (φ : FS → List D → List D → Prop) : Sp := fun vs H Q _ => ∃ f A S ws ds es, vs = .ref f :: ws ∧ FoldAt C H f A S ∧ Rps H ds ws ∧ φ S ds es ∧ ∀ p us H', H p = none → Same H H' → H' p = some (.lst us) → Rps H' es us → Q (.ref p) H'
/-- changes the Folding's lists ls: ψ is asked, φ is told -/
def spW (C : Addr) (ls : Adr → List Addr) {B : Type} (ar : B → List D) (ψ : FS → B → Prop) (φ : FS → B → D → FS → Prop) : Sp := fun vs H Q _ => ∃ f A S ws b, vs = .ref f :: ws ∧ FoldAt C H f A S ∧ Rps H (ar b) ws ∧ ψ S b ∧
  ∀ v d S' H', φ S b d S' → KeepL (ls A) H H' → FoldAt C H' f A S' → Rp H' d v → Q v H'
section
variable {X : Cx} {e o : Expr} {es : List Expr} {σ : L2.St} {H : Hp} {pos apos : Pos} {C f g : Addr} {A : Adr} {S : FS} {m : Str} {fd : FuncData} {k : Nat} {ps : List Str} {d : D} {ds fs : List D}
theorem je_meth {φ : FS → List D → D → Prop} {pl : Sem Bool} (c : Cls X.K C) (hm : Meth X.K C m g) (G : FnOk X.prog X.w X.K X.mg X.base CX0 k g fd ps (spM C φ)) (hb : Binds X.K fd ps []) (hr : Room k X.A) (ho : JV X o σ H (.ref f)) (F : FoldAt C H f A S) (ha : JA X (e :: es) σ H ds) (hφ : φ S ds d) (hn : A.fs.lookup m = none := by rfl)
    (hst : starEach (e :: es) X.env = (false, eval e X.env) :: starEach es X.env := by rfl) (hpl : (backTo pos (starEach es X.env)).any (·.1) = false := by rfl)
    (ht : eval (.Call (.Attribute o m apos) (e :: es) [] pos) X.env = (do
      let ov ← eval o X.env
      standAt apos.atName
      let (f, first) ← holding [ov] (getMethod ov m pl)
      callWith pos f first (backTo pos (starEach (e :: es) X.env)) (backToKw pos (keywordEach [] X.env))) := by rfl) : JE X (.Call (.Attribute o m apos) (e :: es) [] pos) σ H d :=
  je_by (pe_meth wE_ok c hm G hr hb .nil pass0 wA_ok hst hpl ht) fun H1 s1 Q q => ho H1 s1 _ fun H2 s2 => ⟨f, _, _, rfl, s2 _ _ (s1 _ _ F.ins), hn, ha H2 (s1.trans s2) _ fun vs H3 s3 rs =>
    ⟨f, A, S, vs, ds, d, by rw [List.append_nil], F.mono ((s1.trans s2).trans s3), rs, hφ, fun v H4 s4 rv => q v H4 ((s2.trans s3).trans s4) rv⟩⟩
theorem jf_meth {φ : FS → List D → List D → Prop} {pl : Sem Bool} (c : Cls X.K C) (hm : Meth X.K C m g) (G : FnOk X.prog X.w X.K X.mg X.base CX0 k g fd ps (spMF C φ)) (hb : Binds X.K fd ps []) (hr : Room k X.A) (ho : JV X o σ H (.ref f)) (F : FoldAt C H f A S) (ha : JA X (e :: es) σ H ds) (hφ : φ S ds fs) (hn : A.fs.lookup m = none := by rfl)
    (hst : starEach (e :: es) X.env = (false, eval e X.env) :: starEach es X.env := by rfl) (hpl : (backTo pos (starEach es X.env)).any (·.1) = false := by rfl)
    (ht : eval (.Call (.Attribute o m apos) (e :: es) [] pos) X.env = (do
      let ov ← eval o X.env
      standAt apos.atName
      let (f, first) ← holding [ov] (getMethod ov m pl)
      callWith pos f first (backTo pos (starEach (e :: es) X.env)) (backToKw pos (keywordEach [] X.env))) := by rfl) : JF X (.Call (.Attribute o m apos) (e :: es) [] pos) σ H fs := fun H1 s1 Q q =>
  ⟨_, pe_meth wE_ok c hm G hr hb .nil pass0 wA_ok hst hpl ht, ho H1 s1 _ fun H2 s2 => ⟨f, _, _, rfl, s2 _ _ (s1 _ _ F.ins), hn, ha H2 (s1.trans s2) _ fun vs H3 s3 rs =>
    ⟨f, A, S, vs, ds, fs, by rw [List.append_nil], F.mono ((s1.trans s2).trans s3), rs, hφ, fun p us H4 hp s4 h1 h2 => q p us H4 (Same.free (s2.trans s3) hp) ((s2.trans s3).trans s4) h1 h2⟩⟩⟩
/-- a changing method -/
theorem we_meth {ls : Adr → List Addr} {B : Type} {ar : B → List D} {ψ : FS → B → Prop} {φ : FS → B → D → FS → Prop} (b : B) {pl : Sem Bool} {Q : VK} (c : Cls X.K C) (hm : Meth X.K C m g) (G : FnOk X.prog X.w X.K X.mg X.base CX0 k g fd ps (spW C ls ar ψ φ)) (hb : Binds X.K fd ps []) (hr : Room k X.A) (ho : JV X o σ H (.ref f)) (F : FoldAt C H f A S) (ha : JA X (e :: es) σ H (ar b)) (hψ : ψ S b)
    (q : ∀ v d S' H', φ S b d S' → KeepL (ls A) H H' → FoldAt C H' f A S' → Rp H' d v → Q v H') (hn : A.fs.lookup m = none := by rfl)
    (hst : starEach (e :: es) X.env = (false, eval e X.env) :: starEach es X.env := by rfl) (hpl : (backTo pos (starEach es X.env)).any (·.1) = false := by rfl)
    (ht : eval (.Call (.Attribute o m apos) (e :: es) [] pos) X.env = (do
      let ov ← eval o X.env
      standAt apos.atName
      let (f, first) ← holding [ov] (getMethod ov m pl)
      callWith pos f first (backTo pos (starEach (e :: es) X.env)) (backToKw pos (keywordEach [] X.env))) := by rfl) : wE X (.Call (.Attribute o m apos) (e :: es) [] pos) σ H Q :=
  ⟨_, pe_meth wE_ok c hm G hr hb .nil pass0 wA_ok hst hpl ht, ho H (Same.refl _) _ fun H2 s2 => ⟨f, _, _, rfl, s2 _ _ F.ins, hn, ha H2 s2 _ fun vs H3 s3 rs =>
    ⟨f, A, S, vs, b, by rw [List.append_nil], F.mono (s2.trans s3), rs, hψ, fun v d S' H4 h1 h2 h3 h4 => q v d S' H4 h1 ((same_keepL (s2.trans s3) _).trans h2) h3 h4⟩⟩⟩
theorem we_meth0 {ls : Adr → List Addr} {B : Type} {ar : B → List D} {ψ : FS → B → Prop} {φ : FS → B → D → FS → Prop} (b : B) (hb0 : ar b = []) {pl : Sem Bool} {Q : VK} (c : Cls X.K C) (hm : Meth X.K C m g) (G : FnOk X.prog X.w X.K X.mg X.base CX0 k g fd ps (spW C ls ar ψ φ)) (hb : Binds X.K fd ps []) (hr : Room k X.A) (ho : JV X o σ H (.ref f)) (F : FoldAt C H f A S) (hψ : ψ S b)
    (q : ∀ v d S' H', φ S b d S' → KeepL (ls A) H H' → FoldAt C H' f A S' → Rp H' d v → Q v H') (hn : A.fs.lookup m = none := by rfl)
    (ht : eval (.Call (.Attribute o m apos) [] [] pos) X.env = (do
      let ov ← eval o X.env
      standAt apos.atName
      let (f, first) ← holding [ov] (getMethod ov m pl)
      callWith pos f first (backTo pos (starEach [] X.env)) (backToKw pos (keywordEach [] X.env))) := by rfl) : wE X (.Call (.Attribute o m apos) [] [] pos) σ H Q :=
  ⟨_, pe_meth0 wE_ok c hm G hr hb .nil pass0 ht, ho H (Same.refl _) _ fun H2 s2 => ⟨f, _, _, rfl, s2 _ _ F.ins, hn,
    ⟨f, A, S, [], b, rfl, F.mono s2, by rw [hb0] <;> rfl, hψ, fun v d S' H4 h1 h2 h3 h4 => q v d S' H4 h1 ((same_keepL s2 _).trans h2) h3 h4⟩⟩⟩
end
section
variable {X : Cx} {o i value : Expr} {rest : List Stmt} {σ : L2.St} {H : Hp} {pos spos : Pos} {Ds : Ends} {p : Addr} {d : D} {ds : List D} {n : Nat}
/-- o[i] = value, o a list that stands -/
theorem ws_setIx (ho : JV X o σ H (.ref p)) (hl : LstAt H p ds) (hn : n < ds.length) (hi : JE X i σ H (.i (n : Int))) (hv : JE X value σ H d) (k : ∀ v vs H1, Same H H1 → H1 p = some (.lst vs) → Rps H1 ds vs → Rp H1 d v → wSs X rest Ds σ (upd H1 p (.lst (vs.set n v))))
    (ha : ∀ v, assign (.Subscript o i spos) X.env v = (do
      let ov ← holding [v] (eval o X.env)
      let iv ← holding [v, ov] (eval i X.env)
      standAt spos
      holding [v, ov, iv] (setItem ov iv v)
      release [v, ov, iv] []) := by intro _; rfl)
    (hs : swapsWithSole [.Subscript o i spos] value pos.line X.env = pure false := by rfl) (hw : swappedStores [.Subscript o i spos] value X.env = pure none := by rfl)
    (h1 : (assignEach [.Subscript o i spos] X.env).map (·.2) = [assign (.Subscript o i spos) X.env] := by rfl) : wSs X (.Assign [.Subscript o i spos] value pos :: rest) Ds σ H :=
  ws_asg hv (pg_sub wE_ok wE_ok set_list ha) (fun v H1 s1 r1 => ho H1 s1 _ fun H2 s2 => hi H2 (s1.trans s2) _ fun y H3 s3 ry => by
    obtain ⟨vs, h2, h3⟩ := hl.mono ((s1.trans s2).trans s3)
    refine ⟨p, vs, n, n, rfl, ry, h2, ?_, k v vs H3 ((s1.trans s2).trans s3) h2 h3 (r1.mono (s2.trans s3))⟩
    rw [h3.len]
    unfold ixN
    simp [hn]) hs hw h1
end
end FW
/-! root, chain -/
namespace FW
open PySem L2
structure Sane (S : FS) : Prop where
  plen : S.par.length = S.pre.length
  llen : S.lnk.length = S.pre.length
  par : ∀ p q : Nat, S.par[p]? = some (some q) → q < p
theorem WF.sane {r : Nat} {gs : List Wd} {S : FS} (h : WF r gs S) : Sane S := ⟨h.plen, h.llen, h.par⟩
section
variable {P : Program} {w : World} {K : PySem.W.Frag} {mg : Str → Option Value} {base : Heap}
theorem je_ixLn {X : Cx} {a b : Expr} {σ : L2.St} {H : Hp} {pos : Pos} {ds : List D} {d : D} {n : Nat} (ha : JE X a σ H (.l ds)) (hb : JE X b σ H (.i (n : Int))) (hd : ds[n]? = some d) (hs : PlainIx b := by exact fun _ _ => rfl) : JE X (.Subscript a b pos) σ H d := je_ixL ha hb (atI_nat hd) hs
theorem je_par {X : Cx} {o b : Expr} {σ : L2.St} {H : Hp} {pos p2 : Pos} {f : Addr} {A : Adr} {S : FS} {n : Nat} {q : Option Nat} (T : Txt X.K X.mg) (F : FoldAt T.C H f A S) (h : JV X o σ H (.ref f)) (hb : JE X b σ H (.i (n : Int))) (hq : S.par[n]? = some q) (hs : PlainIx b := by exact fun _ _ => rfl) (hab : attributeBase o "parents" X.env (eval o X.env) = eval o X.env := by rfl) :
    JE X (.Subscript (.Attribute o "parents" p2) b pos) σ H (optD q) := je_ixLn ((jv_pa T F h hab).je F.pa.rp) hb (by rw [List.getElem?_map, hq] <;> rfl) hs
theorem je_lnk {X : Cx} {o b : Expr} {σ : L2.St} {H : Hp} {pos p2 : Pos} {f : Addr} {A : Adr} {S : FS} {n : Nat} {q : Option Nat} (T : Txt X.K X.mg) (F : FoldAt T.C H f A S) (h : JV X o σ H (.ref f)) (hb : JE X b σ H (.i (n : Int))) (hq : S.lnk[n]? = some q) (hs : PlainIx b := by exact fun _ _ => rfl) (hab : attributeBase o "links" X.env (eval o X.env) = eval o X.env := by rfl) :
    JE X (.Subscript (.Attribute o "links" p2) b pos) σ H (optD q) := je_ixLn ((jv_pl T F h hab).je F.pl.rp) hb (by rw [List.getElem?_map, hq] <;> rfl) hs
abbrev s_root : Stmt := inClass (topS 32) 2
theorem sc_root : FnScope ["self", "point"] ["self", "point"] (defScope s_root) := ⟨rfl, rfl, rfl, by decide +kernel, rfl, by decide +kernel, by decide +kernel⟩
def fi_root (S : FS) (ds : List D) (d : D) : Prop := ∃ p : Nat, Sane S ∧ p < S.pre.length ∧ ds = [.i (p : Int)] ∧ d = .i (root S.par p : Int)
theorem spM_len {C : Addr} {φ : FS → List D → D → Prop} {n : Nat} (h : ∀ S ds d, φ S ds d → ds.length = n) {vs : List V} {H : Hp} {Q : VK} {E : XK} (s : spM C φ vs H Q E) : vs.length = n + 1 := by
  obtain ⟨f, A, S, ws, ds, d, rfl, _, r, q, _⟩ := s
  rw [List.length_cons, r.len, h _ _ _ q]
theorem spMF_len {C : Addr} {φ : FS → List D → List D → Prop} {n : Nat} (h : ∀ S ds d, φ S ds d → ds.length = n) {vs : List V} {H : Hp} {Q : VK} {E : XK} (s : spMF C φ vs H Q E) : vs.length = n + 1 := by
  obtain ⟨f, A, S, ws, ds, d, rfl, _, r, q, _⟩ := s
  rw [List.length_cons, r.len, h _ _ _ q]
theorem spW_len {C : Addr} {ls : Adr → List Addr} {B : Type} {ar : B → List D} {ψ : FS → B → Prop} {φ : FS → B → D → FS → Prop} {n : Nat} (h : ∀ b, (ar b).length = n) {vs : List V} {H : Hp} {Q : VK} {E : XK} (s : spW C ls ar ψ φ vs H Q E) : vs.length = n + 1 := by
  obtain ⟨f, A, S, ws, b, rfl, _, r, q, _⟩ := s
  rw [List.length_cons, r.len, h b]
theorem Sane.at {S : FS} (h : Sane S) {p : Nat} (hp : p < S.pre.length) : S.par[p]? = some none ∨ ∃ q, S.par[p]? = some (some q) ∧ q < p ∧ q < S.pre.length := by
  have hl : p < S.par.length := by rw [h.plen]; exact hp
  cases e : S.par[p]? with
  | none => exact absurd (List.getElem?_eq_none_iff.mp e) (by omega)
  | some o =>
    cases o with
    | none => exact .inl rfl
    | some q =>
      have := h.par p q e
      exact .inr ⟨q, rfl, this, by omega⟩
theorem ok_root (T : Txt K mg) : FnOk P w K mg base CX0 1 T.Froot.f T.Froot.fd ["self", "point"] (spM T.C fi_root) := by
  refine T.Froot.F.ok sc_root (fun vs H Q E h => spM_len (fun S ds d ⟨p, _, _, e, _⟩ => by rw [e] <;> rfl) h) (fun cdv A0 outer s H vs Q E hr h => ?_)
  obtain ⟨f, A, S, ws, ds, d, rfl, F, r, ⟨p, hS, hp, rfl, rfl⟩, k⟩ := h
  obtain ⟨va, rfl, ra⟩ := rps1 r
  refine ⟨_, wSs_ok, ?_⟩
  refine ws_while (fun m σ' H' => σ' = [some (.ref f), some (.int (m : Int))] ∧ Same H H' ∧ m < S.pre.length ∧ root S.par m = root S.par p) p ⟨by rw [show va = .int (p : Int) from ra] <;> rfl, Same.refl _, hp, rfl⟩ ?_
  rintro m σ' H' ⟨rfl, s1, hm, e⟩
  rcases hS.at hm with hq | ⟨q, hq, hlt, hql⟩
  · refine ⟨false, JT.of (jt_notN (je_par T (F.mono s1) (jv_var 0) (je_var 1 rfl rfl) hq)) rfl, (fun z => by cases z), fun _ H1 s2 => ?_⟩
    refine ws_ret (d := .i (m : Int)) (je_var 1 rfl rfl) fun v H2 s3 rv => k v H2 ((s1.trans s2).trans s3) ?_
    rw [← e, root_none hq]
    exact rv
  · refine ⟨true, JT.of (jt_notN (je_par T (F.mono s1) (jv_var 0) (je_var 1 rfl rfl) hq)) rfl, fun _ H1 s2 => ?_, (fun z => by cases z)⟩
    refine ws_set 1 sc_root.nd (je_par T (F.mono (s1.trans s2)) (jv_var 0) (je_var 1 rfl rfl) hq) fun v H2 s3 rv => ws_nil ⟨q, hlt, ?_, (s1.trans s2).trans s3, hql, ?_⟩
    · rw [show v = .int (q : Int) from rv] <;> rfl
    · rw [← e, root_some hq hlt]
abbrev s_chain : Stmt := inClass (topS 32) 3
theorem sc_chain : FnScope ["self", "point", "found"] ["self", "point"] (defScope s_chain) := ⟨rfl, rfl, rfl, by decide +kernel, rfl, by decide +kernel, by decide +kernel⟩
def fi_chain (S : FS) (ds es : List D) : Prop := ∃ p : Nat, Sane S ∧ p < S.pre.length ∧ p ≤ 1000 ∧ ds = [.i (p : Int)] ∧ es = facsD (chain S.par S.lnk p)
theorem ok_chain (T : Txt K mg) : FnOk P w K mg base CX0 1 T.Fchain.f T.Fchain.fd ["self", "point"] (spMF T.C fi_chain) := by
  refine T.Fchain.F.ok sc_chain (fun vs H Q E h => spMF_len (fun S ds d ⟨p, _, _, _, e, _⟩ => by rw [e] <;> rfl) h) (fun cdv A0 outer s H vs Q E hr h => ?_)
  obtain ⟨f, A, S, ws, ds, d, rfl, F, r, ⟨p, hS, hp, hp2, rfl, rfl⟩, k⟩ := h
  obtain ⟨va, rfl, ra⟩ := rps1 r
  refine ⟨_, wSs_ok, ?_⟩
  refine ws_setF 2 sc_chain.nd (jf_lst ja_nil) fun pf us H1 hpf s1 h1 r1 => ?_
  refine ws_while (fun m σ' H' => σ' = [some (.ref f), some (.int (m : Int)), some (.ref pf)] ∧ Same H H' ∧ m < S.pre.length ∧ m ≤ p ∧ ∃ (fs : List Fac) (us : List V), H' pf = some (.lst us) ∧ Rps H' (facsD fs) us ∧ fs.length ≤ p - m ∧ fs ++ chain S.par S.lnk m = chain S.par S.lnk p) p ⟨by rw [show va = .int (p : Int) from ra] <;> rfl, s1, hp, Nat.le_refl _, [], us, h1, r1, by simp, rfl⟩ ?_
  rintro m σ' H' ⟨rfl, s2, hm, hmp, fs, us2, h2, r2, hl, e⟩
  rcases hS.at hm with hq | ⟨q, hq, hlt, hql⟩
  · refine ⟨false, JT.of (jt_notN (je_par T (F.mono s2) (jv_var 0) (je_var 1 rfl rfl) hq)) rfl, (fun z => by cases z), fun _ H3 s3 => ?_⟩
    rw [chain_none hq, List.append_nil] at e
    exact ws_retV 2 (k pf us2 H3 hpf (s2.trans s3) (s3 _ _ h2) (by rw [← e]; exact r2.mono s3))
  · refine ⟨true, JT.of (jt_notN (je_par T (F.mono s2) (jv_var 0) (je_var 1 rfl rfl) hq)) rfl, fun _ H3 s3 => ?_, (fun z => by cases z)⟩
    obtain ⟨o, ho⟩ : ∃ o, S.lnk[m]? = some o := by
      have hl : m < S.lnk.length := by rw [hS.llen]; exact hm
      exact ⟨_, List.getElem?_eq_getElem hl⟩
    cases o with
    | none =>
      rw [chain_free hq hlt ho] at e
      refine ws_ifF (JT.of (jt_notN (je_lnk T (F.mono (s2.trans s3)) (jv_var 0) (je_var 1 rfl rfl) ho)) rfl) fun H4 s4 => ?_
      refine ws_set 1 sc_chain.nd (je_par T (F.mono ((s2.trans s3).trans s4)) (jv_var 0) (je_var 1 rfl rfl) hq) fun v H5 s5 rv => ws_nil ⟨q, hlt, ?_, ((s2.trans s3).trans s4).trans s5, hql, by omega, fs, us2, s5 _ _ (s4 _ _ (s3 _ _ h2)), r2.mono ((s3.trans s4).trans s5), by omega, e⟩
      rw [show v = .int (q : Int) from rv] <;> rfl
    | some i =>
      rw [chain_link hq hlt ho] at e
      refine ws_ifT (JT.of (jt_notN (je_lnk T (F.mono (s2.trans s3)) (jv_var 0) (je_var 1 rfl rfl) ho)) rfl) fun H4 s4 => ?_
      have s24 := (s2.trans s3).trans s4
      refine ws_app (d := facD (true, i, true)) (wv_var 2) (s4 _ _ (s3 _ _ h2)) (je_fac je_str (je_lnk T (F.mono s24) (jv_var 0) (je_var 1 rfl rfl) ho) je_int rfl) (by rw [r2.len]; simp [facsD]; omega) fun v H5 s5 rv => ws_nil ?_
      have s25 := s24.trans s5
      have s6 : Same H (upd H5 pf (.lst (us2 ++ [v]))) := Same.mut s25 hpf
      refine ws_set 1 sc_chain.nd (je_par T (F.mono s6) (jv_var 0) (je_var 1 rfl rfl) hq) fun v2 H6 s7 rv2 => ws_nil ⟨q, hlt, ?_, s6.trans s7, hql, by omega, fs ++ [(true, i, true)], us2 ++ [v], s7 _ _ upd_same, ?_, by simp; omega, ?_⟩
      · rw [show v2 = .int (q : Int) from rv2] <;> rfl
      · refine Rps.mono s7 (Rps.imm (keepT_lst (s5 _ _ (s4 _ _ (s3 _ _ h2)))) (imms_facs _) ?_)
        have e3 : facsD (fs ++ [(true, i, true)]) = facsD fs ++ [facD (true, i, true)] := by simp [facsD]
        rw [e3]
        exact Rps.app (r2.mono ((s3.trans s4).trans s5)) (.cons rv rfl)
      · rw [List.append_assoc]
        exact e
end
end FW
/-! link -/
namespace FW
open PySem L2
section
variable {C : Addr} {H : Hp} {f : Addr} {A : Adr} {S : FS}
theorem FoldAt.ne (h : FoldAt C H f A S) : A.pp ≠ A.pe ∧ A.pp ≠ A.pa ∧ A.pp ≠ A.pl ∧ A.pp ≠ A.ps ∧ A.pe ≠ A.pa ∧ A.pe ≠ A.pl ∧ A.pe ≠ A.ps ∧ A.pa ≠ A.pl ∧ A.pa ≠ A.ps ∧ A.pl ≠ A.ps := by
  have nd := h.nd
  simp at nd
  obtain ⟨⟨a, b, c, d⟩, ⟨e, g, i⟩, ⟨j, k⟩, l⟩ := nd
  exact ⟨a, b, c, d, e, g, i, j, k, l⟩
theorem FoldAt.fne (h : FoldAt C H f A S) {p : Addr} (hp : p ∈ A.all) : f ≠ p := fun e => by
  obtain ⟨vs, z⟩ := h.lists p hp
  rw [← e, h.ins] at z
  cases z
theorem FoldAt.updPa (h : FoldAt C H f A S) {par : List (Option Nat)} {vs : List V} (r : Rps H (par.map optD) vs) : FoldAt C (upd H A.pa (.lst vs)) f A { S with par := par } := by
  obtain ⟨a, b, c, d, e, g, i, j, k, l⟩ := h.ne
  have kl : KeepL [A.pa] H (upd H A.pa (.lst vs)) := keepL_upd (by simp)
  have kt : KeepT H (upd H A.pa (.lst vs)) := let ⟨_, z, _⟩ := h.pa; keepT_lst z
  exact ⟨kl _ _ (by simpa using h.fne (by simp [Adr.all])) h.ins, h.pp.keep (by simpa using b) kl kt (imms_ws _), h.pe.keep (by simpa using e) kl kt (imms_eds _), ⟨vs, upd_same, r.imm kt (imms_opts _)⟩, h.pl.keep (by simpa using Ne.symm j) kl kt (imms_opts _), h.ps.keep (by simpa using Ne.symm k) kl kt (imms_stps _), h.nd⟩
theorem FoldAt.updPl (h : FoldAt C H f A S) {lnk : List (Option Nat)} {vs : List V} (r : Rps H (lnk.map optD) vs) : FoldAt C (upd H A.pl (.lst vs)) f A { S with lnk := lnk } := by
  obtain ⟨a, b, c, d, e, g, i, j, k, l⟩ := h.ne
  have kl : KeepL [A.pl] H (upd H A.pl (.lst vs)) := keepL_upd (by simp)
  have kt : KeepT H (upd H A.pl (.lst vs)) := let ⟨_, z, _⟩ := h.pl; keepT_lst z
  exact ⟨kl _ _ (by simpa using h.fne (by simp [Adr.all])) h.ins, h.pp.keep (by simpa using c) kl kt (imms_ws _), h.pe.keep (by simpa using g) kl kt (imms_eds _), h.pa.keep (by simpa using j) kl kt (imms_opts _), ⟨vs, upd_same, r.imm kt (imms_opts _)⟩, h.ps.keep (by simpa using Ne.symm l) kl kt (imms_stps _), h.nd⟩
theorem FoldAt.updPs (h : FoldAt C H f A S) {st : List Stp} {vs : List V} (r : Rps H (st.map stpD) vs) : FoldAt C (upd H A.ps (.lst vs)) f A { S with steps := st } := by
  obtain ⟨a, b, c, d, e, g, i, j, k, l⟩ := h.ne
  have kl : KeepL [A.ps] H (upd H A.ps (.lst vs)) := keepL_upd (by simp)
  have kt : KeepT H (upd H A.ps (.lst vs)) := let ⟨_, z, _⟩ := h.ps; keepT_lst z
  exact ⟨kl _ _ (by simpa using h.fne (by simp [Adr.all])) h.ins, h.pp.keep (by simpa using d) kl kt (imms_ws _), h.pe.keep (by simpa using i) kl kt (imms_eds _), h.pa.keep (by simpa using k) kl kt (imms_opts _), h.pl.keep (by simpa using l) kl kt (imms_opts _), ⟨vs, upd_same, r.imm kt (imms_stps _)⟩, h.nd⟩
theorem FoldAt.updPp (h : FoldAt C H f A S) {pre : List Wd} {vs : List V} (r : Rps H (pre.map wD) vs) : FoldAt C (upd H A.pp (.lst vs)) f A { S with pre := pre } := by
  obtain ⟨a, b, c, d, e, g, i, j, k, l⟩ := h.ne
  have kl : KeepL [A.pp] H (upd H A.pp (.lst vs)) := keepL_upd (by simp)
  have kt : KeepT H (upd H A.pp (.lst vs)) := let ⟨_, z, _⟩ := h.pp; keepT_lst z
  exact ⟨kl _ _ (by simpa using h.fne (by simp [Adr.all])) h.ins, ⟨vs, upd_same, r.imm kt (imms_ws _)⟩, h.pe.keep (by simpa using Ne.symm a) kl kt (imms_eds _), h.pa.keep (by simpa using Ne.symm b) kl kt (imms_opts _), h.pl.keep (by simpa using Ne.symm c) kl kt (imms_opts _), h.ps.keep (by simpa using Ne.symm d) kl kt (imms_stps _), h.nd⟩
theorem FoldAt.updPe (h : FoldAt C H f A S) {es : List Ed} {vs : List V} (r : Rps H (es.map edD) vs) : FoldAt C (upd H A.pe (.lst vs)) f A { S with edges := es } := by
  obtain ⟨a, b, c, d, e, g, i, j, k, l⟩ := h.ne
  have kl : KeepL [A.pe] H (upd H A.pe (.lst vs)) := keepL_upd (by simp)
  have kt : KeepT H (upd H A.pe (.lst vs)) := let ⟨_, z, _⟩ := h.pe; keepT_lst z
  exact ⟨kl _ _ (by simpa using h.fne (by simp [Adr.all])) h.ins, h.pp.keep (by simpa using a) kl kt (imms_ws _), ⟨vs, upd_same, r.imm kt (imms_eds _)⟩, h.pa.keep (by simpa using Ne.symm e) kl kt (imms_opts _), h.pl.keep (by simpa using Ne.symm g) kl kt (imms_opts _), h.ps.keep (by simpa using Ne.symm i) kl kt (imms_stps _), h.nd⟩
end
theorem lst_ne {H : Hp} {p q : Addr} {fs : List Fac} {par : List (Option Nat)} (h1 : LstAt H p (facsD fs)) (h2 : LstAt H q (par.map optD)) (hl : 0 < par.length) : p ≠ q := fun e => by
  obtain ⟨vs, a, b⟩ := h1
  obtain ⟨us, c, d⟩ := h2
  rw [← e, a] at c
  have e2 : vs = us := by injection c with c; injection c
  subst e2
  have h0 : (par.map optD)[0]? = some (optD par[0]) := by rw [List.getElem?_map, List.getElem?_eq_getElem hl] <;> rfl
  obtain ⟨v, q1, q2⟩ := d.get h0
  obtain ⟨x, q3, q4⟩ := b.back q1
  obtain ⟨g, _, rfl⟩ := map_at q3
  obtain ⟨p2, ws, rfl, _⟩ := q4
  cases h : par[0] with
  | none => rw [h] at q2; exact nomatch (show V.ref p2 = .non from q2)
  | some n => rw [h] at q2; exact nomatch (show V.ref p2 = .int _ from q2)
section
variable {P : Program} {w : World} {K : PySem.W.Frag} {mg : Str → Option Value} {base : Heap}
theorem je_pre {X : Cx} {o b : Expr} {σ : L2.St} {H : Hp} {pos p2 : Pos} {f : Addr} {A : Adr} {S : FS} {n : Nat} (T : Txt X.K X.mg) (F : FoldAt T.C H f A S) (h : JV X o σ H (.ref f)) (hb : JE X b σ H (.i (n : Int))) (hn : n < S.pre.length) (hs : PlainIx b := by exact fun _ _ => rfl) (hab : attributeBase o "prefixes" X.env (eval o X.env) = eval o X.env := by rfl) :
    JE X (.Subscript (.Attribute o "prefixes" p2) b pos) σ H (wD (Pt S n)) := je_ixLn ((jv_pp T F h hab).je F.pp.rp) hb (by
  unfold Pt
  rw [List.getElem?_map, List.getD_eq_getElem?_getD, List.getElem?_eq_getElem hn] <;> rfl) hs
/-- word + word -/
theorem je_addW {X : Cx} {a b : Expr} {σ : L2.St} {H : Hp} {pos : Pos} {x y : Wd} (ha : JE X a σ H (wD x)) (hb : JE X b σ H (wD y)) (hz : x.length + y.length ≤ 100000) : JE X (.BinOp a .Add b pos) σ H (wD (x ++ y)) :=
  JE.of (je_addS ha hb (by rw [enc_len, enc_len]; exact hz)) (congrArg D.s (enc_app x y))
abbrev LkB := Nat × Nat × List Fac
def ar_link (b : LkB) : List D := [.i (b.1 : Int), .i (b.2.1 : Int), .l (facsD b.2.2)]
structure LkPre (S : FS) (b : LkB) : Prop where
  sane : Sane S
  p : b.1 < S.pre.length
  q : b.2.1 < S.pre.length
  wl : ∀ n : Nat, (Pt S n).length ≤ 8
  fl : b.2.2.length ≤ 40000
  sl : S.steps.length < 10000
def fi_link (S : FS) (b : LkB) (d : D) (S' : FS) : Prop := d = .n ∧ S' = linkS S b.1 b.2.1 b.2.2
abbrev s_link : Stmt := inClass (topS 32) 4
theorem sc_link : FnScope ["self", "point", "lower", "factors", "word", "short"] ["self", "point", "lower", "factors"] (defScope s_link) := ⟨rfl, rfl, rfl, by decide +kernel, rfl, by decide +kernel, by decide +kernel⟩
theorem facs_len (fs : List Fac) : (facsD fs).length = fs.length := by simp [facsD]
theorem ok_link (T : Txt K mg) : FnOk P w K mg base CX0 3 T.Flink.f T.Flink.fd ["self", "point", "lower", "factors"] (spW T.C Adr.mut ar_link LkPre fi_link) := by
  refine T.Flink.F.ok sc_link (fun vs H Q E h => spW_len (n := 3) (fun b => rfl) h) (fun cdv A0 outer s H vs Q E hr h => ?_)
  obtain ⟨f, A, S, ws, ⟨p, q, fs⟩, rfl, F, r, hp, k⟩ := h
  obtain ⟨va, vb, vc, rfl, ra, rb, rc⟩ := rps3 r
  obtain ⟨pf, us, rfl, hpf, rpf⟩ := rc
  have hpf0 : LstAt H pf (facsD fs) := ⟨us, hpf, rpf⟩
  have hpl : p < S.par.length := by rw [hp.sane.plen]; exact hp.p
  have hll : p < S.lnk.length := by rw [hp.sane.llen]; exact hp.p
  have hp1 := hp.p
  have hp2 := hp.q
  have hp3 := hp.wl p
  have hp4 := hp.wl q
  have hp5 := hp.fl
  have hp6 := hp.sl
  have hnpa : pf ≠ A.pa := lst_ne hpf0 F.pa (by omega)
  refine ⟨_, wSs_ok, ?_⟩
  have hw : (winv (Pt S q)).length = (Pt S q).length := ginv_len _
  -- word
  refine ws_set 4 sc_link.nd (d := wD (red (Pt S p ++ winv (Pt S q)))) (je_callD T.reduce_of (ok_red T) (hr.mono (by decide)) (ja_cons (je_addW (je_pre T F (jv_var 0) (je_var (d := .i (p : Int)) 1 rfl ra) hp1) (je_callD T.inverse_of (ok_inv T) (hr.mono (by decide)) (ja_cons (je_pre T F (jv_var 0) (je_var (d := .i (q : Int)) 2 rfl rb) hp2) ja_nil) ⟨Pt S q, rfl, by omega, rfl⟩) (by omega)) ja_nil) ⟨_, rfl, by rw [List.length_append]; omega, rfl⟩) fun vw H1 s1 r1 => ?_
  -- self.parents[point] = lower
  refine ws_setIx (d := .i (q : Int)) (jv_pa T (F.mono s1) (jv_var 0)) (F.mono s1).pa (by simpa using hpl) (je_var 1 rfl (ra.mono s1)) (je_var 2 rfl (rb.mono s1)) fun v vs H2 s2 h2 r2 rv => ?_
  have F2 := F.mono (s1.trans s2)
  have F3 : FoldAt T.C (upd H2 A.pa (.lst (vs.set p v))) f A { S with par := S.par.set p (some q) } := F2.updPa (by
    have := Rps.set rv p r2
    rw [List.map_set]
    exact this)
  have k3 : KeepL A.mut H (upd H2 A.pa (.lst (vs.set p v))) := (same_keepL (s1.trans s2) _).trans (keepL_upd (by simp [Adr.mut]))
  have t3 : KeepT H2 (upd H2 A.pa (.lst (vs.set p v))) := keepT_lst h2
  have hpf3 : LstAt (upd H2 A.pa (.lst (vs.set p v))) pf (facsD fs) := (hpf0.mono (s1.trans s2)).keep (ls := [A.pa]) (by simpa using hnpa) (keepL_upd (by simp)) t3 (imms_facs _)
  generalize upd H2 A.pa (.lst (vs.set p v)) = H3 at F3 k3 t3 hpf3
  have ra3 : Rp H3 (.i (p : Int)) va := ra
  have rw3 : Rp H3 (wD (red (Pt S p ++ winv (Pt S q)))) vw := r1
  -- short
  refine ws_setF 5 sc_link.nd (jf_callD T.shortened (ok_shor T) (hr.mono (by decide)) (ja_cons (je_var (d := .l (facsD fs)) 3 rfl hpf3.rp) ja_nil) ⟨fs, hp5, rfl, rfl⟩) fun psh ush H4 hsh s4 h4 r4 => ?_
  have F4 := F3.mono s4
  have k4 := k3.trans (same_keepL s4 _)
  have rsh : Rp H4 (.l (facsD (short fs))) (.ref psh) := ⟨psh, ush, rfl, h4, r4⟩
  have hsl : (short fs).length ≤ fs.length := red_len fs
  -- if word == ''
  refine ws_if (k := decide (red (Pt S p ++ winv (Pt S q)) = [])) (JT.of (jt_eqS (x := enc (red (Pt S p ++ winv (Pt S q)))) (y := "") (je_var 4 rfl r1) je_str) (by rw [enc_nil', enc_dec])) (fun hk H5 s5 => ?_) (fun hk H5 s5 => ws_nil ?_)
  · have hk := of_decide_eq_true hk
    refine ws_retN (k _ .n _ H5 ⟨rfl, rfl⟩ (k4.trans (same_keepL s5 _)) ?_ rfl)
    have : linkS S p q fs = { S with par := S.par.set p (some q) } := by unfold linkS; rw [if_pos hk]
    show FoldAt T.C H5 f A (linkS S p q fs)
    rw [this]
    exact F4.mono s5
  · have hk := of_decide_eq_false hk
    have F5 := F4.mono s5
    have k5 := k4.trans (same_keepL s5 _)
    have rsh5 := rsh.mono s5
    cases ho : oneStep (short fs) with
    | some n =>
      have hsf := oneStep_some ho
      have hS : linkS S p q fs = { S with par := S.par.set p (some q), lnk := S.lnk.set p (some n) } := by unfold linkS; rw [if_neg hk, ho]
      rw [hsf] at rsh5
      have h0 : atI (facsD [(true, n, true)]) ((0 : Nat) : Int) = some (facD (true, n, true)) := atI_nat rfl
      refine ws_ifT (jt_and3 (x := true) (y := true) (z := true) (JT.of (jt_eqI (je_lenL T.b_len (je_var 5 rfl rsh5)) je_int) rfl) (fun _ => JT.of (jt_eqS (x := kindS true) (y := "step") (je_ixT (i := 0) (ds := [.s (kindS true), .i (n : Int), .i (sgn true)]) (je_ixL (i := 0) (je_var 5 rfl rsh5) je_int h0) je_int rfl) je_str) (decide_eq_true rfl))
        (fun _ _ => JT.of (jt_eqI (i := 1) (je_ixT (i := 2) (ds := [.s (kindS true), .i (n : Int), .i (sgn true)]) (je_ixL (i := 0) (je_var 5 rfl rsh5) je_int h0) je_int rfl) je_int) rfl) rfl) fun H6 s6 => ?_
      refine ws_setIx (d := .i (n : Int)) (jv_pl T (F5.mono s6) (jv_var 0)) (F5.mono s6).pl (by simpa using hll) (je_var (d := .i (p : Int)) 1 rfl ra3) (je_ixT (i := 1) (ds := [.s (kindS true), .i (n : Int), .i (sgn true)]) (je_ixL (i := 0) (je_var 5 rfl (rsh5.mono s6)) je_int h0) je_int rfl) fun v2 vs2 H7 s7 h7 r7 rv7 => ?_
      refine ws_retN (k _ .n _ _ ⟨rfl, rfl⟩ ((k5.trans (same_keepL (s6.trans s7) _)).trans (keepL_upd (by simp [Adr.mut]))) ?_ rfl)
      show FoldAt T.C _ f A (linkS S p q fs)
      rw [hS]
      refine ((F5.mono (s6.trans s7)).updPl (lnk := S.lnk.set p (some n)) ?_)
      rw [List.map_set]
      exact Rps.set rv7 p r7
    | none =>
      have hS : linkS S p q fs = { S with par := S.par.set p (some q), lnk := S.lnk.set p (some S.steps.length), steps := S.steps ++ [(red (Pt S p ++ winv (Pt S q)), short fs)] } := by unfold linkS; rw [if_neg hk, ho]
      have hcond : JT (cxOf CX0 P w K mg base ["self", "point", "lower", "factors", "word", "short"] "Folding.link" (defScope s_link) T.Flink.f cdv A0 outer s H E).nox (match defBody s_link with | [_, _, _, _, .If c _ _ _, _, _] => c | _ => .Name "x" ⟨0, 0, 0, 0⟩) [some (.ref f), some va, some vb, some (.ref pf), some vw, some (.ref psh)] H5 false := by
        cases hs : short fs with
        | nil =>
          rw [hs] at rsh5
          exact jt_and3 (x := false) (y := true) (z := true) (JT.of (jt_eqI (je_lenL T.b_len (je_var 5 rfl rsh5)) je_int) rfl) (fun z => by cases z) (fun z => by cases z) rfl
        | cons g t =>
          rw [hs] at rsh5 ho
          cases t with
          | cons g2 t2 => 
            exact jt_and3 (x := false) (y := true) (z := true) (JT.of (jt_eqI (je_lenL T.b_len (je_var 5 rfl rsh5)) je_int) (decide_eq_false (by simp [facsD]; omega))) (fun z => by cases z) (fun z => by cases z) rfl
          | nil =>
            obtain ⟨a, n, b⟩ := g
            have h0 : atI (facsD [(a, n, b)]) ((0 : Nat) : Int) = some (facD (a, n, b)) := atI_nat rfl
            refine jt_and3 (x := true) (y := decide (kindS a = "step")) (z := decide (sgn b = 1)) (JT.of (jt_eqI (je_lenL T.b_len (je_var 5 rfl rsh5)) je_int) rfl) (fun _ => jt_eqS (je_ixT (i := 0) (ds := [.s (kindS a), .i (n : Int), .i (sgn b)]) (je_ixL (i := 0) (je_var 5 rfl rsh5) je_int h0) je_int rfl) je_str)
              (fun _ _ => jt_eqI (je_ixT (i := 2) (ds := [.s (kindS a), .i (n : Int), .i (sgn b)]) (je_ixL (i := 0) (je_var 5 rfl rsh5) je_int h0) je_int rfl) je_int) ?_
            cases a <;> cases b
            · decide +kernel
            · decide +kernel
            · decide +kernel
            · exact absurd ho (by simp [oneStep])
      refine ws_ifF hcond fun H6 s6 => ?_
      have F6 := F5.mono s6
      refine ws_setIx (d := .i (S.steps.length : Int)) (jv_pl T F6 (jv_var 0)) F6.pl (by simpa using hll) (je_var (d := .i (p : Int)) 1 rfl ra3) (JE.of (je_lenL T.b_len ((jv_ps T F6 (jv_var 0)).je F6.ps.rp)) (by simp)) fun v2 vs2 H7 s7 h7 r7 rv7 => ?_
      have F7 : FoldAt T.C (upd H7 A.pl (.lst (vs2.set p v2))) f A { S with par := S.par.set p (some q), lnk := S.lnk.set p (some S.steps.length) } := (F6.mono s7).updPl (lnk := S.lnk.set p (some S.steps.length)) (by
        rw [List.map_set]
        exact Rps.set rv7 p r7)
      have k7 : KeepL A.mut H (upd H7 A.pl (.lst (vs2.set p v2))) := (k5.trans (same_keepL (s6.trans s7) _)).trans (keepL_upd (by simp [Adr.mut]))
      have rsh7 : Rp (upd H7 A.pl (.lst (vs2.set p v2))) (.l (facsD (short fs))) (.ref psh) := by
        have hne : psh ∉ [A.pl] := fun e => by
          have e : psh = A.pl := by simpa using e
          exact (F3.fresh hsh) (by rw [e]; simp [Adr.all])
        exact (LstAt.keep ⟨ush, s7 _ _ (s6 _ _ (s5 _ _ h4)), r4.mono ((s5.trans s6).trans s7)⟩ hne (keepL_upd (by simp)) (keepT_lst h7) (imms_facs _)).rp
      generalize upd H7 A.pl (.lst (vs2.set p v2)) = H8 at F7 k7 rsh7
      obtain ⟨us8, h8, r8⟩ := F7.ps
      refine ws_app (d := stpD (red (Pt S p ++ winv (Pt S q)), short fs)) (jv_ps T F7 (jv_var 0)) h8 (je_tup (ja_cons (je_var 4 rfl (show Rp H8 (wD (red (Pt S p ++ winv (Pt S q)))) vw from r1)) (ja_cons (je_tupleL T.b_tuple (je_var 5 rfl rsh7)) ja_nil)) (by show 2 ≤ 100000; decide)) (by rw [r8.len]; simp; omega) fun v9 H9 s9 r9 => ws_nil (k _ .n _ _ ⟨rfl, rfl⟩ ((k7.trans (same_keepL s9 _)).trans (keepL_upd (by simp [Adr.mut]))) ?_ rfl)
      show FoldAt T.C _ f A (linkS S p q fs)
      rw [hS]
      refine (F7.mono s9).updPs (st := S.steps ++ [(red (Pt S p ++ winv (Pt S q)), short fs)]) ?_
      rw [List.map_append]
      exact Rps.app (r8.mono s9) (.cons r9 rfl)
end
end FW
/-! merge, fold_two -/
namespace FW
open PySem L2
section
variable {P : Program} {w : World} {K : PySem.W.Frag} {mg : Str → Option Value} {base : Heap}
section
variable {X : Cx} {o e : Expr} {σ : L2.St} {H : Hp} {pos apos : Pos} {f : Addr} {A : Adr} {S : FS} {p k : Nat}
theorem je_root {pl : Sem Bool} (T : Txt X.K X.mg) (hr : Room k X.A) (hk : 1 ≤ k) (F : FoldAt T.C H f A S) (hS : Sane S) (hp : p < S.pre.length) (ho : JV X o σ H (.ref f)) (he : JE X e σ H (.i (p : Int)))
    (hst : starEach [e] X.env = (false, eval e X.env) :: starEach [] X.env := by rfl) (hpl : (backTo pos (starEach [] X.env)).any (·.1) = false := by rfl)
    (ht : eval (.Call (.Attribute o "root" apos) [e] [] pos) X.env = (do
      let ov ← eval o X.env
      standAt apos.atName
      let (f, first) ← holding [ov] (getMethod ov "root" pl)
      callWith pos f first (backTo pos (starEach [e] X.env)) (backToKw pos (keywordEach [] X.env))) := by rfl) : JE X (.Call (.Attribute o "root" apos) [e] [] pos) σ H (.i (root S.par p : Int)) :=
  je_meth T.cl T.Froot.m (ok_root (base := X.base) (P := X.prog) (w := X.w) T) T.Froot.b (hr.mono hk) ho F (ja_cons he ja_nil hst) ⟨p, hS, hp, rfl, rfl⟩ rfl hst hpl ht
theorem jf_chain {pl : Sem Bool} (T : Txt X.K X.mg) (hr : Room k X.A) (hk : 1 ≤ k) (F : FoldAt T.C H f A S) (hS : Sane S) (hp : p < S.pre.length) (hz : p ≤ 1000) (ho : JV X o σ H (.ref f)) (he : JE X e σ H (.i (p : Int)))
    (hst : starEach [e] X.env = (false, eval e X.env) :: starEach [] X.env := by rfl) (hpl : (backTo pos (starEach [] X.env)).any (·.1) = false := by rfl)
    (ht : eval (.Call (.Attribute o "chain" apos) [e] [] pos) X.env = (do
      let ov ← eval o X.env
      standAt apos.atName
      let (f, first) ← holding [ov] (getMethod ov "chain" pl)
      callWith pos f first (backTo pos (starEach [e] X.env)) (backToKw pos (keywordEach [] X.env))) := by rfl) : JF X (.Call (.Attribute o "chain" apos) [e] [] pos) σ H (facsD (chain S.par S.lnk p)) :=
  jf_meth T.cl T.Fchain.m (ok_chain (base := X.base) (P := X.prog) (w := X.w) T) T.Fchain.b (hr.mono hk) ho F (ja_cons he ja_nil hst) ⟨p, hS, hp, hz, rfl, rfl⟩ rfl hst hpl ht
/-- opposite(..) -/
theorem jf_opp {fs : List Fac} {pn : Pos} (T : Txt X.K X.mg) (hr : Room k X.A) (hk : 1 ≤ k) (he : JE X e σ H (.l (facsD fs))) (hl : fs.length ≤ 40000) (hg : Gl X "opposite" := by rfl) 
    (hst : starEach [e] X.env = (false, eval e X.env) :: starEach [] X.env := by rfl) (hpl : (backTo pos (starEach [] X.env)).any (·.1) = false := by rfl) : JF X (.Call (.Name "opposite" pn) [e] [] pos) σ H (facsD (opp fs)) :=
  jf_callD T.opposite (ok_oppo (base := X.base) (P := X.prog) (w := X.w) T) (hr.mono hk) (ja_cons he ja_nil hst) ⟨fs, hl, rfl, rfl⟩ hg (by decide) hst hpl
end
theorem facs_app (a b : List Fac) : facsD a ++ facsD b = facsD (a ++ b) := by simp [facsD]
theorem Sane.chain_len {S : FS} (h : Sane S) : ∀ (n p : Nat), p ≤ n → p < S.pre.length → (chain S.par S.lnk p).length ≤ p
  | n, p, hn, hp => by
    rcases h.at hp with e | ⟨q, e, hq, hl⟩
    · rw [chain_none e]; simp
    · obtain ⟨o, ho⟩ : ∃ o, S.lnk[p]? = some o := ⟨_, List.getElem?_eq_getElem (by rw [h.llen]; exact hp)⟩
      cases n with
      | zero => omega
      | succ n =>
        have := Sane.chain_len h n q (by omega) hl
        cases o with
        | none => rw [chain_free e hq ho]; omega
        | some i => rw [chain_link e hq ho]; simp; omega
theorem Sane.rle {S : FS} (h : Sane S) : ∀ (n p : Nat), p ≤ n → p < S.pre.length → root S.par p ≤ p
  | n, p, hn, hp => by
    rcases h.at hp with e | ⟨q, e, hq, hl⟩
    · rw [root_none e] <;> omega
    · cases n with
      | zero => omega
      | succ n =>
        have := Sane.rle h n q (by omega) hl
        rw [root_some e hq]; omega
structure MgPre (S : FS) (b : LkB) : Prop where
  sane : Sane S
  p : b.1 < S.pre.length
  q : b.2.1 < S.pre.length
  pz : S.pre.length ≤ 1000
  wl : ∀ n : Nat, (Pt S n).length ≤ 8
  fl : b.2.2.length ≤ 10000
  sl : S.steps.length < 10000
def fi_merge (S : FS) (b : LkB) (d : D) (S' : FS) : Prop := d = .n ∧ S' = mergeS S b.1 b.2.1 b.2.2
abbrev s_merge : Stmt := inClass (topS 32) 5
theorem sc_merge : FnScope ["self", "one", "other", "factors", "first", "second", "whole"] ["self", "one", "other", "factors"] (defScope s_merge) := ⟨rfl, rfl, rfl, by decide +kernel, rfl, by decide +kernel, by decide +kernel⟩
theorem ok_merge (T : Txt K mg) : FnOk P w K mg base CX0 4 T.Fmerge.f T.Fmerge.fd ["self", "one", "other", "factors"] (spW T.C Adr.mut ar_link MgPre fi_merge) := by
  refine T.Fmerge.F.ok sc_merge (fun vs H Q E h => spW_len (n := 3) (fun b => rfl) h) (fun cdv A0 outer s H vs Q E hr h => ?_)
  obtain ⟨f, A, S, ws, ⟨p, q, fs⟩, rfl, F, r, hp, k⟩ := h
  obtain ⟨va, vb, vc, rfl, ra, rb, rc⟩ := rps3 r
  have ra : Rp H (.i (p : Int)) va := ra
  have rb : Rp H (.i (q : Int)) vb := rb
  have rc : Rp H (.l (facsD fs)) vc := rc
  have hp1 : p < S.pre.length := hp.p
  have hp2 : q < S.pre.length := hp.q
  have hp3 := hp.pz
  have hp4 : fs.length ≤ 10000 := hp.fl
  have hS := hp.sane
  have hc1 := hS.chain_len p p (Nat.le_refl _) hp1
  have hc2 := hS.chain_len q q (Nat.le_refl _) hp2
  have hr1 := hS.rle p p (Nat.le_refl _) hp1
  have hr2 := hS.rle q q (Nat.le_refl _) hp2
  have ho1 : (opp (chain S.par S.lnk p)).length = (chain S.par S.lnk p).length := ginv_len _
  refine ⟨_, wSs_ok, ?_⟩
  refine ws_set 4 sc_merge.nd (je_root T hr (by decide) F hS hp1 (jv_var 0) (je_var 1 rfl ra)) fun v1 H1 s1 r1 => ?_
  refine ws_set 5 sc_merge.nd (je_root T hr (by decide) (F.mono s1) hS hp2 (jv_var 0) (je_var 2 rfl (rb.mono s1))) fun v2 H2 s2 r2 => ?_
  have F2 := F.mono (s1.trans s2)
  have r1 := r1.mono s2
  refine ws_if (k := decide ((root S.par p : Int) = (root S.par q : Int))) (jt_eqI (je_var 4 rfl r1) (je_var 5 rfl r2)) (fun hk H3 s3 => ?_) (fun hk H3 s3 => ws_nil ?_)
  · rw [dec_nat] at hk
    have hk := of_decide_eq_true hk
    refine ws_retN (k _ .n _ H3 ⟨rfl, rfl⟩ (same_keepL ((s1.trans s2).trans s3) _) ?_ rfl)
    show FoldAt T.C _ f A (mergeS S p q fs)
    unfold mergeS
    rw [if_pos hk]
    exact F2.mono s3
  · rw [dec_nat] at hk
    have hk := of_decide_eq_false hk
    have s13 := (s1.trans s2).trans s3
    have F3 := F2.mono s3
    refine ws_setF 6 sc_merge.nd (jf_cat (es := facsD (opp (chain S.par S.lnk p) ++ fs)) (fs := facsD (chain S.par S.lnk q)) (JE.of (JF.je (jf_cat (JF.je (jf_opp T hr (by decide) (JF.je (jf_chain T hr (by decide) F3 hS hp1 (by omega) (jv_var 0) (je_var 1 rfl (ra.mono s13)))) (by omega))) (je_var 3 rfl (rc.mono s13)) (by rw [facs_len, facs_len]; omega))) (congrArg D.l (facs_app _ _))) (JF.je (jf_chain T hr (by decide) F3 hS hp2 (by omega) (jv_var 0) (je_var 2 rfl (rb.mono s13)))) (by rw [facs_len, facs_len, List.length_append]; omega)) fun pw us H4 hw s4 h4 r4 => ?_
    rw [facs_app] at r4
    have r4 : Rps H4 (facsD (whole S p q fs)) us := r4
    have hwl : (whole S p q fs).length ≤ 20000 := by unfold whole; rw [List.length_append, List.length_append]; omega
    have s14 := s13.trans s4
    have rw4 : Rp H4 (.l (facsD (whole S p q fs))) (.ref pw) := ⟨pw, us, rfl, h4, r4⟩
    refine ws_if (k := decide ((root S.par q : Int) < (root S.par p : Int))) (jt_ltI (je_var 5 rfl (r2.mono (s3.trans s4))) (je_var 4 rfl (r1.mono (s3.trans s4)))) (fun hlt H5 s5 => ?_) (fun hlt H5 s5 => ?_)
    · have hlt := of_decide_eq_true hlt
      have s45 := (s3.trans s4).trans s5
      refine ws_exprE (we_meth (root S.par p, root S.par q, whole S p q fs) T.cl T.Flink.m (ok_link T) T.Flink.b (hr.mono (by decide)) (jv_var 0) (F2.mono s45) (ja_cons (je_var 4 rfl (r1.mono s45)) (ja_cons (je_var 5 rfl (r2.mono s45)) (ja_cons (je_var 6 rfl (rw4.mono s5)) ja_nil))) ⟨hS, by show root S.par p < _; omega, by show root S.par q < _; omega, hp.wl, by show (whole S p q fs).length ≤ _; omega, hp.sl⟩ (fun v d S' H' hφ hK hF _ => ws_nil (ws_nil (k _ .n S' H' ⟨rfl, ?_⟩ ((same_keepL (s14.trans s5) _).trans hK) hF rfl))))
      rw [hφ.2]
      show linkS S (root S.par p) (root S.par q) (whole S p q fs) = mergeS S p q fs
      unfold mergeS
      rw [if_neg hk, if_pos (by omega)]
    · have hlt := of_decide_eq_false hlt
      have s45 := (s3.trans s4).trans s5
      refine ws_exprE (we_meth (root S.par q, root S.par p, opp (whole S p q fs)) T.cl T.Flink.m (ok_link T) T.Flink.b (hr.mono (by decide)) (jv_var 0) (F2.mono s45) (ja_cons (je_var 5 rfl (r2.mono s45)) (ja_cons (je_var 4 rfl (r1.mono s45)) (ja_cons (JF.je (jf_opp T hr (by decide) (je_var 6 rfl (rw4.mono s5)) (by omega))) ja_nil))) ⟨hS, by show root S.par q < _; omega, by show root S.par p < _; omega, hp.wl, by show (opp (whole S p q fs)).length ≤ _; rw [show (opp (whole S p q fs)).length = (whole S p q fs).length from ginv_len _]; omega, hp.sl⟩ (fun v d S' H' hφ hK hF _ => ws_nil (ws_nil (k _ .n S' H' ⟨rfl, ?_⟩ ((same_keepL (s14.trans s5) _).trans hK) hF rfl))))
      rw [hφ.2]
      show linkS S (root S.par q) (root S.par p) (opp (whole S p q fs)) = mergeS S p q fs
      unfold mergeS
      rw [if_neg hk, if_neg (by omega)]
end
end FW
/-! fold_two -/
namespace FW
open PySem L2
section
variable {P : Program} {w : World} {K : PySem.W.Frag} {mg : Str → Option Value} {base : Heap}
def ar_f2 (b : Ed × Ed) : List D := [edD b.1, edD b.2]
structure F2Pre (S : FS) (b : Ed × Ed) : Prop where
  sane : Sane S
  e1 : b.1.1 < S.pre.length
  e2 : b.1.2.2 < S.pre.length
  f1 : b.2.1 < S.pre.length
  f2 : b.2.2.2 < S.pre.length
  pz : S.pre.length ≤ 1000
  wl : ∀ n : Nat, (Pt S n).length ≤ 8
  sl : S.steps.length < 10000
def fi_f2 (S : FS) (b : Ed × Ed) (d : D) (S' : FS) : Prop := (d = .b false ∧ S' = S ∧ fold2 S b.1 b.2 = none) ∨ (d = .b true ∧ fold2 S b.1 b.2 = some S')
abbrev s_f2 : Stmt := inClass (topS 32) 6
theorem sc_f2 : FnScope ["self", "first", "second", "starts", "ends", "near", "factors"] ["self", "first", "second"] (defScope s_f2) := ⟨rfl, rfl, rfl, by decide +kernel, rfl, by decide +kernel, by decide +kernel⟩
theorem je_ed0 {X : Cx} {a b : Expr} {σ : L2.St} {H : Hp} {pos : Pos} {e : Ed} (ha : JE X a σ H (edD e)) (hb : JE X b σ H (.i 0)) (hs : PlainIx b := by exact fun _ _ => rfl) : JE X (.Subscript a b pos) σ H (.i (e.1 : Int)) := je_ixT (i := 0) (ds := [.i (e.1 : Int), wD [(e.2.1, false)], .i (e.2.2 : Int)]) ha hb rfl hs
theorem je_ed1 {X : Cx} {a b : Expr} {σ : L2.St} {H : Hp} {pos : Pos} {e : Ed} (ha : JE X a σ H (edD e)) (hb : JE X b σ H (.i 1)) (hs : PlainIx b := by exact fun _ _ => rfl) : JE X (.Subscript a b pos) σ H (wD [(e.2.1, false)]) := je_ixT (i := 1) (ds := [.i (e.1 : Int), wD [(e.2.1, false)], .i (e.2.2 : Int)]) ha hb rfl hs
theorem je_ed2 {X : Cx} {a b : Expr} {σ : L2.St} {H : Hp} {pos : Pos} {e : Ed} (ha : JE X a σ H (edD e)) (hb : JE X b σ H (.i 2)) (hs : PlainIx b := by exact fun _ _ => rfl) : JE X (.Subscript a b pos) σ H (.i (e.2.2 : Int)) := je_ixT (i := 2) (ds := [.i (e.1 : Int), wD [(e.2.1, false)], .i (e.2.2 : Int)]) ha hb rfl hs
theorem beq_dec (a b : Nat) : decide ((a : Int) = (b : Int)) = (a == b) := by
  rw [dec_nat]
  by_cases q : a = b <;> simp [q]
theorem ok_f2 (T : Txt K mg) : FnOk P w K mg base CX0 5 T.Ffold_two.f T.Ffold_two.fd ["self", "first", "second"] (spW T.C Adr.mut ar_f2 F2Pre fi_f2) := by
  refine T.Ffold_two.F.ok sc_f2 (fun vs H Q E h => spW_len (n := 2) (fun b => rfl) h) (fun cdv A0 outer s H vs Q E hr h => ?_)
  obtain ⟨f, A, S, ws, ⟨e, g⟩, rfl, F, r, hp, k⟩ := h
  obtain ⟨va, vb, rfl, ra, rb⟩ := rps2 r
  have ra : Rp H (edD e) va := ra
  have rb : Rp H (edD g) vb := rb
  have he1 : e.1 < S.pre.length := hp.e1
  have he2 : e.2.2 < S.pre.length := hp.e2
  have hg1 : g.1 < S.pre.length := hp.f1
  have hg2 : g.2.2 < S.pre.length := hp.f2
  have hz := hp.pz
  have hS := hp.sane
  refine ⟨_, wSs_ok, ?_⟩
  refine ws_setF 3 sc_f2.nd (jf_lst (ja_cons (je_root T hr (by decide) F hS he1 (jv_var 0) (je_ed0 (je_var 1 rfl ra) je_int)) (ja_cons (je_root T hr (by decide) F hS hg1 (jv_var 0) (je_ed0 (je_var 2 rfl rb) je_int)) ja_nil)) (by show 2 ≤ 100000; decide)) fun p1 us1 H1 hp1 s1 h1 r1 => ?_
  have q1 : Rp H1 (.l [.i (root S.par e.1 : Int), .i (root S.par g.1 : Int)]) (.ref p1) := ⟨p1, us1, rfl, h1, r1⟩
  have F1 := F.mono s1
  refine ws_setF 4 sc_f2.nd (jf_lst (ja_cons (je_root T hr (by decide) F1 hS he2 (jv_var 0) (je_ed2 (je_var 1 rfl (ra.mono s1)) je_int)) (ja_cons (je_root T hr (by decide) F1 hS hg2 (jv_var 0) (je_ed2 (je_var 2 rfl (rb.mono s1)) je_int)) ja_nil)) (by show 2 ≤ 100000; decide)) fun p2 us2 H2 hp2 s2 h2 r2 => ?_
  have q2 : Rp H2 (.l [.i (root S.par e.2.2 : Int), .i (root S.par g.2.2 : Int)]) (.ref p2) := ⟨p2, us2, rfl, h2, r2⟩
  have q1 := q1.mono s2
  have s12 := s1.trans s2
  refine ws_if (k := decide ((root S.par e.1 == root S.par g.1) = (root S.par e.2.2 == root S.par g.2.2))) (jt_eqB (JE.of (je_eqI (je_ixL (i := 0) (ds := [.i (root S.par e.1 : Int), .i (root S.par g.1 : Int)]) (je_var 3 rfl q1) je_int rfl) (je_ixL (i := 1) (ds := [.i (root S.par e.1 : Int), .i (root S.par g.1 : Int)]) (je_var 3 rfl q1) je_int rfl)) (congrArg D.b (beq_dec _ _)))
    (JE.of (je_eqI (je_ixL (i := 0) (ds := [.i (root S.par e.2.2 : Int), .i (root S.par g.2.2 : Int)]) (je_var 4 rfl q2) je_int rfl) (je_ixL (i := 1) (ds := [.i (root S.par e.2.2 : Int), .i (root S.par g.2.2 : Int)]) (je_var 4 rfl q2) je_int rfl)) (congrArg D.b (beq_dec _ _)))) (fun hk H3 s3 => ?_) (fun hk H3 s3 => ws_nil ?_)
  · have hk := of_decide_eq_true hk
    refine ws_ret je_bl fun v H4 s4 r4 => k v _ S H4 (.inl ⟨rfl, rfl, ?_⟩) (same_keepL ((s12.trans s3).trans s4) _) (F.mono ((s12.trans s3).trans s4)) r4
    unfold fold2
    rw [if_pos hk]
  · have hk := of_decide_eq_false hk
    have s13 := s12.trans s3
    have q1 := q1.mono s3
    by_cases hst : root S.par e.1 = root S.par g.1
    · have hf : fold2 S e g = some (mergeS S e.2.2 g.2.2 (chain S.par S.lnk e.1 ++ opp (chain S.par S.lnk g.1))) := by unfold fold2; rw [if_neg hk, if_pos hst]
      have hc1 := hS.chain_len _ _ (Nat.le_refl _) he1
      have hc2 := hS.chain_len _ _ (Nat.le_refl _) hg1
      have ho1 : (opp (chain S.par S.lnk g.1)).length = (chain S.par S.lnk g.1).length := ginv_len _
      refine ws_set 5 sc_f2.nd (d := .i 0) (je_if (k := true) (JT.of (jt_eqI (je_ixL (i := 0) (ds := [.i (root S.par e.1 : Int), .i (root S.par g.1 : Int)]) (je_var 3 rfl q1) je_int rfl) (je_ixL (i := 1) (ds := [.i (root S.par e.1 : Int), .i (root S.par g.1 : Int)]) (je_var 3 rfl q1) je_int rfl)) (by rw [hst]; simp)) (fun _ => je_int) (fun z => by cases z)) fun vn H4 s4 r4 => ?_
      have s14 := s13.trans s4
      refine ws_setF 6 sc_f2.nd (jf_cat (JF.je (jf_chain T hr (by decide) (F.mono s14) hS he1 (by omega) (jv_var 0) (je_ed0 (je_var 1 rfl (ra.mono s14)) (je_var 5 rfl r4)))) (JF.je (jf_opp T hr (by decide) (JF.je (jf_chain T hr (by decide) (F.mono s14) hS hg1 (by omega) (jv_var 0) (je_ed0 (je_var 2 rfl (rb.mono s14)) (je_var 5 rfl r4)))) (by omega))) (by rw [facs_len, facs_len]; omega)) fun p5 us5 H5 hp5 s5 h5 r5 => ?_
      rw [facs_app] at r5
      have s15 := s14.trans s5
      refine ws_exprE (we_meth (e.2.2, g.2.2, chain S.par S.lnk e.1 ++ opp (chain S.par S.lnk g.1)) T.cl T.Fmerge.m (ok_merge T) T.Fmerge.b (hr.mono (by decide)) (jv_var 0) (F.mono s15) (ja_cons (je_ed2 (je_var 1 rfl (ra.mono s15)) (JE.of (je_subI je_int (je_var 5 rfl (r4.mono s5))) rfl)) (ja_cons (je_ed2 (je_var 2 rfl (rb.mono s15)) (JE.of (je_subI je_int (je_var 5 rfl (r4.mono s5))) rfl)) (ja_cons (je_var 6 rfl ⟨p5, us5, rfl, h5, r5⟩) ja_nil)))
        ⟨hS, he2, hg2, hz, hp.wl, by simp only [List.length_append]; omega, hp.sl⟩ (fun v d S' H' hφ hK hF _ => ws_ret je_bl fun v6 H6 s6 r6 => k v6 _ S' H6 (.inr ⟨rfl, ?_⟩) (((same_keepL s15 _).trans hK).trans (same_keepL s6 _)) (hF.mono s6) r6))
      rw [hφ.2]
      exact hf
    · have hf : fold2 S e g = some (mergeS S e.1 g.1 (chain S.par S.lnk e.2.2 ++ opp (chain S.par S.lnk g.2.2))) := by unfold fold2; rw [if_neg hk, if_neg hst]
      have hc1 := hS.chain_len _ _ (Nat.le_refl _) he2
      have hc2 := hS.chain_len _ _ (Nat.le_refl _) hg2
      have ho1 : (opp (chain S.par S.lnk g.2.2)).length = (chain S.par S.lnk g.2.2).length := ginv_len _
      refine ws_set 5 sc_f2.nd (d := .i 2) (je_if (k := false) (JT.of (jt_eqI (je_ixL (i := 0) (ds := [.i (root S.par e.1 : Int), .i (root S.par g.1 : Int)]) (je_var 3 rfl q1) je_int rfl) (je_ixL (i := 1) (ds := [.i (root S.par e.1 : Int), .i (root S.par g.1 : Int)]) (je_var 3 rfl q1) je_int rfl)) (by rw [dec_nat, decide_eq_false hst])) (fun z => by cases z) (fun _ => je_int)) fun vn H4 s4 r4 => ?_
      have s14 := s13.trans s4
      refine ws_setF 6 sc_f2.nd (jf_cat (JF.je (jf_chain T hr (by decide) (F.mono s14) hS he2 (by omega) (jv_var 0) (je_ed2 (je_var 1 rfl (ra.mono s14)) (je_var 5 rfl r4)))) (JF.je (jf_opp T hr (by decide) (JF.je (jf_chain T hr (by decide) (F.mono s14) hS hg2 (by omega) (jv_var 0) (je_ed2 (je_var 2 rfl (rb.mono s14)) (je_var 5 rfl r4)))) (by omega))) (by rw [facs_len, facs_len]; omega)) fun p5 us5 H5 hp5 s5 h5 r5 => ?_
      rw [facs_app] at r5
      have s15 := s14.trans s5
      refine ws_exprE (we_meth (e.1, g.1, chain S.par S.lnk e.2.2 ++ opp (chain S.par S.lnk g.2.2)) T.cl T.Fmerge.m (ok_merge T) T.Fmerge.b (hr.mono (by decide)) (jv_var 0) (F.mono s15) (ja_cons (je_ed0 (je_var 1 rfl (ra.mono s15)) (JE.of (je_subI je_int (je_var 5 rfl (r4.mono s5))) rfl)) (ja_cons (je_ed0 (je_var 2 rfl (rb.mono s15)) (JE.of (je_subI je_int (je_var 5 rfl (r4.mono s5))) rfl)) (ja_cons (je_var 6 rfl ⟨p5, us5, rfl, h5, r5⟩) ja_nil)))
        ⟨hS, he1, hg1, hz, hp.wl, by simp only [List.length_append]; omega, hp.sl⟩ (fun v d S' H' hφ hK hF _ => ws_ret je_bl fun v6 H6 s6 r6 => k v6 _ S' H6 (.inr ⟨rfl, ?_⟩) (((same_keepL s15 _).trans hK).trans (same_keepL s6 _)) (hF.mono s6) r6))
      rw [hφ.2]
      exact hf
end
end FW
/-! loops over enumerate -/
namespace FW
open PySem L2
section
variable {X : Cx} {e : Expr} {rest body : List Stmt} {σ : L2.St} {H : Hp} {pos p p2 p5 : Pos} {kk : Nat} {Ds : Ends} {elts : List Expr} {a b : Nat}
theorem gEnum {K : PySem.W.Frag} {a b : Nat} {T : Addr} {i : Int} {v : V} {Q : L2.St → Hp → Prop} (h : Q ((σ.set a (some (.int i))).set b (some v)) (upd H T (.tup [.int i, v]))) : gTup K 2 (gCons (gName a) (gCons (gName b) gNil)) (.ref T) σ (upd H T (.tup [.int i, v])) Q :=
  ⟨T, _, rfl, SqT.of upd_same, rfl, _, _, rfl, _, _, rfl, rfl, h⟩
/-- for a, b in enumerate(a list that stands) -/
theorem ws_enumK {q : Addr} {ws : List V} (hm : X.mg "enumerate" = none) (hpg : PG X (.Tuple elts kk p5) (gTup X.K 2 (gCons (gName a) (gCons (gName b) gNil)))) (ho : JV X e σ H (.ref q)) (hq : H q = some (.lst ws)) (Pv : Nat → L2.St → Hp → Prop) (h0 : ∀ H1, Same H H1 → Pv 0 σ H1)
    (hl : ∀ i σ' H', Pv i σ' H' → H' q = some (.lst ws))
    (hs : ∀ i v σ' H' H'', ws[i]? = some v → Pv i σ' H' → Same H' H'' → wSs X body { Ds with nx := Pv (i + 1), ct := Pv (i + 1), bk := wSs X rest Ds } ((σ'.set a (some (.int (i : Nat)))).set b (some v)) H'') (hd : ∀ σ' H', Pv ws.length σ' H' → wSs X rest Ds σ' H')
    (hp : PassesOwn (model X.prog X.w) X.A X.env X.xe := by exact PassesOwn.never) (hc : X.calm = true := by rfl)
    (hg : Gl X "enumerate" := by rfl) (hs1 : starEach [e] X.env = [(false, eval e X.env)] := by rfl) (hs2 : starEach [e] X.env = (false, eval e X.env) :: starEach [] X.env := by rfl)
    (hf : ∀ x, foldedSetIterable (.Call (.Name "enumerate" p) [e] [] p2) X.env x = pure x := by intro _; rfl) : wSs X (.For (.Tuple elts kk p5) (.Call (.Name "enumerate" p) [e] [] p2) body [] pos :: rest) Ds σ H :=
  ws_for (pi_enum hg hm (pa_cons wE_ok pa_nil hs2) hs1) hpg (ho H (Same.refl _) _ fun H1 s1 => ⟨q, ws, rfl, SqL.of (s1 _ _ hq), by
    refine ⟨fun i m σ H => m = ws.length - i ∧ i ≤ ws.length ∧ Pv i σ H, ⟨ws.length, by simp, Nat.zero_le _, h0 H1 s1⟩, ?_⟩
    rintro i m σ' H' ⟨rfl, hi, pv⟩
    have hq' := hl i σ' H' pv
    by_cases hlt : i < ws.length
    · refine .inr ⟨⟨ws, ws[i], SqL.of hq', List.getElem?_eq_getElem hlt⟩, Pv (i + 1), fun σ2 H2 p' => ⟨ws.length - (i + 1), by omega, rfl, hlt, p'⟩, fun x H2 y => ?_⟩
      obtain ⟨T, v, rfl, hT, rfl, hv⟩ := y
      exact gEnum (hs i v σ' H' _ (hv ws (SqL.of hq')) pv (same_new hT))
    · obtain rfl : i = ws.length := by omega
      exact .inl ⟨⟨ws, SqL.of hq', Nat.le_refl _⟩, hd σ' H' pv⟩⟩) hp hc hf
/-- .. a tuple that stands -/
theorem ws_enumT {q : Addr} {ws : List V} (hm : X.mg "enumerate" = none) (hpg : PG X (.Tuple elts kk p5) (gTup X.K 2 (gCons (gName a) (gCons (gName b) gNil)))) (ho : JV X e σ H (.ref q)) (hq : H q = some (.tup ws)) (Pv : Nat → L2.St → Hp → Prop) (h0 : ∀ H1, Same H H1 → Pv 0 σ H1)
    (hl : ∀ i σ' H', Pv i σ' H' → H' q = some (.tup ws))
    (hs : ∀ i v σ' H' H'', ws[i]? = some v → Pv i σ' H' → Same H' H'' → wSs X body { Ds with nx := Pv (i + 1), ct := Pv (i + 1), bk := wSs X rest Ds } ((σ'.set a (some (.int (i : Nat)))).set b (some v)) H'') (hd : ∀ σ' H', Pv ws.length σ' H' → wSs X rest Ds σ' H')
    (hp : PassesOwn (model X.prog X.w) X.A X.env X.xe := by exact PassesOwn.never) (hc : X.calm = true := by rfl)
    (hg : Gl X "enumerate" := by rfl) (hs1 : starEach [e] X.env = [(false, eval e X.env)] := by rfl) (hs2 : starEach [e] X.env = (false, eval e X.env) :: starEach [] X.env := by rfl)
    (hf : ∀ x, foldedSetIterable (.Call (.Name "enumerate" p) [e] [] p2) X.env x = pure x := by intro _; rfl) : wSs X (.For (.Tuple elts kk p5) (.Call (.Name "enumerate" p) [e] [] p2) body [] pos :: rest) Ds σ H :=
  ws_for (pi_enumT hg hm (pa_cons wE_ok pa_nil hs2) hs1) hpg (ho H (Same.refl _) _ fun H1 s1 => ⟨q, ws, rfl, s1 _ _ hq, for_enumT Pv (h0 H1 s1) (fun i σ' H' _ p => hl i σ' H' p) (fun i x T σ' H' hx p hT => gEnum (hs i x σ' H' _ hx p (same_new hT))) hd⟩) hp hc hf
/-- .. a word -/
theorem ws_enumW {w : Wd} (hm : X.mg "enumerate" = none) (hpg : PG X (.Tuple elts kk p5) (gTup X.K 2 (gCons (gName a) (gCons (gName b) gNil)))) (he : JE X e σ H (wD w)) (Pv : Nat → L2.St → Hp → Prop) (h0 : ∀ H1, Same H H1 → Pv 0 σ H1)
    (hs : ∀ i x σ' H' H'', w[i]? = some x → w.take (i + 1) = w.take i ++ [x] → Pv i σ' H' → Same H' H'' → wSs X body { Ds with nx := Pv (i + 1), ct := Pv (i + 1), bk := wSs X rest Ds } ((σ'.set a (some (.int (i : Nat)))).set b (some (.str (enc [x])))) H'') (hd : ∀ σ' H', Pv w.length σ' H' → wSs X rest Ds σ' H')
    (hp : PassesOwn (model X.prog X.w) X.A X.env X.xe := by exact PassesOwn.never) (hc : X.calm = true := by rfl)
    (hg : Gl X "enumerate" := by rfl) (hs1 : starEach [e] X.env = [(false, eval e X.env)] := by rfl) (hs2 : starEach [e] X.env = (false, eval e X.env) :: starEach [] X.env := by rfl)
    (hf : ∀ x, foldedSetIterable (.Call (.Name "enumerate" p) [e] [] p2) X.env x = pure x := by intro _; rfl) : wSs X (.For (.Tuple elts kk p5) (.Call (.Name "enumerate" p) [e] [] p2) body [] pos :: rest) Ds σ H :=
  ws_for (pi_enumS hg hm (pa_cons wE_ok pa_nil hs2) hs1) hpg (he.go fun v H1 s1 r1 => ⟨enc w, by rw [show v = .str (enc w) from r1], for_enumS Pv (h0 H1 s1) (fun i c T σ' H' hc p hT => by
    obtain ⟨x, h1, h2, h3⟩ := enc_at hc
    rw [h2]
    exact gEnum (hs i x σ' H' _ h1 h3 p (same_new hT))) (fun σ' H' p => hd σ' H' (by rw [enc_size] at p; exact p))⟩) hp hc hf
end
end FW
/-! add_petal -/
namespace FW
open PySem L2
section
variable {P : Program} {w : World} {K : PySem.W.Frag} {mg : Str → Option Value} {base : Heap}
def ar_pet (b : Wd) : List D := [wD b]
structure PetPre (S : FS) (b : Wd) : Prop where
  n1 : S.pre.length ≤ 1000
  n2 : S.par.length ≤ 1000
  n3 : S.lnk.length ≤ 1000
  n4 : S.edges.length ≤ 1000
  len : b.length ≤ 1000
def fi_pet (S : FS) (b : Wd) (d : D) (S' : FS) : Prop := d = .i ((petalGo S 0 [] b).2 : Int) ∧ S' = (petalGo S 0 [] b).1
abbrev s_pet : Stmt := inClass (topS 32) 1
theorem sc_pet : FnScope ["self", "word", "here", "at", "letter", "point", "small"] ["self", "word"] (defScope s_pet) := ⟨rfl, rfl, rfl, by decide +kernel, rfl, by decide +kernel, by decide +kernel⟩
theorem small_iff (x : L) : decide (enc [x] = enc [(x.1, false)]) = !x.2 := by
  rw [enc_dec]
  obtain ⟨k, c⟩ := x
  cases c <;> simp
theorem wDrp {H : Hp} (u : Wd) : Rp H (wD u) (.str (enc u)) := rfl
theorem intRp {H : Hp} (n : Nat) : Rp H (.i (n : Int)) (.int (n : Int)) := rfl
theorem petal_step (S : FS) (here : Nat) {b : Wd} {i : Nat} {x : L} (hx : b[i]? = some x) : petalGo S here (b.take i) (b.drop i) = petalGo (petal1 S here (b.take (i + 1)) x) S.pre.length (b.take (i + 1)) (b.drop (i + 1)) := by
  obtain ⟨hl, e⟩ := List.getElem?_eq_some_iff.mp hx
  rw [List.drop_eq_getElem_cons hl, e, take_snoc hx] <;> rfl
theorem ok_pet (T : Txt K mg) : FnOk P w K mg base CX0 1 T.Fadd_petal.f T.Fadd_petal.fd ["self", "word"] (spW T.C Adr.grow ar_pet PetPre fi_pet) := by
  refine T.Fadd_petal.F.ok sc_pet (fun vs H Q E h => spW_len (n := 1) (fun b => rfl) h) (fun cdv A0 outer s H vs Q E hr h => ?_)
  obtain ⟨f, A, S, ws, b, rfl, F, r, hp, k⟩ := h
  obtain ⟨va, rfl, ra⟩ := rps1 r
  have n1 := hp.n1
  have n2 := hp.n2
  have n3 := hp.n3
  have n4 := hp.n4
  have n5 := hp.len
  obtain rfl : va = .str (enc b) := ra
  refine ⟨_, wSs_ok, ?_⟩
  refine ws_set 2 sc_pet.nd (d := .i ((0 : Nat) : Int)) je_int fun v0 H1 s1 r1 => ?_
  obtain rfl : v0 = .int ((0 : Nat) : Int) := r1
  refine ws_enumW (w := b) (a := 3) (b := 4) T.b_enumerate (pg_tup rfl (pgs_cons (pg_name (i := 3) sc_pet.nd rfl (.inl rfl)) (pgs_cons (pg_name (i := 4) sc_pet.nd rfl (.inl rfl)) pgs_nil))) (je_var 1 rfl (wDrp b))
    (fun i σ' H' => ∃ (S1 : FS) (here : Nat) (x3 x4 x5 x6 : Option V), σ' = [some (.ref f), some (.str (enc b)), some (.int (here : Int)), x3, x4, x5, x6] ∧ KeepL A.grow H H' ∧ FoldAt T.C H' f A S1 ∧ petalGo S1 here (b.take i) (b.drop i) = petalGo S 0 [] b ∧ S1.pre.length = S.pre.length + i ∧ S1.par.length = S.par.length + i ∧ S1.lnk.length = S.lnk.length + i ∧ S1.edges.length = S.edges.length + i)
    (fun H2 s2 => ⟨S, 0, none, none, none, none, rfl, same_keepL (s1.trans s2) _, F.mono (s1.trans s2), rfl, rfl, rfl, rfl, rfl⟩) ?_ ?_
  · rintro i x σ' H2 H3 hx ht ⟨S1, here, x3, x4, x5, x6, rfl, k2, F2, hpet, l1, l2, l3, l4⟩ s3
    have hib : i < b.length := (List.getElem?_eq_some_iff.mp hx).1
    show wSs _ _ _ [some (.ref f), some (.str (enc b)), some (.int (here : Int)), some (.int (i : Nat)), some (.str (enc [x])), x5, x6] H3
    have F3 := F2.mono s3
    have k3 := k2.trans (same_keepL s3 _)
    -- point = len(self.prefixes)
    refine ws_set 5 sc_pet.nd (d := .i (S1.pre.length : Int)) (JE.of (je_lenL T.b_len ((jv_pp T F3 (jv_var 0)).je F3.pp.rp)) (by simp)) fun v4 H4 s4 r4 => ?_
    obtain rfl : v4 = .int (S1.pre.length : Int) := r4
    have F4 := F3.mono s4
    have k4 := k3.trans (same_keepL s4 _)
    obtain ⟨us, h4, r4⟩ := F4.pp
    refine ws_app (d := wD (b.take (i + 1))) (jv_pp T F4 (jv_var 0)) h4 (JE.of (je_toS (n := i + 1) (je_var (d := wD b) 1 rfl (wDrp b)) (je_addI (je_var (d := .i (i : Int)) 3 rfl (intRp i)) je_int) (by rw [enc_len]; omega) (by omega)) (congrArg D.s (enc_take b (i + 1)))) (by rw [r4.len]; simp; omega) fun v5 H5 s5 r5 => ?_
    have F6 : FoldAt T.C (upd H5 A.pp (.lst (us ++ [v5]))) f A { S1 with pre := S1.pre ++ [b.take (i + 1)] } := (F4.mono s5).updPp (by
      rw [List.map_append]
      exact Rps.app (r4.mono s5) (.cons r5 rfl))
    have k6 : KeepL A.grow H (upd H5 A.pp (.lst (us ++ [v5]))) := (k4.trans (same_keepL s5 _)).trans (keepL_upd (by simp [Adr.grow]))
    generalize upd H5 A.pp (.lst (us ++ [v5])) = H6 at F6 k6
    obtain ⟨us6, h6, r6⟩ := F6.pa
    refine ws_app (d := .n) (jv_pa T F6 (jv_var 0)) h6 je_non (by rw [r6.len]; simp; omega) fun v7 H7 s7 r7 => ?_
    have F8 : FoldAt T.C (upd H7 A.pa (.lst (us6 ++ [v7]))) f A { S1 with pre := S1.pre ++ [b.take (i + 1)], par := S1.par ++ [none] } := (F6.mono s7).updPa (par := S1.par ++ [none]) (by
      rw [List.map_append]
      exact Rps.app (r6.mono s7) (.cons r7 rfl))
    have k8 : KeepL A.grow H (upd H7 A.pa (.lst (us6 ++ [v7]))) := (k6.trans (same_keepL s7 _)).trans (keepL_upd (by simp [Adr.grow]))
    generalize upd H7 A.pa (.lst (us6 ++ [v7])) = H8 at F8 k8
    obtain ⟨us8, h8, r8⟩ := F8.pl
    refine ws_app (d := .n) (jv_pl T F8 (jv_var 0)) h8 je_non (by rw [r8.len]; simp; omega) fun v9 H9 s9 r9 => ?_
    have F10 : FoldAt T.C (upd H9 A.pl (.lst (us8 ++ [v9]))) f A { S1 with pre := S1.pre ++ [b.take (i + 1)], par := S1.par ++ [none], lnk := S1.lnk ++ [none] } := (F8.mono s9).updPl (lnk := S1.lnk ++ [none]) (by
      rw [List.map_append]
      exact Rps.app (r8.mono s9) (.cons r9 rfl))
    have k10 : KeepL A.grow H (upd H9 A.pl (.lst (us8 ++ [v9]))) := (k8.trans (same_keepL s9 _)).trans (keepL_upd (by simp [Adr.grow]))
    generalize upd H9 A.pl (.lst (us8 ++ [v9])) = H10 at F10 k10
    -- small
    refine ws_set 6 sc_pet.nd (d := wD [(x.1, false)]) (JE.of (je_lower (je_var (d := wD [x]) 4 rfl (wDrp [x])) (one_len x)) (congrArg D.s (low_enc x))) fun v11 H11 s11 r11 => ?_
    obtain rfl : v11 = .str (enc [(x.1, false)]) := r11
    have F11 := F10.mono s11
    have k11 := k10.trans (same_keepL s11 _)
    obtain ⟨us11, h11, r11⟩ := F11.pe
    refine ws_app (d := edD (edgeOf here x S1.pre.length)) (jv_pe T F11 (jv_var 0)) h11 (je_if (k := !x.2) (JT.of (jt_eqS (x := enc [x]) (y := enc [(x.1, false)]) (je_var 4 rfl rfl) (je_var 6 rfl rfl)) (small_iff x)) (fun hk => ?_) (fun hk => ?_)) (by rw [r11.len]; simp; omega) fun v12 H12 s12 r12 => ?_
    · have hk : x.2 = false := by simpa using hk
      unfold edgeOf
      rw [if_neg (by simp [hk])]
      exact je_tup (ja_cons (je_var (d := .i (here : Int)) 2 rfl rfl) (ja_cons (je_var (d := wD [(x.1, false)]) 6 rfl rfl) (ja_cons (je_var (d := .i (S1.pre.length : Int)) 5 rfl rfl) ja_nil))) (by show 3 ≤ 100000; decide)
    · have hk : x.2 = true := by simpa using hk
      unfold edgeOf
      rw [if_pos hk]
      exact je_tup (ja_cons (je_var (d := .i (S1.pre.length : Int)) 5 rfl rfl) (ja_cons (je_var (d := wD [(x.1, false)]) 6 rfl rfl) (ja_cons (je_var (d := .i (here : Int)) 2 rfl rfl) ja_nil))) (by show 3 ≤ 100000; decide)
    · have F13 : FoldAt T.C (upd H12 A.pe (.lst (us11 ++ [v12]))) f A (petal1 S1 here (b.take (i + 1)) x) := (F11.mono s12).updPe (es := S1.edges ++ [edgeOf here x S1.pre.length]) (by
        rw [List.map_append]
        exact Rps.app (r11.mono s12) (.cons r12 rfl))
      have k13 : KeepL A.grow H (upd H12 A.pe (.lst (us11 ++ [v12]))) := (k11.trans (same_keepL s12 _)).trans (keepL_upd (by simp [Adr.grow]))
      generalize upd H12 A.pe (.lst (us11 ++ [v12])) = H13 at F13 k13
      refine ws_set 2 sc_pet.nd (d := .i (S1.pre.length : Int)) (je_var 5 rfl (intRp _)) fun v14 H14 s14 r14 => ws_nil ?_
      obtain rfl : v14 = .int (S1.pre.length : Int) := r14
      refine ⟨petal1 S1 here (b.take (i + 1)) x, S1.pre.length, _, _, _, _, rfl, k13.trans (same_keepL s14 _), F13.mono s14, ?_, ?_, ?_, ?_, ?_⟩
      · rw [← hpet, petal_step S1 here hx]
      · simp [petal1]; omega
      · simp [petal1]; omega
      · simp [petal1]; omega
      · simp [petal1]; omega
  · rintro σ' H2 ⟨S1, here, x3, x4, x5, x6, rfl, k2, F2, hpet, l1, l2, l3, l4⟩
    have e : petalGo S1 here (b.take b.length) (b.drop b.length) = (S1, here) := by rw [List.drop_length] <;> rfl
    rw [e] at hpet
    refine ws_ret (d := .i (here : Int)) (je_var 2 rfl (intRp here)) fun v3 H3 s3 r3 => k v3 _ S1 H3 ⟨?_, ?_⟩ (k2.trans (same_keepL s3 _)) (F2.mono s3) r3
    · rw [← hpet]
    · rw [← hpet]
end
end FW
/-! fold_all -/
namespace FW
open PySem L2
section
variable {X : Cx} {e tg a b : Expr} {rest body : List Stmt} {σ : L2.St} {H : Hp} {pos : Pos} {Ds : Ends} {g : TG} {ds : List D}
theorem wt_and2 {c : Bool} {Q : Bool → Hp → Prop} (h1 : JT X a σ H c) (h2 : c = true → ∀ H1, Same H H1 → wT X b σ H1 Q) (h3 : c = false → ∀ H1, Same H H1 → Q false H1) : wT X (.BoolOp .And [a, b] pos) σ H Q :=
  ⟨_, (pw_and wT_ok (pw_and1 wT_ok)).pt, h1 H (Same.refl _) _ fun H2 s2 => by
    cases c with
    | true => exact h2 rfl H2 s2
    | false => exact h3 rfl H2 s2⟩
theorem wt_val {Q : Bool → Hp → Prop} (h : wE X e σ H fun v H2 => ∃ c, v = .bl c ∧ Q c H2) (he : ∀ whole, isTrue e X.env whole = (do let v ← whole; standAt e.pos; holding [v] (truthy v)) := by intro _; rfl) : wT X e σ H Q := ⟨_, pt_val wE_ok he, h⟩
theorem ws_forF (he : JF X e σ H ds) (hg : PG X tg g) (k : ∀ q ws H1, H q = none → Same H H1 → H1 q = some (.lst ws) → Rps H1 ds ws → ∃ Pv : Nat → L2.St → Hp → Prop, Pv 0 σ H1 ∧ (∀ i σ' H', Pv i σ' H' → H' q = some (.lst ws)) ∧
    (∀ i v σ' H', ws[i]? = some v → Pv i σ' H' → g v σ' H' fun σ2 H2 => wSs X body { Ds with nx := Pv (i + 1), ct := Pv (i + 1), bk := wSs X rest Ds } σ2 H2) ∧ ∀ σ' H', Pv ws.length σ' H' → wSs X rest Ds σ' H')
    (hp : PassesOwn (model X.prog X.w) X.A X.env X.xe := by exact PassesOwn.never) (hc : X.calm = true := by rfl) (hf : ∀ x, foldedSetIterable e X.env x = pure x := by intro _; rfl) : wSs X (.For tg e body [] pos :: rest) Ds σ H :=
  ws_for (pi_list wE_ok) hg (he.go fun q ws H1 hq s1 h1 r1 => by
    obtain ⟨Pv, h0, hl, hs, hd⟩ := k q ws H1 hq s1 h1 r1
    exact ⟨q, rfl, ⟨ws, SqL.of h1⟩, for_it (walk_list (xs := ws)) Pv h0 (fun i σ' H' _ p => SqL.of (hl i σ' H' p)) (fun i v2 σ' H' H'' hi p y => by
      obtain ⟨rfl, hv⟩ := y
      exact hs i v2 σ' _ hv p) fun σ' H' p => hd σ' H' p⟩) hp hc hf
end
section
variable {P : Program} {w : World} {K : PySem.W.Frag} {mg : Str → Option Value} {base : Heap}
abbrev AllB := Nat × List Wd
structure AllPre (S : FS) (b : AllB) : Prop where
  wf : WF b.1 b.2 S
  size : S.pre.length ≤ 200
structure AllPost (S : FS) (b : AllB) (d : D) (S' : FS) : Prop where
  non : d = .n
  wf : WF b.1 b.2 S'
  crs : Crs S S'
  stable : Stable S'
def POk (S : FS) (a b : Nat) : Prop := ∀ e g, S.edges[a]? = some e → S.edges[b]? = some g → e.2.1 = g.2.1 → fold2 S e g = none
theorem stable_of {S : FS} (h : ∀ a b, a < S.edges.length → a < b → POk S a b) : Stable S := by
  unfold Stable
  rw [List.pairwise_iff_getElem]
  intro i j hi hj hij hk
  exact h i j hi hij _ _ (List.getElem?_eq_getElem hi) (List.getElem?_eq_getElem hj) hk
theorem WF.f2pre {r : Nat} {gs : List Wd} {S : FS} (h : WF r gs S) (hz : S.pre.length ≤ 200) {e g : Ed} (he : e ∈ S.edges) (hg : g ∈ S.edges) : F2Pre S (e, g) := by
  obtain ⟨a, k, b⟩ := e
  obtain ⟨c, l, d⟩ := g
  obtain ⟨h1, h2, _⟩ := h.edge a k b he
  obtain ⟨h3, h4, _⟩ := h.edge c l d hg
  have h5 := h.count
  have h6 := bound_le S.par
  have h7 := h.plen
  exact ⟨h.sane, h1, h2, h3, h4, by omega, fun n => (h.inr n).2, by omega⟩
theorem lab_iff (k l : Fin 3) : decide (enc [(k, false)] = enc [(l, false)]) = decide (k = l) := by
  rw [enc_dec]
  by_cases q : k = l <;> simp [q]
theorem pe_nmut {C : Addr} {H : Hp} {f : Addr} {A : Adr} {S : FS} (h : FoldAt C H f A S) : A.pe ∉ A.mut := by
  obtain ⟨a, b, c, d, e, g, i, j, k, l⟩ := h.ne
  simp [Adr.mut, e, g, i]
abbrev s_all : Stmt := inClass (topS 32) 7
theorem sc_all : FnScope ["self", "changed", "at", "first", "second"] ["self"] (defScope s_all) := ⟨rfl, rfl, rfl, by decide +kernel, rfl, by decide +kernel, by decide +kernel⟩
theorem ok_all (T : Txt K mg) : FnOk P w K mg base CX0 6 T.Ffold_all.f T.Ffold_all.fd ["self"] (spW T.C Adr.mut (fun _ : AllB => []) AllPre AllPost) := by
  refine T.Ffold_all.F.ok sc_all (fun vs H Q E h => spW_len (n := 0) (fun b => rfl) h) (fun cdv A0 outer s H vs Q E hr h => ?_)
  obtain ⟨f, A, S, ws, ⟨r, gs⟩, rfl, F, rr, ⟨hW, hz⟩, k⟩ := h
  obtain rfl : ws = [] := rr
  have hW : WF r gs S := hW
  have hpe := pe_nmut F
  refine ⟨_, wSs_ok, ?_⟩
  refine ws_set 1 sc_all.nd (d := .b true) je_bl fun v0 H0 s0 r0 => ?_
  obtain rfl : v0 = .bl true := r0
  refine ws_while (fun m σ' H' => ∃ (S1 : FS) (c : Bool) (x2 x3 x4 : Option V), σ' = [some (.ref f), some (.bl c), x2, x3, x4] ∧ KeepL A.mut H H' ∧ FoldAt T.C H' f A S1 ∧ WF r gs S1 ∧ Crs S S1 ∧ (c = false → Stable S1) ∧ m = 2 * (S.pre.length - bound S1.par) + (if c then 1 else 0)) _ ⟨S, true, none, none, none, rfl, same_keepL s0 _, F.mono s0, hW, Crs.refl S, (fun z => by cases z), rfl⟩ ?_
  rintro m σ' H1 ⟨S1, c, x2, x3, x4, rfl, k1, F1, hW1, hC1, hst, rfl⟩
  refine ⟨c, JE.test (je_var 1 rfl rfl), fun hc H2 s2 => ?_, fun hc H2 s2 => ws_nil (k .non .n S1 H2 ⟨rfl, hW1, hC1, hst hc⟩ (k1.trans (same_keepL s2 _)) (F1.mono s2) rfl)⟩
  subst hc
  have hl1 : S1.pre.length = S.pre.length := by rw [hC1.pre]
  refine ws_set 1 sc_all.nd (d := .b false) je_bl fun v3 H3 s3 r3 => ?_
  obtain rfl : v3 = .bl false := r3
  have s23 := s2.trans s3
  have F3 := F1.mono s23
  have k3 : KeepL A.mut H H3 := k1.trans (same_keepL s23 _)
  obtain ⟨es, hes, res⟩ := F3.pe
  have hel : es.length = S1.edges.length := by rw [res.len]; simp
  refine ws_enumK (a := 2) (b := 3) (ws := es) T.b_enumerate (pg_tup rfl (pgs_cons (pg_name (i := 2) sc_all.nd rfl (.inl rfl)) (pgs_cons (pg_name (i := 3) sc_all.nd rfl (.inl rfl)) pgs_nil))) (jv_pe T F3 (jv_var 0)) hes
    (fun i σ' H' => ∃ (S2 : FS) (c : Bool) (x2 x3 x4 : Option V), σ' = [some (.ref f), some (.bl c), x2, x3, x4] ∧ KeepL A.mut H3 H' ∧ FoldAt T.C H' f A S2 ∧ WF r gs S2 ∧ Crs S1 S2 ∧ ((c = false ∧ S2 = S1 ∧ ∀ a b, a < i → a < b → POk S1 a b) ∨ (c = true ∧ bound S1.par < bound S2.par)))
    (fun H4 s4 => ⟨S1, false, _, _, _, rfl, same_keepL s4 _, F3.mono s4, hW1, Crs.refl S1, .inl ⟨rfl, rfl, fun a b h => absurd h (Nat.not_lt_zero a)⟩⟩) (fun i σ' H' ⟨S2, c, _, _, _, _, kk, _⟩ => kk _ _ hpe hes) ?_ ?_
  · rintro i v σ' H4 H5 hv ⟨S2, c, y2, y3, y4, rfl, k4, F4, hW2, hC2, alt⟩ s5
    show wSs _ _ _ [some (.ref f), some (.bl c), some (.int (i : Nat)), some v, y4] H5
    have F5 := F4.mono s5
    have k5 := k4.trans (same_keepL s5 _)
    have t5 : KeepT H3 H5 := F3.keepT (k5.wide mut_all)
    obtain ⟨d, hd, rd⟩ := res.back hv
    obtain ⟨e, he, rfl⟩ := map_at hd
    have rd5 : Rp H5 (edD e) v := rd.imm t5 rfl
    have he2 : S2.edges = S1.edges := hC2.edges
    have hl2 : S2.pre.length = S.pre.length := by rw [hC2.pre, hl1]
    refine ws_forF (ds := (S1.edges.map edD).drop (i + 1)) (jf_fromL (JE.of ((jv_pe T F5 (jv_var 0)).je F5.pe.rp) (by rw [he2])) (je_addI (je_var (d := .i (i : Int)) 2 rfl rfl) je_int) (by omega)) (pg_name (i := 4) sc_all.nd rfl (.inl rfl)) fun q us H6 hq s6 h6 r6 => ?_
    have hqn : q ∉ A.mut := fun z => F5.fresh hq (mut_all _ z)
    have F6 := F5.mono s6
    have k6 := k5.trans (same_keepL s6 _)
    have rd6 := rd5.mono s6
    have hul : us.length = S1.edges.length - (i + 1) := by rw [r6.len]; simp
    refine ⟨fun j σ' H' => ∃ (S3 : FS) (c : Bool) (x4 : Option V), σ' = [some (.ref f), some (.bl c), some (.int (i : Nat)), some v, x4] ∧ KeepL A.mut H6 H' ∧ FoldAt T.C H' f A S3 ∧ WF r gs S3 ∧ Crs S1 S3 ∧ ((c = false ∧ S3 = S1 ∧ (∀ a b, a < i → a < b → POk S1 a b) ∧ ∀ b, b < j → POk S1 i (i + 1 + b)) ∨ (c = true ∧ bound S1.par < bound S3.par)),
      ⟨S2, c, y4, rfl, (same_keepL (Same.refl _) _), F6, hW2, hC2, alt.imp (fun ⟨h1, h2, h3⟩ => ⟨h1, h2, h3, fun b h => absurd h (Nat.not_lt_zero b)⟩) id⟩, fun j σ' H' ⟨_, _, _, _, kk, _⟩ => kk _ _ hqn h6, ?_, ?_⟩
    · rintro j v7 σ' H7 hv7 ⟨S3, c3, z4, rfl, k7, F7, hW3, hC3, alt3⟩
      show wSs _ _ _ [some (.ref f), some (.bl c3), some (.int (i : Nat)), some v, some v7] H7
      have t7 : KeepT H6 H7 := F6.keepT (k7.wide mut_all)
      obtain ⟨d, hd, rd7⟩ := r6.back hv7
      rw [← List.map_drop] at hd
      obtain ⟨g, hg, rfl⟩ := map_at hd
      rw [List.getElem?_drop] at hg
      have rg : Rp H7 (edD g) v7 := rd7.imm t7 rfl
      have re : Rp H7 (edD e) v := rd6.imm t7 rfl
      have he3 : S3.edges = S1.edges := hC3.edges
      have hl3 : S3.pre.length = S.pre.length := by rw [hC3.pre, hl1]
      have hem : e ∈ S3.edges := by rw [he3]; exact List.mem_of_getElem? he
      have hgm : g ∈ S3.edges := by rw [he3]; exact List.mem_of_getElem? hg
      refine ws_ifE (wt_and2 (c := decide (e.2.1 = g.2.1)) (JT.of (jt_eqS (je_ed1 (je_var 3 rfl re) je_int) (je_ed1 (je_var 4 rfl rg) je_int)) (lab_iff _ _)) (fun hk H8 s8 => wt_val (we_meth (e, g) T.cl T.Ffold_two.m (ok_f2 T) T.Ffold_two.b (hr.mono (by decide)) (jv_var 0) (F7.mono s8) (ja_cons (je_var 3 rfl (re.mono s8)) (ja_cons (je_var 4 rfl (rg.mono s8)) ja_nil)) (hW3.f2pre (by omega) hem hgm) (fun u d S4 H9 hφ k9 F9 r9 => ?_))) (fun hk H8 s8 => ?_))
      · have hk := of_decide_eq_true hk
        have k79 : KeepL A.mut H6 H9 := (k7.trans (same_keepL s8 _)).trans k9
        rcases hφ with ⟨rfl, rfl, hn⟩ | ⟨rfl, hs4⟩
        · refine ⟨false, r9, ?_⟩
          show wSs _ [] _ _ _
          refine ws_nil (ws_nil ⟨S4, c3, _, rfl, k79, F9, hW3, hC3, ?_⟩)
          rcases alt3 with ⟨h1, h2, h3, h4⟩ | h1
          · refine .inl ⟨h1, h2, h3, fun b hb => ?_⟩
            by_cases hbj : b < j
            · exact h4 b hbj
            · have hb2 : b = j := by omega
              subst hb2
              intro e1 g1 q1 q2 _
              rw [he] at q1
              rw [hg] at q2
              obtain rfl := Option.some.inj q1
              obtain rfl := Option.some.inj q2
              rw [← h2]
              exact hn
          · exact .inr h1
        · refine ⟨true, r9, ?_⟩
          obtain ⟨w1, w2, w3⟩ := hW3.fold2' hem hgm hk (by omega) hs4
          show wSs _ [_] _ _ _
          refine ws_set 1 sc_all.nd (d := .b true) je_bl fun v10 H10 s10 r10 => ws_nil (ws_nil ?_)
          obtain rfl : v10 = .bl true := r10
          refine ⟨S4, true, _, rfl, k79.trans (same_keepL s10 _), F9.mono s10, w1, hC3.trans w2, .inr ⟨rfl, ?_⟩⟩
          rcases alt3 with ⟨h1, h2, _⟩ | ⟨_, h1⟩
          · rw [w3, h2]; omega
          · rw [w3]; omega
      · have hk := of_decide_eq_false hk
        show wSs _ [] _ _ _
        refine ws_nil (ws_nil ⟨S3, c3, _, rfl, k7.trans (same_keepL s8 _), F7.mono s8, hW3, hC3, ?_⟩)
        rcases alt3 with ⟨h1, h2, h3, h4⟩ | h1
        · refine .inl ⟨h1, h2, h3, fun b hb => ?_⟩
          by_cases hbj : b < j
          · exact h4 b hbj
          · have hb2 : b = j := by omega
            subst hb2
            intro e1 g1 q1 q2 q3
            rw [he] at q1
            rw [hg] at q2
            obtain rfl := Option.some.inj q1
            obtain rfl := Option.some.inj q2
            exact absurd q3 hk
        · exact .inr h1
    · rintro σ' H7 ⟨S3, c3, z4, rfl, k7, F7, hW3, hC3, alt3⟩
      refine ws_nil ⟨S3, c3, _, _, _, rfl, k6.trans k7, F7, hW3, hC3, ?_⟩
      rcases alt3 with ⟨h1, h2, h3, h4⟩ | h1
      · refine .inl ⟨h1, h2, fun a b ha hab => ?_⟩
        by_cases hai : a < i
        · exact h3 a b hai hab
        · have hai : a = i := by omega
          subst hai
          by_cases hb : b < S1.edges.length
          · have := h4 (b - (a + 1)) (by omega)
            rw [show a + 1 + (b - (a + 1)) = b by omega] at this
            exact this
          · intro e1 g1 q1 q2 _
            rw [List.getElem?_eq_none (by omega)] at q2
            cases q2
      · exact .inr h1
  · rintro σ' H4 ⟨S2, c, y2, y3, y4, rfl, k4, F4, hW2, hC2, alt⟩
    have hb2 : bound S2.par ≤ S.pre.length := by
      have h1 := bound_le S2.par
      have h2 := hW2.plen
      rw [hC2.pre, hl1] at h2
      omega
    refine ws_nil ⟨_, ?_, S2, c, _, _, _, rfl, k3.trans k4, F4, hW2, hC1.trans hC2, fun hc => ?_, rfl⟩
    · rcases alt with ⟨rfl, rfl, _⟩ | ⟨rfl, h1⟩
      · simp
      · simp only [if_true]
        omega
    · rcases alt with ⟨_, rfl, h1⟩ | ⟨rfl, _⟩
      · refine stable_of fun a b ha hab => h1 a b (by omega) hab
      · cases hc
end
end FW
/-! __init__, Folding(..) -/
namespace FW
open PySem L2
theorem none_of {H H' : Hp} {x q : Addr} {o : HO} (k : KeepL [x] H H') (hx : H' x = some o) (hq : H' q = none) : H q = none := by
  cases e : H q with
  | none => rfl
  | some u =>
    by_cases qx : q = x
    · rw [qx, hx] at hq; cases hq
    · rw [k q u (by simpa using qx) e] at hq; cases hq
theorem keepT_ins {H : Hp} {a dx C : Addr} {fs : List (Str × V)} {o : HO} (h : H a = some (.ins C dx fs)) : KeepT H (upd H a o) := keepT_upd h (fun _ z => nomatch z) fun _ _ z => nomatch z
theorem LstAt.ins {H : Hp} {a dx C p : Addr} {fs : List (Str × V)} {o : HO} {ds : List D} (h : LstAt H p ds) (hi : H a = some (.ins C dx fs)) (i : imms ds = true) : LstAt (upd H a o) p ds :=
  h.keep (ls := [a]) (fun q => by
    have q : p = a := by simpa using q
    obtain ⟨vs, e, _⟩ := h
    rw [q, hi] at e
    cases e) (keepL_upd (by simp)) (keepT_ins hi) i
section
variable {X : Cx} {o value : Expr} {rest : List Stmt} {σ : L2.St} {H : Hp} {pos p2 : Pos} {Ds : Ends} {ds : List D} {a dx C : Addr} {fs : List (Str × V)} {f : Str}
theorem LstAt.ne {p q : Addr} {es : List D} (l : LstAt H p es) (hq : H q = none) : p ≠ q := fun e => by
  obtain ⟨vs, z, _⟩ := l
  rw [e, hq] at z
  cases z
/-- o.f = a new list -/
theorem ws_fld (ho : JV X o σ H (.ref a)) (hi : H a = some (.ins C dx fs)) (c : Cls X.K C) (n : NoAttr X.K C f) (hl : fs.length < 1000) (him : imms ds = true) (hv : JF X value σ H ds)
    (k : ∀ q H', H q = none → KeepL [a] H H' → KeepT H H' → H' a = some (.ins C dx (putF f (.ref q) fs)) → LstAt H' q ds → (∀ p es, LstAt H p es → imms es = true → LstAt H' p es) → wSs X rest Ds σ H')
    (hs : swapsWith value (some (.Attribute o f p2)) pos.line X.env = pure false := by rfl) : wSs X (.Assign [.Attribute o f p2] value pos :: rest) Ds σ H :=
  ws_cons (ps_fld wE_ok wE_ok hs) (hv.go fun q us H1 hq s1 h1 r1 => (ho.mono s1) H1 (Same.refl _) _ fun H2 s2 => by
    have hi2 := s2 _ _ (s1 _ _ hi)
    have s12 := s1.trans s2
    refine ⟨a, C, dx, fs, rfl, hi2, c, n, hl, k q _ hq ((same_keepL s12 _).trans (keepL_upd (by simp))) ((Same.keepT s12).trans (keepT_ins hi2)) upd_same (LstAt.ins ⟨us, s2 _ _ h1, r1.mono s2⟩ hi2 him) fun p es l i => LstAt.ins (l.mono s12) hi2 i⟩)
end
def spI (C : Addr) : Sp := fun vs H Q _ => ∃ f dx r gs wv, vs = [.ref f, wv] ∧ H f = some (.ins C dx []) ∧ Rp H (.t (gs.map wD)) wv ∧ FamOk r gs ∧
  ∀ H' A S, KeepL [f] H H' → FoldAt C H' f A S → Done r gs S → Q .non H'
section
variable {P : Program} {w : World} {K : PySem.W.Frag} {mg : Str → Option Value} {base : Heap}
abbrev s_ini : Stmt := inClass (topS 32) 0
theorem sc_ini : FnScope ["self", "words", "number", "word", "end"] ["self", "words"] (defScope s_ini) := ⟨rfl, rfl, rfl, by decide +kernel, rfl, by decide +kernel, by decide +kernel⟩
theorem ok_ini (T : Txt K mg) : FnOk P w K mg base CX0 7 T.Finit.f T.Finit.fd ["self", "words"] (spI T.C) := by
  refine T.Finit.F.ok sc_ini (fun vs H Q E h => ?_) (fun cdv A0 outer s H vs Q E hr h => ?_)
  · obtain ⟨f, dx, r, gs, wv, rfl, _⟩ := h
    rfl
  obtain ⟨f, dx, r, gs, wv, rfl, hi, rwv, hF, k⟩ := h
  obtain ⟨q, ws, rfl, hq, rq⟩ := rwv
  refine ⟨_, wSs_ok, ?_⟩
  have lw : ∀ {H' : Hp}, KeepT H H' → H' q = some (.tup ws) := fun t => t.1 _ _ hq
  refine ws_fld (ds := [wD []]) (jv_var 0) hi T.cl T.n_prefixes (by show 0 < 1000; decide) rfl (jf_lst (ja_cons (JE.of je_str (congrArg D.s enc_nil')) ja_nil)) fun p1 H1 z1 k1 t1 i1 l1 _ => ?_
  refine ws_fld (ds := []) (jv_var 0) i1 T.cl T.n_edges (by show 1 < 1000; decide) rfl (jf_lst ja_nil) fun p2 H2 y2 k2 t2 i2 l2 m2 => ?_
  have n12 := l1.ne y2
  have z2 := none_of k1 i1 y2
  have l1 := m2 _ _ l1 rfl
  have k2 := k1.trans k2
  have t2 := t1.trans t2
  refine ws_fld (ds := [.n]) (jv_var 0) i2 T.cl T.n_parents (by show 2 < 1000; decide) rfl (jf_lst (ja_cons je_non ja_nil)) fun p3 H3 y3 k3 t3 i3 l3 m3 => ?_
  have n13 := l1.ne y3
  have n23 := l2.ne y3
  have z3 := none_of k2 i2 y3
  have l1 := m3 _ _ l1 rfl
  have l2 := m3 _ _ l2 rfl
  have k3 := k2.trans k3
  have t3 := t2.trans t3
  refine ws_fld (ds := [.n]) (jv_var 0) i3 T.cl T.n_links (by show 3 < 1000; decide) rfl (jf_lst (ja_cons je_non ja_nil)) fun p4 H4 y4 k4 t4 i4 l4 m4 => ?_
  have n14 := l1.ne y4
  have n24 := l2.ne y4
  have n34 := l3.ne y4
  have z4 := none_of k3 i3 y4
  have l1 := m4 _ _ l1 rfl
  have l2 := m4 _ _ l2 rfl
  have l3 := m4 _ _ l3 rfl
  have k4 := k3.trans k4
  have t4 := t3.trans t4
  refine ws_fld (ds := []) (jv_var 0) i4 T.cl T.n_steps (by show 4 < 1000; decide) rfl (jf_lst ja_nil) fun p5 H5 y5 k5 t5 i5 l5 m5 => ?_
  have n15 := l1.ne y5
  have n25 := l2.ne y5
  have n35 := l3.ne y5
  have n45 := l4.ne y5
  have z5 := none_of k4 i4 y5
  have l1 := m5 _ _ l1 rfl
  have l2 := m5 _ _ l2 rfl
  have l3 := m5 _ _ l3 rfl
  have l4 := m5 _ _ l4 rfl
  have k5 := k4.trans k5
  have t5 := t4.trans t5
  have F5 : FoldAt T.C H5 f ⟨dx, p1, p2, p3, p4, p5⟩ S0 := ⟨i5, l1, l2, l3, l4, l5, by simp [n12, n13, n14, n15, n23, n24, n25, n34, n35, n45]⟩
  have zall : ∀ a, a ∈ (⟨dx, p1, p2, p3, p4, p5⟩ : Adr).all → H a = none := fun a ha => by
    have : a = p1 ∨ a = p2 ∨ a = p3 ∨ a = p4 ∨ a = p5 := by simpa [Adr.all] using ha
    rcases this with rfl | rfl | rfl | rfl | rfl
    · exact z1
    · exact z2
    · exact z3
    · exact z4
    · exact z5
  generalize (⟨dx, p1, p2, p3, p4, p5⟩ : Adr) = A at F5 zall
  have hq5 := lw t5
  have rq5 : Rps H5 (gs.map wD) ws := rq.imm t5 (imms_ws _)
  have hgl := hF.many
  refine ws_enumT (a := 2) (b := 3) (ws := ws) (q := q) T.b_enumerate (pg_tup rfl (pgs_cons (pg_name (i := 2) sc_ini.nd rfl (.inl rfl)) (pgs_cons (pg_name (i := 3) sc_ini.nd rfl (.inl rfl)) pgs_nil))) (jv_var 1) hq5
    (fun i σ' H' => ∃ (S1 : FS) (x2 x3 x4 : Option V), σ' = [some (.ref f), some (.ref q), x2, x3, x4] ∧ KeepL A.all H5 H' ∧ FoldAt T.C H' f A S1 ∧ WF r gs S1 ∧ (∀ u ∈ (gs.take i).map red, Wk (qE S1) 0 u 0) ∧ S1.pre.length ≤ 1 + 8 * i)
    (fun H6 s6 => ⟨S0, none, none, none, rfl, same_keepL s6 _, F5.mono s6, WF.init r gs, fun u hu => by simp at hu, by simp [S0]⟩) (fun i σ' H' ⟨_, _, _, _, _, kk, _⟩ => (F5.keepT kk).1 _ _ hq5) ?_ ?_
  · rintro i v σ' H6 H7 hv ⟨S1, x2, x3, x4, rfl, k6, F6, hW, hlo, hsz⟩ s7
    show wSs _ _ _ [some (.ref f), some (.ref q), some (.int (i : Nat)), some v, x4] H7
    obtain ⟨d, hd, rd⟩ := rq5.back hv
    obtain ⟨u, hu, rfl⟩ := map_at hd
    obtain rfl : v = .str (enc u) := rd
    have hum := List.mem_of_getElem? hu
    have hul := hF.len u hum
    have hil : i < gs.length := (List.getElem?_eq_some_iff.mp hu).1
    have F7 := F6.mono s7
    have k7 := k6.trans (same_keepL s7 _)
    have hrl : (red u).length ≤ u.length := red_len u
    obtain ⟨a1, a2, a3, a4, a5, a6⟩ := hW.add hu (hF.inr u hum) hul (by omega) _ hlo
    have e1 := hW.plen
    have e2 := hW.llen
    have e3 := hW.elen
    refine ws_setE 4 sc_ini.nd (we_meth (red u) T.cl T.Fadd_petal.m (ok_pet T) T.Fadd_petal.b (hr.mono (by decide)) (jv_var 0) F7 (ja_cons (je_callD T.reduce_of (ok_red T) (hr.mono (by decide)) (ja_cons (je_var 3 rfl (wDrp u)) ja_nil) ⟨u, rfl, by omega, rfl⟩) ja_nil) ⟨by omega, by omega, by omega, by omega, by omega⟩ (fun ve d S2 H8 hφ k8 F8 r8 => ?_))
    obtain ⟨rfl, rfl⟩ := hφ
    obtain rfl : ve = .int _ := r8
    have k8 := k7.trans (k8.wide grow_all)
    have e4 := a4.count
    have e5 := bound_le (petalGo S1 0 [] (red u)).1.par
    have e6 := a4.plen
    refine ws_exprE (we_meth ((petalGo S1 0 [] (red u)).2, 0, [(false, i, true)]) T.cl T.Fmerge.m (ok_merge T) T.Fmerge.b (hr.mono (by decide)) (jv_var 0) F8 (ja_cons (je_var 4 rfl (intRp _)) (ja_cons je_int (ja_cons (JF.je (jf_lst (ja_cons (je_fac (f := (false, i, true)) je_str (je_var (d := .i (i : Int)) 2 rfl (intRp i)) je_int rfl) ja_nil) (by show 1 ≤ 100000; decide))) ja_nil))) ⟨a4.sane, a5, a4.pos, by omega, fun n => (a4.inr n).2, by show 1 ≤ 10000; decide, by omega⟩ (fun v9 d S3 H9 hφ k9 F9 r9 => ws_nil ?_))
    obtain ⟨rfl, rfl⟩ := hφ
    refine ⟨_, _, _, _, rfl, k8.trans (k9.wide mut_all), F9, a1, fun x hx => ?_, ?_⟩
    · rw [take_snoc hu, List.map_append, List.mem_append] at hx
      rcases hx with hx | hx
      · exact a2 x (List.mem_cons_of_mem _ hx)
      · have : x = red u := by simpa using hx
        rw [this]
        exact a2 _ List.mem_cons_self
    · show (mergeS _ _ _ _).pre.length ≤ _
      rw [a3]
      omega
  · rintro σ' H6 ⟨S1, x2, x3, x4, rfl, k6, F6, hW, hlo, hsz⟩
    have hwl : ws.length = gs.length := by rw [rq.len]; simp
    rw [hwl] at hlo hsz
    rw [List.take_length] at hlo
    refine ws_exprE (we_meth0 (r, gs) rfl T.cl T.Ffold_all.m (ok_all T) T.Ffold_all.b (hr.mono (by decide)) (jv_var 0) F6 ⟨hW, by omega⟩ (fun v7 d S2 H7 hφ k7 F7 r7 => ws_nil (k H7 A S2 ?_ F7 ⟨hφ.wf, hφ.stable, fun g hg => hφ.crs.wk (hlo _ (List.mem_map_of_mem hg)), by rw [hφ.crs.pre]; omega⟩)))
    have k67 := k6.trans (k7.wide mut_all)
    intro a o hn e
    exact k67 a o (fun z => by rw [zall a z] at e; cases e) (k5 a o hn e)
section
variable {X : Cx} {e : Expr} {σ : L2.St} {H : Hp} {pos p : Pos} {k r : Nat} {gs : List Wd}
/-- Folding(words) -/
theorem we_make (T : Txt X.K X.mg) (hr : Room k X.A) (hk : 8 ≤ k) (hF : FamOk r gs) (he : JE X e σ H (.t (gs.map wD))) {Q : VK} (q : ∀ f A S H', Same H H' → FoldAt T.C H' f A S → Done r gs S → Q (.ref f) H')
    (hg : Gl X "Folding" := by rfl) (hst : starEach [e] X.env = (false, eval e X.env) :: starEach [] X.env := by rfl) (hpl : (backTo pos (starEach [] X.env)).any (·.1) = false := by rfl) : wE X (.Call (.Name "Folding" p) [e] [] pos) σ H Q :=
  ⟨_, pe_make T.mkC (ok_ini (base := X.base) (P := X.prog) (w := X.w) T) (hr.mono hk) hg T.mgC T.Finit.b .nil pass0 (pa_cons wE_ok pa_nil hst) (by decide) hst hpl,
    he H (Same.refl _) _ fun v H1 s1 r1 => fun x dx hx hdx hne => by
      have sx : Same H1 (upd (upd H1 dx (.own x)) x (.ins T.C dx [])) := (same_new hdx).trans (same_new (by rw [upd_ne (Ne.symm hne)]; exact hx))
      refine ⟨x, dx, r, gs, v, by rfl, upd_same, r1.mono sx, hF, fun H' A S kk F D => ⟨rfl, q x A S H' ?_ F D⟩⟩
      intro a o e
      have e1 := s1 a o e
      have hax : a ≠ x := fun z => by rw [z, hx] at e1; cases e1
      exact kk a o (by simpa using hax) (sx a o e1)⟩
end
end
end FW
/-! next_edge, traced -/
namespace FW
open PySem L2
section
variable {X : Cx} {e : Expr} {es : List Expr} {σ : L2.St} {H : Hp} {pos : Pos} {C f : Addr} {A : Adr} {S : FS} {d : D} {ds fs : List D}
/-- a def that is handed a Folding first -/
theorem je_callM {φ : FS → List D → D → Prop} {k : Nat} {g x q : Str} {st : Stmt} {ps : List Str} {p : Pos} (Dd : Df X.K X.mg g x q st ps) (G : FnOk X.prog X.w X.K X.mg X.base CX0 k Dd.f Dd.fd ps (spM C φ)) (hr : Room k X.A) (ho : JV X e σ H (.ref f)) (F : FoldAt C H f A S) (ha : JA X es σ H ds) (hφ : φ S ds d)
    (hg : Gl X g := by rfl) (hdb : (g == ("__debug__" : Str)) = false := by decide) (he : starEach (e :: es) X.env = (false, eval e X.env) :: starEach es X.env := by rfl) (hpl : (backTo pos (starEach es X.env)).any (·.1) = false := by rfl) :
    JE X (.Call (.Name g p) (e :: es) [] pos) σ H d :=
  je_by (pe_call G hr hg Dd.m Dd.F.kp Dd.b .nil pass0 (pa_cons wE_ok wA_ok he) hdb he hpl) fun H1 s1 Q q => ho H1 s1 _ fun H2 s2 => ha H2 (s1.trans s2) _ fun vs H3 s3 rs =>
    ⟨f, A, S, vs, ds, d, by rw [List.append_nil], F.mono ((s1.trans s2).trans s3), rs, hφ, fun v H4 s4 rv => q v H4 ((s2.trans s3).trans s4) rv⟩
end
section
variable {P : Program} {w : World} {K : PySem.W.Frag} {mg : Str → Option Value} {base : Heap}
def nfD : Option (Nat × Nat) → D
  | none => .n
  | some nf => .t [.i (nf.1 : Int), .i (nf.2 : Int)]
def InE (S : FS) : Prop := ∀ e ∈ S.edges, e.1 < S.pre.length ∧ e.2.2 < S.pre.length
theorem WF.inE {r : Nat} {gs : List Wd} {S : FS} (h : WF r gs S) : InE S := fun ⟨a, k, b⟩ he => let ⟨h1, h2, _⟩ := h.edge a k b he; ⟨h1, h2⟩
abbrev s_nxt : Stmt := topS 59
theorem sc_nxt : FnScope ["folding", "here", "letter", "small", "start", "label", "end", "near", "far"] ["folding", "here", "letter"] (defScope s_nxt) := ⟨rfl, rfl, rfl, by decide +kernel, rfl, by decide +kernel, by decide +kernel⟩
def fi_nxt (S : FS) (ds : List D) (d : D) : Prop := ∃ (here : Nat) (x : L), Sane S ∧ InE S ∧ ds = [.i (here : Int), wD [x]] ∧ d = nfD (nextGo S.par here x S.edges)
theorem ok_nxt (T : Txt K mg) : FnOk P w K mg base CX0 2 T.next_edge.f T.next_edge.fd ["folding", "here", "letter"] (spM T.C fi_nxt) := by
  refine T.next_edge.F.ok sc_nxt (fun vs H Q E h => spM_len (n := 2) (fun S ds d ⟨_, _, _, _, e, _⟩ => by rw [e] <;> rfl) h) (fun cdv A0 outer s H vs Q E hr h => ?_)
  obtain ⟨f, A, S, ws, ds, d, rfl, F, r, ⟨here, x, hS, hE, rfl, rfl⟩, k⟩ := h
  obtain ⟨va, vb, rfl, ra, rb⟩ := rps2 r
  obtain rfl : va = .int (here : Int) := ra
  obtain rfl : vb = .str (enc [x]) := rb
  refine ⟨_, wSs_ok, ?_⟩
  refine ws_set 3 sc_nxt.nd (d := wD [(x.1, false)]) (JE.of (je_lower (je_var (d := wD [x]) 2 rfl (wDrp [x])) (one_len x)) (congrArg D.s (low_enc x))) fun v1 H1 s1 r1 => ?_
  obtain rfl : v1 = .str (enc [(x.1, false)]) := r1
  have F1 := F.mono s1
  obtain ⟨es, hes, res⟩ := F1.pe
  refine ws_forK (ws := es) (jv_pe T F1 (jv_var 0)) hes (pg_tup rfl (pgs_cons (pg_name (i := 4) sc_nxt.nd rfl (.inl rfl)) (pgs_cons (pg_name (i := 5) sc_nxt.nd rfl (.inl rfl)) (pgs_cons (pg_name (i := 6) sc_nxt.nd rfl (.inl rfl)) pgs_nil))))
    (fun i σ' H' => ∃ (x4 x5 x6 x7 x8 : Option V), σ' = [some (.ref f), some (.int (here : Int)), some (.str (enc [x])), some (.str (enc [(x.1, false)])), x4, x5, x6, x7, x8] ∧ Same H1 H' ∧ nextGo S.par here x (S.edges.drop i) = nextGo S.par here x S.edges)
    (fun H2 s2 => ⟨none, none, none, none, none, rfl, s2, rfl⟩) (fun i σ' H' ⟨_, _, _, _, _, _, s2, _⟩ => s2 _ _ hes) ?_ ?_
  · rintro i v σ' H2 hv ⟨x4, x5, x6, x7, x8, rfl, s2, hn⟩
    obtain ⟨d, hd, rd⟩ := (res.mono s2).back hv
    obtain ⟨e, he, rfl⟩ := map_at hd
    obtain ⟨a, l, b⟩ := e
    have hem := List.mem_of_getElem? he
    obtain ⟨hea, heb⟩ := hE _ hem
    have hea : a < S.pre.length := hea
    have heb : b < S.pre.length := heb
    have hdrop : S.edges.drop i = (a, l, b) :: S.edges.drop (i + 1) := by
      obtain ⟨hl, e⟩ := List.getElem?_eq_some_iff.mp he
      rw [List.drop_eq_getElem_cons hl, e]
    rw [hdrop, nextGo_cons] at hn
    refine gTup3 rd fun v1 v2 v3 q1 q2 q3 => ?_
    obtain rfl : v1 = .int (a : Int) := q1
    obtain rfl : v2 = .str (enc [(l, false)]) := q2
    obtain rfl : v3 = .int (b : Int) := q3
    show wSs _ _ _ [some (.ref f), some (.int (here : Int)), some (.str (enc [x])), some (.str (enc [(x.1, false)])), some (.int (a : Int)), some (.str (enc [(l, false)])), some (.int (b : Int)), x7, x8] H2
    refine ws_if (k := decide (l = x.1)) (JT.of (jt_eqS (x := enc [(l, false)]) (y := enc [(x.1, false)]) (je_var 5 rfl rfl) (je_var 3 rfl rfl)) (lab_iff _ _)) (fun hk H3 s3 => ?_) (fun hk H3 s3 => ?_)
    · have hk := of_decide_eq_true hk
      have s13 := s2.trans s3
      refine ws_asg (d := .t [.i ((if x.2 then b else a : Nat) : Int), .i ((if x.2 then a else b : Nat) : Int)]) (je_if (k := !x.2) (JT.of (jt_eqS (x := enc [x]) (y := enc [(x.1, false)]) (je_var 2 rfl rfl) (je_var 3 rfl rfl)) (small_iff x)) (fun hk => ?_) (fun hk => ?_)) (pg_tup rfl (pgs_cons (pg_name (i := 7) sc_nxt.nd rfl (.inl rfl)) (pgs_cons (pg_name (i := 8) sc_nxt.nd rfl (.inl rfl)) pgs_nil))) fun v4 H4 s4 r4 => ?_
      · have hk : x.2 = false := by simpa using hk
        rw [hk]
        exact je_tup (ja_cons (je_var (d := .i (a : Int)) 4 rfl rfl) (ja_cons (je_var (d := .i (b : Int)) 6 rfl rfl) ja_nil)) (by show 2 ≤ 100000; decide)
      · have hk : x.2 = true := by simpa using hk
        rw [hk]
        exact je_tup (ja_cons (je_var (d := .i (b : Int)) 6 rfl rfl) (ja_cons (je_var (d := .i (a : Int)) 4 rfl rfl) ja_nil)) (by show 2 ≤ 100000; decide)
      · refine gTup2 r4 fun v5 v6 q5 q6 => ?_
        obtain rfl : v5 = .int _ := q5
        obtain rfl : v6 = .int _ := q6
        show wSs _ _ _ [some (.ref f), some (.int (here : Int)), some (.str (enc [x])), some (.str (enc [(x.1, false)])), some (.int (a : Int)), some (.str (enc [(l, false)])), some (.int (b : Int)), some (.int ((if x.2 then b else a : Nat) : Int)), some (.int ((if x.2 then a else b : Nat) : Int))] H4
        have s14 := s13.trans s4
        have hnl : (if x.2 then b else a) < S.pre.length := by split <;> assumption
        refine ws_if (k := decide (root S.par (if x.2 then b else a) = here)) (JT.of (jt_eqI (je_root T hr (by decide) (F1.mono s14) hS hnl (jv_var 0) (je_var 7 rfl (intRp _))) (je_var 1 rfl (intRp here))) (dec_nat _ _)) (fun hk2 H5 s5 => ?_) (fun hk2 H5 s5 => ?_)
        · have hk2 := of_decide_eq_true hk2
          rw [if_pos ⟨hk, hk2⟩] at hn
          refine ws_ret (d := .t [.i ((if x.2 then b else a : Nat) : Int), .i ((if x.2 then a else b : Nat) : Int)]) (je_tup (ja_cons (je_var 7 rfl (intRp _)) (ja_cons (je_var 8 rfl (intRp _)) ja_nil)) (by show 2 ≤ 100000; decide)) fun v7 H6 s6 r6 => k v7 H6 (((s1.trans s14).trans s5).trans s6) ?_
          rw [← hn]
          have : nfD (some (if x.2 then (b, a) else (a, b))) = .t [.i ((if x.2 then b else a : Nat) : Int), .i ((if x.2 then a else b : Nat) : Int)] := by
            cases x.2 <;> rfl
          rw [this]
          exact r6
        · have hk2 := of_decide_eq_false hk2
          rw [if_neg fun z => hk2 z.2] at hn
          exact ws_nil (ws_nil (ws_nil ⟨_, _, _, _, _, rfl, s14.trans s5, hn⟩))
    · have hk := of_decide_eq_false hk
      rw [if_neg fun z => hk z.1] at hn
      exact ws_nil (ws_nil ⟨_, _, _, _, _, rfl, s2.trans s3, hn⟩)
  · rintro σ' H2 ⟨x4, x5, x6, x7, x8, rfl, s2, hn⟩
    have hl : es.length = S.edges.length := by rw [res.len]; simp
    rw [hl, List.drop_length] at hn
    refine ws_ret (d := .n) je_non fun v3 H3 s3 r3 => k v3 H3 ((s1.trans s2).trans s3) ?_
    rw [← hn]
    exact r3
end
end FW
/-! traced -/
namespace FW
open PySem L2
section
variable {P : Program} {w : World} {K : PySem.W.Frag} {mg : Str → Option Value} {base : Heap}
def trD : Option (List Fac) → D
  | none => .n
  | some fs => .l (facsD fs)
theorem nextGo_lt {S : FS} {here : Nat} {x : L} : ∀ {es : List Ed}, (∀ e ∈ es, e.1 < S.pre.length ∧ e.2.2 < S.pre.length) → ∀ {nf : Nat × Nat}, nextGo S.par here x es = some nf → nf.1 < S.pre.length ∧ nf.2 < S.pre.length
  | [], _, nf, h => by cases h
  | e :: es, hE, nf, h => by
    rw [nextGo_cons] at h
    by_cases c : e.2.1 = x.1 ∧ root S.par (if x.2 then e.2.2 else e.1) = here
    · rw [if_pos c] at h
      have := hE e List.mem_cons_self
      obtain rfl := Option.some.inj h
      split
      · exact ⟨this.2, this.1⟩
      · exact this
    · rw [if_neg c] at h
      exact nextGo_lt (fun e he => hE e (List.mem_cons_of_mem _ he)) h
theorem trGo_nil (S : FS) (here : Nat) (fs : List Fac) : trGo S here fs [] = if here = 0 then some fs else none := rfl
theorem trGo_cons (S : FS) (here : Nat) (fs : List Fac) (x : L) (w : Wd) : trGo S here fs (x :: w) = match nextGo S.par here x S.edges with
    | none => none
    | some nf => trGo S (root S.par nf.2) (fs ++ opp (chain S.par S.lnk nf.1) ++ chain S.par S.lnk nf.2) w := rfl
abbrev s_tra : Stmt := topS 60
theorem sc_tra : FnScope ["folding", "word", "here", "factors", "letter", "edge"] ["folding", "word"] (defScope s_tra) := ⟨rfl, rfl, rfl, by decide +kernel, rfl, by decide +kernel, by decide +kernel⟩
def fi_tra (S : FS) (ds : List D) (d : D) : Prop := ∃ u : Wd, Sane S ∧ InE S ∧ 0 < S.pre.length ∧ S.pre.length ≤ 40 ∧ u.length ≤ 50 ∧ ds = [wD u] ∧ d = trD (trGo S 0 [] u)
theorem ok_tra (T : Txt K mg) : FnOk P w K mg base CX0 3 T.traced.f T.traced.fd ["folding", "word"] (spM T.C fi_tra) := by
  refine T.traced.F.ok sc_tra (fun vs H Q E h => spM_len (n := 1) (fun S ds d ⟨_, _, _, _, _, _, e, _⟩ => by rw [e] <;> rfl) h) (fun cdv A0 outer s H vs Q E hr h => ?_)
  obtain ⟨f, A, S, ws, ds, d, rfl, F, r, ⟨u, hS, hE, hp0, hp40, hu, rfl, rfl⟩, k⟩ := h
  obtain ⟨va, rfl, ra⟩ := rps1 r
  obtain rfl : va = .str (enc u) := ra
  refine ⟨_, wSs_ok, ?_⟩
  refine ws_set 2 sc_tra.nd (d := .i ((0 : Nat) : Int)) je_int fun v1 H1 s1 r1 => ?_
  obtain rfl : v1 = .int ((0 : Nat) : Int) := r1
  refine ws_set 3 sc_tra.nd (JF.je (jf_lst ja_nil)) fun v2 H2 s2 r2 => ?_
  refine ws_forW (w := u) (je_var 1 rfl (wDrp u)) (pg_name (i := 4) sc_tra.nd rfl (.inl rfl)) (fun i σ' H' => ∃ (here : Nat) (fs : List Fac) (v3 : V) (x4 x5 : Option V), σ' = [some (.ref f), some (.str (enc u)), some (.int (here : Int)), some v3, x4, x5] ∧ Same H H' ∧ Rp H' (.l (facsD fs)) v3 ∧ here < S.pre.length ∧ fs.length ≤ i * 80 ∧ trGo S here fs (u.drop i) = trGo S 0 [] u)
    (fun H3 s3 => ⟨0, [], v2, none, none, rfl, (s1.trans s2).trans s3, r2.mono s3, hp0, by simp, rfl⟩) ?_ ?_
  · rintro i x σ' H3 hx ht ⟨here, fs, v3, x4, x5, rfl, s3, r3, hh, hfl, htr⟩
    show wSs _ _ _ [some (.ref f), some (.str (enc u)), some (.int (here : Int)), some v3, some (.str (enc [x])), x5] H3
    have hil : i < u.length := (List.getElem?_eq_some_iff.mp hx).1
    have hdrop : u.drop i = x :: u.drop (i + 1) := by
      obtain ⟨hl, e⟩ := List.getElem?_eq_some_iff.mp hx
      rw [List.drop_eq_getElem_cons hl, e]
    rw [hdrop, trGo_cons] at htr
    have F3 := F.mono s3
    refine ws_set 5 sc_tra.nd (d := nfD (nextGo S.par here x S.edges)) (je_callM T.next_edge (ok_nxt T) (hr.mono (by decide)) (jv_var 0) F3 (ja_cons (je_var 2 rfl (intRp here)) (ja_cons (je_var 4 rfl (wDrp [x])) ja_nil)) ⟨here, x, hS, hE, rfl, rfl⟩) fun v5 H4 s4 r4 => ?_
    have s14 := s3.trans s4
    cases hn : nextGo S.par here x S.edges with
    | none =>
      rw [hn] at htr r4
      refine ws_ifT (JT.of (jt_isN (je_var 5 rfl r4)) rfl) fun H5 s5 => ?_
      refine ws_ret (d := .n) je_non fun v6 H6 s6 r6 => k v6 H6 ((s14.trans s5).trans s6) ?_
      rw [← htr]
      exact r6
    | some nf =>
      rw [hn] at htr r4
      obtain ⟨h1, h2⟩ := nextGo_lt hE hn
      have c1 := hS.chain_len _ _ (Nat.le_refl _) h1
      have c2 := hS.chain_len _ _ (Nat.le_refl _) h2
      have c3 := hS.rle _ _ (Nat.le_refl _) h2
      have c4 : (opp (chain S.par S.lnk nf.1)).length = (chain S.par S.lnk nf.1).length := ginv_len _
      refine ws_ifF (JT.of (jt_isN (je_var 5 rfl r4)) rfl) fun H5 s5 => ?_
      have s15 := s14.trans s5
      have F5 := F.mono s15
      have r5 := r4.mono s5
      have r35 := r3.mono (s4.trans s5)
      have hfl2 : fs.length ≤ 50 * 80 := by
        have : i * 80 ≤ 50 * 80 := Nat.mul_le_mul_right 80 (by omega)
        omega
      refine ws_set 3 sc_tra.nd (d := .l (facsD (fs ++ opp (chain S.par S.lnk nf.1) ++ chain S.par S.lnk nf.2))) (JE.of (JF.je (jf_cat (es := facsD (fs ++ opp (chain S.par S.lnk nf.1))) (fs := facsD (chain S.par S.lnk nf.2)) (JE.of (JF.je (jf_cat (je_var 3 rfl r35) (JF.je (jf_opp T hr (by decide) (JF.je (jf_chain T hr (by decide) F5 hS h1 (by omega) (jv_var 0) (je_ixT (i := 0) (ds := [.i (nf.1 : Int), .i (nf.2 : Int)]) (je_var 5 rfl r5) je_int rfl))) (by omega))) (by rw [facs_len, facs_len]; omega))) (congrArg D.l (facs_app _ _)))
        (JF.je (jf_chain T hr (by decide) F5 hS h2 (by omega) (jv_var 0) (je_ixT (i := 1) (ds := [.i (nf.1 : Int), .i (nf.2 : Int)]) (je_var 5 rfl r5) je_int rfl))) (by rw [facs_len, facs_len, List.length_append]; omega))) (congrArg D.l (facs_app _ _))) fun v6 H6 s6 r6 => ?_
      refine ws_set 2 sc_tra.nd (d := .i (root S.par nf.2 : Int)) (je_root T hr (by decide) (F5.mono s6) hS h2 (jv_var 0) (je_ixT (i := 1) (ds := [.i (nf.1 : Int), .i (nf.2 : Int)]) (je_var 5 rfl (r5.mono s6)) je_int rfl)) fun v7 H7 s7 r7 => ws_nil ?_
      obtain rfl : v7 = .int _ := r7
      refine ⟨root S.par nf.2, _, v6, _, _, rfl, (s15.trans s6).trans s7, r6.mono s7, by omega, ?_, htr⟩
      rw [List.length_append, List.length_append]
      omega
  · rintro σ' H3 ⟨here, fs, v3, x4, x5, rfl, s3, r3, hh, hfl, htr⟩
    rw [List.drop_length, trGo_nil] at htr
    refine ws_ret (d := trD (trGo S 0 [] u)) (je_if (k := decide (here = 0)) (JT.of (jt_eqI (j := ((0 : Nat) : Int)) (je_var 2 rfl (intRp here)) je_int) (dec_nat here 0)) (fun hk => ?_) (fun hk => ?_)) fun v4 H4 s4 r4 => k v4 H4 (s3.trans s4) r4
    · rw [if_pos (of_decide_eq_true hk)] at htr
      rw [← htr]
      exact je_var 3 rfl r3
    · rw [if_neg (of_decide_eq_false hk)] at htr
      rw [← htr]
      exact je_non
end
end FW
/-! renamed, trim -/
namespace FW
open PySem L2
/-- a pure def whose answer is told only by what is true of it -/
def spR {B : Type} (ar : B → List D) (ψ : B → Prop) (φ : B → D → Prop) : Sp := fun vs H Q _ => ∃ b, Rps H (ar b) vs ∧ ψ b ∧ ∀ v d H', φ b d → Same H H' → Rp H' d v → Q v H'
theorem spR_len {B : Type} {ar : B → List D} {ψ : B → Prop} {φ : B → D → Prop} {n : Nat} (h : ∀ b, (ar b).length = n) {vs : List V} {H : Hp} {Q : VK} {E : XK} (s : spR ar ψ φ vs H Q E) : vs.length = n := by
  obtain ⟨b, r, _⟩ := s
  rw [r.len, h b]
section
variable {X : Cx} {e : Expr} {es : List Expr} {σ : L2.St} {H : Hp} {pos : Pos}
theorem we_callR {B : Type} {ar : B → List D} {ψ : B → Prop} {φ : B → D → Prop} {k : Nat} {g x q : Str} {st : Stmt} {ps : List Str} {p : Pos} {Q : VK} (b : B) (Dd : Df X.K X.mg g x q st ps) (G : FnOk X.prog X.w X.K X.mg X.base CX0 k Dd.f Dd.fd ps (spR ar ψ φ)) (hr : Room k X.A) (ha : JA X (e :: es) σ H (ar b)) (hψ : ψ b)
    (k2 : ∀ v d H', φ b d → Same H H' → Rp H' d v → Q v H') (hg : Gl X g := by rfl) (hdb : (g == ("__debug__" : Str)) = false := by decide) (he : starEach (e :: es) X.env = (false, eval e X.env) :: starEach es X.env := by rfl) (hpl : (backTo pos (starEach es X.env)).any (·.1) = false := by rfl) :
    wE X (.Call (.Name g p) (e :: es) [] pos) σ H Q :=
  ⟨_, pe_call G hr hg Dd.m Dd.F.kp Dd.b .nil pass0 wA_ok hdb he hpl, ha H (Same.refl _) _ fun vs H2 e2 rs => ⟨b, by rw [List.append_nil]; exact rs, hψ, fun v d H' h1 e3 rv => k2 v d H' h1 (e2.trans e3) rv⟩⟩
end
section
variable {P : Program} {w : World} {K : PySem.W.Frag} {mg : Str → Option Value} {base : Heap}
abbrev s_ren : Stmt := topS 63
theorem sc_ren : FnScope ["factors", "kept", "found", "kind", "number", "sign"] ["factors", "kept"] (defScope s_ren) := ⟨rfl, rfl, rfl, by decide +kernel, rfl, by decide +kernel, by decide +kernel⟩
def fi_ren (ds : List D) (d : D) : Prop := ∃ (fs : List Fac) (kept : List Nat), fs.length ≤ 5000 ∧ (∀ f ∈ fs, f.1 = true → f.2.1 ∈ kept) ∧ ds = [.t (facsD fs), .l (natsD kept)] ∧ d = .t (facsD (fs.map (ren kept)))
theorem step_iff (b : Bool) : decide (kindS b = "step") = b := by
  revert b
  decide +kernel
theorem ok_ren (T : Txt K mg) : FnOk P w K mg base CX0 1 T.renamed.f T.renamed.fd ["factors", "kept"] (spD fi_ren) := by
  refine T.renamed.F.ok sc_ren (fun vs H Q E h => ?_) (fun cdv A0 outer s H vs Q E hr h => ?_)
  · obtain ⟨ds, d, r, ⟨_, _, _, _, rfl, _⟩, _⟩ := h
    exact rps_len r rfl
  obtain ⟨ds, d, r, ⟨fs, kept, hl, hk, rfl, rfl⟩, k⟩ := h
  obtain ⟨va, vb, rfl, ra, rb⟩ := rps2 r
  obtain ⟨q, ws, rfl, hq, rq⟩ := ra
  refine ⟨_, wSs_ok, ?_⟩
  refine ws_setF 2 sc_ren.nd (jf_lst ja_nil) fun p vs H1 hp s1 h1 r1 => ?_
  refine ws_forKT (ws := ws) (jv_var 0) (s1 _ _ hq) (pg_tup rfl (pgs_cons (pg_name (i := 3) sc_ren.nd rfl (.inl rfl)) (pgs_cons (pg_name (i := 4) sc_ren.nd rfl (.inl rfl)) (pgs_cons (pg_name (i := 5) sc_ren.nd rfl (.inl rfl)) pgs_nil))))
    (fun i σ' H' => ∃ us x y z, σ' = [some (.ref q), some vb, some (.ref p), x, y, z] ∧ Same H H' ∧ H' p = some (.lst us) ∧ Rps H' (facsD ((fs.take i).map (ren kept))) us)
    (fun H2 s2 => ⟨vs, none, none, none, rfl, s1.trans s2, s2 _ _ h1, r1.mono s2⟩) (fun i σ' H' ⟨_, _, _, _, _, s2, _, _⟩ => s2 _ _ hq) ?_ ?_
  · rintro i v σ' H' hv ⟨us, x, y, z, rfl, s2, h2, r2⟩
    obtain ⟨d, hd, rd⟩ := (rq.mono s2).back hv
    obtain ⟨f, hf, rfl⟩ := map_at hd
    have hfm := List.mem_of_getElem? hf
    have hil : i < fs.length := (List.getElem?_eq_some_iff.mp hf).1
    refine gTup3 rd fun v1 v2 v3 q1 q2 q3 => ?_
    obtain rfl : v1 = .str (kindS f.1) := q1
    obtain rfl : v2 = .int (f.2.1 : Int) := q2
    obtain rfl : v3 = .int (sgn f.2.2) := q3
    show wSs _ _ _ [some (V.ref q), some vb, some (V.ref p), some (.str (kindS f.1)), some (.int (f.2.1 : Int)), some (.int (sgn f.2.2))] H'
    refine ws_app (d := facD (ren kept f)) (wv_var 2) h2 (je_fac (i := sgn f.2.2) (JE.of (je_var (d := .s (kindS f.1)) 3 rfl rfl) ?_) (je_if (k := f.1) (JT.of (jt_eqS (x := kindS f.1) (y := "step") (je_var 3 rfl rfl) je_str) (step_iff f.1)) (fun hk1 => ?_) (fun hk1 => ?_)) (je_var 5 rfl rfl) ?_) (by rw [r2.len, facs_len]; simp; omega) fun w2 H4 s4 r4 => ws_nil ⟨us ++ [w2], _, _, _, rfl, Same.mut (s2.trans s4) hp, upd_same, ?_⟩
    · unfold ren
      split
      · rename_i hk1; rw [hk1]
      · rfl
    · unfold ren
      rw [if_pos hk1]
      exact je_lidx (je_var 1 rfl (rb.mono s2)) (je_var 4 rfl (intRp _)) (hk f hfm hk1)
    · unfold ren
      rw [if_neg (by rw [hk1]; decide)]
      exact je_var 4 rfl (intRp _)
    · unfold ren
      split <;> rfl
    · rw [take_snoc hf]
      have e3 : facsD ((fs.take i ++ [f]).map (ren kept)) = facsD ((fs.take i).map (ren kept)) ++ [facD (ren kept f)] := by simp [facsD]
      rw [e3]
      refine Rps.imm (keepT_lst (s4 _ _ h2)) ?_ (Rps.app (r2.mono s4) (.cons r4 rfl))
      rw [← e3]
      exact imms_facs _
  · rintro σ' H' ⟨us, x, y, z, rfl, s2, h2, r2⟩
    have e : fs.take ws.length = fs := by rw [rq.len]; simp [facsD]
    rw [e] at r2
    exact ws_ret (je_tupleL T.b_tuple (je_var 2 rfl ⟨p, us, rfl, h2, r2⟩)) fun v3 H3 s3 r3 => k v3 H3 (s2.trans s3) r3
abbrev s_trim : Stmt := topS 62
theorem sc_trim : FnScope ["steps", "needed", "index", "kind", "number", "sign", "kept"] ["steps"] (defScope s_trim) := ⟨rfl, rfl, rfl, by decide +kernel, rfl, by decide +kernel, by decide +kernel⟩
structure TB where
  r : Nat
  gs : List Wd
  u : Wd
  st : List Stp
def ar_trim (b : TB) : List D := [.t (b.st.map stpD)]
def pre_trim (b : TB) : Prop := DerivOk b.r b.gs b.u b.st
def fi_trim (b : TB) (d : D) : Prop := ∃ st, d = .t (st.map stpD) ∧ DerivOk b.r b.gs b.u st
structure TrI (st : List Stp) (t : Nat) (nd : List Nat) : Prop where
  nodup : nd.Nodup
  lt : ∀ i ∈ nd, i < st.length
  last : st.length - 1 ∈ nd
  cl : ∀ i ∈ nd, st.length - t ≤ i → ∀ s, st[i]? = some s → ∀ f ∈ s.2, f.1 = true → f.2.1 ∈ nd
theorem nats_app (a b : List Nat) : natsD a ++ natsD b = natsD (a ++ b) := by simp [natsD]
theorem nats_len (a : List Nat) : (natsD a).length = a.length := by simp [natsD]
theorem je_stp0 {X : Cx} {a b : Expr} {σ : L2.St} {H : Hp} {pos : Pos} {e : Stp} (ha : JE X a σ H (stpD e)) (hb : JE X b σ H (.i 0)) (hs : PlainIx b := by exact fun _ _ => rfl) : JE X (.Subscript a b pos) σ H (wD e.1) := je_ixT (i := 0) (ds := [wD e.1, .t (facsD e.2)]) ha hb rfl hs
theorem je_stp1 {X : Cx} {a b : Expr} {σ : L2.St} {H : Hp} {pos : Pos} {e : Stp} (ha : JE X a σ H (stpD e)) (hb : JE X b σ H (.i 1)) (hs : PlainIx b := by exact fun _ _ => rfl) : JE X (.Subscript a b pos) σ H (.t (facsD e.2)) := je_ixT (i := 1) (ds := [wD e.1, .t (facsD e.2)]) ha hb rfl hs
theorem je_ixTn {X : Cx} {a b : Expr} {σ : L2.St} {H : Hp} {pos : Pos} {ds : List D} {d : D} {n : Nat} (ha : JE X a σ H (.t ds)) (hb : JE X b σ H (.i (n : Int))) (hd : ds[n]? = some d) (hs : PlainIx b := by exact fun _ _ => rfl) : JE X (.Subscript a b pos) σ H d := je_ixT ha hb (atI_nat hd) hs
theorem je_stpAt {X : Cx} {a b : Expr} {σ : L2.St} {H : Hp} {pos : Pos} {st : List Stp} {e : Stp} {n : Nat} (ha : JE X a σ H (.t (st.map stpD))) (hb : JE X b σ H (.i (n : Int))) (hd : st[n]? = some e) (hs : PlainIx b := by exact fun _ _ => rfl) : JE X (.Subscript a b pos) σ H (stpD e) := je_ixTn ha hb (by rw [List.getElem?_map, hd] <;> rfl) hs

theorem nodup_len : ∀ (n : Nat) (l : List Nat), l.Nodup → (∀ x ∈ l, x < n) → l.length ≤ n
  | 0, [], _, _ => Nat.le_refl _
  | 0, x :: l, _, h => absurd (h x List.mem_cons_self) (Nat.not_lt_zero x)
  | n + 1, l, hn, h => by
    by_cases hm : n ∈ l
    · have h1 := nodup_len n (l.erase n) (hn.erase n) fun x hx => by
        have h2 := (List.Nodup.mem_erase_iff hn).mp hx
        have := h x h2.2
        have := h2.1
        omega
      rw [List.length_erase_of_mem hm] at h1
      omega
    · have := nodup_len n l hn fun x hx => by
        have := h x hx
        have : x ≠ n := fun e => hm (e ▸ hx)
        omega
      omega
theorem trim_pick {d : D} {st : List Stp} {kept : List Nat} {i : Nat} (h : ((trimBy st kept).map stpD)[i]? = some d) : ∃ j, kept[i]? = some j ∧ d = stpD (renS kept (st.getD j ([], []))) := by
  obtain ⟨s, hs, rfl⟩ := map_at h
  unfold trimBy at hs
  rw [List.getElem?_map] at hs
  cases e : kept[i]? with
  | none => rw [e] at hs; cases hs
  | some j => rw [e] at hs; exact ⟨j, rfl, by rw [← Option.some.inj hs]⟩
theorem ok_trim (T : Txt K mg) : FnOk P w K mg base CX0 2 T.trim.f T.trim.fd ["steps"] (spR ar_trim pre_trim fi_trim) := by
  refine T.trim.F.ok sc_trim (fun vs H Q E h => spR_len (n := 1) (fun b => rfl) h) (fun cdv A0 outer s H vs Q E hr h => ?_)
  obtain ⟨⟨r, gs, u, st⟩, rr, hD, k⟩ := h
  have hD : DerivOk r gs u st := hD
  obtain ⟨va, rfl, ra⟩ := rps1 rr
  have ra : Rp H (.t (st.map stpD)) va := ra
  have hpos := hD.pos
  have hmost := hD.most
  have hlen : (st.map stpD).length = st.length := by simp
  refine ⟨_, wSs_ok, ?_⟩
  refine ws_setF 1 sc_trim.nd (jf_lst (ja_cons (JE.of (je_subI (je_lenT T.b_len (je_var 0 rfl ra)) je_int) (show D.i (((st.map stpD).length : Int) - 1) = D.i ((st.length - 1 : Nat) : Int) by rw [hlen]; congr 1; omega)) ja_nil) (by show 1 ≤ 100000; decide)) fun p vs H1 hp s1 h1 r1 => ?_
  have r1 : Rps H1 (natsD [st.length - 1]) vs := r1
  refine ws_forDown (n := st.length) T.b_range (JE.of (je_subI (je_lenT T.b_len (je_var 0 rfl (ra.mono s1))) je_int) (by rw [hlen])) je_m1 je_m1 (by omega) (pg_name (i := 2) sc_trim.nd rfl (.inl rfl))
    (fun t σ' H' => ∃ (nd : List Nat) (us : List V) (x2 x3 x4 x5 x6 : Option V), σ' = [some va, some (.ref p), x2, x3, x4, x5, x6] ∧ Same H H' ∧ H' p = some (.lst us) ∧ Rps H' (natsD nd) us ∧ TrI st t nd)
    (fun H2 s2 => ⟨[st.length - 1], vs, none, none, none, none, none, rfl, s1.trans s2, s2 _ _ h1, r1.mono s2, ⟨by simp, fun i hi => (by rw [show i = st.length - 1 by simpa using hi]; omega), by simp, fun i hi hle s hs => by rw [List.getElem?_eq_none (by omega)] at hs; cases hs⟩⟩) ?_ ?_
  · rintro t σ' H2 ht ⟨nd, us, x2, x3, x4, x5, x6, rfl, s2, h2, r2, hI⟩
    show wSs _ _ _ [some va, some (.ref p), some (.int ((st.length - 1 - t : Nat) : Int)), x3, x4, x5, x6] H2
    generalize hix : st.length - 1 - t = ix
    have hixl : ix < st.length := by omega
    have hst : st[ix]? = some st[ix] := List.getElem?_eq_getElem hixl
    generalize st[ix] = s0 at hst
    have hok := hD.steps ix s0 hst
    have hmany := hok.many
    refine ws_if (k := decide (ix ∈ nd)) (jt_inN (je_var 2 rfl (intRp ix)) (je_var 1 rfl ⟨p, us, rfl, h2, r2⟩)) (fun hk H3 s3 => ?_) (fun hk H3 s3 => ?_)
    · have hk := of_decide_eq_true hk
      have s13 := s2.trans s3
      refine ws_forT (je_stp1 (je_stpAt (je_var 0 rfl (ra.mono s13)) (je_var 2 rfl (intRp ix)) hst) je_int) (pg_tup rfl (pgs_cons (pg_name (i := 3) sc_trim.nd rfl (.inl rfl)) (pgs_cons (pg_name (i := 4) sc_trim.nd rfl (.inl rfl)) (pgs_cons (pg_name (i := 5) sc_trim.nd rfl (.inl rfl)) pgs_nil))))
        (fun q ws j σ' H' => ∃ (nd' : List Nat) (us : List V) (x3 x4 x5 : Option V), σ' = [some va, some (.ref p), some (.int (ix : Int)), x3, x4, x5, x6] ∧ Same H H' ∧ H' p = some (.lst us) ∧ Rps H' (natsD nd') us ∧ H' q = some (.tup ws) ∧ Rps H' (facsD s0.2) ws ∧ TrI st t nd' ∧ (∀ f ∈ s0.2.take j, f.1 = true → f.2.1 ∈ nd'))
        (fun q ws H4 s4 hq rq => ⟨nd, us, _, _, _, rfl, s13.trans s4, s4 _ _ (s3 _ _ h2), r2.mono (s3.trans s4), hq, rq, hI, fun f hf => by simp at hf⟩) (fun q ws j σ' H' ⟨_, _, _, _, _, _, _, _, _, hq, rq, _⟩ => ⟨hq, rq⟩) ?_ ?_
      · rintro q ws j d v σ' H4 hd rd ⟨nd', us4, y3, y4, y5, rfl, s4, h4, r4, hq, rq, hI4, hfs⟩
        obtain ⟨f, hf, rfl⟩ := map_at hd
        have hfm := List.mem_of_getElem? hf
        refine gTup3 rd fun v1 v2 v3 q1 q2 q3 => ?_
        obtain rfl : v1 = .str (kindS f.1) := q1
        obtain rfl : v2 = .int (f.2.1 : Int) := q2
        show wSs _ _ _ [some va, some (.ref p), some (.int (ix : Int)), some (.str (kindS f.1)), some (.int (f.2.1 : Int)), some v3, x6] H4
        have hstep : ∀ nd2 : List Nat, (∀ x ∈ nd', x ∈ nd2) → (f.1 = true → f.2.1 ∈ nd2) → ∀ g ∈ s0.2.take (j + 1), g.1 = true → g.2.1 ∈ nd2 := fun nd2 hsub hnew g hg hg1 => by
          rw [take_snoc hf, List.mem_append] at hg
          rcases hg with hg | hg
          · exact hsub _ (hfs g hg hg1)
          · rw [List.mem_singleton.mp hg] at hg1 ⊢
            exact hnew hg1
        refine ws_if (k := f.1 && !decide (f.2.1 ∈ nd')) (jt_and2 (x := f.1) (y := !decide (f.2.1 ∈ nd')) (JT.of (jt_eqS (x := kindS f.1) (y := "step") (je_var 3 rfl rfl) je_str) (step_iff f.1)) (fun _ => jt_ninN (je_var 4 rfl (intRp _)) (je_var 1 rfl ⟨p, us4, rfl, h4, r4⟩)) rfl) (fun hk2 H5 s5 => ?_) (fun hk2 H5 s5 => ws_nil (ws_nil ?_))
        · rw [Bool.and_eq_true] at hk2
          obtain ⟨hf1, hnin⟩ := hk2
          have hnin : f.2.1 ∉ nd' := by simpa using hnin
          have hlt : f.2.1 < ix := by
            have := hok.fac f hfm
            unfold FacOk at this
            rw [if_pos hf1] at this
            exact this
          have hndl : nd'.length ≤ st.length := by
            exact nodup_len _ _ hI4.nodup hI4.lt
          refine ws_app (d := .i (f.2.1 : Int)) (wv_var 1) (s5 _ _ h4) (je_var 4 rfl (intRp _)) (by rw [r4.len, nats_len]; omega) fun w6 H6 s6 r6 => ws_nil (ws_nil ?_)
          have kt := keepT_lst (u := .lst (us4 ++ [w6])) (s6 _ _ (s5 _ _ h4))
          refine ⟨nd' ++ [f.2.1], us4 ++ [w6], _, _, _, rfl, Same.mut ((s4.trans s5).trans s6) hp, upd_same, ?_, kt.1 _ _ (s6 _ _ (s5 _ _ hq)), Rps.imm kt (imms_facs _) (rq.mono (s5.trans s6)), ?_, ?_⟩
          · rw [← nats_app]
            refine Rps.imm kt (by rw [nats_app]; exact imms_nats _) (Rps.app (r4.mono (s5.trans s6)) (.cons r6 rfl))
          · refine ⟨?_, fun i hi => ?_, List.mem_append_left _ hI4.last, fun i hi hle s hs g hg hg1 => ?_⟩
            · rw [List.nodup_append]
              refine ⟨hI4.nodup, by simp, fun a ha b hb => ?_⟩
              rw [List.mem_singleton.mp hb]
              exact fun e => hnin (e ▸ ha)
            · rcases List.mem_append.mp hi with hi | hi
              · exact hI4.lt i hi
              · rw [List.mem_singleton.mp hi]; omega
            · rcases List.mem_append.mp hi with hi | hi
              · exact List.mem_append_left _ (hI4.cl i hi hle s hs g hg hg1)
              · have := List.mem_singleton.mp hi
                omega
          · exact hstep _ (fun x hx => List.mem_append_left _ hx) fun _ => by simp
        · refine ⟨nd', us4, _, _, _, rfl, s4.trans s5, s5 _ _ h4, r4.mono s5, s5 _ _ hq, rq.mono s5, hI4, hstep nd' (fun x hx => hx) fun hf1 => ?_⟩
          rw [hf1] at hk2
          simpa using hk2
      · rintro q ws σ' H4 ⟨nd', us4, y3, y4, y5, rfl, s4, h4, r4, hq, rq, hI4, hfs⟩
        rw [facs_len, List.take_length] at hfs
        refine ws_nil (ws_nil ⟨nd', us4, _, _, _, _, _, rfl, s4, h4, r4, hI4.nodup, hI4.lt, hI4.last, fun i hi hle s hs g hg hg1 => ?_⟩)
        by_cases hii : i = ix
        · subst hii
          rw [hst] at hs
          obtain rfl := Option.some.inj hs
          exact hfs g hg hg1
        · exact hI4.cl i hi (by omega) s hs g hg hg1
    · have hk := of_decide_eq_false hk
      refine ws_nil (ws_nil ⟨nd, us, _, _, _, _, _, rfl, s2.trans s3, s3 _ _ h2, r2.mono s3, hI.nodup, hI.lt, hI.last, fun i hi hle s hs g hg hg1 => ?_⟩)
      by_cases hii : i = ix
      · subst hii
        exact absurd hi hk
      · exact hI.cl i hi (by omega) s hs g hg hg1
  · rintro σ' H2 ⟨nd, us, x2, x3, x4, x5, x6, rfl, s2, h2, r2, hI⟩
    refine ws_setE 6 sc_trim.nd (we_sortN T.b_sorted (je_var 1 rfl ⟨p, us, rfl, h2, r2⟩) fun kept pk ks H3 hperm hasc hpk s3 h3 r3 => ?_)
    have hK : Kept st kept := by
      have hnd : kept.Nodup := hperm.nodup_iff.mpr hI.nodup
      refine ⟨?_, fun i hi => hI.lt i (hperm.mem_iff.mp hi), hperm.mem_iff.mpr hI.last, fun i hi s hs f hf hf1 => hperm.mem_iff.mpr (hI.cl i (hperm.mem_iff.mp hi) (by omega) s hs f hf hf1)⟩
      exact (hasc.and hnd).imp fun ⟨h1, h2⟩ => Nat.lt_of_le_of_ne h1 h2
    have hT := hD.trim hK
    have hkl : kept.length ≤ st.length := pair_len hK.asc hK.lt
    have rk : Rp H3 (.l (natsD kept)) (.ref pk) := ⟨pk, ks, rfl, h3, r3⟩
    have s13 := s2.trans s3
    refine ws_ret (d := .t ((trimBy st kept).map stpD)) (je_tupleL T.b_tuple (JF.je (jf_lc (own := [("index", 2)]) (g := gName 2) (items := natsD kept) (es := (trimBy st kept).map stpD) sc_trim.nd (blkOk_by (N := ["steps", "needed", "index", "kind", "number", "sign", "kept"]) (sc := defScope s_trim) (by decide +kernel))
      (ji_list (je_var 6 rfl rk)) (by simp [trimBy, natsD]) (by simp [trimBy]; omega) (imms_stps _) gm_name (fun _ _ _ _ _ => pg_name (i := 2) sc_trim.nd rfl (.inl rfl)) (fun i d r v4 H4 e1 e2 s4 r4 => ?_)))) fun v5 H5 s5 r5 => k v5 _ H5 ⟨_, rfl, hT⟩ (s13.trans s5) r5
    refine ⟨hw1 v4, rfl, fun sh Hb C cl fp => ?_⟩
    obtain ⟨j, hj, rfl⟩ := trim_pick e2
    obtain ⟨j2, hj2, rfl⟩ := map_at e1
    rw [hj] at hj2
    obtain rfl := Option.some.inj hj2
    have hjm := List.mem_of_getElem? hj
    have hjl := hK.lt j hjm
    have hst : st[j]? = some st[j] := List.getElem?_eq_getElem hjl
    have hgd : st.getD j ([], []) = st[j] := by rw [List.getD_eq_getElem?_getD, hst] <;> rfl
    rw [hgd]
    generalize st[j] = s0 at hst
    have hmany := (hD.steps j s0 hst).many
    have ra4 := ra.mono (s13.trans s4)
    exact je_tup (ja_cons (je_stp0 (e := s0) (je_stpAt (je_var 0 rfl ra4) (je_var 2 rfl r4) hst) je_int) (ja_cons (je_callD T.renamed (ok_ren T) (hr.mono (by decide)) (ja_cons (je_stp1 (e := s0) (je_stpAt (je_var 0 rfl ra4) (je_var 2 rfl r4) hst) je_int) (ja_cons (je_var 6 rfl (rk.mono s4)) ja_nil)) ⟨s0.2, kept, by omega, fun f hf hf1 => hK.closed j hjm s0 hst f hf hf1, rfl, rfl⟩) ja_nil)) (by show 2 ≤ 100000; decide)
end
end FW
/-! derive -/
namespace FW
open PySem L2
section
variable {X : Cx} {a b : Expr} {σ : L2.St} {H : Hp} {pos : Pos}
/-- tuples joined -/
theorem je_catT {es fs : List D} (ha : JE X a σ H (.t es)) (hb : JE X b σ H (.t fs)) (hz : es.length + fs.length ≤ 100000) : JE X (.BinOp a .Add b pos) σ H (.t (es ++ fs)) :=
  je_op op_catA ha hb fun H2 x y Q _ ⟨p, xs, ex, hp, hx⟩ ⟨q, ys, ey, hq, hy⟩ k => by
    subst ex ey
    have hxy := hx.app hy
    refine ⟨p, q, xs, ys, rfl, rfl, SqT.of hp, SqT.of hq, sz5 (by rw [hx.len, hy.len]; exact hz), fun e => ?_, fun _ e => ?_, fun _ _ w hw => ?_⟩
    · subst e
      exact k _ _ (Same.refl _) ⟨q, ys, rfl, hq, hxy⟩
    · subst e
      rw [List.append_nil] at hxy
      exact k _ _ (Same.refl _) ⟨p, xs, rfl, hp, hxy⟩
    · exact k _ _ (same_new hw) ⟨w, _, rfl, upd_same, hxy.mono (same_new hw)⟩
end
section
variable {P : Program} {w : World} {K : PySem.W.Frag} {mg : Str → Option Value} {base : Heap}
structure DB where
  r : Nat
  gs : List Wd
  u : Wd
def ar_der (b : DB) : List D := [famD b.r b.gs, wD b.u]
def pre_der (b : DB) : Prop := FamOk b.r b.gs ∧ WdOk b.r b.u
def fi_der (b : DB) (d : D) : Prop := (d = .n ∧ ¬ Mem b.gs b.u) ∨ (∃ st, d = .t (st.map stpD) ∧ DerivOk b.r b.gs b.u st ∧ Mem b.gs b.u)
abbrev s_der : Stmt := topS 61
theorem sc_der : FnScope ["family", "word", "folding", "whole", "factors"] ["family", "word"] (defScope s_der) := ⟨rfl, rfl, rfl, by decide +kernel, rfl, by decide +kernel, by decide +kernel⟩
theorem ok_der (T : Txt K mg) : FnOk P w K mg base CX0 9 T.derive.f T.derive.fd ["family", "word"] (spR ar_der pre_der fi_der) := by
  refine T.derive.F.ok sc_der (fun vs H Q E h => spR_len (n := 2) (fun b => rfl) h) (fun cdv A0 outer s H vs Q E hr h => ?_)
  obtain ⟨⟨r, gs, u⟩, rr, ⟨hF, hu⟩, k⟩ := h
  have hF : FamOk r gs := hF
  have hu : WdOk r u := hu
  have hul := hu.len
  obtain ⟨va, vb, rfl, ra, rb⟩ := rps2 rr
  have ra : Rp H (famD r gs) va := ra
  obtain rfl : vb = .str (enc u) := rb
  refine ⟨_, wSs_ok, ?_⟩
  refine ws_setE 2 sc_der.nd (we_make T hr (by decide) hF (je_fam1 (je_var 0 rfl ra)) fun f A S H1 s1 F D => ?_)
  refine ws_set 3 sc_der.nd (d := wD (red u)) (je_callD T.reduce_of (ok_red T) (hr.mono (by decide)) (ja_cons (je_var (d := wD u) 1 rfl rfl) ja_nil) ⟨u, rfl, by omega, rfl⟩) fun v2 H2 s2 r2 => ?_
  obtain rfl : v2 = .str (enc (red u)) := r2
  have F2 := F.mono s2
  have hrl : (red u).length ≤ u.length := red_len u
  refine ws_set 4 sc_der.nd (d := trD (trGo S 0 [] (red u))) (je_callM T.traced (ok_tra T) (hr.mono (by decide)) (jv_var 2) F2 (ja_cons (je_var (d := wD (red u)) 3 rfl rfl) ja_nil) ⟨red u, D.wf.sane, D.wf.inE, D.wf.pos, D.size, by omega, rfl, rfl⟩) fun v3 H3 s3 r3 => ?_
  have s13 := (s1.trans s2).trans s3
  cases htr : trGo S 0 [] (red u) with
  | none =>
    rw [htr] at r3
    refine ws_ifT (JT.of (jt_isN (je_var 4 rfl r3)) rfl) fun H4 s4 => ?_
    refine ws_ret (d := .n) je_non fun v5 H5 s5 r5 => k v5 .n H5 (.inl ⟨rfl, fun hm => ?_⟩) ((s13.trans s4).trans s5) r5
    obtain ⟨fs, e⟩ := D.mem.mpr hm
    rw [htr] at e
    cases e
  | some fs =>
    rw [htr] at r3
    have hM : Mem gs u := D.mem.mp ⟨fs, htr⟩
    obtain ⟨_, _, _, hfl⟩ := D.wf.trace (here := 0) D.wf.root0 htr (by simp)
    have hsz := D.size
    have hfl2 : fs.length ≤ 24 * 80 := by
      have h1 : (red u).length * (2 * S.pre.length) ≤ 24 * 80 := Nat.mul_le_mul (by omega) (by omega)
      simp at hfl
      omega
    have hsl : S.steps.length ≤ 40 := by
      have h1 := D.wf.count
      have h2 := bound_le S.par
      have h3 := D.wf.plen
      omega
    refine ws_ifF (JT.of (jt_isN (je_var 4 rfl r3)) rfl) fun H4 s4 => ?_
    have F4 := F2.mono (s3.trans s4)
    have r4 : Rp H4 (.l (facsD fs)) v3 := r3.mono s4
    have hraw := D.raw hul hu.inr htr
    refine ws_retE (we_callR (B := TB) ⟨r, gs, u, rawSteps S u fs⟩ T.trim (ok_trim T) (hr.mono (by decide)) (ja_cons (JE.of (je_catT (es := S.steps.map stpD) (fs := [stpD (red u, short fs)]) (je_tupleL T.b_tuple ((jv_ps T F4 (jv_var 2)).je F4.ps.rp)) (je_tup (ja_cons (je_tup (ja_cons (je_var (d := wD (red u)) 3 rfl rfl) (ja_cons (je_tupleL T.b_tuple (JF.je (jf_callD T.shortened (ok_shor T) (hr.mono (by decide)) (ja_cons (je_var 4 rfl r4) ja_nil) ⟨fs, by omega, rfl, rfl⟩))) ja_nil)) (by show 2 ≤ 100000; decide)) ja_nil) (by show 1 ≤ 100000; decide)) (by simp; omega)) (by unfold rawSteps; rw [List.map_append] <;> rfl)) ja_nil) hraw (fun v d H' hφ s5 r5 => ?_))
    obtain ⟨st, rfl, hst⟩ := hφ
    exact k v _ H' (.inr ⟨st, rfl, hst, hM⟩) (s13.trans (s4.trans s5)) r5
end
end FW
/-! sorted dicts, sorted edges -/
namespace FW
open PySem L2
theorem rps_perm {A : Type} {f : A → D} {H : Hp} {vs us : List V} (h : vs.Perm us) : ∀ {es : List A}, Rps H (es.map f) vs → ∃ es' : List A, es'.Perm es ∧ Rps H (es'.map f) us := by
  induction h with
  | nil => exact fun {es} r => ⟨es, .refl _, r⟩
  | cons x h ih =>
    intro es r
    cases es with
    | nil => exact nomatch (show _ = [] from r)
    | cons e es =>
      obtain ⟨v, w, e1, r1, r2⟩ := r
      injection e1 with e1 e2
      subst e1 e2
      obtain ⟨es', p, q⟩ := ih r2
      exact ⟨e :: es', p.cons e, _, _, rfl, r1, q⟩
  | swap x y l =>
    intro es r
    cases es with
    | nil => exact nomatch (show _ = [] from r)
    | cons e es =>
      obtain ⟨v, w, e1, r1, r2⟩ := r
      injection e1 with e1 e2
      subst e1 e2
      cases es with
      | nil => exact nomatch (show _ = [] from r2)
      | cons e2 es =>
        obtain ⟨v, w, e1, r3, r4⟩ := r2
        injection e1 with e1 e3
        subst e1 e3
        exact ⟨e2 :: e :: es, .swap _ _ _, _, _, rfl, r3, _, _, rfl, r1, r4⟩
  | trans h1 h2 ih1 ih2 =>
    intro es r
    obtain ⟨es1, p1, q1⟩ := ih1 r
    obtain ⟨es2, p2, q2⟩ := ih2 q1
    exact ⟨es2, p2.trans p1, q2⟩
def edK (e : Ed) : List Key := [.inl (e.1 : Int), .inr (enc [(e.2.1, false)]), .inl (e.2.2 : Int)]
theorem keyD_ed (e : Ed) : keyD (edK e) = edD e := rfl
theorem rps_keys {H : Hp} : ∀ k : List Key, Rps H (k.map kD) (k.map kV)
  | [] => rfl
  | x :: k => ⟨_, _, rfl, by cases x <;> exact rfl, rps_keys k⟩
theorem isKeys_rps {H : Hp} {kvs : List (List Key × V)} {bs : List Addr} (h : IsKeys H kvs bs) : ∀ {es : List Ed}, kvs.map (·.1) = es.map edK → Rps H (es.map edD) (bs.map V.ref) := by
  unfold IsKeys at h
  induction h with
  | nil =>
    intro es e
    cases es with
    | nil => exact rfl
    | cons a b => simp at e
  | cons h t ih =>
    intro es e
    cases es with
    | nil => simp at e
    | cons a b =>
      rw [List.map_cons, List.map_cons] at e
      injection e with e1 e2
      refine ⟨_, _, rfl, ?_, ih e2⟩
      rw [← keyD_ed, ← e1]
      refine ⟨_, _, rfl, h, ?_⟩
      exact rps_keys _
section
variable {X : Cx} {e : Expr} {σ : L2.St} {H : Hp} {pos p : Pos} {a : Addr} {n : Nat} {Q : VK}
/-- a reading's wish may be weakened: by way of its rule -/
theorem wE_mono {Q' : VK} (h : wE X e σ H Q') (m : ∀ v H', Q' v H' → Q v H') : wE X e σ H Q := by
  obtain ⟨t, ht, q⟩ := h
  exact ⟨fun σ H Q => ∃ Q', t σ H Q' ∧ ∀ v H', Q' v H' → Q v H', ⟨fun pins s σ H Q I ⟨Q', h', m'⟩ => thn (ht.run pins s σ H Q' I h') fun u s' ⟨v, H', I', r, q'⟩ => ⟨v, H', I', r, m' v H' q'⟩⟩, Q', q, m⟩
theorem wA_mono {es : List Expr} {Q Q' : List V → Hp → Prop} (h : wA X es σ H Q') (m : ∀ v H', Q' v H' → Q v H') : wA X es σ H Q := by
  obtain ⟨t, ht, q⟩ := h
  exact ⟨fun σ H Q => ∃ Q', t σ H Q' ∧ ∀ v H', Q' v H' → Q v H', ⟨fun pos pins s σ H Q I ⟨Q', h', m'⟩ => thn (ht.run pos pins s σ H Q' I h') fun u s' ⟨v, H', I', r, q'⟩ => ⟨v, H', I', r, m' v H' q'⟩⟩, Q', q, m⟩
/-- sorted(d), texts -/
theorem we_sortDS (hm : X.mg "sorted" = none) (h : wE X e σ H fun v H1 => ∃ (a : Addr) (kvs : List (Key × V)) (ks : List Str), v = .ref a ∧ H1 a = some (.dK kvs) ∧ kvs.map (·.1) = ks.map Sum.inr ∧ ks.length < 64 ∧ ∀ (ys : List Str) (p : Addr) (H' : Hp), ys.Perm ks → H1 p = none → Same H1 H' → LstAt H' p (ys.map D.s) → Q (.ref p) H')
    (hc : X.calm = true := by rfl) (hg : Gl X "sorted" := by rfl) (he : starEach [e] X.env = (false, eval e X.env) :: starEach [] X.env := by rfl) (hpl : (backTo pos (starEach [] X.env)).any (·.1) = false := by rfl) : wE X (.Call (.Name "sorted" p) [e] [] pos) σ H Q :=
  ⟨_, pe_callB (call_sortedD hc) hg hm (by decide +kernel) (pa_cons wE_ok pa_nil he) (by decide) (by decide) he hpl, wE_mono h fun v H1 ⟨a, kvs, ks, ev, ha, hk, hl, q⟩ => ⟨a, kvs, ks, by rw [ev], .inl ha, hk, hl, fun ys p hp _ hn => q ys p _ hp hn (same_new hn) ⟨_, upd_same, rps_strs ys⟩⟩⟩
/-- sorted(d), edges as keys -/
theorem we_sortDE (hm : X.mg "sorted" = none) (h : wE X e σ H fun v H1 => ∃ (a : Addr) (kvs : List (List Key × V)) (es : List Ed), v = .ref a ∧ H1 a = some (.dT kvs) ∧ kvs.map (·.1) = es.map edK ∧ ∀ (es' : List Ed) (p : Addr) (H' : Hp), es'.Perm es → H1 p = none → Same H1 H' → LstAt H' p (es'.map edD) → Q (.ref p) H')
    (hc : X.calm = true := by rfl) (hg : Gl X "sorted" := by rfl) (he : starEach [e] X.env = (false, eval e X.env) :: starEach [] X.env := by rfl) (hpl : (backTo pos (starEach [] X.env)).any (·.1) = false := by rfl) : wE X (.Call (.Name "sorted" p) [e] [] pos) σ H Q :=
  ⟨_, pe_callB (cr_sortTriD hc) hg hm (by decide +kernel) (pa_cons wE_ok pa_nil he) (by decide) (by decide) he hpl, wE_mono h fun v H1 ⟨a, kvs, es, ev, ha, hk, q⟩ => ⟨a, kvs, by rw [ev], ha, fun kv hkv => by
    have : kv.1 ∈ es.map edK := by rw [← hk]; exact List.mem_map_of_mem hkv
    obtain ⟨x, _, e2⟩ := List.mem_map.mp this
    exact ⟨_, _, _, e2.symm⟩, fun bs ys p hb hp hn => by
    obtain ⟨es', p1, p2⟩ := rps_perm hp.symm (isKeys_rps hb hk)
    exact q es' p _ p1 hn (same_new hn) ⟨ys, upd_same, p2.mono (same_new hn)⟩⟩⟩
/-- a tuple, tuple(..), item by item -/
theorem wa_nil {Q : List V → Hp → Prop} (h : Q [] H) : wA X [] σ H Q := ⟨_, pa_nil, h⟩
theorem wa_cons {es : List Expr} {Q : List V → Hp → Prop} (h : wE X e σ H fun v H1 => wA X es σ H1 fun vs H2 => Q (v :: vs) H2) (hs : starEach (e :: es) X.env = (false, eval e X.env) :: starEach es X.env := by rfl) : wA X (e :: es) σ H Q := ⟨_, pa_cons wE_ok wA_ok hs, h⟩
theorem we_tup {es : List Expr} {k : Nat} (h : wA X es σ H fun vs H1 => vs.length ≤ 100000 ∧ ∀ p, H1 p = none → Q (.ref p) (upd H1 p (.tup vs))) : wE X (.Tuple es k pos) σ H Q :=
  ⟨_, pe_tup wA_ok, wA_mono h fun vs H1 ⟨h1, h2⟩ => ⟨sz5 h1, h2⟩⟩
theorem we_tupleL (hm : X.mg "tuple" = none) (h : wE X e σ H fun v H1 => ∃ ds, Rp H1 (.l ds) v ∧ ∀ v' H2, Same H1 H2 → Rp H2 (.t ds) v' → Q v' H2)
    (hg : Gl X "tuple" := by rfl) (he : starEach [e] X.env = (false, eval e X.env) :: starEach [] X.env := by rfl) (hpl : (backTo pos (starEach [] X.env)).any (·.1) = false := by rfl) : wE X (.Call (.Name "tuple" p) [e] [] pos) σ H Q :=
  ⟨_, pe_callTy call_tuple_of hg hm (by decide +kernel) (pa_cons wE_ok pa_nil he) (by decide) (by decide) he hpl, wE_mono h fun v H1 ⟨ds, ⟨q1, ys, ev, hq, hy⟩, q⟩ => ⟨q1, ys, by rw [ev], .inl ⟨SqL.of hq, fun l hl => q _ _ (same_new hl) ⟨l, ys, rfl, upd_same, hy.mono (same_new hl)⟩⟩⟩⟩
/-- sorted(xs), edges -/
theorem we_sortE {es : List Ed} (hm : X.mg "sorted" = none) (ha : JE X e σ H (.l (es.map edD))) (q : ∀ (es' : List Ed) (p : Addr) (H' : Hp), es'.Perm es → H p = none → Same H H' → LstAt H' p (es'.map edD) → Q (.ref p) H')
    (hg : Gl X "sorted" := by rfl) (he : starEach [e] X.env = (false, eval e X.env) :: starEach [] X.env := by rfl) (hpl : (backTo pos (starEach [] X.env)).any (·.1) = false := by rfl) : wE X (.Call (.Name "sorted" p) [e] [] pos) σ H Q :=
  ⟨_, pe_callB cr_sortTri hg hm (by decide +kernel) (pa_cons wE_ok pa_nil he) (by decide) (by decide) he hpl, ha H (Same.refl _) _ fun v H1 s1 ⟨q1, xs, ev, h1, h2⟩ => by
    subst ev
    refine ⟨q1, xs, rfl, SqL.of h1, fun x hx => ?_, fun ys p hp hn => ?_⟩
    · obtain ⟨i, hi⟩ := List.mem_iff_getElem?.mp hx
      obtain ⟨d, hd, rd⟩ := h2.back hi
      obtain ⟨ed, _, rfl⟩ := map_at hd
      obtain ⟨t, vs, rfl, h3, h4⟩ := rd
      obtain ⟨v1, v2, v3, rfl, r1, r2, r3⟩ := rps3 h4
      rw [show v1 = .int _ from r1, show v2 = .str _ from r2, show v3 = .int _ from r3] at h3
      exact ⟨t, _, _, _, rfl, h3⟩
    · obtain ⟨es', p1, p2⟩ := rps_perm hp.symm h2
      exact q es' p _ p1 (Same.free s1 hn) (s1.trans (same_new hn)) ⟨ys, upd_same, p2.mono (same_new hn)⟩⟩
/-- {k: v}, ints -/
theorem we_disp1 {k v : Expr} {i j : Int} (hk : JE X k σ H (.i i)) (hv : JE X v σ H (.i j)) (q : ∀ p H1, H p = none → Same H H1 → H1 p = some (.dK [(.inl i, .int j)]) → Q (.ref p) H1) : wE X (.Dict [some k] [v] pos) σ H Q :=
  ⟨_, pe_disp (pps_cons wE_ok wE_ok pps_nil) rfl rfl (by simp) (by show 1 ≤ 15; decide), fun p hp => (hk.mono (same_new hp)).go fun u H1 s1 r1 => ((hv.mono (same_new hp)).mono s1).go fun z H2 s2 r2 => by
    obtain rfl : u = .int i := r1
    obtain rfl : z = .int j := r2
    have h2 : H2 p = some (.dK []) := s2 _ _ (s1 _ _ upd_same)
    have s02 : Same H H2 := ((same_new hp).trans s1).trans s2
    exact ⟨h2, [(.inl i, .int j)], rfl, by show 1 ≤ 15; decide, q p _ hp (Same.mut s02 hp) upd_same⟩⟩
end
end FW
/-! numbered: dict contents -/
namespace FW
open PySem L2
theorem nkey {p q : Nat} : (Sum.inl (p : Int) : Key) = Sum.inl (q : Int) ↔ p = q := by
  constructor
  · intro h
    have := Sum.inl.inj h
    omega
  · rintro rfl; rfl
def NumD (kvs : List (Key × V)) (found : List Nat) : Prop := ∀ p : Nat, valV kvs (.inl (p : Int)) = if p ∈ found then some (.int (found.idxOf p : Nat)) else none
theorem NumD.push {kvs : List (Key × V)} {found : List Nat} (h : NumD kvs found) {p : Nat} (hp : p ∉ found) : NumD (putK kvs (.inl (p : Int)) (.int (found.length : Nat))) (found ++ [p]) := fun q => by
  rw [valV_put, h q]
  by_cases e : q = p
  · subst e
    rw [if_pos rfl, if_pos (by simp), List.idxOf_append, if_neg hp]
    simp
  · rw [if_neg fun z => e (nkey.mp z)]
    by_cases hq : q ∈ found
    · rw [if_pos hq, if_pos (List.mem_append_left _ hq), List.idxOf_append, if_pos hq]
    · rw [if_neg hq, if_neg (by simp [hq, e])]
def sgW (b : Bool) : Int := if b then -1 else 1
def wk (a : Nat) (x : L) : List Key := [.inl (a : Int), .inr (enc [(x.1, false)]), .inl (sgW x.2)]
theorem wk_inj {a b : Nat} {x y : L} (h : wk a x = wk b y) : a = b ∧ x = y := by
  unfold wk at h
  injection h with h1 h
  injection h with h2 h
  injection h with h3 h
  have e1 := Sum.inl.inj h1
  have e2 := enc_inj (Sum.inr.inj h2)
  have e3 := Sum.inl.inj h3
  obtain ⟨k, c⟩ := x
  obtain ⟨l, d⟩ := y
  have e2 : k = l := by simpa using e2
  refine ⟨by omega, ?_⟩
  cases c <;> cases d <;> simp_all [sgW]
def WayD (kvt : List (List Key × V)) (es : List Ed) : Prop := ∀ (a : Nat) (x : L), (∀ b : Nat, Eg es a x b → valV kvt (wk a x) = some (.int (b : Int))) ∧ ∀ v, valV kvt (wk a x) = some v → ∃ b : Nat, v = .int (b : Int) ∧ Eg es a x b
theorem eg_snoc2 {G : List Ed} {a b : Nat} {k : Fin 3} {c d : Nat} {x : L} : Eg (G ++ [(a, k, b)]) c x d ↔ Eg G c x d ∨ (c = a ∧ x = (k, false) ∧ d = b) ∨ (c = b ∧ x = (k, true) ∧ d = a) := by
  have := eg_snoc (G := G) (here := a) (m := b) (y := (k, false)) (a := c) (b := d) (x := x)
  exact this
theorem WayD.nil : WayD [] [] := fun a x => ⟨fun b h => by
  obtain ⟨k, c⟩ := x
  cases c <;> simp [Eg] at h, fun v h => by cases h⟩
theorem WayD.put {kvt : List (List Key × V)} {es : List Ed} {a b : Nat} {k : Fin 3} (h : WayD kvt es) (hd : Det (es ++ [(a, k, b)])) : WayD (putK (putK kvt (wk a (k, false)) (.int (b : Int))) (wk b (k, true)) (.int (a : Int))) (es ++ [(a, k, b)]) := fun c x => by
  have hval : valV (putK (putK kvt (wk a (k, false)) (.int (b : Int))) (wk b (k, true)) (.int (a : Int))) (wk c x) = if wk c x = wk b (k, true) then some (.int (a : Int)) else if wk c x = wk a (k, false) then some (.int (b : Int)) else valV kvt (wk c x) := by
    rw [valV_put, valV_put]
  rw [hval]
  by_cases h1 : c = b ∧ x = (k, true)
  · obtain ⟨rfl, rfl⟩ := h1
    rw [if_pos rfl]
    have e1 : Eg (es ++ [(a, k, c)]) c (k, true) a := eg_snoc2.mpr (.inr (.inr ⟨rfl, rfl, rfl⟩))
    refine ⟨fun d hd2 => by rw [hd c _ d a hd2 e1], fun v hv => ⟨a, (Option.some.inj hv).symm, e1⟩⟩
  · rw [if_neg fun z => h1 (wk_inj z)]
    by_cases h2 : c = a ∧ x = (k, false)
    · obtain ⟨rfl, rfl⟩ := h2
      rw [if_pos rfl]
      have e1 : Eg (es ++ [(c, k, b)]) c (k, false) b := eg_snoc2.mpr (.inr (.inl ⟨rfl, rfl, rfl⟩))
      refine ⟨fun d hd2 => by rw [hd c _ d b hd2 e1], fun v hv => ⟨b, (Option.some.inj hv).symm, e1⟩⟩
    · rw [if_neg fun z => h2 (wk_inj z)]
      obtain ⟨q1, q2⟩ := h c x
      refine ⟨fun d hd2 => ?_, fun v hv => ?_⟩
      · rcases eg_snoc2.mp hd2 with p | ⟨p1, p2, _⟩ | ⟨p1, p2, _⟩
        · exact q1 d p
        · exact absurd ⟨p1, p2⟩ h2
        · exact absurd ⟨p1, p2⟩ h1
      · obtain ⟨d, e, hd2⟩ := q2 v hv
        exact ⟨d, e, eg_snoc2.mpr (.inl hd2)⟩
/-! keys put one behind the other -/
theorem putK_keys {κ : Type} [DecidableEq κ] (kvs : List (κ × V)) (k : κ) (v : V) : (putK kvs k v).map (·.1) = addN (kvs.map (·.1)) k := by
  unfold putK addN
  have e : (kvs.any fun kv => decide (kv.1 = k)) = decide (k ∈ kvs.map (·.1)) := by
    rw [Bool.eq_iff_iff, List.any_eq_true, decide_eq_true_iff, List.mem_map]
    constructor
    · rintro ⟨x, hx, hk⟩
      exact ⟨x, hx, of_decide_eq_true hk⟩
    · rintro ⟨x, hx, hk⟩
      exact ⟨x, hx, decide_eq_true hk⟩
  rw [e]
  by_cases h : k ∈ kvs.map (·.1)
  · rw [if_pos (decide_eq_true h), if_pos h, List.map_map]
    refine List.map_congr_left fun x hx => ?_
    show (if x.1 = k then (x.1, v) else x).1 = x.1
    split <;> rfl
  · rw [if_neg (by simpa using h), if_neg h, List.map_append] <;> rfl
theorem addN_map {A κ : Type} [DecidableEq A] [DecidableEq κ] {K : A → κ} (hK : ∀ a b, K a = K b → a = b) (l : List A) (x : A) : addN (l.map K) (K x) = (addN l x).map K := by
  unfold addN
  by_cases h : x ∈ l
  · rw [if_pos h, if_pos (List.mem_map_of_mem h)]
  · rw [if_neg h, if_neg (fun z => by
      obtain ⟨y, hy, e⟩ := List.mem_map.mp z
      exact h (hK _ _ e ▸ hy)), List.map_append] <;> rfl
theorem edK_inj {a b : Ed} (h : edK a = edK b) : a = b := by
  obtain ⟨i, k, j⟩ := a
  obtain ⟨i', k', j'⟩ := b
  unfold edK at h
  injection h with h1 h
  injection h with h2 h
  injection h with h3 h
  have e1 := Sum.inl.inj h1
  have e2 := enc_inj (Sum.inr.inj h2)
  have e3 := Sum.inl.inj h3
  have e2 : k = k' := by simpa using e2
  have e1 : i = i' := by have e1 : (i : Int) = (i' : Int) := e1; omega
  have e3 : j = j' := by have e3 : (j : Int) = (j' : Int) := e3; omega
  rw [e1, e2, e3]
def labK (k : Fin 3) : Key := .inr (enc [(k, false)])
theorem labK_inj {a b : Fin 3} (h : labK a = labK b) : a = b := by
  have := enc_inj (Sum.inr.inj h)
  simpa using this
/-- a dict made by a comprehension, its keys -/
def dcF {A κ : Type} [DecidableEq κ] (f : A → Option κ) (z : V) (es : List A) : Nat → List (κ × V)
  | 0 => []
  | i + 1 => match es[i]? with
    | some e => (match f e with
      | some k => putK (dcF f z es i) k z
      | none => dcF f z es i)
    | none => dcF f z es i
theorem dcF_len {A κ : Type} [DecidableEq κ] (f : A → Option κ) (z : V) (es : List A) : ∀ i, (dcF f z es i).length ≤ i
  | 0 => Nat.le_refl _
  | i + 1 => by
    have ih := dcF_len f z es i
    unfold dcF
    split
    · split
      · exact Nat.le_trans (length_putK _ _ _) (by omega)
      · omega
    · omega
theorem dcF_keys {A B κ : Type} [DecidableEq κ] [DecidableEq B] {K : B → κ} (hK : ∀ a b, K a = K b → a = b) (g : A → Option B) (z : V) (es : List A) : ∀ i, i ≤ es.length → (dcF (fun e => (g e).map K) z es i).map (·.1) = (uniq ((es.take i).filterMap g)).map K
  | 0, _ => rfl
  | i + 1, hi => by
    have ih := dcF_keys hK g z es i (by omega)
    have he : es[i]? = some es[i] := List.getElem?_eq_getElem (by omega)
    have ht : es.take (i + 1) = es.take i ++ [es[i]] := by rw [List.take_succ, he] <;> rfl
    generalize es[i] = e at he ht
    unfold dcF
    rw [he, ht, List.filterMap_append]
    cases h : g e with
    | none =>
      have : ([e] : List A).filterMap g = [] := by simp [h]
      rw [this, List.append_nil]
      simp only [h, Option.map_none]
      exact ih
    | some b =>
      have : ([e] : List A).filterMap g = [b] := by simp [h]
      rw [this, uniq_snoc, ← addN_map hK, ← ih]
      simp only [h, Option.map_some]
      exact putK_keys _ _ _
end FW
/-! numbered -/
namespace FW
open PySem L2
theorem JV.go {X : Cx} {e : Expr} {σ : L2.St} {H : Hp} {v : V} {Q : VK} (h : JV X e σ H v) (k : ∀ H2, Same H H2 → Q v H2) : wE X e σ H Q := h H (Same.refl _) Q k
section
variable {P : Program} {w : World} {K : PySem.W.Frag} {mg : Str → Option Value} {base : Heap}
def graphD (n : Nat) (G : List Ed) : D := .t [.i (n : Int), .t (G.map edD)]
structure NB where
  es : List Ed
  N : Nat
def ar_num (b : NB) : List D := [.l (b.es.map edD)]
structure NumPre (b : NB) : Prop where
  det : Det b.es
  lt : ∀ e ∈ b.es, e.1 < b.N ∧ e.2.2 < b.N
  pos : 0 < b.N
  n60 : b.N ≤ 60
  e60 : b.es.length ≤ 60
def fi_num (b : NB) (d : D) : Prop := ∃ n G, d = graphD n G ∧ NumOk b.es n G ∧ n ≤ b.N ∧ G.length ≤ b.es.length
abbrev s_num : Stmt := topS 33
theorem sc_num : FnScope ["edges", "numbers", "found", "letters", "ways", "start", "letter", "end", "at", "sign", "point", "rows"] ["edges"] (defScope s_num) := ⟨rfl, rfl, rfl, by decide +kernel, rfl, by decide +kernel, by decide +kernel⟩
/-- the search in the heap -/
structure BS (H H5 H' : Hp) (pn pf : Addr) (es : List Ed) (N at_ : Nat) (found : List Nat) : Prop where
  same : Same H H'
  keep : KeepL [pn, pf] H5 H'
  kt : KeepT H5 H'
  num : ∃ kvs, H' pn = some (.dK kvs) ∧ NumD kvs found ∧ kvs.length ≤ found.length
  fnd : LstAt H' pf (natsD found)
  inv : BInv es N at_ found
theorem BS.mono {H H5 H' H'' : Hp} {pn pf : Addr} {es : List Ed} {N at_ : Nat} {found : List Nat} (b : BS H H5 H' pn pf es N at_ found) (s : Same H' H'') : BS H H5 H'' pn pf es N at_ found :=
  ⟨b.same.trans s, b.keep.trans (same_keepL s _), b.kt.trans (Same.keepT s), let ⟨kvs, h1, h2, h3⟩ := b.num; ⟨kvs, s _ _ h1, h2, h3⟩, b.fnd.mono s, b.inv⟩
theorem ok_num (T : Txt K mg) : FnOk P w K mg base CX0 1 T.numbered.f T.numbered.fd ["edges"] (spR ar_num NumPre fi_num) := by
  refine T.numbered.F.ok sc_num (fun vs H Q E h => spR_len (n := 1) (fun b => rfl) h) (fun cdv A0 outer s H vs Q E hr h => ?_)
  obtain ⟨⟨es, N⟩, rr, hP, k⟩ := h
  have hdet : Det es := hP.det
  have hlt : ∀ e ∈ es, e.1 < N ∧ e.2.2 < N := hP.lt
  have hpos : 0 < N := hP.pos
  have h60 : N ≤ 60 := hP.n60
  have he60 : es.length ≤ 60 := hP.e60
  obtain ⟨va, rfl, ra⟩ := rps1 rr
  obtain ⟨q0, ws, rfl, hq0, rq0⟩ := (show Rp H (.l (es.map edD)) va from ra)
  have hwl : ws.length = es.length := by rw [rq0.len]; simp
  have hE : LstAt H q0 (es.map edD) := ⟨ws, hq0, rq0⟩
  refine ⟨_, wSs_ok, ?_⟩
  refine ws_setE 1 sc_num.nd (we_disp1 (je_int (i := 0)) (je_int (i := 0)) fun pn H1 z1 s1 h1 => ?_)
  refine ws_setF 2 sc_num.nd (jf_lst (ja_cons (JE.of je_int (show D.i 0 = D.i ((0 : Nat) : Int) from rfl)) ja_nil) (by show 1 ≤ 100000; decide)) fun pf us2 H2 z2 s2 h2 r2 => ?_
  have r2 : Rps H2 (natsD [0]) us2 := r2
  have s02 := s1.trans s2
  -- letters
  refine ws_setE 3 sc_num.nd (we_sortDS T.b_sorted (jd_K (own := [("start", 5), ("letter", 6), ("end", 7)]) (g := gTup K 3 (gCons (gName 5) (gCons (gName 6) (gCons (gName 7) gNil)))) (tt := tYes) (items := es.map edD) (dcF (fun e : Ed => (some e.2.1 : Option (Fin 3)).map labK) (.bl true) es) rfl (fun i hi => by have := dcF_len (fun e : Ed => (some e.2.1 : Option (Fin 3)).map labK) (.bl true) es i; simp at hi; omega) sc_num.nd (blkOk_by (N := ["edges", "numbers", "found", "letters", "ways", "start", "letter", "end", "at", "sign", "point", "rows"]) (sc := defScope s_num) (by decide +kernel))
    (ji_list ((jv_var 0).je (hE.mono s02).rp)) gm_tup3 (fun _ _ _ _ _ => pg_tup rfl (pgs_cons (pg_name (i := 5) sc_num.nd rfl (.inl rfl)) (pgs_cons (pg_name (i := 6) sc_num.nd rfl (.inl rfl)) (pgs_cons (pg_name (i := 7) sc_num.nd rfl (.inl rfl)) pgs_nil)))) (fun _ _ _ _ _ => pts_nil) (fun i d v H3 e1 s3 r3 => ?_) (fun pd H3 z3 s3 h3 => ?_)))
  · obtain ⟨e, he, rfl⟩ := map_at e1
    refine gTup3 r3 fun v1 v2 v3 q1 q2 q3 => ⟨rfl, rfl, .inl ⟨labK e.2.1, .bl true, .b true, ?_, fun _ => rfl, fun _ v h => h, fun H4 s4 Q q => q H4 (Same.refl _), fun sh Hb C cl fp => je_var 6 rfl q2, fun sh Hb C cl fp => je_bl⟩⟩
    show dcF _ _ es (i + 1) = _
    rw [dcF, he]
    rfl
  · have hel : (es.map edD).length = es.length := by simp
    rw [hel] at h3
    have hkeys := dcF_keys (K := labK) (fun a b => labK_inj) (fun e : Ed => (some e.2.1 : Option (Fin 3))) (.bl true) es es.length (Nat.le_refl _)
    rw [List.take_length] at hkeys
    generalize hlabs : uniq (es.filterMap fun e : Ed => (some e.2.1 : Option (Fin 3))) = labs at hkeys
    have hll : labs.length ≤ es.length := by
      rw [← hlabs]
      exact Nat.le_trans (uniq_len _) (List.length_filterMap_le _ _)
    have hlm : ∀ e ∈ es, e.2.1 ∈ labs := fun e he => by
      rw [← hlabs, mem_uniq, List.mem_filterMap]
      exact ⟨e, he, rfl⟩
    refine ⟨pd, _, labs.map fun k => enc [(k, false)], rfl, h3, by rw [hkeys, List.map_map] <;> rfl, by rw [List.length_map]; omega, fun ys pl H4 hperm z4 s4 l4 => ?_⟩
    obtain ⟨ls, hpl, rfl⟩ := perm_back hperm.symm rfl
    have hls : ∀ e ∈ es, e.2.1 ∈ ls := fun e he => hpl.mem_iff.mpr (hlm e he)
    have h1_3 : H3 pn = some (.dK [(.inl 0, .int 0)]) := s3 _ _ (s2 _ _ h1)
    have h2_3 : H3 pf = some (.lst us2) := s3 _ _ h2
    have n1 : pl ≠ pn := fun e => by rw [e, h1_3] at z4; cases z4
    have n2 : pl ≠ pf := fun e => by rw [e, h2_3] at z4; cases z4
    have n3 : pn ≠ pf := fun e => by rw [← e, h1] at z2; cases z2
    have zpn : H pn = none := z1
    have zpf : H pf = none := Same.free s1 z2
    have s04 := (s02.trans s3).trans s4
    -- ways
    refine ws_setE 4 sc_num.nd (we_newT fun pw H5 z5 s5 h5 => ?_)
    have n4 : pw ≠ pn := fun e => by rw [e, s4 _ _ h1_3] at z5; cases z5
    have n5 : pw ≠ pf := fun e => by rw [e, s4 _ _ h2_3] at z5; cases z5
    have s05 := s04.trans s5
    refine ws_forK (q := q0) (ws := ws) (jv_var 0) (s05 _ _ hq0) (pg_tup rfl (pgs_cons (pg_name (i := 5) sc_num.nd rfl (.inl rfl)) (pgs_cons (pg_name (i := 6) sc_num.nd rfl (.inl rfl)) (pgs_cons (pg_name (i := 7) sc_num.nd rfl (.inl rfl)) pgs_nil))))
      (fun i σ' H' => ∃ (kvt : List (List Key × V)) (x5 x6 x7 : Option V), σ' = [some (.ref q0), some (.ref pn), some (.ref pf), some (.ref pl), some (.ref pw), x5, x6, x7, none, none, none, none] ∧ Same H4 H' ∧ H' pw = some (.dT kvt) ∧ WayD kvt (es.take i) ∧ kvt.length ≤ 2 * i)
      (fun H6 s6 => ⟨[], none, none, none, rfl, s5.trans s6, s6 _ _ h5, WayD.nil, Nat.zero_le _⟩) (fun i σ' H' ⟨_, _, _, _, _, s6, _⟩ => s6 _ _ (s04 _ _ hq0)) ?_ ?_
    · rintro i v σ' H6 hv ⟨kvt, x5, x6, x7, rfl, s6, h6, hW, hkl⟩
      obtain ⟨d, hd, rd⟩ := (rq0.mono (s04.trans s6)).back hv
      obtain ⟨⟨a, l, b⟩, he, rfl⟩ := map_at hd
      have hil : i < es.length := (List.getElem?_eq_some_iff.mp he).1
      refine gTup3 rd fun v1 v2 v3 q1 q2 q3 => ?_
      obtain rfl : v1 = .int (a : Int) := q1
      obtain rfl : v2 = .str (enc [(l, false)]) := q2
      obtain rfl : v3 = .int (b : Int) := q3
      show wSs _ _ _ [some (.ref q0), some (.ref pn), some (.ref pf), some (.ref pl), some (.ref pw), some (.int (a : Int)), some (.str (enc [(l, false)])), some (.int (b : Int)), none, none, none, none] H6
      refine ws_dputT (kt := wk a (l, false)) (d := .i (b : Int)) hr (jv_var 4) h6 (by omega) (je_tup (ja_cons (je_var (d := .i (a : Int)) 5 rfl rfl) (ja_cons (je_var (d := wD [(l, false)]) 6 rfl rfl) (ja_cons (je_int (i := 1)) ja_nil))) (by show 3 ≤ 100000; decide)) (je_var 7 rfl rfl) fun v7 H7 s7 h7 r7 => ?_
      obtain rfl : v7 = .int (b : Int) := r7
      have hk1 := length_putK kvt (wk a (l, false)) (.int (b : Int))
      refine ws_dputT (kt := wk b (l, true)) (d := .i (a : Int)) hr (jv_var 4) upd_same (by omega) (je_tup (ja_cons (je_var (d := .i (b : Int)) 7 rfl rfl) (ja_cons (je_var (d := wD [(l, false)]) 6 rfl rfl) (ja_cons je_m1 ja_nil))) (by show 3 ≤ 100000; decide)) (je_var 5 rfl rfl) fun v8 H8 s8 h8 r8 => ws_nil ?_
      obtain rfl : v8 = .int (a : Int) := r8
      have hk2 := length_putK (putK kvt (wk a (l, false)) (.int (b : Int))) (wk b (l, true)) (.int (a : Int))
      refine ⟨_, _, _, _, rfl, Same.mut ((Same.mut (s6.trans s7) z5).trans s8) z5, upd_same, ?_, by omega⟩
      rw [take_snoc he]
      refine hW.put ?_
      rw [← take_snoc he]
      exact fun c x d1 d2 e1 e2 => hdet c x d1 d2 (eg_sub (fun e he => List.mem_of_mem_take he) e1) (eg_sub (fun e he => List.mem_of_mem_take he) e2)
    · rintro σ' H6 ⟨kvt, x5, x6, x7, rfl, s6, h6, hW, hkl⟩
      rw [hwl, List.take_length] at hW
      refine ws_set 8 sc_num.nd (d := .i ((0 : Nat) : Int)) je_int fun v7 H7 s7 r7 => ?_
      obtain rfl : v7 = .int ((0 : Nat) : Int) := r7
      have s07 := (s04.trans s6).trans s7
      have h7 := s7 _ _ h6
      have l7 : LstAt H7 pl (ls.map fun k => wD [(k, false)]) := by
        have := l4.mono (s6.trans s7)
        rw [List.map_map] at this
        exact this
      have b0 : BS H H7 H7 pn pf es N 0 [0] := ⟨s07, fun _ _ _ e => e, Same.keepT (Same.refl _), ⟨_, (s4.trans (s6.trans s7)) _ _ h1_3, fun p => by
        by_cases e : p = 0
        · subst e
          rfl
        · rw [if_neg (by simpa using e)]
          rw [valV_neg (by
            intro z
            have := Sum.inl.inj z
            omega)] <;> rfl, by simp⟩, ⟨us2, (s4.trans (s6.trans s7)) _ _ h2_3, (r2.mono s3).mono (s4.trans (s6.trans s7))⟩, ⟨by simp, rfl, fun p hp => by simp at hp; omega, Nat.zero_le _, fun i a h => absurd h (Nat.not_lt_zero i)⟩⟩
      clear s6 h6
      refine ws_while (fun m σ' H' => ∃ (at_ : Nat) (found : List Nat) (x5 x6 x7 x9 x10 x11 : Option V), σ' = [some (.ref q0), some (.ref pn), some (.ref pf), some (.ref pl), some (.ref pw), x5, x6, x7, some (.int (at_ : Int)), x9, x10, x11] ∧ BS H H7 H' pn pf es N at_ found ∧ m = N - at_) _ ⟨0, [0], _, _, _, _, _, _, rfl, b0, rfl⟩ ?_
      rintro m σ' H8 ⟨at_, found, x5, x6, x7, x9, x10, x11, rfl, b8, rfl⟩
      refine ⟨decide ((at_ : Int) < (found.length : Int)), JT.of (jt_ltI (je_var 8 rfl (intRp at_)) (je_lenL T.b_len (je_var 2 rfl b8.fnd.rp))) (by rw [nats_len]), fun hc H9 s9 => ?_, fun hc H9 s9 => ?_⟩
      · have hc := of_decide_eq_true hc
        have hatl : at_ < found.length := by omega
        have hfl : found.length ≤ N := nodup_len _ _ b8.inv.nodup b8.inv.lt
        have b9 := b8.mono s9
        have ha : found[at_]? = some found[at_] := List.getElem?_eq_getElem hatl
        generalize found[at_] = a at ha
        obtain ⟨lw, hl7, rl7⟩ := l7
        have hlwl : lw.length = ls.length := by rw [rl7.len]; simp
        have npl : pl ∉ [pn, pf] := by simp [n1, n2]
        have npw : pw ∉ [pn, pf] := by simp [n4, n5]
        refine ws_forK (q := pl) (ws := lw) (jv_var 3) (b9.keep _ _ npl hl7) (pg_name (i := 6) sc_num.nd rfl (.inl rfl))
          (fun j σ' H' => ∃ (found : List Nat) (x6 x9 x10 : Option V), σ' = [some (.ref q0), some (.ref pn), some (.ref pf), some (.ref pl), some (.ref pw), x5, x6, x7, some (.int (at_ : Int)), x9, x10, x11] ∧ BS H H7 H' pn pf es N at_ found ∧ found[at_]? = some a ∧ ∀ j' k, j' < j → ls[j']? = some k → ∀ s b, Eg es a (k, s) b → b ∈ found)
          (fun H10 s10 => ⟨found, _, _, _, rfl, b9.mono s10, ha, fun j' k h => absurd h (Nat.not_lt_zero j')⟩) (fun j σ' H' ⟨_, _, _, _, _, b, _⟩ => b.keep _ _ npl hl7) ?_ ?_
        · rintro j v σ' H10 hv ⟨found, y6, y9, y10, rfl, b10, ha, hold⟩
          obtain ⟨d, hd, rd⟩ := rl7.back hv
          obtain ⟨l, hl, rfl⟩ := map_at hd
          obtain rfl : v = .str (enc [(l, false)]) := rd
          show wSs _ _ _ [some (.ref q0), some (.ref pn), some (.ref pf), some (.ref pl), some (.ref pw), x5, some (.str (enc [(l, false)])), x7, some (.int (at_ : Int)), y9, y10, x11] H10
          refine ws_forT (ds := [.i 1, .i (-1)]) (je_tup (ja_cons je_int (ja_cons je_m1 ja_nil)) (by show 2 ≤ 100000; decide)) (pg_name (i := 9) sc_num.nd rfl (.inl rfl))
            (fun q tws i σ' H' => ∃ (found : List Nat) (x9 x10 : Option V), σ' = [some (.ref q0), some (.ref pn), some (.ref pf), some (.ref pl), some (.ref pw), x5, some (.str (enc [(l, false)])), x7, some (.int (at_ : Int)), x9, x10, x11] ∧ BS H H7 H' pn pf es N at_ found ∧ found[at_]? = some a ∧ (∀ j' k, j' < j → ls[j']? = some k → ∀ s b, Eg es a (k, s) b → b ∈ found) ∧ (1 ≤ i → ∀ b, Eg es a (l, false) b → b ∈ found) ∧ (2 ≤ i → ∀ b, Eg es a (l, true) b → b ∈ found) ∧ H' q = some (.tup tws) ∧ Rps H' [.i 1, .i (-1)] tws)
            (fun q tws H11 s11 hq rq => ⟨found, _, _, rfl, b10.mono s11, ha, hold, fun h => absurd h (by omega), fun h => absurd h (by omega), hq, rq⟩) (fun q tws i σ' H' ⟨_, _, _, _, _, _, _, _, _, hq, rq⟩ => ⟨hq, rq⟩) ?_ ?_
          · rintro q tws i d v σ' H11 hd rd ⟨found, w9, w10, rfl, b11, ha, hold, hp1, hp2, hq, rq⟩
            obtain ⟨sg, rfl, hi⟩ : ∃ sg : Bool, d = .i (sgW sg) ∧ i = if sg then 1 else 0 := by
              match i, hd with
              | 0, hd => exact ⟨false, (Option.some.inj hd).symm, rfl⟩
              | 1, hd => exact ⟨true, (Option.some.inj hd).symm, rfl⟩
            obtain rfl : v = .int (sgW sg) := rd
            show wSs _ _ _ [some (.ref q0), some (.ref pn), some (.ref pf), some (.ref pl), some (.ref pw), x5, some (.str (enc [(l, false)])), x7, some (.int (at_ : Int)), some (.int (sgW sg)), w10, x11] H11
            have hdone : ∀ fd : List Nat, (∀ x ∈ found, x ∈ fd) → (∀ b, Eg es a (l, sg) b → b ∈ fd) → (∀ j' k, j' < j → ls[j']? = some k → ∀ s b, Eg es a (k, s) b → b ∈ fd) ∧ (1 ≤ i + 1 → ∀ b, Eg es a (l, false) b → b ∈ fd) ∧ (2 ≤ i + 1 → ∀ b, Eg es a (l, true) b → b ∈ fd) := fun fd hsub hnew => by
              refine ⟨fun j' k hj hk s b hb => hsub _ (hold j' k hj hk s b hb), fun _ b hb => ?_, fun h2 b hb => ?_⟩
              · cases sg with
                | false => exact hnew b hb
                | true => exact hsub _ (hp1 (by rw [hi]; decide) b hb)
              · cases sg with
                | false => rw [hi] at h2; exact absurd h2 (by decide)
                | true => exact hnew b hb
            obtain ⟨o, ho, hog⟩ : ∃ o : Option Nat, valV kvt (wk a (l, sg)) = o.map (fun b : Nat => V.int (b : Int)) ∧ ∀ b, Eg es a (l, sg) b → o = some b := by
              obtain ⟨w1, w2⟩ := hW a (l, sg)
              cases hval : valV kvt (wk a (l, sg)) with
              | none => exact ⟨none, rfl, fun b hb => by rw [w1 b hb] at hval; cases hval⟩
              | some u =>
                obtain ⟨b, rfl, _⟩ := w2 u hval
                refine ⟨some b, rfl, fun c hc => ?_⟩
                rw [w1 c hc] at hval
                have := V.int.inj (Option.some.inj hval)
                congr 1
                omega
            have hol : ∀ b, o = some b → b < N := fun b hb => by
              rw [hb] at ho
              obtain ⟨c, hc, hg⟩ := (hW a (l, sg)).2 _ ho
              have : b = c := by have := V.int.inj hc; omega
              rw [this]
              exact (eg_lt hlt hg).2
            have h11 : H11 pw = some (.dT kvt) := b11.keep _ _ npw h7
            refine ws_set 10 sc_num.nd (d := optD o) (je_dgetT hr (jv_var 4) h11 (kt := wk a (l, sg)) (je_tup (ja_cons (je_ixLn (d := .i (a : Int)) (je_var 2 rfl b11.fnd.rp) (je_var 8 rfl (intRp at_)) (by unfold natsD; rw [List.getElem?_map, ha] <;> rfl)) (ja_cons (je_var (d := wD [(l, false)]) 6 rfl rfl) (ja_cons (je_var (d := .i (sgW sg)) 9 rfl rfl) ja_nil))) (by show 3 ≤ 100000; decide)) je_non (fun H2 _ => by
              rw [ho]
              cases o <;> exact rfl)) fun v12 H12 s12 r12 => ?_
            have b12 := b11.mono s12
            have hq12 := s12 _ _ hq
            have rq12 := rq.mono s12
            obtain ⟨kvs, hn12, hnd, hnl⟩ := b12.num
            cases o with
            | none =>
              refine ws_ifF (jt_and2 (x := false) (y := true) (JT.of (jt_notN (je_var 10 rfl r12)) rfl) (fun z => by cases z) rfl) fun H13 s13 => ws_nil ?_
              obtain ⟨g1, g2, g3⟩ := hdone found (fun x h => h) fun b hb => by cases hog b hb
              exact ⟨found, _, _, rfl, b12.mono s13, ha, g1, g2, g3, s13 _ _ hq12, rq12.mono s13⟩
            | some b =>
              obtain rfl : v12 = .int (b : Int) := r12
              refine ws_if (k := !decide (b ∈ found)) (jt_and2 (x := true) (y := !decide (b ∈ found)) (JT.of (jt_notN (je_var (d := .i (b : Int)) 10 rfl rfl)) rfl) (fun _ => JT.of (jt_dninK (k := .inl (b : Int)) hr (jv_var 1) hn12 (je_var 10 rfl rfl)) (by
                rw [hnd b]
                by_cases hb : b ∈ found <;> simp [hb])) rfl) (fun hk H13 s13 => ?_) (fun hk H13 s13 => ws_nil (ws_nil ?_))
              · have hb : b ∉ found := by simpa using hk
                have hbN := hol b rfl
                have b13 := b12.mono s13
                have hfl : found.length ≤ N := nodup_len _ _ b13.inv.nodup b13.inv.lt
                refine ws_dputK (k := .inl (b : Int)) (d := .i (found.length : Int)) hr (jv_var 1) (s13 _ _ hn12) (by omega) (je_var 10 rfl rfl) (JE.of (je_lenL T.b_len (je_var 2 rfl b13.fnd.rp)) (by rw [nats_len])) fun v14 H14 s14 h14 r14 => ?_
                obtain rfl : v14 = .int (found.length : Int) := r14
                have b14 := b13.mono s14
                have kt14 : KeepT H14 (upd H14 pn (.dK (putK kvs (.inl (b : Int)) (.int (found.length : Int))))) := keepT_dK h14
                have f15 : LstAt (upd H14 pn (.dK (putK kvs (.inl (b : Int)) (.int (found.length : Int))))) pf (natsD found) := b14.fnd.keep (ls := [pn]) (by simpa using Ne.symm n3) (keepL_upd (by simp)) kt14 (imms_nats _)
                have s15 : Same H (upd H14 pn (.dK (putK kvs (.inl (b : Int)) (.int (found.length : Int))))) := Same.mut b14.same zpn
                have k15 : KeepL [pn, pf] H7 (upd H14 pn (.dK (putK kvs (.inl (b : Int)) (.int (found.length : Int))))) := b14.keep.trans (keepL_upd (by simp))
                have t15 := b14.kt.trans kt14
                have e15 : upd H14 pn (.dK (putK kvs (.inl (b : Int)) (.int (found.length : Int)))) pn = some (.dK (putK kvs (.inl (b : Int)) (.int (found.length : Int)))) := upd_same
                have hq15 := kt14.1 _ _ (s14 _ _ (s13 _ _ hq12))
                have rq15 := Rps.imm kt14 rfl (rq12.mono (s13.trans s14))
                generalize upd H14 pn (.dK (putK kvs (.inl (b : Int)) (.int (found.length : Int)))) = H15 at kt14 f15 s15 k15 t15 e15 hq15 rq15
                obtain ⟨us15, g15, r15⟩ := f15
                refine ws_app (d := .i (b : Int)) (wv_var 2) g15 (je_var 10 rfl rfl) (by rw [r15.len, nats_len]; omega) fun v16 H16 s16 r16 => ws_nil (ws_nil ?_)
                have kt16 : KeepT H16 (upd H16 pf (.lst (us15 ++ [v16]))) := keepT_lst (s16 _ _ g15)
                obtain ⟨g1, g2, g3⟩ := hdone (found ++ [b]) (fun x h => List.mem_append_left _ h) fun c hc => by
                  have := Option.some.inj (hog c hc)
                  subst this
                  simp
                refine ⟨found ++ [b], _, _, rfl, ⟨Same.mut (s15.trans s16) zpf, (k15.trans (same_keepL s16 _)).trans (keepL_upd (by simp)), (t15.trans (Same.keepT s16)).trans kt16, ⟨_, by rw [upd_ne n3]; exact s16 _ _ e15, hnd.push hb, ?_⟩, ⟨us15 ++ [v16], upd_same, ?_⟩, b14.inv.push hbN hb⟩, ?_, g1, g2, g3, kt16.1 _ _ (s16 _ _ hq15), Rps.imm kt16 rfl (rq15.mono s16)⟩
                · have := length_putK kvs (.inl (b : Int) : Key) (.int (found.length : Int))
                  rw [List.length_append, List.length_singleton]
                  omega
                · rw [← nats_app]
                  refine Rps.imm kt16 (by rw [nats_app]; exact imms_nats _) (Rps.app (r15.mono s16) (.cons r16 rfl))
                · rw [List.getElem?_append_left (List.getElem?_eq_some_iff.mp ha).1]
                  exact ha
              · have hb : b ∈ found := by simpa using hk
                obtain ⟨g1, g2, g3⟩ := hdone found (fun x h => h) fun c hc => by
                  have := Option.some.inj (hog c hc)
                  rw [← this]
                  exact hb
                exact ⟨found, _, _, rfl, b12.mono s13, ha, g1, g2, g3, s13 _ _ hq12, rq12.mono s13⟩
          · rintro q tws σ' H11 ⟨found, w9, w10, rfl, b11, ha, hold, hp1, hp2, hq, rq⟩
            refine ws_nil ⟨found, _, _, _, rfl, b11, ha, fun j' k' hj hk s b hb => ?_⟩
            by_cases hjj : j' < j
            · exact hold j' k' hjj hk s b hb
            · have : j' = j := by omega
              subst this
              rw [hl] at hk
              obtain rfl := Option.some.inj hk
              cases s with
              | false => exact hp1 (by show 1 ≤ 2; decide) b hb
              | true => exact hp2 (by show 2 ≤ 2; decide) b hb
        · rintro σ' H10 ⟨found, y6, y9, y10, rfl, b10, ha, hold⟩
          refine ws_set 8 sc_num.nd (d := .i ((at_ + 1 : Nat) : Int)) (JE.of (je_addI (je_var 8 rfl (intRp at_)) je_int) (by congr 1)) fun v11 H11 s11 r11 => ws_nil ?_
          obtain rfl : v11 = .int ((at_ + 1 : Nat) : Int) := r11
          have b11 := b10.mono s11
          refine ⟨N - (at_ + 1), by omega, at_ + 1, found, _, _, _, _, _, _, rfl, ⟨b11.same, b11.keep, b11.kt, b11.num, b11.fnd, b11.inv.next ha fun x b hb => ?_⟩, rfl⟩
          have hlab : x.1 ∈ ls := by
            obtain ⟨kx, cx⟩ := x
            cases cx with
            | false => exact hls _ (show (a, kx, b) ∈ es from hb)
            | true => exact hls _ (show (b, kx, a) ∈ es from hb)
          obtain ⟨j', hj'⟩ := List.mem_iff_getElem?.mp hlab
          exact hold j' x.1 (by rw [hlwl]; exact (List.getElem?_eq_some_iff.mp hj').1) hj' x.2 b hb
      · have hc := of_decide_eq_false hc
        have b9 := b8.mono s9
        have hat : at_ = found.length := by
          have := b9.inv.atl
          omega
        have hinv := b9.inv
        rw [hat] at hinv
        have hfl : found.length ≤ N := nodup_len _ _ hinv.nodup hinv.lt
        obtain ⟨kvs, hn9, hnd, hnl⟩ := b9.num
        refine ws_setDT 11 hr (own := [("start", 5), ("letter", 6), ("end", 7)]) (g := gTup K 3 (gCons (gName 5) (gCons (gName 6) (gCons (gName 7) gNil)))) (items := es.map edD) (dcF (fun e : Ed => (rowOf found e).map edK) (.bl true) es) rfl (fun i hi => by have := dcF_len (fun e : Ed => (rowOf found e).map edK) (.bl true) es i; simp at hi; omega) sc_num.nd (blkOk_by (N := ["edges", "numbers", "found", "letters", "ways", "start", "letter", "end", "at", "sign", "point", "rows"]) (sc := defScope s_num) (by decide +kernel))
          (ji_list ((jv_var 0).je (hE.mono b9.same).rp)) gm_tup3 (fun _ _ _ _ _ => pg_tup rfl (pgs_cons (pg_name (i := 5) sc_num.nd rfl (.inl rfl)) (pgs_cons (pg_name (i := 6) sc_num.nd rfl (.inl rfl)) (pgs_cons (pg_name (i := 7) sc_num.nd rfl (.inl rfl)) pgs_nil)))) (fun s Hb C cl fp => pts_one (wTb_ok s Hb C cl fp)) (fun i d v H10 e1 s10 r10 => ?_) (fun pr H10 z10 s10 h10 => ?_)
        · obtain ⟨⟨a, l, b⟩, he, rfl⟩ := map_at e1
          have hem := List.mem_of_getElem? he
          refine gTup3 r10 fun v1 v2 v3 q1 q2 q3 => ⟨rfl, rfl, ?_⟩
          have hn10 := s10 _ _ hn9
          by_cases hf : a ∈ found
          · have hfb : b ∈ found := by
              obtain ⟨i2, hi2⟩ := List.mem_iff_getElem?.mp hf
              exact hinv.cl i2 a (List.getElem?_eq_some_iff.mp hi2).1 hi2 (l, false) b hem
            have ha1 := hnd a
            have hb1 := hnd b
            rw [if_pos hf] at ha1
            rw [if_pos hfb] at hb1
            refine .inl ⟨edK (found.idxOf a, l, found.idxOf b), .bl true, .b true, ?_, fun _ => rfl, fun _ v h => h, fun H11 s11 Q q sh Hb C cl fp => (JT.of (jt_dinK (k := .inl (a : Int)) hr (jv_var 1) hn10 (je_var 5 rfl q1)) (by rw [ha1] <;> rfl)) H11 s11 Q q, fun sh Hb C cl fp => je_tup (ja_cons (je_dixK (k := .inl (a : Int)) (d := .i (found.idxOf a : Int)) hr (jv_var 1) hn10 (je_var 5 rfl q1) ha1 (fun _ _ => rfl)) (ja_cons (je_var 6 rfl q2) (ja_cons (je_dixK (k := .inl (b : Int)) (d := .i (found.idxOf b : Int)) hr (jv_var 1) hn10 (je_var 7 rfl q3) hb1 (fun _ _ => rfl)) ja_nil))) (by show 3 ≤ 100000; decide), fun sh Hb C cl fp => je_bl⟩
            show dcF _ _ es (i + 1) = _
            rw [dcF, he]
            have : (rowOf found (a, l, b)).map edK = some (edK (found.idxOf a, l, found.idxOf b)) := by
              unfold rowOf
              rw [if_pos hf] <;> rfl
            simp only [this]
          · have ha1 := hnd a
            rw [if_neg hf] at ha1
            refine .inr ⟨?_, fun H11 s11 Q q sh Hb C cl fp => (JT.of (jt_dinK (k := .inl (a : Int)) hr (jv_var 1) hn10 (je_var 5 rfl q1)) (by rw [ha1] <;> rfl)) H11 s11 Q q⟩
            show dcF _ _ es (i + 1) = _
            rw [dcF, he]
            have : (rowOf found (a, l, b)).map edK = none := by
              unfold rowOf
              rw [if_neg hf] <;> rfl
            simp only [this]
        · rw [hel] at h10
          have hkeys := dcF_keys (K := edK) (fun a b => edK_inj) (rowOf found) (.bl true) es es.length (Nat.le_refl _)
          rw [List.take_length] at hkeys
          have b10 := b9.mono s10
          refine ws_retE (we_tup ?_)
          refine wa_cons ((JE.of (je_lenL T.b_len (je_var 2 rfl b10.fnd.rp)) (show D.i ((natsD found).length : Int) = D.i (found.length : Int) by rw [nats_len])).go fun v11 H11 s11 r11 => ?_)
          refine wa_cons (we_tupleL T.b_tuple (we_sortDE T.b_sorted (JV.go (jv_var 11) fun H12 s12 => ⟨pr, _, _, rfl, s12 _ _ (s11 _ _ h10), hkeys, fun G p H13 hG z13 s13 l13 => ⟨_, l13.rp, fun v14 H14 s14 r14 => wa_nil ⟨by show 2 ≤ 100000; decide, fun pt hpt => ?_⟩⟩⟩)))
          have hnum : NumOk es found.length G := hinv.num fun e => by rw [hG.mem_iff, mem_uniq]
          have s1014 := ((s11.trans s12).trans s13).trans s14
          refine k _ (graphD found.length G) _ ⟨_, _, rfl, hnum, hfl, (by rw [hG.length_eq]; exact Nat.le_trans (uniq_len _) (List.length_filterMap_le _ _))⟩ ((b10.same.trans s1014).trans (same_new hpt)) ⟨pt, _, rfl, upd_same, ?_⟩
          refine ⟨_, _, rfl, r11, _, _, rfl, r14.mono (same_new hpt), rfl⟩
end
end FW
/-! fold, graph_in, ways_in -/
namespace FW
open PySem L2
section
variable {P : Program} {w : World} {K : PySem.W.Frag} {mg : Str → Option Value} {base : Heap}
structure FB where
  r : Nat
  gs : List Wd
def ar_fold (b : FB) : List D := [.i (b.r : Int), .t (b.gs.map wD)]
def pre_fold (b : FB) : Prop := FamOk b.r b.gs
def fi_fold (b : FB) (d : D) : Prop := ∃ n G, d = graphD n G ∧ GraphOk b.r b.gs n G ∧ G.length ≤ 60
abbrev s_fold : Stmt := topS 34
theorem sc_fold : FnScope ["rank", "words", "folding", "start", "letter", "end"] ["rank", "words"] (defScope s_fold) := ⟨rfl, rfl, rfl, by decide +kernel, rfl, by decide +kernel, by decide +kernel⟩
theorem ok_fold (T : Txt K mg) : FnOk P w K mg base CX0 9 T.fold.f T.fold.fd ["rank", "words"] (spR ar_fold pre_fold fi_fold) := by
  refine T.fold.F.ok sc_fold (fun vs H Q E h => spR_len (n := 2) (fun b => rfl) h) (fun cdv A0 outer s H vs Q E hr h => ?_)
  obtain ⟨⟨r, gs⟩, rr, hF, k⟩ := h
  have hF : FamOk r gs := hF
  obtain ⟨va, vb, rfl, ra, rb⟩ := rps2 rr
  have rb : Rp H (.t (gs.map wD)) vb := rb
  refine ⟨_, wSs_ok, ?_⟩
  refine ws_setE 2 sc_fold.nd (we_make T hr (by decide) hF (je_var 1 rfl rb) fun f A S H1 s1 F D => ?_)
  have hS := D.wf.sane
  have hel := D.wf.elen
  have hsz := D.size
  have hq : (qE S).map edD = S.edges.map fun e => edD (root S.par e.1, e.2.1, root S.par e.2.2) := by
    unfold qE mapE
    rw [List.map_map] <;> rfl
  refine ws_retE (we_callR (B := NB) ⟨qE S, S.pre.length⟩ T.numbered (ok_num T) (hr.mono (by decide)) (ja_cons (JF.je (jf_lc (own := [("start", 3), ("letter", 4), ("end", 5)]) (g := gTup K 3 (gCons (gName 3) (gCons (gName 4) (gCons (gName 5) gNil)))) (items := S.edges.map edD) (es := (qE S).map edD) sc_fold.nd (blkOk_by (N := ["rank", "words", "folding", "start", "letter", "end"]) (sc := defScope s_fold) (by decide +kernel))
    (ji_list ((jv_pe T F (jv_var 2)).je F.pe.rp)) (by rw [hq]; simp) (by rw [hq]; simp; omega) (imms_eds _) gm_tup3 (fun _ _ _ _ _ => pg_tup rfl (pgs_cons (pg_name (i := 3) sc_fold.nd rfl (.inl rfl)) (pgs_cons (pg_name (i := 4) sc_fold.nd rfl (.inl rfl)) (pgs_cons (pg_name (i := 5) sc_fold.nd rfl (.inl rfl)) pgs_nil)))) (fun i d r v3 H3 e1 e2 s3 r3 => ?_))) ja_nil) ⟨D.det, fun e he => ?_, D.wf.pos, by show S.pre.length ≤ 60; omega, by show (qE S).length ≤ 60; unfold qE mapE; rw [List.length_map]; omega⟩ (fun v d H' hφ s r => ?_))
  · obtain ⟨⟨a, l, b⟩, he, rfl⟩ := map_at e1
    have hem := List.mem_of_getElem? he
    obtain ⟨h1, h2, _⟩ := D.wf.edge a l b hem
    rw [hq, List.getElem?_map, he] at e2
    obtain rfl := Option.some.inj e2
    refine gTup3 r3 fun v1 v2 v4 q1 q2 q3 => ⟨rfl, rfl, fun sh Hb C cl fp => ?_⟩
    have F3 := F.mono s3
    exact je_tup (ja_cons (je_root T hr (by decide) F3 hS h1 (jv_var 2) (je_var 3 rfl q1)) (ja_cons (je_var 4 rfl q2) (ja_cons (je_root T hr (by decide) F3 hS h2 (jv_var 2) (je_var 5 rfl q3)) ja_nil))) (by show 3 ≤ 100000; decide)
  · obtain ⟨⟨a, l, b⟩, hm, rfl⟩ := List.mem_map.mp he
    obtain ⟨h1, h2, _⟩ := D.wf.edge a l b hm
    exact ⟨D.wf.rlt h1, D.wf.rlt h2⟩
  · obtain ⟨n, G, rfl, hn, hnN, hgl⟩ := hφ
    have hnN : n ≤ S.pre.length := hnN
    have hgl : G.length ≤ (qE S).length := hgl
    have : (qE S).length = S.edges.length := by unfold qE mapE; rw [List.length_map]
    exact k v _ H' ⟨n, G, rfl, NumOk.graph hn D (by omega), by omega⟩ (s1.trans s) r
abbrev s_gin : Stmt := topS 38
theorem sc_gin : FnScope ["family"] ["family"] (defScope s_gin) := ⟨rfl, rfl, rfl, by decide +kernel, rfl, by decide +kernel, by decide +kernel⟩
def ar_gin (b : FB) : List D := [famD b.r b.gs]
theorem ok_gin (T : Txt K mg) : FnOk P w K mg base CX0 10 T.graph_in.f T.graph_in.fd ["family"] (spR ar_gin pre_fold fi_fold) := by
  refine T.graph_in.F.ok sc_gin (fun vs H Q E h => spR_len (n := 1) (fun b => rfl) h) (fun cdv A0 outer s H vs Q E hr h => ?_)
  obtain ⟨⟨r, gs⟩, rr, hF, k⟩ := h
  obtain ⟨va, rfl, ra⟩ := rps1 rr
  have ra : Rp H (famD r gs) va := ra
  refine ⟨_, wSs_ok, ?_⟩
  exact ws_retE (we_callR (B := FB) ⟨r, gs⟩ T.fold (ok_fold T) (hr.mono (by decide)) (ja_cons (je_fam0 (je_var 0 rfl ra)) (ja_cons (je_fam1 (je_var 0 rfl ra)) ja_nil)) hF fun v d H' hφ s r => k v d H' hφ s r)
/-! ways by a letter -/
def wk2 (a : Nat) (x : L) : List Key := [.inl (a : Int), .inr (enc [x])]
theorem wk2_inj {a b : Nat} {x y : L} (h : wk2 a x = wk2 b y) : a = b ∧ x = y := by
  unfold wk2 at h
  injection h with h1 h
  injection h with h2 h
  have e1 : (a : Int) = (b : Int) := Sum.inl.inj h1
  have e2 := enc_inj (Sum.inr.inj h2)
  have e2 : x = y := by simpa using e2
  exact ⟨by omega, e2⟩
def WayE (kvt : List (List Key × V)) (es : List Ed) : Prop := ∀ (a : Nat) (x : L), (∀ b : Nat, Eg es a x b → valV kvt (wk2 a x) = some (.int (b : Int))) ∧ ∀ v, valV kvt (wk2 a x) = some v → ∃ b : Nat, v = .int (b : Int) ∧ Eg es a x b
theorem WayE.nil : WayE [] [] := fun a x => ⟨fun b h => by
  obtain ⟨k, c⟩ := x
  cases c <;> simp [Eg] at h, fun v h => by cases h⟩
theorem WayE.put {kvt : List (List Key × V)} {es : List Ed} {a b : Nat} {k : Fin 3} (h : WayE kvt es) (hd : Det (es ++ [(a, k, b)])) : WayE (putK (putK kvt (wk2 a (k, false)) (.int (b : Int))) (wk2 b (k, true)) (.int (a : Int))) (es ++ [(a, k, b)]) := fun c x => by
  have hval : valV (putK (putK kvt (wk2 a (k, false)) (.int (b : Int))) (wk2 b (k, true)) (.int (a : Int))) (wk2 c x) = if wk2 c x = wk2 b (k, true) then some (.int (a : Int)) else if wk2 c x = wk2 a (k, false) then some (.int (b : Int)) else valV kvt (wk2 c x) := by
    rw [valV_put, valV_put]
  rw [hval]
  by_cases h1 : c = b ∧ x = (k, true)
  · obtain ⟨rfl, rfl⟩ := h1
    rw [if_pos rfl]
    have e1 : Eg (es ++ [(a, k, c)]) c (k, true) a := eg_snoc2.mpr (.inr (.inr ⟨rfl, rfl, rfl⟩))
    refine ⟨fun d hd2 => by rw [hd c _ d a hd2 e1], fun v hv => ⟨a, (Option.some.inj hv).symm, e1⟩⟩
  · rw [if_neg fun z => h1 (wk2_inj z)]
    by_cases h2 : c = a ∧ x = (k, false)
    · obtain ⟨rfl, rfl⟩ := h2
      rw [if_pos rfl]
      have e1 : Eg (es ++ [(c, k, b)]) c (k, false) b := eg_snoc2.mpr (.inr (.inl ⟨rfl, rfl, rfl⟩))
      refine ⟨fun d hd2 => by rw [hd c _ d b hd2 e1], fun v hv => ⟨b, (Option.some.inj hv).symm, e1⟩⟩
    · rw [if_neg fun z => h2 (wk2_inj z)]
      obtain ⟨q1, q2⟩ := h c x
      refine ⟨fun d hd2 => ?_, fun v hv => ?_⟩
      · rcases eg_snoc2.mp hd2 with p | ⟨p1, p2, _⟩ | ⟨p1, p2, _⟩
        · exact q1 d p
        · exact absurd ⟨p1, p2⟩ h2
        · exact absurd ⟨p1, p2⟩ h1
      · obtain ⟨d, e, hd2⟩ := q2 v hv
        exact ⟨d, e, eg_snoc2.mpr (.inl hd2)⟩
def spQ : Sp := fun vs H Q _ => ∃ n G, Rps H [graphD n G] vs ∧ Det G ∧ G.length ≤ 1000 ∧ ∀ p kvt H', H p = none → Same H H' → H' p = some (.dT kvt) → WayE kvt G → kvt.length ≤ 2 * G.length → Q (.ref p) H'
abbrev s_win : Stmt := topS 37
theorem sc_win : FnScope ["graph", "ways", "start", "letter", "end"] ["graph"] (defScope s_win) := ⟨rfl, rfl, rfl, by decide +kernel, rfl, by decide +kernel, by decide +kernel⟩
theorem ok_win (T : Txt K mg) : FnOk P w K mg base CX0 1 T.ways_in.f T.ways_in.fd ["graph"] spQ := by
  refine T.ways_in.F.ok sc_win (fun vs H Q E h => ?_) (fun cdv A0 outer s H vs Q E hr h => ?_)
  · obtain ⟨n, G, r, _⟩ := h
    exact rps_len r rfl
  obtain ⟨n, es, rr, hdet, hgl, k⟩ := h
  obtain ⟨va, rfl, ra⟩ := rps1 rr
  refine ⟨_, wSs_ok, ?_⟩
  refine ws_setE 1 sc_win.nd (we_newT fun pw H1 z1 s1 h1 => ?_)
  refine ws_forT (ds := es.map edD) (je_ixT (i := 1) (ds := [.i (n : Int), .t (es.map edD)]) (je_var 0 rfl (ra.mono s1)) je_int rfl) (pg_tup rfl (pgs_cons (pg_name (i := 2) sc_win.nd rfl (.inl rfl)) (pgs_cons (pg_name (i := 3) sc_win.nd rfl (.inl rfl)) (pgs_cons (pg_name (i := 4) sc_win.nd rfl (.inl rfl)) pgs_nil))))
    (fun q ws i σ' H' => ∃ (kvt : List (List Key × V)) (x5 x6 x7 : Option V), σ' = [some va, some (.ref pw), x5, x6, x7] ∧ Same H H' ∧ H' pw = some (.dT kvt) ∧ WayE kvt (es.take i) ∧ kvt.length ≤ 2 * i ∧ H' q = some (.tup ws) ∧ Rps H' (es.map edD) ws)
    (fun q ws H6 s6 hq rq => ⟨[], none, none, none, rfl, s1.trans s6, s6 _ _ h1, WayE.nil, Nat.zero_le _, hq, rq⟩) (fun q ws i σ' H' ⟨_, _, _, _, _, _, _, _, _, hq, rq⟩ => ⟨hq, rq⟩) ?_ ?_
  · rintro q ws i d v σ' H6 hd rd ⟨kvt, x5, x6, x7, rfl, s6, h6, hW, hkl, hq, rq⟩
    obtain ⟨⟨a, l, b⟩, he, rfl⟩ := map_at hd
    have hil : i < es.length := (List.getElem?_eq_some_iff.mp he).1
    refine gTup3 rd fun v1 v2 v3 q1 q2 q3 => ?_
    obtain rfl : v1 = .int (a : Int) := q1
    obtain rfl : v2 = .str (enc [(l, false)]) := q2
    obtain rfl : v3 = .int (b : Int) := q3
    show wSs _ _ _ [some va, some (.ref pw), some (.int (a : Int)), some (.str (enc [(l, false)])), some (.int (b : Int))] H6
    refine ws_dputT (kt := wk2 a (l, false)) (d := .i (b : Int)) hr (jv_var 1) h6 (by omega) (je_tup (ja_cons (je_var (d := .i (a : Int)) 2 rfl rfl) (ja_cons (je_var (d := wD [(l, false)]) 3 rfl rfl) ja_nil)) (by show 2 ≤ 100000; decide)) (je_var 4 rfl rfl) fun v7 H7 s7 h7 r7 => ?_
    obtain rfl : v7 = .int (b : Int) := r7
    have hk1 := length_putK kvt (wk2 a (l, false)) (.int (b : Int))
    refine ws_dputT (kt := wk2 b (l, true)) (d := .i (a : Int)) hr (jv_var 1) upd_same (by omega) (je_tup (ja_cons (je_var (d := .i (b : Int)) 4 rfl rfl) (ja_cons (JE.of (je_upper (je_var (d := wD [(l, false)]) 3 rfl rfl) (one_len (l, false))) (congrArg D.s (up_enc (l, false)))) ja_nil)) (by show 2 ≤ 100000; decide)) (je_var 2 rfl rfl) fun v8 H8 s8 h8 r8 => ws_nil ?_
    obtain rfl : v8 = .int (a : Int) := r8
    have hk2 := length_putK (putK kvt (wk2 a (l, false)) (.int (b : Int))) (wk2 b (l, true)) (.int (a : Int))
    have t7 : KeepT H7 (upd H7 pw (.dT (putK kvt (wk2 a (l, false)) (.int (b : Int))))) := keepT_dT h7
    have t8 := keepT_dT (u := .dT (putK (putK kvt (wk2 a (l, false)) (.int (b : Int))) (wk2 b (l, true)) (.int (a : Int)))) h8
    have t68 := (((Same.keepT s7).trans t7).trans (Same.keepT s8)).trans t8
    refine ⟨_, _, _, _, rfl, Same.mut ((Same.mut (s6.trans s7) z1).trans s8) z1, upd_same, ?_, by omega, t68.1 _ _ hq, rq.imm t68 (imms_eds _)⟩
    rw [take_snoc he]
    refine hW.put ?_
    rw [← take_snoc he]
    exact fun c x d1 d2 e1 e2 => hdet c x d1 d2 (eg_sub (fun e he => List.mem_of_mem_take he) e1) (eg_sub (fun e he => List.mem_of_mem_take he) e2)
  · rintro q ws σ' H6 ⟨kvt, x5, x6, x7, rfl, s6, h6, hW, hkl, hq, rq⟩
    rw [List.length_map] at hW hkl
    rw [List.take_length] at hW
    exact ws_retV 1 (k pw kvt H6 z1 s6 h6 hW hkl)
end
end FW
/-! attach -/
namespace FW
open PySem L2
theorem eg_perm {G G2 : List Ed} (h : G2.Perm G) {a b : Nat} {x : L} : Eg G2 a x b ↔ Eg G a x b := by
  obtain ⟨k, c⟩ := x
  cases c with
  | false => exact h.mem_iff
  | true => exact h.mem_iff
theorem wk_perm {G G2 : List Ed} (h : G2.Perm G) {w : Wd} {a b : Nat} : Wk G2 a w b ↔ Wk G a w b := ⟨wk_sub fun e he => h.mem_iff.mp he, wk_sub fun e he => h.mem_iff.mpr he⟩
theorem AttInv.perm {n n' here r : Nat} {G G' G2 : List Ed} {u : Wd} (h : AttInv n G u n' G' here r) (p : G2.Perm G') : AttInv n G u n' G2 here r := by
  refine ⟨fun a x b c h1 h2 => h.det a x b c ((eg_perm p).mp h1) ((eg_perm p).mp h2), fun e he => p.mem_iff.mpr (h.sub e he), fun i k j hm => h.lt i k j (p.mem_iff.mp hm), h.n1, h.n2, (wk_perm p).mpr h.walk, h.hlt, ?_⟩
  rcases h.two with ⟨a, b, c⟩ | ⟨a, u0, x, e, c⟩
  · exact .inl ⟨a, b, fun e he => c e (p.mem_iff.mp he)⟩
  · exact .inr ⟨a, u0, x, e, fun y b hb => c y b ((eg_perm p).mp hb)⟩
section
variable {X : Cx} {e : Expr} {es : List Expr} {σ : L2.St} {H : Hp} {pos p : Pos} {ds : List D}
/-- list(a tuple) -/
theorem jf_listT (hm : X.mg "list" = none) (ha : JE X e σ H (.t ds)) (hg : Gl X "list" := by rfl) (he : starEach [e] X.env = (false, eval e X.env) :: starEach [] X.env := by rfl) (hpl : (backTo pos (starEach [] X.env)).any (·.1) = false := by rfl) : JF X (.Call (.Name "list" p) [e] [] pos) σ H ds := fun H1 s1 Q k =>
  ⟨_, pe_callTy call_list_of hg hm (by decide +kernel) (pa_cons wE_ok pa_nil he) (by decide) (by decide) he hpl, ha H1 s1 _ fun v H2 s2 ⟨q, ys, ev, hq, hy⟩ => by
    subst ev
    exact ⟨q, ys, rfl, .inr (SqT.of hq), fun l hl => k l ys _ (Same.free s2 hl) (s2.trans (same_new hl)) upd_same (hy.mono (same_new hl))⟩⟩
theorem we_callQ {k : Nat} {g x q : Str} {st : Stmt} {ps : List Str} {Q : VK} {n : Nat} {G : List Ed} (Dd : Df X.K X.mg g x q st ps) (F : FnOk X.prog X.w X.K X.mg X.base CX0 k Dd.f Dd.fd ps spQ) (hr : Room k X.A) (ha : JE X e σ H (graphD n G)) (hd : Det G) (hl : G.length ≤ 1000)
    (k2 : ∀ p kvt H', H p = none → Same H H' → H' p = some (.dT kvt) → WayE kvt G → kvt.length ≤ 2 * G.length → Q (.ref p) H') (hg : Gl X g := by rfl) (hdb : (g == ("__debug__" : Str)) = false := by decide) (he : starEach [e] X.env = (false, eval e X.env) :: starEach [] X.env := by rfl) (hpl : (backTo pos (starEach [] X.env)).any (·.1) = false := by rfl) :
    wE X (.Call (.Name g p) [e] [] pos) σ H Q :=
  ⟨_, pe_call F hr hg Dd.m Dd.F.kp Dd.b .nil pass0 (pa_cons wE_ok pa_nil he) hdb he hpl, ha H (Same.refl _) _ fun v H2 s2 r2 => ⟨n, G, .cons r2 rfl, hd, hl, fun p kvt H' hp s3 h1 h2 h3 => k2 p kvt H' (Same.free s2 hp) (s2.trans s3) h1 h2 h3⟩⟩
end
section
variable {P : Program} {w : World} {K : PySem.W.Frag} {mg : Str → Option Value} {base : Heap}
structure AB where
  r : Nat
  gs : List Wd
  n : Nat
  G : List Ed
  u : Wd
def ar_att (b : AB) : List D := [graphD b.n b.G, wD b.u]
structure AttPre (b : AB) : Prop where
  ok : GraphOk b.r b.gs b.n b.G
  gl : b.G.length ≤ 60
  rdd : Rdd inv b.u
  inr : InR b.r b.u
  ul : b.u.length ≤ 30
def fi_att (b : AB) (d : D) : Prop := ∃ (n' : Nat) (G' : List Ed) (here : Nat), d = .t [graphD n' G', .i (here : Int)] ∧ AttInv b.n b.G b.u n' G' here b.r ∧ G'.length ≤ 90
abbrev s_att : Stmt := topS 41
theorem sc_att : FnScope ["graph", "word", "count", "edges", "ways", "here", "letter", "edge"] ["graph", "word"] (defScope s_att) := ⟨rfl, rfl, rfl, by decide +kernel, rfl, by decide +kernel, by decide +kernel⟩
theorem ok_att (T : Txt K mg) : FnOk P w K mg base CX0 2 T.attach.f T.attach.fd ["graph", "word"] (spR ar_att AttPre fi_att) := by
  refine T.attach.F.ok sc_att (fun vs H Q E h => spR_len (n := 2) (fun b => rfl) h) (fun cdv A0 outer s H vs Q E hr h => ?_)
  obtain ⟨⟨r, gs, n, G, u⟩, rr, hP, k⟩ := h
  have hok : GraphOk r gs n G := hP.ok
  have hgl : G.length ≤ 60 := hP.gl
  have hrd : Rdd inv u := hP.rdd
  have hir : InR r u := hP.inr
  have hul : u.length ≤ 30 := hP.ul
  obtain ⟨va, vb, rfl, ra, rb⟩ := rps2 rr
  have ra : Rp H (.t [.i (n : Int), .t (G.map edD)]) va := ra
  obtain rfl : vb = .str (enc u) := rb
  obtain ⟨tab, gab⟩ := T.g_SMALL_completing
  refine ⟨_, wSs_ok, ?_⟩
  refine ws_asg (je_var 0 rfl ra) (pg_tup rfl (pgs_cons (pg_name (i := 2) sc_att.nd rfl (.inl rfl)) (pgs_cons (pg_name (i := 3) sc_att.nd rfl (.inl rfl)) pgs_nil))) fun v1 H1 s1 r1 => ?_
  refine gTup2 r1 fun vc ve rc re => ?_
  obtain rfl : vc = .int (n : Int) := rc
  show wSs _ _ _ [some va, some (.str (enc u)), some (.int (n : Int)), some ve, none, none, none, none] H1
  refine ws_setF 3 sc_att.nd (jf_listT T.b_list (je_var 3 rfl re)) fun pe us H2 z2 s2 h2 r2 => ?_
  refine ws_setE 4 sc_att.nd (we_callQ T.ways_in (ok_win T) (hr.mono (by decide)) (je_var (d := graphD n G) 0 rfl ((ra.mono s1).mono s2)) hok.det (by omega) fun pw kvt0 H3 z3 s3 h3 hW0 hl0 => ?_)
  refine ws_set 5 sc_att.nd (d := .i ((0 : Nat) : Int)) je_int fun v4 H4 s4 r4 => ?_
  obtain rfl : v4 = .int ((0 : Nat) : Int) := r4
  have zpe : H pe = none := Same.free s1 z2
  have s02 := s1.trans s2
  have zpw : H pw = none := Same.free s02 z3
  have s04 := (s02.trans s3).trans s4
  have npw : pe ≠ pw := fun e => by rw [← e, h2] at z3; cases z3
  refine ws_forW (w := u) (je_var 1 rfl (wDrp u)) (pg_name (i := 6) sc_att.nd rfl (.inl rfl))
    (fun i σ' H' => ∃ (n' : Nat) (G' : List Ed) (here : Nat) (kvt : List (List Key × V)) (x6 x7 : Option V), σ' = [some va, some (.str (enc u)), some (.int (n' : Int)), some (.ref pe), some (.ref pw), some (.int (here : Int)), x6, x7] ∧ Same H H' ∧ LstAt H' pe (G'.map edD) ∧ H' pw = some (.dT kvt) ∧ WayE kvt G' ∧ AttInv n G (u.take i) n' G' here r ∧ kvt.length ≤ 2 * G'.length ∧ G'.length ≤ G.length + i)
    (fun H5 s5 => ⟨n, G, 0, kvt0, none, none, rfl, s04.trans s5, ⟨us, (s3.trans (s4.trans s5)) _ _ h2, r2.mono (s3.trans (s4.trans s5))⟩, (s4.trans s5) _ _ h3, hW0, att_start hok, hl0, by omega⟩) ?_ ?_
  · rintro i x σ' H5 hx ht ⟨n', G', here, kvt, x6, x7, rfl, s5, l5, h5, hW, hA, hkl, hgl'⟩
    have hil : i < u.length := (List.getElem?_eq_some_iff.mp hx).1
    show wSs _ _ _ [some va, some (.str (enc u)), some (.int (n' : Int)), some (.ref pe), some (.ref pw), some (.int (here : Int)), some (.str (enc [x])), x7] H5
    have hxr : x.1.val < r := hir x (List.mem_of_getElem? hx)
    have hrest : Rdd inv (u.take i ++ x :: u.drop (i + 1)) := by
      have : u.take i ++ x :: u.drop (i + 1) = u := by
        obtain ⟨hl, e⟩ := List.getElem?_eq_some_iff.mp hx
        rw [← e, ← List.drop_eq_getElem_cons hl, List.take_append_drop]
      rw [this]
      exact hrd
    have hkey : ∀ {X' : Cx}, True := fun {_} => trivial
    cases hval : valV kvt (wk2 here x) with
    | some v =>
      obtain ⟨b, rfl, hb⟩ := (hW here x).2 v hval
      refine ws_ifF (JT.of (jt_dninT (kt := wk2 here x) hr (jv_var 4) h5 (je_tup (ja_cons (je_var (d := .i (here : Int)) 5 rfl rfl) (ja_cons (je_var (d := wD [x]) 6 rfl rfl) ja_nil)) (by show 2 ≤ 100000; decide))) (by rw [hval] <;> rfl)) fun H6 s6 => ?_
      refine ws_set 5 sc_att.nd (d := .i (b : Int)) (je_dixT (kt := wk2 here x) hr (jv_var 4) (s6 _ _ h5) (je_tup (ja_cons (je_var (d := .i (here : Int)) 5 rfl rfl) (ja_cons (je_var (d := wD [x]) 6 rfl rfl) ja_nil)) (by show 2 ≤ 100000; decide)) hval (fun _ _ => rfl)) fun v7 H7 s7 r7 => ws_nil ?_
      obtain rfl : v7 = .int (b : Int) := r7
      refine ⟨n', G', b, kvt, _, _, rfl, (s5.trans s6).trans s7, l5.mono (s6.trans s7), s7 _ _ (s6 _ _ h5), hW, ?_, hkl, by omega⟩
      rw [ht]
      exact hA.old hrest hb
    | none =>
      have hno : ∀ b, ¬ Eg G' here x b := fun b hb => by rw [(hW here x).1 b hb] at hval; cases hval
      have hnew := hA.new hno hxr
      refine ws_ifT (JT.of (jt_dninT (kt := wk2 here x) hr (jv_var 4) h5 (je_tup (ja_cons (je_var (d := .i (here : Int)) 5 rfl rfl) (ja_cons (je_var (d := wD [x]) 6 rfl rfl) ja_nil)) (by show 2 ≤ 100000; decide))) (by rw [hval] <;> rfl)) fun H6 s6 => ?_
      refine ws_set 7 sc_att.nd (d := edD (edgeOf here x n')) (je_if (k := !x.2) (JT.of (jt_inS (c := code x) (je_var (d := wD [x]) 6 rfl rfl) (je_globS gab)) (in_abc x)) (fun hk => ?_) (fun hk => ?_)) fun v7 H7 s7 r7 => ?_
      · have hk : x.2 = false := by simpa using hk
        unfold edgeOf
        rw [if_neg (by simp [hk])]
        have hx2 : x = (x.1, false) := by rw [← hk]
        exact je_tup (ja_cons (je_var (d := .i (here : Int)) 5 rfl rfl) (ja_cons (je_var (d := wD [(x.1, false)]) 6 rfl (by rw [← hx2] <;> rfl)) (ja_cons (je_var (d := .i (n' : Int)) 2 rfl rfl) ja_nil))) (by show 3 ≤ 100000; decide)
      · have hk : x.2 = true := by simpa using hk
        unfold edgeOf
        rw [if_pos hk]
        exact je_tup (ja_cons (je_var (d := .i (n' : Int)) 2 rfl rfl) (ja_cons (JE.of (je_lower (je_var (d := wD [x]) 6 rfl rfl) (one_len x)) (congrArg D.s (low_enc x))) (ja_cons (je_var (d := .i (here : Int)) 5 rfl rfl) ja_nil))) (by show 3 ≤ 100000; decide)
      · generalize hed : edgeOf here x n' = ed at hnew r7
        obtain ⟨a, l, b⟩ := ed
        obtain ⟨us5, h5e, r5e⟩ := l5
        refine ws_app (d := edD (a, l, b)) (jv_var 3) (s7 _ _ (s6 _ _ h5e)) (je_var 7 rfl r7) (by rw [r5e.len]; simp; omega) fun v8 H8 s8 r8 => ?_
        have s68 := (s6.trans s7).trans s8
        have t9 : KeepT H8 (upd H8 pe (.lst (us5 ++ [v8]))) := keepT_lst (s68 _ _ h5e)
        have s9 : Same H (upd H8 pe (.lst (us5 ++ [v8]))) := Same.mut (s5.trans s68) zpe
        have l9 : LstAt (upd H8 pe (.lst (us5 ++ [v8]))) pe ((G' ++ [(a, l, b)]).map edD) := by
          refine ⟨_, upd_same, ?_⟩
          rw [List.map_append]
          refine Rps.imm t9 (by rw [← List.map_append]; exact imms_eds _) (Rps.app (r5e.mono s68) (.cons r8 rfl))
        have h9 : upd H8 pe (.lst (us5 ++ [v8])) pw = some (.dT kvt) := by rw [upd_ne (Ne.symm npw)]; exact s68 _ _ h5
        have r9 : Rp (upd H8 pe (.lst (us5 ++ [v8]))) (edD (a, l, b)) v7 := (r7.mono s8).imm t9 rfl
        generalize upd H8 pe (.lst (us5 ++ [v8])) = H9 at s9 l9 h9 r9
        have hGl : (G' ++ [(a, l, b)]).length = G'.length + 1 := by simp
        refine ws_dputT (kt := wk2 a (l, false)) (d := .i (b : Int)) hr (jv_var 4) h9 (by omega) (je_tup (ja_cons (je_ed0 (je_var 7 rfl r9) je_int) (ja_cons (je_ed1 (je_var 7 rfl r9) je_int) ja_nil)) (by show 2 ≤ 100000; decide)) (je_ed2 (je_var 7 rfl r9) je_int) fun v10 H10 s10 h10 r10 => ?_
        obtain rfl : v10 = .int (b : Int) := r10
        have hk1 := length_putK kvt (wk2 a (l, false)) (.int (b : Int))
        have t10 : KeepT H10 (upd H10 pw (.dT (putK kvt (wk2 a (l, false)) (.int (b : Int))))) := keepT_dT h10
        have l11 : LstAt (upd H10 pw (.dT (putK kvt (wk2 a (l, false)) (.int (b : Int))))) pe ((G' ++ [(a, l, b)]).map edD) := (l9.mono s10).keep (ls := [pw]) (by simpa using npw) (keepL_upd (by simp)) t10 (imms_eds _)
        have r11 : Rp (upd H10 pw (.dT (putK kvt (wk2 a (l, false)) (.int (b : Int))))) (edD (a, l, b)) v7 := (r9.mono s10).imm t10 rfl
        refine ws_dputT (kt := wk2 b (l, true)) (d := .i (a : Int)) hr (jv_var 4) upd_same (by omega) (je_tup (ja_cons (je_ed2 (je_var 7 rfl r11) je_int) (ja_cons (JE.of (je_upper (je_ed1 (je_var 7 rfl r11) je_int) (one_len (l, false))) (congrArg D.s (up_enc (l, false)))) ja_nil)) (by show 2 ≤ 100000; decide)) (je_ed0 (je_var 7 rfl r11) je_int) fun v12 H12 s12 h12 r12 => ?_
        obtain rfl : v12 = .int (a : Int) := r12
        have hk2 := length_putK (putK kvt (wk2 a (l, false)) (.int (b : Int))) (wk2 b (l, true)) (.int (a : Int))
        have t12 := keepT_dT (u := .dT (putK (putK kvt (wk2 a (l, false)) (.int (b : Int))) (wk2 b (l, true)) (.int (a : Int)))) h12
        have l13 := (l11.mono s12).keep (ls := [pw]) (H' := upd H12 pw (.dT (putK (putK kvt (wk2 a (l, false)) (.int (b : Int))) (wk2 b (l, true)) (.int (a : Int))))) (by simpa using npw) (keepL_upd (by simp)) t12 (imms_eds _)
        have s13 : Same H (upd H12 pw (.dT (putK (putK kvt (wk2 a (l, false)) (.int (b : Int))) (wk2 b (l, true)) (.int (a : Int))))) := Same.mut ((Same.mut (s9.trans s10) zpw).trans s12) zpw
        have h13 : upd H12 pw (.dT (putK (putK kvt (wk2 a (l, false)) (.int (b : Int))) (wk2 b (l, true)) (.int (a : Int)))) pw = some (.dT (putK (putK kvt (wk2 a (l, false)) (.int (b : Int))) (wk2 b (l, true)) (.int (a : Int)))) := upd_same
        have hW13 := hW.put hnew.det
        generalize upd H12 pw (.dT (putK (putK kvt (wk2 a (l, false)) (.int (b : Int))) (wk2 b (l, true)) (.int (a : Int)))) = H13 at l13 s13 h13
        generalize putK (putK kvt (wk2 a (l, false)) (.int (b : Int))) (wk2 b (l, true)) (.int (a : Int)) = kvt2 at hk2 h13 hW13
        refine ws_set 2 sc_att.nd (d := .i ((n' + 1 : Nat) : Int)) (JE.of (je_addI (je_var 2 rfl (intRp n')) je_int) rfl) fun v14 H14 s14 r14 => ws_nil ?_
        obtain rfl : v14 = .int ((n' + 1 : Nat) : Int) := r14
        have hEg : Eg (G' ++ [(a, l, b)]) here x n' := by
          rw [← hed]
          exact eg_snoc.mpr (.inr (.inl ⟨rfl, rfl, rfl⟩))
        refine ws_set 5 sc_att.nd (d := .i (n' : Int)) (je_dixT (kt := wk2 here x) hr (jv_var 4) (s14 _ _ h13) (je_tup (ja_cons (je_var (d := .i (here : Int)) 5 rfl rfl) (ja_cons (je_var (d := wD [x]) 6 rfl rfl) ja_nil)) (by show 2 ≤ 100000; decide)) ((hW13 here x).1 n' hEg) (fun _ _ => rfl)) fun v15 H15 s15 r15 => ws_nil ?_
        obtain rfl : v15 = .int (n' : Int) := r15
        refine ⟨n' + 1, _, n', kvt2, _, _, rfl, (s13.trans s14).trans s15, l13.mono (s14.trans s15), s15 _ _ (s14 _ _ h13), hW13, ?_, by omega, by omega⟩
        rw [ht]
        exact hnew
  · rintro σ' H5 ⟨n', G', here, kvt, x6, x7, rfl, s5, l5, h5, hW, hA, hkl, hgl'⟩
    rw [List.take_length] at hA
    refine ws_retE (we_tup (wa_cons (we_tup (wa_cons ((je_var (d := .i (n' : Int)) 2 rfl (intRp n')).go fun v6 H6 s6 r6 => wa_cons (we_tupleL T.b_tuple (we_sortE T.b_sorted ((jv_var 3).je (l5.mono s6).rp) fun G2 p H7 hG z7 s7 l7 => ⟨_, l7.rp, fun v8 H8 s8 r8 => wa_nil ⟨by show 2 ≤ 100000; decide, fun pt hpt => ?_⟩⟩))))))) 
    have s59 : Same H5 (upd H8 pt (.tup [v6, v8])) := ((s6.trans s7).trans s8).trans (same_new hpt)
    refine wa_cons ((je_var (d := .i (here : Int)) 5 rfl (intRp here)).go fun v10 H10 s10 r10 => wa_nil ⟨by show 2 ≤ 100000; decide, fun pt2 hpt2 => ?_⟩)
    refine k _ (.t [graphD n' G2, .i (here : Int)]) _ ⟨n', G2, here, rfl, hA.perm hG, by rw [hG.length_eq]; show G'.length ≤ 90; omega⟩ ((s5.trans (s59.trans s10)).trans (same_new hpt2)) ⟨pt2, _, rfl, upd_same, ?_⟩
    have rg : Rp (upd H8 pt (.tup [v6, v8])) (graphD n' G2) (.ref pt) := ⟨pt, _, rfl, upd_same, _, _, rfl, r6, _, _, rfl, r8.mono (same_new hpt), rfl⟩
    exact ⟨_, _, rfl, (rg.mono s10).mono (same_new hpt2), _, _, rfl, r10, rfl⟩
end
end FW
/-! images_of -/
namespace FW
open PySem L2
section
variable {X : Cx} {o e i value elt c iter tg : Expr} {rest : List Stmt} {σ : L2.St} {H : Hp} {pos p2 apos spos py cpos : Pos} {Ds : Ends} {items : List D} {g : TG} {scope : Scope} {y : Str} {n : Nat} {Q : VK}
/-- d[key] = value, whatever the value does -/
theorem ws_dputKE (hr : Room n X.A) (hv : wE X value σ H fun v H1 => ∃ (a : Addr) (kvs : List (Key × V)) (k : Key), JV X o σ H1 (.ref a) ∧ H1 a = some (.dK kvs) ∧ kvs.length < 100000 ∧ JE X i σ H1 (kD k) ∧ ∀ H2, Same H1 H2 → H2 a = some (.dK kvs) → wSs X rest Ds σ (upd H2 a (.dK (putK kvs k v))))
    (hs : swapsWith value (some (.Subscript o i p2)) pos.line X.env = pure false := by rfl) : wSs X (.Assign [.Subscript o i p2] value pos :: rest) Ds σ H :=
  ws_cons (ps_dput (units1 hr) wE_ok wE_ok wE_ok hs) (wE_mono hv fun v H1 ⟨a, kvs, k, ho, ha, hz, hk, q⟩ => ho H1 (Same.refl _) _ fun H2 s2 => hk H2 s2 _ fun y H3 s3 r3 => by
    obtain rfl := rp_kD r3
    have h3 := (s2.trans s3) _ _ ha
    exact ⟨a, _, rfl, DPut.k h3 (sz5' hz), q H3 (s2.trans s3) h3⟩)
/-- l.pop(0) -/
theorem we_pop0 {l : Addr} {v : V} {vs : List V} {k : Nat} (ho : JV X o σ H (.ref l)) (hl : H l = some (.lst (v :: vs))) (q : ∀ H1, Same H H1 → Q v (upd H1 l (.lst vs))) (hbase : attributeBase o "pop" X.env (eval o X.env) = eval o X.env := by rfl)
    (hfew : ((backTo cpos (starEach [.Constant (.int 0) k p2] X.env)).all (fun x => !x.1) && (backToKw cpos (keywordEach [] X.env)).all (fun x => x.1.isSome) && decide ([Expr.Constant (.int 0) k p2].length + ([] : List Keyword).length + (if ([] : List Keyword).isEmpty then 0 else 1) < 30)) = true := by rfl)
    (hline : (apos.endLine == cpos.line) = true := by rfl) (hs : starEach [.Constant (.int 0) k p2] X.env = (false, eval (.Constant (.int 0) k p2) X.env) :: starEach [] X.env := by rfl) (hplain : (backTo cpos (starEach [] X.env)).any (·.1) = false := by rfl) : wE X (.Call (.Attribute o "pop" apos) [.Constant (.int 0) k p2] [] cpos) σ H Q :=
  ⟨_, pe_bm PySem.F.plainAttrs_list PySem.F.slot_list_pop PySem.F.type_list_pop mt_popAt wE_ok (pa_cons wE_ok pa_nil hs) hbase hfew hline hs hplain, ho H (Same.refl _) _ fun H2 s2 => ⟨.inl ⟨rfl, _, SqL.of (s2 _ _ hl)⟩, (je_int (i := 0)).go fun z H3 s3 r3 => by
    obtain rfl : z = .int 0 := r3
    refine ⟨l, v :: vs, 0, 0, v, rfl, rfl, s3 _ _ (s2 _ _ hl), by decide, by decide, ?_, rfl, q H3 (s2.trans s3)⟩
    rw [seqIndex_of (by decide) (by simp)] <;> rfl⟩⟩
/-- name = [elt for tg in iter if c] -/
theorem ws_setLcF {own : List (Str × Nat)} (j : Nat) (es : Nat → List D) (e0 : es 0 = []) (hz : ∀ i, i ≤ items.length → (es i).length ≤ 50000) (him : ∀ i, i ≤ items.length → imms (es i) = true) (nd : X.N.Nodup) (ok : BlkOk X.N X.env.scope scope own) (hi : JI X tg iter σ H items) (gm : GMono g)
    (hg : ∀ (s : Shared) (H : Hp) (C : Addr) (cl : List (Str × Addr)) (fp : List Addr), PG (X.blk s H scope (compEnvC scope cl C X.env) fp) tg g)
    (hel : ∀ (i : Nat) (d : D) (v : V) (H2 : Hp), items[i]? = some d → Same H H2 → Rp H2 d v → g v (wipe σ (own.map (·.2))) H2 fun σ2 H3 => wipe σ2 (own.map (·.2)) = wipe σ (own.map (·.2)) ∧ H3 = H2 ∧ ((∃ r, es (i + 1) = es i ++ [r] ∧ JTb X scope c σ2 H2 true ∧ JEb X scope elt σ2 H2 r) ∨ (es (i + 1) = es i ∧ JTb X scope c σ2 H2 false)))
    (k : ∀ p vs H1, H p = none → Same H H1 → H1 p = some (.lst vs) → Rps H1 (es items.length) vs → wSs X rest Ds (σ.set j (some (.ref p))) H1)
    (hsw : swapsWith (.ListComp elt [⟨tg, iter, [c], 0⟩] scope pos) (some (.Name y py)) spos.line X.env = pure true := by rfl) (hy : X.N[j]? = some y := by rfl) (hyl : X.env.scope.names.lookup y = some .local := by rfl)
    (hc : X.calm = true := by rfl) (hs : ∀ x, foldedSetIterable iter X.env x = pure x := by intro _; rfl) : wSs X (.Assign [.Name y py] (.ListComp elt [⟨tg, iter, [c], 0⟩] scope pos) spos :: rest) Ds σ H := by
  obtain ⟨wi, hwi, hr⟩ := hi
  refine ws_cons (ps_setLc (te := wEb X scope elt) hc nd hy hyl hsw hwi ok hg (fun s Hb C cl fp => pts_one (wTb_ok s Hb C cl fp)) wEb_ok hs) (hr H (Same.refl _) _ fun J H2 s2 w Dl hD => ?_)
  refine lc_data w es e0 hz him hD (fun H' s => s) (fun i x H' H'' hlt s y => ?_) (fun x σ' H' Q Q' m h => gm x σ' H' Q Q' m h) fun us H' s h1 h2 => k Dl us H' (Same.free s2 hD) (s2.trans s) h1 h2
  obtain ⟨rfl, d, hd, hdr⟩ := y
  refine gm _ _ _ _ _ (fun σ2 H3 ⟨ew, e3, alt⟩ => ?_) (hel i d x _ hd (s2.trans s) (hdr.mono s))
  subst e3
  refine ⟨ew, Same.refl _, alt.imp (fun ⟨r, er, jt, je⟩ => ⟨r, er, fun H4 s4 Q q sh Hb C cl fp => jt sh Hb C cl fp H4 s4 Q q, fun H4 s4 Q q sh Hb C cl fp => je sh Hb C cl fp H4 s4 Q q⟩) fun ⟨er, jt⟩ => ⟨er, fun H4 s4 Q q sh Hb C cl fp => jt sh Hb C cl fp H4 s4 Q q⟩⟩
end
/-- a dict made by a comprehension -/
def dcG {A κ : Type} [DecidableEq κ] (f : A → Option (κ × V)) (es : List A) : Nat → List (κ × V)
  | 0 => []
  | i + 1 => match es[i]? with
    | some e => (match f e with
      | some kz => putK (dcG f es i) kz.1 kz.2
      | none => dcG f es i)
    | none => dcG f es i
theorem dcG_len {A κ : Type} [DecidableEq κ] (f : A → Option (κ × V)) (es : List A) : ∀ i, (dcG f es i).length ≤ i
  | 0 => Nat.le_refl _
  | i + 1 => by
    have ih := dcG_len f es i
    unfold dcG
    split
    · split
      · exact Nat.le_trans (length_putK _ _ _) (by omega)
      · omega
    · omega
def imF (k : Fin 3) (e : Ed) : Option (Key × V) := if e.2.1 = k then some (.inl (e.1 : Int), .int (e.2.2 : Int)) else none
def enF (k : Fin 3) (e : Ed) : Option (Key × V) := if e.2.1 = k then some (.inl (e.2.2 : Int), .bl true) else none
theorem im_spec {G : List Ed} {k : Fin 3} (hd : Det G) : ∀ i, i ≤ G.length → ∀ a : Nat, (∀ b : Nat, (a, k, b) ∈ G.take i → valV (dcG (imF k) G i) (.inl (a : Int)) = some (.int (b : Int))) ∧ ∀ v, valV (dcG (imF k) G i) (.inl (a : Int)) = some v → ∃ b : Nat, v = .int (b : Int) ∧ (a, k, b) ∈ G.take i
  | 0, _, a => ⟨fun b h => by simp at h, fun v h => by cases h⟩
  | i + 1, hi, a => by
    obtain ⟨q1, q2⟩ := im_spec hd i (by omega) a
    have he : G[i]? = some G[i] := List.getElem?_eq_getElem (by omega)
    have ht := take_snoc he
    have hm : G[i] ∈ G := List.getElem_mem _
    have hdet : ∀ b c, (a, k, b) ∈ G → (a, k, c) ∈ G → b = c := fun b c h1 h2 => hd a (k, false) b c h1 h2
    generalize G[i] = e at he ht hm
    obtain ⟨a0, l, b0⟩ := e
    unfold dcG
    rw [he, ht]
    by_cases hl : l = k
    · subst hl
      have : imF l (a0, l, b0) = some (.inl (a0 : Int), .int (b0 : Int)) := by unfold imF; rw [if_pos rfl]
      simp only [this]
      rw [valV_put]
      by_cases ha : a = a0
      · subst ha
        rw [if_pos rfl]
        refine ⟨fun b hb => ?_, fun v hv => ⟨b0, (Option.some.inj hv).symm, by simp⟩⟩
        have hbG : (a, l, b) ∈ G := by
          rcases List.mem_append.mp hb with h | h
          · exact List.mem_of_mem_take h
          · rw [List.mem_singleton.mp h]; exact hm
        rw [hdet b b0 hbG hm]
      · rw [if_neg fun z => ha (nkey.mp z)]
        refine ⟨fun b hb => ?_, fun v hv => ?_⟩
        · rcases List.mem_append.mp hb with h | h
          · exact q1 b h
          · have := List.mem_singleton.mp h
            exact absurd (congrArg (·.1) this) ha
        · obtain ⟨b, e, hb⟩ := q2 v hv
          exact ⟨b, e, List.mem_append_left _ hb⟩
    · have : imF k (a0, l, b0) = none := by unfold imF; rw [if_neg hl]
      simp only [this]
      refine ⟨fun b hb => ?_, fun v hv => ?_⟩
      · rcases List.mem_append.mp hb with h | h
        · exact q1 b h
        · have := List.mem_singleton.mp h
          exact absurd (congrArg (·.2.1) this).symm hl
      · obtain ⟨b, e, hb⟩ := q2 v hv
        exact ⟨b, e, List.mem_append_left _ hb⟩
theorem en_spec {G : List Ed} {k : Fin 3} : ∀ i, i ≤ G.length → ∀ b : Nat, (valV (dcG (enF k) G i) (.inl (b : Int))).isSome = true ↔ ∃ a, (a, k, b) ∈ G.take i
  | 0, _, b => by simp [dcG, valV_nil]
  | i + 1, hi, b => by
    have ih := en_spec i (by omega) b (G := G) (k := k)
    have he : G[i]? = some G[i] := List.getElem?_eq_getElem (by omega)
    have ht := take_snoc he
    generalize G[i] = e at he ht
    obtain ⟨a0, l, b0⟩ := e
    unfold dcG
    rw [he, ht]
    by_cases hl : l = k
    · subst hl
      have : enF l (a0, l, b0) = some (.inl (b0 : Int), .bl true) := by unfold enF; rw [if_pos rfl]
      simp only [this]
      rw [valV_put]
      by_cases hb : b = b0
      · subst hb
        rw [if_pos rfl]
        exact ⟨fun _ => ⟨a0, by simp⟩, fun _ => rfl⟩
      · rw [if_neg fun z => hb (nkey.mp z), ih]
        constructor
        · rintro ⟨a, h⟩
          exact ⟨a, List.mem_append_left _ h⟩
        · rintro ⟨a, h⟩
          rcases List.mem_append.mp h with h | h
          · exact ⟨a, h⟩
          · have := List.mem_singleton.mp h
            exact absurd (congrArg (·.2.2) this) hb
    · have : enF k (a0, l, b0) = none := by unfold enF; rw [if_neg hl]
      simp only [this]
      rw [ih]
      constructor
      · rintro ⟨a, h⟩
        exact ⟨a, List.mem_append_left _ h⟩
      · rintro ⟨a, h⟩
        rcases List.mem_append.mp h with h | h
        · exact ⟨a, h⟩
        · have := List.mem_singleton.mp h
          exact absurd (congrArg (·.2.1) this).symm hl
/-- the image along an edge -/
def imOf (G : List Ed) (k : Fin 3) (a : Nat) : Option Nat := (G.find? fun e => decide (e.1 = a ∧ e.2.1 = k)).map (·.2.2)
theorem imOf_some {G : List Ed} {k : Fin 3} (hd : Det G) {a b : Nat} : imOf G k a = some b ↔ (a, k, b) ∈ G := by
  unfold imOf
  constructor
  · intro h
    cases e : G.find? fun e => decide (e.1 = a ∧ e.2.1 = k) with
    | none => rw [e] at h; cases h
    | some x =>
      rw [e] at h
      have h1 := List.find?_some e
      have h2 := List.mem_of_find?_eq_some e
      obtain ⟨a1, l, b1⟩ := x
      have h1 : a1 = a ∧ l = k := of_decide_eq_true h1
      obtain ⟨rfl, rfl⟩ := h1
      rw [show b = b1 from (Option.some.inj h).symm]
      exact h2
  · intro h
    cases e : G.find? fun e => decide (e.1 = a ∧ e.2.1 = k) with
    | none =>
      have := List.find?_eq_none.mp e _ h
      simp at this
    | some x =>
      have h1 := List.find?_some e
      have h2 := List.mem_of_find?_eq_some e
      obtain ⟨a1, l, b1⟩ := x
      have h1 : a1 = a ∧ l = k := of_decide_eq_true h1
      obtain ⟨rfl, rfl⟩ := h1
      show some b1 = some b
      rw [hd a1 (l, false) b1 b h2 h]
end FW
/-! images_of, complete -/
namespace FW
open PySem L2
section
variable {P : Program} {w : World} {K : PySem.W.Frag} {mg : Str → Option Value} {base : Heap}
structure IB where
  n : Nat
  G : List Ed
  k : Fin 3
def ar_img (b : IB) : List D := [graphD b.n b.G, wD [(b.k, false)]]
structure ImgPre (b : IB) : Prop where
  det : Det b.G
  lt : ∀ (i : Nat) (k : Fin 3) (j : Nat), (i, k, j) ∈ b.G → i < b.n ∧ j < b.n
  n100 : b.n ≤ 100
  gl : b.G.length ≤ 100
def fi_img (b : IB) (d : D) : Prop := ∃ row : List Nat, d = .r row ∧ IsPerm b.n row ∧ ∀ a c, (a, b.k, c) ∈ b.G → row[a]? = some c
abbrev s_img : Stmt := topS 42
theorem sc_img : FnScope ["graph", "letter", "count", "edges", "images", "start", "end", "own", "entered", "free", "point"] ["graph", "letter"] (defScope s_img) := ⟨rfl, rfl, rfl, by decide +kernel, rfl, by decide +kernel, by decide +kernel⟩
theorem range_drop {n i : Nat} (h : i < n) : (List.range n).drop i = i :: (List.range n).drop (i + 1) := by
  rw [List.drop_eq_getElem_cons (by simpa using h), List.getElem_range]
theorem drop_cons {A : Type} {l : List A} {i : Nat} {x : A} {t : List A} (h : l.drop i = x :: t) : l[i]? = some x ∧ l.drop (i + 1) = t := by
  have h1 : (l.drop i)[0]? = some x := by rw [h] <;> rfl
  rw [List.getElem?_drop] at h1
  refine ⟨by simpa using h1, ?_⟩
  have := congrArg List.tail h
  rw [List.tail_drop] at this
  exact this
theorem nat_map (ns : List Nat) : natsD ns = ns.map fun n : Nat => D.i (n : Int) := rfl
theorem ok_img (T : Txt K mg) : FnOk P w K mg base CX0 1 T.images_of.f T.images_of.fd ["graph", "letter"] (spR ar_img ImgPre fi_img) := by
  refine T.images_of.F.ok sc_img (fun vs H Q E h => spR_len (n := 2) (fun b => rfl) h) (fun cdv A0 outer s H vs Q E hr h => ?_)
  obtain ⟨⟨n, G, l⟩, rr, hP, k⟩ := h
  have hdet : Det G := hP.det
  have hlt : ∀ (i : Nat) (k : Fin 3) (j : Nat), (i, k, j) ∈ G → i < n ∧ j < n := hP.lt
  have hn : n ≤ 100 := hP.n100
  have hgl : G.length ≤ 100 := hP.gl
  obtain ⟨va, vb, rfl, ra, rb⟩ := rps2 rr
  have ra : Rp H (.t [.i (n : Int), .t (G.map edD)]) va := ra
  obtain rfl : vb = .str (enc [(l, false)]) := rb
  refine ⟨_, wSs_ok, ?_⟩
  refine ws_asg (je_var 0 rfl ra) (pg_tup rfl (pgs_cons (pg_name (i := 2) sc_img.nd rfl (.inl rfl)) (pgs_cons (pg_name (i := 3) sc_img.nd rfl (.inl rfl)) pgs_nil))) fun v1 H1 s1 r1 => ?_
  refine gTup2 r1 fun vc ve rc re => ?_
  obtain rfl : vc = .int (n : Int) := rc
  show wSs _ _ _ [some va, some (.str (enc [(l, false)])), some (.int (n : Int)), some ve, none, none, none, none, none, none, none] H1
  have hel : (G.map edD).length = G.length := by simp
  -- images
  refine ws_setE 4 sc_img.nd (jd_K (own := [("start", 5), ("own", 7), ("end", 6)]) (g := gTup K 3 (gCons (gName 5) (gCons (gName 7) (gCons (gName 6) gNil)))) (items := G.map edD) (dcG (imF l) G) rfl (fun i hi => by have := dcG_len (imF l) G i; omega) sc_img.nd (blkOk_by (N := ["graph", "letter", "count", "edges", "images", "start", "end", "own", "entered", "free", "point"]) (sc := defScope s_img) (by decide +kernel))
    (ji_tup (je_var 3 rfl re)) gm_tup3 (fun _ _ _ _ _ => pg_tup rfl (pgs_cons (pg_name (i := 5) sc_img.nd rfl (.inl rfl)) (pgs_cons (pg_name (i := 7) sc_img.nd rfl (.inl rfl)) (pgs_cons (pg_name (i := 6) sc_img.nd rfl (.inl rfl)) pgs_nil)))) (fun s Hb C cl fp => pts_one (wTb_ok s Hb C cl fp)) (fun i d v H3 e1 s3 r3 => ?_) (fun pi H2 z2 s2 h2 => ?_))
  · obtain ⟨⟨a, l2, b⟩, he, rfl⟩ := map_at e1
    refine gTup3 r3 fun v1 v2 v3 q1 q2 q3 => ⟨rfl, rfl, ?_⟩
    obtain rfl : v2 = .str (enc [(l2, false)]) := q2
    obtain rfl : v3 = .int (b : Int) := q3
    by_cases hl : l2 = l
    · subst hl
      refine .inl ⟨.inl (a : Int), .int (b : Int), .i (b : Int), ?_, fun _ => rfl, fun _ v h => h, fun H4 s4 Q q sh Hb C cl fp => (JT.of (jt_eqS (x := enc [(l2, false)]) (y := enc [(l2, false)]) (je_var 7 rfl rfl) (je_var 1 rfl rfl)) (decide_eq_true rfl)) H4 s4 Q q, fun sh Hb C cl fp => je_var 5 rfl q1, fun sh Hb C cl fp => je_var 6 rfl rfl⟩
      show dcG _ G (i + 1) = _
      rw [dcG, he]
      have : imF l2 (a, l2, b) = some (.inl (a : Int), .int (b : Int)) := by unfold imF; rw [if_pos rfl]
      simp only [this]
    · refine .inr ⟨?_, fun H4 s4 Q q sh Hb C cl fp => (JT.of (jt_eqS (x := enc [(l2, false)]) (y := enc [(l, false)]) (je_var 7 rfl rfl) (je_var 1 rfl rfl)) (by rw [lab_iff]; exact decide_eq_false hl)) H4 s4 Q q⟩
      show dcG _ G (i + 1) = _
      rw [dcG, he]
      have : imF l (a, l2, b) = none := by unfold imF; rw [if_neg hl]
      simp only [this]
  rw [hel] at h2
  have himg := im_spec (k := l) hdet G.length (Nat.le_refl _)
  rw [List.take_length] at himg
  -- entered
  refine ws_setE 8 sc_img.nd (jd_K (own := [("start", 5), ("own", 7), ("end", 6)]) (g := gTup K 3 (gCons (gName 5) (gCons (gName 7) (gCons (gName 6) gNil)))) (items := G.map edD) (dcG (enF l) G) rfl (fun i hi => by have := dcG_len (enF l) G i; omega) sc_img.nd (blkOk_by (N := ["graph", "letter", "count", "edges", "images", "start", "end", "own", "entered", "free", "point"]) (sc := defScope s_img) (by decide +kernel))
    (ji_tup (je_var 3 rfl (re.mono s2))) gm_tup3 (fun _ _ _ _ _ => pg_tup rfl (pgs_cons (pg_name (i := 5) sc_img.nd rfl (.inl rfl)) (pgs_cons (pg_name (i := 7) sc_img.nd rfl (.inl rfl)) (pgs_cons (pg_name (i := 6) sc_img.nd rfl (.inl rfl)) pgs_nil)))) (fun s Hb C cl fp => pts_one (wTb_ok s Hb C cl fp)) (fun i d v H3 e1 s3 r3 => ?_) (fun pe H3 z3 s3 h3 => ?_))
  · obtain ⟨⟨a, l2, b⟩, he, rfl⟩ := map_at e1
    refine gTup3 r3 fun v1 v2 v3 q1 q2 q3 => ⟨rfl, rfl, ?_⟩
    obtain rfl : v2 = .str (enc [(l2, false)]) := q2
    obtain rfl : v3 = .int (b : Int) := q3
    by_cases hl : l2 = l
    · subst hl
      refine .inl ⟨.inl (b : Int), .bl true, .b true, ?_, fun _ => rfl, fun _ v h => h, fun H4 s4 Q q sh Hb C cl fp => (JT.of (jt_eqS (x := enc [(l2, false)]) (y := enc [(l2, false)]) (je_var 7 rfl rfl) (je_var 1 rfl rfl)) (decide_eq_true rfl)) H4 s4 Q q, fun sh Hb C cl fp => je_var (d := .i (b : Int)) 6 rfl rfl, fun sh Hb C cl fp => je_bl⟩
      show dcG _ G (i + 1) = _
      rw [dcG, he]
      have : enF l2 (a, l2, b) = some (.inl (b : Int), .bl true) := by unfold enF; rw [if_pos rfl]
      simp only [this]
    · refine .inr ⟨?_, fun H4 s4 Q q sh Hb C cl fp => (JT.of (jt_eqS (x := enc [(l2, false)]) (y := enc [(l, false)]) (je_var 7 rfl rfl) (je_var 1 rfl rfl)) (by rw [lab_iff]; exact decide_eq_false hl)) H4 s4 Q q⟩
      show dcG _ G (i + 1) = _
      rw [dcG, he]
      have : enF l (a, l2, b) = none := by unfold enF; rw [if_neg hl]
      simp only [this]
  rw [hel] at h3
  have hent := en_spec (G := G) (k := l) G.length (Nat.le_refl _)
  rw [List.take_length] at hent
  generalize dcG (enF l) G G.length = ent at h3 hent
  have himl := dcG_len (imF l) G G.length
  generalize dcG (imF l) G G.length = imk at h2 himg himl
  have hrl : ((List.range n).map fun i : Nat => D.i (i : Int)).length = n := by simp
  -- free
  refine ws_setLcF 9 (own := [("point", 10)]) (g := gName 10) (items := (List.range n).map fun i : Nat => D.i (i : Int)) (fun i => natsD (((List.range n).take i).filter fun p => !(valV ent (.inl (p : Int))).isSome)) rfl (fun i hi => by rw [nats_len]; exact Nat.le_trans (List.length_filter_le _ _) (by simp; omega)) (fun i _ => imms_nats _) sc_img.nd (blkOk_by (N := ["graph", "letter", "count", "edges", "images", "start", "end", "own", "entered", "free", "point"]) (sc := defScope s_img) (by decide +kernel))
    (ji_range T.b_range (je_var (d := .i (n : Int)) 2 rfl (intRp n)) (by omega)) gm_name (fun _ _ _ _ _ => pg_name (i := 10) sc_img.nd rfl (.inl rfl)) (fun i d v H4 e1 s4 r4 => ?_) fun pf us H4 z4 s4 h4 r4 => ?_
  · obtain ⟨p, hp, rfl⟩ := map_at e1
    refine ⟨hw1 v, rfl, ?_⟩
    have ht := take_snoc hp
    cases hv : (valV ent (.inl (p : Int))).isSome with
    | false =>
      refine .inl ⟨.i (p : Int), ?_, fun sh Hb C cl fp => JT.of (jt_dninK (k := .inl (p : Int)) hr (jv_var 8) (s4 _ _ h3) (je_var 10 rfl r4)) (by rw [hv] <;> rfl), fun sh Hb C cl fp => je_var 10 rfl r4⟩
      show natsD _ = natsD _ ++ _
      rw [ht, List.filter_append]
      have : List.filter (fun p : Nat => !(valV ent (.inl (p : Int))).isSome) [p] = [p] := by
        rw [List.filter_cons_of_pos (by show (!(valV ent (.inl (p : Int))).isSome) = true; rw [hv] <;> rfl)] <;> rfl
      rw [this, ← nats_app] <;> rfl
    | true =>
      refine .inr ⟨?_, fun sh Hb C cl fp => JT.of (jt_dninK (k := .inl (p : Int)) hr (jv_var 8) (s4 _ _ h3) (je_var 10 rfl r4)) (by rw [hv] <;> rfl)⟩
      show natsD _ = natsD _
      rw [ht, List.filter_append]
      have : List.filter (fun p : Nat => !(valV ent (.inl (p : Int))).isSome) [p] = [] := by
        rw [List.filter_cons_of_neg (by show ¬ (!(valV ent (.inl (p : Int))).isSome) = true; rw [hv]; decide)] <;> rfl
      rw [this, List.append_nil]
  rw [hrl] at r4
  have htk : (List.range n).take n = List.range n := List.take_of_length_le (by simp)
  rw [htk] at r4
  generalize hfree : (List.range n).filter (fun p : Nat => !(valV ent (.inl (p : Int))).isSome) = free at r4
  have hfr : free = (List.range n).filter fun p => decide (p ∉ (List.range n).filterMap (imOf G l)) := by
    rw [← hfree]
    refine List.filter_congr fun p hp => ?_
    have h1 := hent p
    have h2 : p ∈ (List.range n).filterMap (imOf G l) ↔ ∃ a, (a, l, p) ∈ G := by
      rw [List.mem_filterMap]
      constructor
      · rintro ⟨a, _, h⟩
        exact ⟨a, (imOf_some hdet).mp h⟩
      · rintro ⟨a, h⟩
        exact ⟨a, List.mem_range.mpr (hlt a l p h).1, (imOf_some hdet).mpr h⟩
    rw [← h2] at h1
    by_cases q : p ∈ (List.range n).filterMap (imOf G l)
    · rw [h1.mpr q]; simp [q]
    · have : (valV ent (.inl (p : Int))).isSome = false := by
        cases e : (valV ent (.inl (p : Int))).isSome with
        | true => exact absurd (h1.mp e) q
        | false => rfl
      rw [this]; simp [q]
  obtain ⟨hperm, hedge, hcount⟩ := row_ok (n := n) (im := imOf G l) (fun a b c h1 h2 => by
    have e1 := (imOf_some hdet).mp h1
    have e2 := (imOf_some hdet).mp h2
    exact hdet c (l, true) a b e1 e2) (fun a c h => (hlt a l c ((imOf_some hdet).mp h)).2) hfr
  generalize hrow : rowGo (imOf G l) (List.range n) free = row at hperm hedge
  have hrowl := hperm.len
  have himv : ∀ p : Nat, valV imk (.inl (p : Int)) = (imOf G l p).map fun b : Nat => V.int (b : Int) := fun p => by
    obtain ⟨q1, q2⟩ := himg p
    cases e : imOf G l p with
    | some b => exact q1 b ((imOf_some hdet).mp e)
    | none =>
      cases hv : valV imk (.inl (p : Int)) with
      | none => rfl
      | some v =>
        obtain ⟨b, _, hb⟩ := q2 v hv
        rw [(imOf_some hdet).mpr hb] at e
        cases e
  have npi : pi ≠ pf := fun e => by rw [← e, s3 _ _ h2] at z4; cases z4
  have zpi : H pi = none := Same.free s1 z2
  have s03 := (s1.trans s2).trans s3
  have zpf : H pf = none := Same.free s03 z4
  refine ws_forR (n := (n : Int)) T.b_range (je_var 2 rfl (intRp n)) (by omega) (pg_name (i := 10) sc_img.nd rfl (.inl rfl))
    (fun i σ' H' => ∃ (fr : List Nat) (kvs : List (Key × V)) (x10 : Option V), σ' = [some va, some (.str (enc [(l, false)])), some (.int (n : Int)), some ve, some (.ref pi), none, none, none, some (.ref pe), some (.ref pf), x10] ∧ Same H H' ∧ H' pi = some (.dK kvs) ∧ LstAt H' pf (natsD fr) ∧ kvs.length ≤ 100 + i ∧ row.drop i = rowGo (imOf G l) ((List.range n).drop i) fr ∧ (((List.range n).drop i).filter fun p => (imOf G l p).isNone).length = fr.length ∧ (∀ p, p < i → ∃ b, row[p]? = some b ∧ valV kvs (.inl (p : Int)) = some (.int (b : Int))) ∧ ∀ p, i ≤ p → valV kvs (.inl (p : Int)) = (imOf G l p).map fun b : Nat => V.int (b : Int))
    (fun H5 s5 => ⟨free, imk, none, rfl, (s03.trans s4).trans s5, s5 _ _ (s4 _ _ (s3 _ _ h2)), ⟨us, s5 _ _ h4, r4.mono s5⟩, by omega, by rw [List.drop_zero, List.drop_zero, hrow], by rw [List.drop_zero]; exact hcount, fun p h => absurd h (Nat.not_lt_zero p), fun p _ => himv p⟩) ?_ ?_
  · rintro i σ' H5 hi ⟨fr, kvs, x10, rfl, s5, h5, l5, hkl, hrd, hcnt, hold, hnew⟩
    have hi : i < n := by simpa using hi
    show wSs _ _ _ [some va, some (.str (enc [(l, false)])), some (.int (n : Int)), some ve, some (.ref pi), none, none, none, some (.ref pe), some (.ref pf), some (.int (i : Int))] H5
    rw [range_drop hi] at hrd hcnt
    have hvi := hnew i (Nat.le_refl _)
    cases him : imOf G l i with
    | some b =>
      rw [him] at hvi
      refine ws_ifF (JT.of (jt_dninK (k := .inl (i : Int)) hr (jv_var 4) h5 (je_var 10 rfl (intRp i))) (by rw [hvi] <;> rfl)) fun H6 s6 => ws_nil ?_
      unfold rowGo at hrd
      rw [him] at hrd
      obtain ⟨d1, d2⟩ := drop_cons hrd
      rw [List.filter_cons, if_neg (by simp [him])] at hcnt
      refine ⟨fr, kvs, _, rfl, s5.trans s6, s6 _ _ h5, l5.mono s6, by omega, d2, hcnt, fun p hp => ?_, fun p hp => hnew p (by omega)⟩
      by_cases e : p = i
      · subst e
        exact ⟨b, d1, hvi⟩
      · exact hold p (by omega)
    | none =>
      rw [him] at hvi
      unfold rowGo at hrd
      rw [him] at hrd
      rw [List.filter_cons, if_pos (by simp [him])] at hcnt
      cases fr with
      | nil => simp at hcnt
      | cons f fs =>
        have hrd : row.drop i = f :: rowGo (imOf G l) ((List.range n).drop (i + 1)) fs := hrd
        obtain ⟨d1, d2⟩ := drop_cons hrd
        obtain ⟨us5, h5f, r5f⟩ := l5
        obtain ⟨vf, wf, rfl, rvf, rwf⟩ := r5f
        obtain rfl : vf = .int (f : Int) := rvf
        refine ws_ifT (JT.of (jt_dninK (k := .inl (i : Int)) hr (jv_var 4) h5 (je_var 10 rfl (intRp i))) (by rw [hvi] <;> rfl)) fun H6 s6 => ?_
        refine ws_dputKE hr (we_pop0 (jv_var 9) (s6 _ _ h5f) fun H7 s7 => ⟨pi, kvs, .inl (i : Int), jv_var 4, by rw [upd_ne npi]; exact s7 _ _ (s6 _ _ h5), by omega, je_var 10 rfl (intRp i), fun H8 s8 h8 => ws_nil (ws_nil ?_)⟩)
        have t7 : KeepT H7 (upd H7 pf (.lst wf)) := keepT_lst (s7 _ _ (s6 _ _ h5f))
        have s58 : Same H H8 := (Same.mut ((s5.trans s6).trans s7) zpf).trans s8
        have f8 : LstAt H8 pf (natsD fs) := LstAt.mono ⟨wf, upd_same, Rps.imm t7 (imms_nats fs) ((show Rps H5 (natsD fs) wf from rwf).mono (s6.trans s7))⟩ s8
        have t8 := keepT_dK (u := .dK (putK kvs (.inl (i : Int)) (.int (f : Int)))) h8
        have hkp := length_putK kvs (.inl (i : Int) : Key) (.int (f : Int))
        refine ⟨fs, _, _, rfl, Same.mut s58 zpi, upd_same, f8.keep (ls := [pi]) (by simpa using Ne.symm npi) (keepL_upd (by simp)) t8 (imms_nats _), by omega, d2, by simpa using hcnt, fun p hp => ?_, fun p hp => ?_⟩
        · rw [valV_put]
          by_cases e : p = i
          · subst e
            rw [if_pos rfl]
            exact ⟨f, d1, rfl⟩
          · rw [if_neg fun z => e (nkey.mp z)]
            exact hold p (by omega)
        · rw [valV_put, if_neg fun z => by
            have := nkey.mp z
            omega]
          exact hnew p (by omega)
  · rintro σ' H5 ⟨fr, kvs, x10, rfl, s5, h5, l5, hkl, hrd, hcnt, hold, hnew⟩
    have e : ((n : Int)).toNat = n := by simp
    rw [e] at hold
    refine ws_ret (d := .r row) (je_tupleR T.b_tuple (JF.je (jf_lc (own := [("point", 10)]) (g := gName 10) (items := (List.range n).map fun i : Nat => D.i (i : Int)) (es := row.map fun m : Nat => D.i (m : Int)) sc_img.nd (blkOk_by (N := ["graph", "letter", "count", "edges", "images", "start", "end", "own", "entered", "free", "point"]) (sc := defScope s_img) (by decide +kernel))
      (ji_range T.b_range (je_var (d := .i (n : Int)) 2 rfl (intRp n)) (by omega)) (by simp [hrowl]) (by simp; omega) (imms_nats _) gm_name (fun _ _ _ _ _ => pg_name (i := 10) sc_img.nd rfl (.inl rfl)) (fun i d r v3 H6 e1 e2 s6 r6 => ?_)))) fun v6 H7 s7 r7 => k v6 _ H7 ⟨row, rfl, hperm, fun a c h => hedge a c (hlt a l c h).1 ((imOf_some hdet).mpr h)⟩ (s5.trans s7) r7
    refine ⟨hw1 v3, rfl, fun sh Hb C cl fp => ?_⟩
    obtain ⟨p, hp, rfl⟩ := map_at e1
    obtain ⟨b, hb, rfl⟩ := map_at e2
    have hpi : p = i ∧ i < n := by
      obtain ⟨h1, h2⟩ := List.getElem?_eq_some_iff.mp hp
      rw [List.getElem_range] at h2
      exact ⟨h2.symm, by simpa using h1⟩
    obtain ⟨rfl, hpn⟩ := hpi
    obtain ⟨b2, hb2, hv⟩ := hold p hpn
    rw [hb] at hb2
    obtain rfl := Option.some.inj hb2
    exact je_dixK (k := .inl (p : Int)) (d := .i (b : Int)) hr (jv_var 4) (s6 _ _ h5) (je_var 10 rfl r6) hv (fun _ _ => rfl)
end
end FW
/-! complete, against -/
namespace FW
open PySem L2
section
variable {X : Cx} {e a b c elt iter tg : Expr} {es : List Expr} {rest : List Stmt} {σ : L2.St} {H : Hp} {pos : Pos} {Ds : Ends} {items : List D} {g : TG} {scope : Scope} {n : Nat} {Q : VK}
/-- [elt for tg in iter], each item told by what is true of it -/
theorem we_lcR {own : List (Str × Nat)} {φ : Nat → D → Prop} (hz : items.length ≤ 50000) (nd : X.N.Nodup) (ok : BlkOk X.N X.env.scope scope own) (hi : JI X tg iter σ H items) (gm : GMono g)
    (hg : ∀ (s : Shared) (H : Hp) (C : Addr) (cl : List (Str × Addr)) (fp : List Addr), PG (X.blk s H scope (compEnvC scope cl C X.env) fp) tg g)
    (hel : ∀ (i : Nat) (d : D) (v : V) (H2 : Hp), items[i]? = some d → Same H H2 → Rp H2 d v → g v (wipe σ (own.map (·.2))) H2 fun σ2 H3 => wipe σ2 (own.map (·.2)) = wipe σ (own.map (·.2)) ∧ H3 = H2 ∧ ∀ (s : Shared) (Hb : Hp) (C : Addr) (cl : List (Str × Addr)) (fp : List Addr) (Q : VK), (∀ v r H4, φ i r → imm r = true → Same H2 H4 → Rp H4 r v → Q v H4) → wE (X.blk s Hb scope (compEnvC scope cl C X.env) fp) elt σ2 H2 Q)
    (q : ∀ p us es H1, H p = none → Same H H1 → H1 p = some (.lst us) → Rps H1 es us → es.length = items.length → (∀ i r, es[i]? = some r → φ i r) → Q (.ref p) H1)
    (hc : X.calm = true := by rfl) (hs : ∀ x, foldedSetIterable iter X.env x = pure x := by intro _; rfl) : wE X (.ListComp elt [⟨tg, iter, [], 0⟩] scope pos) σ H Q := by
  obtain ⟨wi, hwi, hr⟩ := hi
  refine ⟨_, pe_lc (te := wEb X scope elt) hc nd hwi ok hg (fun _ _ _ _ _ => pts_nil) wEb_ok hs, hr H (Same.refl _) _ fun J H2 s2 w Dl hD => ?_⟩
  refine lc_it w (fun i H' => ∃ us es, Same H2 H' ∧ H' Dl = some (.lst us) ∧ Rps H' es us ∧ es.length = i ∧ imms es = true ∧ ∀ j r, es[j]? = some r → φ j r) ⟨[], [], same_new hD, upd_same, rfl, rfl, rfl, fun j r h => by simp at h⟩ (fun i H' _ ⟨_, _, s, _⟩ => s) (fun i x H' H'' hlt h y => ?_) fun H' ⟨us, es, s, h1, h2, h3, h4, h5⟩ => q Dl us es H' (Same.free s2 hD) (s2.trans s) h1 h2 h3 h5
  obtain ⟨us, es, s, h1, h2, h3, h4, h5⟩ := h
  obtain ⟨rfl, d, hd, hdr⟩ := y
  refine gm _ _ _ _ _ (fun σ2 H3 ⟨ew, e3, je⟩ => ?_) (hel i d x _ hd (s2.trans s) (hdr.mono s))
  subst e3
  refine ⟨ew, ?_⟩
  show wEb X scope elt σ2 _ _
  intro sh Hb C cl fp
  refine je sh Hb C cl fp _ fun v r H4 hφ him s4 r4 => ⟨us, s4 _ _ h1, sz5' (by rw [h2.len]; omega), us ++ [v], es ++ [r], Same.mut (s.trans s4) hD, upd_same, ?_, by rw [List.length_append, List.length_singleton, h3], ?_, fun j r' hj => ?_⟩
  · have h6 : imms (es ++ [r]) = true := by
      rw [imms_app, h4]
      show (true && (imm r && true)) = true
      rw [him] <;> rfl
    exact Rps.imm (keepT_lst (s4 _ _ h1)) h6 (Rps.app (h2.mono s4) (.cons r4 rfl))
  · rw [imms_app, h4]
    show (true && (imm r && true)) = true
    rw [him] <;> rfl
  · by_cases hjl : j < es.length
    · rw [List.getElem?_append_left hjl] at hj
      exact h5 j r' hj
    · have hjj : j = es.length := by
        have := (List.getElem?_eq_some_iff.mp hj).1
        simp at this
        omega
      subst hjj
      simp at hj
      subst hj
      rw [h3]
      exact hφ
/-- a call whose arguments are told one by one -/
theorem we_callRA {B : Type} {ar : B → List D} {ψ : B → Prop} {φ : B → D → Prop} {k : Nat} {g x q : Str} {st : Stmt} {ps : List Str} {p : Pos} (Dd : Df X.K X.mg g x q st ps) (G : FnOk X.prog X.w X.K X.mg X.base CX0 k Dd.f Dd.fd ps (spR ar ψ φ)) (hr : Room k X.A)
    (ha : wA X (e :: es) σ H fun vs H2 => ∃ b, Rps H2 (ar b) vs ∧ ψ b ∧ ∀ v d H', φ b d → Same H2 H' → Rp H' d v → Q v H') (hg : Gl X g := by rfl) (hdb : (g == ("__debug__" : Str)) = false := by decide) (he : starEach (e :: es) X.env = (false, eval e X.env) :: starEach es X.env := by rfl) (hpl : (backTo pos (starEach es X.env)).any (·.1) = false := by rfl) :
    wE X (.Call (.Name g p) (e :: es) [] pos) σ H Q :=
  ⟨_, pe_call G hr hg Dd.m Dd.F.kp Dd.b .nil pass0 wA_ok hdb he hpl, wA_mono ha fun vs H2 ⟨b, rs, hψ, k2⟩ => ⟨b, by rw [List.append_nil]; exact rs, hψ, k2⟩⟩
theorem ws_asgE {te : Expr} {g : TG} (he : wE X e σ H fun v H1 => g v σ H1 (wSs X rest Ds)) (hg : PG X te g) (hs : swapsWithSole [te] e pos.line X.env = pure false := by rfl) (hw : swappedStores [te] e X.env = pure none := by rfl)
    (h1 : (assignEach [te] X.env).map (·.2) = [assign te X.env] := by rfl) : wSs X (.Assign [te] e pos :: rest) Ds σ H := ws_cons (ps_asg wE_ok hg hs hw h1) he
theorem we_if {k : Bool} (h : JT X c σ H k) (h1 : k = true → ∀ H1, Same H H1 → wE X a σ H1 Q) (h2 : k = false → ∀ H1, Same H H1 → wE X b σ H1 Q) : wE X (.IfExp c a b pos) σ H Q :=
  ⟨_, pe_ifExp wT_ok wE_ok wE_ok, h H (Same.refl _) _ fun H2 s2 => by
    cases k with
    | true => exact h1 rfl H2 s2
    | false => exact h2 rfl H2 s2⟩
theorem we_tupleR {p : Pos} {ns : List Nat} (hm : X.mg "tuple" = none) (h : wE X e σ H fun v H1 => ∃ ds, Rp H1 (.l ds) v ∧ ∀ v' H2, Same H1 H2 → Rp H2 (.t ds) v' → Q v' H2)
    (hg : Gl X "tuple" := by rfl) (he : starEach [e] X.env = (false, eval e X.env) :: starEach [] X.env := by rfl) (hpl : (backTo pos (starEach [] X.env)).any (·.1) = false := by rfl) : wE X (.Call (.Name "tuple" p) [e] [] pos) σ H Q := we_tupleL hm h hg he hpl
end
section
variable {P : Program} {w : World} {K : PySem.W.Frag} {mg : Str → Option Value} {base : Heap}
def abcW : Wd := [(0, false), (1, false), (2, false)]
theorem enc_abc : ("abc" : Str) = enc abcW := by decide +kernel
structure CB where
  r : Nat
  n : Nat
  G : List Ed
def ar_com (b : CB) : List D := [.i (b.r : Int), graphD b.n b.G]
structure ComPre (b : CB) : Prop where
  hi : b.r ≤ 3
  det : Det b.G
  lt : ∀ (i : Nat) (k : Fin 3) (j : Nat), (i, k, j) ∈ b.G → i < b.n ∧ j < b.n ∧ k.val < b.r
  n100 : b.n ≤ 100
  gl : b.G.length ≤ 100
def fi_com (b : CB) (d : D) : Prop := ∃ act, d = actD act ∧ RowsOk b.r b.n b.G act
abbrev s_com : Stmt := topS 43
theorem sc_com : FnScope ["rank", "graph", "letter"] ["rank", "graph"] (defScope s_com) := ⟨rfl, rfl, rfl, by decide +kernel, rfl, by decide +kernel, by decide +kernel⟩
theorem rows_of {n : Nat} {G : List Ed} : ∀ {es : List D} {m : Nat}, (∀ i r, es[i]? = some r → ∃ row : List Nat, r = .r row ∧ IsPerm n row ∧ ∀ (k : Fin 3), k.val = m + i → ∀ a c, (a, k, c) ∈ G → row[a]? = some c) → ∃ act : Act, es = act.map D.r ∧ ActOk n act ∧ ∀ (k : Fin 3) i row, act[i]? = some row → k.val = m + i → ∀ a c, (a, k, c) ∈ G → row[a]? = some c
  | [], m, h => ⟨[], rfl, fun row h => (by cases h), fun k i row h => by simp at h⟩
  | e :: es, m, h => by
    obtain ⟨row, rfl, h1, h2⟩ := h 0 e rfl
    obtain ⟨act, rfl, h3, h4⟩ := rows_of (es := es) (m := m + 1) (fun i r hi => by
      obtain ⟨row, e1, e2, e3⟩ := h (i + 1) r hi
      exact ⟨row, e1, e2, fun k hk => e3 k (by omega)⟩)
    refine ⟨row :: act, rfl, fun x hx => ?_, fun k i x hx hk => ?_⟩
    · rcases List.mem_cons.mp hx with rfl | hx
      · exact h1
      · exact h3 x hx
    · cases i with
      | zero =>
        have : row = x := by simpa using hx
        subst this
        exact h2 k hk
      | succ i => exact h4 k i x (by simpa using hx) (by omega)
theorem ok_com (T : Txt K mg) : FnOk P w K mg base CX0 2 T.complete.f T.complete.fd ["rank", "graph"] (spR ar_com ComPre fi_com) := by
  refine T.complete.F.ok sc_com (fun vs H Q E h => spR_len (n := 2) (fun b => rfl) h) (fun cdv A0 outer s H vs Q E hr h => ?_)
  obtain ⟨⟨r, n, G⟩, rr, hP, k⟩ := h
  have hr3 : r ≤ 3 := hP.hi
  have hdet : Det G := hP.det
  have hlt : ∀ (i : Nat) (k : Fin 3) (j : Nat), (i, k, j) ∈ G → i < n ∧ j < n ∧ k.val < r := hP.lt
  obtain ⟨va, vb, rfl, ra, rb⟩ := rps2 rr
  have ra : Rp H (.i (r : Int)) va := ra
  have rb : Rp H (graphD n G) vb := rb
  obtain ⟨tab, gab⟩ := T.g_SMALL_completing
  refine ⟨_, wSs_ok, ?_⟩
  have htl : (abcW.take r).length = r := by rw [List.length_take]; show min r 3 = r; omega
  refine ws_retE (we_tupleL T.b_tuple (we_lcR (own := [("letter", 2)]) (g := gName 2) (items := (abcW.take r).map fun x => wD [x]) (φ := fun i d => ∃ row : List Nat, d = .r row ∧ IsPerm n row ∧ ∀ (k : Fin 3), k.val = 0 + i → ∀ a c, (a, k, c) ∈ G → row[a]? = some c) (by rw [List.length_map, htl]; omega) sc_com.nd (blkOk_by (N := ["rank", "graph", "letter"]) (sc := defScope s_com) (by decide +kernel))
    (ji_word (JE.of (je_toS (n := r) (je_globS gab) (je_var 0 rfl ra) (by rw [enc_abc, enc_len]; decide) rfl) (by rw [enc_abc, enc_take]))) gm_name (fun _ _ _ _ _ => pg_name (i := 2) sc_com.nd rfl (.inl rfl)) (fun i d v H2 e1 s2 r2 => ?_) (fun p us es H1 hp s1 h1 h2 h3 h4 => ⟨es, ⟨p, us, rfl, h1, h2⟩, fun v' H2 s2 r2 => ?_⟩)))
  · obtain ⟨x, hx, rfl⟩ := map_at e1
    refine ⟨hw1 v, rfl, fun sh Hb C cl fp Q2 q => ?_⟩
    have hil : i < r := by
      have := (List.getElem?_eq_some_iff.mp hx).1
      omega
    have hx2 : ∃ k : Fin 3, k.val = i ∧ x = (k, false) := by
      rw [List.getElem?_take] at hx
      rw [if_pos hil] at hx
      have : i = 0 ∨ i = 1 ∨ i = 2 := by omega
      rcases this with rfl | rfl | rfl
      · exact ⟨0, rfl, (Option.some.inj hx).symm⟩
      · exact ⟨1, rfl, (Option.some.inj hx).symm⟩
      · exact ⟨2, rfl, (Option.some.inj hx).symm⟩
    obtain ⟨k0, hk0, rfl⟩ := hx2
    refine we_callR (B := IB) ⟨n, G, k0⟩ T.images_of (ok_img T) (hr.mono (by decide)) (ja_cons (je_var 1 rfl (rb.mono s2)) (ja_cons (je_var 2 rfl r2) ja_nil)) ⟨hdet, fun i k j h => ⟨(hlt i k j h).1, (hlt i k j h).2.1⟩, hP.n100, hP.gl⟩ (fun v d H' hφ s r => ?_)
    obtain ⟨row, rfl, hp, he⟩ := hφ
    exact q v _ H' ⟨row, rfl, hp, fun k hk a c h => he a c (by rw [show k0 = k from Fin.ext (by omega)]; exact h)⟩ rfl s r
  · obtain ⟨act, rfl, ha1, ha2⟩ := rows_of (n := n) (G := G) (m := 0) h4
    rw [List.length_map, List.length_map, htl] at h3
    refine k v' _ H2 ⟨act, rfl, h3, ha1, fun a l c h => ?_⟩ (s1.trans s2) r2
    have hl : l.val < act.length := by
      rw [h3]
      exact (hlt a l c h).2.2
    exact ⟨act[l.val], List.getElem?_eq_getElem hl, ha2 l l.val _ (List.getElem?_eq_getElem hl) (by omega) a c h⟩
structure GPre (b : DB) : Prop where
  fam : FamOk b.r b.gs
  inr : InR b.r b.u
  len : b.u.length ≤ 20
  non : ¬ Mem b.gs b.u
def fi_aga (b : DB) (d : D) : Prop := ∃ act, d = actD act ∧ Against b.r b.gs b.u act
abbrev s_aga : Stmt := topS 44
theorem sc_aga : FnScope ["family", "word", "graph", "end"] ["family", "word"] (defScope s_aga) := ⟨rfl, rfl, rfl, by decide +kernel, rfl, by decide +kernel, by decide +kernel⟩
theorem ok_aga (T : Txt K mg) : FnOk P w K mg base CX0 11 T.against.f T.against.fd ["family", "word"] (spR ar_der GPre fi_aga) := by
  refine T.against.F.ok sc_aga (fun vs H Q E h => spR_len (n := 2) (fun b => rfl) h) (fun cdv A0 outer s H vs Q E hr h => ?_)
  obtain ⟨⟨r, gs, u⟩, rr, hP, k⟩ := h
  have hF : FamOk r gs := hP.fam
  have hin : InR r u := hP.inr
  have hul : u.length ≤ 20 := hP.len
  have hnm : ¬ Mem gs u := hP.non
  obtain ⟨va, vb, rfl, ra, rb⟩ := rps2 rr
  have ra : Rp H (famD r gs) va := ra
  obtain rfl : vb = .str (enc u) := rb
  have hrl : (red u).length ≤ u.length := red_len u
  refine ⟨_, wSs_ok, ?_⟩
  refine ws_asgE (we_callRA (B := AB) T.attach (ok_att T) (hr.mono (by decide)) (wa_cons (we_callR (B := FB) ⟨r, gs⟩ T.graph_in (ok_gin T) (hr.mono (by decide)) (ja_cons (je_var 0 rfl ra) ja_nil) hF fun v d H1 hφ s1 r1 => ?_))) (pg_tup rfl (pgs_cons (pg_name (i := 2) sc_aga.nd rfl (.inl rfl)) (pgs_cons (pg_name (i := 3) sc_aga.nd rfl (.inl rfl)) pgs_nil)))
  obtain ⟨n, G, rfl, hG, hgl⟩ := hφ
  have hG : GraphOk r gs n G := hG
  refine wa_cons ((je_callD T.reduce_of (ok_red T) (hr.mono (by decide)) (ja_cons (je_var (d := wD u) 1 rfl rfl) ja_nil) ⟨u, rfl, by omega, rfl⟩).go fun v2 H2 s2 r2 => wa_nil ⟨⟨r, gs, n, G, red u⟩, .cons (r1.mono s2) (.cons r2 rfl), ⟨hG, hgl, rdd_red inv_inv u, hin.red, by show (red u).length ≤ 30; omega⟩, fun v3 d H3 hφ s3 r3 => ?_⟩)
  obtain ⟨n', G', here, rfl, hA, hgl'⟩ := hφ
  have hA : AttInv n G (red u) n' G' here r := hA
  have hsz := hG.size
  have hn2 := hA.n2
  refine gTup2 r3 fun vg ve rg re => ?_
  obtain rfl : ve = .int (here : Int) := re
  show wSs _ _ _ [some va, some (.str (enc u)), some vg, some (.int (here : Int))] H3
  have s13 := (s1.trans s2).trans s3
  have hne : here ≠ 0 := fun e => hnm (mem_red.mp (hG.back _ (hA.end0 hG.pos e)))
  refine ws_retE (we_if (k := true) (JT.of (jt_neI (j := ((0 : Nat) : Int)) (je_var 3 rfl (intRp here)) je_int) (by rw [dec_nat, decide_eq_false hne] <;> rfl)) (fun _ H4 s4 => we_callR (B := CB) ⟨r, n', G'⟩ T.complete (ok_com T) (hr.mono (by decide)) (ja_cons (je_fam0 (je_var 0 rfl (ra.mono (s13.trans s4)))) (ja_cons (je_var 2 rfl (rg.mono s4)) ja_nil)) ⟨hF.hi, hA.det, hA.lt, by show n' ≤ 100; omega, by show G'.length ≤ 100; omega⟩ fun v5 d H5 hφ s5 r5 => ?_) (fun z => by cases z))
  obtain ⟨act, rfl, hR⟩ := hφ
  exact k v5 _ H5 ⟨act, rfl, (against_ok hG hA hR (by omega) hnm).2⟩ ((s13.trans s4).trans s5) r5
end
end FW
/-! answer_of, answer_for; is_factor, is_reduced, is_step, value_of, made_of -/
namespace FW
open PySem L2
section
variable {P : Program} {w : World} {K : PySem.W.Frag} {mg : Str → Option Value} {base : Heap}
inductive AnsD where
  | mem (st : List Stp)
  | non (act : Act)
def ansD : AnsD → D
  | .mem st => .t [.s "member", .t (st.map stpD)]
  | .non act => .t [.s "none", actD act]
def AnsOk (r : Nat) (gs : List Wd) (u : Wd) : AnsD → Prop
  | .mem st => DerivOk r gs u st ∧ Mem gs u
  | .non act => Against r gs u act ∧ ¬ Mem gs u
structure AnPre (b : DB) : Prop where
  fam : FamOk b.r b.gs
  inr : InR b.r b.u
  len : b.u.length ≤ 20
def fi_ans (b : DB) (d : D) : Prop := ∃ a, d = ansD a ∧ AnsOk b.r b.gs b.u a
abbrev s_ans : Stmt := topS 65
theorem sc_ans : FnScope ["family", "word", "steps"] ["family", "word"] (defScope s_ans) := ⟨rfl, rfl, rfl, by decide +kernel, rfl, by decide +kernel, by decide +kernel⟩
theorem ok_ans (T : Txt K mg) : FnOk P w K mg base CX0 12 T.answer_of.f T.answer_of.fd ["family", "word"] (spR ar_der AnPre fi_ans) := by
  refine T.answer_of.F.ok sc_ans (fun vs H Q E h => spR_len (n := 2) (fun b => rfl) h) (fun cdv A0 outer s H vs Q E hr h => ?_)
  obtain ⟨⟨r, gs, u⟩, rr, hP, k⟩ := h
  have hF : FamOk r gs := hP.fam
  have hin : InR r u := hP.inr
  have hul : u.length ≤ 20 := hP.len
  obtain ⟨va, vb, rfl, ra, rb⟩ := rps2 rr
  have ra : Rp H (famD r gs) va := ra
  have rb : Rp H (wD u) vb := rb
  refine ⟨_, wSs_ok, ?_⟩
  refine ws_setE 2 sc_ans.nd (we_callR (B := DB) ⟨r, gs, u⟩ T.derive (ok_der T) (hr.mono (by decide)) (ja_cons (je_var 0 rfl ra) (ja_cons (je_var 1 rfl rb) ja_nil)) ⟨hF, hin, by show u.length ≤ 24; omega⟩ fun v d H1 hφ s1 r1 => ?_)
  rcases hφ with ⟨rfl, hnm⟩ | ⟨st, rfl, hD, hm⟩
  · refine ws_retE (we_if (k := true) (JT.of (jt_isN (je_var 2 rfl r1)) rfl) (fun _ H2 s2 => ?_) (fun z => by cases z))
    refine we_tup (wa_cons ((je_str (x := "none")).go fun v3 H3 s3 r3 => ?_))
    have s13 := (s1.trans s2).trans s3
    refine wa_cons (we_callR (B := DB) ⟨r, gs, u⟩ T.against (ok_aga T) (hr.mono (by decide)) (ja_cons (je_var 0 rfl (ra.mono s13)) (ja_cons (je_var 1 rfl (rb.mono s13)) ja_nil)) ⟨hF, hin, hul, hnm⟩ fun v4 d H4 hφ s4 r4 => ?_)
    refine wa_nil ⟨by show 2 ≤ 100000; decide, fun p hp => ?_⟩
    obtain ⟨act, rfl, hA⟩ := hφ
    exact k _ _ _ ⟨.non act, rfl, hA, hnm⟩ ((s13.trans s4).trans (same_new hp)) ⟨p, _, rfl, upd_same, .cons r3 (.cons (r4.mono (same_new hp)) rfl)⟩
  · refine ws_retE (we_if (k := false) (JT.of (jt_isN (je_var 2 rfl r1)) rfl) (fun z => by cases z) (fun _ H2 s2 => (je_tup (ja_cons (je_str (x := "member")) (ja_cons (je_var 2 rfl (r1.mono s2)) ja_nil)) (by show 2 ≤ 100000; decide)).go fun v3 H3 s3 r3 => ?_))
    exact k v3 _ H3 ⟨.mem st, rfl, hD, hm⟩ ((s1.trans s2).trans s3) r3
abbrev s_anf : Stmt := topS 66
theorem sc_anf : FnScope ["family", "word"] ["family", "word"] (defScope s_anf) := ⟨rfl, rfl, rfl, by decide +kernel, rfl, by decide +kernel, by decide +kernel⟩
theorem ok_anf (T : Txt K mg) : FnOk P w K mg base CX0 13 T.answer_for.f T.answer_for.fd ["family", "word"] (spR ar_der AnPre fi_ans) := by
  refine T.answer_for.F.ok sc_anf (fun vs H Q E h => spR_len (n := 2) (fun b => rfl) h) (fun cdv A0 outer s H vs Q E hr h => ?_)
  obtain ⟨⟨r, gs, u⟩, rr, hP, k⟩ := h
  have hF : FamOk r gs := hP.fam
  have hin : InR r u := hP.inr
  have hul : u.length ≤ 20 := hP.len
  obtain ⟨va, vb, rfl, ra, rb⟩ := rps2 rr
  have ra : Rp H (famD r gs) va := ra
  have rb : Rp H (wD u) vb := rb
  refine ⟨_, wSs_ok, ?_⟩
  refine ws_exprE ((je_callD T.check_word (ok_chw T) (hr.mono (by decide)) (ja_cons (je_var 0 rfl ra) (ja_cons (je_var 1 rfl rb) ja_nil)) ⟨r, gs, u, hF, ⟨hin, by omega⟩, rfl, rfl⟩).go fun v H1 s1 _ => ?_)
  exact ws_retE (we_callR (B := DB) ⟨r, gs, u⟩ T.answer_of (ok_ans T) (hr.mono (by decide)) (ja_cons (je_var 0 rfl (ra.mono s1)) (ja_cons (je_var 1 rfl (rb.mono s1)) ja_nil)) hP fun v d H2 hφ s2 r2 => k v d H2 hφ (s1.trans s2) r2)
/-! is_factor .. made_of -/
theorem je_abs {X : Cx} {e : Expr} {σ : L2.St} {H : Hp} {pos p : Pos} {i : Int} (hm : X.mg "abs" = none) (ha : JE X e σ H (.i i)) (hg : Gl X "abs" := by rfl) (he : starEach [e] X.env = (false, eval e X.env) :: starEach [] X.env := by rfl) (hpl : (backTo pos (starEach [] X.env)).any (·.1) = false := by rfl) : JE X (.Call (.Name "abs" p) [e] [] pos) σ H (.i (if i < 0 then -i else i)) :=
  je_callB call_abs hm (by decide +kernel) (ja_cons ha ja_nil he) (fun H2 vs Q _ r k => by
    obtain ⟨v, rfl, rv⟩ := rps1 r
    exact ⟨i, by rw [show v = .int i from rv], k _ _ (Same.refl _) rfl⟩) hg (he := he) (hpl := hpl)
theorem je_fac0 {X : Cx} {a b : Expr} {σ : L2.St} {H : Hp} {pos : Pos} {f : Fac} (ha : JE X a σ H (facD f)) (hb : JE X b σ H (.i 0)) (hs : PlainIx b := by exact fun _ _ => rfl) : JE X (.Subscript a b pos) σ H (.s (kindS f.1)) := je_ixT (i := 0) (ds := [.s (kindS f.1), .i (f.2.1 : Int), .i (sgn f.2.2)]) ha hb rfl hs
theorem je_fac1 {X : Cx} {a b : Expr} {σ : L2.St} {H : Hp} {pos : Pos} {f : Fac} (ha : JE X a σ H (facD f)) (hb : JE X b σ H (.i 1)) (hs : PlainIx b := by exact fun _ _ => rfl) : JE X (.Subscript a b pos) σ H (.i (f.2.1 : Int)) := je_ixT (i := 1) (ds := [.s (kindS f.1), .i (f.2.1 : Int), .i (sgn f.2.2)]) ha hb rfl hs
theorem je_fac2 {X : Cx} {a b : Expr} {σ : L2.St} {H : Hp} {pos : Pos} {f : Fac} (ha : JE X a σ H (facD f)) (hb : JE X b σ H (.i 2)) (hs : PlainIx b := by exact fun _ _ => rfl) : JE X (.Subscript a b pos) σ H (.i (sgn f.2.2)) := je_ixT (i := 2) (ds := [.s (kindS f.1), .i (f.2.1 : Int), .i (sgn f.2.2)]) ha hb rfl hs
theorem given_iff (b : Bool) : decide (kindS b = "given") = !b := by
  revert b
  decide +kernel
abbrev s_isfa : Stmt := topS 52
theorem sc_isfa : FnScope ["family", "index", "value"] ["family", "index", "value"] (defScope s_isfa) := ⟨rfl, rfl, rfl, by decide +kernel, rfl, by decide +kernel, by decide +kernel⟩
def fi_isfa (ds : List D) (d : D) : Prop := ∃ (r : Nat) (gs : List Wd) (i : Nat) (f : Fac), FacOk gs i f ∧ ds = [famD r gs, .i (i : Int), facD f] ∧ d = .b true
theorem ok_isfa (T : Txt K mg) : FnOk P w K mg base CX0 2 T.is_factor.f T.is_factor.fd ["family", "index", "value"] (spD fi_isfa) := by
  refine T.is_factor.F.ok sc_isfa (fun vs H Q E h => ?_) (fun cdv A outer s H vs Q E hr h => ?_)
  · obtain ⟨ds, d, r, ⟨_, _, _, _, _, rfl, rfl⟩, _⟩ := h
    exact rps_len r rfl
  obtain ⟨ds, d, rr, ⟨r, gs, i, f, hf, rfl, rfl⟩, k⟩ := h
  obtain ⟨va, vb, vc, rfl, ra, rb, rc⟩ := rps3 rr
  refine ⟨_, wSs_ok, ?_⟩
  refine ws_ifF (jt_or3 (x := false) (y := false) (z := false) (JT.of (jt_not (JE.test (je_isi (c := true) T.b_isinstance (je_var (d := facD f) 2 rfl rc) (je_tyTup T.b_tuple) (kb_tup _)))) rfl)
    (fun _ => JT.of (jt_neI (je_lenT T.b_len (je_var (d := facD f) 2 rfl rc)) je_int) rfl) (fun _ _ => JT.of (jt_not (JE.test (je_isi (c := true) T.b_isinstance (je_fac0 (je_var 2 rfl rc) je_int) (je_tyStr T.b_str) (kb_str _)))) rfl) rfl) fun H1 s1 => ?_
  have rc1 := rc.mono s1
  refine ws_ifF (jt_or3 (x := false) (y := false) (z := false) (JT.of (jt_not (JE.test (je_callD T.is_integer_derivations (ok_isid T) (hr.mono (by decide)) (ja_cons (je_fac1 (je_var 2 rfl rc1) je_int) ja_nil) ⟨_, rfl, rfl⟩))) rfl)
    (fun _ => JT.of (jt_not (JE.test (je_callD T.is_integer_derivations (ok_isid T) (hr.mono (by decide)) (ja_cons (je_fac2 (je_var 2 rfl rc1) je_int) ja_nil) ⟨_, rfl, rfl⟩))) rfl) (fun _ _ => JT.of (jt_neI (je_abs T.b_abs (je_fac2 (je_var 2 rfl rc1) je_int)) je_int) (by cases f.2.2 <;> rfl)) rfl) fun H2 s2 => ?_
  have rc2 := rc1.mono s2
  have s02 := s1.trans s2
  unfold FacOk at hf
  refine ws_if (k := !f.1) (JT.of (jt_eqS (je_fac0 (je_var 2 rfl rc2) je_int) je_str) (given_iff f.1)) (fun hk H3 s3 => ?_) (fun hk H3 s3 => ws_nil ?_)
  · have hk : f.1 = false := by simpa using hk
    rw [hk, if_neg (by decide)] at hf
    refine ws_ret (JE.of (je_leLt je_int (je_fac1 (je_var 2 rfl (rc2.mono s3)) je_int) (je_lenT T.b_len (je_fam1 (je_var 0 rfl (ra.mono (s02.trans s3)))))) ?_) fun v4 H4 s4 r4 => k v4 H4 ((s02.trans s3).trans s4) r4
    rw [decide_eq_true (by omega), decide_eq_true (by simp; omega)] <;> rfl
  · have hk : f.1 = true := by simpa using hk
    rw [hk, if_pos rfl] at hf
    refine ws_ret (je_and2 (x := true) (y := true) (JE.of (je_eqS (je_fac0 (je_var 2 rfl (rc2.mono s3)) je_int) je_str) (by rw [step_iff, hk])) (fun _ => JE.of (je_leLt je_int (je_fac1 (je_var 2 rfl (rc2.mono s3)) je_int) (je_var (d := .i (i : Int)) 1 rfl (rb.mono (s02.trans s3)))) ?_) rfl) fun v4 H4 s4 r4 => k v4 H4 ((s02.trans s3).trans s4) r4
    rw [decide_eq_true (by omega), decide_eq_true (by omega)] <;> rfl
abbrev s_isr : Stmt := topS 53
theorem sc_isr : FnScope ["family", "value", "letter"] ["family", "value"] (defScope s_isr) := ⟨rfl, rfl, rfl, by decide +kernel, rfl, by decide +kernel, by decide +kernel⟩
def fi_isr (ds : List D) (d : D) : Prop := ∃ (r : Nat) (gs : List Wd) (u : Wd), r ≤ 3 ∧ InR r u ∧ u.length ≤ 100 ∧ red u = u ∧ ds = [famD r gs, wD u] ∧ d = .b true
theorem ok_isr (T : Txt K mg) : FnOk P w K mg base CX0 3 T.is_reduced.f T.is_reduced.fd ["family", "value"] (spD fi_isr) := by
  refine T.is_reduced.F.ok sc_isr (fun vs H Q E h => ?_) (fun cdv A outer s H vs Q E hr h => ?_)
  · obtain ⟨ds, d, r, ⟨_, _, _, _, _, _, _, rfl, rfl⟩, _⟩ := h
    exact rps_len r rfl
  obtain ⟨ds, d, rr, ⟨r, gs, u, hr3, hin, hul, hred, rfl, rfl⟩, k⟩ := h
  obtain ⟨va, vu, rfl, ra, ru⟩ := rps2 rr
  obtain ⟨t, gt⟩ := T.g_MOST_LETTERS_derivations
  refine ⟨_, wSs_ok, ?_⟩
  refine ws_ifF (jt_or2 (x := false) (y := false) (JT.of (jt_not (JE.test (je_isi (c := true) T.b_isinstance (je_var (d := wD u) 1 rfl ru) (je_tyStr T.b_str) (kb_str _)))) rfl) (fun _ => JT.of (jt_gtI (je_lenS T.b_len (je_var (d := wD u) 1 rfl ru) (by rw [enc_len]; omega)) (je_globI gt)) (by rw [enc_len]; exact decide_eq_false (by omega))) rfl) fun H1 s1 => ?_
  refine ws_ret (je_and2 (x := (u.map fun _ => true).all id) (y := true) (je_all rfl T.b_all (JF.je (jf_lc (own := [("letter", 2)]) (g := gName 2) (items := u.map fun x => wD [x]) sc_isr.nd (blkOk_by (N := ["family", "value", "letter"]) (sc := defScope s_isr) (by decide +kernel))
    (ji_word (je_var 1 rfl (ru.mono s1))) (by simp) (by simp; omega) (imms_map (fun _ => rfl) _) gm_name (fun _ _ _ _ _ => pg_name (i := 2) sc_isr.nd rfl (.inl rfl)) (fun i d r v2 H2 e1 e2 s2 r2 => ?_)))) (fun _ => JE.of (je_eqS (je_callD T.reduce_of (ok_red T) (hr.mono (by decide)) (ja_cons (je_var (d := wD u) 1 rfl (ru.mono s1)) ja_nil) ⟨u, rfl, by omega, rfl⟩) (je_var (d := wD u) 1 rfl (ru.mono s1))) (by rw [hred, decide_eq_true rfl])) (by rw [all_true] <;> rfl)) fun v2 H3 s3 r3 => k v2 H3 (s1.trans s3) r3
  refine ⟨hw1 v2, rfl, fun sh Hb C cl fp => ?_⟩
  obtain ⟨x, hx, rfl⟩ := map_at e1
  obtain ⟨b, hb, rfl⟩ := map_at e2
  have hb2 : b = true := by
    rw [List.getElem?_map, hx] at hb
    exact (Option.some.inj hb).symm
  subst hb2
  exact JE.of (je_inS (je_var 2 rfl r2) (je_callD T.letters_of (ok_lets T) (hr.mono (by decide)) (ja_cons (je_fam0 (je_var 0 rfl (ra.mono (s1.trans s2)))) ja_nil) ⟨_, hr3, rfl, rfl⟩)) (congrArg D.b (in_lets hr3 (hin x (List.mem_of_getElem? hx))))
abbrev s_iss : Stmt := topS 54
theorem sc_iss : FnScope ["family", "index", "value", "factor"] ["family", "index", "value"] (defScope s_iss) := ⟨rfl, rfl, rfl, by decide +kernel, rfl, by decide +kernel, by decide +kernel⟩
def fi_iss (ds : List D) (d : D) : Prop := ∃ (r : Nat) (gs : List Wd) (st : List Stp) (i : Nat) (s : Stp), r ≤ 3 ∧ StepOk r 24 2000 gs st i s ∧ ds = [famD r gs, .i (i : Int), stpD s] ∧ d = .b true
theorem ok_iss (T : Txt K mg) : FnOk P w K mg base CX0 4 T.is_step.f T.is_step.fd ["family", "index", "value"] (spD fi_iss) := by
  refine T.is_step.F.ok sc_iss (fun vs H Q E h => ?_) (fun cdv A outer s H vs Q E hr h => ?_)
  · obtain ⟨ds, d, r, ⟨_, _, _, _, _, _, _, rfl, rfl⟩, _⟩ := h
    exact rps_len r rfl
  obtain ⟨ds, d, rr, ⟨r, gs, st, i, sp, hr3, hS, rfl, rfl⟩, k⟩ := h
  obtain ⟨va, vb, vc, rfl, ra, rb, rc⟩ := rps3 rr
  obtain ⟨t, gt⟩ := T.g_MOST_FACTORS
  have hmany := hS.many
  have hlen := hS.len
  have hred : red sp.1 = sp.1 := by rw [← hS.val]; exact red_red inv_inv _
  refine ⟨_, wSs_ok, ?_⟩
  refine ws_ifF (jt_or3 (x := false) (y := false) (z := false) (JT.of (jt_not (JE.test (je_isi (c := true) T.b_isinstance (je_var (d := stpD sp) 2 rfl rc) (je_tyTup T.b_tuple) (kb_tup _)))) rfl)
    (fun _ => JT.of (jt_neI (je_lenT T.b_len (je_var (d := stpD sp) 2 rfl rc)) je_int) rfl) (fun _ _ => JT.of (jt_not (JE.test (je_callD T.is_reduced (ok_isr T) (hr.mono (by decide)) (ja_cons (je_var 0 rfl ra) (ja_cons (je_stp0 (je_var 2 rfl rc) je_int) ja_nil)) ⟨r, gs, sp.1, hr3, hS.inr, by omega, hred, rfl, rfl⟩))) rfl) rfl) fun H1 s1 => ?_
  have rc1 := rc.mono s1
  refine ws_ifF (jt_or2 (x := false) (y := false) (JT.of (jt_not (JE.test (je_isi (c := true) T.b_isinstance (je_stp1 (je_var 2 rfl rc1) je_int) (je_tyTup T.b_tuple) (kb_tup _)))) rfl) (fun _ => JT.of (jt_gtI (je_lenT T.b_len (je_stp1 (je_var 2 rfl rc1) je_int)) (je_globI gt)) (by rw [facs_len]; exact decide_eq_false (by omega))) rfl) fun H2 s2 => ?_
  have s02 := s1.trans s2
  have rc2 := rc1.mono s2
  refine ws_ret (JE.of (je_all (bs := sp.2.map fun _ => true) rfl T.b_all (JF.je (jf_lc (own := [("factor", 3)]) (g := gName 3) (items := facsD sp.2) sc_iss.nd (blkOk_by (N := ["family", "index", "value", "factor"]) (sc := defScope s_iss) (by decide +kernel))
    (ji_tup (je_stp1 (je_var 2 rfl rc2) je_int)) (by simp [facsD]) (by simp; omega) (imms_map (fun _ => rfl) _) gm_name (fun _ _ _ _ _ => pg_name (i := 3) sc_iss.nd rfl (.inl rfl)) (fun i d r v3 H3 e1 e2 s3 r3 => ?_)))) (by rw [all_true])) fun v2 H3 s3 r3 => k v2 H3 (s02.trans s3) r3
  refine ⟨hw1 v3, rfl, fun sh Hb C cl fp => ?_⟩
  obtain ⟨f, hf, rfl⟩ := map_at e1
  obtain ⟨b, hb, rfl⟩ := map_at e2
  have hb2 : b = true := by
    rw [List.getElem?_map, hf] at hb
    exact (Option.some.inj hb).symm
  subst hb2
  exact je_callD T.is_factor (ok_isfa T) (hr.mono (by decide)) (ja_cons (je_var 0 rfl (ra.mono (s02.trans s3))) (ja_cons (je_var 1 rfl (rb.mono (s02.trans s3))) (ja_cons (je_var 3 rfl r3) ja_nil))) ⟨_, gs, _, f, hS.fac f (List.mem_of_getElem? hf), rfl, rfl⟩
abbrev s_val : Stmt := topS 55
theorem sc_val : FnScope ["family", "steps", "factor", "kind", "number", "sign", "word"] ["family", "steps", "factor"] (defScope s_val) := ⟨rfl, rfl, rfl, by decide +kernel, rfl, by decide +kernel, by decide +kernel⟩
def fi_val (ds : List D) (d : D) : Prop := ∃ (r : Nat) (gs : List Wd) (st : List Stp) (f : Fac), FacOk gs st.length f ∧ (fval gs st f).length ≤ 1000 ∧ ds = [famD r gs, .t (st.map stpD), facD f] ∧ d = wD (fval gs st f)
theorem ok_val (T : Txt K mg) : FnOk P w K mg base CX0 3 T.value_of.f T.value_of.fd ["family", "steps", "factor"] (spD fi_val) := by
  refine T.value_of.F.ok sc_val (fun vs H Q E h => ?_) (fun cdv A outer s H vs Q E hr h => ?_)
  · obtain ⟨ds, d, r, ⟨_, _, _, _, _, _, rfl, rfl⟩, _⟩ := h
    exact rps_len r rfl
  obtain ⟨ds, d, rr, ⟨r, gs, st, f, hf, hl, rfl, rfl⟩, k⟩ := h
  obtain ⟨va, vb, vc, rfl, ra, rb, rc⟩ := rps3 rr
  refine ⟨_, wSs_ok, ?_⟩
  refine ws_asg (je_var (d := facD f) 2 rfl rc) (pg_tup rfl (pgs_cons (pg_name (i := 3) sc_val.nd rfl (.inl rfl)) (pgs_cons (pg_name (i := 4) sc_val.nd rfl (.inl rfl)) (pgs_cons (pg_name (i := 5) sc_val.nd rfl (.inl rfl)) pgs_nil)))) fun v1 H1 s1 r1 => ?_
  refine gTup3 r1 fun v1 v2 v3 q1 q2 q3 => ?_
  obtain rfl : v1 = .str (kindS f.1) := q1
  obtain rfl : v2 = .int (f.2.1 : Int) := q2
  obtain rfl : v3 = .int (sgn f.2.2) := q3
  show wSs _ _ _ [some va, some vb, some vc, some (.str (kindS f.1)), some (.int (f.2.1 : Int)), some (.int (sgn f.2.2)), none] H1
  obtain ⟨a, n, c⟩ := f
  unfold FacOk at hf
  generalize hwd : (if a then (st.getD n ([], [])).1 else gs.getD n []) = wd
  have hfv : fval gs st (a, n, c) = sg wd c := by rw [← hwd] <;> rfl
  rw [hfv] at hl
  have hwl : wd.length ≤ 1000 := by
    cases c with
    | true => exact hl
    | false =>
      have : (winv wd).length = wd.length := ginv_len _
      have hl : (winv wd).length ≤ 1000 := hl
      omega
  refine ws_set 6 sc_val.nd (d := wD wd) (je_if (k := !a) (JT.of (jt_eqS (x := kindS a) (y := "given") (je_var 3 rfl rfl) je_str) (given_iff a)) (fun hk => ?_) (fun hk => ?_)) fun v4 H4 s4 r4 => ?_
  · have hk : a = false := by simpa using hk
    subst hk
    have hf : n < gs.length := by simpa using hf
    have hgn : gs[n]? = some wd := by
      rw [← hwd, if_neg (by decide), List.getD_eq_getElem?_getD, List.getElem?_eq_getElem hf] <;> rfl
    exact je_ixTn (je_fam1 (je_var 0 rfl (ra.mono s1))) (je_var 4 rfl (intRp n)) (by rw [List.getElem?_map, hgn] <;> rfl)
  · have hk : a = true := by simpa using hk
    subst hk
    have hf : n < st.length := by simpa using hf
    have hsn : st[n]? = some st[n] := List.getElem?_eq_getElem hf
    have : wd = st[n].1 := by
      rw [← hwd, if_pos rfl, List.getD_eq_getElem?_getD, hsn] <;> rfl
    rw [this]
    exact je_stp0 (je_stpAt (je_var 1 rfl (rb.mono s1)) (je_var 4 rfl (intRp n)) hsn) je_int
  · rw [hfv] at k
    refine ws_ret (d := wD (sg wd c)) (je_if (k := c) (JT.of (jt_eqI (i := sgn c) (j := 1) (je_var 5 rfl rfl) je_int) (by cases c <;> rfl)) (fun hk => ?_) (fun hk => ?_)) fun v5 H5 s5 r5 => k v5 H5 ((s1.trans s4).trans s5) r5
    · subst hk
      exact je_var 6 rfl r4
    · subst hk
      exact je_callD T.inverse_of (ok_inv T) (hr.mono (by decide)) (ja_cons (je_var 6 rfl r4) ja_nil) ⟨wd, rfl, by omega, rfl⟩
abbrev s_mad : Stmt := topS 56
theorem sc_mad : FnScope ["family", "steps", "factors", "word", "factor"] ["family", "steps", "factors"] (defScope s_mad) := ⟨rfl, rfl, rfl, by decide +kernel, rfl, by decide +kernel, by decide +kernel⟩
def fi_mad (ds : List D) (d : D) : Prop := ∃ (r : Nat) (gs : List Wd) (st : List Stp) (fs : List Fac), (∀ f ∈ fs, FacOk gs st.length f) ∧ (∀ f ∈ fs, (fval gs st f).length ≤ 24) ∧ fs.length ≤ 2000 ∧ ds = [famD r gs, .t (st.map stpD), .t (facsD fs)] ∧ d = wD (red (fprod gs st fs))
theorem fprod_len {gs : List Wd} {st : List Stp} : ∀ {fs : List Fac}, (∀ f ∈ fs, (fval gs st f).length ≤ 24) → (fprod gs st fs).length ≤ 24 * fs.length
  | [], _ => by rw [fprod_nil]; simp
  | f :: fs, h => by
    rw [fprod_cons, List.length_append, List.length_cons]
    have h1 := h f List.mem_cons_self
    have h2 := fprod_len (fs := fs) fun g hg => h g (List.mem_cons_of_mem _ hg)
    omega
theorem ok_mad (T : Txt K mg) : FnOk P w K mg base CX0 4 T.made_of.f T.made_of.fd ["family", "steps", "factors"] (spD fi_mad) := by
  refine T.made_of.F.ok sc_mad (fun vs H Q E h => ?_) (fun cdv A outer s H vs Q E hr h => ?_)
  · obtain ⟨ds, d, r, ⟨_, _, _, _, _, _, _, rfl, rfl⟩, _⟩ := h
    exact rps_len r rfl
  obtain ⟨ds, d, rr, ⟨r, gs, st, fs, hf, hv, hl, rfl, rfl⟩, k⟩ := h
  obtain ⟨va, vb, vc, rfl, ra, rb, rc⟩ := rps3 rr
  obtain ⟨q, ws, rfl, hq, rq⟩ := rc
  refine ⟨_, wSs_ok, ?_⟩
  refine ws_set 3 sc_mad.nd (d := wD []) (JE.of je_str (congrArg D.s enc_nil')) fun v1 H1 s1 r1 => ?_
  refine ws_forKT (ws := ws) (jv_var 2) (s1 _ _ hq) (pg_name (i := 4) sc_mad.nd rfl (.inl rfl))
    (fun i σ' H' => ∃ v3 x4, σ' = [some va, some vb, some (.ref q), some v3, x4] ∧ Same H H' ∧ Rp H' (wD (red (fprod gs st (fs.take i)))) v3)
    (fun H2 s2 => ⟨v1, none, rfl, s1.trans s2, r1⟩) (fun i σ' H' ⟨_, _, _, s2, _⟩ => s2 _ _ hq) ?_ ?_
  · rintro i v σ' H2 hv2 ⟨v3, x4, rfl, s2, r2⟩
    obtain ⟨d, hd, rd⟩ := (rq.mono s2).back hv2
    obtain ⟨f, hff, rfl⟩ := map_at hd
    have hfm := List.mem_of_getElem? hff
    show wSs _ _ _ [some va, some vb, some (.ref q), some v3, some v] H2
    have h1 := hv f hfm
    have h2 : (fprod gs st (fs.take i)).length ≤ 24 * (fs.take i).length := fprod_len fun g hg => hv g (List.mem_of_mem_take hg)
    have h3 : (red (fprod gs st (fs.take i))).length ≤ (fprod gs st (fs.take i)).length := red_len _
    have h4 : (fs.take i).length ≤ 1999 := by
      have := (List.getElem?_eq_some_iff.mp hff).1
      rw [List.length_take]
      omega
    refine ws_set 3 sc_mad.nd (d := wD (red (red (fprod gs st (fs.take i)) ++ fval gs st f))) (je_callD T.reduce_of (ok_red T) (hr.mono (by decide)) (ja_cons (je_addW (je_var 3 rfl r2) (je_callD T.value_of (ok_val T) (hr.mono (by decide)) (ja_cons (je_var 0 rfl (ra.mono s2)) (ja_cons (je_var 1 rfl (rb.mono s2)) (ja_cons (je_var 4 rfl rd) ja_nil))) ⟨r, gs, st, f, hf f hfm, by omega, rfl, rfl⟩) (by omega)) ja_nil) ⟨_, rfl, by rw [List.length_append]; omega, rfl⟩) fun v5 H5 s5 r5 => ws_nil ⟨v5, _, rfl, s2.trans s5, ?_⟩
    rw [take_snoc hff, fprod_app, fprod_cons, fprod_nil, List.append_nil]
    have : red (red (fprod gs st (fs.take i)) ++ fval gs st f) = red (fprod gs st (fs.take i) ++ fval gs st f) := FW.E.app (e_red _) FW.E.rfl'
    rw [← this]
    exact r5
  · rintro σ' H2 ⟨v3, x4, rfl, s2, r2⟩
    have e : fs.take ws.length = fs := by rw [rq.len]; simp [facsD]
    rw [e] at r2
    exact ws_ret (je_var 3 rfl r2) fun v5 H5 s5 r5 => k v5 H5 (s2.trans s5) r5
end
end FW
/-! holds, is_right, is_against, is_answer, accepts_answer -/
namespace FW
open PySem L2
section
variable {X : Cx} {a b c : Expr} {σ : L2.St} {H : Hp} {pos : Pos} {i j k : Int}
theorem jt_leLe (ha : JE X a σ H (.i i)) (hb : JE X b σ H (.i j)) (hc : JE X c σ H (.i k)) (hm : lastMarks [.LtE, .LtE] [b, c] = false := by with_unfolding_all rfl) : JT X (.Compare a [.LtE, .LtE] [b, c] pos) σ H (decide (i ≤ j) && decide (j ≤ k)) := fun H1 s1 Q q =>
  ⟨_, pt_chain op_le op_le wE_ok wE_ok wE_ok hm, ha H1 s1 _ fun u H2 s2 r2 => hb H2 (s1.trans s2) _ fun v H3 s3 r3 => by
    obtain rfl : u = .int i := r2
    obtain rfl : v = .int j := r3
    refine ⟨i, j, rfl, rfl, decide (i ≤ j), rfl, ?_⟩
    cases hd : decide (i ≤ j) with
    | true =>
      refine hc H3 ((s1.trans s2).trans s3) _ fun z H4 s4 r4 => ?_
      obtain rfl : z = .int k := r4
      refine ⟨j, k, rfl, rfl, decide (j ≤ k), rfl, ?_⟩
      rw [hd] at q
      exact q _ ((s2.trans s3).trans s4)
    | false =>
      rw [hd] at q
      exact ⟨false, rfl, q _ (s2.trans s3)⟩⟩
end
section
variable {P : Program} {w : World} {K : PySem.W.Frag} {mg : Str → Option Value} {base : Heap}
theorem dec_wd (u v : Wd) : decide (enc u = enc v) = decide (u = v) := enc_dec u v
abbrev s_hol : Stmt := topS 57
theorem sc_hol : FnScope ["family", "value", "index", "step"] ["family", "value"] (defScope s_hol) := ⟨rfl, rfl, rfl, by decide +kernel, rfl, by decide +kernel, by decide +kernel⟩
structure HolPre (r : Nat) (gs : List Wd) (st : List Stp) : Prop where
  fam : FamOk r gs
  steps : StepsOk r 24 2000 gs st
  pos : 1 ≤ st.length
  most : st.length ≤ 100
def fi_hol (ds : List D) (d : D) : Prop := ∃ (r : Nat) (gs : List Wd) (st : List Stp), HolPre r gs st ∧ ds = [famD r gs, .t (st.map stpD)] ∧ d = .b true
theorem HolPre.val {r : Nat} {gs : List Wd} {st : List Stp} (h : HolPre r gs st) {f : Fac} (hf : FacOk gs st.length f) : (fval gs st f).length ≤ 24 := by
  obtain ⟨a, n, c⟩ := f
  have hl : ∀ u : Wd, u.length ≤ 24 → (sg u c).length ≤ 24 := fun u hu => by
    cases c with
    | true => exact hu
    | false =>
      show (winv u).length ≤ 24
      rw [show (winv u).length = u.length from ginv_len _]
      exact hu
  refine hl _ ?_
  unfold FacOk at hf
  cases a with
  | true =>
    have hf : n < st.length := by simpa using hf
    show ((st.getD n ([], [])).1).length ≤ 24
    rw [List.getD_eq_getElem?_getD, List.getElem?_eq_getElem hf]
    exact (h.steps n _ (List.getElem?_eq_getElem hf)).len
  | false =>
    have hf : n < gs.length := by simpa using hf
    show (gs.getD n []).length ≤ 24
    rw [List.getD_eq_getElem?_getD, List.getElem?_eq_getElem hf]
    have := h.fam.len _ (List.getElem_mem hf)
    show gs[n].length ≤ 24
    omega
theorem ok_hol (T : Txt K mg) : FnOk P w K mg base CX0 5 T.holds.f T.holds.fd ["family", "value"] (spD fi_hol) := by
  refine T.holds.F.ok sc_hol (fun vs H Q E h => ?_) (fun cdv A outer s H vs Q E hr h => ?_)
  · obtain ⟨ds, d, r, ⟨_, _, _, _, rfl, rfl⟩, _⟩ := h
    exact rps_len r rfl
  obtain ⟨ds, d, rr, ⟨r, gs, st, hP, rfl, rfl⟩, k⟩ := h
  obtain ⟨va, vb, rfl, ra, rb⟩ := rps2 rr
  obtain ⟨t, gt⟩ := T.g_MOST_STEPS
  have hpos := hP.pos
  have hmost := hP.most
  obtain ⟨q, ws, rfl, hq, rq⟩ := rb
  have rb : Rp H (.t (st.map stpD)) (.ref q) := ⟨q, ws, rfl, hq, rq⟩
  have hsl : (st.map stpD).length = st.length := by simp
  refine ⟨_, wSs_ok, ?_⟩
  refine ws_ifF (jt_or2 (x := false) (y := false) (JT.of (jt_not (JE.test (je_isi (c := true) T.b_isinstance (je_var (d := .t (st.map stpD)) 1 rfl rb) (je_tyTup T.b_tuple) (kb_tup _)))) rfl) (fun _ => JT.of (jt_not (jt_leLe je_int (je_lenT T.b_len (je_var 1 rfl rb)) (je_globI gt))) (by rw [hsl, decide_eq_true (by omega), decide_eq_true (by omega)] <;> rfl)) rfl) fun H1 s1 => ?_
  refine ws_enumT (a := 2) (b := 3) (ws := ws) (q := q) T.b_enumerate (pg_tup rfl (pgs_cons (pg_name (i := 2) sc_hol.nd rfl (.inl rfl)) (pgs_cons (pg_name (i := 3) sc_hol.nd rfl (.inl rfl)) pgs_nil))) (jv_var 1) (s1 _ _ hq)
    (fun i σ' H' => ∃ x2 x3 : Option V, σ' = [some va, some (.ref q), x2, x3] ∧ Same H H') (fun H2 s2 => ⟨none, none, rfl, s1.trans s2⟩) (fun i σ' H' ⟨_, _, _, s2⟩ => s2 _ _ hq) ?_ ?_
  · rintro i v σ' H2 H3 hv ⟨x2, x3, rfl, s2⟩ s3
    show wSs _ _ _ [some va, some (.ref q), some (.int (i : Nat)), some v] H3
    have s03 := s2.trans s3
    obtain ⟨d, hd, rd⟩ := (rq.mono s03).back hv
    obtain ⟨sp, hsp, rfl⟩ := map_at hd
    have hS := hP.steps i sp hsp
    have hil : i < st.length := (List.getElem?_eq_some_iff.mp hsp).1
    have hfa : ∀ f ∈ sp.2, FacOk gs st.length f := fun f hf => (hS.fac f hf).mono (by omega)
    refine ws_ifF (jt_or2 (x := false) (y := false) (JT.of (jt_not (JE.test (je_callD T.is_step (ok_iss T) (hr.mono (by decide)) (ja_cons (je_var 0 rfl (ra.mono s03)) (ja_cons (je_var 2 rfl (intRp i)) (ja_cons (je_var 3 rfl rd) ja_nil))) ⟨r, gs, st, i, sp, hP.fam.hi, hS, rfl, rfl⟩))) rfl)
      (fun _ => JT.of (jt_neS (je_callD T.made_of (ok_mad T) (hr.mono (by decide)) (ja_cons (je_var 0 rfl (ra.mono s03)) (ja_cons (je_var 1 rfl (rb.mono s03)) (ja_cons (je_stp1 (je_var 3 rfl rd) je_int) ja_nil))) ⟨r, gs, st, sp.2, hfa, fun f hf => hP.val (hfa f hf), hS.many, rfl, rfl⟩) (je_stp0 (je_var 3 rfl rd) je_int)) (by rw [hS.val, decide_eq_true rfl] <;> rfl)) rfl) fun H4 s4 => ws_nil ⟨_, _, rfl, s03.trans s4⟩
  · rintro σ' H2 ⟨x2, x3, rfl, s2⟩
    exact ws_ret je_bl fun v3 H3 s3 r3 => k v3 H3 (s2.trans s3) r3
abbrev s_isri : Stmt := topS 58
theorem sc_isri : FnScope ["family", "word", "value"] ["family", "word", "value"] (defScope s_isri) := ⟨rfl, rfl, rfl, by decide +kernel, rfl, by decide +kernel, by decide +kernel⟩
def fi_isri (ds : List D) (d : D) : Prop := ∃ (r : Nat) (gs : List Wd) (u : Wd) (st : List Stp), FamOk r gs ∧ u.length ≤ 100 ∧ DerivOk r gs u st ∧ ds = [famD r gs, wD u, .t (st.map stpD)] ∧ d = .b true
theorem ok_isri (T : Txt K mg) : FnOk P w K mg base CX0 6 T.is_right.f T.is_right.fd ["family", "word", "value"] (spD fi_isri) := by
  refine T.is_right.F.ok sc_isri (fun vs H Q E h => ?_) (fun cdv A outer s H vs Q E hr h => ?_)
  · obtain ⟨ds, d, r, ⟨_, _, _, _, _, _, _, rfl, rfl⟩, _⟩ := h
    exact rps_len r rfl
  obtain ⟨ds, d, rr, ⟨r, gs, u, st, hF, hul, hD, rfl, rfl⟩, k⟩ := h
  obtain ⟨va, vb, vc, rfl, ra, rb, rc⟩ := rps3 rr
  have hpos := hD.pos
  have hlast : st[st.length - 1]? = some st[st.length - 1] := List.getElem?_eq_getElem (by omega)
  have hl2 := hD.last _ hlast
  have hat : atI (st.map stpD) (-1) = some (stpD st[st.length - 1]) := by
    unfold atI ixN
    rw [List.length_map]
    rw [if_neg (by decide)]
    rw [if_pos (by omega)]
    show (st.map stpD)[(((-1 : Int) + (st.length : Int)).toNat)]? = _
    rw [show ((-1 : Int) + (st.length : Int)).toNat = st.length - 1 by omega, List.getElem?_map, hlast] <;> rfl
  refine ⟨_, wSs_ok, ?_⟩
  exact ws_ret (je_and2 (x := true) (y := true) (je_callD T.holds (ok_hol T) (hr.mono (by decide)) (ja_cons (je_var 0 rfl ra) (ja_cons (je_var 2 rfl rc) ja_nil)) ⟨r, gs, st, ⟨hF, hD.steps, hD.pos, hD.most⟩, rfl, rfl⟩) (fun _ => JE.of (je_eqS (je_stp0 (je_ixT (i := -1) (ds := st.map stpD) (je_var 2 rfl rc) je_m1 hat) je_int) (je_callD T.reduce_of (ok_red T) (hr.mono (by decide)) (ja_cons (je_var (d := wD u) 1 rfl rb) ja_nil) ⟨u, rfl, by omega, rfl⟩)) (by rw [hl2, decide_eq_true rfl])) rfl) fun v5 H5 s5 r5 => k v5 H5 s5 r5
abbrev s_isag : Stmt := topS 45
theorem sc_isag : FnScope ["family", "word", "value", "rank", "given", "own"] ["family", "word", "value"] (defScope s_isag) := ⟨rfl, rfl, rfl, by decide +kernel, rfl, by decide +kernel, by decide +kernel⟩
def fi_isag (ds : List D) (d : D) : Prop := ∃ (r : Nat) (gs : List Wd) (u : Wd) (act : Act), FamOk r gs ∧ InR r u ∧ Against r gs u act ∧ ds = [famD r gs, wD u, actD act] ∧ d = .b true
theorem ok_isag (T : Txt K mg) : FnOk P w K mg base CX0 4 T.is_against.f T.is_against.fd ["family", "word", "value"] (spD fi_isag) := by
  refine T.is_against.F.ok sc_isag (fun vs H Q E h => ?_) (fun cdv A outer s H vs Q E hr h => ?_)
  · obtain ⟨ds, d, r, ⟨_, _, _, _, _, _, _, rfl, rfl⟩, _⟩ := h
    exact rps_len r rfl
  obtain ⟨ds, d, rr, ⟨r, gs, u, act, hF, hin, hA, rfl, rfl⟩, k⟩ := h
  obtain ⟨va, vb, vc, rfl, ra, rb, rc⟩ := rps3 rr
  obtain ⟨hl, n, n1, n60, hO, hg, hu⟩ := hA
  have h1 := hF.lo
  have h3 := hF.hi
  have hgl := hF.many
  refine ⟨_, wSs_ok, ?_⟩
  refine ws_asg (je_var (d := famD r gs) 0 rfl ra) (pg_tup rfl (pgs_cons (pg_name (i := 3) sc_isag.nd rfl (.inl rfl)) (pgs_cons (pg_name (i := 4) sc_isag.nd rfl (.inl rfl)) pgs_nil))) fun v1 H1 s1 r1 => ?_
  refine gTup2 r1 fun vr vg rvr rvg => ?_
  show wSs _ _ _ [some va, some vb, some vc, some vr, some vg, none] H1
  have hrl : (D.i (r : Int)) = D.i (act.length : Int) := by rw [hl]
  have rvr : Rp H1 (.i (act.length : Int)) vr := by rw [hl]; exact rvr
  refine ws_ifF (jt_or2 (x := false) (y := false) (JT.of (jt_not (JE.test (je_callD T.is_action (ok_isac T) (hr.mono (by decide)) (ja_cons (je_var (d := actD act) 2 rfl (rc.mono s1)) (ja_cons (je_var 3 rfl rvr) ja_nil)) ⟨act, n, hO, n1, n60, by omega, by omega, rfl, rfl⟩))) rfl)
    (fun _ => JT.of (JE.test (je_callD T.returns_in (ok_ret T) (hr.mono (by decide)) (ja_cons (je_var (d := actD act) 2 rfl (rc.mono s1)) (ja_cons (je_var 1 rfl (rb.mono s1)) ja_nil)) ⟨act, n, u, hO, by omega, by rw [hl]; exact hin, rfl, rfl⟩)) (decide_eq_false hu)) rfl) fun H2 s2 => ?_
  have s02 := s1.trans s2
  refine ws_ret (JE.of (je_all (bs := gs.map fun _ => true) rfl T.b_all (JF.je (jf_lc (own := [("own", 5)]) (g := gName 5) (items := gs.map wD) sc_isag.nd (blkOk_by (N := ["family", "word", "value", "rank", "given", "own"]) (sc := defScope s_isag) (by decide +kernel))
    (ji_tup (je_var 4 rfl (rvg.mono s2))) (by simp) (by simp; omega) (imms_map (fun _ => rfl) _) gm_name (fun _ _ _ _ _ => pg_name (i := 5) sc_isag.nd rfl (.inl rfl)) (fun i d r v3 H3 e1 e2 s3 r3 => ?_)))) (by rw [all_true])) fun v2 H3 s3 r3 => k v2 H3 (s02.trans s3) r3
  refine ⟨hw1 v3, rfl, fun sh Hb C cl fp => ?_⟩
  obtain ⟨g, hgg, rfl⟩ := map_at e1
  obtain ⟨b, hb, rfl⟩ := map_at e2
  have hb2 : b = true := by
    rw [List.getElem?_map, hgg] at hb
    exact (Option.some.inj hb).symm
  subst hb2
  have hgm := List.mem_of_getElem? hgg
  exact JE.of (je_callD T.returns_in (ok_ret T) (hr.mono (by decide)) (ja_cons (je_var (d := actD act) 2 rfl (rc.mono (s02.trans s3))) (ja_cons (je_var 5 rfl r3) ja_nil)) ⟨act, n, g, hO, by omega, by rw [hl]; exact hF.inr g hgm, rfl, rfl⟩) (by rw [hg g hgm, decide_eq_true rfl])
/-! is_answer, accepts_answer -/
def Fits (r : Nat) (gs : List Wd) (u : Wd) : AnsD → Prop
  | .mem st => DerivOk r gs u st
  | .non act => Against r gs u act
def fi_isan (ds : List D) (d : D) : Prop := ∃ (r : Nat) (gs : List Wd) (u : Wd) (a : AnsD), FamOk r gs ∧ WdOk r u ∧ Fits r gs u a ∧ ds = [famD r gs, wD u, ansD a] ∧ d = .b true
abbrev s_isan : Stmt := topS 67
theorem sc_isan : FnScope ["family", "word", "value"] ["family", "word", "value"] (defScope s_isan) := ⟨rfl, rfl, rfl, by decide +kernel, rfl, by decide +kernel, by decide +kernel⟩
theorem ok_isan (T : Txt K mg) : FnOk P w K mg base CX0 7 T.is_answer.f T.is_answer.fd ["family", "word", "value"] (spD fi_isan) := by
  refine T.is_answer.F.ok sc_isan (fun vs H Q E h => ?_) (fun cdv A outer s H vs Q E hr h => ?_)
  · obtain ⟨ds, d, r, ⟨_, _, _, _, _, _, _, rfl, rfl⟩, _⟩ := h
    exact rps_len r rfl
  obtain ⟨ds, d, rr, ⟨r, gs, u, a, hF, hW, hA, rfl, rfl⟩, k⟩ := h
  obtain ⟨va, vb, vc, rfl, ra, rb, rc⟩ := rps3 rr
  have hul := hW.len
  refine ⟨_, wSs_ok, ?_⟩
  cases a with
  | mem st =>
    have rc : Rp H (.t [.s "member", .t (st.map stpD)]) vc := rc
    refine ws_ifF (jt_or3 (x := false) (y := false) (z := false) (JT.of (jt_not (JE.test (je_isi (c := true) T.b_isinstance (je_var 2 rfl rc) (je_tyTup T.b_tuple) (kb_tup _)))) rfl)
      (fun _ => JT.of (jt_neI (je_lenT T.b_len (je_var 2 rfl rc)) je_int) rfl) (fun _ _ => JT.of (jt_not (JE.test (je_isi (c := true) T.b_isinstance (je_ixT (i := 0) (je_var 2 rfl rc) je_int rfl) (je_tyStr T.b_str) (kb_str "member")))) rfl) rfl) fun H1 s1 => ?_
    refine ws_ifT (JT.of (jt_eqS (x := "member") (je_ixT (i := 0) (je_var 2 rfl (rc.mono s1)) je_int rfl) je_str) (decide_eq_true rfl)) fun H2 s2 => ?_
    have s02 := s1.trans s2
    exact ws_ret (je_callD T.is_right (ok_isri T) (hr.mono (by decide)) (ja_cons (je_var 0 rfl (ra.mono s02)) (ja_cons (je_var 1 rfl (rb.mono s02)) (ja_cons (je_ixT (i := 1) (d := .t (st.map stpD)) (je_var 2 rfl (rc.mono s02)) je_int rfl) ja_nil))) ⟨r, gs, u, st, hF, by omega, hA, rfl, rfl⟩) fun v3 H3 s3 r3 => k v3 H3 (s02.trans s3) r3
  | non act =>
    have rc : Rp H (.t [.s "none", actD act]) vc := rc
    refine ws_ifF (jt_or3 (x := false) (y := false) (z := false) (JT.of (jt_not (JE.test (je_isi (c := true) T.b_isinstance (je_var 2 rfl rc) (je_tyTup T.b_tuple) (kb_tup _)))) rfl)
      (fun _ => JT.of (jt_neI (je_lenT T.b_len (je_var 2 rfl rc)) je_int) rfl) (fun _ _ => JT.of (jt_not (JE.test (je_isi (c := true) T.b_isinstance (je_ixT (i := 0) (je_var 2 rfl rc) je_int rfl) (je_tyStr T.b_str) (kb_str "none")))) rfl) rfl) fun H1 s1 => ?_
    refine ws_ifF (JT.of (jt_eqS (x := "none") (je_ixT (i := 0) (je_var 2 rfl (rc.mono s1)) je_int rfl) je_str) (decide_eq_false (by decide))) fun H2 s2 => ?_
    have s02 := s1.trans s2
    exact ws_ret (je_and2 (x := true) (y := true) (JE.of (je_eqS (x := "none") (je_ixT (i := 0) (je_var 2 rfl (rc.mono s02)) je_int rfl) je_str) (by rw [decide_eq_true rfl])) (fun _ => je_callD T.is_against (ok_isag T) (hr.mono (by decide)) (ja_cons (je_var 0 rfl (ra.mono s02)) (ja_cons (je_var 1 rfl (rb.mono s02)) (ja_cons (je_ixT (i := 1) (d := actD act) (je_var 2 rfl (rc.mono s02)) je_int rfl) ja_nil))) ⟨r, gs, u, act, hF, hW.inr, hA, rfl, rfl⟩) rfl) fun v3 H3 s3 r3 => k v3 H3 (s02.trans s3) r3
abbrev s_acc : Stmt := topS 68
theorem sc_acc : FnScope ["family", "word", "value"] ["family", "word", "value"] (defScope s_acc) := ⟨rfl, rfl, rfl, by decide +kernel, rfl, by decide +kernel, by decide +kernel⟩
theorem ok_acc (T : Txt K mg) : FnOk P w K mg base CX0 8 T.accepts_answer.f T.accepts_answer.fd ["family", "word", "value"] (spD fi_isan) := by
  refine T.accepts_answer.F.ok sc_acc (fun vs H Q E h => ?_) (fun cdv A outer s H vs Q E hr h => ?_)
  · obtain ⟨ds, d, r, ⟨_, _, _, _, _, _, _, rfl, rfl⟩, _⟩ := h
    exact rps_len r rfl
  obtain ⟨ds, d, rr, ⟨r, gs, u, a, hF, hW, hA, rfl, rfl⟩, k⟩ := h
  obtain ⟨va, vb, vc, rfl, ra, rb, rc⟩ := rps3 rr
  refine ⟨_, wSs_ok, ?_⟩
  refine ws_exprE ((je_callD T.check_word (ok_chw T) (hr.mono (by decide)) (ja_cons (je_var 0 rfl ra) (ja_cons (je_var 1 rfl rb) ja_nil)) ⟨r, gs, u, hF, hW, rfl, rfl⟩).go fun v H1 s1 _ => ?_)
  exact ws_ret (je_callD T.is_answer (ok_isan T) (hr.mono (by decide)) (ja_cons (je_var 0 rfl (ra.mono s1)) (ja_cons (je_var 1 rfl (rb.mono s1)) (ja_cons (je_var 2 rfl (rc.mono s1)) ja_nil))) ⟨r, gs, u, a, hF, hW, hA, rfl, rfl⟩) fun v3 H3 s3 r3 => k v3 H3 (s1.trans s3) r3
end
end FW
/-! the law's stream -/
namespace FW
open PySem L2
section
variable {X : Cx} {a b e : Expr} {σ : L2.St} {H : Hp} {pos p : Pos} {i j : Int}
theorem je_modI (ha : JE X a σ H (.i i)) (hb : JE X b σ H (.i j)) (hj : 0 < j) : JE X (.BinOp a .Mod b pos) σ H (.i (i % j)) :=
  je_op op_mod ha hb fun H2 x y Q _ rx ry k => ⟨i, j, rx, ry, hj, k _ _ (Same.refl _) rfl⟩
theorem je_fdivI (ha : JE X a σ H (.i i)) (hb : JE X b σ H (.i j)) (hj : CDiv i j) : JE X (.BinOp a .FloorDiv b pos) σ H (.i (i / j)) :=
  je_op op_fdiv ha hb fun H2 x y Q _ rx ry k => ⟨i, j, rx, ry, hj, k _ _ (Same.refl _) rfl⟩
theorem je_powI (ha : JE X a σ H (.i i)) (hb : JE X b σ H (.i j)) (hj : CPow i j) : JE X (.BinOp a .Pow b pos) σ H (.i (i ^ j.toNat)) :=
  je_op op_pow ha hb fun H2 x y Q _ rx ry k => ⟨i, j, rx, ry, hj, k _ _ (Same.refl _) rfl⟩
theorem je_mulR (ha : JE X a σ H (.i i)) (hb : JE X b σ H (.i j)) (hz : CMul i j) : JE X (.BinOp a .Mult b pos) σ H (.i (i * j)) :=
  je_op op_mul ha hb fun H2 x y Q _ rx ry k => ⟨i, j, rx, ry, hz, k _ _ (Same.refl _) rfl⟩
theorem je_int1 (hm : X.mg "int" = none) (ha : JE X e σ H (.i i)) (hg : Gl X "int" := by rfl) (he : starEach [e] X.env = (false, eval e X.env) :: starEach [] X.env := by rfl) (hpl : (backTo pos (starEach [] X.env)).any (·.1) = false := by rfl) : JE X (.Call (.Name "int" p) [e] [] pos) σ H (.i i) :=
  je_callTy call_int1 hm (by decide +kernel) (ja_cons ha ja_nil he) (fun H2 vs Q _ r k => by
    obtain ⟨v, rfl, rv⟩ := rps1 r
    exact .inl ⟨i, by rw [show v = .int i from rv], k _ _ (Same.refl _) rfl⟩) hg (he := he) (hpl := hpl)
end

/-- the stream at p, its script's copy at l -/
structure Stm (H : Hp) (p l : Addr) (ns : List Int) (x k : Int) : Prop where
  at_ : H p = some (.lst [.ref l, .int x, .int k])
  scr : H l = some (.lst (ns.map V.int))
  ne : p ≠ l
  x0 : 0 ≤ x
  k0 : 0 ≤ k
def StmAt (H : Hp) (p l : Addr) : Prop := ∃ ns x k, Stm H p l ns x k
theorem Stm.mono {H H' : Hp} {p l : Addr} {ns : List Int} {x k : Int} (h : Stm H p l ns x k) (s : Same H H') : Stm H' p l ns x k := ⟨s _ _ h.at_, s _ _ h.scr, h.ne, h.x0, h.k0⟩
theorem StmAt.mono {H H' : Hp} {p l : Addr} (h : StmAt H p l) (s : Same H H') : StmAt H' p l := let ⟨ns, x, k, q⟩ := h; ⟨ns, x, k, q.mono s⟩
def stmD (ns : List Int) (x k : Int) : List D := [.l (ns.map D.i), .i x, .i k]
theorem Stm.rps {H : Hp} {p l : Addr} {ns : List Int} {x k : Int} (h : Stm H p l ns x k) : LstAt H p (stmD ns x k) := ⟨_, h.at_, .cons ⟨l, _, rfl, h.scr, rps_ints ns⟩ (.cons rfl (.cons rfl rfl))⟩
theorem Stm.rp {H : Hp} {p l : Addr} {ns : List Int} {x k : Int} (h : Stm H p l ns x k) : Rp H (.l (stmD ns x k)) (.ref p) := h.rps.rp
theorem Stm.set1 {H : Hp} {p l : Addr} {ns : List Int} {x k : Int} (h : Stm H p l ns x k) {y : Int} (hy : 0 ≤ y) {vs : List V} (e : H p = some (.lst vs)) : Stm (upd H p (.lst (vs.set 1 (.int y)))) p l ns y k := by
  rw [h.at_] at e
  obtain rfl : [V.ref l, .int x, .int k] = vs := by injection e with e; injection e
  exact ⟨upd_same, by rw [upd_ne (Ne.symm h.ne)]; exact h.scr, h.ne, hy, h.k0⟩
theorem Stm.set2 {H : Hp} {p l : Addr} {ns : List Int} {x k : Int} (h : Stm H p l ns x k) {y : Int} (hy : 0 ≤ y) {vs : List V} (e : H p = some (.lst vs)) : Stm (upd H p (.lst (vs.set 2 (.int y)))) p l ns x y := by
  rw [h.at_] at e
  obtain rfl : [V.ref l, .int x, .int k] = vs := by injection e with e; injection e
  exact ⟨upd_same, by rw [upd_ne (Ne.symm h.ne)]; exact h.scr, h.ne, h.x0, hy⟩
/-- a number below many is drawn -/
def spNext : Sp := fun vs H Q _ => ∃ (p l : Addr) (n : Nat), vs = [.ref p, .int (n : Int)] ∧ StmAt H p l ∧ 1 ≤ n ∧ n ≤ 1000 ∧ ∀ (m : Nat) H', m < n → KeepL [p] H H' → KeepT H H' → StmAt H' p l → Q (.int (m : Int)) H'
section
variable {P : Program} {w : World} {K : PySem.W.Frag} {mg : Str → Option Value} {base : Heap}
abbrev s_next : Stmt := topS 71
theorem sc_next : FnScope ["_law_stream_here", "_law_many", "_law_k", "_law_cell", "_law_digit"] ["_law_stream_here", "_law_many"] (defScope s_next) := ⟨rfl, rfl, rfl, by decide +kernel, rfl, by decide +kernel, by decide +kernel⟩
theorem ok_next (T : Txt K mg) : FnOk P w K mg base CX0 1 T.law_next.f T.law_next.fd ["_law_stream_here", "_law_many"] spNext := by
  refine T.law_next.F.ok sc_next (fun vs H Q E h => ?_) (fun cdv A0 outer s H vs Q E hr h => ?_)
  · obtain ⟨p, l, n, rfl, _⟩ := h
    rfl
  obtain ⟨p, l, n, rfl, hS, hn1, hn2, q⟩ := h
  refine ⟨_, wSs_ok, ?_⟩
  -- the end, from any state
  have fin : ∀ {H1 : Hp} {x2 x3 : Option V} {ns : List Int} {x k : Int}, KeepL [p] H H1 → KeepT H H1 → Stm H1 p l ns x k → wSs (cxOf CX0 P w K mg base ["_law_stream_here", "_law_many", "_law_k", "_law_cell", "_law_digit"] "_law_next" (defScope s_next) T.law_next.f cdv A0 outer s H E).nox ((defBody s_next).drop 1) { nx := fun _ H' => Q .non H', rt := Q } [some (.ref p), some (.int (n : Int)), x2, x3, none] H1 := fun {H1 x2 x3 ns x k} kl kt st => by
    have hx := st.x0
    refine ws_set 4 sc_next.nd (d := .i (x % (n : Int))) (je_modI (je_int1 T.b_int (je_ixL (i := 1) (ds := stmD ns x k) (je_var 0 rfl st.rp) je_int rfl)) (je_var 1 rfl (intRp n)) (by omega)) fun v2 H2 s2 r2 => ?_
    obtain rfl : v2 = .int (x % (n : Int)) := r2
    have st2 := st.mono s2
    refine ws_setIx (n := 1) (d := .i (x / (n : Int))) (jv_var 0) st2.rps (by show 1 < 3; decide) je_int (je_fdivI (je_ixL (i := 1) (ds := stmD ns x k) (je_var 0 rfl st2.rp) je_int rfl) (je_var 1 rfl (intRp n)) ⟨by omega, by omega⟩) fun v3 vs H3 s3 h3 r3 rv3 => ?_
    obtain rfl : v3 = .int (x / (n : Int)) := rv3
    have st4 := (st2.mono s3).set1 (y := x / (n : Int)) (Int.ediv_nonneg hx (by omega)) h3
    have k4 : KeepL [p] H (upd H3 p (.lst (vs.set 1 (.int (x / (n : Int)))))) := (kl.trans (same_keepL (s2.trans s3) _)).trans (keepL_upd (by simp))
    have t4 : KeepT H (upd H3 p (.lst (vs.set 1 (.int (x / (n : Int)))))) := (kt.trans (Same.keepT (s2.trans s3))).trans (keepT_lst h3)
    generalize upd H3 p (.lst (vs.set 1 (.int (x / (n : Int))))) = H4 at st4 k4 t4
    have hm : x % (n : Int) = ((x % (n : Int)).toNat : Int) := by have := Int.emod_nonneg x (show (n : Int) ≠ 0 by omega); omega
    have hlt : (x % (n : Int)).toNat < n := by have := Int.emod_lt_of_pos x (show (0 : Int) < n by omega); omega
    refine ws_retV 4 ?_
    rw [hm]
    exact q _ H4 hlt k4 t4 ⟨_, _, _, st4⟩
  obtain ⟨ns, x, k, st⟩ := hS
  have hx0 := st.x0
  have hk0 := st.k0
  refine ws_if (k := decide (x = 0)) (jt_eqI (je_ixL (i := 1) (ds := stmD ns x k) (je_var 0 rfl st.rp) je_int rfl) je_int) (fun hk H1 s1 => ?_) (fun hk H1 s1 => ws_nil (fin (same_keepL s1 _) (Same.keepT s1) (st.mono s1)))
  have st1 := st.mono s1
  refine ws_set 2 sc_next.nd (d := .i k) (je_ixL (i := 2) (ds := stmD ns x k) (je_var 0 rfl st1.rp) je_int rfl) fun v2 H2 s2 r2 => ?_
  obtain rfl : v2 = .int k := r2
  refine ws_set 3 sc_next.nd (d := .i (7 + k)) (je_addI je_int (je_var 2 rfl rfl)) fun v3 H3 s3 r3 => ?_
  obtain rfl : v3 = .int (7 + k) := r3
  have st3 := (st1.mono s2).mono s3
  have s03 := (s1.trans s2).trans s3
  -- behind the cell is known
  have go : ∀ {H4 : Hp} {cell : Int}, Same H H4 → 0 ≤ cell → wSs (cxOf CX0 P w K mg base ["_law_stream_here", "_law_many", "_law_k", "_law_cell", "_law_digit"] "_law_next" (defScope s_next) T.law_next.f cdv A0 outer s H E).nox (match defBody s_next with | .If _ b _ _ :: _ => b.drop 3 | _ => []) { nx := wSs (cxOf CX0 P w K mg base ["_law_stream_here", "_law_many", "_law_k", "_law_cell", "_law_digit"] "_law_next" (defScope s_next) T.law_next.f cdv A0 outer s H E).nox ((defBody s_next).drop 1) { nx := fun _ H' => Q .non H', rt := Q }, rt := Q } [some (.ref p), some (.int (n : Int)), some (.int k), some (.int cell), none] H4 := fun {H4 cell} s4 hc => by
    have last : ∀ {H5 : Hp} {c2 : Int}, Same H H5 → 0 ≤ c2 → wSs (cxOf CX0 P w K mg base ["_law_stream_here", "_law_many", "_law_k", "_law_cell", "_law_digit"] "_law_next" (defScope s_next) T.law_next.f cdv A0 outer s H E).nox (match defBody s_next with | .If _ b _ _ :: _ => b.drop 4 | _ => []) { nx := wSs (cxOf CX0 P w K mg base ["_law_stream_here", "_law_many", "_law_k", "_law_cell", "_law_digit"] "_law_next" (defScope s_next) T.law_next.f cdv A0 outer s H E).nox ((defBody s_next).drop 1) { nx := fun _ H' => Q .non H', rt := Q }, rt := Q } [some (.ref p), some (.int (n : Int)), some (.int k), some (.int c2), none] H5 := fun {H5 c2} s5 hc2 => by
      have st5 := st.mono s5
      refine ws_setIx (n := 1) (d := .i c2) (jv_var 0) st5.rps (by show 1 < 3; decide) je_int (je_var 3 rfl rfl) fun v6 vs H6 s6 h6 r6 rv6 => ?_
      obtain rfl : v6 = .int c2 := rv6
      have st7 := (st5.mono s6).set1 hc2 h6
      have k7 : KeepL [p] H (upd H6 p (.lst (vs.set 1 (.int c2)))) := (same_keepL (s5.trans s6) _).trans (keepL_upd (by simp))
      have t7 : KeepT H (upd H6 p (.lst (vs.set 1 (.int c2)))) := (Same.keepT (s5.trans s6)).trans (keepT_lst h6)
      generalize upd H6 p (.lst (vs.set 1 (.int c2))) = H7 at st7 k7 t7
      refine ws_setIx (n := 2) (d := .i (k + 1)) (jv_var 0) st7.rps (by show 2 < 3; decide) je_int (je_addI (je_var 2 rfl rfl) je_int) fun v8 vs8 H8 s8 h8 r8 rv8 => ws_nil ?_
      obtain rfl : v8 = .int (k + 1) := rv8
      exact fin ((k7.trans (same_keepL s8 _)).trans (keepL_upd (by simp))) ((t7.trans (Same.keepT s8)).trans (keepT_lst h8)) ((st7.mono s8).set2 (by omega) h8)
    refine ws_if (k := decide (cell < 10 ^ 18)) (jt_ltI (je_var 3 rfl rfl) (je_powI (i := 10) (j := 18) je_int je_int ⟨by decide, by decide, by decide⟩)) (fun hk H5 s5 => ?_) (fun hk H5 s5 => ws_nil (last (s4.trans s5) hc))
    have hk := of_decide_eq_true hk
    have hk : cell < 1000000000000000000 := hk
    have hM : (0 : Int) < 2147483647 := by decide
    refine ws_set 3 sc_next.nd (d := .i ((cell * 48271 + k * 69621 + 11) % 2147483647)) (je_modI (je_int1 T.b_int (je_addI (je_addI (je_mulI (je_var 3 rfl rfl) je_int ⟨by omega, by omega⟩) (je_mulR (je_var 2 rfl rfl) je_int (.inr ⟨by decide, by decide⟩))) je_int)) je_int hM) fun v6 H6 s6 r6 => ?_
    obtain rfl : v6 = .int _ := r6
    generalize hc2 : (cell * 48271 + k * 69621 + 11) % 2147483647 = c2
    have h20 : 0 ≤ c2 := by rw [← hc2]; exact Int.emod_nonneg _ (by decide)
    have h2l : c2 < 2147483647 := by rw [← hc2]; exact Int.emod_lt_of_pos _ hM
    have h30 : 0 ≤ (c2 * 16807 + 13) % 2147483647 := Int.emod_nonneg _ (by decide)
    have h3l : (c2 * 16807 + 13) % 2147483647 < 2147483647 := Int.emod_lt_of_pos _ hM
    refine ws_set 3 sc_next.nd (d := .i ((c2 * 16807 + 13) % 2147483647 * 65537 + c2)) (je_addI (je_mulI (je_modI (je_int1 T.b_int (je_addI (je_mulI (je_var 3 rfl rfl) je_int ⟨by omega, by omega⟩) je_int)) je_int hM) je_int ⟨by omega, by omega⟩) (je_var 3 rfl rfl)) fun v7 H7 s7 r7 => ws_nil ?_
    obtain rfl : v7 = .int _ := r7
    exact last (((s4.trans s5).trans s6).trans s7) (by omega)
  have hsl : (ns.map D.i).length = ns.length := by simp
  refine ws_if (k := decide (k < (ns.length : Int))) (JT.of (jt_ltI (je_var 2 rfl rfl) (je_lenL T.b_len (je_ixL (i := 0) (ds := stmD ns x k) (d := .l (ns.map D.i)) (je_var 0 rfl st3.rp) je_int rfl))) (by rw [hsl])) (fun hk H4 s4 => ?_) (fun hk H4 s4 => ws_nil (go (s03.trans s4) (by omega)))
  have hk := of_decide_eq_true hk
  obtain ⟨kn, rfl⟩ : ∃ kn : Nat, k = (kn : Int) := ⟨k.toNat, by omega⟩
  have hkl : kn < ns.length := by omega
  refine ws_set 3 sc_next.nd (d := .i (if ns[kn] < 0 then -ns[kn] else ns[kn])) (je_abs T.b_abs (je_ixLn (je_ixL (i := 0) (ds := stmD ns x kn) (d := .l (ns.map D.i)) (je_var 0 rfl (st3.mono s4).rp) je_int rfl) (je_var 2 rfl (intRp kn)) (by rw [List.getElem?_map, List.getElem?_eq_getElem hkl] <;> rfl))) fun v5 H5 s5 r5 => ws_nil ?_
  obtain rfl : v5 = .int _ := r5
  refine go ((s03.trans s4).trans s5) ?_
  split <;> omega
section
variable {X : Cx} {o e : Expr} {σ : L2.St} {H : Hp} {pos pn : Pos} {p l : Addr} {n k : Nat} {Q : VK}
/-- _law_next(stream, n) -/
theorem we_next (T : Txt X.K X.mg) (hr : Room k X.A) (hk : 1 ≤ k) (ho : JV X o σ H (.ref p)) (hS : StmAt H p l) (he : JE X e σ H (.i (n : Int))) (h1 : 1 ≤ n) (h2 : n ≤ 1000) (q : ∀ (m : Nat) H', m < n → KeepL [p] H H' → KeepT H H' → StmAt H' p l → Q (.int (m : Int)) H')
    (hg : Gl X "_law_next" := by rfl) (hs : starEach [o, e] X.env = (false, eval o X.env) :: starEach [e] X.env := by rfl) (hs2 : starEach [e] X.env = (false, eval e X.env) :: starEach [] X.env := by rfl) (hpl : (backTo pos (starEach [e] X.env)).any (·.1) = false := by rfl) : wE X (.Call (.Name "_law_next" pn) [o, e] [] pos) σ H Q :=
  ⟨_, pe_call (ok_next (base := X.base) (P := X.prog) (w := X.w) T) (hr.mono hk) hg T.law_next.m T.law_next.F.kp T.law_next.b .nil pass0 (pa_cons wE_ok (pa_cons wE_ok pa_nil hs2) hs) (by decide) hs hpl, ho H (Same.refl _) _ fun H2 s2 => he H2 s2 _ fun v H3 s3 r3 => by
    obtain rfl : v = .int (n : Int) := r3
    exact ⟨p, l, n, rfl, hS.mono (s2.trans s3), h1, h2, fun m H' hm kl kt st => q m H' hm ((same_keepL (s2.trans s3) _).trans kl) ((Same.keepT (s2.trans s3)).trans kt) st⟩⟩
end
/-! the small ones -/
abbrev s_flip : Stmt := topS 73
theorem sc_flip : FnScope ["_law_letter"] ["_law_letter"] (defScope s_flip) := ⟨rfl, rfl, rfl, by decide +kernel, rfl, by decide +kernel, by decide +kernel⟩
def sixW : Wd := [(0, false), (0, true), (1, false), (1, true), (2, false), (2, true)]
def sixF : Wd := [(0, true), (0, false), (1, true), (1, false), (2, true), (2, false)]
theorem enc_six : ("aAbBcC" : Str) = enc sixW := by decide +kernel
theorem enc_sixF : ("AaBbCc" : Str) = enc sixF := by decide +kernel
theorem occ_six (x : L) : ∃ (i : Nat) (more : List Nat), Builtin.Str.occurrences ("aAbBcC" : Str) (enc [x]) 0 ("aAbBcC" : Str).length 1 = i :: more ∧ ("AaBbCc" : Str).cps.toList[i]? = some (code (inv x)) := by
  obtain ⟨k, c⟩ := x
  match k, c with
  | 0, false => exact ⟨0, [], by decide +kernel, by decide +kernel⟩
  | 0, true => exact ⟨1, [], by decide +kernel, by decide +kernel⟩
  | 1, false => exact ⟨2, [], by decide +kernel, by decide +kernel⟩
  | 1, true => exact ⟨3, [], by decide +kernel, by decide +kernel⟩
  | 2, false => exact ⟨4, [], by decide +kernel, by decide +kernel⟩
  | 2, true => exact ⟨5, [], by decide +kernel, by decide +kernel⟩
theorem ok_flip (T : Txt K mg) : FnOk P w K mg base CX0 1 T.law_flip.f T.law_flip.fd ["_law_letter"] (spD fi_opp) := by
  refine T.law_flip.F.ok sc_flip (fun vs H Q E h => ?_) (fun cdv A outer s H vs Q E hr h => ?_)
  · obtain ⟨ds, d, r, ⟨x, rfl, rfl⟩, _⟩ := h
    exact rps_len r rfl
  obtain ⟨ds, d, r, ⟨x, rfl, rfl⟩, k⟩ := h
  obtain ⟨v, rfl, rv⟩ := rps1 r
  obtain ⟨i, more, h1, h2⟩ := occ_six x
  refine ⟨_, wSs_ok, ?_⟩
  exact ws_ret (d := wD [inv x]) (je_ixS (c := code (inv x)) je_str (je_sindex je_str (je_var (d := wD [x]) 0 rfl rv) h1) (by decide +kernel) (atI_nat h2)) fun v H1 s1 r1 => k v H1 s1 r1
end
end FW
/-! the law's own reduce, inverse, letters, image -/
namespace FW
open PySem L2
section
variable {P : Program} {w : World} {K : PySem.W.Frag} {mg : Str → Option Value} {base : Heap}
abbrev s_lred : Stmt := topS 74
theorem sc_lred : FnScope ["_law_word_here", "_law_kept", "_law_letter"] ["_law_word_here"] (defScope s_lred) := ⟨rfl, rfl, rfl, by decide +kernel, rfl, by decide +kernel, by decide +kernel⟩
theorem ok_lred (T : Txt K mg) : FnOk P w K mg base CX0 2 T.law_reduce.f T.law_reduce.fd ["_law_word_here"] (spD fi_red) := by
  refine T.law_reduce.F.ok sc_lred (fun vs H Q E h => ?_) (fun cdv A outer s H vs Q E hr h => ?_)
  · obtain ⟨ds, d, r, ⟨x, rfl, _, rfl⟩, _⟩ := h
    exact rps_len r rfl
  · obtain ⟨ds, d, r, ⟨u, rfl, hu, rfl⟩, k⟩ := h
    obtain ⟨v, rfl, rv⟩ := rps1 r
    refine ⟨_, wSs_ok, ?_⟩
    refine ws_setF 1 sc_lred.nd (jf_lst ja_nil) fun p vs H1 hp s1 h1 r1 => ?_
    refine ws_forW (w := u) (je_var 0 rfl (rv.mono s1)) (pg_name (i := 2) sc_lred.nd rfl (.inl rfl)) (fun i σ' H' => ∃ us z, σ' = [some v, some (.ref p), z] ∧ Same H H' ∧ H' p = some (.lst us) ∧ Rps H' (letsD (gact inv (u.take i) []).reverse) us)
      (fun H2 s2 => ⟨vs, none, rfl, s1.trans s2, s2 _ _ h1, r1.mono s2⟩) ?_ ?_
    · rintro i x σ' H' hx ht ⟨us, z, rfl, s2, h2, r2⟩
      have hf : Rp H' (.l (letsD (gact inv (u.take i) []).reverse)) (.ref p) := ⟨p, us, rfl, h2, r2⟩
      show wSs _ _ _ [some v, some (V.ref p), some (V.str (enc [x]))] H'
      have hz : (gact inv (u.take i) []).length ≤ 50000 := by
        have h5 := act_len (v := inv) (u.take i) []
        have h6 : (u.take i).length ≤ u.length := by rw [List.length_take]; omega
        simp at h5
        omega
      rw [show (i + 1) = i + 1 from rfl]
      have hpush := gact_take ht
      generalize hst : gact inv (u.take i) [] = st at r2 hf hz hpush
      have hlen : (letsD st.reverse).length = st.length := by simp [letsD]
      cases st with
      | nil =>
        refine ws_if (k := false) (jt_and2 (x := false) (y := true) (jt_truL (je_var 1 rfl hf)) (fun q => by cases q) rfl) (fun q => by cases q) fun _ H3 s3 => ?_
        refine ws_app (wv_var 1) (s3 _ _ h2) (d := wD [x]) (je_var 2 rfl rfl) (by rw [r2.len, hlen]; simp) fun w2 H4 s4 r4 => ws_nil (ws_nil ⟨us ++ [w2], _, rfl, Same.mut ((s2.trans s3).trans s4) hp, upd_same, ?_⟩)
        rw [hpush]
        refine Rps.imm (keepT_lst (s4 _ _ (s3 _ _ h2))) (imms_lets _) ?_
        exact Rps.app (r2.mono (s3.trans s4)) (.cons r4 rfl)
      | cons y t =>
        have hl : letsD (y :: t).reverse = letsD t.reverse ++ [wD [y]] := by simp [letsD]
        have hpos : (!(letsD (y :: t).reverse).isEmpty) = true := by rw [hl]; simp
        refine ws_if (k := decide (y = inv x)) (jt_and2 (x := true) (y := decide (y = inv x)) (JT.of (jt_truL (je_var 1 rfl hf)) hpos) (fun _ => JT.of (jt_eqS (x := enc [y]) (y := enc [inv x])
          (je_ixL (i := -1) (je_var 1 rfl hf) je_m1 (by rw [hl]; exact at_last _ _))
          (je_callD T.law_flip (ok_flip T) (hr.mono (by decide)) (ja_cons (je_var (d := wD [x]) 2 rfl rfl) ja_nil) ⟨x, rfl, rfl⟩)) (by rw [enc_dec]; simp)) rfl) (fun hk H3 s3 => ?_) (fun hk H3 s3 => ?_)
        · have hy : y = inv x := of_decide_eq_true hk
          obtain ⟨us', ey⟩ : ∃ us' v', us = us' ++ [v'] ∧ Rps H' (letsD t.reverse) us' := by
            rw [hl] at r2
            exact rps_snoc r2
          obtain ⟨v', rfl, r2'⟩ := ey
          refine ws_pop (wv_var 1) (s3 _ _ h2) fun H4 s4 => ws_nil (ws_nil ⟨us', _, rfl, Same.mut ((s2.trans s3).trans s4) hp, upd_same, ?_⟩)
          rw [hpush, gpush_cons, if_pos hy]
          exact Rps.imm (keepT_lst (s4 _ _ (s3 _ _ h2))) (imms_lets _) (r2'.mono (s3.trans s4))
        · have hy : ¬ y = inv x := of_decide_eq_false hk
          refine ws_app (wv_var 1) (s3 _ _ h2) (d := wD [x]) (je_var 2 rfl rfl) (by rw [r2.len, hlen]; omega) fun w2 H4 s4 r4 => ws_nil (ws_nil ⟨us ++ [w2], _, rfl, Same.mut ((s2.trans s3).trans s4) hp, upd_same, ?_⟩)
          rw [hpush, gpush_cons, if_neg hy]
          refine Rps.imm (keepT_lst (s4 _ _ (s3 _ _ h2))) (imms_lets _) ?_
          have e3 : letsD (x :: y :: t).reverse = letsD (y :: t).reverse ++ [wD [x]] := by simp [letsD]
          rw [e3]
          exact Rps.app (r2.mono (s3.trans s4)) (.cons r4 rfl)
    · rintro σ' H' ⟨us, z, rfl, s2, h2, r2⟩
      have e : u.take u.length = u := List.take_length
      rw [e] at r2
      refine ws_ret (je_joinW (u := red u) je_str (je_var 1 rfl ⟨p, us, rfl, h2, r2⟩) ?_) fun v2 H3 s3 r3 => k v2 H3 (s2.trans s3) r3
      have : (red u).length ≤ u.length := red_len u
      omega
abbrev s_linv : Stmt := topS 75
theorem sc_linv : FnScope ["_law_word_here", "_law_letter"] ["_law_word_here"] (defScope s_linv) := ⟨rfl, rfl, rfl, by decide +kernel, rfl, by decide +kernel, by decide +kernel⟩
theorem ok_linv (T : Txt K mg) : FnOk P w K mg base CX0 2 T.law_inverse.f T.law_inverse.fd ["_law_word_here"] (spD fi_inv) := by
  refine T.law_inverse.F.ok sc_linv (fun vs H Q E h => ?_) (fun cdv A outer s H vs Q E hr h => ?_)
  · obtain ⟨ds, d, r, ⟨x, rfl, _, rfl⟩, _⟩ := h
    exact rps_len r rfl
  · obtain ⟨ds, d, r, ⟨u, rfl, hu, rfl⟩, k⟩ := h
    obtain ⟨v, rfl, rv⟩ := rps1 r
    refine ⟨_, wSs_ok, ?_⟩
    have hlen : (letsD (winv u)).length = (u.reverse.map fun x => wD [x]).length := by simp [letsD, ginv]
    refine ws_ret (je_joinW (u := winv u) je_str (JF.je (jf_lc (own := [("_law_letter", 1)]) (g := gName 1) (es := letsD (winv u)) (items := u.reverse.map fun x => wD [x]) sc_linv.nd (blkOk_by (N := ["_law_word_here", "_law_letter"]) (sc := defScope s_linv) (by decide +kernel))
      (ji_word (JE.of (je_revS (je_var 0) (by rw [enc_len]; omega)) (congrArg D.s (enc_rev u)))) hlen (by rw [hlen]; simp; omega) (imms_lets _) gm_name (fun _ _ _ _ _ => pg_name (i := 1) sc_linv.nd rfl (.inl rfl))
      (fun i d r v2 H2 h1 h2 s2 r2 => ?_))) (by simp [ginv]; omega)) fun v2 H3 s3 r3 => k v2 H3 s3 r3
    refine ⟨hw1 v2, rfl, fun sh Hb C cl fp => ?_⟩
    have hx : ∃ x, d = wD [x] ∧ r = wD [inv x] := by
      rw [List.getElem?_map] at h1
      cases e : u.reverse[i]? with
      | none => rw [e] at h1; cases h1
      | some x =>
        rw [e] at h1
        refine ⟨x, (Option.some.inj h1).symm, ?_⟩
        have : winv u = u.reverse.map inv := by simp [ginv]
        unfold letsD at h2
        rw [this, List.map_map, List.getElem?_map, e] at h2
        exact (Option.some.inj h2).symm
    obtain ⟨x, rfl, rfl⟩ := hx
    exact je_callD T.law_flip (ok_flip T) (hr.mono (by decide)) (ja_cons (je_var 1 rfl r2) ja_nil) ⟨x, rfl, rfl⟩
abbrev s_llets : Stmt := topS 76
theorem sc_llets : FnScope ["_law_rank"] ["_law_rank"] (defScope s_llets) := ⟨rfl, rfl, rfl, by decide +kernel, rfl, by decide +kernel, by decide +kernel⟩
theorem ok_llets (T : Txt K mg) : FnOk P w K mg base CX0 1 T.law_letters.f T.law_letters.fd ["_law_rank"] (spD fi_lets) := by
  refine T.law_letters.F.ok sc_llets (fun vs H Q E h => ?_) (fun cdv A outer s H vs Q E hr h => ?_)
  · obtain ⟨ds, d, r, ⟨a, _, rfl, rfl⟩, _⟩ := h
    exact rps_len r rfl
  · obtain ⟨ds, d, r, ⟨a, h1, rfl, rfl⟩, k⟩ := h
    obtain ⟨va, rfl, ra⟩ := rps1 r
    refine ⟨_, wSs_ok, ?_⟩
    exact ws_ret (je_toS (n := 2 * a) je_str (je_mulI je_int (je_var 0 rfl ra) (by decide)) (by rw [six_len]; decide) (by omega)) fun v2 H3 s3 r3 => k v2 H3 s3 r3
theorem lets_six (r : Nat) : lets r = enc (sixW.take (2 * r)) := by
  unfold lets
  rw [enc_six, enc_take]
abbrev s_lim : Stmt := topS 87
theorem sc_lim : FnScope ["_law_action_here", "_law_point", "_law_word_here", "_law_letter", "_law_images"] ["_law_action_here", "_law_point", "_law_word_here"] (defScope s_lim) := ⟨rfl, rfl, rfl, by decide +kernel, rfl, by decide +kernel, by decide +kernel⟩
theorem ok_lim (T : Txt K mg) : FnOk P w K mg base CX0 1 T.law_image.f T.law_image.fd ["_law_action_here", "_law_point", "_law_word_here"] (spD fi_imo) := by
  refine T.law_image.F.ok sc_lim (fun vs H Q E h => ?_) (fun cdv A outer s H vs Q E hr h => ?_)
  · obtain ⟨ds, d, r, ⟨act, n, p, x, _, _, _, rfl, rfl⟩, _⟩ := h
    exact rps_len r rfl
  · obtain ⟨ds, d, r, ⟨act, n, p, u, hA, hp, hu, rfl, rfl⟩, k⟩ := h
    obtain ⟨va, vp, vu, rfl, ra, rp, ru⟩ := rps3 r
    refine ⟨_, wSs_ok, ?_⟩
    refine ws_forW (w := u) (je_var 2 rfl ru) (pg_name (i := 3) sc_lim.nd rfl (.inl rfl)) (fun i σ' H' => ∃ y z z2, σ' = [some va, some y, some vu, z, z2] ∧ Same H H' ∧ Rp H' (.i (imgs act p (u.take i) : Int)) y) (fun H2 s2 => ⟨vp, none, none, rfl, s2, rp.mono s2⟩) ?_ ?_
    · rintro i x σ' H' hx ht ⟨y, z, z2, rfl, s2, r2⟩
      show wSs _ _ _ [some va, some y, some vu, some (V.str (enc [x])), z2] H'
      have hxr := hu x (List.mem_of_getElem? hx)
      have hrow : act[x.1.val]? = some act[x.1.val] := List.getElem?_eq_getElem hxr
      generalize act[x.1.val] = row at hrow
      have hP := hA row (List.mem_of_getElem? hrow)
      have hix : atI (act.map D.r) ((x.1.val : Nat) : Int) = some (.r row) := atI_nat (by rw [List.getElem?_map, hrow] <;> rfl)
      obtain ⟨more, hocc⟩ := occ_abc x.1
      have hpi := imgs_lt hA (u.take i) hp
      generalize hpt : imgs act p (u.take i) = pt at r2 hpi
      refine ws_set 4 sc_lim.nd (je_ixT (ds := act.map D.r) (d := .r row) (je_var 0 rfl (ra.mono s2)) (je_sindex je_str (JE.of (je_lower (je_var (d := wD [x]) 3 rfl rfl) (one_len x)) (congrArg D.s (low_enc x))) hocc) hix) fun vr H1 s1 r1 => ?_
      have him : img act pt x = if x.2 then row.idxOf pt else row.getD pt 0 := by unfold img; rw [hrow]
      refine ws_set 1 sc_lim.nd (d := .i (img act pt x : Int)) (je_if (k := x.2) (JE.test (JE.of (je_isupper (je_var (d := wD [x]) 3 rfl rfl)) (congrArg D.b (isup_enc x)))) (fun hk => ?_) (fun hk => ?_)) fun v3 H3 s3 r3 => ws_nil ⟨v3, _, _, rfl, (s2.trans s1).trans s3, ?_⟩
      · rw [him, if_pos hk]
        exact je_rowIx (je_var 4 rfl r1) (je_var 1 rfl (r2.mono s1)) (hP.mem hpi)
      · have hlt : pt < row.length := by rw [hP.len]; exact hpi
        rw [him, if_neg (by rw [hk]; decide), List.getD_eq_getElem?_getD, List.getElem?_eq_getElem hlt]
        exact je_ixR (je_var 4 rfl r1) (je_var 1 rfl (r2.mono s1)) (List.getElem?_eq_getElem hlt)
      · rw [ht, imgs_app, hpt]
        exact r3
    · rintro σ' H' ⟨y, z, z2, rfl, s2, r2⟩
      rw [show u.take u.length = u from List.take_length] at r2
      exact ws_ret (je_var 1 rfl r2) fun v2 H3 s3 r3 => k v2 H3 (s2.trans s3) r3
end
end FW
/-! the law's draws -/
namespace FW
open PySem L2
section
variable {X : Cx} {a b e o elt tg : Expr} {es : List Expr} {rest body : List Stmt} {σ : L2.St} {H : Hp} {pos p p2 p3 apos : Pos} {Ds : Ends} {g : TG} {scope : Scope} {Q : VK} {nm : Str}
/-- a list display, item by item -/
theorem we_lst (h : wA X es σ H fun vs H1 => vs.length ≤ 100000 ∧ ∀ q, H1 q = none → Q (.ref q) (upd H1 q (.lst vs))) : wE X (.List es pos) σ H Q :=
  ⟨_, pe_lst wA_ok, wA_mono h fun vs H1 ⟨h1, h2⟩ => ⟨sz5 h1, h2⟩⟩
/-- for .. in range(e), whatever e does -/
theorem ws_forRE (hm : X.mg "range" = none) (hg : PG X tg g) (he : wE X e σ H fun v H1 => ∃ n : Nat, v = .int (n : Int) ∧ n ≤ 10000 ∧ ∃ Pv : Nat → L2.St → Hp → Prop, Pv 0 σ H1 ∧
    (∀ i σ' H', i < n → Pv i σ' H' → g (.int (i : Int)) σ' H' fun σ2 H2 => wSs X body { Ds with nx := Pv (i + 1), ct := Pv (i + 1), bk := wSs X rest Ds } σ2 H2) ∧ ∀ σ' H', Pv n σ' H' → wSs X rest Ds σ' H')
    (hgl : Gl X "range" := by rfl) (hst : starEach [e] X.env = (false, eval e X.env) :: starEach [] X.env := by rfl) (hst2 : starEach [e] X.env = [(false, eval e X.env)] := by rfl)
    (hp : PassesOwn (model X.prog X.w) X.A X.env X.xe := by exact PassesOwn.never) (hc : X.calm = true := by rfl) (hf : ∀ x, foldedSetIterable (.Call (.Name "range" p) [e] [] p3) X.env x = pure x := by intro _; rfl) : wSs X (.For tg (.Call (.Name "range" p) [e] [] p3) body [] pos :: rest) Ds σ H :=
  ws_for (pi_range1 hgl hm (pa_cons wE_ok pa_nil hst) (hs := hst2)) hg (wE_mono he fun v H1 ⟨n, ev, hn, Pv, h0, hs, hd⟩ => ⟨n, by rw [ev], by omega, by omega, for_range (lo := 0) (n := n) Pv h0 (fun i σ' H' hi q => by
    have := hs i σ' H' hi q
    rw [Int.zero_add]
    exact this) hd⟩) hp hc hf
/-- [elt for name in range(e)], whatever they do -/
theorem we_lcRE {j : Nat} {y : Str} (hm : X.mg "range" = none) (nd : X.N.Nodup) (ok : BlkOk X.N X.env.scope scope [(y, j)]) (hg : ∀ (s : Shared) (H : Hp) (C : Addr) (cl : List (Str × Addr)) (fp : List Addr), PG (X.blk s H scope (compEnvC scope cl C X.env) fp) tg (gName j))
    (he : wE X e σ H fun v H1 => ∃ n : Nat, v = .int (n : Int) ∧ n ≤ 10000 ∧ ∀ Dl, H1 Dl = none → ∃ Pv : Nat → Hp → Prop, Pv 0 (upd H1 Dl (.lst [])) ∧
      (∀ i H', i < n → Pv i H' → ∀ (s : Shared) (Hb : Hp) (C : Addr) (cl : List (Str × Addr)) (fp : List Addr), wE (X.blk s Hb scope (compEnvC scope cl C X.env) fp) elt ((wipe σ [j]).set j (some (.int (i : Int)))) H' fun u H4 => ∃ acc, H4 Dl = some (.lst acc) ∧ acc.length < 50000 ∧ Pv (i + 1) (upd H4 Dl (.lst (acc ++ [u])))) ∧ ∀ H', Pv n H' → Q (.ref Dl) H')
    (hgl : Gl X "range" := by rfl) (hst : starEach [e] X.env = (false, eval e X.env) :: starEach [] X.env := by rfl) (hst2 : starEach [e] X.env = [(false, eval e X.env)] := by rfl)
    (hc : X.calm = true := by rfl) (hs : ∀ x, foldedSetIterable (.Call (.Name "range" p) [e] [] p3) X.env x = pure x := by intro _; rfl) : wE X (.ListComp elt [⟨tg, .Call (.Name "range" p) [e] [] p3, [], 0⟩] scope pos) σ H Q :=
  ⟨_, pe_lc (te := wEb X scope elt) (own := [(y, j)]) hc nd (pi_range1 hgl hm (pa_cons wE_ok pa_nil hst) (hs := hst2)) ok hg (fun _ _ _ _ _ => pts_nil) wEb_ok hs, wE_mono he fun v H1 ⟨n, ev, hn, q⟩ => ⟨n, by rw [ev], by omega, by omega, fun Dl hD => by
    obtain ⟨Pv, h0, hs, hd⟩ := q Dl hD
    have e1 : ((n : Int)).toNat = n := by simp
    rw [e1]
    refine lc_it (walk_range (lo := 0) (n := n)) Pv h0 (fun _ _ _ _ => trivial) (fun i x H' H'' hi pv yv => ?_) hd
    obtain ⟨rfl, rfl⟩ := yv
    show _ ∧ _
    refine ⟨hw1 _, ?_⟩
    show wEb X scope elt _ _ _
    intro sh Hb C cl fp
    have e0 : (0 + (i : Int)) = (i : Int) := Int.zero_add _
    show wE _ _ ((wipe σ [j]).set j (some (.int (0 + (i : Int))))) _ _
    rw [e0]
    exact wE_mono (hs i _ hi pv sh Hb C cl fp) fun u H4 ⟨acc, h1, h2, h3⟩ => ⟨acc, h1, sz5' (by omega), h3⟩⟩⟩
/-- "".join of letters -/
theorem we_joinW (h : wE X e σ H fun v H1 => ∃ u : Wd, Rp H1 (.l (letsD u)) v ∧ u.length ≤ 100000 ∧ Q (.str (enc u)) H1) {k : Nat} (hs : starEach [e] X.env = [(false, eval e X.env)] := by rfl) (hbase : attributeBase (.Constant (.str "") k p) "join" X.env (eval (.Constant (.str "") k p) X.env) = eval (.Constant (.str "") k p) X.env := by rfl) (hline : (apos.endLine == pos.line) = true := by rfl) :
    wE X (.Call (.Attribute (.Constant (.str "") k p) "join" apos) [e] [] pos) σ H Q :=
  ⟨_, pe_join wE_ok wE_ok hs hbase hline, ⟨_, pe_str, ⟨⟨"", rfl⟩, wE_mono h fun v H1 ⟨u, ⟨q, vs, ev, hq, hv⟩, hl, k2⟩ => by
    rw [lets_strs] at hv
    refine ⟨"", q, (u.map fun x => [x]).map enc, rfl, by rw [ev], .inl (SqL.of (by rw [← hv.strs]; exact hq)), by rw [len_ones, nil_len]; omega, ?_⟩
    rw [enc_nil', join_enc, flat_one]
    exact k2⟩⟩⟩
/-- z[e], whatever e does -/
theorem we_ixS {z : Str} (ha : JE X a σ H (.s z)) (hz : z.length ≤ 100000) (hb : ∀ H1, Same H H1 → wE X b σ H1 fun v H2 => ∃ (i : Nat) (c : Nat), v = .int (i : Int) ∧ z.cps.toList[i]? = some c ∧ Q (.str ⟨#[c]⟩) H2) (hs : PlainIx b := by exact fun _ _ => rfl) : wE X (.Subscript a b pos) σ H Q :=
  ⟨_, pe_ix ix_str wE_ok wE_ok hs, ha H (Same.refl _) _ fun x H1 s1 rx => wE_mono (hb H1 s1) fun v H2 ⟨i, c, ev, hc, q⟩ => ⟨z, i, c, rx, ev, sz5 hz, atI_nat hc, q⟩⟩
end
theorem sqL_mono {K : PySem.W.Frag} {H H' : Hp} {a : Addr} {xs : List V} (h : SqL K H a xs) (s : Same H H') : SqL K H' a xs := by
  rcases h with (h | ⟨o, h⟩) | h
  · exact .inl (.inl (s _ _ h))
  · exact .inl (.inr ⟨o, s _ _ h⟩)
  · exact .inr h
section
variable {P : Program} {w : World} {K : PySem.W.Frag} {mg : Str → Option Value} {base : Heap}
def spStream (K : PySem.W.Frag) : Sp := fun vs H Q _ => ∃ (a : Addr) (ns : List Int), vs = [.ref a] ∧ SqL K H a (ns.map V.int) ∧ ∀ p l H', Same H H' → H p = none → H l = none → StmAt H' p l → Q (.ref p) H'
abbrev s_str : Stmt := topS 70
theorem sc_str : FnScope ["_law_script"] ["_law_script"] (defScope s_str) := ⟨rfl, rfl, rfl, by decide +kernel, rfl, by decide +kernel, by decide +kernel⟩
theorem ok_str (T : Txt K mg) : FnOk P w K mg base CX0 1 T.law_stream.f T.law_stream.fd ["_law_script"] (spStream K) := by
  refine T.law_stream.F.ok sc_str (fun vs H Q E h => ?_) (fun cdv A outer s H vs Q E hr h => ?_)
  · obtain ⟨a, ns, rfl, _⟩ := h
    rfl
  obtain ⟨a, ns, rfl, hS, k⟩ := h
  refine ⟨_, wSs_ok, ?_⟩
  refine ws_retE (we_lst (wa_cons (wE_by (pe_callTy call_list_of rfl T.b_list (by decide +kernel) (pa_cons wE_ok pa_nil rfl) (by decide) (by decide) rfl rfl) ?_)))
  refine JV.go (jv_var 0) fun H1 s1 => ⟨a, _, rfl, .inl (sqL_mono hS s1), fun l hl => ?_⟩
  refine wa_cons (JE.go (je_int (i := 0)) fun v2 H2 s2 r2 => wa_cons (JE.go (je_int (i := 0)) fun v3 H3 s3 r3 => wa_nil ⟨by show 3 ≤ 100000; decide, fun p hp => ?_⟩))
  obtain rfl : v2 = .int 0 := r2
  obtain rfl : v3 = .int 0 := r3
  have hl3 : H3 l = some (.lst (ns.map V.int)) := s3 _ _ (s2 _ _ upd_same)
  have hne : p ≠ l := fun e => by rw [e, hl3] at hp; cases hp
  have s13 : Same H H3 := (((s1.trans (same_new hl)).trans s2).trans s3)
  exact k p l _ (s13.trans (same_new hp)) (Same.free s13 hp) (Same.free s1 hl) ⟨ns, 0, 0, upd_same, by rw [upd_ne (Ne.symm hne)]; exact hl3, hne, Int.le_refl _, Int.le_refl _⟩
end
end FW
/-! _law_word -/
namespace FW
open PySem L2
theorem StmAt.upd {H : Hp} {p l q : Addr} {o : HO} (h : StmAt H p l) (hp : q ≠ p) (hl : q ≠ l) : StmAt (L2.upd H q o) p l := by
  obtain ⟨ns, x, k, h⟩ := h
  exact ⟨ns, x, k, by rw [upd_ne (Ne.symm hp)]; exact h.at_, by rw [upd_ne (Ne.symm hl)]; exact h.scr, h.ne, h.x0, h.k0⟩
theorem StmAt.ne1 {H : Hp} {p l q : Addr} (h : StmAt H p l) (hq : H q = none) : q ≠ p ∧ q ≠ l := by
  obtain ⟨ns, x, k, h⟩ := h
  exact ⟨fun e => (by rw [e, h.at_] at hq; cases hq), fun e => (by rw [e, h.scr] at hq; cases hq)⟩
theorem KeepL.mut {ls : List Addr} {H H' : Hp} {q : Addr} {o : HO} (k : KeepL ls H H') (hq : H q = none) : KeepL ls H (upd H' q o) := fun a u n e => by
  rw [upd_ne (fun z => by rw [z, hq] at e; cases e)]
  exact k a u n e
theorem KeepL.free {p l : Addr} {H H' : Hp} {q : Addr} (k : KeepL [p] H H') (st : StmAt H' p l) (hq : H' q = none) : H q = none := by
  cases e : H q with
  | none => rfl
  | some u =>
    by_cases z : q = p
    · exact absurd z (st.ne1 hq).1
    · rw [k q u (by simpa using z) e] at hq
      cases hq
theorem six_at {r m : Nat} (hr : r ≤ 3) (hm : m < 2 * r) : ∃ x : L, (sixW.take (2 * r))[m]? = some x ∧ x.1.val < r := by
  have h : ∀ (r : Fin 4) (m : Fin 6), m.val < 2 * r.val → ∃ x : L, (sixW.take (2 * r.val))[m.val]? = some x ∧ x.1.val < r.val := by
    intro r m hm
    match r, m with
    | 0, _ => simp at hm
    | 1, 0 => exact ⟨_, rfl, by decide⟩
    | 1, 1 => exact ⟨_, rfl, by decide⟩
    | 1, 2 => exact absurd hm (by decide)
    | 1, 3 => exact absurd hm (by decide)
    | 1, 4 => exact absurd hm (by decide)
    | 1, 5 => exact absurd hm (by decide)
    | 2, 0 => exact ⟨_, rfl, by decide⟩
    | 2, 1 => exact ⟨_, rfl, by decide⟩
    | 2, 2 => exact ⟨_, rfl, by decide⟩
    | 2, 3 => exact ⟨_, rfl, by decide⟩
    | 2, 4 => exact absurd hm (by decide)
    | 2, 5 => exact absurd hm (by decide)
    | 3, 0 => exact ⟨_, rfl, by decide⟩
    | 3, 1 => exact ⟨_, rfl, by decide⟩
    | 3, 2 => exact ⟨_, rfl, by decide⟩
    | 3, 3 => exact ⟨_, rfl, by decide⟩
    | 3, 4 => exact ⟨_, rfl, by decide⟩
    | 3, 5 => exact ⟨_, rfl, by decide⟩
  exact h ⟨r, by omega⟩ ⟨m, by omega⟩ hm
section
variable {P : Program} {w : World} {K : PySem.W.Frag} {mg : Str → Option Value} {base : Heap}
def spWord : Sp := fun vs H Q _ => ∃ (p l : Addr) (r most : Nat), vs = [.ref p, .int (r : Int), .int (most : Int)] ∧ StmAt H p l ∧ 1 ≤ r ∧ r ≤ 3 ∧ most ≤ 100 ∧ ∀ (u : Wd) H', InR r u → u.length ≤ most → KeepL [p] H H' → KeepT H H' → StmAt H' p l → Q (.str (enc u)) H'
abbrev s_wrd : Stmt := topS 77
theorem sc_wrd : FnScope ["_law_stream_here", "_law_rank", "_law_most", "_law_letters_here", "_law_k"] ["_law_stream_here", "_law_rank", "_law_most"] (defScope s_wrd) := ⟨rfl, rfl, rfl, by decide +kernel, rfl, by decide +kernel, by decide +kernel⟩
theorem ok_wrd (T : Txt K mg) : FnOk P w K mg base CX0 2 T.law_word.f T.law_word.fd ["_law_stream_here", "_law_rank", "_law_most"] spWord := by
  refine T.law_word.F.ok sc_wrd (fun vs H Q E h => ?_) (fun cdv A outer s H vs Q E hr h => ?_)
  · obtain ⟨p, l, r, most, rfl, _⟩ := h
    rfl
  obtain ⟨p, l, r, most, rfl, hS, hr1, hr3, hmo, q⟩ := h
  refine ⟨_, wSs_ok, ?_⟩
  have hsl : (sixW.take (2 * r)).length = 2 * r := by rw [List.length_take]; show min (2 * r) 6 = 2 * r; omega
  refine ws_set 3 sc_wrd.nd (d := wD (sixW.take (2 * r))) (JE.of (je_callD T.law_letters (ok_llets T) (hr.mono (by decide)) (ja_cons (je_var 1 rfl (intRp r)) ja_nil) ⟨r, hr3, rfl, rfl⟩) (congrArg D.s (lets_six r))) fun v1 H1 s1 r1 => ?_
  obtain rfl : v1 = .str (enc (sixW.take (2 * r))) := r1
  refine ws_retE (we_joinW (we_lcRE (j := 4) (y := "_law_k") T.b_range sc_wrd.nd (blkOk_by (N := ["_law_stream_here", "_law_rank", "_law_most", "_law_letters_here", "_law_k"]) (sc := defScope s_wrd) (by decide +kernel)) (fun _ _ _ _ _ => pg_name (i := 4) sc_wrd.nd rfl (.inl rfl))
    (we_next (n := most + 1) T hr (by decide) (jv_var 0) (hS.mono s1) (JE.of (je_addI (je_var 2 rfl (intRp most)) je_int) rfl) (by omega) (by omega) fun m H2 hm k2 t2 st2 => ⟨m, rfl, by omega, fun Dl hD => ?_⟩)))
  have nD := st2.ne1 hD
  refine ⟨fun i H' => ∃ (u : Wd) (us : List V), H' Dl = some (.lst us) ∧ Rps H' (letsD u) us ∧ InR r u ∧ u.length = i ∧ KeepL [p] H2 H' ∧ KeepT H2 H' ∧ StmAt H' p l, ⟨[], [], upd_same, rfl, fun x hx => by (cases hx), rfl, KeepL.mut (fun _ _ _ e => e) hD, Same.keepT (same_new hD), st2.upd nD.1 nD.2⟩, ?_, ?_⟩
  · rintro i H3 hi ⟨u, us, h3, r3, hin, hul, k3, t3, st3⟩ sh Hb C cl fp
    refine we_ixS (z := enc (sixW.take (2 * r))) (je_var 3 rfl rfl) (by rw [enc_len, hsl]; omega) fun H4 s4 => ?_
    refine we_next (n := 2 * r) T hr (by decide) (jv_var 0) (st3.mono s4) (JE.of (je_lenS T.b_len (je_var (d := wD (sixW.take (2 * r))) 3 rfl rfl) (by rw [enc_len, hsl]; omega)) (by rw [enc_len, hsl])) (by omega) (by omega) fun m2 H5 hm2 k5 t5 st5 => ?_
    obtain ⟨x, hx, hxr⟩ := six_at hr3 hm2
    refine ⟨m2, code x, rfl, by rw [enc_list, List.getElem?_map, hx] <;> rfl, us, k5 _ _ (by simpa using nD.1) (s4 _ _ h3), by rw [r3.len]; simp [letsD]; omega, u ++ [x], us ++ [.str (enc [x])], upd_same, ?_, fun y hy => ?_, by simp [hul], ?_, ?_, st5.upd nD.1 nD.2⟩
    · have t6 : KeepT H5 (upd H5 Dl (.lst (us ++ [.str (enc [x])]))) := keepT_lst (k5 _ _ (by simpa using nD.1) (s4 _ _ h3))
      have e : letsD (u ++ [x]) = letsD u ++ [wD [x]] := by simp [letsD]
      rw [e]
      refine Rps.app ((r3.mono s4).imm (t5.trans t6) (imms_lets _)) (.cons rfl rfl)
    · rcases List.mem_append.mp hy with hy | hy
      · exact hin y hy
      · rw [List.mem_singleton.mp hy]
        exact hxr
    · exact KeepL.mut ((k3.trans (same_keepL s4 _)).trans k5) hD
    · exact ((t3.trans (Same.keepT s4)).trans t5).trans (keepT_lst (k5 _ _ (by simpa using nD.1) (s4 _ _ h3)))
  · rintro H3 ⟨u, us, h3, r3, hin, hul, k3, t3, st3⟩
    exact ⟨u, ⟨Dl, us, rfl, h3, r3⟩, by omega, q u H3 hin (by omega) (((same_keepL s1 _).trans k2).trans k3) (((Same.keepT s1).trans t2).trans t3) st3⟩
section
variable {X : Cx} {o e1 e2 : Expr} {σ : L2.St} {H : Hp} {pos pn : Pos} {p l : Addr} {r most k : Nat} {Q : VK}
theorem we_word (T : Txt X.K X.mg) (hr : Room k X.A) (hk : 2 ≤ k) (ho : JV X o σ H (.ref p)) (hS : StmAt H p l) (h1 : JE X e1 σ H (.i (r : Int))) (h2 : JE X e2 σ H (.i (most : Int))) (hr1 : 1 ≤ r) (hr3 : r ≤ 3) (hm : most ≤ 100) (q : ∀ (u : Wd) H', InR r u → u.length ≤ most → KeepL [p] H H' → KeepT H H' → StmAt H' p l → Q (.str (enc u)) H')
    (hg : Gl X "_law_word" := by rfl) (hs : starEach [o, e1, e2] X.env = (false, eval o X.env) :: starEach [e1, e2] X.env := by rfl) (hs2 : starEach [e1, e2] X.env = (false, eval e1 X.env) :: starEach [e2] X.env := by rfl) (hs3 : starEach [e2] X.env = (false, eval e2 X.env) :: starEach [] X.env := by rfl) (hpl : (backTo pos (starEach [e1, e2] X.env)).any (·.1) = false := by rfl) : wE X (.Call (.Name "_law_word" pn) [o, e1, e2] [] pos) σ H Q :=
  ⟨_, pe_call (ok_wrd (base := X.base) (P := X.prog) (w := X.w) T) (hr.mono hk) hg T.law_word.m T.law_word.F.kp T.law_word.b .nil pass0 (pa_cons wE_ok (pa_cons wE_ok (pa_cons wE_ok pa_nil hs3) hs2) hs) (by decide) hs hpl, ho H (Same.refl _) _ fun H2 s2 => h1 H2 s2 _ fun v H3 s3 r3 => h2 H3 (s2.trans s3) _ fun v2 H4 s4 r4 => by
    obtain rfl : v = .int (r : Int) := r3
    obtain rfl : v2 = .int (most : Int) := r4
    have s24 := (s2.trans s3).trans s4
    exact ⟨p, l, r, most, rfl, hS.mono s24, hr1, hr3, hm, fun u H' hi hl kl kt st => q u H' hi hl ((same_keepL s24 _).trans kl) ((Same.keepT s24).trans kt) st⟩⟩
end
end
end FW
/-! _law_given -/
namespace FW
open PySem L2
section
variable {X : Cx} {a b c e o : Expr} {sts body el rest : List Stmt} {σ : L2.St} {H : Hp} {pos : Pos} {Ds : Ends} {Q : VK} {i : Int}
theorem wSs_mono {D : Ends} (h : wSs X sts D σ H) (h1 : ∀ σ' H', D.nx σ' H' → Ds.nx σ' H') (h2 : ∀ v H', D.rt v H' → Ds.rt v H') (h3 : ∀ σ' H', D.bk σ' H' → Ds.bk σ' H') (h4 : ∀ σ' H', D.ct σ' H' → Ds.ct σ' H') : wSs X sts Ds σ H := by
  obtain ⟨t, ht, q⟩ := h
  refine ⟨fun D' σ H => ∃ D : Ends, t D σ H ∧ (∀ σ' H', D.nx σ' H' → D'.nx σ' H') ∧ (∀ v H', D.rt v H' → D'.rt v H') ∧ (∀ σ' H', D.bk σ' H' → D'.bk σ' H') ∧ ∀ σ' H', D.ct σ' H' → D'.ct σ' H', ⟨fun pins s σ H D' I ⟨D, h', m1, m2, m3, m4⟩ => thn (ht.run pins s σ H D I h') fun f s' hq => ?_⟩, D, q, h1, h2, h3, h4⟩
  cases f with
  | next => obtain ⟨σ', H', I', q'⟩ := hq; exact ⟨σ', H', I', m1 _ _ q'⟩
  | brk => obtain ⟨σ', H', I', q'⟩ := hq; exact ⟨σ', H', I', m3 _ _ q'⟩
  | cont => obtain ⟨σ', H', I', q'⟩ := hq; exact ⟨σ', H', I', m4 _ _ q'⟩
  | ret u => obtain ⟨v, σ', H', I', r', q'⟩ := hq; exact ⟨v, σ', H', I', r', m2 _ _ q'⟩
/-- an if whose ways meet again at J -/
theorem ws_ifJ {k : Bool} (J : L2.St → Hp → Prop) (h : JT X c σ H k) (h1 : k = true → ∀ H1, Same H H1 → wSs X body { Ds with nx := J } σ H1) (h2 : k = false → ∀ H1, Same H H1 → wSs X el { Ds with nx := J } σ H1) (h3 : ∀ σ' H', J σ' H' → wSs X rest Ds σ' H') : wSs X (.If c body el pos :: rest) Ds σ H :=
  ws_if h (fun q H1 s => wSs_mono (h1 q H1 s) h3 (fun _ _ z => z) (fun _ _ z => z) fun _ _ z => z) fun q H1 s => wSs_mono (h2 q H1 s) h3 (fun _ _ z => z) (fun _ _ z => z) fun _ _ z => z
/-- word * 2 -/
theorem je_twice {u : Wd} (ha : JE X a σ H (wD u)) (hb : JE X b σ H (.i 2)) (hl : u.length ≤ 1000) : JE X (.BinOp a .Mult b pos) σ H (wD (u ++ u)) :=
  je_op op_repS ha hb fun H2 x y Q _ rx ry k => ⟨enc u, 2, rx, ry, by decide, by decide, by rw [enc_len]; exact hl, k _ _ (Same.refl _) (by
    show V.str _ = V.str (enc (u ++ u))
    congr 1
    rw [← enc_app]
    apply str_ext
    show ((List.replicate 2 (enc u).cps).foldl (· ++ ·) #[]).toList = _
    show ((#[] ++ (enc u).cps) ++ (enc u).cps).toList = ((enc u).cps ++ (enc u).cps).toList
    simp)⟩
/-- word[:n] -/
theorem je_toW {hi : Expr} {p2 : Pos} {u : Wd} {n : Nat} (ha : JE X a σ H (wD u)) (hu : JE X hi σ H (.i (n : Int))) (hz : u.length ≤ 1000) : JE X (.Subscript a (.Slice none (some hi) none p2) pos) σ H (wD (u.take n)) :=
  JE.of (je_toS (n := n) ha hu (by rw [enc_len]; omega) rfl) (congrArg D.s (enc_take u n))
end
section
variable {P : Program} {w : World} {K : PySem.W.Frag} {mg : Str → Option Value} {base : Heap}
theorem InR.take {r : Nat} {u : Wd} (h : InR r u) (n : Nat) : InR r (u.take n) := fun x hx => h x (List.mem_of_mem_take hx)
def spGiven : Sp := fun vs H Q _ => ∃ (p l : Addr) (r : Nat), vs = [.ref p, .int (r : Int)] ∧ StmAt H p l ∧ 1 ≤ r ∧ r ≤ 3 ∧ ∀ (gs : List Wd) v H', gs.length ≤ 3 → (∀ g ∈ gs, InR r g ∧ g.length ≤ 8) → KeepL [p] H H' → KeepT H H' → StmAt H' p l → Rp H' (.t (gs.map wD)) v → Q v H'
abbrev s_giv : Stmt := topS 79
theorem sc_giv : FnScope ["_law_stream_here", "_law_rank", "_law_given_here", "_law_k", "_law_word_here", "_law_pick"] ["_law_stream_here", "_law_rank"] (defScope s_giv) := ⟨rfl, rfl, rfl, by decide +kernel, rfl, by decide +kernel, by decide +kernel⟩
theorem ok_giv (T : Txt K mg) : FnOk P w K mg base CX0 3 T.law_given.f T.law_given.fd ["_law_stream_here", "_law_rank"] spGiven := by
  refine T.law_given.F.ok sc_giv (fun vs H Q E h => ?_) (fun cdv A outer s H vs Q E hr h => ?_)
  · obtain ⟨p, l, r, rfl, _⟩ := h
    rfl
  obtain ⟨p, l, r, rfl, hS, hr1, hr3, q⟩ := h
  refine ⟨_, wSs_ok, ?_⟩
  refine ws_setF 2 sc_giv.nd (jf_lst ja_nil) fun pg us H1 zg s1 h1 r1 => ?_
  have nG := hS.ne1 zg
  refine ws_forRE T.b_range (pg_name (i := 3) sc_giv.nd rfl (.inl rfl)) (we_next (n := 4) T hr (by decide) (jv_var 0) (hS.mono s1) je_int (by decide) (by decide) fun m H2 hm k2 t2 st2 => ⟨m, rfl, by omega, ?_⟩)
  have g2 : H2 pg = some (.lst us) := k2 _ _ (by simpa using nG.1) h1
  refine ⟨fun i σ' H' => ∃ (gs : List Wd) (us : List V) (x3 x4 x5 : Option V), σ' = [some (.ref p), some (.int (r : Int)), some (.ref pg), x3, x4, x5] ∧ KeepL [p] H H' ∧ KeepT H H' ∧ StmAt H' p l ∧ H' pg = some (.lst us) ∧ Rps H' (gs.map wD) us ∧ gs.length = i ∧ ∀ g ∈ gs, InR r g ∧ g.length ≤ 8,
    ⟨[], us, none, none, none, rfl, (same_keepL s1 _).trans k2, (Same.keepT s1).trans t2, st2, g2, r1.imm t2 rfl, rfl, fun g hg => by cases hg⟩, ?_, ?_⟩
  · rintro i σ' H3 hi ⟨gs, us3, x3, x4, x5, rfl, k3, t3, st3, g3, r3, hgl, hgs⟩
    show wSs _ _ _ [some (.ref p), some (.int (r : Int)), some (.ref pg), some (.int (i : Int)), x4, x5] H3
    refine ws_setE 4 sc_giv.nd (we_word (r := r) (most := 5) T hr (by decide) (jv_var 0) st3 (je_var 1 rfl (intRp r)) je_int hr1 hr3 (by decide) fun u H4 hu hul k4 t4 st4 => ?_)
    refine ws_setE 5 sc_giv.nd (we_next (n := 4) T hr (by decide) (jv_var 0) st4 je_int (by decide) (by decide) fun pk H5 hpk k5 t5 st5 => ?_)
    have npg : pg ∉ [p] := by simpa using nG.1
    have g5 : H5 pg = some (.lst us3) := k5 _ _ npg (k4 _ _ npg g3)
    have r5 : Rps H5 (gs.map wD) us3 := (r3.imm (t4.trans t5) (imms_ws _))
    have k35 : KeepL [p] H H5 := (k3.trans k4).trans k5
    have t35 : KeepT H H5 := (t3.trans t4).trans t5
    clear g3 r3 st3 k3 t3 k4 t4 st4 k5 t5
    refine ws_ifJ (k := decide ((pk : Int) = 1)) (fun σ' H' => ∃ u2 : Wd, σ' = [some (.ref p), some (.int (r : Int)), some (.ref pg), some (.int (i : Int)), some (.str (enc u2)), some (.int (pk : Int))] ∧ InR r u2 ∧ u2.length ≤ 6 ∧ Same H5 H') (jt_eqI (je_var 5 rfl (intRp pk)) je_int) (fun hk H6 s6 => ?_) (fun hk H6 s6 => ws_nil ⟨u, rfl, hu, by omega, s6⟩) ?_
    · have hu3 : (u.take 3).length ≤ 3 := by rw [List.length_take]; omega
      refine ws_set 4 sc_giv.nd (d := wD (u.take 3 ++ u.take 3)) (je_twice (je_toW (n := 3) (je_var (d := wD u) 4 rfl rfl) je_int (by omega)) je_int (by omega)) fun v7 H7 s7 r7 => ws_nil ⟨_, by rw [show v7 = .str (enc (u.take 3 ++ u.take 3)) from r7] <;> rfl, InR.app (hu.take 3) (hu.take 3), by rw [List.length_append]; omega, s6.trans s7⟩
    rintro σ' H6 ⟨u2, rfl, hu2, hul2, s6⟩
    have r6 : Rps H6 (gs.map wD) us3 := r5.mono s6
    have rg6 : Rp H6 (.l (gs.map wD)) (.ref pg) := ⟨pg, us3, rfl, s6 _ _ g5, r6⟩
    refine ws_ifJ (k := decide ((pk : Int) = 2) && !(gs.map wD).isEmpty) (fun σ' H' => ∃ u3 : Wd, σ' = [some (.ref p), some (.int (r : Int)), some (.ref pg), some (.int (i : Int)), some (.str (enc u3)), some (.int (pk : Int))] ∧ InR r u3 ∧ u3.length ≤ 8 ∧ Same H6 H') (jt_and2 (jt_eqI (je_var 5 rfl (intRp pk)) je_int) (fun _ => jt_truL (je_var 2 rfl rg6)) rfl) (fun hk H7 s7 => ?_) (fun hk H7 s7 => ws_nil ⟨u2, rfl, hu2, by omega, s7⟩) ?_
    · rw [Bool.and_eq_true] at hk
      have hne : gs ≠ [] := fun e => by
        rw [e] at hk
        exact absurd hk.2 (by decide)
      obtain ⟨gs0, g, rfl⟩ : ∃ gs0 g, gs = gs0 ++ [g] := by
        rcases List.eq_nil_or_concat gs with h | ⟨a, b, h⟩
        · exact absurd h hne
        · exact ⟨a, b, by rw [h, List.concat_eq_append]⟩
      obtain ⟨hg1, hg2⟩ := hgs g (by simp)
      have hat : atI ((gs0 ++ [g]).map wD) (-1) = some (wD g) := by
        rw [List.map_append]
        exact at_last _ _
      have rg7 := rg6.mono s7
      have l1 : (g.take 3).length ≤ 3 := by rw [List.length_take]; omega
      have l2 : (u2.take 3).length ≤ 3 := by rw [List.length_take]; omega
      have l3 : (winv (g.take 2)).length ≤ 2 := by
        rw [show (winv (g.take 2)).length = (g.take 2).length from ginv_len _, List.length_take]
        omega
      refine ws_set 4 sc_giv.nd (d := wD (g.take 3 ++ u2.take 3 ++ winv (g.take 2))) (je_addW (je_addW (je_toW (n := 3) (je_ixL (i := -1) (je_var 2 rfl rg7) je_m1 hat) je_int (by omega)) (je_toW (n := 3) (je_var (d := wD u2) 4 rfl rfl) je_int (by omega)) (by omega)) (je_callD T.law_inverse (ok_linv T) (hr.mono (by decide)) (ja_cons (je_toW (n := 2) (je_ixL (i := -1) (je_var 2 rfl rg7) je_m1 hat) je_int (by omega)) ja_nil) ⟨g.take 2, rfl, by rw [List.length_take]; omega, rfl⟩) (by rw [List.length_append]; omega)) fun v8 H8 s8 r8 => ws_nil ⟨_, by rw [show v8 = .str _ from r8] <;> rfl, InR.app (InR.app (hg1.take 3) (hu2.take 3)) (InR.inv (hg1.take 2)), by rw [List.length_append, List.length_append]; omega, s7.trans s8⟩
    rintro σ' H7 ⟨u3, rfl, hu3, hul3, s7⟩
    have g7 : H7 pg = some (.lst us3) := s7 _ _ (s6 _ _ g5)
    refine ws_app (d := wD u3) (wv_var 2) g7 (je_var 4 rfl rfl) (by rw [r6.len, List.length_map]; omega) fun v8 H8 s8 r8 => ws_nil ?_
    have s58 := (s6.trans s7).trans s8
    have t9 : KeepT H8 (upd H8 pg (.lst (us3 ++ [v8]))) := keepT_lst (s8 _ _ g7)
    refine ⟨gs ++ [u3], us3 ++ [v8], _, _, _, rfl, KeepL.mut (k35.trans (same_keepL s58 _)) zg, (t35.trans (Same.keepT s58)).trans t9, (st5.mono s58).upd nG.1 nG.2, upd_same, ?_, by simp [hgl], fun g hg => ?_⟩
    · rw [List.map_append]
      refine Rps.imm t9 (by rw [← List.map_append]; exact imms_ws _) (Rps.app (r5.mono s58) (.cons r8 rfl))
    · rcases List.mem_append.mp hg with hg | hg
      · exact hgs g hg
      · rw [List.mem_singleton.mp hg]
        exact ⟨hu3, hul3⟩
  · rintro σ' H3 ⟨gs, us3, x3, x4, x5, rfl, k3, t3, st3, g3, r3, hgl, hgs⟩
    exact ws_ret (je_tupleL T.b_tuple (je_var 2 rfl ⟨pg, us3, rfl, g3, r3⟩)) fun v4 H4 s4 r4 => q gs v4 H4 (by omega) hgs (k3.trans (same_keepL s4 _)) (t3.trans (Same.keepT s4)) (st3.mono s4) r4
end
end FW
/-! _law_action -/
namespace FW
open PySem L2
theorem erase_perm {A : Type} : ∀ {l : List A} {m : Nat} {y : A}, l[m]? = some y → (y :: l.eraseIdx m).Perm l
  | [], m, y, h => by simp at h
  | a :: l, 0, y, h => by
    have : a = y := by simpa using h
    subst this
    exact .refl _
  | a :: l, m + 1, y, h => by
    have ih := erase_perm (l := l) (m := m) (y := y) (by simpa using h)
    rw [List.eraseIdx_cons_succ]
    exact (List.Perm.swap a y _).trans (ih.cons a)
theorem natsD_erase (l : List Nat) (m : Nat) : (natsD l).eraseIdx m = natsD (l.eraseIdx m) := by
  unfold natsD
  induction l generalizing m with
  | nil => rfl
  | cons a l ih =>
    cases m with
    | zero => rfl
    | succ m => rw [List.map_cons, List.eraseIdx_cons_succ, List.eraseIdx_cons_succ, List.map_cons, ih]
theorem Rps.erase {H : Hp} : ∀ {ds : List D} {vs : List V} (m : Nat), Rps H ds vs → Rps H (ds.eraseIdx m) (vs.eraseIdx m)
  | [], vs, m, h => by rw [show vs = [] from h]; exact rfl
  | d :: ds, _, 0, ⟨v, w, h1, h2, h3⟩ => by rw [h1]; exact h3
  | d :: ds, _, m + 1, ⟨v, w, h1, h2, h3⟩ => by
    rw [h1, List.eraseIdx_cons_succ, List.eraseIdx_cons_succ]
    exact ⟨v, _, rfl, h2, Rps.erase m h3⟩
section
variable {X : Cx} {e o : Expr} {rest : List Stmt} {σ : L2.St} {H : Hp} {pos apos cpos : Pos} {Ds : Ends} {Q : VK} {l : Addr} {vs0 : List V}
theorem ws_appE (ho : JV X o σ H (.ref l)) (hl : H l = some (.lst vs0)) (h : ∀ H1, Same H H1 → wE X e σ H1 fun v H2 => ∃ vs, H2 l = some (.lst vs) ∧ vs.length < 100000 ∧ wSs X rest Ds σ (upd H2 l (.lst (vs ++ [v]))))
    (hbase : attributeBase o "append" X.env (eval o X.env) = eval o X.env := by rfl)
    (hfew : ((backTo cpos (starEach [e] X.env)).all (fun x => !x.1) && (backToKw cpos (keywordEach [] X.env)).all (fun x => x.1.isSome) && decide ([e].length + ([] : List Keyword).length + (if ([] : List Keyword).isEmpty then 0 else 1) < 30)) = true := by rfl)
    (hline : (apos.endLine == cpos.line) = true := by rfl) (hs : starEach [e] X.env = (false, eval e X.env) :: starEach [] X.env := by rfl) (hplain : (backTo cpos (starEach [] X.env)).any (·.1) = false := by rfl)
    (hsw : swapsWith (.Call (.Attribute o "append" apos) [e] [] cpos) none pos.line X.env = pure false := by rfl) : wSs X (.Expr (.Call (.Attribute o "append" apos) [e] [] cpos) pos :: rest) Ds σ H :=
  ws_exprE ⟨_, pe_bm PySem.F.plainAttrs_list PySem.F.slot_list_append PySem.F.type_list_append mt_append wE_ok (pa_cons wE_ok pa_nil hs) hbase hfew hline hs hplain,
    ho H (Same.refl _) _ fun H2 s2 => ⟨.inl ⟨rfl, _, SqL.of (s2 _ _ hl)⟩, wE_mono (h H2 s2) fun v H3 ⟨vs, h3, hz, k⟩ => ⟨l, vs, v, rfl, rfl, h3, sz5' hz, k⟩⟩⟩ hsw
theorem we_popE (ho : JV X o σ H (.ref l)) (hl : H l = some (.lst vs0)) (h : ∀ H1, Same H H1 → wE X e σ H1 fun v H2 => ∃ vs y, ∃ m : Nat, v = .int (m : Int) ∧ m < 100000 ∧ H2 l = some (.lst vs) ∧ vs[m]? = some y ∧ Q y (upd H2 l (.lst (vs.eraseIdx m)))) (hbase : attributeBase o "pop" X.env (eval o X.env) = eval o X.env := by rfl)
    (hfew : ((backTo cpos (starEach [e] X.env)).all (fun x => !x.1) && (backToKw cpos (keywordEach [] X.env)).all (fun x => x.1.isSome) && decide ([e].length + ([] : List Keyword).length + (if ([] : List Keyword).isEmpty then 0 else 1) < 30)) = true := by rfl)
    (hline : (apos.endLine == cpos.line) = true := by rfl) (hs : starEach [e] X.env = (false, eval e X.env) :: starEach [] X.env := by rfl) (hplain : (backTo cpos (starEach [] X.env)).any (·.1) = false := by rfl) : wE X (.Call (.Attribute o "pop" apos) [e] [] cpos) σ H Q :=
  ⟨_, pe_bm PySem.F.plainAttrs_list PySem.F.slot_list_pop PySem.F.type_list_pop mt_popAt wE_ok (pa_cons wE_ok pa_nil hs) hbase hfew hline hs hplain, ho H (Same.refl _) _ fun H2 s2 => ⟨.inl ⟨rfl, _, SqL.of (s2 _ _ hl)⟩, wE_mono (h H2 s2) fun v H3 ⟨vs, y, m, ev, hm, h3, hy, q⟩ => by
    have hml := (List.getElem?_eq_some_iff.mp hy).1
    refine ⟨l, vs, (m : Int), m, y, rfl, by rw [ev], h3, by omega, by omega, ?_, hy, q⟩
    rw [seqIndex_of (by omega) (by omega)]
    simp⟩⟩
/-- i + e, whatever e does -/
theorem we_addI {a b : Expr} {i : Int} (ha : JE X a σ H (.i i)) (hb : ∀ H1, Same H H1 → wE X b σ H1 fun v H2 => ∃ j : Int, v = .int j ∧ Q (.int (i + j)) H2) : wE X (.BinOp a .Add b pos) σ H Q :=
  ⟨_, pe_op op_add wE_ok wE_ok, ha H (Same.refl _) _ fun x H1 s1 rx => wE_mono (hb H1 s1) fun v H2 ⟨j, ev, q⟩ => ⟨i, j, rx, ev, q⟩⟩
end
section
variable {P : Program} {w : World} {K : PySem.W.Frag} {mg : Str → Option Value} {base : Heap}
theorem imms_rows (a : Act) : imms (a.map D.r) = true := imms_map (fun _ => rfl) a
def spAct : Sp := fun vs H Q _ => ∃ (p l : Addr) (r : Nat), vs = [.ref p, .int (r : Int)] ∧ StmAt H p l ∧ r ≤ 3 ∧ ∀ (act : Act) (n : Nat) v H', ActOk n act → act.length = r → 1 ≤ n → n ≤ 4 → KeepL [p] H H' → KeepT H H' → StmAt H' p l → Rp H' (actD act) v → Q v H'
abbrev s_lact : Stmt := topS 91
theorem sc_lact : FnScope ["_law_stream_here", "_law_rank", "_law_many", "_law_rows", "_law_k", "_law_left", "_law_row", "_law_point"] ["_law_stream_here", "_law_rank"] (defScope s_lact) := ⟨rfl, rfl, rfl, by decide +kernel, rfl, by decide +kernel, by decide +kernel⟩
theorem perm_isPerm {n : Nat} {row : List Nat} (h : row.Perm (List.range n)) : IsPerm n row := ⟨by rw [h.length_eq, List.length_range], h.nodup_iff.mpr List.nodup_range, fun x hx => List.mem_range.mp (h.mem_iff.mp hx)⟩
theorem ok_lact (T : Txt K mg) : FnOk P w K mg base CX0 2 T.law_action.f T.law_action.fd ["_law_stream_here", "_law_rank"] spAct := by
  refine T.law_action.F.ok sc_lact (fun vs H Q E h => ?_) (fun cdv A outer s H vs Q E hr h => ?_)
  · obtain ⟨p, l, r, rfl, _⟩ := h
    rfl
  obtain ⟨p, l, r, rfl, hS, hr3, q⟩ := h
  refine ⟨_, wSs_ok, ?_⟩
  refine ws_setE 2 sc_lact.nd (we_addI (je_int (i := 1)) fun H1 s1 => we_next (n := 4) T hr (by decide) (jv_var 0) (hS.mono s1) je_int (by decide) (by decide) fun m H2 hm k2 t2 st2 => ⟨m, rfl, ?_⟩)
  obtain ⟨n, hn⟩ : ∃ n : Nat, n = 1 + m := ⟨_, rfl⟩
  have en : (1 : Int) + (m : Int) = (n : Int) := by omega
  rw [en]
  have kk2 : KeepL [p] H H2 := (same_keepL s1 _).trans k2
  have tt2 : KeepT H H2 := (Same.keepT s1).trans t2
  refine ws_setF 3 sc_lact.nd (jf_lst ja_nil) fun pw us H3 zw s3 h3 r3 => ?_
  have nW := st2.ne1 zw
  have zwH := kk2.free st2 zw
  have npw : pw ∉ [p] := by simpa using nW.1
  refine ws_forR (n := (r : Int)) T.b_range (je_var 1 rfl (intRp r)) (by omega) (pg_name (i := 4) sc_lact.nd rfl (.inl rfl))
    (fun k σ' H' => ∃ (act : Act) (us : List V) (x4 x5 x6 x7 : Option V), σ' = [some (.ref p), some (.int (r : Int)), some (.int (n : Int)), some (.ref pw), x4, x5, x6, x7] ∧ KeepL [p] H H' ∧ KeepT H H' ∧ StmAt H' p l ∧ H' pw = some (.lst us) ∧ Rps H' (act.map D.r) us ∧ act.length = k ∧ ActOk n act)
    (fun H4 s4 => ⟨[], us, none, none, none, none, rfl, kk2.trans (same_keepL (s3.trans s4) _), tt2.trans (Same.keepT (s3.trans s4)), st2.mono (s3.trans s4), s4 _ _ h3, r3.mono s4, rfl, fun row hr => by cases hr⟩) ?_ ?_
  · rintro k σ' H4 hk ⟨act, us4, x4, x5, x6, x7, rfl, k4, t4, st4, g4, r4, hal, hA⟩
    show wSs _ _ _ [some (.ref p), some (.int (r : Int)), some (.int (n : Int)), some (.ref pw), some (.int (k : Int)), x5, x6, x7] H4
    refine ws_setF 5 sc_lact.nd (je_listRg T.b_list T.b_range (je_var 2 rfl (intRp n)) (by omega)) fun pl ul H5 zl s5 h5 r5 => ?_
    have r5 : Rps H5 (natsD (List.range n)) ul := by rw [natsD_eq]; exact r5
    refine ws_setF 6 sc_lact.nd (jf_lst ja_nil) fun pr ur H6 zr s6 h6 r6 => ?_
    have nL := st4.ne1 zl
    have nR := (st4.mono s5).ne1 zr
    have zlH := k4.free st4 zl
    have zrH := (k4.trans (same_keepL s5 _)).free (st4.mono s5) zr
    have nlr : pl ≠ pr := fun e => by rw [← e, h5] at zr; cases zr
    have nlw : pl ≠ pw := fun e => by rw [e, g4] at zl; cases zl
    have nrw : pr ≠ pw := fun e => by rw [e, s5 _ _ g4] at zr; cases zr
    have s46 := s5.trans s6
    refine ws_forR (n := (n : Int)) T.b_range (je_var 2 rfl (intRp n)) (by omega) (pg_name (i := 7) sc_lact.nd rfl (.inl rfl))
      (fun i σ' H' => ∃ (lf rw : List Nat) (x7 : Option V), σ' = [some (.ref p), some (.int (r : Int)), some (.int (n : Int)), some (.ref pw), some (.int (k : Int)), some (.ref pl), some (.ref pr), x7] ∧ KeepL [p] H H' ∧ KeepT H H' ∧ StmAt H' p l ∧ H' pw = some (.lst us4) ∧ Rps H' (act.map D.r) us4 ∧ LstAt H' pl (natsD lf) ∧ LstAt H' pr (natsD rw) ∧ (rw ++ lf).Perm (List.range n) ∧ rw.length = i)
      (fun H7 s7 => ⟨List.range n, [], _, rfl, k4.trans (same_keepL (s46.trans s7) _), t4.trans (Same.keepT (s46.trans s7)), st4.mono (s46.trans s7), (s46.trans s7) _ _ g4, r4.mono (s46.trans s7), ⟨ul, (s6.trans s7) _ _ h5, r5.mono (s6.trans s7)⟩, ⟨ur, s7 _ _ h6, r6.mono s7⟩, .refl _, rfl⟩) ?_ ?_
    · rintro i σ' H7 hi ⟨lf, rw, x7, rfl, k7, t7, st7, g7, r7, ll7, lr7, hperm, hrl⟩
      have hi : i < n := by simpa using hi
      show wSs _ _ _ [some (.ref p), some (.int (r : Int)), some (.int (n : Int)), some (.ref pw), some (.int (k : Int)), some (.ref pl), some (.ref pr), some (.int (i : Int))] H7
      have hlen : rw.length + lf.length = n := by
        have := hperm.length_eq
        rw [List.length_append, List.length_range] at this
        exact this
      obtain ⟨vr, hr7, rr7⟩ := lr7
      obtain ⟨vl, hl7, rl7⟩ := ll7
      refine ws_appE (jv_var 6) hr7 fun H8 s8 => we_popE (jv_var 5) (s8 _ _ hl7) fun H9 s9 => we_next (n := lf.length) T hr (by decide) (jv_var 0) (st7.mono (s8.trans s9)) (JE.of (je_lenL T.b_len (je_var 5 rfl ⟨pl, vl, rfl, (s8.trans s9) _ _ hl7, rl7.mono (s8.trans s9)⟩)) (by rw [nats_len])) (by omega) (by omega) fun m H10 hm k10 t10 st10 => ?_
      have s79 := s8.trans s9
      have npl : pl ∉ [p] := by simpa using nL.1
      have npr : pr ∉ [p] := by simpa using nR.1
      have h10l : H10 pl = some (.lst vl) := k10 _ _ npl (s79 _ _ hl7)
      have h10r : H10 pr = some (.lst vr) := k10 _ _ npr (s79 _ _ hr7)
      have h10w : H10 pw = some (.lst us4) := k10 _ _ npw (s79 _ _ g7)
      have r10l : Rps H10 (natsD lf) vl := (rl7.mono s79).imm t10 (imms_nats _)
      have r10r : Rps H10 (natsD rw) vr := (rr7.mono s79).imm t10 (imms_nats _)
      have r10w : Rps H10 (act.map D.r) us4 := (r7.mono s79).imm t10 (imms_rows _)
      have hlm : lf[m]? = some lf[m] := List.getElem?_eq_getElem hm
      generalize lf[m] = y at hlm
      have hvm : vl[m]? = some (.int (y : Int)) := by
        rw [rps_nats r10l, List.getElem?_map, hlm] <;> rfl
      have t11 : KeepT H10 (upd H10 pl (.lst (vl.eraseIdx m))) := keepT_lst h10l
      refine ⟨vl, .int (y : Int), m, rfl, by omega, h10l, hvm, vr, by rw [upd_ne (Ne.symm nlr)]; exact h10r, by rw [r10r.len, nats_len]; omega, ws_nil ?_⟩
      have h11r : upd H10 pl (.lst (vl.eraseIdx m)) pr = some (.lst vr) := by rw [upd_ne (Ne.symm nlr)]; exact h10r
      have t12 : KeepT (upd H10 pl (.lst (vl.eraseIdx m))) (upd (upd H10 pl (.lst (vl.eraseIdx m))) pr (.lst (vr ++ [.int (y : Int)]))) := keepT_lst h11r
      have t1012 := t11.trans t12
      refine ⟨lf.eraseIdx m, rw ++ [y], _, rfl, KeepL.mut (KeepL.mut ((k7.trans (same_keepL s79 _)).trans k10) zlH) zrH, ((t7.trans (Same.keepT s79)).trans t10).trans t1012, (st10.upd nL.1 nL.2).upd nR.1 nR.2, ?_, r10w.imm t1012 (imms_rows _), ⟨vl.eraseIdx m, ?_, ?_⟩, ⟨vr ++ [.int (y : Int)], upd_same, ?_⟩, ?_, by simp [hrl]⟩
      · rw [upd_ne (Ne.symm nrw), upd_ne (Ne.symm nlw)]
        exact h10w
      · rw [upd_ne nlr]
        exact upd_same
      · rw [← natsD_erase]
        exact (Rps.erase m r10l).imm t1012 (by rw [natsD_erase]; exact imms_nats _)
      · rw [← nats_app]
        exact Rps.app (r10r.imm t1012 (imms_nats _)) (.cons rfl rfl)
      · have h1 := erase_perm hlm
        have h2 : (rw ++ [y] ++ lf.eraseIdx m).Perm (rw ++ lf) := by
          rw [List.append_assoc]
          exact h1.append_left rw
        exact h2.trans hperm
    · rintro σ' H7 ⟨lf, rw, x7, rfl, k7, t7, st7, g7, r7, ll7, lr7, hperm, hrl⟩
      have hrl : rw.length = n := by rw [hrl]; simp
      have hlen : rw.length + lf.length = n := by
        have := hperm.length_eq
        rw [List.length_append, List.length_range] at this
        exact this
      have hlf : lf = [] := List.length_eq_zero_iff.mp (by omega)
      rw [hlf, List.append_nil] at hperm
      refine ws_app (d := .r rw) (wv_var 3) g7 (je_tupleR T.b_tuple (je_var 6 rfl lr7.rp)) (by rw [r7.len, List.length_map]; omega) fun v8 H8 s8 r8 => ws_nil ?_
      have t9 : KeepT H8 (upd H8 pw (.lst (us4 ++ [v8]))) := keepT_lst (s8 _ _ g7)
      refine ⟨act ++ [rw], us4 ++ [v8], _, _, _, _, rfl, KeepL.mut (k7.trans (same_keepL s8 _)) zwH, (t7.trans (Same.keepT s8)).trans t9, (st7.mono s8).upd nW.1 nW.2, upd_same, ?_, by simp [hal], fun row hrow => ?_⟩
      · rw [List.map_append]
        refine Rps.imm t9 (by rw [← List.map_append]; exact imms_rows _) (Rps.app (r7.mono s8) (.cons r8 rfl))
      · rcases List.mem_append.mp hrow with h | h
        · exact hA row h
        · rw [List.mem_singleton.mp h]
          exact perm_isPerm hperm
  · rintro σ' H4 ⟨act, us4, x4, x5, x6, x7, rfl, k4, t4, st4, g4, r4, hal, hA⟩
    have hal : act.length = r := by rw [hal]; simp
    exact ws_ret (je_tupleL T.b_tuple (je_var 3 rfl ⟨pw, us4, rfl, g4, r4⟩)) fun v5 H5 s5 r5 => q act n v5 H5 hA hal (by omega) (by omega) (k4.trans (same_keepL s5 _)) (t4.trans (Same.keepT s5)) (st4.mono s5) r5
end
end FW
/-! the law -/
namespace FW
open PySem L2
section
variable {X : Cx} {a b c e o e1 e2 : Expr} {body el rest : List Stmt} {σ : L2.St} {H : Hp} {pos pn p2 : Pos} {Ds : Ends} {Q : VK} {ds : List D} {p l : Addr} {r k : Nat} {gs : List Wd} {u : Wd}
theorem JA.mono {es : List Expr} {H' : Hp} (h : JA X es σ H ds) (s : Same H H') : JA X es σ H' ds := fun H1 s1 => h H1 (s.trans s1)
theorem wT_mono {Q Q' : Bool → Hp → Prop} (h : wT X c σ H Q') (m : ∀ k H', Q' k H' → Q k H') : wT X c σ H Q := by
  obtain ⟨t, ht, q⟩ := h
  exact ⟨fun σ H Q => ∃ Q', t σ H Q' ∧ ∀ v H', Q' v H' → Q v H', ⟨fun pins s σ H Q I ⟨Q', h', m'⟩ => thn (ht.run pins s σ H Q' I h') fun u s' ⟨H', I', q'⟩ => ⟨H', I', m' u H' q'⟩⟩, Q', q, m⟩
/-- an if whose test does things, whose ways meet again at J -/
theorem ws_ifJE (J : L2.St → Hp → Prop) (h : wT X c σ H fun k H1 => if k = true then wSs X body { Ds with nx := J } σ H1 else wSs X el { Ds with nx := J } σ H1) (h3 : ∀ σ' H', J σ' H' → wSs X rest Ds σ' H') : wSs X (.If c body el pos :: rest) Ds σ H :=
  ws_ifE (wT_mono h fun k H1 q => by
    cases k with
    | true => exact wSs_mono (show wSs X body { Ds with nx := J } σ H1 from q) h3 (fun _ _ z => z) (fun _ _ z => z) fun _ _ z => z
    | false => exact wSs_mono (show wSs X el { Ds with nx := J } σ H1 from q) h3 (fun _ _ z => z) (fun _ _ z => z) fun _ _ z => z)
/-- e == 1, whatever e does -/
theorem wt_eqE {j : Int} {kk : Nat} {Q : Bool → Hp → Prop} (h : wE X a σ H fun v H1 => ∃ i : Int, v = .int i ∧ Q (decide (i = j)) H1) : wT X (.Compare a [.Eq] [.Constant (.int j) kk p2] pos) σ H Q :=
  ⟨_, pt_cmpR op_eq wE_ok wE_ok (nomark _), wE_mono h fun v H1 ⟨i, ev, q⟩ => ⟨_, pe_int, by
    subst ev
    refine ⟨rfl, decide (i = j), ?_, q⟩
    congr 1
    by_cases z : i = j
    · rw [z]; simp
    · rw [decide_eq_false z, decide_eq_false fun y => z (V.int.inj y)]⟩⟩
/-- t[e], whatever e does -/
theorem we_ixTE (ha : JE X a σ H (.t ds)) (him : imms ds = true) (hb : ∀ H1, Same H H1 → wE X b σ H1 fun v H2 => KeepT H1 H2 ∧ ∃ (i : Nat) (d : D), v = .int (i : Int) ∧ ds[i]? = some d ∧ ∀ v', Rp H2 d v' → Q v' H2) (hs : PlainIx b := by exact fun _ _ => rfl) : wE X (.Subscript a b pos) σ H Q :=
  ⟨_, pe_ix ix_tup wE_ok wE_ok hs, ha H (Same.refl _) _ fun x H1 s1 ⟨q, vs, ex, h1, h2⟩ => wE_mono (hb H1 s1) fun v H2 ⟨kt, i, d, ev, hd, k2⟩ => by
    obtain ⟨v', q1, q2⟩ := (h2.imm kt him).get hd
    exact ⟨q, vs, i, v', ex, ev, SqT.of (kt.1 _ _ h1), atI_nat q1, k2 v' q2⟩⟩
theorem we_given (T : Txt X.K X.mg) (hr : Room k X.A) (hk : 3 ≤ k) (ho : JV X o σ H (.ref p)) (hS : StmAt H p l) (h1 : JE X e1 σ H (.i (r : Int))) (hr1 : 1 ≤ r) (hr3 : r ≤ 3) (q : ∀ (gs : List Wd) v H', gs.length ≤ 3 → (∀ g ∈ gs, InR r g ∧ g.length ≤ 8) → KeepL [p] H H' → KeepT H H' → StmAt H' p l → Rp H' (.t (gs.map wD)) v → Q v H')
    (hg : Gl X "_law_given" := by rfl) (hs : starEach [o, e1] X.env = (false, eval o X.env) :: starEach [e1] X.env := by rfl) (hs2 : starEach [e1] X.env = (false, eval e1 X.env) :: starEach [] X.env := by rfl) (hpl : (backTo pos (starEach [e1] X.env)).any (·.1) = false := by rfl) : wE X (.Call (.Name "_law_given" pn) [o, e1] [] pos) σ H Q :=
  ⟨_, pe_call (ok_giv (base := X.base) (P := X.prog) (w := X.w) T) (hr.mono hk) hg T.law_given.m T.law_given.F.kp T.law_given.b .nil pass0 (pa_cons wE_ok (pa_cons wE_ok pa_nil hs2) hs) (by decide) hs hpl, ho H (Same.refl _) _ fun H2 s2 => h1 H2 s2 _ fun v H3 s3 r3 => by
    obtain rfl : v = .int (r : Int) := r3
    have s24 := s2.trans s3
    exact ⟨p, l, r, rfl, hS.mono s24, hr1, hr3, fun gs v H' hl hg kl kt st rv => q gs v H' hl hg ((same_keepL s24 _).trans kl) ((Same.keepT s24).trans kt) st rv⟩⟩
theorem we_act (T : Txt X.K X.mg) (hr : Room k X.A) (hk : 2 ≤ k) (ho : JV X o σ H (.ref p)) (hS : StmAt H p l) (h1 : JE X e1 σ H (.i (r : Int))) (hr3 : r ≤ 3) (q : ∀ (act : Act) (n : Nat) v H', ActOk n act → act.length = r → 1 ≤ n → n ≤ 4 → KeepL [p] H H' → KeepT H H' → StmAt H' p l → Rp H' (actD act) v → Q v H')
    (hg : Gl X "_law_action" := by rfl) (hs : starEach [o, e1] X.env = (false, eval o X.env) :: starEach [e1] X.env := by rfl) (hs2 : starEach [e1] X.env = (false, eval e1 X.env) :: starEach [] X.env := by rfl) (hpl : (backTo pos (starEach [e1] X.env)).any (·.1) = false := by rfl) : wE X (.Call (.Name "_law_action" pn) [o, e1] [] pos) σ H Q :=
  ⟨_, pe_call (ok_lact (base := X.base) (P := X.prog) (w := X.w) T) (hr.mono hk) hg T.law_action.m T.law_action.F.kp T.law_action.b .nil pass0 (pa_cons wE_ok (pa_cons wE_ok pa_nil hs2) hs) (by decide) hs hpl, ho H (Same.refl _) _ fun H2 s2 => h1 H2 s2 _ fun v H3 s3 r3 => by
    obtain rfl : v = .int (r : Int) := r3
    have s24 := s2.trans s3
    exact ⟨p, l, r, rfl, hS.mono s24, hr3, fun act n v H' h1 h2 h3 h4 kl kt st rv => q act n v H' h1 h2 h3 h4 ((same_keepL s24 _).trans kl) ((Same.keepT s24).trans kt) st rv⟩⟩
noncomputable def isM (gs : List Wd) (u : Wd) : Bool := @decide (Mem gs u) (Classical.propDecidable _)
theorem isM_t {gs : List Wd} {u : Wd} : isM gs u = true ↔ Mem gs u := @decide_eq_true_iff _ (Classical.propDecidable _)
noncomputable def kd (gs : List Wd) (u : Wd) : Str := if isM gs u then "member" else "none"
theorem kd_mem (gs : List Wd) (u : Wd) : decide (kd gs u = "member") = isM gs u := by
  unfold kd
  cases isM gs u <;> decide +kernel
theorem kd_non (gs : List Wd) (u : Wd) : decide (kd gs u = "none") = !isM gs u := by
  unfold kd
  cases isM gs u <;> decide +kernel
theorem isM_congr {gs : List Wd} {u v : Wd} (h : Mem gs u ↔ Mem gs v) : isM gs u = isM gs v := by
  rw [Bool.eq_iff_iff, isM_t, isM_t]
  exact h
/-- answer_for(family, word)[0] -/
theorem je_kind {p3 p4 : Pos} {j : Nat} (T : Txt X.K X.mg) (hr : Room k X.A) (hk : 13 ≤ k) (hF : FamOk r gs) (hu : InR r u) (hl : u.length ≤ 20) (h1 : JE X e1 σ H (famD r gs)) (h2 : JE X e2 σ H (wD u))
    (hg : Gl X "answer_for" := by rfl) (he : starEach [e1, e2] X.env = (false, eval e1 X.env) :: starEach [e2] X.env := by rfl) (he2 : starEach [e2] X.env = (false, eval e2 X.env) :: starEach [] X.env := by rfl) (hpl : (backTo p3 (starEach [e2] X.env)).any (·.1) = false := by rfl) : JE X (.Subscript (.Call (.Name "answer_for" pn) [e1, e2] [] p3) (.Constant (.int 0) j p4) pos) σ H (.s (kd gs u)) := fun H1 s1 Q q =>
  ⟨_, pe_ix ix_tup wE_ok wE_ok (fun _ _ => rfl), we_callR (B := DB) ⟨r, gs, u⟩ T.answer_for (ok_anf (base := X.base) (P := X.prog) (w := X.w) T) (hr.mono hk) (JA.mono (ja_cons h1 (ja_cons h2 ja_nil he2) he) s1) ⟨hF, hu, hl⟩ (fun v d H2 hφ s2 r2 => by
    obtain ⟨a, rfl, hA⟩ := hφ
    refine (je_int (i := 0)).go fun y H3 s3 ry => ?_
    cases a with
    | mem st =>
      obtain ⟨pp, vs, ev, h3, v0, w0, ew, r0, _⟩ := (show ∃ pp vs, v = .ref pp ∧ H2 pp = some (.tup vs) ∧ Rps H2 [.s "member", .t (st.map stpD)] vs from r2)
      refine ⟨pp, vs, 0, .str "member", ev, ry, SqT.of (s3 _ _ h3), by rw [ew, show v0 = .str "member" from r0]; exact (atI_nat (j := 0) rfl : atI (_ :: w0) ((0 : Nat) : Int) = _), q _ _ (s2.trans s3) ?_⟩
      have : kd gs u = "member" := by unfold kd; rw [if_pos (isM_t.mpr hA.2)]
      rw [this] <;> rfl
    | non act =>
      obtain ⟨pp, vs, ev, h3, v0, w0, ew, r0, _⟩ := (show ∃ pp vs, v = .ref pp ∧ H2 pp = some (.tup vs) ∧ Rps H2 [.s "none", actD act] vs from r2)
      refine ⟨pp, vs, 0, .str "none", ev, ry, SqT.of (s3 _ _ h3), by rw [ew, show v0 = .str "none" from r0]; exact (atI_nat (j := 0) rfl : atI (_ :: w0) ((0 : Nat) : Int) = _), q _ _ (s2.trans s3) ?_⟩
      have : kd gs u = "none" := by unfold kd; rw [if_neg fun z => hA.2 (isM_t.mp z)]
      rw [this] <;> rfl) hg (by decide) he hpl⟩
/-- e is True, e is not True -/
theorem jt_isT {kk : Nat} {x : Bool} (ha : JE X a σ H (.b x)) : JT X (.Compare a [.Is] [.Constant (.bool true) kk p2] pos) σ H x := jt_cmp op_isBl (nomark _) ha je_bl fun H2 y z Q _ ry rz q => ⟨x, true, ry, rz, q _ _ (Same.refl _) (by cases x <;> rfl)⟩
theorem je_isT {kk : Nat} {x : Bool} (ha : JE X a σ H (.b x)) : JE X (.Compare a [.Is] [.Constant (.bool true) kk p2] pos) σ H (.b x) := je_cmp op_isBl (nomark _) ha je_bl fun H2 y z Q _ ry rz q => ⟨x, true, ry, rz, q _ _ (Same.refl _) (by cases x <;> rfl)⟩
theorem jt_notT {kk : Nat} {x : Bool} (ha : JE X a σ H (.b x)) : JT X (.Compare a [.IsNot] [.Constant (.bool true) kk p2] pos) σ H (!x) := jt_cmp op_notBl (nomark _) ha je_bl fun H2 y z Q _ ry rz q => ⟨x, true, ry, rz, q _ _ (Same.refl _) (by cases x <;> rfl)⟩
end
end FW
/-! the law -/
namespace FW
open PySem L2
section
variable {P : Program} {w : World} {K : PySem.W.Frag} {mg : Str → Option Value} {base : Heap}
def spLaw (K : PySem.W.Frag) : Sp := fun vs H Q _ => ∃ (a : Addr) (ns : List Int), vs = [.ref a] ∧ SqL K H a (ns.map V.int) ∧ ns.length ≤ 63 ∧ ∀ H', Q (.bl true) H'
theorem kinds_t {X : Cx} {e : Expr} {σ : L2.St} {H : Hp} {pos p2 : Pos} {j : Nat} {k0 : Str} (i : Fin 3) (h : JE X e σ H (.l [.s k0, .s k0, .s k0])) : JE X (.Subscript e (.Constant (.int (i.val : Int)) j p2) pos) σ H (.s k0) := je_ixL h je_int (by
  match i with
  | 0 => rfl
  | 1 => rfl
  | 2 => rfl)
theorem FamOk.more {r : Nat} {gs : List Wd} {u : Wd} (h : FamOk r gs) (hl : gs.length ≤ 3) (hu : InR r u) (hul : u.length ≤ 8) : FamOk r (gs ++ [u]) :=
  ⟨h.lo, h.hi, by simp; omega, fun g hg => by
    rcases List.mem_append.mp hg with hg | hg
    · exact h.inr g hg
    · rw [List.mem_singleton.mp hg]; exact hu, fun g hg => by
    rcases List.mem_append.mp hg with hg | hg
    · exact h.len g hg
    · rw [List.mem_singleton.mp hg]; exact hul⟩
abbrev s_law : Stmt := topS 92
theorem sc_law : FnScope ["_law_script", "_law_stream_here", "_law_rank", "_law_family", "_law_one", "_law_other", "_law_kinds", "_law_word_here", "_law_joined", "_law_inside", "_law_turn", "_law_action_here", "_law_own", "_law_told", "_law_more"] ["_law_script"] (defScope s_law) := ⟨rfl, rfl, rfl, by decide +kernel, rfl, by decide +kernel, by decide +kernel⟩
theorem ok_law (T : Txt K mg) (Dl : Df K mg "law" "law" "law" (topS 92) ["_law_script"]) : FnOk P w K mg base CX0 14 Dl.f Dl.fd ["_law_script"] (spLaw K) := by
  refine Dl.F.ok sc_law (fun vs H Q E h => ?_) (fun cdv A outer s H vs Q E hr h => ?_)
  · obtain ⟨a, ns, rfl, _⟩ := h
    rfl
  obtain ⟨a, ns, rfl, hS, _, q⟩ := h
  refine ⟨_, wSs_ok, ?_⟩
  -- stream
  refine ws_setE 1 sc_law.nd ⟨_, pe_call (ok_str (base := base) (P := P) (w := w) T) (hr.mono (by decide)) rfl T.law_stream.m T.law_stream.F.kp T.law_stream.b .nil pass0 (pa_cons wE_ok pa_nil rfl) (by decide) rfl rfl, JV.go (jv_var 0) fun H1 s1 => ⟨a, ns, rfl, sqL_mono hS s1, fun p l H2 s2 zp zl st2 => ?_⟩⟩
  -- rank
  refine ws_setE 2 sc_law.nd (we_addI (je_int (i := 1)) fun H3 s3 => we_next (n := 3) T hr (by decide) (jv_var 1) (st2.mono s3) je_int (by decide) (by decide) fun m H4 hm k4 t4 st4 => ⟨m, rfl, ?_⟩)
  obtain ⟨r, hr0⟩ : ∃ r : Nat, r = 1 + m := ⟨_, rfl⟩
  have er : (1 : Int) + (m : Int) = (r : Int) := by omega
  rw [er]
  have hr1 : 1 ≤ r := by omega
  have hr3 : r ≤ 3 := by omega
  -- family
  refine ws_setE 3 sc_law.nd (we_tup (wa_cons ((je_var (d := .i (r : Int)) 2 rfl (intRp r)).go fun vr H5 s5 rr5 => wa_cons (we_given (r := r) T hr (by decide) (jv_var 1) (st4.mono s5) (je_var 2 rfl (intRp r)) hr1 hr3 fun gs vg H6 hgl hgs k6 t6 st6 rg6 => wa_nil ⟨by show 2 ≤ 100000; decide, fun pf zf => ?_⟩))))
  obtain rfl : vr = .int (r : Int) := rr5
  have hF : FamOk r gs := ⟨hr1, hr3, by omega, fun g hg => (hgs g hg).1, fun g hg => (hgs g hg).2⟩
  have nf := st6.ne1 zf
  have st7 : StmAt (upd H6 pf (.tup [.int (r : Int), vg])) p l := st6.upd nf.1 nf.2
  have f7 : Rp (upd H6 pf (.tup [.int (r : Int), vg])) (famD r gs) (.ref pf) := ⟨pf, _, rfl, upd_same, .cons rfl (.cons (rg6.mono (same_new zf)) rfl)⟩
  generalize upd H6 pf (.tup [.int (r : Int), vg]) = H7 at st7 f7
  clear k4 t4 st4 k6 t6 st6 rg6 zf nf st2
  -- one, other
  have imf : imm (famD r gs) = true := by
    show (true && (imms (gs.map wD) && true)) = true
    rw [imms_ws] <;> rfl
  refine ws_setE 4 sc_law.nd (we_word (r := r) (most := 6) T hr (by decide) (jv_var 1) st7 (je_var 2 rfl (intRp r)) je_int hr1 hr3 (by decide) fun one0 H8 ho0 hol0 k8 t8 st8 => ?_)
  refine ws_setE 5 sc_law.nd (we_word (r := r) (most := 6) T hr (by decide) (jv_var 1) st8 (je_var 2 rfl (intRp r)) je_int hr1 hr3 (by decide) fun oth H9 hot hotl k9 t9 st9 => ?_)
  have f9 : Rp H9 (famD r gs) (.ref pf) := (f7.imm t8 imf).imm t9 imf
  clear k8 t8 st8 k9 t9
  refine ws_ifJE (fun σ' H' => ∃ one : Wd, σ' = [some (.ref a), some (.ref p), some (.int (r : Int)), some (.ref pf), some (.str (enc one)), some (.str (enc oth)), none, none, none, none, none, none, none, none, none] ∧ InR r one ∧ one.length ≤ 8 ∧ StmAt H' p l ∧ Rp H' (famD r gs) (.ref pf)) (wt_and2 (c := !(gs.map wD).isEmpty) (jt_truT (je_fam1 (je_var 3 rfl f9))) (fun hk H10 s10 => wt_eqE (we_next (n := 2) T hr (by decide) (jv_var 1) (st9.mono s10) je_int (by decide) (by decide) fun m2 H11 hm2 k11 t11 st11 => ⟨m2, rfl, ?_⟩)) (fun hk H10 s10 => ?_)) ?_
  · have f11 : Rp H11 (famD r gs) (.ref pf) := (f9.mono s10).imm t11 imf
    have hne : 0 < gs.length := by
      cases gs with
      | nil => exact absurd hk (by decide)
      | cons g t => simp
    by_cases h1 : (m2 : Int) = 1
    · rw [decide_eq_true h1]
      show wSs _ [_] _ _ _
      refine ws_setE 4 sc_law.nd (we_ixTE (ds := gs.map wD) (je_fam1 (je_var 3 rfl f11)) (imms_ws _) fun H12 s12 => we_next (n := gs.length) T hr (by decide) (jv_var 1) (st11.mono s12) (JE.of (je_lenT T.b_len (je_fam1 (je_var 3 rfl (f11.mono s12)))) (by rw [List.length_map])) (by omega) (by omega) fun m3 H13 hm3 k13 t13 st13 => ⟨t13, m3, wD gs[m3], rfl, by rw [List.getElem?_map, List.getElem?_eq_getElem hm3] <;> rfl, fun v' rv' => ws_nil ?_⟩)
      obtain rfl : v' = .str (enc gs[m3]) := rv'
      have hgm := hgs gs[m3] (List.getElem_mem hm3)
      exact ⟨gs[m3], rfl, hgm.1, hgm.2, st13, (f11.mono s12).imm t13 imf⟩
    · rw [decide_eq_false h1]
      show wSs _ [] _ _ _
      exact ws_nil ⟨one0, rfl, ho0, by omega, st11, f11⟩
  · show wSs _ [] _ _ _
    exact ws_nil ⟨one0, rfl, ho0, by omega, st9.mono s10, f9.mono s10⟩
  clear f9 st9 st7 f7 ho0 hol0
  rintro σ' H10 ⟨one, rfl, ho, hol, st10, f10⟩
  -- kinds
  have hrl : (red one).length ≤ one.length := red_len one
  have hwl : (winv one).length = one.length := ginv_len one
  have kinv : kd gs (winv one) = kd gs one := by unfold kd; rw [isM_congr mem_inv]
  have kred : kd gs (red one) = kd gs one := by unfold kd; rw [isM_congr mem_red]
  have okin : ∀ d, d ∈ [wD one, wD (winv one), wD (red one)] → ∃ u : Wd, d = wD u ∧ InR r u ∧ u.length ≤ 20 ∧ kd gs u = kd gs one := fun d hd => by
    rcases List.mem_cons.mp hd with rfl | hd
    · exact ⟨one, rfl, ho, by omega, rfl⟩
    · rcases List.mem_cons.mp hd with rfl | hd
      · exact ⟨winv one, rfl, ho.inv, by omega, kinv⟩
      · rw [List.mem_singleton.mp hd]
        exact ⟨red one, rfl, ho.red, by omega, kred⟩
  refine ws_setLc (own := [("_law_word_here", 7)]) (g := gName 7) (items := [wD one, wD (winv one), wD (red one)]) (es := [.s (kd gs one), .s (kd gs one), .s (kd gs one)]) 6 sc_law.nd (blkOk_by (N := ["_law_script", "_law_stream_here", "_law_rank", "_law_family", "_law_one", "_law_other", "_law_kinds", "_law_word_here", "_law_joined", "_law_inside", "_law_turn", "_law_action_here", "_law_own", "_law_told", "_law_more"]) (sc := defScope s_law) (by decide +kernel))
    (ji_list (JF.je (jf_lst (ja_cons (je_var (d := wD one) 4 rfl rfl) (ja_cons (je_callD T.law_inverse (ok_linv T) (hr.mono (by decide)) (ja_cons (je_var (d := wD one) 4 rfl rfl) ja_nil) ⟨one, rfl, by omega, rfl⟩) (ja_cons (je_callD T.law_reduce (ok_lred T) (hr.mono (by decide)) (ja_cons (je_var (d := wD one) 4 rfl rfl) ja_nil) ⟨one, rfl, by omega, rfl⟩) ja_nil))) (by show 3 ≤ 100000; decide)))) rfl (by show 3 ≤ 50000; decide) rfl gm_name (fun _ _ _ _ _ => pg_name (i := 7) sc_law.nd rfl (.inl rfl)) (fun i d rr v H11 e1 e2 s11 r11 => ?_) (fun pk us H11 zk s11 h11 r11 => ?_) rfl
  · obtain ⟨u, rfl, hu1, hu2, hu3⟩ := okin d (List.mem_of_getElem? e1)
    have : rr = .s (kd gs one) := by
      have := List.mem_of_getElem? e2
      simpa using this
    subst this
    refine ⟨hw1 v, rfl, fun sh Hb C cl fp => ?_⟩
    rw [← hu3]
    exact je_kind T hr (by decide) hF hu1 hu2 (je_var 3 rfl (f10.mono s11)) (je_var 7 rfl r11)
  have rk : Rp H11 (.l [.s (kd gs one), .s (kd gs one), .s (kd gs one)]) (.ref pk) := ⟨pk, us, rfl, h11, r11⟩
  refine ws_ifF (jt_or2 (x := false) (y := false) (JT.of (jt_neS (je_ixL (i := 0) (je_var 6 rfl rk) je_int rfl) (je_ixL (i := 1) (je_var 6 rfl rk) je_int rfl)) (by rw [decide_eq_true rfl] <;> rfl)) (fun _ => JT.of (jt_neS (je_ixL (i := 0) (je_var 6 rfl rk) je_int rfl) (je_ixL (i := 2) (je_var 6 rfl rk) je_int rfl)) (by rw [decide_eq_true rfl] <;> rfl)) rfl) fun H12 s12 => ?_
  have s02 := s11.trans s12
  -- joined
  refine ws_set 8 sc_law.nd (d := .s (kd gs (one ++ oth))) (je_kind T hr (by decide) hF (InR.app ho hot) (by rw [List.length_append]; omega) (je_var 3 rfl (f10.mono s02)) (je_addW (je_var 4 rfl rfl) (je_var 5 rfl rfl) (by omega))) fun vj H13 s13 r13 => ?_
  have s03 := s02.trans s13
  -- inside
  refine ws_setF 9 sc_law.nd (jf_lst (ja_cons (JE.of (je_eqS (je_ixL (i := 0) (je_var 6 rfl (rk.mono (s12.trans s13))) je_int rfl) je_str) (congrArg D.b (kd_mem gs one))) (ja_cons (JE.of (je_eqS (je_kind T hr (by decide) hF hot (by omega) (je_var 3 rfl (f10.mono s03)) (je_var 5 rfl rfl)) je_str) (congrArg D.b (kd_mem gs oth))) ja_nil)) (by show 2 ≤ 100000; decide)) fun pi us2 H14 zi s14 h14 r14 => ?_
  have ri : Rp H14 (.l [.b (isM gs one), .b (isM gs oth)]) (.ref pi) := ⟨pi, us2, rfl, h14, r14⟩
  have rj := r13.mono s14
  have s04 := s03.trans s14
  refine ws_ifF (jt_and2 (y := isM gs (one ++ oth)) (JT.of (jt_neB (je_ixL (i := 0) (je_var 9 rfl ri) je_int rfl) (je_ixL (i := 1) (je_var 9 rfl ri) je_int rfl)) rfl) (fun _ => JT.of (jt_neS (je_var 8 rfl rj) je_str) (by rw [kd_non, Bool.not_not])) ?_) fun H15 s15 => ?_
  · cases h1 : isM gs one <;> cases h2 : isM gs oth <;> cases h3 : isM gs (one ++ oth) <;> first | rfl | skip
    · have a2 := isM_t.mp h2
      have a1 := isM_t.mpr (mem_of_app_right a2 (isM_t.mp h3))
      rw [h1] at a1
      cases a1
    · have a1 := isM_t.mp h1
      have a2 := isM_t.mpr (mem_of_app_left a1 (isM_t.mp h3))
      rw [h2] at a2
      cases a2
  refine ws_ifF (jt_and3 (x := isM gs one) (y := isM gs oth) (z := !isM gs (one ++ oth)) (JE.test (je_ixL (i := 0) (je_var 9 rfl (ri.mono s15)) je_int rfl)) (fun _ => JE.test (je_ixL (i := 1) (je_var 9 rfl (ri.mono s15)) je_int rfl)) (fun _ _ => JT.of (jt_neS (je_var 8 rfl (rj.mono s15)) je_str) (by rw [kd_mem])) ?_) fun H16 s16 => ?_
  · cases h1 : isM gs one <;> cases h2 : isM gs oth <;> cases h3 : isM gs (one ++ oth) <;> first | rfl | skip
    have a3 := isM_t.mpr ((isM_t.mp h1).app (isM_t.mp h2))
    rw [h3] at a3
    cases a3
  have s06 := (s04.trans s15).trans s16
  have ri6 := ri.mono (s15.trans s16)
  have f16 := f10.mono s06
  have st16 := st10.mono s06
  have hpi : pi ∉ [p] := by
    have := (st10.mono s03).ne1 zi
    simpa using this.1
  obtain ⟨pi', us6, ei, g6, r6⟩ := (show ∃ pi' us6, V.ref pi = .ref pi' ∧ H16 pi' = some (.lst us6) ∧ Rps H16 [.b (isM gs one), .b (isM gs oth)] us6 from ri6)
  obtain rfl : pi = pi' := by injection ei
  -- the turns
  refine ws_forR (n := (4 : Int)) T.b_range je_int (by decide) (pg_name (i := 10) sc_law.nd rfl (.inl rfl))
    (fun i σ' H' => ∃ (x7 x10 x11 x12 : Option V), σ' = [some (.ref a), some (.ref p), some (.int (r : Int)), some (.ref pf), some (.str (enc one)), some (.str (enc oth)), some (.ref pk), x7, some vj, some (.ref pi), x10, x11, x12, none, none] ∧ StmAt H' p l ∧ Rp H' (famD r gs) (.ref pf) ∧ Rp H' (.l [.b (isM gs one), .b (isM gs oth)]) (.ref pi))
    (fun H17 s17 => ⟨none, none, none, none, rfl, st16.mono s17, f16.mono s17, ri6.mono s17⟩) ?_ ?_
  · rintro i σ' H17 hi ⟨x7, x10, x11, x12, rfl, st17, f17, ri17⟩
    show wSs _ _ _ [some (.ref a), some (.ref p), some (.int (r : Int)), some (.ref pf), some (.str (enc one)), some (.str (enc oth)), some (.ref pk), x7, some vj, some (.ref pi), some (.int (i : Int)), x11, x12, none, none] H17
    refine ws_setE 11 sc_law.nd (we_act (r := r) T hr (by decide) (jv_var 1) st17 (je_var 2 rfl (intRp r)) hr3 fun act n va H18 hA hal hn1 hn4 k18 t18 st18 ra18 => ?_)
    have f18 := f17.imm t18 imf
    have ri18 : Rp H18 (.l [.b (isM gs one), .b (isM gs oth)]) (.ref pi) := by
      obtain ⟨pi', us7, ei, g7, r7⟩ := ri17
      obtain rfl : pi = pi' := by injection ei
      exact ⟨pi, us7, rfl, k18 _ _ hpi g7, r7.imm t18 rfl⟩
    refine ws_if (k := (gs.map fun g => decide (imgs act 0 g = 0)).all id) (JE.test (je_all rfl T.b_all (JF.je (jf_lc (own := [("_law_own", 12)]) (g := gName 12) (items := gs.map wD) (es := (gs.map fun g => decide (imgs act 0 g = 0)).map D.b) sc_law.nd (blkOk_by (N := ["_law_script", "_law_stream_here", "_law_rank", "_law_family", "_law_one", "_law_other", "_law_kinds", "_law_word_here", "_law_joined", "_law_inside", "_law_turn", "_law_action_here", "_law_own", "_law_told", "_law_more"]) (sc := defScope s_law) (by decide +kernel))
      (ji_tup (je_fam1 (je_var 3 rfl f18))) (by simp) (by simp; omega) (imms_map (fun _ => rfl) _) gm_name (fun _ _ _ _ _ => pg_name (i := 12) sc_law.nd rfl (.inl rfl)) (fun i d rr v H19 e1 e2 s19 r19 => ?_))))) (fun hk H19 s19 => ?_) (fun hk H19 s19 => ws_nil (ws_nil ⟨_, _, _, _, rfl, st18.mono s19, f18.mono s19, ri18.mono s19⟩))
    · refine ⟨hw1 v, rfl, fun sh Hb C cl fp => ?_⟩
      obtain ⟨g, hg, rfl⟩ := map_at e1
      obtain ⟨b, hb, rfl⟩ := map_at e2
      have hb2 : b = decide (imgs act 0 g = 0) := by
        rw [List.getElem?_map, hg] at hb
        exact (Option.some.inj hb).symm
      subst hb2
      exact JE.of (je_eqI (je_callD T.law_image (ok_lim T) (hr.mono (by decide)) (ja_cons (je_var (d := actD act) 11 rfl (ra18.mono s19)) (ja_cons je_int (ja_cons (je_var 12 rfl r19) ja_nil))) ⟨act, n, 0, g, hA, hn1, by rw [hal]; exact hF.inr g (List.mem_of_getElem? hg), rfl, rfl⟩) je_int) (congrArg D.b (dec_nat _ 0))
    · have hall : ∀ g ∈ gs, imgs act 0 g = 0 := fun g hg => by
        rw [List.all_eq_true] at hk
        exact of_decide_eq_true (hk _ (List.mem_map_of_mem hg))
      refine ws_ifF (jt_and2 (x := isM gs one) (y := !decide (imgs act 0 one = 0)) (JE.test (je_ixL (i := 0) (je_var 9 rfl (ri18.mono s19)) je_int rfl)) (fun _ => JT.of (jt_neI (je_callD T.law_image (ok_lim T) (hr.mono (by decide)) (ja_cons (je_var (d := actD act) 11 rfl (ra18.mono s19)) (ja_cons je_int (ja_cons (je_var (d := wD one) 4 rfl rfl) ja_nil))) ⟨act, n, 0, one, hA, hn1, by rw [hal]; exact ho, rfl, rfl⟩) je_int) (congrArg (fun z => !z) (dec_nat _ 0))) ?_) fun H20 s20 => ws_nil (ws_nil ⟨_, _, _, _, rfl, st18.mono (s19.trans s20), f18.mono (s19.trans s20), ri18.mono (s19.trans s20)⟩)
      cases h1 : isM gs one with
      | false => rfl
      | true =>
        have := (isM_t.mp h1).img hA hn1 hall
        rw [decide_eq_true this] <;> rfl
  · rintro σ' H17 ⟨x7, x10, x11, x12, rfl, st17, f17, ri17⟩
    -- told
    refine ws_setE 13 sc_law.nd (we_callR (B := DB) ⟨r, gs, oth⟩ T.answer_for (ok_anf T) (hr.mono (by decide)) (ja_cons (je_var 3 rfl f17) (ja_cons (je_var (d := wD oth) 5 rfl rfl) ja_nil)) ⟨hF, hot, by show oth.length ≤ 20; omega⟩ fun vt d H18 hφ s18 rt18 => ?_)
    obtain ⟨an, rfl, hAn⟩ := hφ
    have hFm := hF.more hgl ho hol
    have efm : famD r (gs ++ [one]) = .t [.i (r : Int), .t (gs.map wD ++ [wD one])] := by unfold famD; rw [List.map_append] <;> rfl
    refine ws_set 14 sc_law.nd (d := famD r (gs ++ [one])) (JE.of (je_tup (ja_cons (je_var (d := .i (r : Int)) 2 rfl (intRp r)) (ja_cons (je_catT (es := gs.map wD) (fs := [wD one]) (je_fam1 (je_var 3 rfl (f17.mono s18))) (je_tup (ja_cons (je_var (d := wD one) 4 rfl rfl) ja_nil) (by show 1 ≤ 100000; decide)) (by simp; omega)) ja_nil)) (by show 2 ≤ 100000; decide)) efm.symm) fun vm H19 s19 rm19 => ?_
    have hWo : WdOk r oth := ⟨hot, by omega⟩
    have rt19 := rt18.mono s19
    have ri19 := ri17.mono (s18.trans s19)
    have fit1 : Mem gs one → Fits r (gs ++ [one]) oth an := fun hm => by
      cases an with
      | mem st => exact hAn.1.more
      | non act => exact hAn.1.more hm
    refine ws_ifF (jt_and3 (x := isM gs one) (y := decide ((one.length : Int) ≤ 8)) (z := false) (JE.test (je_ixL (i := 0) (je_var 9 rfl ri19) je_int rfl)) (fun _ => JT.of (jt_leI (je_lenS T.b_len (je_var (d := wD one) 4 rfl rfl) (by rw [enc_len]; omega)) je_int) (by rw [enc_len])) (fun h1 _ => JT.of (jt_notT (je_callD T.accepts_answer (ok_acc T) (hr.mono (by decide)) (ja_cons (je_var 14 rfl rm19) (ja_cons (je_var (d := wD oth) 5 rfl rfl) (ja_cons (je_var 13 rfl rt19) ja_nil))) ⟨r, gs ++ [one], oth, an, hFm, hWo, fit1 (isM_t.mp h1), rfl, rfl⟩)) rfl) (by simp)) fun H20 s20 => ?_
    have rt20 := rt19.mono s20
    cases an with
    | non act =>
      have rt20 : Rp H20 (.t [.s "none", actD act]) vt := rt20
      exact ws_ret (d := .b true) (je_or2 (x := true) (y := true) (JE.of (je_eqS (x := "none") (je_ixT (i := 0) (je_var 13 rfl rt20) je_int rfl) je_str) (by rw [decide_eq_true rfl])) (fun z => by cases z) rfl) fun v21 H21 s21 r21 => by
        obtain rfl : v21 = .bl true := r21
        exact q H21
    | mem st =>
      have rt21 : Rp H20 (.t [.s "member", .t (st.map stpD)]) vt := rt20
      refine ws_ret (d := .b true) (je_or2 (x := false) (y := true) (JE.of (je_eqS (x := "member") (je_ixT (i := 0) (je_var 13 rfl rt21) je_int rfl) je_str) (congrArg D.b (decide_eq_false (by decide)))) (fun _ => je_isT (je_callD T.accepts_answer (ok_acc T) (hr.mono (by decide)) (ja_cons (je_var 14 rfl (rm19.mono s20)) (ja_cons (je_var (d := wD oth) 5 rfl rfl) (ja_cons (je_var 13 rfl rt20) ja_nil))) ⟨r, gs ++ [one], oth, .mem st, hFm, hWo, hAn.1.more, rfl, rfl⟩)) rfl) fun v21 H21 s21 r21 => ?_
      obtain rfl : v21 = .bl true := r21
      exact q H21
end
end FW
section
open PySem PySem.W PyProof.Rows
set_option maxRecDepth 100000 in
set_option maxHeartbeats 8000000 in
open_top head for PySem.Challenge.rw_foldedways_k43_whole_words_of_words
end
namespace FW
open PySem L2
theorem walk {l : PySem.W.OpenLaw} {q : Program} {loose : List Str} {XP : (Str → Option Value) → Heap → Prop} {YP : World → Heap → Prop} {d : DefRec} {K : Params → PySem.W.Frag} (hn : l.most = some 63) (hdf : d.params.defaults = [])
    (hY : ∀ (w : World) (h : Heap), YP w h → (K w.params).In h)
    (F : ∀ (w : World) (mg : Str → Option Value) (fa : Addr) (h : Heap), (K w.params).In h → h.Ns mainGlobals mg → mg d.name = some (.ref fa) →
      ∃ fd : FuncData, (∀ (s : Shared) (u : Value), BindsTo s fd ⟨[u], []⟩ [("_law_script", u)]) ∧ ∀ base : Heap, (K w.params).In base → base.Ns mainGlobals mg → FnOk l.prog w (K w.params) mg base CX0 14 fa fd ["_law_script"] (spLaw (K w.params))) :
    PySem.W.WalkO q loose XP YP l.row.toRowW d [] (fun f vs => PySem.call f vs) :=
  L2.walk_of (n := 63) (k := 14) (x := "_law_script") (CX := fun _ => CX0) (sp := fun w => spLaw (K w.params)) hn (by decide) hdf ⟨rfl, by decide, by decide⟩ hY F (fun _ _ a ns hl _ hS => ⟨a, ns, rfl, hS, hl, fun _ => rfl⟩) fun _ _ _ _ _ z => z
section
variable {K : PySem.W.Frag} {h : Heap} {mg : Str → Option Value} {g x qual : Str} {st : Stmt} {ps : List Str} {f C : Addr} {oc : Value} {od an : Option Addr} {osl : Array (Option Value)} {kV doc pm cdv ct : Value}
def df_mk (X : K.In h) (G : h.Ns mainGlobals mg) (a : PySem.W.nsIn K mainGlobals g = some (some (.ref f))) (l : K.lookup f = some ⟨oc, od, .func (PySem.W.fnOf x qual (defArgs st) (defBody st) (defScope st) .none kV doc pm an cdv ct), osl⟩) (c : PySem.W.codeIn K cdv qual = true) (k : PySem.W.keepIn K (.ref f) = true)
    (hb : ∀ (kV doc pm : Value) (an : Option Addr) (cdv ct : Value) (us : List Value), us.length = ps.length → bindArgs (PySem.W.fnOf x qual (defArgs st) (defBody st) (defScope st) .none kV doc pm an cdv ct) ⟨us, []⟩ = pure (ps.zip us)) : Df K mg g x qual st ps :=
  ⟨f, PySem.W.fnOf x qual (defArgs st) (defBody st) (defScope st) .none kV doc pm an cdv ct, fun_mk l c k, (fun_mk l c k).binds hb, PySem.W.mg_of X G a⟩
def mf_mk (a : PySem.W.findIn K (.ref C) x = some (some (.ref f))) (i : PySem.W.isFn K (.ref f) = true) (l : K.lookup f = some ⟨oc, od, .func (PySem.W.fnOf x qual (defArgs st) (defBody st) (defScope st) .none kV doc pm an cdv ct), osl⟩) (c : PySem.W.codeIn K cdv qual = true) (k : PySem.W.keepIn K (.ref f) = true)
    (hb : ∀ (kV doc pm : Value) (an : Option Addr) (cdv ct : Value) (us : List Value), us.length = ps.length → bindArgs (PySem.W.fnOf x qual (defArgs st) (defBody st) (defScope st) .none kV doc pm an cdv ct) ⟨us, []⟩ = pure (ps.zip us)) : Mf K C x qual st ps :=
  ⟨f, PySem.W.fnOf x qual (defArgs st) (defBody st) (defScope st) .none kV doc pm an cdv ct, fun_mk l c k, (fun_mk l c k).binds hb, ⟨a, i, k⟩⟩
theorem all_end {l : PySem.W.OpenLaw} {w : World} {fa : Addr} (X : K.In h) (G : h.Ns mainGlobals mg) (hfa : mg "law" = some (.ref fa)) (T : Txt K mg) (a : PySem.W.nsIn K mainGlobals "law" = some (some (.ref f))) (lk : K.lookup f = some ⟨oc, od, .func (PySem.W.fnOf "law" "law" (defArgs (topS 92)) (defBody (topS 92)) (defScope (topS 92)) .none kV doc pm an cdv ct), osl⟩) (c : PySem.W.codeIn K cdv "law" = true) (k : PySem.W.keepIn K (.ref f) = true) :
    ∃ fd : FuncData, (∀ (s : Shared) (u : Value), BindsTo s fd ⟨[u], []⟩ [("_law_script", u)]) ∧ ∀ base : Heap, K.In base → base.Ns mainGlobals mg → FnOk l.prog w K mg base CX0 14 fa fd ["_law_script"] (spLaw K) := by
  have e := hfa.symm.trans (PySem.W.mg_of X G a)
  cases e
  exact ⟨PySem.W.fnOf "law" "law" (defArgs (topS 92)) (defBody (topS 92)) (defScope (topS 92)) .none kV doc pm an cdv ct, fun s v => .of_eq rfl, fun base _ _ => ok_law T (df_mk X G a lk c k fun _ _ _ _ _ _ us hl => match us, hl with | [_], _ => rfl)⟩
theorem int_mk {v : Value} {i : Int} (X : K.In h) (G : h.Ns mainGlobals mg) (a : PySem.W.nsIn K mainGlobals g = some (some v)) (e : ∃ t : Tok, v = .int i t) : ∃ t, mg g = some (.int i t) := by
  obtain ⟨t, rfl⟩ := e
  exact ⟨t, PySem.W.mg_of X G a⟩
theorem str_mk {v : Value} {i : Str} (X : K.In h) (G : h.Ns mainGlobals mg) (a : PySem.W.nsIn K mainGlobals g = some (some v)) (e : ∃ t : Tok, v = .str i t) : ∃ t, mg g = some (.str i t) := by
  obtain ⟨t, rfl⟩ := e
  exact ⟨t, PySem.W.mg_of X G a⟩
end
end FW
open PySem PySem.W PyProof.Rows in
set_option maxRecDepth 100000 in
set_option maxHeartbeats 0 in
theorem PySem.Challenge.cw_foldedways_k43_whole_words_of_words_holds : PySem.Challenge.rw_foldedways_k43_whole_words_of_words.Holds := by
  refine head ?_
  k_fill
  refine FW.walk (l := PySem.Challenge.rw_foldedways_k43_whole_words_of_words) rfl rfl (fun w h Y => PySem.W.kIn_of Y) ?F
  case F =>
    intro w mg fa h KX G hmg
    have d_is_between : FW.Df (head.heap_39 w.params) mg "is_between" "is_between" "is_between" (FW.topS 7) ["value", "low", "high"] := by
      refine' FW.df_mk KX G ?a ?l ?c ?k ?b
      (case a => k_is)
      (case l => k_is)
      (case c => k_is)
      (case k => k_is)
      (case b => exact fun _ _ _ _ _ _ us hl => match us, hl with | [_, _, _], _ => rfl)
    have d_is_rank : FW.Df (head.heap_39 w.params) mg "is_rank" "is_rank" "is_rank" (FW.topS 8) ["value"] := by
      refine' FW.df_mk KX G ?a ?l ?c ?k ?b
      (case a => k_is)
      (case l => k_is)
      (case c => k_is)
      (case k => k_is)
      (case b => exact fun _ _ _ _ _ _ us hl => match us, hl with | [_], _ => rfl)
    have d_letters_of : FW.Df (head.heap_39 w.params) mg "letters_of" "letters_of" "letters_of" (FW.topS 9) ["rank"] := by
      refine' FW.df_mk KX G ?a ?l ?c ?k ?b
      (case a => k_is)
      (case l => k_is)
      (case c => k_is)
      (case k => k_is)
      (case b => exact fun _ _ _ _ _ _ us hl => match us, hl with | [_], _ => rfl)
    have d_is_letters : FW.Df (head.heap_39 w.params) mg "is_letters" "is_letters" "is_letters" (FW.topS 10) ["value", "rank"] := by
      refine' FW.df_mk KX G ?a ?l ?c ?k ?b
      (case a => k_is)
      (case l => k_is)
      (case c => k_is)
      (case k => k_is)
      (case b => exact fun _ _ _ _ _ _ us hl => match us, hl with | [_, _], _ => rfl)
    have d_is_word : FW.Df (head.heap_39 w.params) mg "is_word" "is_word" "is_word" (FW.topS 11) ["value", "rank"] := by
      refine' FW.df_mk KX G ?a ?l ?c ?k ?b
      (case a => k_is)
      (case l => k_is)
      (case c => k_is)
      (case k => k_is)
      (case b => exact fun _ _ _ _ _ _ us hl => match us, hl with | [_, _], _ => rfl)
    have d_opposite_of : FW.Df (head.heap_39 w.params) mg "opposite_of" "opposite_of" "opposite_of" (FW.topS 12) ["letter"] := by
      refine' FW.df_mk KX G ?a ?l ?c ?k ?b
      (case a => k_is)
      (case l => k_is)
      (case c => k_is)
      (case k => k_is)
      (case b => exact fun _ _ _ _ _ _ us hl => match us, hl with | [_], _ => rfl)
    have d_reduce_of : FW.Df (head.heap_39 w.params) mg "reduce_of" "reduce_of" "reduce_of" (FW.topS 13) ["word"] := by
      refine' FW.df_mk KX G ?a ?l ?c ?k ?b
      (case a => k_is)
      (case l => k_is)
      (case c => k_is)
      (case k => k_is)
      (case b => exact fun _ _ _ _ _ _ us hl => match us, hl with | [_], _ => rfl)
    have d_inverse_of : FW.Df (head.heap_39 w.params) mg "inverse_of" "inverse_of" "inverse_of" (FW.topS 14) ["word"] := by
      refine' FW.df_mk KX G ?a ?l ?c ?k ?b
      (case a => k_is)
      (case l => k_is)
      (case c => k_is)
      (case k => k_is)
      (case b => exact fun _ _ _ _ _ _ us hl => match us, hl with | [_], _ => rfl)
    have d_is_integer_actions : FW.Df (head.heap_39 w.params) mg "is_integer_actions" "is_integer" "is_integer" (FW.topS 18) ["value"] := by
      refine' FW.df_mk KX G ?a ?l ?c ?k ?b
      (case a => k_is)
      (case l => k_is)
      (case c => k_is)
      (case k => k_is)
      (case b => exact fun _ _ _ _ _ _ us hl => match us, hl with | [_], _ => rfl)
    have d_is_permutation : FW.Df (head.heap_39 w.params) mg "is_permutation" "is_permutation" "is_permutation" (FW.topS 20) ["value", "many"] := by
      refine' FW.df_mk KX G ?a ?l ?c ?k ?b
      (case a => k_is)
      (case l => k_is)
      (case c => k_is)
      (case k => k_is)
      (case b => exact fun _ _ _ _ _ _ us hl => match us, hl with | [_, _], _ => rfl)
    have d_is_action : FW.Df (head.heap_39 w.params) mg "is_action" "is_action" "is_action" (FW.topS 21) ["value", "rank"] := by
      refine' FW.df_mk KX G ?a ?l ?c ?k ?b
      (case a => k_is)
      (case l => k_is)
      (case c => k_is)
      (case k => k_is)
      (case b => exact fun _ _ _ _ _ _ us hl => match us, hl with | [_, _], _ => rfl)
    have d_image_by : FW.Df (head.heap_39 w.params) mg "image_by" "image_by" "image_by" (FW.topS 22) ["action", "point", "letter"] := by
      refine' FW.df_mk KX G ?a ?l ?c ?k ?b
      (case a => k_is)
      (case l => k_is)
      (case c => k_is)
      (case k => k_is)
      (case b => exact fun _ _ _ _ _ _ us hl => match us, hl with | [_, _, _], _ => rfl)
    have d_image_of : FW.Df (head.heap_39 w.params) mg "image_of" "image_of" "image_of" (FW.topS 23) ["action", "point", "word"] := by
      refine' FW.df_mk KX G ?a ?l ?c ?k ?b
      (case a => k_is)
      (case l => k_is)
      (case c => k_is)
      (case k => k_is)
      (case b => exact fun _ _ _ _ _ _ us hl => match us, hl with | [_, _, _], _ => rfl)
    have d_returns_in : FW.Df (head.heap_39 w.params) mg "returns_in" "returns_in" "returns_in" (FW.topS 24) ["action", "word"] := by
      refine' FW.df_mk KX G ?a ?l ?c ?k ?b
      (case a => k_is)
      (case l => k_is)
      (case c => k_is)
      (case k => k_is)
      (case b => exact fun _ _ _ _ _ _ us hl => match us, hl with | [_, _], _ => rfl)
    have d_is_family : FW.Df (head.heap_39 w.params) mg "is_family" "is_family" "is_family" (FW.topS 28) ["value"] := by
      refine' FW.df_mk KX G ?a ?l ?c ?k ?b
      (case a => k_is)
      (case l => k_is)
      (case c => k_is)
      (case k => k_is)
      (case b => exact fun _ _ _ _ _ _ us hl => match us, hl with | [_], _ => rfl)
    have d_check_family : FW.Df (head.heap_39 w.params) mg "check_family" "check_family" "check_family" (FW.topS 29) ["family"] := by
      refine' FW.df_mk KX G ?a ?l ?c ?k ?b
      (case a => k_is)
      (case l => k_is)
      (case c => k_is)
      (case k => k_is)
      (case b => exact fun _ _ _ _ _ _ us hl => match us, hl with | [_], _ => rfl)
    have d_opposite : FW.Df (head.heap_39 w.params) mg "opposite" "opposite" "opposite" (FW.topS 30) ["factors"] := by
      refine' FW.df_mk KX G ?a ?l ?c ?k ?b
      (case a => k_is)
      (case l => k_is)
      (case c => k_is)
      (case k => k_is)
      (case b => exact fun _ _ _ _ _ _ us hl => match us, hl with | [_], _ => rfl)
    have d_shortened : FW.Df (head.heap_39 w.params) mg "shortened" "shortened" "shortened" (FW.topS 31) ["factors"] := by
      refine' FW.df_mk KX G ?a ?l ?c ?k ?b
      (case a => k_is)
      (case l => k_is)
      (case c => k_is)
      (case k => k_is)
      (case b => exact fun _ _ _ _ _ _ us hl => match us, hl with | [_], _ => rfl)
    have d_numbered : FW.Df (head.heap_39 w.params) mg "numbered" "numbered" "numbered" (FW.topS 33) ["edges"] := by
      refine' FW.df_mk KX G ?a ?l ?c ?k ?b
      (case a => k_is)
      (case l => k_is)
      (case c => k_is)
      (case k => k_is)
      (case b => exact fun _ _ _ _ _ _ us hl => match us, hl with | [_], _ => rfl)
    have d_fold : FW.Df (head.heap_39 w.params) mg "fold" "fold" "fold" (FW.topS 34) ["rank", "words"] := by
      refine' FW.df_mk KX G ?a ?l ?c ?k ?b
      (case a => k_is)
      (case l => k_is)
      (case c => k_is)
      (case k => k_is)
      (case b => exact fun _ _ _ _ _ _ us hl => match us, hl with | [_, _], _ => rfl)
    have d_check_word : FW.Df (head.heap_39 w.params) mg "check_word" "check_word" "check_word" (FW.topS 36) ["family", "word"] := by
      refine' FW.df_mk KX G ?a ?l ?c ?k ?b
      (case a => k_is)
      (case l => k_is)
      (case c => k_is)
      (case k => k_is)
      (case b => exact fun _ _ _ _ _ _ us hl => match us, hl with | [_, _], _ => rfl)
    have d_ways_in : FW.Df (head.heap_39 w.params) mg "ways_in" "ways_in" "ways_in" (FW.topS 37) ["graph"] := by
      refine' FW.df_mk KX G ?a ?l ?c ?k ?b
      (case a => k_is)
      (case l => k_is)
      (case c => k_is)
      (case k => k_is)
      (case b => exact fun _ _ _ _ _ _ us hl => match us, hl with | [_], _ => rfl)
    have d_graph_in : FW.Df (head.heap_39 w.params) mg "graph_in" "graph_in" "graph_in" (FW.topS 38) ["family"] := by
      refine' FW.df_mk KX G ?a ?l ?c ?k ?b
      (case a => k_is)
      (case l => k_is)
      (case c => k_is)
      (case k => k_is)
      (case b => exact fun _ _ _ _ _ _ us hl => match us, hl with | [_], _ => rfl)
    have d_attach : FW.Df (head.heap_39 w.params) mg "attach" "attach" "attach" (FW.topS 41) ["graph", "word"] := by
      refine' FW.df_mk KX G ?a ?l ?c ?k ?b
      (case a => k_is)
      (case l => k_is)
      (case c => k_is)
      (case k => k_is)
      (case b => exact fun _ _ _ _ _ _ us hl => match us, hl with | [_, _], _ => rfl)
    have d_images_of : FW.Df (head.heap_39 w.params) mg "images_of" "images_of" "images_of" (FW.topS 42) ["graph", "letter"] := by
      refine' FW.df_mk KX G ?a ?l ?c ?k ?b
      (case a => k_is)
      (case l => k_is)
      (case c => k_is)
      (case k => k_is)
      (case b => exact fun _ _ _ _ _ _ us hl => match us, hl with | [_, _], _ => rfl)
    have d_complete : FW.Df (head.heap_39 w.params) mg "complete" "complete" "complete" (FW.topS 43) ["rank", "graph"] := by
      refine' FW.df_mk KX G ?a ?l ?c ?k ?b
      (case a => k_is)
      (case l => k_is)
      (case c => k_is)
      (case k => k_is)
      (case b => exact fun _ _ _ _ _ _ us hl => match us, hl with | [_, _], _ => rfl)
    have d_against : FW.Df (head.heap_39 w.params) mg "against" "against" "against" (FW.topS 44) ["family", "word"] := by
      refine' FW.df_mk KX G ?a ?l ?c ?k ?b
      (case a => k_is)
      (case l => k_is)
      (case c => k_is)
      (case k => k_is)
      (case b => exact fun _ _ _ _ _ _ us hl => match us, hl with | [_, _], _ => rfl)
    have d_is_against : FW.Df (head.heap_39 w.params) mg "is_against" "is_against" "is_against" (FW.topS 45) ["family", "word", "value"] := by
      refine' FW.df_mk KX G ?a ?l ?c ?k ?b
      (case a => k_is)
      (case l => k_is)
      (case c => k_is)
      (case k => k_is)
      (case b => exact fun _ _ _ _ _ _ us hl => match us, hl with | [_, _, _], _ => rfl)
    have d_is_integer_derivations : FW.Df (head.heap_39 w.params) mg "is_integer_derivations" "is_integer" "is_integer" (FW.topS 50) ["value"] := by
      refine' FW.df_mk KX G ?a ?l ?c ?k ?b
      (case a => k_is)
      (case l => k_is)
      (case c => k_is)
      (case k => k_is)
      (case b => exact fun _ _ _ _ _ _ us hl => match us, hl with | [_], _ => rfl)
    have d_is_factor : FW.Df (head.heap_39 w.params) mg "is_factor" "is_factor" "is_factor" (FW.topS 52) ["family", "index", "value"] := by
      refine' FW.df_mk KX G ?a ?l ?c ?k ?b
      (case a => k_is)
      (case l => k_is)
      (case c => k_is)
      (case k => k_is)
      (case b => exact fun _ _ _ _ _ _ us hl => match us, hl with | [_, _, _], _ => rfl)
    have d_is_reduced : FW.Df (head.heap_39 w.params) mg "is_reduced" "is_reduced" "is_reduced" (FW.topS 53) ["family", "value"] := by
      refine' FW.df_mk KX G ?a ?l ?c ?k ?b
      (case a => k_is)
      (case l => k_is)
      (case c => k_is)
      (case k => k_is)
      (case b => exact fun _ _ _ _ _ _ us hl => match us, hl with | [_, _], _ => rfl)
    have d_is_step : FW.Df (head.heap_39 w.params) mg "is_step" "is_step" "is_step" (FW.topS 54) ["family", "index", "value"] := by
      refine' FW.df_mk KX G ?a ?l ?c ?k ?b
      (case a => k_is)
      (case l => k_is)
      (case c => k_is)
      (case k => k_is)
      (case b => exact fun _ _ _ _ _ _ us hl => match us, hl with | [_, _, _], _ => rfl)
    have d_value_of : FW.Df (head.heap_39 w.params) mg "value_of" "value_of" "value_of" (FW.topS 55) ["family", "steps", "factor"] := by
      refine' FW.df_mk KX G ?a ?l ?c ?k ?b
      (case a => k_is)
      (case l => k_is)
      (case c => k_is)
      (case k => k_is)
      (case b => exact fun _ _ _ _ _ _ us hl => match us, hl with | [_, _, _], _ => rfl)
    have d_made_of : FW.Df (head.heap_39 w.params) mg "made_of" "made_of" "made_of" (FW.topS 56) ["family", "steps", "factors"] := by
      refine' FW.df_mk KX G ?a ?l ?c ?k ?b
      (case a => k_is)
      (case l => k_is)
      (case c => k_is)
      (case k => k_is)
      (case b => exact fun _ _ _ _ _ _ us hl => match us, hl with | [_, _, _], _ => rfl)
    have d_holds : FW.Df (head.heap_39 w.params) mg "holds" "holds" "holds" (FW.topS 57) ["family", "value"] := by
      refine' FW.df_mk KX G ?a ?l ?c ?k ?b
      (case a => k_is)
      (case l => k_is)
      (case c => k_is)
      (case k => k_is)
      (case b => exact fun _ _ _ _ _ _ us hl => match us, hl with | [_, _], _ => rfl)
    have d_is_right : FW.Df (head.heap_39 w.params) mg "is_right" "is_right" "is_right" (FW.topS 58) ["family", "word", "value"] := by
      refine' FW.df_mk KX G ?a ?l ?c ?k ?b
      (case a => k_is)
      (case l => k_is)
      (case c => k_is)
      (case k => k_is)
      (case b => exact fun _ _ _ _ _ _ us hl => match us, hl with | [_, _, _], _ => rfl)
    have d_next_edge : FW.Df (head.heap_39 w.params) mg "next_edge" "next_edge" "next_edge" (FW.topS 59) ["folding", "here", "letter"] := by
      refine' FW.df_mk KX G ?a ?l ?c ?k ?b
      (case a => k_is)
      (case l => k_is)
      (case c => k_is)
      (case k => k_is)
      (case b => exact fun _ _ _ _ _ _ us hl => match us, hl with | [_, _, _], _ => rfl)
    have d_traced : FW.Df (head.heap_39 w.params) mg "traced" "traced" "traced" (FW.topS 60) ["folding", "word"] := by
      refine' FW.df_mk KX G ?a ?l ?c ?k ?b
      (case a => k_is)
      (case l => k_is)
      (case c => k_is)
      (case k => k_is)
      (case b => exact fun _ _ _ _ _ _ us hl => match us, hl with | [_, _], _ => rfl)
    have d_derive : FW.Df (head.heap_39 w.params) mg "derive" "derive" "derive" (FW.topS 61) ["family", "word"] := by
      refine' FW.df_mk KX G ?a ?l ?c ?k ?b
      (case a => k_is)
      (case l => k_is)
      (case c => k_is)
      (case k => k_is)
      (case b => exact fun _ _ _ _ _ _ us hl => match us, hl with | [_, _], _ => rfl)
    have d_trim : FW.Df (head.heap_39 w.params) mg "trim" "trim" "trim" (FW.topS 62) ["steps"] := by
      refine' FW.df_mk KX G ?a ?l ?c ?k ?b
      (case a => k_is)
      (case l => k_is)
      (case c => k_is)
      (case k => k_is)
      (case b => exact fun _ _ _ _ _ _ us hl => match us, hl with | [_], _ => rfl)
    have d_renamed : FW.Df (head.heap_39 w.params) mg "renamed" "renamed" "renamed" (FW.topS 63) ["factors", "kept"] := by
      refine' FW.df_mk KX G ?a ?l ?c ?k ?b
      (case a => k_is)
      (case l => k_is)
      (case c => k_is)
      (case k => k_is)
      (case b => exact fun _ _ _ _ _ _ us hl => match us, hl with | [_, _], _ => rfl)
    have d_answer_of : FW.Df (head.heap_39 w.params) mg "answer_of" "answer_of" "answer_of" (FW.topS 65) ["family", "word"] := by
      refine' FW.df_mk KX G ?a ?l ?c ?k ?b
      (case a => k_is)
      (case l => k_is)
      (case c => k_is)
      (case k => k_is)
      (case b => exact fun _ _ _ _ _ _ us hl => match us, hl with | [_, _], _ => rfl)
    have d_answer_for : FW.Df (head.heap_39 w.params) mg "answer_for" "answer_for" "answer_for" (FW.topS 66) ["family", "word"] := by
      refine' FW.df_mk KX G ?a ?l ?c ?k ?b
      (case a => k_is)
      (case l => k_is)
      (case c => k_is)
      (case k => k_is)
      (case b => exact fun _ _ _ _ _ _ us hl => match us, hl with | [_, _], _ => rfl)
    have d_is_answer : FW.Df (head.heap_39 w.params) mg "is_answer" "is_answer" "is_answer" (FW.topS 67) ["family", "word", "value"] := by
      refine' FW.df_mk KX G ?a ?l ?c ?k ?b
      (case a => k_is)
      (case l => k_is)
      (case c => k_is)
      (case k => k_is)
      (case b => exact fun _ _ _ _ _ _ us hl => match us, hl with | [_, _, _], _ => rfl)
    have d_accepts_answer : FW.Df (head.heap_39 w.params) mg "accepts_answer" "accepts_answer" "accepts_answer" (FW.topS 68) ["family", "word", "value"] := by
      refine' FW.df_mk KX G ?a ?l ?c ?k ?b
      (case a => k_is)
      (case l => k_is)
      (case c => k_is)
      (case k => k_is)
      (case b => exact fun _ _ _ _ _ _ us hl => match us, hl with | [_, _, _], _ => rfl)
    have d_law_stream : FW.Df (head.heap_39 w.params) mg "_law_stream" "_law_stream" "_law_stream" (FW.topS 70) ["_law_script"] := by
      refine' FW.df_mk KX G ?a ?l ?c ?k ?b
      (case a => k_is)
      (case l => k_is)
      (case c => k_is)
      (case k => k_is)
      (case b => exact fun _ _ _ _ _ _ us hl => match us, hl with | [_], _ => rfl)
    have d_law_next : FW.Df (head.heap_39 w.params) mg "_law_next" "_law_next" "_law_next" (FW.topS 71) ["_law_stream_here", "_law_many"] := by
      refine' FW.df_mk KX G ?a ?l ?c ?k ?b
      (case a => k_is)
      (case l => k_is)
      (case c => k_is)
      (case k => k_is)
      (case b => exact fun _ _ _ _ _ _ us hl => match us, hl with | [_, _], _ => rfl)
    have d_law_flip : FW.Df (head.heap_39 w.params) mg "_law_flip" "_law_flip" "_law_flip" (FW.topS 73) ["_law_letter"] := by
      refine' FW.df_mk KX G ?a ?l ?c ?k ?b
      (case a => k_is)
      (case l => k_is)
      (case c => k_is)
      (case k => k_is)
      (case b => exact fun _ _ _ _ _ _ us hl => match us, hl with | [_], _ => rfl)
    have d_law_reduce : FW.Df (head.heap_39 w.params) mg "_law_reduce" "_law_reduce" "_law_reduce" (FW.topS 74) ["_law_word_here"] := by
      refine' FW.df_mk KX G ?a ?l ?c ?k ?b
      (case a => k_is)
      (case l => k_is)
      (case c => k_is)
      (case k => k_is)
      (case b => exact fun _ _ _ _ _ _ us hl => match us, hl with | [_], _ => rfl)
    have d_law_inverse : FW.Df (head.heap_39 w.params) mg "_law_inverse" "_law_inverse" "_law_inverse" (FW.topS 75) ["_law_word_here"] := by
      refine' FW.df_mk KX G ?a ?l ?c ?k ?b
      (case a => k_is)
      (case l => k_is)
      (case c => k_is)
      (case k => k_is)
      (case b => exact fun _ _ _ _ _ _ us hl => match us, hl with | [_], _ => rfl)
    have d_law_letters : FW.Df (head.heap_39 w.params) mg "_law_letters" "_law_letters" "_law_letters" (FW.topS 76) ["_law_rank"] := by
      refine' FW.df_mk KX G ?a ?l ?c ?k ?b
      (case a => k_is)
      (case l => k_is)
      (case c => k_is)
      (case k => k_is)
      (case b => exact fun _ _ _ _ _ _ us hl => match us, hl with | [_], _ => rfl)
    have d_law_word : FW.Df (head.heap_39 w.params) mg "_law_word" "_law_word" "_law_word" (FW.topS 77) ["_law_stream_here", "_law_rank", "_law_most"] := by
      refine' FW.df_mk KX G ?a ?l ?c ?k ?b
      (case a => k_is)
      (case l => k_is)
      (case c => k_is)
      (case k => k_is)
      (case b => exact fun _ _ _ _ _ _ us hl => match us, hl with | [_, _, _], _ => rfl)
    have d_law_given : FW.Df (head.heap_39 w.params) mg "_law_given" "_law_given" "_law_given" (FW.topS 79) ["_law_stream_here", "_law_rank"] := by
      refine' FW.df_mk KX G ?a ?l ?c ?k ?b
      (case a => k_is)
      (case l => k_is)
      (case c => k_is)
      (case k => k_is)
      (case b => exact fun _ _ _ _ _ _ us hl => match us, hl with | [_, _], _ => rfl)
    have d_law_image : FW.Df (head.heap_39 w.params) mg "_law_image" "_law_image" "_law_image" (FW.topS 87) ["_law_action_here", "_law_point", "_law_word_here"] := by
      refine' FW.df_mk KX G ?a ?l ?c ?k ?b
      (case a => k_is)
      (case l => k_is)
      (case c => k_is)
      (case k => k_is)
      (case b => exact fun _ _ _ _ _ _ us hl => match us, hl with | [_, _, _], _ => rfl)
    have d_law_action : FW.Df (head.heap_39 w.params) mg "_law_action" "_law_action" "_law_action" (FW.topS 91) ["_law_stream_here", "_law_rank"] := by
      refine' FW.df_mk KX G ?a ?l ?c ?k ?b
      (case a => k_is)
      (case l => k_is)
      (case c => k_is)
      (case k => k_is)
      (case b => exact fun _ _ _ _ _ _ us hl => match us, hl with | [_, _], _ => rfl)
    have d_law_ : FW.Df (head.heap_39 w.params) mg "law" "law" "law" (FW.topS 92) ["_law_script"] := by
      refine' FW.df_mk KX G ?a ?l ?c ?k ?b
      (case a => k_is)
      (case l => k_is)
      (case c => k_is)
      (case k => k_is)
      (case b => exact fun _ _ _ _ _ _ us hl => match us, hl with | [_], _ => rfl)
    have g_LETTERS : ∃ t, mg "LETTERS" = some (.str "aAbBcC" t) := by
      refine' FW.str_mk KX G ?g ?e
      (case g => k_is)
      (case e => exact ⟨_, rfl⟩)
    have g_MOST_RANK : ∃ t, mg "MOST_RANK" = some (.int 3 t) := by
      refine' FW.int_mk KX G ?g ?e
      (case g => k_is)
      (case e => exact ⟨_, rfl⟩)
    have g_LONGEST : ∃ t, mg "LONGEST" = some (.int 24 t) := by
      refine' FW.int_mk KX G ?g ?e
      (case g => k_is)
      (case e => exact ⟨_, rfl⟩)
    have g_MOST_POINTS : ∃ t, mg "MOST_POINTS" = some (.int 60 t) := by
      refine' FW.int_mk KX G ?g ?e
      (case g => k_is)
      (case e => exact ⟨_, rfl⟩)
    have g_SMALL_actions : ∃ t, mg "SMALL_actions" = some (.str "abc" t) := by
      refine' FW.str_mk KX G ?g ?e
      (case g => k_is)
      (case e => exact ⟨_, rfl⟩)
    have g_MOST_GIVEN : ∃ t, mg "MOST_GIVEN" = some (.int 4 t) := by
      refine' FW.int_mk KX G ?g ?e
      (case g => k_is)
      (case e => exact ⟨_, rfl⟩)
    have g_MOST_LETTERS_folding : ∃ t, mg "MOST_LETTERS_folding" = some (.int 8 t) := by
      refine' FW.int_mk KX G ?g ?e
      (case g => k_is)
      (case e => exact ⟨_, rfl⟩)
    have g_SMALL_completing : ∃ t, mg "SMALL_completing" = some (.str "abc" t) := by
      refine' FW.str_mk KX G ?g ?e
      (case g => k_is)
      (case e => exact ⟨_, rfl⟩)
    have g_MOST_STEPS : ∃ t, mg "MOST_STEPS" = some (.int 100 t) := by
      refine' FW.int_mk KX G ?g ?e
      (case g => k_is)
      (case e => exact ⟨_, rfl⟩)
    have g_MOST_FACTORS : ∃ t, mg "MOST_FACTORS" = some (.int 2000 t) := by
      refine' FW.int_mk KX G ?g ?e
      (case g => k_is)
      (case e => exact ⟨_, rfl⟩)
    have g_MOST_LETTERS_derivations : ∃ t, mg "MOST_LETTERS_derivations" = some (.int 100 t) := by
      refine' FW.int_mk KX G ?g ?e
      (case g => k_is)
      (case e => exact ⟨_, rfl⟩)
    have T : FW.Txt (head.heap_39 w.params) mg := by
      refine' {
        C := ?C,
        cl := ⟨?pg, ?hd, ?po, ?sa⟩,
        mgC := PySem.W.mg_of KX G ?aC,
        n_prefixes := ?n_prefixes,
        n_edges := ?n_edges,
        n_parents := ?n_parents,
        n_links := ?n_links,
        n_steps := ?n_steps,
        is_between := d_is_between,
        is_rank := d_is_rank,
        letters_of := d_letters_of,
        is_letters := d_is_letters,
        is_word := d_is_word,
        opposite_of := d_opposite_of,
        reduce_of := d_reduce_of,
        inverse_of := d_inverse_of,
        is_integer_actions := d_is_integer_actions,
        is_permutation := d_is_permutation,
        is_action := d_is_action,
        image_by := d_image_by,
        image_of := d_image_of,
        returns_in := d_returns_in,
        is_family := d_is_family,
        check_family := d_check_family,
        opposite := d_opposite,
        shortened := d_shortened,
        Finit := FW.mf_mk ?a_Finit ?i_Finit ?l_Finit ?c_Finit ?k_Finit ?b_Finit,
        Fadd_petal := FW.mf_mk ?a_Fadd_petal ?i_Fadd_petal ?l_Fadd_petal ?c_Fadd_petal ?k_Fadd_petal ?b_Fadd_petal,
        Froot := FW.mf_mk ?a_Froot ?i_Froot ?l_Froot ?c_Froot ?k_Froot ?b_Froot,
        Fchain := FW.mf_mk ?a_Fchain ?i_Fchain ?l_Fchain ?c_Fchain ?k_Fchain ?b_Fchain,
        Flink := FW.mf_mk ?a_Flink ?i_Flink ?l_Flink ?c_Flink ?k_Flink ?b_Flink,
        Fmerge := FW.mf_mk ?a_Fmerge ?i_Fmerge ?l_Fmerge ?c_Fmerge ?k_Fmerge ?b_Fmerge,
        Ffold_two := FW.mf_mk ?a_Ffold_two ?i_Ffold_two ?l_Ffold_two ?c_Ffold_two ?k_Ffold_two ?b_Ffold_two,
        Ffold_all := FW.mf_mk ?a_Ffold_all ?i_Ffold_all ?l_Ffold_all ?c_Ffold_all ?k_Ffold_all ?b_Ffold_all,
        numbered := d_numbered,
        fold := d_fold,
        check_word := d_check_word,
        ways_in := d_ways_in,
        graph_in := d_graph_in,
        attach := d_attach,
        images_of := d_images_of,
        complete := d_complete,
        against := d_against,
        is_against := d_is_against,
        is_integer_derivations := d_is_integer_derivations,
        is_factor := d_is_factor,
        is_reduced := d_is_reduced,
        is_step := d_is_step,
        value_of := d_value_of,
        made_of := d_made_of,
        holds := d_holds,
        is_right := d_is_right,
        next_edge := d_next_edge,
        traced := d_traced,
        derive := d_derive,
        trim := d_trim,
        renamed := d_renamed,
        answer_of := d_answer_of,
        answer_for := d_answer_for,
        is_answer := d_is_answer,
        accepts_answer := d_accepts_answer,
        law_stream := d_law_stream,
        law_next := d_law_next,
        law_flip := d_law_flip,
        law_reduce := d_law_reduce,
        law_inverse := d_law_inverse,
        law_letters := d_law_letters,
        law_word := d_law_word,
        law_given := d_law_given,
        law_image := d_law_image,
        law_action := d_law_action,
        law_ := d_law_,
        mkC := ⟨?mk, ?a_Finit, ?i_Finit, ?kc⟩,
        g_LETTERS := g_LETTERS,
        g_MOST_RANK := g_MOST_RANK,
        g_LONGEST := g_LONGEST,
        g_MOST_POINTS := g_MOST_POINTS,
        g_SMALL_actions := g_SMALL_actions,
        g_MOST_GIVEN := g_MOST_GIVEN,
        g_MOST_LETTERS_folding := g_MOST_LETTERS_folding,
        g_SMALL_completing := g_SMALL_completing,
        g_MOST_STEPS := g_MOST_STEPS,
        g_MOST_FACTORS := g_MOST_FACTORS,
        g_MOST_LETTERS_derivations := g_MOST_LETTERS_derivations,
        b_isinstance := PySem.W.mg_none_of KX G ?z_isinstance,
        b_len := PySem.W.mg_none_of KX G ?z_len,
        b_all := PySem.W.mg_none_of KX G ?z_all,
        b_sorted := PySem.W.mg_none_of KX G ?z_sorted,
        b_list := PySem.W.mg_none_of KX G ?z_list,
        b_tuple := PySem.W.mg_none_of KX G ?z_tuple,
        b_range := PySem.W.mg_none_of KX G ?z_range,
        b_abs := PySem.W.mg_none_of KX G ?z_abs,
        b_int := PySem.W.mg_none_of KX G ?z_int,
        b_str := PySem.W.mg_none_of KX G ?z_str,
        b_bool := PySem.W.mg_none_of KX G ?z_bool,
        b_enumerate := PySem.W.mg_none_of KX G ?z_enumerate }
      (case aC => k_is)
      (case pg => k_is)
      (case hd => k_is)
      (case po => k_is)
      (case sa => k_is)
      (case n_prefixes => show PySem.W.findIn _ _ _ = some none; k_is)
      (case n_edges => show PySem.W.findIn _ _ _ = some none; k_is)
      (case n_parents => show PySem.W.findIn _ _ _ = some none; k_is)
      (case n_links => show PySem.W.findIn _ _ _ = some none; k_is)
      (case n_steps => show PySem.W.findIn _ _ _ = some none; k_is)
      (case a_Finit => k_is)
      (case i_Finit => k_is)
      (case l_Finit => k_is)
      (case c_Finit => k_is)
      (case k_Finit => k_is)
      (case a_Fadd_petal => k_is)
      (case i_Fadd_petal => k_is)
      (case l_Fadd_petal => k_is)
      (case c_Fadd_petal => k_is)
      (case k_Fadd_petal => k_is)
      (case a_Froot => k_is)
      (case i_Froot => k_is)
      (case l_Froot => k_is)
      (case c_Froot => k_is)
      (case k_Froot => k_is)
      (case a_Fchain => k_is)
      (case i_Fchain => k_is)
      (case l_Fchain => k_is)
      (case c_Fchain => k_is)
      (case k_Fchain => k_is)
      (case a_Flink => k_is)
      (case i_Flink => k_is)
      (case l_Flink => k_is)
      (case c_Flink => k_is)
      (case k_Flink => k_is)
      (case a_Fmerge => k_is)
      (case i_Fmerge => k_is)
      (case l_Fmerge => k_is)
      (case c_Fmerge => k_is)
      (case k_Fmerge => k_is)
      (case a_Ffold_two => k_is)
      (case i_Ffold_two => k_is)
      (case l_Ffold_two => k_is)
      (case c_Ffold_two => k_is)
      (case k_Ffold_two => k_is)
      (case a_Ffold_all => k_is)
      (case i_Ffold_all => k_is)
      (case l_Ffold_all => k_is)
      (case c_Ffold_all => k_is)
      (case k_Ffold_all => k_is)
      (case mk => k_is)
      (case kc => k_is)
      (case z_isinstance => k_is)
      (case z_len => k_is)
      (case z_all => k_is)
      (case z_sorted => k_is)
      (case z_list => k_is)
      (case z_tuple => k_is)
      (case z_range => k_is)
      (case z_abs => k_is)
      (case z_int => k_is)
      (case z_str => k_is)
      (case z_bool => k_is)
      (case z_enumerate => k_is)
      (case b_Finit => exact fun _ _ _ _ _ _ us hl => match us, hl with | [_, _], _ => rfl)
      (case b_Fadd_petal => exact fun _ _ _ _ _ _ us hl => match us, hl with | [_, _], _ => rfl)
      (case b_Froot => exact fun _ _ _ _ _ _ us hl => match us, hl with | [_, _], _ => rfl)
      (case b_Fchain => exact fun _ _ _ _ _ _ us hl => match us, hl with | [_, _], _ => rfl)
      (case b_Flink => exact fun _ _ _ _ _ _ us hl => match us, hl with | [_, _, _, _], _ => rfl)
      (case b_Fmerge => exact fun _ _ _ _ _ _ us hl => match us, hl with | [_, _, _, _], _ => rfl)
      (case b_Ffold_two => exact fun _ _ _ _ _ _ us hl => match us, hl with | [_, _, _], _ => rfl)
      (case b_Ffold_all => exact fun _ _ _ _ _ _ us hl => match us, hl with | [_], _ => rfl)
    refine' FW.all_end KX G hmg T ?a ?l ?c ?k
    (case a => k_is)
    (case l => k_is)
    (case c => k_is)
    (case k => k_is)
