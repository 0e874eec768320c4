import PyProof.Rows.All
import Wide.All
import OpenK.AllK
import Wide.FinOn
import HandS.ForMost
import HandS.TupSets
import HandS.Strs
import KE.KeyNested
import HandS.IsInst
import HandS.Style
import HandS.TupAny
import HandS.TupMul
import HandS.Deep
import HandS.Walk
import HandS.Conv
import HandS.Rev
import HandS.Exc
import KE.SortData
import KE.KIndexOf
import KE.GoesMore
import HandS.More
import PySem.Challenge.RW_boughswap_k30_whole_shapes_lose_nothing
set_option Elab.async false
set_option linter.all false
set_option maxRecDepth 100000
set_option maxHeartbeats 4000000
/-! Plain mathematics of the law: rows of trees, racks, shapes, things laid flat, one opening and one order. -/
namespace Bs
/-- a row of just n trees; ks tells how many trees stand within each maker -/
inductive Rows (ks : List Nat) : Nat → List Nat → Prop
  | nil : Rows ks 0 []
  | cons {n m : Nat} {r : List Nat} : m < ks.length → Rows ks (n + ks.getD m 0) r → Rows ks (n + 1) (m :: r)

variable {ks : List Nat}

theorem Rows.inv {n : Nat} {row : List Nat} (h : Rows ks n row) : (n = 0 ∧ row = []) ∨ ∃ j m r, n = j + 1 ∧ row = m :: r ∧ m < ks.length ∧ Rows ks (j + ks.getD m 0) r := by
  cases h with
  | nil => exact .inl ⟨rfl, rfl⟩
  | cons h1 h2 => exact .inr ⟨_, _, _, rfl, rfl, h1, h2⟩
theorem Rows.zero {row : List Nat} (h : Rows ks 0 row) : row = [] := by
  rcases h.inv with ⟨_, e⟩ | ⟨j, m, r, e, _⟩
  · exact e
  · omega
theorem Rows.of_nil {n : Nat} (h : Rows ks n []) : n = 0 := by
  rcases h.inv with ⟨e, _⟩ | ⟨j, m, r, _, e, _⟩
  · exact e
  · cases e
theorem Rows.of_cons {n m : Nat} {r : List Nat} (h : Rows ks n (m :: r)) : ∃ j, n = j + 1 ∧ m < ks.length ∧ Rows ks (j + ks.getD m 0) r := by
  rcases h.inv with ⟨_, e⟩ | ⟨j, m', r', e1, e2, e3, e4⟩
  · cases e
  · injection e2 with e5 e6
    subst e5; subst e6
    exact ⟨j, e1, e3, e4⟩
theorem Rows.app {n m : Nat} {a b : List Nat} (h : Rows ks n a) (h2 : Rows ks m b) : Rows ks (n + m) (a ++ b) := by
  induction h with
  | nil => rw [Nat.zero_add]; exact h2
  | @cons n' m' r h1 _ ih =>
    have e : n' + 1 + m = (n' + m) + 1 := by omega
    rw [e]
    refine Rows.cons h1 ?_
    have e2 : n' + m + ks.getD m' 0 = n' + ks.getD m' 0 + m := by omega
    rw [e2]
    exact ih
theorem Rows.split : ∀ (row : List Nat) (n m : Nat), Rows ks (n + m) row → ∃ a b, row = a ++ b ∧ Rows ks n a ∧ Rows ks m b
  | row, 0, m, h => ⟨[], row, rfl, .nil, by rw [Nat.zero_add] at h; exact h⟩
  | [], n + 1, m, h => by have := h.of_nil; omega
  | x :: r, n + 1, m, h => by
    obtain ⟨j, e, h1, h2⟩ := h.of_cons
    have e2 : j + ks.getD x 0 = (n + ks.getD x 0) + m := by omega
    rw [e2] at h2
    obtain ⟨a, b, e3, ha, hb⟩ := Rows.split r _ _ h2
    exact ⟨x :: a, b, by rw [e3]; rfl, .cons h1 ha, hb⟩
theorem Rows.same {n : Nat} {a : List Nat} (h : Rows ks n a) : ∀ {a' b b' : List Nat}, Rows ks n a' → a ++ b = a' ++ b' → a = a' ∧ b = b' := by
  induction h with
  | nil => intro a' b b' h' e; rw [h'.zero] at e ⊢; exact ⟨rfl, e⟩
  | @cons n' m' r h1 _ ih =>
    intro a' b b' h' e
    rcases h'.inv with ⟨e1, _⟩ | ⟨j, m2, r2, e1, e2, _, h4⟩
    · omega
    · subst e2
      injection e with e5 e6
      subst e5
      have ej : j = n' := by omega
      subst ej
      obtain ⟨e7, e8⟩ := ih h4 e6
      exact ⟨by rw [e7], e8⟩
theorem Rows.det {n : Nat} {a : List Nat} (h : Rows ks n a) : ∀ {m : Nat}, Rows ks m a → n = m := by
  induction h with
  | nil => intro m h'; exact h'.of_nil.symm
  | @cons n' m' r h1 _ ih =>
    intro m h'
    obtain ⟨j, e, _, h2⟩ := h'.of_cons
    have := ih h2
    omega
theorem Rows.mem {n : Nat} {a : List Nat} (h : Rows ks n a) : ∀ x ∈ a, x < ks.length := by
  induction h with
  | nil => intro x hx; cases hx
  | cons h1 _ ih =>
    intro x hx
    rcases List.mem_cons.mp hx with e | hx
    · rw [e]; exact h1
    · exact ih x hx
theorem Rows.flat {ts : List (List Nat)} (h : ∀ t ∈ ts, Rows ks 1 t) : Rows ks ts.length ts.flatten := by
  induction ts with
  | nil => exact .nil
  | cons t ts ih =>
    have h1 := h t List.mem_cons_self
    have h2 := ih fun x hx => h x (List.mem_cons_of_mem _ hx)
    have h3 := h1.app h2
    rw [Nat.add_comm] at h3
    exact h3
theorem Rows.trees : ∀ {n : Nat} {row : List Nat}, Rows ks n row → ∃ ts : List (List Nat), ts.length = n ∧ (∀ t ∈ ts, Rows ks 1 t) ∧ row = ts.flatten
  | 0, row, h => ⟨[], rfl, (fun t ht => by cases ht), h.zero⟩
  | n + 1, row, h => by
    rw [Nat.add_comm] at h
    obtain ⟨a, b, e, ha, hb⟩ := Rows.split row 1 n h
    obtain ⟨ts, e1, e2, e3⟩ := Rows.trees hb
    refine ⟨a :: ts, by rw [List.length_cons, e1], fun t ht => ?_, by rw [e, e3]; rfl⟩
    rcases List.mem_cons.mp ht with e4 | ht
    · rw [e4]; exact ha
    · exact e2 t ht
theorem Rows.pos {n : Nat} {a : List Nat} (h : Rows ks n a) : n ≤ a.length := by
  obtain ⟨ts, e1, e2, e3⟩ := h.trees
  rw [e3, ← e1]
  clear e3 e1 h
  induction ts with
  | nil => exact Nat.zero_le _
  | cons t ts ih =>
    have h1 := ih fun x hx => e2 x (List.mem_cons_of_mem _ hx)
    have h2 := e2 t List.mem_cons_self
    have h3 : 0 < t.length := by
      cases t with
      | nil => have := h2.of_nil; omega
      | cons _ _ => exact Nat.succ_pos _
    simp only [List.flatten_cons, List.length_append, List.length_cons]
    omega

/-! ### the scan: wanted trees, ends -/
def stp (ks : List Nat) (w m : Nat) : Nat := max w 1 - 1 + ks.getD m 0
def ends (ks : List Nat) : Nat → Nat → List Nat → List Nat
  | _, _, [] => []
  | o, w, m :: r => if stp ks w m = 0 then (o + 1) :: ends ks (o + 1) (stp ks w m) r else ends ks (o + 1) (stp ks w m) r
def fin (ks : List Nat) (w : Nat) (row : List Nat) : Nat := row.foldl (stp ks) w
def cums : Nat → List (List Nat) → List Nat
  | _, [] => []
  | o, t :: ts => (o + t.length) :: cums (o + t.length) ts
theorem stp_zero (m : Nat) : stp ks 0 m = stp ks 1 m := rfl
theorem stp_succ (w m : Nat) : stp ks (w + 1) m = w + ks.getD m 0 := by unfold stp; omega
theorem fin_zero (m : Nat) (r : List Nat) : fin ks 0 (m :: r) = fin ks 1 (m :: r) := rfl
theorem ends_zero (o m : Nat) (r : List Nat) : ends ks o 0 (m :: r) = ends ks o 1 (m :: r) := rfl
/-- while trees are wanted, the next end is the row's -/
theorem ends_rows {w : Nat} {t : List Nat} (h : Rows ks w t) : ∀ (o : Nat) (rest : List Nat), 0 < w → ends ks o w (t ++ rest) = (o + t.length) :: ends ks (o + t.length) 0 rest ∧ fin ks w (t ++ rest) = fin ks 0 rest := by
  induction h with
  | nil => intro o rest h; omega
  | @cons n' m' r h1 h2 ih =>
    intro o rest _
    have es := stp_succ (ks := ks) n' m'
    show (if stp ks (n' + 1) m' = 0 then (o + 1) :: ends ks (o + 1) (stp ks (n' + 1) m') (r ++ rest) else ends ks (o + 1) (stp ks (n' + 1) m') (r ++ rest)) = _ ∧ fin ks (stp ks (n' + 1) m') (r ++ rest) = _
    rw [es]
    by_cases c : n' + ks.getD m' 0 = 0
    · rw [c] at h2 ⊢
      have er := h2.zero
      subst er
      exact ⟨rfl, rfl⟩
    · rw [if_neg c]
      obtain ⟨e1, e2⟩ := ih (o + 1) rest (Nat.pos_of_ne_zero c)
      have el : o + (m' :: r).length = o + 1 + r.length := by simp only [List.length_cons]; omega
      exact ⟨by rw [e1, el], e2⟩
theorem ends_flat : ∀ (ts : List (List Nat)) (o : Nat), (∀ t ∈ ts, Rows ks 1 t) → ends ks o 0 ts.flatten = cums o ts ∧ fin ks 0 ts.flatten = 0
  | [], o, _ => ⟨rfl, rfl⟩
  | t :: ts, o, h => by
    have h1 := h t List.mem_cons_self
    obtain ⟨e1, e2⟩ := ends_rows h1 o ts.flatten Nat.one_pos
    obtain ⟨e3, e4⟩ := ends_flat ts (o + t.length) fun x hx => h x (List.mem_cons_of_mem _ hx)
    cases t with
    | nil => have := h1.of_nil; omega
    | cons m r =>
      rw [List.flatten_cons]
      show ends ks o 0 (m :: (r ++ ts.flatten)) = _ ∧ fin ks 0 (m :: (r ++ ts.flatten)) = _
      rw [ends_zero, fin_zero]
      refine ⟨?_, e2.trans e4⟩
      show ends ks o 1 ((m :: r) ++ ts.flatten) = _
      rw [e1, e3]; rfl
theorem cums_len : ∀ (ts : List (List Nat)) (o : Nat), (cums o ts).length = ts.length
  | [], _ => rfl
  | _ :: ts, _ => by simp only [cums, List.length_cons, cums_len ts]
theorem cums_at : ∀ (ts : List (List Nat)) (o j : Nat), j < ts.length → (o :: cums o ts)[j]? = some (o + (ts.take j).flatten.length) ∧ (cums o ts)[j]? = some (o + (ts.take (j + 1)).flatten.length)
  | [], _, j, h => by simp at h
  | t :: ts, o, 0, _ => ⟨rfl, by simp [cums]⟩
  | t :: ts, o, j + 1, h => by
    obtain ⟨e1, e2⟩ := cums_at ts (o + t.length) j (by simpa using h)
    refine ⟨?_, ?_⟩
    · show ((o + t.length) :: cums (o + t.length) ts)[j]? = _
      rw [e1, List.take_succ_cons, List.flatten_cons, List.length_append]
      congr 1; omega
    · show (cums (o + t.length) ts)[j]? = _
      rw [e2, List.take_succ_cons, List.flatten_cons, List.length_append]
      congr 1; omega
theorem cut_at : ∀ (ts : List (List Nat)) (j : Nat) (t : List Nat), ts[j]? = some t → (ts.flatten.drop (ts.take j).flatten.length).take t.length = t ∧ (ts.take (j + 1)).flatten.length = (ts.take j).flatten.length + t.length
  | [], j, t, h => by simp at h
  | x :: ts, 0, t, h => by
    have e : x = t := by simpa using h
    subst e
    simp
  | x :: ts, j + 1, t, h => by
    obtain ⟨e1, e2⟩ := cut_at ts j t (by simpa using h)
    refine ⟨?_, ?_⟩
    · rw [List.take_succ_cons, List.flatten_cons, List.flatten_cons, List.length_append, List.drop_append, List.drop_eq_nil_of_le (by omega), List.nil_append]
      have e3 : x.length + (ts.take j).flatten.length - x.length = (ts.take j).flatten.length := by omega
      rw [e3]; exact e1
    · rw [List.take_succ_cons, List.flatten_cons, List.length_append, e2, List.take_succ_cons, List.flatten_cons, List.length_append]
      omega

/-! ### where a slot begins -/
/-- the length of the first n trees -/
def tlen (ks : List Nat) : Nat → List Nat → Nat
  | 0, _ => 0
  | _ + 1, [] => 0
  | n + 1, m :: r => 1 + tlen ks (n + ks.getD m 0) r
theorem tlen_rows {n : Nat} {a : List Nat} (h : Rows ks n a) : ∀ b, tlen ks n (a ++ b) = a.length := by
  induction h with
  | nil => intro b; cases b <;> rfl
  | @cons n' m' r h1 h2 ih =>
    intro b
    show 1 + tlen ks (n' + ks.getD m' 0) (r ++ b) = r.length + 1
    rw [ih b]; omega

/-! ### things of racks -/
abbrev Thg := Nat × List Nat
def IsThg (ks r : List Nat) (x : Thg) : Prop := ∃ n, r[x.1]? = some n ∧ Rows ks n x.2
theorem IsThg.lt {r : List Nat} {x : Thg} (h : IsThg ks r x) : x.1 < r.length := by
  obtain ⟨n, e, _⟩ := h
  exact (List.getElem?_eq_some_iff.mp e).1

/-! ### shapes -/
inductive Shp where
  | none | one | tree | either (a b : Shp) | both (a b : Shp)
def Shp.deep : Shp → Nat
  | .either a b => max a.deep b.deep + 1
  | .both a b => max a.deep b.deep + 1
  | _ => 1
inductive Itm where
  | unit | tr (t : List Nat) | lf (i : Itm) | rt (i : Itm) | pr (i j : Itm)
  deriving DecidableEq
def rk : Shp → List Nat
  | .none => []
  | .one => [0]
  | .tree => [1]
  | .either a b => rk a ++ rk b
  | .both a b => (rk a).flatMap fun f => (rk b).map fun g => f + g
/-- things of a shape -/
inductive Of (ks : List Nat) : Shp → Itm → Prop
  | one : Of ks .one .unit
  | tree {t} : Rows ks 1 t → Of ks .tree (.tr t)
  | lf {a b i} : Of ks a i → Of ks (.either a b) (.lf i)
  | rt {a b i} : Of ks b i → Of ks (.either a b) (.rt i)
  | pr {a b i j} : Of ks a i → Of ks b j → Of ks (.both a b) (.pr i j)
def flt : Shp → Itm → Thg
  | .tree, .tr t => (0, t)
  | .either a _, .lf i => flt a i
  | .either a b, .rt i => ((rk a).length + (flt b i).1, (flt b i).2)
  | .both a b, .pr i j => ((flt a i).1 * (rk b).length + (flt b j).1, (flt a i).2 ++ (flt b j).2)
  | _, _ => (0, [])
theorem times_len (a b : List Nat) : (a.flatMap fun f => b.map fun g => f + g).length = a.length * b.length := by
  induction a with
  | nil => simp
  | cons x a ih => rw [List.flatMap_cons, List.length_append, ih, List.length_map, List.length_cons, Nat.succ_mul, Nat.add_comm]
theorem times_at : ∀ (a b : List Nat) (p q x y : Nat), a[p]? = some x → b[q]? = some y → (a.flatMap fun f => b.map fun g => f + g)[p * b.length + q]? = some (x + y)
  | [], b, p, q, x, y, h, _ => by simp at h
  | z :: a, b, 0, q, x, y, h, h2 => by
    have e : z = x := by simpa using h
    subst e
    have hq := (List.getElem?_eq_some_iff.mp h2).1
    rw [List.flatMap_cons, Nat.zero_mul, Nat.zero_add, List.getElem?_append_left (by rw [List.length_map]; exact hq), List.getElem?_map, h2]
    rfl
  | z :: a, b, p + 1, q, x, y, h, h2 => by
    rw [List.flatMap_cons, List.getElem?_append_right (by rw [List.length_map, Nat.succ_mul]; omega), List.length_map]
    have e : (p + 1) * b.length + q - b.length = p * b.length + q := by rw [Nat.succ_mul]; omega
    rw [e]
    exact times_at a b p q x y (by simpa using h) h2
theorem flt_ok {s : Shp} {i : Itm} (h : Of ks s i) : IsThg ks (rk s) (flt s i) := by
  induction h with
  | one => exact ⟨0, rfl, .nil⟩
  | tree h => exact ⟨1, rfl, h⟩
  | lf _ ih =>
    obtain ⟨n, e, h⟩ := ih
    exact ⟨n, (List.getElem?_append_left (List.getElem?_eq_some_iff.mp e).1).trans e, h⟩
  | @rt a b i _ ih =>
    obtain ⟨n, e, h⟩ := ih
    refine ⟨n, ?_, h⟩
    show (rk a ++ rk b)[(rk a).length + (flt b i).1]? = _
    rw [List.getElem?_append_right (by omega), Nat.add_sub_cancel_left]; exact e
  | @pr a b i j _ _ ih1 ih2 =>
    obtain ⟨n, e, h⟩ := ih1
    obtain ⟨n2, e2, h2⟩ := ih2
    exact ⟨n + n2, times_at _ _ _ _ _ _ e e2, h.app h2⟩
theorem mul_inj {p q p' q' l : Nat} (h : q < l) (h' : q' < l) (e : p * l + q = p' * l + q') : p = p' ∧ q = q' := by
  have d : (p * l + q) / l = p := by
    rw [Nat.mul_comm, Nat.mul_add_div (by omega), Nat.div_eq_of_lt h]; rfl
  have d' : (p' * l + q') / l = p' := by
    rw [Nat.mul_comm, Nat.mul_add_div (by omega), Nat.div_eq_of_lt h']; rfl
  have ep : p = p' := by rw [← d, ← d', e]
  subst ep
  exact ⟨rfl, by omega⟩
theorem flt_inj {s : Shp} {i : Itm} (h : Of ks s i) : ∀ {j : Itm}, Of ks s j → flt s i = flt s j → i = j := by
  induction h with
  | one => intro j h' _; cases h'; rfl
  | tree h =>
    intro j h' e
    cases h' with
    | tree h2 => exact congrArg Itm.tr (congrArg Prod.snd e)
  | @lf a b i h ih =>
    intro j h' e
    cases h' with
    | lf h2 => exact congrArg Itm.lf (ih h2 e)
    | @rt _ _ j h2 =>
      have l := (flt_ok h).lt
      have e1 : (flt a i).1 = (rk a).length + (flt b j).1 := congrArg Prod.fst e
      omega
  | @rt a b i h ih =>
    intro j h' e
    cases h' with
    | @lf _ _ j h2 =>
      have l := (flt_ok h2).lt
      have e1 : (rk a).length + (flt b i).1 = (flt a j).1 := congrArg Prod.fst e
      omega
    | @rt _ _ j h2 =>
      have e1 : (rk a).length + (flt b i).1 = (rk a).length + (flt b j).1 := congrArg Prod.fst e
      have e2 : (flt (.either a b) (.rt i)).2 = (flt (.either a b) (.rt j)).2 := congrArg Prod.snd e
      have e3 : (flt b i).2 = (flt b j).2 := e2
      exact congrArg Itm.rt (ih h2 (Prod.ext (by omega) e3))
  | @pr a b i j h1 h2 ih1 ih2 =>
    intro k h' e
    cases h' with
    | @pr _ _ i' j' h3 h4 =>
      have e1 : (flt a i).1 * (rk b).length + (flt b j).1 = (flt a i').1 * (rk b).length + (flt b j').1 := congrArg Prod.fst e
      have e2 : (flt a i).2 ++ (flt b j).2 = (flt a i').2 ++ (flt b j').2 := congrArg Prod.snd e
      obtain ⟨ep, eq⟩ := mul_inj (flt_ok h2).lt (flt_ok h4).lt e1
      obtain ⟨n, ha, hr⟩ := flt_ok h1
      obtain ⟨n', ha', hr'⟩ := flt_ok h3
      rw [ep, ha'] at ha
      have en : n' = n := Option.some.inj ha
      subst en
      obtain ⟨ea, eb⟩ := hr.same hr' e2
      rw [ih1 h3 (Prod.ext ep ea), ih2 h4 (Prod.ext eq eb)]

/-! ### all things of some trees -/
def all (ts : List (List Nat)) : Shp → List Itm
  | .none => []
  | .one => [.unit]
  | .tree => ts.map .tr
  | .either a b => (all ts a).map .lf ++ (all ts b).map .rt
  | .both a b => (all ts a).flatMap fun i => (all ts b).map fun j => .pr i j
def cnt (n : Nat) : Shp → Nat
  | .none => 0
  | .one => 1
  | .tree => n
  | .either a b => cnt n a + cnt n b
  | .both a b => cnt n a * cnt n b
def sig : Shp → Itm → List Nat
  | .tree, .tr t => t
  | .either a _, .lf i => sig a i
  | .either _ b, .rt i => sig b i
  | .both a b, .pr i j => sig a i ++ sig b j
  | _, _ => []
theorem all_len (ts : List (List Nat)) : ∀ s, (all ts s).length = cnt ts.length s
  | .none => rfl
  | .one => rfl
  | .tree => by simp [all, cnt]
  | .either a b => by simp [all, cnt, all_len ts a, all_len ts b]
  | .both a b => by
    have q : ∀ (x : List Itm) (y : List Itm), (x.flatMap fun i => y.map fun j => Itm.pr i j).length = x.length * y.length := fun x y => by
      induction x with
      | nil => simp
      | cons z x ih => rw [List.flatMap_cons, List.length_append, ih, List.length_map, List.length_cons, Nat.succ_mul, Nat.add_comm]
    simp [all, cnt, q, all_len ts a, all_len ts b]
theorem cnt_one : ∀ s, cnt 1 s = (rk s).length
  | .none => rfl
  | .one => rfl
  | .tree => rfl
  | .either a b => by simp [cnt, rk, cnt_one a, cnt_one b]
  | .both a b => by simp only [cnt, rk, cnt_one a, cnt_one b, times_len]
theorem all_of {ts : List (List Nat)} (ht : ∀ t ∈ ts, Rows ks 1 t) : ∀ s i, i ∈ all ts s → Of ks s i
  | .none, i, h => by cases h
  | .one, i, h => by
    have e : i = .unit := by simpa [all] using h
    rw [e]; exact .one
  | .tree, i, h => by
    obtain ⟨t, h1, h2⟩ := List.mem_map.mp h
    rw [← h2]; exact .tree (ht t h1)
  | .either a b, i, h => by
    rcases List.mem_append.mp h with h | h
    · obtain ⟨j, h1, h2⟩ := List.mem_map.mp h
      rw [← h2]; exact .lf (all_of ht a j h1)
    · obtain ⟨j, h1, h2⟩ := List.mem_map.mp h
      rw [← h2]; exact .rt (all_of ht b j h1)
  | .both a b, i, h => by
    obtain ⟨j, h1, h2⟩ := List.mem_flatMap.mp h
    obtain ⟨k, h3, h4⟩ := List.mem_map.mp h2
    rw [← h4]; exact .pr (all_of ht a j h1) (all_of ht b k h3)
theorem sig_eq {s : Shp} {i : Itm} (h : Of ks s i) : sig s i = (flt s i).2 := by
  induction h with
  | one => rfl
  | tree _ => rfl
  | lf _ ih => exact ih
  | rt _ ih => exact ih
  | pr _ _ ih1 ih2 => show _ ++ _ = _ ++ _; rw [ih1, ih2]
theorem map_nodup {α β : Type} {f : α → β} : ∀ {l : List α}, (∀ x ∈ l, ∀ y ∈ l, f x = f y → x = y) → l.Nodup → (l.map f).Nodup
  | [], _, _ => .nil
  | a :: l, hf, h => by
    obtain ⟨h1, h2⟩ := List.nodup_cons.mp h
    rw [List.map_cons]
    refine List.nodup_cons.mpr ⟨fun hm => ?_, map_nodup (fun x hx y hy => hf x (List.mem_cons_of_mem _ hx) y (List.mem_cons_of_mem _ hy)) h2⟩
    obtain ⟨y, hy, e⟩ := List.mem_map.mp hm
    have := hf y (List.mem_cons_of_mem _ hy) a List.mem_cons_self e
    subst this
    exact h1 hy
theorem flatMap_nodup {α β : Type} {f : α → List β} : ∀ {l : List α}, l.Nodup → (∀ x ∈ l, (f x).Nodup) → (∀ x ∈ l, ∀ y ∈ l, ∀ z, z ∈ f x → z ∈ f y → x = y) → (l.flatMap f).Nodup
  | [], _, _, _ => .nil
  | a :: l, h, hn, hd => by
    obtain ⟨h1, h2⟩ := List.nodup_cons.mp h
    rw [List.flatMap_cons]
    refine List.nodup_append.mpr ⟨hn a List.mem_cons_self, flatMap_nodup h2 (fun x hx => hn x (List.mem_cons_of_mem _ hx)) (fun x hx y hy => hd x (List.mem_cons_of_mem _ hx) y (List.mem_cons_of_mem _ hy)), fun z hz w hw e => ?_⟩
    subst e
    obtain ⟨y, hy, hz2⟩ := List.mem_flatMap.mp hw
    have := hd a List.mem_cons_self y (List.mem_cons_of_mem _ hy) z hz hz2
    subst this
    exact h1 hy
theorem all_nodup {ts : List (List Nat)} (hn : ts.Nodup) : ∀ s, (all ts s).Nodup
  | .none => .nil
  | .one => by simp [all]
  | .tree => map_nodup (fun x _ y _ e => Itm.tr.inj e) hn
  | .either a b => by
    refine List.nodup_append.mpr ⟨map_nodup (fun x _ y _ e => Itm.lf.inj e) (all_nodup hn a), map_nodup (fun x _ y _ e => Itm.rt.inj e) (all_nodup hn b), fun z hz w hw e => ?_⟩
    subst e
    obtain ⟨x, _, e1⟩ := List.mem_map.mp hz
    obtain ⟨y, _, e2⟩ := List.mem_map.mp hw
    rw [← e1] at e2
    cases e2
  | .both a b => by
    refine flatMap_nodup (all_nodup hn a) (fun x _ => map_nodup (fun y _ z _ e => (Itm.pr.inj e).2) (all_nodup hn b)) (fun x _ y _ z hz hw => ?_)
    obtain ⟨u, _, e1⟩ := List.mem_map.mp hz
    obtain ⟨v, _, e2⟩ := List.mem_map.mp hw
    rw [← e1] at e2
    exact (Itm.pr.inj e2).1.symm
/-- all rows of n of some trees -/
def rowsN (ts : List (List Nat)) : Nat → List (List Nat)
  | 0 => [[]]
  | n + 1 => (rowsN ts n).flatMap fun r => ts.map fun t => r ++ t
/-- all things of a rack, of some trees, the first form's place told -/
def spotsF (ts : List (List Nat)) : Nat → List Nat → List Thg
  | _, [] => []
  | p, n :: r => (rowsN ts n).map (fun x => (p, x)) ++ spotsF ts (p + 1) r
abbrev spots (ts : List (List Nat)) (r : List Nat) : List Thg := spotsF ts 0 r
theorem rowsN_rows {ts : List (List Nat)} (ht : ∀ t ∈ ts, Rows ks 1 t) : ∀ n row, row ∈ rowsN ts n → Rows ks n row
  | 0, row, h => by
    have e : row = [] := by simpa [rowsN] using h
    rw [e]; exact .nil
  | n + 1, row, h => by
    obtain ⟨r, h1, h2⟩ := List.mem_flatMap.mp h
    obtain ⟨t, h3, h4⟩ := List.mem_map.mp h2
    rw [← h4]
    exact (rowsN_rows ht n r h1).app (ht t h3)
theorem rowsN_nodup {ts : List (List Nat)} (ht : ∀ t ∈ ts, Rows ks 1 t) (hn : ts.Nodup) : ∀ n, (rowsN ts n).Nodup
  | 0 => by simp [rowsN]
  | n + 1 => by
    refine flatMap_nodup (rowsN_nodup ht hn n) (fun x _ => map_nodup (fun y _ z _ e => List.append_cancel_left e) hn) (fun x hx y hy z hz hw => ?_)
    obtain ⟨u, _, e1⟩ := List.mem_map.mp hz
    obtain ⟨v, _, e2⟩ := List.mem_map.mp hw
    rw [← e1] at e2
    exact ((rowsN_rows ht n x hx).same (rowsN_rows ht n y hy) e2.symm).1
theorem mem_rowsN (ts : List (List Nat)) : ∀ n row, row ∈ rowsN ts n ↔ ∃ l : List (List Nat), l.length = n ∧ (∀ t ∈ l, t ∈ ts) ∧ row = l.flatten
  | 0, row => by
    constructor
    · intro h
      exact ⟨[], rfl, (fun t ht => by cases ht), by simpa [rowsN] using h⟩
    · rintro ⟨l, h1, _, h3⟩
      have e := List.length_eq_zero_iff.mp h1
      rw [h3, e]; simp [rowsN]
  | n + 1, row => by
    constructor
    · intro h
      obtain ⟨r, h1, h2⟩ := List.mem_flatMap.mp h
      obtain ⟨t, h3, h4⟩ := List.mem_map.mp h2
      obtain ⟨l, h5, h6, h7⟩ := (mem_rowsN ts n r).mp h1
      refine ⟨l ++ [t], by simp [h5], fun x hx => ?_, by rw [← h4, h7]; simp⟩
      rcases List.mem_append.mp hx with hx | hx
      · exact h6 x hx
      · rw [List.mem_singleton.mp hx]; exact h3
    · rintro ⟨l, h1, h2, h3⟩
      have hl : l ≠ [] := fun e => by rw [e] at h1; simp at h1
      have e := List.dropLast_concat_getLast hl
      refine List.mem_flatMap.mpr ⟨l.dropLast.flatten, (mem_rowsN ts n _).mpr ⟨l.dropLast, by rw [List.length_dropLast, h1]; rfl, fun t ht => h2 t (List.mem_of_mem_dropLast' ht), rfl⟩, List.mem_map.mpr ⟨l.getLast hl, h2 _ (List.getLast_mem hl), ?_⟩⟩
      rw [h3]
      conv => rhs; rw [← e]
      simp
where
  List.mem_of_mem_dropLast' {l : List (List Nat)} {t : List Nat} (h : t ∈ l.dropLast) : t ∈ l := by
    rw [List.dropLast_eq_take] at h
    exact List.mem_of_mem_take h
theorem mem_spotsF (ts : List (List Nat)) : ∀ (r : List Nat) (p : Nat) (x : Thg), x ∈ spotsF ts p r ↔ ∃ q n, r[q]? = some n ∧ x.1 = p + q ∧ x.2 ∈ rowsN ts n
  | [], p, x => by simp [spotsF]
  | n :: r, p, x => by
    rw [spotsF, List.mem_append, mem_spotsF ts r (p + 1) x]
    constructor
    · rintro (h | ⟨q, k, h1, h2, h3⟩)
      · obtain ⟨y, hy, e⟩ := List.mem_map.mp h
        rw [← e]
        exact ⟨0, n, rfl, rfl, hy⟩
      · exact ⟨q + 1, k, by simpa using h1, by omega, h3⟩
    · rintro ⟨q, k, h1, h2, h3⟩
      cases q with
      | zero =>
        have e : n = k := by simpa using h1
        subst e
        exact .inl (List.mem_map.mpr ⟨x.2, h3, Prod.ext (by simpa using h2.symm) rfl⟩)
      | succ q => exact .inr ⟨q, k, by simpa using h1, by omega, h3⟩
theorem mem_spots {ts : List (List Nat)} {r : List Nat} {x : Thg} : x ∈ spots ts r ↔ ∃ n, r[x.1]? = some n ∧ x.2 ∈ rowsN ts n := by
  rw [mem_spotsF]
  constructor
  · rintro ⟨q, n, h1, h2, h3⟩
    exact ⟨n, by rw [h2, Nat.zero_add]; exact h1, h3⟩
  · rintro ⟨n, h1, h2⟩
    exact ⟨x.1, n, h1, by omega, h2⟩
theorem spotsF_nodup {ts : List (List Nat)} (ht : ∀ t ∈ ts, Rows ks 1 t) (hn : ts.Nodup) : ∀ (r : List Nat) (p : Nat), (spotsF ts p r).Nodup
  | [], _ => .nil
  | n :: r, p => by
    refine List.nodup_append.mpr ⟨map_nodup (fun x _ y _ e => congrArg Prod.snd e) (rowsN_nodup ht hn n), spotsF_nodup ht hn r (p + 1), fun z hz w hw e => ?_⟩
    subst e
    obtain ⟨y, _, e1⟩ := List.mem_map.mp hz
    obtain ⟨q, k, _, e2, _⟩ := (mem_spotsF ts r (p + 1) z).mp hw
    rw [← e1] at e2
    have e3 : p = p + 1 + q := e2
    omega
theorem rowsN_add (ts : List (List Nat)) (n : Nat) (a b : List Nat) (m : Nat) (h1 : a ∈ rowsN ts n) (h2 : b ∈ rowsN ts m) : a ++ b ∈ rowsN ts (n + m) := by
  obtain ⟨l, e1, e2, e3⟩ := (mem_rowsN ts n a).mp h1
  obtain ⟨k, f1, f2, f3⟩ := (mem_rowsN ts m b).mp h2
  refine (mem_rowsN ts (n + m) _).mpr ⟨l ++ k, by simp [e1, f1], fun t ht => ?_, by rw [e3, f3]; simp⟩
  rcases List.mem_append.mp ht with h | h
  · exact e2 t h
  · exact f2 t h
theorem rowsN_sub (ts : List (List Nat)) (n m : Nat) (c : List Nat) (h : c ∈ rowsN ts (n + m)) : ∃ a b, c = a ++ b ∧ a ∈ rowsN ts n ∧ b ∈ rowsN ts m := by
  obtain ⟨l, e1, e2, e3⟩ := (mem_rowsN ts _ c).mp h
  refine ⟨(l.take n).flatten, (l.drop n).flatten, ?_, (mem_rowsN ts n _).mpr ⟨l.take n, by rw [List.length_take]; omega, fun t ht => e2 t (List.mem_of_mem_take ht), rfl⟩, (mem_rowsN ts m _).mpr ⟨l.drop n, by rw [List.length_drop]; omega, fun t ht => e2 t (List.mem_of_mem_drop ht), rfl⟩⟩
  rw [e3, ← List.flatten_append, List.take_append_drop]
/-- laid flat, all things are those of the rack -/
theorem flat_mem {ts : List (List Nat)} (x : Thg) : ∀ s, (∃ i ∈ all ts s, flt s i = x) ↔ x ∈ spots ts (rk s) := by
  intro s
  induction s generalizing x with
  | none =>
    rw [mem_spots]
    constructor
    · rintro ⟨i, h, _⟩; cases h
    · rintro ⟨n, h, _⟩; simp [rk] at h
  | one =>
    rw [mem_spots]
    constructor
    · rintro ⟨i, h, e⟩
      have ei : i = .unit := by simpa [all] using h
      rw [ei] at e
      rw [← e]
      exact ⟨0, rfl, by simp [flt, rowsN]⟩
    · rintro ⟨n, h, h2⟩
      refine ⟨.unit, by simp [all], ?_⟩
      have hx : x.1 = 0 := by
        have := (List.getElem?_eq_some_iff.mp h).1
        simp [rk] at this; omega
      rw [hx] at h
      have en : 0 = n := by simpa [rk] using h
      subst en
      have e2 : x.2 = [] := by simpa [rowsN] using h2
      exact Prod.ext hx.symm e2.symm
  | tree =>
    rw [mem_spots]
    constructor
    · rintro ⟨i, h, e⟩
      obtain ⟨t, h1, h2⟩ := List.mem_map.mp h
      rw [← h2] at e
      rw [← e]
      exact ⟨1, rfl, by simp [flt, rowsN, h1]⟩
    · rintro ⟨n, h, h2⟩
      have hx : x.1 = 0 := by
        have := (List.getElem?_eq_some_iff.mp h).1
        simp [rk] at this; omega
      rw [hx] at h
      have en : 1 = n := by simpa [rk] using h
      subst en
      have e2 : x.2 ∈ ts := by simpa [rowsN] using h2
      exact ⟨.tr x.2, List.mem_map.mpr ⟨_, e2, rfl⟩, Prod.ext hx.symm rfl⟩
  | either a b iha ihb =>
    rw [mem_spots]
    constructor
    · rintro ⟨i, h, e⟩
      rcases List.mem_append.mp h with h | h
      · obtain ⟨j, h1, h2⟩ := List.mem_map.mp h
        rw [← h2] at e
        obtain ⟨n, h3, h4⟩ := mem_spots.mp ((iha x).mp ⟨j, h1, e⟩)
        exact ⟨n, by show (rk a ++ rk b)[_]? = _; rw [List.getElem?_append_left (List.getElem?_eq_some_iff.mp h3).1]; exact h3, h4⟩
      · obtain ⟨j, h1, h2⟩ := List.mem_map.mp h
        rw [← h2] at e
        obtain ⟨n, h3, h4⟩ := mem_spots.mp ((ihb (flt b j)).mp ⟨j, h1, rfl⟩)
        rw [← e]
        refine ⟨n, ?_, h4⟩
        show (rk a ++ rk b)[(rk a).length + (flt b j).1]? = _
        rw [List.getElem?_append_right (by omega), Nat.add_sub_cancel_left]; exact h3
    · rintro ⟨n, h, h2⟩
      have h' : (rk a ++ rk b)[x.1]? = some n := h
      by_cases c : x.1 < (rk a).length
      · rw [List.getElem?_append_left c] at h'
        obtain ⟨i, h3, h4⟩ := (iha x).mpr (mem_spots.mpr ⟨n, h', h2⟩)
        exact ⟨.lf i, List.mem_append_left _ (List.mem_map.mpr ⟨i, h3, rfl⟩), h4⟩
      · rw [List.getElem?_append_right (by omega)] at h'
        obtain ⟨i, h3, h4⟩ := (ihb (x.1 - (rk a).length, x.2)).mpr (mem_spots.mpr ⟨n, h', h2⟩)
        refine ⟨.rt i, List.mem_append_right _ (List.mem_map.mpr ⟨i, h3, rfl⟩), ?_⟩
        show ((rk a).length + (flt b i).1, (flt b i).2) = x
        rw [h4]
        exact Prod.ext (by show _ + (x.1 - _) = _; omega) rfl
  | both a b iha ihb =>
    rw [mem_spots]
    constructor
    · rintro ⟨i, h, e⟩
      obtain ⟨j, h1, h2⟩ := List.mem_flatMap.mp h
      obtain ⟨k, h3, h4⟩ := List.mem_map.mp h2
      rw [← h4] at e
      obtain ⟨n, h5, h6⟩ := mem_spots.mp ((iha (flt a j)).mp ⟨j, h1, rfl⟩)
      obtain ⟨m, h7, h8⟩ := mem_spots.mp ((ihb (flt b k)).mp ⟨k, h3, rfl⟩)
      rw [← e]
      exact ⟨n + m, times_at _ _ _ _ _ _ h5 h7, rowsN_add ts n _ _ m h6 h8⟩
    · rintro ⟨n, h, h2⟩
      have hlt := (List.getElem?_eq_some_iff.mp h).1
      have hlt' : x.1 < (rk a).length * (rk b).length := by
        have e : (rk (.both a b)).length = (rk a).length * (rk b).length := times_len _ _
        rw [e] at hlt; exact hlt
      have hb : 0 < (rk b).length := by
        rcases Nat.eq_zero_or_pos (rk b).length with z | z
        · rw [z, Nat.mul_zero] at hlt'; omega
        · exact z
      have hp : x.1 / (rk b).length < (rk a).length := Nat.div_lt_of_lt_mul (by rw [Nat.mul_comm]; exact hlt')
      have hq : x.1 % (rk b).length < (rk b).length := Nat.mod_lt _ hb
      have ex : x.1 = x.1 / (rk b).length * (rk b).length + x.1 % (rk b).length := by
        rw [Nat.mul_comm]; exact (Nat.div_add_mod _ _).symm
      have g1 := List.getElem?_eq_getElem hp
      have g2 := List.getElem?_eq_getElem hq
      have g3 := times_at (rk a) (rk b) _ _ _ _ g1 g2
      rw [← ex] at g3
      have h' : ((rk a).flatMap fun f => (rk b).map fun g => f + g)[x.1]? = some n := h
      rw [h'] at g3
      have en := Option.some.inj g3
      rw [en] at h2
      obtain ⟨r1, r2, e, m1, m2⟩ := rowsN_sub ts _ _ _ h2
      obtain ⟨i, i1, i2⟩ := (iha (x.1 / (rk b).length, r1)).mpr (mem_spots.mpr ⟨_, g1, m1⟩)
      obtain ⟨j, j1, j2⟩ := (ihb (x.1 % (rk b).length, r2)).mpr (mem_spots.mpr ⟨_, g2, m2⟩)
      refine ⟨.pr i j, List.mem_flatMap.mpr ⟨i, i1, List.mem_map.mpr ⟨j, j1, rfl⟩⟩, ?_⟩
      show ((flt a i).1 * (rk b).length + (flt b j).1, (flt a i).2 ++ (flt b j).2) = x
      rw [i2, j2]
      exact Prod.ext ex.symm e.symm
theorem flats_nodup {ts : List (List Nat)} (ht : ∀ t ∈ ts, Rows ks 1 t) (hn : ts.Nodup) (s : Shp) : ((all ts s).map (flt s)).Nodup :=
  map_nodup (fun x hx y hy e => flt_inj (all_of ht s x hx) (all_of ht s y hy) e) (all_nodup hn s)
theorem flats_perm {ts : List (List Nat)} (ht : ∀ t ∈ ts, Rows ks 1 t) (hn : ts.Nodup) (s : Shp) : ((all ts s).map (flt s)).Perm (spots ts (rk s)) :=
  (List.perm_ext_iff_of_nodup (flats_nodup ht hn s) (spotsF_nodup ht hn _ _)).mpr fun x => by
    rw [← flat_mem]
    exact List.mem_map

/-! ### bounds -/
def bnd : Nat → Nat
  | 0 => 0
  | 1 => 1
  | 2 => 2
  | 3 => 4
  | _ => 16
theorem deep_pos (s : Shp) : 1 ≤ s.deep := by cases s <;> simp [Shp.deep]
theorem mul_le {a b c : Nat} (h1 : a ≤ c) (h2 : b ≤ c) : a * b ≤ c * c := Nat.mul_le_mul h1 h2
theorem rk_len : ∀ (s : Shp) (d : Nat), s.deep ≤ d → d ≤ 4 → (rk s).length ≤ bnd d
  | .none, d, h, _ => Nat.zero_le _
  | .one, d, h, _ => by
    have : 1 ≤ d := h
    match d, this with
    | 1, _ => decide
    | 2, _ => decide
    | 3, _ => decide
    | n + 4, _ => show 1 ≤ 16; decide
  | .tree, d, h, _ => by
    have : 1 ≤ d := h
    match d, this with
    | 1, _ => decide
    | 2, _ => decide
    | 3, _ => decide
    | n + 4, _ => show 1 ≤ 16; decide
  | .either a b, 0, h, _ => by simp [Shp.deep] at h
  | .either a b, d + 1, h, h4 => by
    have hd : max a.deep b.deep + 1 ≤ d + 1 := h
    have ha := rk_len a d (by omega) (by omega)
    have hb := rk_len b d (by omega) (by omega)
    have := deep_pos a
    show (rk a ++ rk b).length ≤ _
    rw [List.length_append]
    match d, ha, hb with
    | 0, _, _ => omega
    | 1, ha, hb => show _ ≤ 2; have : bnd 1 = 1 := rfl; omega
    | 2, ha, hb => show _ ≤ 4; have : bnd 2 = 2 := rfl; omega
    | 3, ha, hb => show _ ≤ 16; have : bnd 3 = 4 := rfl; omega
    | n + 4, _, _ => omega
  | .both a b, 0, h, _ => by simp [Shp.deep] at h
  | .both a b, d + 1, h, h4 => by
    have hd : max a.deep b.deep + 1 ≤ d + 1 := h
    have ha := rk_len a d (by omega) (by omega)
    have hb := rk_len b d (by omega) (by omega)
    have := deep_pos a
    have q := mul_le ha hb
    show (List.flatMap _ _).length ≤ _
    rw [times_len]
    match d, q with
    | 0, _ => omega
    | 1, q => exact Nat.le_trans q (by decide)
    | 2, q => exact Nat.le_trans q (by decide)
    | 3, q => exact Nat.le_trans q (by decide)
    | n + 4, _ => omega
theorem rk_forms : ∀ (s : Shp), ∀ f ∈ rk s, f ≤ 2 ^ (s.deep - 1)
  | .none, f, h => by cases h
  | .one, f, h => by
    have : f = 0 := by simpa [rk] using h
    rw [this]; exact Nat.zero_le _
  | .tree, f, h => by
    have : f = 1 := by simpa [rk] using h
    rw [this]; exact Nat.one_le_two_pow
  | .either a b, f, h => by
    have e : (Shp.either a b).deep - 1 = max a.deep b.deep := rfl
    rw [e]
    rcases List.mem_append.mp h with h | h
    · exact Nat.le_trans (rk_forms a f h) (Nat.pow_le_pow_right (by decide) (by omega))
    · exact Nat.le_trans (rk_forms b f h) (Nat.pow_le_pow_right (by decide) (by omega))
  | .both a b, f, h => by
    have e : (Shp.both a b).deep - 1 = max a.deep b.deep := rfl
    rw [e]
    obtain ⟨x, h1, h2⟩ := List.mem_flatMap.mp h
    obtain ⟨y, h3, h4⟩ := List.mem_map.mp h2
    have q1 := Nat.le_trans (rk_forms a x h1) (Nat.pow_le_pow_right (n := 2) (by decide) (show a.deep - 1 ≤ max a.deep b.deep - 1 by omega))
    have q2 := Nat.le_trans (rk_forms b y h3) (Nat.pow_le_pow_right (n := 2) (by decide) (show b.deep - 1 ≤ max a.deep b.deep - 1 by omega))
    have := deep_pos a
    have e2 : max a.deep b.deep = (max a.deep b.deep - 1) + 1 := by omega
    rw [e2, Nat.pow_succ]
    omega
theorem rk_small {s : Shp} (h : s.deep ≤ 4) : (rk s).length ≤ 16 ∧ ∀ f ∈ rk s, f ≤ 8 := by
  refine ⟨rk_len s 4 h (Nat.le_refl _), fun f hf => Nat.le_trans (rk_forms s f hf) ?_⟩
  exact Nat.le_trans (Nat.pow_le_pow_right (by decide) (show s.deep - 1 ≤ 3 by omega)) (by decide)

/-! ### opening, closing, turning about -/
def opnR (ks r : List Nat) (p : Nat) : List Nat := r.take p ++ ks.map (fun k => r.getD p 0 - 1 + k) ++ r.drop (p + 1)
def opn (ks : List Nat) (p sl : Nat) (x : Thg) : Thg :=
  if x.1 < p then x else if p < x.1 then (x.1 + (ks.length - 1), x.2) else
  (p + x.2.getD (tlen ks sl x.2) 0, x.2.take (tlen ks sl x.2) ++ x.2.drop (tlen ks sl x.2 + 1))
def cls (ks : List Nat) (p sl : Nat) (x : Thg) : Thg :=
  if x.1 < p then x else if p + (ks.length - 1) < x.1 then (x.1 - (ks.length - 1), x.2) else
  (p, x.2.take (tlen ks sl x.2) ++ [x.1 - p] ++ x.2.drop (tlen ks sl x.2))
/-- the parts of a row about a slot -/
theorem slot_parts {n sl : Nat} {row : List Nat} (h : Rows ks n row) (hs : sl < n) : ∃ a m c b, row = a ++ m :: (c ++ b) ∧ Rows ks sl a ∧ m < ks.length ∧ Rows ks (ks.getD m 0) c ∧ Rows ks (n - 1 - sl) b := by
  have e : n = sl + (1 + (n - 1 - sl)) := by omega
  rw [e] at h
  obtain ⟨a, r, e1, ha, hr⟩ := Rows.split row _ _ h
  obtain ⟨t, b, e2, ht, hb⟩ := Rows.split r _ _ hr
  rcases ht.inv with ⟨z, _⟩ | ⟨j, m, c, e3, e4, hm, hc⟩
  · omega
  · have ej : j = 0 := by omega
    subst ej
    rw [Nat.zero_add] at hc
    have eb : sl + (1 + (n - 1 - sl)) - 1 - sl = n - 1 - sl := by omega
    exact ⟨a, m, c, b, by rw [e1, e2, e4]; rfl, ha, hm, hc, hb⟩
theorem opn_at {n sl p : Nat} {row : List Nat} (h : Rows ks n row) (hs : sl < n) : ∃ a m c b, row = a ++ m :: (c ++ b) ∧ Rows ks sl a ∧ m < ks.length ∧ Rows ks (ks.getD m 0) c ∧ Rows ks (n - 1 - sl) b ∧
    tlen ks sl row = a.length ∧ opn ks p sl (p, row) = (p + m, a ++ (c ++ b)) := by
  obtain ⟨a, m, c, b, e, ha, hm, hc, hb⟩ := slot_parts h hs
  have ht : tlen ks sl row = a.length := by rw [e]; exact tlen_rows ha _
  refine ⟨a, m, c, b, e, ha, hm, hc, hb, ht, ?_⟩
  unfold opn
  show (if p < p then _ else if p < p then _ else (p + row.getD (tlen ks sl row) 0, row.take (tlen ks sl row) ++ row.drop (tlen ks sl row + 1))) = _
  rw [if_neg (Nat.lt_irrefl _), if_neg (Nat.lt_irrefl _), ht, e]
  have e1 : (a ++ m :: (c ++ b)).getD a.length 0 = m := by
    rw [List.getD_eq_getElem?_getD, List.getElem?_append_right (Nat.le_refl _), Nat.sub_self]; rfl
  have e2 : (a ++ m :: (c ++ b)).take a.length = a := by simp
  have e3 : (a ++ m :: (c ++ b)).drop (a.length + 1) = c ++ b := by
    rw [List.drop_append, List.drop_eq_nil_of_le (by omega), List.nil_append]
    have : a.length + 1 - a.length = 1 := by omega
    rw [this]; rfl
  rw [e1, e2, e3]
theorem opnR_at_lt {r : List Nat} {p q : Nat} (h : q < p) (hp : p < r.length) : (opnR ks r p)[q]? = r[q]? := by
  unfold opnR
  rw [List.append_assoc, List.getElem?_append_left (by rw [List.length_take]; omega), List.getElem?_take_of_lt h]
theorem opnR_at_in {r : List Nat} {p m : Nat} (h : m < ks.length) (hp : p < r.length) : (opnR ks r p)[p + m]? = some (r.getD p 0 - 1 + ks.getD m 0) := by
  unfold opnR
  have hl : (r.take p).length = p := by rw [List.length_take]; omega
  rw [List.append_assoc, List.getElem?_append_right (by omega), hl, Nat.add_sub_cancel_left, List.getElem?_append_left (by rw [List.length_map]; exact h), List.getElem?_map, List.getElem?_eq_getElem h]
  rw [List.getD_eq_getElem?_getD (l := ks), List.getElem?_eq_getElem h]; rfl
theorem opnR_at_gt {r : List Nat} {p q : Nat} (h : p < q) (hk : 0 < ks.length) (hp : p < r.length) : (opnR ks r p)[q + (ks.length - 1)]? = r[q]? := by
  unfold opnR
  have hl : (r.take p).length = p := by rw [List.length_take]; omega
  rw [List.getElem?_append_right (by rw [List.length_append, hl, List.length_map]; omega), List.length_append, hl, List.length_map, List.getElem?_drop]
  congr 1; omega
theorem opnR_len {r : List Nat} {p : Nat} (hk : 0 < ks.length) (hp : p < r.length) : (opnR ks r p).length = r.length + (ks.length - 1) := by
  unfold opnR
  rw [List.length_append, List.length_append, List.length_take, List.length_map, List.length_drop]
  omega
theorem opn_ok {r : List Nat} {p sl n : Nat} (hk : 0 < ks.length) (hn : r[p]? = some n) (hs : sl < n) {x : Thg} (h : IsThg ks r x) : IsThg ks (opnR ks r p) (opn ks p sl x) ∧ cls ks p sl (opn ks p sl x) = x := by
  have hp := (List.getElem?_eq_some_iff.mp hn).1
  obtain ⟨q, row⟩ := x
  obtain ⟨k, e, h⟩ := h
  have e' : r[q]? = some k := e
  by_cases c : q < p
  · have eo : opn ks p sl (q, row) = (q, row) := by unfold opn; exact if_pos c
    rw [eo]
    refine ⟨⟨k, by show (opnR ks r p)[q]? = _; rw [opnR_at_lt c hp]; exact e', h⟩, ?_⟩
    unfold cls; exact if_pos c
  · by_cases d : p < q
    · have eo : opn ks p sl (q, row) = (q + (ks.length - 1), row) := by unfold opn; rw [if_neg c, if_pos d]
      rw [eo]
      refine ⟨⟨k, by show (opnR ks r p)[q + (ks.length - 1)]? = _; rw [opnR_at_gt d hk hp]; exact e', h⟩, ?_⟩
      unfold cls
      show (if q + (ks.length - 1) < p then _ else if p + (ks.length - 1) < q + (ks.length - 1) then (q + (ks.length - 1) - (ks.length - 1), row) else _) = _
      rw [if_neg (by omega), if_pos (by omega), Nat.add_sub_cancel]
    · have ep : q = p := by omega
      subst ep
      rw [hn] at e'
      have ek : n = k := Option.some.inj e'
      subst ek
      obtain ⟨a, m, cc, b, e1, ha, hm, hc, hb, ht, eo⟩ := opn_at (p := q) h hs
      rw [eo]
      have hr : r.getD q 0 = n := by rw [List.getD_eq_getElem?_getD, hn]; rfl
      refine ⟨⟨n - 1 + ks.getD m 0, by show (opnR ks r q)[q + m]? = _; rw [opnR_at_in hm hp, hr], ?_⟩, ?_⟩
      · have q1 := ha.app (hc.app hb)
        have en : sl + (ks.getD m 0 + (n - 1 - sl)) = n - 1 + ks.getD m 0 := by omega
        rw [en] at q1
        exact q1
      · unfold cls
        show (if q + m < q then _ else if q + (ks.length - 1) < q + m then _ else (q, (a ++ (cc ++ b)).take (tlen ks sl (a ++ (cc ++ b))) ++ [q + m - q] ++ (a ++ (cc ++ b)).drop (tlen ks sl (a ++ (cc ++ b))))) = _
        have e5 : row = a ++ m :: (cc ++ b) := e1
        rw [if_neg (by omega), if_neg (by omega), tlen_rows ha, e5, Nat.add_sub_cancel_left]
        simp
def rev (n : Nat) (x : Thg) : Thg := (n - 1 - x.1, x.2)
theorem rev_ok {r : List Nat} {x : Thg} (h : IsThg ks r x) : IsThg ks r.reverse (rev r.length x) ∧ rev r.length (rev r.length x) = x := by
  have hl := h.lt
  obtain ⟨n, e, hr⟩ := h
  refine ⟨⟨n, ?_, hr⟩, ?_⟩
  · show r.reverse[r.length - 1 - x.1]? = _
    rw [List.getElem?_reverse (by omega)]
    have : r.length - 1 - (r.length - 1 - x.1) = x.1 := by omega
    rw [this]; exact e
  · show (r.length - 1 - (r.length - 1 - x.1), x.2) = x
    exact Prod.ext (by show r.length - 1 - (r.length - 1 - x.1) = _; omega) rfl
end Bs
/-! Sets of things (a place and a row): set(xs) of unlike things, and its length. Over HandS.TupSets' table laws and KE.KeyNested's keys. -/
namespace Bs
open PySem PySem.Spec PyProof.Rows L2
/-- a thing as a key -/
def spotKey (x : Thg) : NestedKey := .tup [.num (x.1 : Int), .tup (x.2.map fun n : Nat => NestedKey.num (n : Int))]
theorem nums_inj : ∀ {a b : List Nat}, (a.map fun n : Nat => NestedKey.num (n : Int)) = b.map (fun n : Nat => NestedKey.num (n : Int)) → a = b
  | [], [], _ => rfl
  | [], _ :: _, h => by cases h
  | _ :: _, [], h => by cases h
  | x :: a, y :: b, h => by
    simp only [List.map_cons] at h
    injection h with h1 h2
    injection h1 with h3
    rw [nums_inj h2, Int.ofNat.inj h3]
theorem spotKey_inj {x y : Thg} (h : spotKey x = spotKey y) : x = y := by
  unfold spotKey at h
  injection h with h
  injection h with h1 h2
  injection h2 with h2 _
  injection h2 with h2
  injection h1 with h1
  exact Prod.ext (Int.ofNat.inj h1) (nums_inj h2)
theorem nums_depth : ∀ l : List Nat, NestedKey.depthAll (l.map fun n : Nat => NestedKey.num (n : Int)) = 0
  | [] => rfl
  | _ :: l => by
    simp only [List.map_cons, NestedKey.depthAll, NestedKey.depth]
    rw [nums_depth l]; rfl
theorem spotKey_depth (x : Thg) : (spotKey x).depth = 2 := by
  unfold spotKey
  simp only [NestedKey.depth, NestedKey.depthAll, nums_depth]
  rfl
/-- the thing x stands at a -/
def Spot (h : Heap) (x : Thg) (a : Addr) : Prop := NestedIs h (spotKey x) (.ref a)
theorem Spot.kind {P : Program} {w : World} {h : Heap} {x : Thg} {a : Addr} (s : Spot h x a) : (nestedKind P w).is h (spotKey x) a := ⟨s, by rw [spotKey_depth]; decide⟩
theorem Spot.at_ {h h' : Heap} {x : Thg} {a : Addr} (s : Spot h x a) (k : ∀ b o vs n, h.get? b = some o → o.data = .seq vs n → h'.get? b = some o) : Spot h' x a := NestedIs.at k _ _ s
theorem Spot.keep {h h' : Heap} {x : Thg} {a : Addr} (s : Spot h x a) (k : ∀ b o, h.get? b = some o → h'.get? b = some o) : Spot h' x a := s.at_ fun b o _ _ e _ => k b o e
theorem Spot.same {h h' : Heap} {x : Thg} {b a : Addr} {o : Obj} {es : Array (Int × Value)} {ep : Nat} {t : SetTable} (s : Spot h x b) (ho : h.get? a = some o) (hd : o.data = .set es ep t) (hs : Heap.SameBut a h h') : Spot h' x b :=
  s.at_ fun c oc vs n e ed => by
    have ne : c ≠ a := by
      rintro rfl
      rw [ho] at e
      cases e
      rw [hd] at ed
      cases ed
    exact (hs.2 c ne).trans e

section
variable {P : Program} {w : World} {A : Around} {E : Value → Shared → Prop} {s : Shared}
/-! ### two small questions, answered down a tuple -/
def Says (P : Program) (w : World) (f : Nat → Value → Sem Bool) (b : Bool) (n : Nat) (s : Shared) (v : Value) : Prop := ∀ (A : Around) (E : Value → Shared → Prop) (Q : Bool → Shared → Prop), Q b s → wpAny (model P w) A (f n v) Q E s
theorem ofA_num {n : Nat} {k : Int} {v : Value} (h : NestedIs s.heap (.num k) v) : Says P w ofAClassStatement false n s v := fun A E Q q => by
  cases h with
  | bool _ => cases n <;> exact wpAny_pure q
  | int _ _ => cases n <;> exact wpAny_pure q
theorem hashBy_num {n : Nat} {k : Int} {v : Value} (h : NestedIs s.heap (.num k) v) : Says P w hashByValue true n s v := fun A E Q q => by
  cases h with
  | bool _ => cases n <;> exact wpAny_pure q
  | int _ _ => cases n <;> exact wpAny_pure q
theorem ofA_tuple {n m : Nat} {a : Addr} {o : Obj} {vs : Array Value} (ho : s.heap.get? a = some o) (hc : o.cls = .type "tuple") (hd : o.data = .seq vs m) (hq : ∀ v ∈ vs.toList, Says P w ofAClassStatement false n s v) : Says P w ofAClassStatement false (n + 1) s (.ref a) := fun A E Q h => by
  unfold ofAClassStatement
  refine wpAny_bind (wpAny_typeOf (T := "tuple") ⟨o, ho, hc⟩ ?_)
  dsimp only
  have e : (("tuple" : String) == "tuple") = true := by decide
  simp only [e, if_true, Bool.not_true, Bool.false_eq_true, if_false]
  try refine wpAny_bind (wpAny_pure ?_)
  try simp only [Bool.not_true, Bool.false_eq_true, if_false]
  show wpAny _ _ (seqItems? (.ref a) >>= _) _ _ s
  refine wpAny_bind (wpAny_seqItems ho hd ?_)
  dsimp only
  refine wpAny_bind ?_
  show wpAny _ _ (forIn vs _ _) _ _ s
  rw [← Array.forIn_toList]
  refine wpAny_forIn_list _ (fun rest r s' => r.1 = none ∧ s' = s ∧ ∀ v ∈ rest, Says P w ofAClassStatement false n s v) _ ?_ ?_ _ _ ⟨rfl, rfl, hq⟩
  · rintro v rest r s' ⟨hr, rfl, hall⟩
    refine wpAny_bind (hall v List.mem_cons_self _ _ _ ?_)
    simp only [Bool.false_eq_true, if_false]
    exact wpAny_pure ⟨rfl, rfl, fun u hu => hall u (List.mem_cons_of_mem _ hu)⟩
  · rintro ⟨r1, r2⟩ s' ⟨hr, rfl, _⟩
    simp only at hr
    subst hr
    exact wpAny_pure h
theorem hashBy_tuple {n m : Nat} {a : Addr} {o : Obj} {vs : Array Value} (ho : s.heap.get? a = some o) (hc : o.cls = .type "tuple") (hd : o.data = .seq vs m) (hq : ∀ v ∈ vs.toList, Says P w hashByValue true n s v) : Says P w hashByValue true (n + 1) s (.ref a) := fun A E Q h => by
  unfold hashByValue
  refine wpAny_bind (wpAny_specialOf (T := "tuple") ⟨o, ho, hc⟩ F.slot_tuple_hash.lookup ?_)
  show wpAny _ _ (seqItems? (.ref a) >>= _) _ _ s
  refine wpAny_bind (wpAny_seqItems ho hd ?_)
  refine wpAny_bind ?_
  show wpAny _ _ (forIn vs _ _) _ _ s
  rw [← Array.forIn_toList]
  refine wpAny_forIn_list _ (fun rest r s' => r.1 = none ∧ s' = s ∧ ∀ v ∈ rest, Says P w hashByValue true n s v) _ ?_ ?_ _ _ ⟨rfl, rfl, hq⟩
  · rintro v rest r s' ⟨hr, rfl, hall⟩
    refine wpAny_bind (hall v List.mem_cons_self _ _ _ ?_)
    simp only [Bool.not_true, Bool.false_eq_true, if_false]
    exact wpAny_pure ⟨rfl, rfl, fun u hu => hall u (List.mem_cons_of_mem _ hu)⟩
  · rintro ⟨r1, r2⟩ s' ⟨hr, rfl, _⟩
    simp only at hr
    subst hr
    exact wpAny_pure h
theorem nums_all {h : Heap} {R : Value → Prop} (hR : ∀ (k : Int) v, NestedIs h (.num k) v → R v) : ∀ (l : List Nat) (vs : List Value), NestedAll h (l.map fun n : Nat => NestedKey.num (n : Int)) vs → ∀ v ∈ vs, R v
  | [], _, x, v, hv => by cases x; cases hv
  | n :: l, _, x, v, hv => by
    cases x with
    | cons x1 x2 =>
      rcases List.mem_cons.mp hv with e | hv
      · rw [e]; exact hR _ _ x1
      · exact nums_all hR l _ x2 v hv
theorem spot_parts {h : Heap} {x : Thg} {a : Addr} (s : Spot h x a) : ∃ (o : Obj) (vs : Array Value) (n : Nat) (v : Value) (b : Addr) (o2 : Obj) (ws : Array Value) (m : Nat), h.get? a = some o ∧ o.cls = .type "tuple" ∧ o.data = .seq vs n ∧ vs.toList = [v, .ref b] ∧ NestedIs h (.num (x.1 : Int)) v ∧
    h.get? b = some o2 ∧ o2.cls = .type "tuple" ∧ o2.data = .seq ws m ∧ NestedAll h (x.2.map fun n : Nat => NestedKey.num (n : Int)) ws.toList := by
  cases s with
  | @tup _ o vs n _ h1 h2 h3 h4 =>
    generalize hl : vs.toList = l at h4
    cases h4 with
    | cons x1 x2 =>
      cases x2 with
      | cons y1 y2 =>
        cases y2
        cases y1 with
        | @tup b o2 ws m _ g1 g2 g3 g4 => exact ⟨o, vs, n, _, b, o2, ws, m, h1, h2, h3, hl, x1, g1, g2, g3, g4⟩
theorem Spot.ofA {x : Thg} {a : Addr} (h : Spot s.heap x a) : Says P w ofAClassStatement false 8 s (.ref a) := by
  obtain ⟨o, vs, n, v, b, o2, ws, m, h1, h2, h3, h4, h5, g1, g2, g3, g4⟩ := spot_parts h
  refine ofA_tuple h1 h2 h3 fun u hu => ?_
  rw [h4] at hu
  rcases List.mem_cons.mp hu with e | hu
  · rw [e]; exact ofA_num h5
  · rw [List.mem_singleton.mp hu]
    exact ofA_tuple g1 g2 g3 (nums_all (fun k v z => ofA_num z) _ _ g4)
theorem Spot.byV {x : Thg} {a : Addr} (h : Spot s.heap x a) : Says P w hashByValue true 8 s (.ref a) := by
  obtain ⟨o, vs, n, v, b, o2, ws, m, h1, h2, h3, h4, h5, g1, g2, g3, g4⟩ := spot_parts h
  refine hashBy_tuple h1 h2 h3 fun u hu => ?_
  rw [h4] at hu
  rcases List.mem_cons.mp hu with e | hu
  · rw [e]; exact hashBy_num h5
  · rw [List.mem_singleton.mp hu]
    exact hashBy_tuple g1 g2 g3 (nums_all (fun k v z => hashBy_num z) _ _ g4)

/-! ### the set, and the search for a thing that is not there -/
@[irreducible] def hk (w : World) (x : Thg) : Int := (spotKey x).hash w
theorem hk_eq (w : World) (x : Thg) : (spotKey x).hash w = hk w x := by unfold hk; rfl
def ents (w : World) (L : List (Addr × Thg)) : List (Int × Value) := L.map fun p => (hk w p.2, Value.ref p.1)
structure Held (w : World) (h : Heap) (a : Addr) (L : List (Addr × Thg)) (es : Array (Int × Value)) (ep : Nat) (t : SetTable) : Prop where
  ob : ∃ o, h.get? a = some o ∧ o.ExactSet ∧ o.data = .set es ep t
  rows : es.toList = ents w L
  tab : TabOk t (L.map fun p => hk w p.2)
  spots : ∀ p ∈ L, Spot h p.2 p.1
  plain : t.plain = true
  led : w.params.followText "set-order" = true ∨ t.led = true
  room : L.length * 5 < t.mask * 3
  few : L.length < 64
variable {a : Addr} {L : List (Addr × Thg)} {es : Array (Int × Value)} {ep : Nat} {t : SetTable}
theorem ents_size (hr : es.toList = ents w L) : es.size = L.length := by
  rw [← Array.length_toList, hr]; exact List.length_map _
theorem ents_at (hr : es.toList = ents w L) {i : Nat} {p : Addr × Thg} (h : L[i]? = some p) : es[i]? = some (hk w p.2, Value.ref p.1) := by
  rw [← Array.getElem?_toList, hr]
  unfold ents
  rw [List.getElem?_map, h]; rfl
theorem fits_of (hd : t.dummies = #[]) (h1 : t.place.size = es.size) (h2 : es.size ≤ t.mask) : t.fits es.size = true := by
  unfold SetTable.fits SetTable.fill
  rw [hd, Bool.and_eq_true, beq_iff_eq, decide_eq_true_eq]
  exact ⟨h1, by show t.place.size + 0 ≤ _; omega⟩
theorem Held.fits (R : Held w s.heap a L es ep t) : t.fits es.size = true := by
  have h1 := R.tab.sz
  rw [List.length_map] at h1
  have h2 := ents_size R.rows
  have h3 := R.room
  exact fits_of R.tab.dm (by omega) (by omega)
theorem Held.odd (R : Held w s.heap a L es ep t) : ¬ t.gaveWay = true := by
  unfold SetTable.gaveWay
  rw [mask_odd R.tab.mok]
  decide
/-- the k-th state of the way of a hash -/
abbrev sta (m : Nat) (h : Int) (k : Nat) : SetTable.Probe := nth m (runAt m (SetTable.bits h % (m + 1)) (SetTable.bits h)) k
theorem sta_add (m : Nat) (h : Int) (c q : Nat) : nth m (sta m h c) q = sta m h (c + q) := (nth_add m c _ q).symm
theorem sta_none (m : Nat) (h : Int) (c : Nat) : (sta m h c).dummy = none := by
  have key : ∀ (n : Nat) (p : SetTable.Probe), p.dummy = none → (nth m p n).dummy = none := fun n => by
    induction n with
    | zero => exact fun p h => h
    | succ n ih =>
      intro p h
      refine ih (adv m p) ?_
      unfold adv
      split <;> exact h
  exact key c _ rfl
/-- a thing that is none of the set's is looked for: the first free slot of its way is told -/
theorem search_new (R : Held w s.heap a L es ep t) {x : Addr} {k : Thg} (hx : Spot s.heap k x) (hu : A.units + 8 < cLine) (hnew : ∀ p ∈ L, p.2 ≠ k) {K : Nat} (hKf : K < 10 * SetTable.turns t.mask)
    (hK : way t.mask (hk w k) K ∉ t.place.toList) (hKb : ∀ c, c < K → way t.mask (hk w k) c ∈ t.place.toList) {Q : SetFound → Shared → Prop} (hq : Q (.free (way t.mask (hk w k) K) false) s) :
    ∀ (f c : Nat) (stand : Option SetTable.Probe), stand.getD (t.probeStart (hk w k)) = sta t.mask (hk w k) c → c ≤ K → K - c < f → wpAny (model P w) A (setSearchFrom a (.ref x) (hk w k) true f stand) Q E s
  | 0, c, _, _, _, hf => absurd hf (Nat.not_lt_zero _)
  | f + 1, c, stand, hst, hc, hf => by
    obtain ⟨o, ho, hex, hd⟩ := R.ob
    rw [setSearchFrom_succ]
    refine wpAny_bind (wpAny_setState_of ho hd R.fits ?_)
    dsimp only
    refine wp_if_neg R.odd ?_
    try refine wpAny_bind (wpAny_pure ?_)
    have e1 : ∀ q, (nth t.mask (sta t.mask (hk w k) c) q).j = way t.mask (hk w k) (c + q) := fun q => congrArg SetTable.Probe.j (sta_add _ _ _ _)
    have spec := go_spec t R.tab.ris R.tab.dm (fun i => (es[i]?.map (·.1)).getD 0) (hk w k) (10 * SetTable.turns t.mask) (K - c) _ (sta_none t.mask (hk w k) c) (by omega)
      (fun q hq => by rw [e1]; exact hKb (c + q) (by omega)) (by rw [e1, show c + (K - c) = K by omega]; exact hK)
    rcases spec with ⟨q, i, hq', hi, _, _, hpr⟩ | ⟨_, hpr⟩
    · have hpr' : t.probe (fun i => (es[i]?.map (·.1)).getD 0) (hk w k) (stand.getD (t.probeStart (hk w k))) = some (.candidate (way t.mask (hk w k) (c + q)) i (sta t.mask (hk w k) (c + (q + 1)))) := by
        rw [hst, ← e1, ← sta_add]
        exact hpr
      rw [hpr']
      dsimp only
      rw [e1] at hi
      have hil : i < L.length := by
        have h1 := (List.getElem?_eq_some_iff.mp hi).1
        have h2 := R.tab.sz
        rw [List.length_map] at h2
        rw [Array.length_toList] at h1
        omega
      obtain ⟨p, hp⟩ : ∃ p, L[i]? = some p := ⟨_, List.getElem?_eq_getElem hil⟩
      have hmem : p ∈ L := List.mem_of_getElem? hp
      have hne : p.2 ≠ k := hnew p hmem
      have hkey : decide (spotKey p.2 = spotKey k) = false := decide_eq_false fun z => hne (spotKey_inj z)
      have rest : wpAny (model P w) A (searchRest a (.ref x) (hk w k) true f es t (way t.mask (hk w k) (c + q)) i (sta t.mask (hk w k) (c + (q + 1)))) Q E s := by
        unfold searchRest
        rw [ents_at R.rows hp]
        dsimp only
        refine wpAny_bind (wpAny_holding ((nestedKind P w).eqBool (x := spotKey p.2) (y := spotKey k) hu (R.spots p hmem).kind hx.kind ?_))
        rw [hkey]
        refine wpAny_bind (wpAny_setState_of ho hd R.fits ?_)
        dsimp only
        refine wp_if_neg (by decide) ?_
        try refine wpAny_bind (wpAny_pure ?_)
        rw [sameMem]
        dsimp only
        have hsl : t.slot (way t.mask (hk w k) (c + q)) = .live i := slot_live R.tab.ris hi
        simp only [if_true, hsl, ents_at R.rows hp]
        refine wpAny_bind (wpAny_isSame_ref_self (wpAny_bind (wpAny_pure ?_)))
        simp only [if_true]
        refine wp_if_neg (by decide) ?_
        exact search_new R hx hu hnew hKf hK hKb hq f (c + (q + 1)) _ rfl (by omega) (by omega)
      by_cases hl : t.led = true
      · refine wp_if_neg (by simp [hl]) ?_
        try refine wpAny_bind (wpAny_pure ?_)
        exact rest
      · refine wp_if_pos (by simp [hl]) ?_
        have hys : ∀ y ∈ (es.filter (·.1 == hk w k)).toList.map (·.2), ∃ z c, y = Value.ref c ∧ Spot s.heap z c := fun y hy => by
          obtain ⟨e, he, ee⟩ := List.mem_map.mp hy
          have he1 : e ∈ es ∧ e.1 = hk w k := by simpa using he
          have he2 : e ∈ es.toList := by simpa using he1.1
          rw [R.rows] at he2
          obtain ⟨p2, hp2, e2⟩ := List.mem_map.mp he2
          exact ⟨p2.2, p2.1, by rw [← ee, ← e2], R.spots p2 hp2⟩
        refine wpAny_bind ?_
        unfold searchCouldBeSeen
        refine wpAny_bind ?_
        refine wpAny_forIn_list _ (fun rest r s' => r.1 = none ∧ s' = s ∧ ∀ y ∈ rest, ∃ z c, y = Value.ref c ∧ Spot s.heap z c) _ ?_ ?_ _ _ ⟨rfl, rfl, hys⟩
        · rintro v rest' r s' ⟨hr, rfl, hall⟩
          obtain ⟨z, b, rfl, hb⟩ := hall v List.mem_cons_self
          have more : ∀ y ∈ rest', ∃ z c, y = Value.ref c ∧ Spot s'.heap z c := fun u hu' => hall u (List.mem_cons_of_mem _ hu')
          dsimp only
          by_cases hv : (x == b || (carriedByValue (.ref x) && carriedByValue (.ref b))) = true
          · exact wp_if_pos hv (wpAny_pure ⟨rfl, rfl, more⟩)
          · refine wp_if_neg hv ?_
            refine wpAny_bind ((nestedKind P w).quiet hx.kind ?_)
            simp only [Bool.not_true, Bool.false_eq_true, if_false]
            refine wpAny_bind ((nestedKind P w).quiet hb.kind ?_)
            simp only [Bool.not_true, Bool.false_eq_true, if_false]
            refine wpAny_bind (hx.ofA _ _ _ ?_)
            simp only [Bool.false_eq_true, if_false]
            refine wpAny_bind (hb.ofA _ _ _ ?_)
            simp only [Bool.false_eq_true, if_false]
            exact wpAny_pure ⟨rfl, rfl, more⟩
        · rintro ⟨r1, r2⟩ s' ⟨hr, rfl, _⟩
          simp only at hr
          subst hr
          refine wpAny_pure ?_
          refine wp_if_neg (by decide) ?_
          try refine wpAny_bind (wpAny_pure ?_)
          exact rest
    · have hpr' : t.probe (fun i => (es[i]?.map (·.1)).getD 0) (hk w k) (stand.getD (t.probeStart (hk w k))) = some (.empty (way t.mask (hk w k) K) none) := by
        have e2 : way t.mask (hk w k) K = (nth t.mask (sta t.mask (hk w k) c) (K - c)).j := by
          rw [e1, show c + (K - c) = K by omega]
        rw [hst, e2]
        exact hpr
      rw [hpr']
      dsimp only
      exact wpAny_pure hq
/-- the search as adding asks for it -/
theorem seek_new (R : Held w s.heap a L es ep t) {x : Addr} {k : Thg} (hx : Spot s.heap k x) (hu : A.units + 8 < cLine) (hnew : ∀ p ∈ L, p.2 ≠ k) {Q : SetFound → Shared → Prop}
    (hq : ∀ K, way t.mask (hk w k) K ∉ t.place.toList → (∀ c, c < K → way t.mask (hk w k) c ∈ t.place.toList) → Q (.free (way t.mask (hk w k) K) false) s) :
    wpAny (model P w) A (setSearch a (.ref x) (hk w k) true) Q E s := by
  have hroom := R.room
  obtain ⟨K, hKf, hK, hKb⟩ := R.tab.first (by rw [List.length_map]; omega) (hk w k)
  have hbig : K < 100000 := by
    have : 10 * SetTable.turns t.mask ≤ 1420 := by
      unfold SetTable.turns
      rcases R.tab.mok with e | e | e <;> omega
    omega
  unfold setSearch
  exact search_new R hx hu hnew hKf hK hKb (hq K hK hKb) 100000 0 none rfl (Nat.zero_le _) (by omega)

/-! ### the table laid anew, a thing put in -/
theorem ents_put (p : Nat) (x : Addr) (k : Thg) : ents w (L.take p ++ (x, k) :: L.drop p) = (ents w L).take p ++ (hk w k, Value.ref x) :: (ents w L).drop p := by
  unfold ents
  rw [List.map_append, List.map_cons, List.map_take, List.map_drop]
theorem pick_all {α : Type} (l : List α) : (List.range l.length).filterMap (fun i => l[i]?) = l := by
  have key : ∀ n, n ≤ l.length → (List.range n).filterMap (fun i => l[i]?) = l.take n := by
    intro n
    induction n with
    | zero => intro _; rfl
    | succ n ih =>
      intro hn
      have hlt : n < l.length := hn
      rw [List.range_succ, List.filterMap_append, ih (Nat.le_of_lt hlt), List.take_succ, List.getElem?_eq_getElem hlt, List.filterMap_cons_some (List.getElem?_eq_getElem hlt)]
      rfl
  rw [key l.length (Nat.le_refl _), List.take_length]
theorem ents_cons (p : Addr × Thg) : ents w (p :: L) = (hk w p.2, Value.ref p.1) :: ents w L := List.map_cons
theorem pick_rows (es : Array (Int × Value)) (hr : es.toList = ents w L) : ∀ l : List Nat, (∀ i ∈ l, i < L.length) → l.filterMap (fun i => es[i]?) = ents w (l.filterMap fun i => L[i]?)
  | [], _ => by rw [List.filterMap_nil, List.filterMap_nil]; exact List.map_nil.symm
  | i :: l, hl => by
    have hi := List.getElem?_eq_getElem (hl i List.mem_cons_self)
    rw [List.filterMap_cons_some (ents_at hr hi), List.filterMap_cons_some hi, ents_cons, pick_rows es hr l fun j hj => hl j (List.mem_cons_of_mem _ hj)]
theorem pick_hash (es : Array (Int × Value)) (hr : es.toList = ents w L) : ∀ l : List Nat, (∀ i ∈ l, i < L.length) → ((l.filterMap fun i => L[i]?).map fun p => hk w p.2) = l.map fun i => (es.map (·.1)).getD i 0
  | [], _ => by rw [List.filterMap_nil, List.map_nil, List.map_nil]
  | i :: l, hl => by
    have hi := List.getElem?_eq_getElem (hl i List.mem_cons_self)
    rw [List.filterMap_cons_some hi, List.map_cons, List.map_cons, pick_hash es hr l fun j hj => hl j (List.mem_cons_of_mem _ hj)]
    congr 1
    rw [Array.getD_eq_getD_getElem?, Array.getElem?_map, ents_at hr hi, Option.map_some, Option.getD_some]
theorem laid_order (es : Array (Int × Value)) (order : Array Nat) (hr : es.toList = ents w L) (hp : order.toList.Perm (List.range L.length)) :
    ∃ L2, (order.filterMap (es[·]?)).toList = ents w L2 ∧ L2.Perm L ∧ (L2.map fun p => hk w p.2) = order.toList.map fun i => (es.map (·.1)).getD i 0 := by
  have hin : ∀ i ∈ order.toList, i < L.length := fun i hi => List.mem_range.mp (hp.mem_iff.mp hi)
  refine ⟨order.toList.filterMap fun i => L[i]?, ?_, ?_, pick_hash es hr _ hin⟩
  · rw [Array.toList_filterMap]; exact pick_rows es hr _ hin
  · have h1 := hp.filterMap fun i => L[i]?
    rw [pick_all] at h1
    exact h1
theorem relay_new {o : Obj} (ho : s.heap.get? a = some o) (hex : o.ExactSet) (hd : o.data = .set es ep t) (hrows : es.toList = ents w L) (hsz : t.place.size = es.size) (hdm : t.dummies = #[]) (hfl : es.size ≤ t.mask)
    (sp : ∀ p ∈ L, Spot s.heap p.2 p.1) (pl : t.plain = true) (ld : w.params.followText "set-order" = true ∨ t.led = true) (few : L.length < 64) {wanted M : Nat}
    (hw : SetTable.sizeAbove wanted - 1 = M) (hM : MaskOk M) (hw2 : SetTable.sizeAbove wanted ≤ 128) (hn : L.length * 5 < M * 3) {Q : Unit → Shared → Prop}
    (hQ : ∀ h' L' es' ep' t', Heap.SameBut a s.heap h' → Held w h' a L' es' ep' t' → L'.Perm L → Q () { s with heap := h' }) : wpAny (model P w) A (setRelay a wanted) Q E s := by
  have hsl := ents_size hrows
  obtain ⟨t', order, e, hp, T, em, el, ep', ed⟩ := relaid_ok t (hs := es.map (·.1)) (wanted := wanted) hw hM (by rw [Array.size_map, hsl]; omega)
  rw [Array.size_map, hsl] at hp
  obtain ⟨L2, r1, r2, r3⟩ := laid_order es order hrows hp
  rw [← r3] at T
  have hs2 : (order.filterMap (es[·]?)).size = es.size := by rw [ents_size r1, r2.length_eq, hsl]
  rw [setRelay_eq]
  refine wpAny_bind (wpAny_setState_of ho hd (fits_of hdm hsz hfl) ?_)
  dsimp only
  refine wp_if_neg (by rw [sizeLine_eq]; omega) ?_
  try refine wpAny_bind (wpAny_pure ?_)
  rw [e]
  dsimp only
  refine wpAny_bind ?_
  refine wp_if_neg (by rw [hs2]; simp) ?_
  try refine wpAny_bind (wpAny_pure ?_)
  refine wpAny_pure ?_
  dsimp only
  refine wpAny_storeSet_of ho hd ?_ (by rw [hs2, hsl, sizeLine_eq]; omega)
  have sb : Heap.SameBut a s.heap (s.heap.update a (Obj.putSet (order.filterMap (es[·]?)) t')) := Heap.SameBut.update ..
  refine hQ _ L2 (order.filterMap (es[·]?)) (ep + 1) t' sb ⟨⟨_, store_at ho hd, ⟨hex.1, hex.2.1, hex.2.2⟩, rfl⟩, r1, T, fun p hpm => (sp p (r2.mem_iff.mp hpm)).same ho hd sb, by rw [ep']; exact pl, by rw [el]; exact ld, ?_, by rw [r2.length_eq]; exact few⟩ r2
  rw [r2.length_eq, em]
  exact hn
theorem put_new (R : Held w s.heap a L es ep t) {x : Addr} {k : Thg} (hx : Spot s.heap k x) (hu : A.units + 8 < cLine) (hnew : ∀ p ∈ L, p.2 ≠ k) (hfew : L.length + 1 < 64) {Q : Bool → Shared → Prop}
    (hQ : ∀ b h' L' es' ep' t', Heap.SameBut a s.heap h' → Held w h' a L' es' ep' t' → L'.Perm ((x, k) :: L) → Q b { s with heap := h' }) :
    wpAny (model P w) A (setAddHashed a (.ref x) (hk w k)) Q E s := by
  obtain ⟨o, ho, hex, hd⟩ := R.ob
  have hsl := ents_size R.rows
  have hroom := R.room
  unfold setAddHashed
  refine wpAny_holding ?_
  rw [show (100000 : Nat) = 99999 + 1 from rfl, setAddHashedIn_succ]
  refine wpAny_bind (wpAny_setState_of ho hd R.fits ?_)
  dsimp only
  refine wp_if_neg (by simp [byScan, Value.scannable]) ?_
  try refine wpAny_bind (wpAny_pure ?_)
  refine wpAny_bind (seek_new R hx hu hnew fun K hK hb => ?_)
  dsimp only
  refine wpAny_bind (wpAny_setState_of ho hd R.fits ?_)
  dsimp only
  obtain ⟨q1, q2, q3, q4, q5, q6, q7, q8, q9⟩ := R.tab.put hK hb
  have hp1 : (t.put (way t.mask (hk w k) K)).1.plain = true := by rw [q6]; exact R.plain
  generalize hpt : t.put (way t.mask (hk w k) K) = pt at q1 q3 q4 q5 q6 q7 q8 q9 hp1 ⊢
  obtain ⟨t1, p⟩ := pt
  dsimp only at q1 q3 q4 q5 q6 q7 q8 q9 hp1 ⊢
  subst q1
  have byv : ∀ (Q' : Bool → Shared → Prop), Q' true s → wpAny (model P w) A (hashByValue 8 (.ref x)) Q' E s := fun Q' q => hx.byV _ _ _ q
  first
    | (refine wpAny_bind ?_; refine wp_if_pos hp1 ?_; refine byv _ ?_)
    | refine wp_if_pos hp1 (wpAny_bind (byv _ ?_))
  simp only [if_true]
  have hin : (SetTable.insertAt es (SetTable.below t.place (way t.mask (hk w k) K)) (hk w k, Value.ref x)).toList = ents w (L.take (SetTable.below t.place (way t.mask (hk w k) K)) ++ (x, k) :: L.drop (SetTable.below t.place (way t.mask (hk w k) K))) := by
    rw [SetTable.toList_insertAt, ents_put, R.rows]
  generalize hpp : SetTable.below t.place (way t.mask (hk w k) K) = p at q2 q3 hin ⊢
  have pm : (L.take p ++ (x, k) :: L.drop p).Perm ((x, k) :: L) := by
    have h : (L.take p ++ (x, k) :: L.drop p).Perm ((x, k) :: (L.take p ++ L.drop p)) := List.perm_middle
    rw [List.take_append_drop] at h
    exact h
  have hlen : (L.take p ++ (x, k) :: L.drop p).length = L.length + 1 := pm.length_eq
  have hhs : (L.take p ++ (x, k) :: L.drop p).map (fun p => hk w p.2) = (L.map fun p => hk w p.2).take p ++ hk w k :: (L.map fun p => hk w p.2).drop p := by
    rw [List.map_append, List.map_cons, List.map_take, List.map_drop]
  rw [← hhs] at q3
  have hes : (SetTable.insertAt es p (hk w k, Value.ref x)).size = L.length + 1 := by rw [ents_size hin, hlen]
  generalize SetTable.insertAt es p (hk w k, Value.ref x) = es1 at hin hes ⊢
  generalize L.take p ++ (x, k) :: L.drop p = L1 at pm hlen q3 hin
  refine wpAny_bind (wpAny_storeSet_of ho hd ?_ (by rw [hes, sizeLine_eq]; omega))
  have sb : Heap.SameBut a s.heap (s.heap.update a (Obj.putSet es1 t1)) := Heap.SameBut.update ..
  have ho1 := store_at (es' := es1) (t' := t1) ho hd
  generalize s.heap.update a (Obj.putSet es1 t1) = h1 at sb ho1 ⊢
  have sp1 : ∀ p ∈ L1, Spot h1 p.2 p.1 := fun p hp => by
    rcases List.mem_cons.mp (pm.mem_iff.mp hp) with e | hp
    · rw [e]; exact hx.same ho hd sb
    · exact (R.spots p hp).same ho hd sb
  have ld1 : w.params.followText "set-order" = true ∨ t1.led = true := by rw [q5]; exact R.led
  by_cases hf : t1.tooFull = true
  · first
      | (refine wpAny_bind ?_; refine wp_if_pos (by simp [hf]) ?_)
      | (refine wp_if_pos (by simp [hf]) ?_; refine wpAny_bind ?_)
    have hfull : (L.length + 1) * 5 ≥ t1.mask * 3 := by
      have h := hf
      unfold SetTable.tooFull at h
      rw [decide_eq_true_eq, q9, List.length_map] at h
      exact h
    rw [hsl]
    have hsz1 : t1.place.size = es1.size := by
      have h := q3.sz
      rw [List.length_map, hlen] at h
      rw [h, hes]
    have two : (t.mask = 7 ∧ L.length = 4) ∨ (t.mask = 31 ∧ L.length = 18) := by
      rcases R.tab.mok with e | e | e
      · left; rw [q4, e] at hfull; rw [e] at hroom; exact ⟨e, by omega⟩
      · right; rw [q4, e] at hfull; rw [e] at hroom; exact ⟨e, by omega⟩
      · exfalso; rw [q4, e] at hfull; omega
    have go : ∀ M, SetTable.sizeAbove (SetTable.grown (L.length + 1)) - 1 = M → MaskOk M → SetTable.sizeAbove (SetTable.grown (L.length + 1)) ≤ 128 → (L.length + 1) * 5 < M * 3 →
        wpAny (model P w) A (setRelay a (SetTable.grown (L.length + 1))) (fun _ s' => wpAny (model P w) A (pure true) Q E s') E { s with heap := h1 } := fun M h1' h2' h3' h4' => by
      refine relay_new (s := { s with heap := h1 }) ho1 ⟨hex.1, hex.2.1, hex.2.2⟩ rfl hin hsz1 q3.dm (by rw [hes, q4]; rcases two with ⟨e, e2⟩ | ⟨e, e2⟩ <;> omega) sp1 hp1 ld1 (by rw [hlen]; exact hfew) h1' h2' h3' (by rw [hlen]; exact h4') ?_
      intro h2 L2 es2 ep2 t2 sb2 R2 pm2
      exact wpAny_pure (hQ true h2 L2 es2 ep2 t2 (sb.trans sb2) R2 (pm2.trans pm))
    rcases two with ⟨_, e2⟩ | ⟨_, e2⟩
    · exact go 31 (by rw [e2, size_20]) (.inr (.inl rfl)) (by rw [e2, size_20]; decide) (by omega)
    · exact go 127 (by rw [e2, size_76]) (.inr (.inr rfl)) (by rw [e2, size_76]; decide) (by omega)
  · first
      | refine wp_if_neg (by simp [hf]) ?_
      | (refine wpAny_bind ?_; refine wp_if_neg (by simp [hf]) ?_; refine wpAny_pure ?_)
    refine wpAny_pure (hQ true h1 L1 es1 (ep + 1) t1 sb ⟨⟨_, ho1, ⟨hex.1, hex.2.1, hex.2.2⟩, rfl⟩, hin, q3, sp1, hp1, ld1, ?_, by rw [hlen]; exact hfew⟩ pm)
    have h := hf
    unfold SetTable.tooFull at h
    rw [decide_eq_true_eq, q9, List.length_map] at h
    rw [hlen]
    omega

/-! ### set(xs) -/
theorem Held.keep {h h' : Heap} (R : Held w h a L es ep t) (ha : ∀ o, h.get? a = some o → h'.get? a = some o) (hs : ∀ p ∈ L, Spot h' p.2 p.1) : Held w h' a L es ep t := by
  obtain ⟨o, ho, r⟩ := R.ob
  exact ⟨⟨o, ha o ho, r⟩, R.rows, R.tab, hs, R.plain, R.led, R.room, R.few⟩
/-- a new set -/
abbrev freshT (w : World) : SetTable := .fresh 0 0 (!w.params.followText "set-order")
abbrev freshO (w : World) : Obj := { cls := .type "set", dict := none, data := .set #[] 0 (freshT w) }
theorem held_fresh {h : Heap} (ho : h.get? a = some (freshO w)) : Held w h a [] #[] 0 (freshT w) where
  ob := ⟨_, ho, ⟨rfl, rfl, rfl⟩, rfl⟩
  rows := rfl
  tab := ⟨List.Pairwise.nil, rfl, rfl, .inl rfl, fun x hx => (by cases hx), fun i h j hi => (by simp at hi)⟩
  spots := fun p hp => (by cases hp)
  plain := rfl
  led := by
    show _ ∨ (!w.params.followText "set-order") = true
    cases w.params.followText "set-order"
    · exact .inr rfl
    · exact .inl rfl
  room := by
    show 0 * 5 < 7 * 3
    decide
  few := by
    show 0 < 64
    decide
/-- set.update's loop over unlike things: behind i turns the set holds the first i -/
theorem update_new {I : Addr} {fp wr : List Addr} {G : Array GenState → Array GenState → Prop} {n : Nat} {Pv : Nat → Value → Prop} {St : Nat → Shared → Prop} {R : Result → Shared → Prop}
    (W : WalksS P w A.in1 I fp wr G n Pv St) (S : Addr) (hSf : S ∉ fp) (ks : List (Addr × Thg)) (hn : n = ks.length) (hfew : ks.length < 64) (hnd : (ks.map (·.2)).Nodup) (hval : ∀ i v, Pv i v → ∃ p, ks[i]? = some p ∧ v = .ref p.1)
    (h0 : Heap) (hks : ∀ p ∈ ks, Spot h0 p.2 p.1) (hS0 : h0.get? S = none) (hw0 : ∀ b ∈ wr, h0.get? b = none) (hu : A.in1.units + 9 < cLine) :
    ∀ (k i : Nat) (s : Shared), n - i = k → i ≤ n → St i s → (∀ b o, h0.get? b = some o → s.heap.get? b = some o) → (∃ L es ep t, Held w s.heap S L es ep t ∧ L.Perm (ks.take i)) →
      (∀ s' L es ep t, Moved (S :: wr) G s s' → Held w s'.heap S L es ep t → L.Perm ks → (∀ b o, h0.get? b = some o → s'.heap.get? b = some o) → R (.ok (.ret .none)) s') →
      codeAny (model P w) A (.builtin "set.update.loop" ⟨[.ref S, .ref I], []⟩) R s := by
  have hSw : S ∉ wr := fun h => hSf (W.sub _ h)
  have hsub : ∀ b ∈ wr, b ∈ S :: wr := fun b hb => List.mem_cons_of_mem _ hb
  have keepM : ∀ {s s' : Shared}, Moved wr G s s' → (∀ b o, h0.get? b = some o → s.heap.get? b = some o) → ∀ b o, h0.get? b = some o → s'.heap.get? b = some o := fun hm hkp b o e =>
    hm.heap b o (fun hb => by rw [hw0 b hb] at e; cases e) (hkp b o e)
  intro k
  induction k with
  | zero =>
    intro i s hk' hi hst hkp ⟨L, es, ep, t, hS, g⟩ hR
    have hin : i = n := by omega
    subst hin
    refine codeAny_builtin F.entry_set_update_loop ?_
    rw [Around.under_plainId F.plain_set_update_loop _]
    show wpAny _ A.in1 (pyNext (.ref I) >>= _) _ _ s
    refine wpAny_bind (W.done s _ _ hst fun s' hm => ?_)
    show wpAny _ A.in1 (ret Value.none) _ _ s'
    have hkp' := keepM hm hkp
    rw [hn, List.take_length] at g
    exact wpAny_pure (hR s' L es ep t (hm.mono hsub) (hS.keep (fun o e => hm.heap S o hSw e) fun p hp => (hks p (g.mem_iff.mp hp)).keep hkp') g hkp')
  | succ k ih =>
    intro i s hk' hi hst hkp ⟨L, es, ep, t, hS, g⟩ hR
    have hlt : i < n := by omega
    refine codeAny_builtin F.entry_set_update_loop ?_
    rw [Around.under_plainId F.plain_set_update_loop _]
    show wpAny _ A.in1 (pyNext (.ref I) >>= _) _ _ s
    refine wpAny_bind (W.item i s _ _ hlt hst fun v s' hP hst' hm => ?_)
    obtain ⟨p, hp, rfl⟩ := hval i v hP
    have hkp' := keepM hm hkp
    have sub : ∀ q ∈ L, q ∈ ks := fun q hq => List.mem_of_mem_take (g.mem_iff.mp hq)
    have hS' : Held w s'.heap S L es ep t := hS.keep (fun o e => hm.heap S o hSw e) fun q hq => (hks q (sub q hq)).keep hkp'
    have hx : Spot s'.heap p.2 p.1 := (hks p (List.mem_of_getElem? hp)).keep hkp'
    have hil : i < ks.length := by omega
    have htk : ks.take (i + 1) = ks.take i ++ [p] := by rw [List.take_succ, hp]; rfl
    have hnew : ∀ q ∈ L, q.2 ≠ p.2 := fun q hq e => by
      have hq' := g.mem_iff.mp hq
      obtain ⟨j, hj⟩ := List.mem_iff_getElem?.mp hq'
      rw [List.getElem?_take] at hj
      by_cases hji : j < i
      · rw [if_pos hji] at hj
        have f1 : (ks.map (·.2))[j]? = some p.2 := by rw [List.getElem?_map, hj]; exact congrArg some e
        have f2 : (ks.map (·.2))[i]? = some p.2 := by rw [List.getElem?_map, hp]; rfl
        obtain ⟨g1, g2⟩ := List.getElem?_eq_some_iff.mp f1
        obtain ⟨g3, g4⟩ := List.getElem?_eq_some_iff.mp f2
        have := (List.getElem_inj hnd).mp (g2.trans g4.symm)
        omega
      · rw [if_neg hji] at hj
        cases hj
    have hll : L.length = i := by rw [g.length_eq, List.length_take]; omega
    show wpAny _ A.in1 (holding [Value.ref p.1] (setAdd S (.ref p.1)) >>= _) _ _ s'
    refine wpAny_bind (wpAny_holding ?_)
    unfold setAdd
    refine wpAny_holding ?_
    refine wpAny_bind ((nestedKind P w).pyHash (k := spotKey p.2) (show A.in1.units + 8 < cLine by omega) hx.kind ?_)
    have eh : (nestedKind P w).hash (spotKey p.2) = hk w p.2 := hk_eq w p.2
    rw [eh]
    refine put_new (s := { s' with toks := s'.toks + (spotKey p.2).draws }) hS' hx (by omega) hnew (by omega) fun b h' L' es' ep' t' hsb hS2 pm => ?_
    have g' : L'.Perm (ks.take (i + 1)) := by
      rw [htk]
      exact pm.trans ((List.Perm.cons _ g).trans (List.perm_append_comm (l₁ := [p])))
    have hkp2 : ∀ b o, h0.get? b = some o → h'.get? b = some o := fun b o e => (hsb.2 b (fun z => by rw [z, hS0] at e; cases e)).trans (hkp' b o e)
    refine wpAny_pure ⟨plainId_quiet F.plain_set_update_loop _, ih (i + 1) _ (by omega) hlt (W.frame _ s' _ _ hst' (Nat.le_add_right _ _) fun b hb o e => ?_) hkp2 ⟨L', es', ep', t', hS2, g'⟩ fun s'' L2 es2 ep2 t2 hm'' hS'' g'' hkp'' => ?_⟩
    · rw [hsb.2 b (fun h : b = S => hSf (by rw [← h]; exact hb))]; exact e
    · refine hR s'' L2 es2 ep2 t2 (Moved.trans W.gtrans ((hm.mono hsub).then_heap (Nat.le_add_right _ _) fun b o hb e => ?_) hm'') hS'' g'' hkp''
      rw [hsb.2 b (fun h : b = S => hb (by rw [h]; exact List.mem_cons_self))]; exact e

/-- the state in which set.update's loop over the list at l begins: the new set, then the list's iterator -/
abbrev iterO (l : Addr) : Obj := { cls := .type "list_iterator", data := .fields #[.ref l, .int 0 0] }
abbrev heapU (w : World) (h : Heap) (l : Addr) : Heap := (h.push (freshO w)).push (iterO l)
set_option maxRecDepth 100000 in
set_option maxHeartbeats 4000000 in
/-- set(xs), xs a list: by what the loop of its update leaves of the new set -/
theorem call_set_by {l : Addr} {items : Array Value} (F2 : Heap → Prop) {Q : Value → Shared → Prop} (hl : s.heap.IsList l items)
    (loop : ∀ R : Result → Shared → Prop, (∀ (h' : Heap) (tk : Nat), F2 h' → (∀ b o, s.heap.get? b = some o → h'.get? b = some o) → R (.ok (.ret .none)) { s with heap := h', toks := tk }) →
      codeAny (model P w) A.in1.in1 (.builtin "set.update.loop" ⟨[.ref s.heap.objs.size, .ref (s.heap.objs.size + 1)], []⟩) R { s with heap := heapU w s.heap l })
    (h : ∀ (h' : Heap) (tk : Nat), F2 h' → (∀ b o, s.heap.get? b = some o → h'.get? b = some o) → Q (.ref s.heap.objs.size) { s with heap := h', toks := tk }) :
    wpAny (model P w) A (call (.type "set") [.ref l]) Q E s := by
  obtain ⟨c, tl, hmro⟩ := F.called_set.mro
  have hmade := F.called_set.made
  have hsub := F.called_set.sub
  refine wpAny_call (codeAny_of_tree ?_)
  show wpAny _ _ (callAny (.type "set") _) _ _ _
  refine wpAny_pure ⟨Code.quiet_builtin _ (by decide +kernel), codeAny_builtin F.entry_type_call ?_⟩
  rw [Around.under_plain (weight_type_call_type "set" [.ref l] []) rfl]
  have h1 := F.called_set.notType
  have h2 := F.called_set.canCreate
  have hct := F.typeCall_set_1 (.ref l)
  repeat (any_goals (first | assumption | wp_step))
  refine codeAny_mono (code_set_led1 (.ref l) (E := E) (Q₁ := fun obj s₁ => obj = .ref s.heap.objs.size ∧ s₁ = { s with heap := s.heap.push (freshO w) }) ⟨rfl, rfl⟩) fun r s₁ hr => ?_
  cases r with
  | error e => exact hr
  | ok fl =>
    cases fl with
    | ret obj =>
      obtain ⟨rfl, rfl⟩ := hr
      have hS : (s.heap.push (freshO w)).get? s.heap.objs.size = some (freshO w) := Heap.get?_push_size _ rfl
      have hT : Shared.TypeIs { s with heap := s.heap.push (freshO w) } (.ref s.heap.objs.size) "set" := ⟨_, hS, rfl⟩
      have hli := F.called_set.init.lookup
      have hbi := F.called_set.init.bind (.ref s.heap.objs.size)
      repeat (any_goals (first | assumption | wp_step))
      refine codeAny_mono (codeAny_call_builtin (R := wants (fun r s₂ => r = .none ∧ ∃ h' tk, s₂ = { s with heap := h', toks := tk } ∧ F2 h' ∧
          (∀ b o, s.heap.get? b = some o → h'.get? b = some o)) E) F.called_set.init.plain F.entry_set_init (check_set_init_1 hT ?_)) fun r₂ s₂ hr₂ => ?_
      · obtain ⟨ol, hol, hcl, nl, hdl⟩ := hl
        obtain ⟨ocls, odict, odata, oslots⟩ := ol
        simp only at hcl hdl
        subst hcl; subst hdl
        have hol' : (s.heap.push (freshO w)).get? l = some { cls := .type "list", dict := odict, data := .seq items nl, slots := oslots } := Heap.get?_push_of_some _ hol
        have hsls := F.sub_list_set
        have hslf := F.sub_list_frozenset
        have hne : (Value.type "list" == Value.type "dict") = false := by decide
        have hl1 : (s.heap.push (freshO w)).IsList l items := ⟨_, hol', rfl, nl, rfl⟩
        unfold Builtin.«set.__init__» noKeywords Builtin.Frozenset.updateFrom
        generalize hPI : pyIter = PI
        wp_walk
        subst hPI
        refine wpAny_pyIter_list hl1 ?_
        refine wpAny_bind (wpAny_runValue ?_)
        have ez : (s.heap.push (freshO w)).objs.size = s.heap.objs.size + 1 := Heap.size_push ..
        rw [ez]
        refine loop _ fun h' tk f2 hkp => ?_
        show wpAny _ _ _ _ _ _
        refine wpAny_pure ?_
        show wpAny _ _ (ret Value.none) _ _ _
        exact wpAny_pure ⟨rfl, h', tk, rfl, f2, hkp⟩
      · cases r₂ with
        | error e => exact hr₂
        | ok fl₂ =>
          cases fl₂ with
          | ret r =>
            obtain ⟨rfl, h', tk, rfl, hS', hk'⟩ := hr₂
            repeat (any_goals (first | assumption | wp_step))
            exact h _ _ hS' hk'
          | _ => exact hr₂.elim
    | _ => exact hr.elim
/-- the loop's walk over the list -/
theorem loop_ground {l : Addr} {items : Array Value} (hl : s.heap.IsList l items) : l ≠ s.heap.objs.size + 1 ∧ s.heap.objs.size ∉ [s.heap.objs.size + 1, l] ∧ (heapU w s.heap l).get? s.heap.objs.size = some (freshO w) ∧
    (heapU w s.heap l).get? (s.heap.objs.size + 1) = some (iterO l) ∧ (heapU w s.heap l).IsList l items ∧ (∀ b o, s.heap.get? b = some o → (heapU w s.heap l).get? b = some o) := by
  have hl0 := hl
  obtain ⟨ol, hol, _⟩ := hl0
  have hlS : l < s.heap.objs.size := Heap.lt_size hol
  have ez : (s.heap.push (freshO w)).objs.size = s.heap.objs.size + 1 := Heap.size_push ..
  have hS : (s.heap.push (freshO w)).get? s.heap.objs.size = some (freshO w) := Heap.get?_push_size _ rfl
  refine ⟨Nat.ne_of_lt (Nat.lt_succ_of_lt hlS), ?_, Heap.get?_push_of_some _ hS, ?_, (hl.push _).push _, fun b o e => Heap.get?_push_of_some _ (Heap.get?_push_of_some _ e)⟩
  · simp only [List.mem_cons, List.not_mem_nil, or_false, not_or]
    exact ⟨Nat.ne_of_lt (Nat.lt_succ_self _), Nat.ne_of_gt hlS⟩
  · rw [← ez]; exact Heap.get?_push_size _ rfl
/-- set(xs), xs a list of unlike things -/
theorem call_set_new {l : Addr} {items : Array Value} (ks : List (Addr × Thg)) {Q : Value → Shared → Prop} (hh : A.handled = none) (hl : s.heap.IsList l items) (hit : items.toList = ks.map fun p => Value.ref p.1)
    (hks : ∀ p ∈ ks, Spot s.heap p.2 p.1) (hfew : ks.length < 64) (hnd : (ks.map (·.2)).Nodup) (hu : A.units + 16 < cLine)
    (h : ∀ (h' : Heap) (tk : Nat) L es ep t, Held w h' s.heap.objs.size L es ep t → L.Perm ks → (∀ b o, s.heap.get? b = some o → h'.get? b = some o) → Q (.ref s.heap.objs.size) { s with heap := h', toks := tk }) :
    wpAny (model P w) A (call (.type "set") [.ref l]) Q E s := by
  have hisz : items.size = ks.length := by
    have q := congrArg List.length hit
    rw [Array.length_toList, List.length_map] at q
    exact q
  have hval : ∀ (i : Nat) (v : Value), items[i]? = some v → ∃ p, ks[i]? = some p ∧ v = .ref p.1 := fun i v hv => by
    have q : items.toList[i]? = some v := by rw [Array.getElem?_toList]; exact hv
    rw [hit, List.getElem?_map] at q
    cases hq : ks[i]? with
    | none => rw [hq] at q; cases q
    | some p =>
      rw [hq] at q
      exact ⟨p, rfl, (Option.some.inj q).symm⟩
  obtain ⟨g1, g2, g3, g4, g5, g6⟩ := loop_ground (w := w) hl
  refine call_set_by (fun h' => ∃ L es ep t, Held w h' s.heap.objs.size L es ep t ∧ L.Perm ks) hl (fun R hR => ?_) fun h' tk ⟨L, es, ep, t, a1, a2⟩ hkp => h h' tk L es ep t a1 a2 hkp
  have none_of : ∀ b, s.heap.objs.size ≤ b → s.heap.get? b = none := fun b hb => Heap.get?_none_of_le hb
  have hh3 : A.in1.in1.in1.handled = none := by simp [hh]
  refine update_new ((Walks.list hh3 _ l g1 items).toS) s.heap.objs.size g2 ks hisz hfew hnd hval s.heap hks (none_of _ (Nat.le_refl _)) (fun b hb => none_of b (by
      rw [List.mem_singleton.mp hb]
      exact Nat.le_succ _)) (by simp only [Around.in1_units]; omega) (items.size - 0) 0 _ (by omega) (Nat.zero_le _) ⟨⟨_, g4, rfl, rfl⟩, g5⟩ g6 ⟨[], #[], 0, _, held_fresh g3, by rw [List.take_zero]⟩ ?_
  intro s' L es ep t hm hS' g' hkp
  obtain ⟨h', gs, d', tk', os'⟩ := s'
  have eg : gs = s.gens := hm.gens
  have ed : d' = s.drawn := hm.drawn
  have eo : os' = s.os := hm.os
  subst eg; subst ed; subst eo
  exact hR h' tk' ⟨L, es, ep, t, hS', g'⟩ hkp

/-! ### a set of unlike texts -/
theorem loop_strs {I : Addr} {fp wr : List Addr} {G : Array GenState → Array GenState → Prop} {n : Nat} {Pv : Nat → Value → Prop} {St : Nat → Shared → Prop} {R : Result → Shared → Prop}
    (W : WalksS P w A.in1 I fp wr G n Pv St) (S : Addr) (hSf : S ∉ fp) (xs : List Str) (hsz : xs.length = n) (hn : n + 1 < scanBound) (hnd : xs.Nodup) (hval : ∀ i v, Pv i v → ∃ x t, xs[i]? = some x ∧ v = .str x t)
    (h0 : Heap) (hS0 : h0.get? S = none) (hw0 : ∀ b ∈ wr, h0.get? b = none) :
    ∀ (k i : Nat) (s : Shared), n - i = k → i ≤ n → St i s → (∀ b o, h0.get? b = some o → s.heap.get? b = some o) → s.heap.SetOf (strKind P w) S (fun k' => decide (k' ∈ xs.take i)) i →
      (∀ s', Moved (S :: wr) G s s' → s'.heap.SetOf (strKind P w) S (fun k' => decide (k' ∈ xs.take n)) n → (∀ b o, h0.get? b = some o → s'.heap.get? b = some o) → R (.ok (.ret .none)) s') →
      codeAny (model P w) A (.builtin "set.update.loop" ⟨[.ref S, .ref I], []⟩) R s := by
  have hSw : S ∉ wr := fun h => hSf (W.sub _ h)
  have hsub : ∀ b ∈ wr, b ∈ S :: wr := fun b hb => List.mem_cons_of_mem _ hb
  have keepM : ∀ {s s' : Shared}, Moved wr G s s' → (∀ b o, h0.get? b = some o → s.heap.get? b = some o) → ∀ b o, h0.get? b = some o → s'.heap.get? b = some o := fun hm hkp b o e =>
    hm.heap b o (fun hb => by rw [hw0 b hb] at e; cases e) (hkp b o e)
  intro k
  induction k with
  | zero =>
    intro i s hk' hi hst hkp hS hR
    have hin : i = n := by omega
    subst hin
    refine codeAny_builtin F.entry_set_update_loop ?_
    rw [Around.under_plainId F.plain_set_update_loop _]
    show wpAny _ A.in1 (pyNext (.ref I) >>= _) _ _ s
    refine wpAny_bind (W.done s _ _ hst fun s' hm => ?_)
    show wpAny _ A.in1 (ret Value.none) _ _ s'
    refine wpAny_pure (hR s' (hm.mono hsub) ?_ (keepM hm hkp))
    obtain ⟨o, es, ep, t, ho, rest⟩ := hS
    exact ⟨o, es, ep, t, hm.heap S _ hSw ho, rest⟩
  | succ k ih =>
    intro i s hk' hi hst hkp hS hR
    have hlt : i < n := by omega
    refine codeAny_builtin F.entry_set_update_loop ?_
    rw [Around.under_plainId F.plain_set_update_loop _]
    show wpAny _ A.in1 (pyNext (.ref I) >>= _) _ _ s
    refine wpAny_bind (W.item i s _ _ hlt hst fun v s' hP hst' hm => ?_)
    obtain ⟨x, tk, hx, rfl⟩ := hval i v hP
    have hkp' := keepM hm hkp
    have hS' : s'.heap.SetOf (strKind P w) S (fun k' => decide (k' ∈ xs.take i)) i := by
      obtain ⟨o, es, ep, t, ho, rest⟩ := hS
      exact ⟨o, es, ep, t, hm.heap S _ hSw ho, rest⟩
    have htk : xs.take (i + 1) = xs.take i ++ [x] := by rw [List.take_succ, hx]; rfl
    have hno : ¬ x ∈ xs.take i := fun hm' => by
      obtain ⟨j, hj⟩ := List.mem_iff_getElem?.mp hm'
      rw [List.getElem?_take] at hj
      by_cases hji : j < i
      · rw [if_pos hji] at hj
        obtain ⟨a1, a2⟩ := List.getElem?_eq_some_iff.mp hj
        obtain ⟨a3, a4⟩ := List.getElem?_eq_some_iff.mp hx
        have := (List.getElem_inj hnd).mp (a2.trans a4.symm)
        omega
      · rw [if_neg hji] at hj
        cases hj
    show wpAny _ A.in1 (holding [Value.str x tk] (setAdd S (.str x tk)) >>= _) _ _ s'
    refine wpAny_bind (wpAny_holding ?_)
    unfold setAdd
    refine wpAny_holding ?_
    refine wpAny_bind ((strKind P w).pyHash (k := x) (strKind_is _ _ _ _) ?_)
    refine wpAny_setAddHashed_of (knd := strKind P w) (s := { s' with toks := s'.toks + 1 }) (strKind_is _ _ _ _) rfl hS' (by omega) fun h' hsb hS2 => ?_
    have hSi : h'.SetOf (strKind P w) S (fun k' => decide (k' ∈ xs.take (i + 1))) (i + 1) := by
      refine PyProof.Rows.SetOf_congr hS2 (fun k' => ?_) (by rw [decide_eq_false hno]; rfl)
      rw [htk, Bool.eq_iff_iff]
      simp
    have hkp2 : ∀ b o, h0.get? b = some o → h'.get? b = some o := fun b o e => (hsb.2 b (fun z => by rw [z, hS0] at e; cases e)).trans (hkp' b o e)
    refine wpAny_pure ⟨plainId_quiet F.plain_set_update_loop _, ih (i + 1) _ (by omega) hlt (W.frame _ s' _ _ hst' (Nat.le_succ _) fun b hb o e => ?_) hkp2 hSi fun s'' hm'' hS'' hkp'' => ?_⟩
    · rw [hsb.2 b (fun h : b = S => hSf (by rw [← h]; exact hb))]; exact e
    · refine hR s'' (Moved.trans W.gtrans ((hm.mono hsub).then_heap (Nat.le_succ _) fun b o hb e => ?_) hm'') hS'' hkp''
      rw [hsb.2 b (fun h : b = S => hb (by rw [h]; exact List.mem_cons_self))]; exact e
theorem call_set_strs {l : Addr} {items : Array Value} (xs : List Str) {Q : Value → Shared → Prop} (hh : A.handled = none) (hl : s.heap.IsList l items) (hit : StrsAre items.toList xs) (hfew : xs.length < 1000) (hnd : xs.Nodup)
    (h : ∀ (h' : Heap) (tk : Nat), h'.SetOf (strKind P w) s.heap.objs.size (fun k' => decide (k' ∈ xs.take items.size)) items.size → (∀ b o, s.heap.get? b = some o → h'.get? b = some o) → Q (.ref s.heap.objs.size) { s with heap := h', toks := tk }) :
    wpAny (model P w) A (call (.type "set") [.ref l]) Q E s := by
  have hlen : ∀ {us : List Value} {ys : List Str}, StrsAre us ys → us.length = ys.length := fun r => by
    induction r with
    | nil => rfl
    | cons _ _ _ ih => rw [List.length_cons, List.length_cons, ih]
  have hisz : xs.length = items.size := by rw [← Array.length_toList, hlen hit]
  have hval : ∀ (i : Nat) (v : Value), items[i]? = some v → ∃ x t, xs[i]? = some x ∧ v = .str x t := fun i v hv => by
    obtain ⟨t, e⟩ := SS.strs_at hit i v (by rw [Array.getElem?_toList]; exact hv)
    have hi : i < xs.length := by
      rw [hisz]
      exact (Array.getElem?_eq_some_iff.mp hv).1
    exact ⟨xs.getD i Str.empty, t, by rw [List.getElem?_eq_getElem hi, List.getD_eq_getElem?_getD, List.getElem?_eq_getElem hi]; rfl, e⟩
  obtain ⟨g1, g2, g3, g4, g5, g6⟩ := loop_ground (w := w) hl
  refine call_set_by (fun h' => h'.SetOf (strKind P w) s.heap.objs.size (fun k' => decide (k' ∈ xs.take items.size)) items.size) hl (fun R hR => ?_) h
  have none_of : ∀ b, s.heap.objs.size ≤ b → s.heap.get? b = none := fun b hb => Heap.get?_none_of_le hb
  have hh3 : A.in1.in1.in1.handled = none := by simp [hh]
  have hS0 : (heapU w s.heap l).SetOf (strKind P w) s.heap.objs.size (fun k' => decide (k' ∈ xs.take 0)) 0 :=
    PyProof.Rows.SetOf_congr ((PyProof.Rows.setObjOf_fresh (knd := strKind P w) _).setOf g3 (by unfold scanBound; omega)) (fun k => by simp) rfl
  refine loop_strs ((Walks.list hh3 _ l g1 items).toS) s.heap.objs.size g2 xs hisz (by unfold scanBound; omega) hnd hval s.heap (none_of _ (Nat.le_refl _)) (fun b hb => none_of b (by
      rw [List.mem_singleton.mp hb]
      exact Nat.le_succ _)) (items.size - 0) 0 _ (by omega) (Nat.zero_le _) ⟨⟨_, g4, rfl, rfl⟩, g5⟩ g6 hS0 ?_
  intro s' hm hS' hkp
  obtain ⟨h', gs, d', tk', os'⟩ := s'
  have eg : gs = s.gens := hm.gens
  have ed : d' = s.drawn := hm.drawn
  have eo : os' = s.os := hm.os
  subst eg; subst ed; subst eo
  exact hR h' tk' hS' hkp
end
end Bs
/-! Rules of our own over the hand layer: len of an own thing, enumerate of a tuple, tuple.index, text times number, sets and sorted lists of things. -/
namespace Bs
open PySem PySem.Spec PyProof.Rows L2
/-- a number as a value -/
abbrev vi (n : Nat) : V := .int (n : Int)
/-- the tuple at a holds these numbers -/
abbrev NumsAt (K : PySem.W.Frag) (H : Hp) (a : Addr) (ns : List Nat) : Prop := SqT K H a (ns.map vi)
/-- a thing of a rack stands at a -/
def ThAt (K : PySem.W.Frag) (H : Hp) (a : Addr) (x : Thg) : Prop := ∃ b, SqT K H a [vi x.1, .ref b] ∧ NumsAt K H b x.2
section
variable {X : Cx} {pins : List (Addr × Obj)} {σ : L2.St} {H : Hp} {s : Shared}
theorem nested_nums {h : Heap} : ∀ {ns : List Nat} {us : List Value}, Vals (ns.map vi) us → NestedAll h (ns.map fun n : Nat => NestedKey.num (n : Int)) us
  | [], _, .nil => .nil
  | n :: ns, _, .cons r t => by
    obtain ⟨k, rfl⟩ := r
    exact .cons (.int _ _) (nested_nums t)
theorem ThAt.spot {a : Addr} {x : Thg} (I : Inv X pins σ H s) (h : ThAt X.K H a x) : Spot s.heap x a := by
  obtain ⟨b, h1, h2⟩ := h
  obtain ⟨its, r, ⟨o, ho, hc, n, hd⟩, _⟩ := I.tuple h1
  obtain ⟨its2, r2, ⟨o2, ho2, hc2, n2, hd2⟩, _⟩ := I.tuple h2
  refine NestedIs.tup ho hc hd ?_
  cases r with
  | cons r1 r' =>
    cases r' with
    | cons r3 r'' =>
      cases r''
      obtain ⟨t, rfl⟩ := r1
      cases r3
      exact .cons (.int _ _) (.cons (.tup ho2 hc2 hd2 (by simpa using nested_nums r2)) .nil)
theorem refs_vals : ∀ {ks : List (Addr × Thg)} {us : List Value}, Vals (ks.map fun p => V.ref p.1) us → us = ks.map fun p => Value.ref p.1
  | [], _, .nil => rfl
  | p :: ks, _, .cons r t => by
    cases r
    rw [refs_vals t]; rfl
end
section
variable {X : Cx} {a : Expr} {ta : TE}
/-- len(set(xs)), xs a list of unlike things -/
def tLenSetK (K : PySem.W.Frag) (ta : TE) : TE := fun σ H Q => ta σ H fun x H1 => ∃ (l : Addr) (ks : List (Addr × Thg)), x = V.ref l ∧ SqL K H1 l (ks.map fun p => V.ref p.1) ∧ (∀ p ∈ ks, ThAt K H1 p.1 p.2) ∧ ks.length < 64 ∧ (ks.map (·.2)).Nodup ∧ Q (.int (ks.length : Nat)) H1
theorem pe_lenSetK {p p2 q pos : Pos} (hu : X.A.units + 64 < cLine) (hg : Gl X "len") (hm : X.mg "len" = none) (hg2 : Gl X "set") (hm2 : X.mg "set" = none) (ha : PE X a ta) (hc : X.calm = true := by rfl)
    (na : starEach [a] X.env = (false, eval a X.env) :: starEach [] X.env := by rfl) : PE X (.Call (.Name "len" p) [.Call (.Name "set" p2) [a] [] q] [] pos) (tLenSetK X.K ta) := by
  refine ⟨fun pins s σ H Q I h => ?_⟩
  refine Call_ (ld_blt I hg hm boot_len ?_)
  refine PyProof.Rows.callWith_builtin1 (PyProof.Rows.args_cons ?_ rfl) rfl rfl
  refine Call_ (ld_blt I hg2 hm2 boot_set ?_)
  refine PyProof.Rows.callWith_type1 (PyProof.Rows.args_cons (thn (ha.run pins s σ H _ I h) fun v s1 ⟨x, H1, I1, r1, q1⟩ => PyProof.Rows.args_nil ?_) na) na rfl
  obtain ⟨l, ks, rfl, hq, hks, hl, hnd, q1⟩ := q1
  cases r1
  obtain ⟨its, r, pl, hz⟩ := I1.list hq
  refine call_set_new (w := X.w) ks (I1.ok.hd hc) pl.isList (by simpa using refs_vals r) (fun p hp => (hks p hp).spot I1) hl hnd (by omega) fun h' tk L es ep t R pm hk => ?_
  refine PyProof.Rows.args_nil ?_
  obtain ⟨o, ho, hex, hd⟩ := R.ob
  have I2 : Inv X pins σ H1 { s1 with heap := h', toks := tk } := I1.kept hk
  have hn : es.size = ks.length := by rw [ents_size R.rows, pm.length_eq]
  exact call_len_set ho hex hd (Held.fits (s := { s1 with heap := h', toks := tk }) R) (by rw [hn]; omega) ⟨.int (ks.length : Nat), H1, I2.tok _, ⟨_, by rw [hn]⟩, q1⟩
/-- len(set(xs)), xs a list of unlike texts -/
def tLenSetS (K : PySem.W.Frag) (ta : TE) : TE := fun σ H Q => ta σ H fun x H1 => ∃ (l : Addr) (xs : List Str), x = V.ref l ∧ SqL K H1 l (xs.map V.str) ∧ xs.length < 1000 ∧ xs.Nodup ∧ Q (.int (xs.length : Nat)) H1
theorem pe_lenSetS {p p2 q pos : Pos} (hg : Gl X "len") (hm : X.mg "len" = none) (hg2 : Gl X "set") (hm2 : X.mg "set" = none) (ha : PE X a ta) (hc : X.calm = true := by rfl)
    (na : starEach [a] X.env = (false, eval a X.env) :: starEach [] X.env := by rfl) : PE X (.Call (.Name "len" p) [.Call (.Name "set" p2) [a] [] q] [] pos) (tLenSetS X.K ta) := by
  refine ⟨fun pins s σ H Q I h => ?_⟩
  refine Call_ (ld_blt I hg hm boot_len ?_)
  refine PyProof.Rows.callWith_builtin1 (PyProof.Rows.args_cons ?_ rfl) rfl rfl
  refine Call_ (ld_blt I hg2 hm2 boot_set ?_)
  refine PyProof.Rows.callWith_type1 (PyProof.Rows.args_cons (thn (ha.run pins s σ H _ I h) fun v s1 ⟨x, H1, I1, r1, q1⟩ => PyProof.Rows.args_nil ?_) na) na rfl
  obtain ⟨l, xs, rfl, hq, hl, hnd, q1⟩ := q1
  cases r1
  obtain ⟨its, r, pl, hz⟩ := I1.list hq
  have hlen : its.toArray.size = xs.length := by rw [List.size_toArray, ← r.length, List.length_map]
  refine call_set_strs (w := X.w) xs (I1.ok.hd hc) pl.isList (by simpa using strsAre_of r) hl hnd fun h' tk hS hk => ?_
  refine PyProof.Rows.args_nil ?_
  obtain ⟨o, es, ep, t, ho, hex, hd, _, _, _, hf, hn⟩ := hS
  have I2 : Inv X pins σ H1 { s1 with heap := h', toks := tk } := I1.kept hk
  exact call_len_set ho hex hd hf (by rw [hn, hlen]; omega) ⟨.int (xs.length : Nat), H1, I2.tok _, ⟨_, by rw [hn, hlen]⟩, q1⟩

/-! ### len(o), o of a class with its own __len__ -/
def rLenO (C : Addr) (sp : Sp) : List V → Hp → VK → Prop := fun xs H Q => ∃ (a dx : Addr) (fs : List (Str × V)), xs = [V.ref a] ∧ H a = some (.ins C dx fs) ∧ sp [.ref a] H (fun v H' => ∃ n : Nat, v = vi n ∧ n < 1000000 ∧ Q (vi n) H') (fun _ _ _ => False)
theorem call_lenO {CX : CXT} {C f : Addr} {k : Nat} {fd : FuncData} {ps : List Str} {sp : Sp} (F : FnOk X.prog X.w X.K X.mg X.base CX k f fd ps sp) (hr : Room (k + 1) X.A) (hs : PySem.W.findIn X.K (.ref C) "__len__" = some (some (.ref f)))
    (hf : PySem.W.isFn X.K (.ref f) = true) (hb : Binds X.K fd ps []) (hx : Passes CX X (fun _ _ _ => False)) : CallR X (.builtin "len") (rLenO C sp) := by
  intro pins s σ H xs us Q I r h
  obtain ⟨a, dx, fs, rfl, ha, hsp⟩ := h
  obtain ⟨u, rfl, ru⟩ := vals1 r
  cases ru
  obtain ⟨mA, J, _⟩ := ins_get I.hok ha
  obtain ⟨od, J, _⟩ := J.look
  obtain ⟨m, hF⟩ := I.fr
  refine PySem.W.len_K hF I.ok.mod.kin J hs hf ?_
  have e0 : Env0 X.prog X.w X.K X.mg X.base X.A.in1 X.stack s H := Env0.in1 I.env0
  have hl := F.len _ _ _ _ hsp
  have r2 : Vals [V.ref a] [Value.ref a] := .cons rfl .nil
  refine wpAny_call (codeAny_mono (F.run X.A.in1 X.stack s H ⟨[.ref a], []⟩ [.ref a] [.ref a] _ _ hr.in1 e0 (by
    have := hb s [.ref a] I.kIn (by simpa using hl)
    simpa using this) r2 hsp) fun r s' hq => ?_)
  cases r with
  | error e => exact hx pins σ H s e s' I hq
  | ok fl =>
    cases fl with
    | ret w =>
      obtain ⟨z, H', I', rz, n, ez, hn, q⟩ := I.after hq
      subst ez
      obtain ⟨t, rfl⟩ := rz
      exact ⟨⟨by omega, by omega⟩, .int (n : Int), H', I'.tok _, ⟨_, rfl⟩, q⟩
    | next => exact False.elim hq
    | brk => exact False.elim hq
    | cont => exact False.elim hq

/-! ### enumerate(t), t a tuple -/
def IteT (K : PySem.W.Frag) (a : Addr) : It :=
  ⟨fun i H => ∃ (xs : List V) (x : V), SqT K H a xs ∧ xs[i]? = some x, fun i H v H' => ∃ T x, v = .ref T ∧ H T = none ∧ H' = upd H T (.tup [.int (i : Nat), x]) ∧ ∀ xs, SqT K H a xs → xs[i]? = some x, fun i H => ∃ xs : List V, SqT K H a xs ∧ xs.length ≤ i⟩
end
theorem turn_enumT {P : Program} {w : World} {K : PySem.W.Frag} {elts : List Expr} {kk : Nat} {tpos : Pos} (a e it : Addr) :
    Turn P w K (.Tuple elts kk tpos) (IteT K a) [e, it] e (fun i h => (∃ old, IsEnum h e it ((i : Nat) : Int) old) ∧ h.IsTupleIter it a i ∧ e ≠ it ∧ e ≠ a ∧ a ≠ it) where
  mem := by simp
  obj := fun i h st b hb => by
    obtain ⟨⟨old, he⟩, ⟨o, ho, hc, hd⟩, _⟩ := st
    have e' : b = e ∨ b = it := by simpa using hb
    rcases e' with z | z
    · rw [z]; exact ⟨_, he, fun v q => nomatch q⟩
    · rw [z]; exact ⟨o, ho, fun v q => by rw [hd] at q; cases q⟩
  keep := fun i h h' st k => let ⟨⟨old, he⟩, hi, hne⟩ := st; ⟨⟨old, k e (by simp) _ he⟩, hi.at fun o q => k it (by simp) o q, hne⟩
  item := by
    intro X hP hw hK hc i pins s σ H E I hf st hg
    subst hP hw hK
    obtain ⟨⟨old, he⟩, hit, hne, hne2, hne3⟩ := st
    obtain ⟨xs, x, hq, hx⟩ := hg
    obtain ⟨its, rv, p, hz⟩ := I.tuple hq
    obtain ⟨u, hu, ru⟩ := rv.get hx
    have hel : e < s.heap.objs.size := Heap.lt_size he
    have hil : it < s.heap.objs.size := by obtain ⟨_, q, _⟩ := hit; exact Heap.lt_size q
    have hl : i < its.toArray.size := by
      rw [List.size_toArray]
      exact (List.getElem?_eq_some_iff.mp hu).1
    refine wpAny_pyNext_enum_itemD (Draws.tuple (prog := X.prog) (w := X.w) (A := X.A.in1) (by simp [I.ok.hd hc]) it a hne3 its.toArray) he ⟨hit, p⟩ hl hne (by simp [hne, hne2]) fun y h' tk hP' ho hst' hT hsz hk => ?_
    have ey : y = u := by
      have h1 : its.toArray[i]? = some u := by simpa using hu
      rw [h1] at hP'
      exact (Option.some.inj hP').symm
    subst ey
    refine ⟨_, rfl, wpAny_letOwnedTupleGo_enum (s := { s with heap := h', toks := tk + 1 }) ho fun h'' he' sb => ?_⟩
    have hT2 : h''.get? s.heap.objs.size = some { cls := .type "tuple", data := .seq #[.int i tk, y] } := (sb.2 _ (Nat.ne_of_gt hel)).trans hT
    have new : ObjOk X.prog X.w (upd H s.heap.objs.size (.tup [.int (i : Nat), x])) h'' s.heap.objs.size (.tup [.int (i : Nat), x]) :=
      ⟨by show 2 ≤ sizeLine; decide, [.int i tk, y], .cons ⟨_, rfl⟩ (.cons ru .nil), ⟨_, hT2, rfl, _, rfl⟩⟩
    have I1 : Inv X pins σ (upd H s.heap.objs.size (.tup [.int (i : Nat), x])) { s with heap := h'', toks := tk + 1 } :=
      I.turnedNew (ch := [e, it]) (fun b ob hb q => (sb.2 b (fun z => hb (by simp [z]))).trans (hk b ob (fun z => hb (by simp [z])) (fun z => hb (by simp [z])) q)) hf (Nat.le_refl _) new
    refine ⟨.ref s.heap.objs.size, _, I1, rfl, ⟨_, x, rfl, I.hok.fresh (Nat.le_refl _), rfl, fun ys hy => by rw [I.tuple_inj hy hq]; exact hx⟩, ⟨⟨y, ?_⟩, hst'.1.at fun o q => (sb.2 it (Ne.symm hne)).trans q, hne, hne2, hne3⟩, fun b hb => ?_⟩
    · have e1 : ((i + 1 : Nat) : Int) = (i : Int) + 1 := by omega
      rw [e1]; exact he'
    · have hb' : b < s.heap.objs.size := by
        have e' : b = e ∨ b = it := by simpa using hb
        rcases e' with z | z
        · rw [z]; exact hel
        · rw [z]; exact hil
      rw [upd_ne (Nat.ne_of_lt hb')]
      exact (hf b hb).1
  done := by
    intro X hP hw hK hc i pins s σ H E I hf st hg
    subst hP hw hK
    obtain ⟨⟨old, he⟩, hit, hne, hne2, hne3⟩ := st
    obtain ⟨xs, hq, hx⟩ := hg
    obtain ⟨its, rv, p, hz⟩ := I.tuple hq
    obtain ⟨f0, f1, f2, f3, f4, f5⟩ := hf it (by simp)
    have hl := rv.length
    have D := Draws.tuple (prog := X.prog) (w := X.w) (A := X.A.in1) (by simp [I.ok.hd hc]) it a hne3 its.toArray
    have hT : s.TypeIs (.ref e) "enumerate" := ⟨_, he, rfl⟩
    unfold pyNext
    refine wpAny_bind (wpAny_attempt (wpAny_callSpecial?_slot (name := Str.ofString "__next__") hT F.slot_enumerate_next
      (wpAny_call_entry F.slot_enumerate_next hT F.entry_enumerate_next ?_ (F.args_enumerate_next_1 _))))
    show wpAny _ _ (field (.ref e) 2 >>= _) _ _ _
    refine wpAny_bind (wpAny_field he rfl (x := .ref it) rfl ?_)
    refine wpAny_bind (wpAny_nextOf_tuple_end (by simp [I.ok.hd hc]) hit p (by simp; omega) fun h' x' he' hx' => ?_)
    obtain ⟨o, ho, hc'⟩ := hx'
    refine wpAny_bind (wpAny_isInstance (T := "StopIteration") (b := true) ⟨o, ho, hc'⟩ isSubtype_stop ?_)
    exact wpAny_pure ⟨rfl, I.turned (t' := s.toks) (fun b ob hb q => he' b ob hb q) f0 f1 f3 f4 f5⟩
  self := fun A i s Q E st h => let ⟨⟨_, he⟩, _⟩ := st; wpAny_pyIter_enum he h
theorem meets_enumT (l : Addr) (items : Array Value) (n : Nat) (dct : Option Addr) (sl : Array (Option Value)) :
    Meets (Builtin.«enumerate.__new__» ⟨[.type "enumerate", .ref l], []⟩) (fun _ R s => s.heap.get? l = some { cls := .type "tuple", dict := dct, data := .seq items n, slots := sl } ∧
      R (.ok (.ret (.ref (s.heap.push { cls := .type "tuple_iterator", data := .fields #[.ref l, .int 0 0] }).objs.size)))
        { s with heap := (s.heap.push { cls := .type "tuple_iterator", data := .fields #[.ref l, .int 0 0] }).push { cls := .type "enumerate", data := .fields #[.none, .bool false, .ref s.heap.objs.size, rawInt 0, .none, .none] } }) :=
  .of_wp fun prog w A R s h => by
    obtain ⟨hp, g, d, tk, os⟩ := s
    obtain ⟨hl, h⟩ := h
    have hsub := sub_enumerate
    have hL : Heap.IsTuple (Shared.heap ⟨hp, g, d, tk, os⟩) l items := ⟨_, hl, rfl, n, rfl⟩
    wp_walk
    refine wpAny_stack_any fun st => wpAny_pure ?_
    split
    · rename_i c _ _ _ _ _
      cases (c == Value.type "enumerate")
      · wp_walk using wpAny_pyIter_tuple hL
        exact ⟨_, rfl, h⟩
      · wp_walk using wpAny_pyIter_tuple hL
        exact ⟨_, rfl, h⟩
    · wp_walk using wpAny_pyIter_tuple hL
      exact ⟨_, rfl, h⟩
theorem call_enumT {prog : Program} {w : World} {A : Around} {E : Value → Shared → Prop} {s : Shared} {l : Addr} {items : Array Value} {Q : Value → Shared → Prop} (hL : s.heap.IsTuple l items)
    (h : ∀ h', IsEnum h' (s.heap.objs.size + 1) s.heap.objs.size 0 .none → h'.IsTupleIter s.heap.objs.size l 0 → (∀ b o, s.heap.get? b = some o → h'.get? b = some o) → Q (.ref (s.heap.objs.size + 1)) { s with heap := h' }) :
    wpAny (model prog w) A (call (.type "enumerate") [.ref l]) Q E s := by
  obtain ⟨⟨c, dct, dt, sl⟩, hl, hc, n, hd⟩ := hL
  replace hc : c = .type "tuple" := hc
  replace hd : dt = .seq items n := hd
  subst hc hd
  refine callType_new F.called_enumerate (by decide) (F.typeCall_enumerate_1 _) (F.newCall_enumerate_1 _) (fun obj => F.args_object_init_2 obj _) F.entry_enumerate_new
    (meets_enumT l items n dct sl) ⟨hl, ?_⟩
  have hz : (s.heap.push { cls := .type "tuple_iterator", data := .fields #[.ref l, .int 0 0] }).objs.size = s.heap.objs.size + 1 := Heap.size_push ..
  show _ ∧ _
  rw [hz]
  have he : IsEnum ((s.heap.push { cls := .type "tuple_iterator", data := .fields #[.ref l, .int 0 0] }).push
      { cls := .type "enumerate", data := .fields #[.none, .bool false, .ref s.heap.objs.size, rawInt 0, .none, .none] }) (s.heap.objs.size + 1) s.heap.objs.size 0 .none := by
    have := Heap.get?_push_size (s.heap.push { cls := .type "tuple_iterator", data := .fields #[.ref l, .int 0 0] })
      (o := { cls := .type "enumerate", data := .fields #[.none, .bool false, .ref s.heap.objs.size, rawInt 0, .none, .none] }) rfl
    rw [hz] at this; exact this
  exact ⟨⟨_, he, rfl⟩, h _ he ⟨_, Heap.get?_push_of_some _ (Heap.get?_push_size _ rfl), rfl, rfl⟩ fun b o x => Heap.get?_push_of_some _ (Heap.get?_push_of_some _ x)⟩
def iEnumT (K : PySem.W.Frag) (ta : TA) : TI := fun σ H R => ta σ H fun vs H1 => ∃ a xs, vs = [.ref a] ∧ SqT K H1 a xs ∧ R (IteT K a) H1
theorem pi_enumT {X : Cx} {e : Expr} {ta : TA} {p pos tpos : Pos} {elts : List Expr} {kk : Nat} (hg : Gl X "enumerate") (hm : X.mg "enumerate" = none) (ha : PA X [e] ta) (hs : starEach [e] X.env = [(false, eval e X.env)] := by rfl) :
    PI X (.Tuple elts kk tpos) (.Call (.Name "enumerate" p) [e] [] pos) (iEnumT X.K ta) := by
  refine ⟨fun pins s σ H R I h => ?_⟩
  refine Call_ (ld_blt I hg hm boot_enumerate (PyProof.Rows.callWith_type1 (thn (ha.run pos pins s σ H _ I h) fun us s1 ⟨vs, H1, I1, r1, q1⟩ => ?_) hs rfl))
  obtain ⟨a, xs, ex, hq, q⟩ := q1
  subst ex
  obtain ⟨u, rfl, ru⟩ := vals1 r1
  cases ru
  obtain ⟨its, rv, p', hz⟩ := I1.tuple hq
  refine call_enumT p' fun h' he hit hk => wpAny_pyIter_enum he ?_
  have I2 : Inv X pins σ H1 { s1 with heap := h' } := I1.kept (t' := s1.toks) hk
  have hal : a < s1.heap.objs.size := p'.lt
  refine ⟨s1.heap.objs.size + 1, [s1.heap.objs.size + 1, s1.heap.objs.size], _, _, H1, rfl, I2, turn_enumT a (s1.heap.objs.size + 1) s1.heap.objs.size, ⟨⟨.none, he⟩, hit, Nat.succ_ne_self _, Nat.ne_of_gt (Nat.lt_succ_of_lt hal), Nat.ne_of_lt hal⟩, fun b hb => ?_, q⟩
  have e' : b = s1.heap.objs.size + 1 ∨ b = s1.heap.objs.size := by simpa using hb
  have hle : s1.heap.objs.size ≤ b := by
    rcases e' with z | z
    · rw [z]; exact Nat.le_add_right _ _
    · rw [z]; exact Nat.le_refl _
  exact I1.fpOk hle (I1.hok.fresh hle)
theorem walk_enumT {K : PySem.W.Frag} {a : Addr} {xs : List V} : Walk (IteT K a) xs.length (fun H => SqT K H a xs) (YPair (fun i => some (.int (i : Nat))) (fun i => xs[i]?)) := by
  refine ⟨fun i _ hi q => ⟨xs, xs[i], q, by simp [hi]⟩, fun _ q => ⟨xs, q, Nat.le_refl _⟩, fun i H v H' _ q y => ?_⟩
  obtain ⟨T, x, h1, h2, h3, h4⟩ := y
  exact ⟨T, .int (i : Nat), x, h1, h2, h3, rfl, h4 xs q⟩

section
variable {X : Cx}
/-! ### t.index(n), text * n, tuple * 1 -/
theorem nums_ints (ns : List Nat) : ns.map vi = (ns.map fun n : Nat => (n : Int)).map V.int := by rw [List.map_map]; rfl
theorem mt_idxT : MtR X "tuple.index" (fun x xs H Q => ∃ (p : Addr) (ns : List Nat) (k : Nat), x = .ref p ∧ xs = [vi k] ∧ NumsAt X.K H p ns ∧ k ∈ ns ∧ Q (vi (ns.idxOf k)) H) := by
  intro pins s σ H x xs v us Q I rx rs h
  obtain ⟨p, ns, k, rfl, rfl, hq, hk, q⟩ := h
  cases rx
  obtain ⟨u, rfl, t, rfl⟩ := vals1 rs
  obtain ⟨its, r, pl, hz⟩ := I.tuple hq
  rw [nums_ints] at r
  have hmem : (k : Int) ∈ ns.map fun n : Nat => (n : Int) := List.mem_map.mpr ⟨k, hk, rfl⟩
  have hidx : (ns.map fun n : Nat => (n : Int)).idxOf (k : Int) = ns.idxOf k := by
    clear hq hk q r hz hmem
    induction ns with
    | nil => rfl
    | cons a l ih =>
      simp only [List.map_cons, List.idxOf_cons]
      rw [ih]
      by_cases e : a = k
      · subst e; simp
      · have e2 : ¬ (a : Int) = (k : Int) := fun z => e (Int.ofNat.inj z)
        rw [beq_eq_false_iff_ne.mpr e, beq_eq_false_iff_ne.mpr e2]
  refine PySem.SeqAt.tuple_index_ints pl (intsAre_of r) hmem ?_
  rw [hidx]
  exact ⟨.int (ns.idxOf k : Nat), H, I.tok _, ⟨_, rfl⟩, q⟩
theorem op_mulS : OpR X (binaryOp .Mult) (fun x y H Q => ∃ z n, x = .str z ∧ y = .int n ∧ 1 ≤ n ∧ n ≤ 100 ∧ z.length ≤ 100 ∧ Q (.str (Txt.mul z n)) H) := by
  intro pins s σ H x y v u Q I rx ry h
  obtain ⟨z, n, rfl, rfl, h1, h2, h3, q⟩ := h
  obtain ⟨t, rfl⟩ := rx
  obtain ⟨t', rfl⟩ := ry
  refine SB.mul ⟨by rw [decide_eq_false (by omega), decide_eq_false (by omega)]; rfl, fun _ _ => ?_, fun _ _ => ?_⟩ fun tk k => ⟨.str _, H, I.kept (t' := k) fun _ _ e => e, ⟨tk, rfl⟩, q⟩
  · have h4 : (100 : Int) ≤ (2 ^ 63 - 1) / n := Int.le_ediv_of_mul_le (by omega) (by omega)
    omega
  · unfold Builtin.Str.tooLong
    have : z.length * n.toNat ≤ 100 * 100 := Nat.mul_le_mul h3 (by omega)
    rw [sizeLine_eq]
    exact decide_eq_false (by omega)
theorem tuple_mul1 (l : Addr) (items : Array Value) (n : Nat) (dd : Option Addr) (sl : Array (Option Value)) (u : Tok) :
    Meets (Builtin.«tuple.__mul__» ⟨[.ref l, .int 1 u], []⟩) (fun _ R s => s.heap.get? l = some { cls := .type "tuple", dict := dd, data := .seq items n, slots := sl } ∧ R (.ok (.ret (Value.ref l))) s) :=
  .of_wp fun prog w A R s h => by
    obtain ⟨hp, g, d, tk, os⟩ := s
    obtain ⟨hl, h⟩ := h
    have f1 := AutoSeq1.idx_int
    have c1 : (items.isEmpty || (1 : Int) == 1) = true := by simp
    wp_walk using wpAny_loadPart' hl
    exact ⟨_, rfl, h⟩
theorem op_repT1 : OpR X (binaryOp .Mult) (fun x y H Q => ∃ l xs, x = .ref l ∧ y = .int 1 ∧ SqT X.K H l xs ∧ Q (.ref l) H) := by
  intro pins s σ H x y v u Q I rx ry h
  obtain ⟨l, xs, rfl, rfl, hT, q⟩ := h
  cases rx
  obtain ⟨t, rfl⟩ := ry
  obtain ⟨its, r, ⟨⟨cls, dd, data, sl⟩, ho, hc, n, hd⟩, hs⟩ := I.tuple hT
  simp only at hc hd
  subst hc hd
  exact wpAny_binaryOp_repeat_ref (T := "tuple") (U := "int") (by decide) ⟨_, ho, rfl⟩ (fun s' => typeIs_int s' 1 t) noFill_tuple_mul F.fills_int_mul F.slot_int_rmul repeat_tuple F.slot_int_index.lookup
    (call_meets F.slot_int_rmul (typeIs_int s 1 t) F.entry_int_rmul (F.args_int_rmul_2 _ _) (int_rmul_tuple 1 t l its.toArray n dd sl)
      ⟨ho, rfl, ⟨_, ho, rfl⟩, call_meets F.slot_tuple_mul ⟨_, ho, rfl⟩ F.entry_tuple_mul (F.args_tuple_mul_2 _ _) (tuple_mul1 l its.toArray n dd sl t) ⟨ho, .ref l, H, I, rfl, q⟩⟩)
end

/-! ### data -/
def numsD (ns : List Nat) : PyData := .tuple (ns.map fun n : Nat => PyData.int (n : Int))
/-- a thing as data -/
def thD (x : Thg) : PyData := .tuple [.int (x.1 : Int), numsD x.2]
theorem nums_dp {K : PySem.W.Frag} {H : Hp} : ∀ ns : List Nat, DpAll K H (ns.map vi) (ns.map fun n : Nat => PyData.int (n : Int))
  | [] => .nil
  | _ :: ns => .cons (.int _) (nums_dp ns)
theorem NumsAt.dp {K : PySem.W.Frag} {H : Hp} {a : Addr} {ns : List Nat} (h : NumsAt K H a ns) : Dp K H (.ref a) (numsD ns) := .tup h (nums_dp ns)
theorem ThAt.dp {K : PySem.W.Frag} {H : Hp} {a : Addr} {x : Thg} (h : ThAt K H a x) : Dp K H (.ref a) (thD x) := by
  obtain ⟨b, h1, h2⟩ := h
  exact .tup h1 (.cons (.int _) (.cons h2.dp .nil))
theorem alike_nums : ∀ a b : List Nat, PySem.W.alikeAll (a.map fun n : Nat => PyData.int (n : Int)) (b.map fun n : Nat => PyData.int (n : Int)) = true
  | [], _ => by simp [PySem.W.alikeAll]
  | _ :: _, [] => by simp [PySem.W.alikeAll]
  | x :: a, y :: b => by
    show PySem.W.alikeAll (.int x :: _) (.int y :: _) = true
    rw [PySem.W.alikeAll, alike_nums a b]
    simp [PySem.W.alike]
theorem alike_th (x y : Thg) : PySem.W.alike (thD x) (thD y) = true := by
  show PySem.W.alikeAll [.int _, .tuple _] [.int _, .tuple _] = true
  rw [PySem.W.alikeAll, PySem.W.alikeAll, PySem.W.alike, PySem.W.alike, alike_nums]
  simp [PySem.W.alikeAll]
theorem depth_nums : ∀ l : List Nat, PyData.depthAll (l.map fun n : Nat => PyData.int (n : Int)) = 0
  | [] => by simp [PyData.depthAll]
  | x :: l => by
    show PyData.depthAll (.int x :: _) = 0
    rw [PyData.depthAll, depth_nums l]
    simp [PyData.depth]
theorem depth_th (x : Thg) : (thD x).depth = 2 := by
  simp only [thD, numsD, PyData.depth, PyData.depthAll, depth_nums]
  rfl
theorem eqv_nums : ∀ a b : List Nat, PyData.eqvAll (a.map fun n : Nat => PyData.int (n : Int)) (b.map fun n : Nat => PyData.int (n : Int)) = decide (a = b)
  | [], [] => by simp [PyData.eqvAll]
  | [], _ :: _ => by simp [PyData.eqvAll]
  | _ :: _, [] => by simp [PyData.eqvAll]
  | x :: a, y :: b => by
    show PyData.eqvAll (.int x :: _) (.int y :: _) = _
    rw [PyData.eqvAll, eqv_nums a b, PyData.eqv, Bool.eq_iff_iff]
    simp
    omega
theorem eqv_numsD (a b : List Nat) : PyData.eqv (numsD a) (numsD b) = decide (a = b) := by
  show PyData.eqv (.tuple _) (.tuple _) = _
  rw [PyData.eqv, eqv_nums]
theorem eqv_th (x y : Thg) : PyData.eqv (thD x) (thD y) = decide (x = y) := by
  show PyData.eqv (.tuple [.int _, numsD _]) (.tuple [.int _, numsD _]) = _
  rw [PyData.eqv, PyData.eqvAll, PyData.eqvAll, PyData.eqvAll, PyData.eqv, eqv_numsD, Bool.eq_iff_iff]
  simp [Prod.ext_iff]
  omega
/-- the order in which things are sorted -/
abbrev thLe : Thg → Thg → Bool := PySem.W.dataLe false thD
theorem thLe_total : PySem.W.TotalLe thLe := PySem.W.sortLe_total _ _ _
theorem thLe_anti {x y : Thg} (h1 : thLe x y = true) (h2 : thLe y x = true) : x = y := by
  have e1 : (PyProof.Rows.listOrd PyProof.Rows.itemOrd).blt (PySem.W.keyToks (thD y)) (PySem.W.keyToks (thD x)) = false := by
    have z : (!(PyProof.Rows.listOrd PyProof.Rows.itemOrd).blt (PySem.W.keyToks (thD y)) (PySem.W.keyToks (thD x))) = true := h1
    simpa using z
  have e2 : (PyProof.Rows.listOrd PyProof.Rows.itemOrd).blt (PySem.W.keyToks (thD x)) (PySem.W.keyToks (thD y)) = false := by
    have z : (!(PyProof.Rows.listOrd PyProof.Rows.itemOrd).blt (PySem.W.keyToks (thD x)) (PySem.W.keyToks (thD y))) = true := h2
    simpa using z
  have e3 : PySem.W.keyToks (thD y) = PySem.W.keyToks (thD x) := (PyProof.Rows.listOrd PyProof.Rows.itemOrd).total _ _ e1 e2
  have t := PySem.W.toks_eqv (thD x) (thD y) (alike_th x y)
  cases he : PyData.eqv (thD x) (thD y) with
  | true => rw [eqv_th] at he; exact of_decide_eq_true he
  | false =>
    have z := t.2 he [] [Sum.inl 0]
    rw [e3, PySem.W.lex_pre] at z
    have z2 : PyProof.Rows.lexLt PyProof.Rows.itemOrd ([] : List PyProof.Rows.itemOrd.α) [Sum.inl 0] = true := rfl
    rw [z2] at z
    have z3 : PyProof.Rows.lexLt PyProof.Rows.itemOrd (PySem.W.keyToks (thD x)) (PySem.W.keyToks (thD x)) = false := (PyProof.Rows.listOrd PyProof.Rows.itemOrd).irrefl (PySem.W.keyToks (thD x))
    rw [z3] at z
    cases z
theorem sort_perm {xs ys : List Thg} (p : xs.Perm ys) : xs.mergeSort thLe = ys.mergeSort thLe :=
  List.Perm.eq_of_pairwise (le := fun a b => thLe a b = true) (fun _ _ _ _ h1 h2 => thLe_anti h1 h2) (PySem.W.sort_pairwise thLe_total _) (PySem.W.sort_pairwise thLe_total _) (((List.mergeSort_perm _ _).trans p).trans (List.mergeSort_perm _ _).symm)

/-! ### sorted(xs), xs a list of things -/
theorem each_of : ∀ {ks : List (Addr × Thg)} {R : Value → Thg → Prop}, (∀ p ∈ ks, R (.ref p.1) p.2) → PySem.W.EachIs R (ks.map fun p => Value.ref p.1) (ks.map (·.2))
  | [], _, _ => .nil
  | p :: ks, _, h => .cons (h p List.mem_cons_self) (each_of fun q hq => h q (List.mem_cons_of_mem _ hq))
theorem of_each {R : Value → Thg → Prop} : ∀ {us : List Value} {xs : List Thg}, PySem.W.EachIs (fun v x => ∃ a, v = .ref a ∧ R v x) us xs → ∃ ks : List (Addr × Thg), us = ks.map (fun p => Value.ref p.1) ∧ xs = ks.map (·.2) ∧ ∀ p ∈ ks, R (.ref p.1) p.2
  | _, _, .nil => ⟨[], rfl, rfl, fun p hp => by cases hp⟩
  | _, _, .cons (b := x) ⟨a, e, r⟩ t => by
    obtain ⟨ks, h1, h2, h3⟩ := of_each t
    subst e
    refine ⟨(a, x) :: ks, by rw [h1]; rfl, by rw [h2]; rfl, fun p hp => ?_⟩
    rcases List.mem_cons.mp hp with z | hp
    · rw [z]; exact r
    · exact h3 p hp
theorem vals_refs : ∀ ks : List (Addr × Thg), Vals (ks.map fun p => V.ref p.1) (ks.map fun p => Value.ref p.1)
  | [] => .nil
  | p :: ks => .cons rfl (vals_refs ks)
section
variable {X : Cx}
def rSortK (K : PySem.W.Frag) : List V → Hp → VK → Prop := fun vs H Q => ∃ (a : Addr) (ks : List (Addr × Thg)), vs = [V.ref a] ∧ SqL K H a (ks.map fun p => V.ref p.1) ∧ (∀ p ∈ ks, ThAt K H p.1 p.2) ∧ ks.length ≤ 1000 ∧
  ∀ (p : Addr) (ls : List (Addr × Thg)), H p = none → (∀ q ∈ ls, ThAt K H q.1 q.2) → ls.map (·.2) = (ks.map (·.2)).mergeSort thLe → Q (.ref p) (upd H p (.lst (ls.map fun p => V.ref p.1)))
theorem cr_sortK (hu : X.A.units + 64 < cLine) : CallR X (.builtin "sorted") (rSortK X.K) := by
  intro pins s σ H xs us Q I r h
  obtain ⟨a, ks, rfl, hl, hks, hn, q⟩ := h
  obtain ⟨u, rfl, ru⟩ := vals1 r
  cases ru
  obtain ⟨its, rv, pl, hz⟩ := I.list hl
  have hits : its = ks.map fun p => Value.ref p.1 := refs_vals rv
  subst hits
  refine PySem.W.sorted_data (s := s) (vs := ks.map fun p => Value.ref p.1) (bs := ks.map (·.2)) (enc := thD) (R := fun v x => ∃ a, v = Value.ref a ∧ ThAt X.K H a x) pl.isList (each_of fun p hp => ⟨p.1, rfl, hks p hp⟩)
    (each_of fun p hp => Dp.reads I _ _ _ (hks p hp).dp rfl) (PySem.W.AllAlike.of alike_th) (PySem.W.Sortable.tuples fun b => ⟨_, _, rfl⟩) (by rw [List.length_map, sizeLine_eq]; omega) (fun b _ => by rw [depth_th]; omega) fun out ho he => ?_
  have he' : PySem.W.EachIs (fun v x => ∃ b, v = Value.ref b ∧ (fun (v : Value) (x : Thg) => ∀ b, v = Value.ref b → ThAt X.K H b x) v x) out ((ks.map (·.2)).mergeSort thLe) := he.mono fun v x ⟨b, e, t⟩ => ⟨b, e, fun c e' => by rw [e] at e'; cases e'; exact t⟩
  obtain ⟨ls, e1, e2, e3⟩ := of_each he'
  subst e1
  have hlen : ls.length ≤ 1000 := by
    have z := ho
    rw [List.length_map, List.length_map] at z
    omega
  refine ⟨.ref (s.heap.objs.size + 1), upd H (s.heap.objs.size + 1) (.lst (ls.map fun p => V.ref p.1)), ?_, rfl, q _ ls (I.hok.fresh (Nat.le_succ _)) (fun p hp => e3 p hp _ rfl) e2.symm⟩
  refine I.laid (t' := s.toks) (fun b ob e => PyProof.Rows.sortedAll_old e) (Nat.le_succ _) ?_
  obtain ⟨e, ee⟩ := PyProof.Rows.sortedAll_at s.heap (ks.map fun p => Value.ref p.1) (ls.map fun p => Value.ref p.1).toArray
  exact ⟨by rw [List.length_map, sizeLine_eq]; omega, ls.map fun p => Value.ref p.1, e, vals_refs ls, ee⟩
end
end Bs
/-! The data of the program as they stand in the heap, and rules turned to them. -/
namespace Bs
open PySem PySem.Spec PyProof.Rows L2
/-! ### what stands -/
/-- every tuple stands -/
def Tk (K : PySem.W.Frag) (H H' : Hp) : Prop := ∀ a xs, SqT K H a xs → SqT K H' a xs
/-- all but what is at l stands -/
def But (l : Addr) (H H' : Hp) : Prop := ∀ b o, b ≠ l → H b = some o → H' b = some o
section
variable {K : PySem.W.Frag} {H H' H1 H2 : Hp} {l p a x : Addr}
theorem Tk.refl (H : Hp) : Tk K H H := fun _ _ h => h
theorem Tk.trans (a : Tk K H H1) (b : Tk K H1 H2) : Tk K H H2 := fun c o h => b c o (a c o h)
theorem same_tk (e : Same H H') : Tk K H H' := by
  rintro a xs ((h | ⟨o, h⟩) | h)
  · exact .inl (.inl (e _ _ h))
  · exact .inl (.inr ⟨o, e _ _ h⟩)
  · exact .inr h
theorem But.refl (l : Addr) (H : Hp) : But l H H := fun _ _ _ h => h
theorem But.trans (a : But l H H1) (b : But l H1 H2) : But l H H2 := fun c o n h => b c o n (a c o n h)
theorem same_but (e : Same H H') : But l H H' := fun c o _ h => e c o h
theorem But.tk {xs : List V} (e : But l H H') (hl : H l = some (.lst xs)) : Tk K H H' := by
  rintro a ys ((h | ⟨o, h⟩) | h)
  · exact .inl (.inl (e _ _ (ne_of h hl (by intro z; cases z)) h))
  · exact .inl (.inr ⟨o, e _ _ (ne_of h hl (by intro z; cases z)) h⟩)
  · exact .inr h
theorem same_new (h : H p = none) (o : HO) : Same H (upd H p o) := fun b u q => by rw [upd_ne (ne_of_none q h)]; exact q
theorem but_upd (o : HO) : But l H (upd H l o) := fun b u n q => by rw [upd_ne n]; exact q
theorem But.same (h : But l H H') (n : H l = none) : Same H H' := fun b o q => h b o (ne_of_none q n) q
end

/-! ### data -/
def NumsV (K : PySem.W.Frag) (H : Hp) (v : V) (ns : List Nat) : Prop := ∃ a, v = .ref a ∧ NumsAt K H a ns
def ThV (K : PySem.W.Frag) (H : Hp) (v : V) (x : Thg) : Prop := ∃ a, v = .ref a ∧ ThAt K H a x
def ItV (K : PySem.W.Frag) (H : Hp) : Itm → V → Prop
  | .unit, v => NumsV K H v []
  | .tr t, v => NumsV K H v t
  | .lf i, v => ∃ a x, v = .ref a ∧ SqT K H a [.str "left", x] ∧ ItV K H i x
  | .rt i, v => ∃ a x, v = .ref a ∧ SqT K H a [.str "right", x] ∧ ItV K H i x
  | .pr i j, v => ∃ a x y, v = .ref a ∧ SqT K H a [x, y] ∧ ItV K H i x ∧ ItV K H j y
def ShV (K : PySem.W.Frag) (H : Hp) : Shp → V → Prop
  | .none, v => v = .str "none"
  | .one, v => v = .str "one"
  | .tree, v => v = .str "tree"
  | .either a b, v => ∃ p x y, v = .ref p ∧ SqT K H p [.str "either", x, y] ∧ ShV K H a x ∧ ShV K H b y
  | .both a b, v => ∃ p x y, v = .ref p ∧ SqT K H p [.str "both", x, y] ∧ ShV K H a x ∧ ShV K H b y
def RowV (K : PySem.W.Frag) (H : Hp) (v : V) (r : Str × Nat) : Prop := ∃ a, v = .ref a ∧ SqT K H a [.str r.1, vi r.2]
section
variable {K : PySem.W.Frag} {H H' : Hp}
theorem NumsAt.tk {a : Addr} {ns : List Nat} (h : NumsAt K H a ns) (t : Tk K H H') : NumsAt K H' a ns := t _ _ h
theorem ThAt.tk {a : Addr} {x : Thg} (h : ThAt K H a x) (t : Tk K H H') : ThAt K H' a x := by
  obtain ⟨b, h1, h2⟩ := h
  exact ⟨b, t _ _ h1, t _ _ h2⟩
theorem NumsV.tk {v : V} {ns : List Nat} (h : NumsV K H v ns) (t : Tk K H H') : NumsV K H' v ns := by
  obtain ⟨a, e, h⟩ := h
  exact ⟨a, e, h.tk t⟩
theorem ThV.tk {v : V} {x : Thg} (h : ThV K H v x) (t : Tk K H H') : ThV K H' v x := by
  obtain ⟨a, e, h⟩ := h
  exact ⟨a, e, h.tk t⟩
theorem RowV.tk {v : V} {x : Str × Nat} (h : RowV K H v x) (t : Tk K H H') : RowV K H' v x := by
  obtain ⟨a, e, h⟩ := h
  exact ⟨a, e, t _ _ h⟩
theorem ItV.tk (t : Tk K H H') : ∀ {i : Itm} {v : V}, ItV K H i v → ItV K H' i v
  | .unit, _, h => NumsV.tk h t
  | .tr _, _, h => NumsV.tk h t
  | .lf _, _, ⟨a, x, e, h, g⟩ => ⟨a, x, e, t _ _ h, ItV.tk t g⟩
  | .rt _, _, ⟨a, x, e, h, g⟩ => ⟨a, x, e, t _ _ h, ItV.tk t g⟩
  | .pr _ _, _, ⟨a, x, y, e, h, g, k⟩ => ⟨a, x, y, e, t _ _ h, ItV.tk t g, ItV.tk t k⟩
theorem ShV.tk (t : Tk K H H') : ∀ {s : Shp} {v : V}, ShV K H s v → ShV K H' s v
  | .none, _, h => h
  | .one, _, h => h
  | .tree, _, h => h
  | .either _ _, _, ⟨a, x, y, e, h, g, k⟩ => ⟨a, x, y, e, t _ _ h, ShV.tk t g, ShV.tk t k⟩
  | .both _ _, _, ⟨a, x, y, e, h, g, k⟩ => ⟨a, x, y, e, t _ _ h, ShV.tk t g, ShV.tk t k⟩
end
/-! ### lists of such -/
inductive Fits {β : Type} (At : V → β → Prop) : List V → List β → Prop
  | nil : Fits At [] []
  | cons {v : V} {b : β} {vs : List V} {bs : List β} : At v b → Fits At vs bs → Fits At (v :: vs) (b :: bs)
section
variable {β : Type} {At Bt : V → β → Prop}
theorem Fits.imp {vs : List V} {bs : List β} (h : Fits At vs bs) (k : ∀ v b, b ∈ bs → At v b → Bt v b) : Fits Bt vs bs := by
  induction h with
  | nil => exact .nil
  | cons a _ ih => exact .cons (k _ _ List.mem_cons_self a) (ih fun v b hb => k v b (List.mem_cons_of_mem _ hb))
theorem Fits.len {vs : List V} {bs : List β} (h : Fits At vs bs) : vs.length = bs.length := by
  induction h with
  | nil => rfl
  | cons _ _ ih => simp [ih]
theorem Fits.app {vs us : List V} {bs cs : List β} (h : Fits At vs bs) (g : Fits At us cs) : Fits At (vs ++ us) (bs ++ cs) := by
  induction h with
  | nil => exact g
  | cons a _ ih => exact .cons a ih
theorem Fits.at_ {vs : List V} {bs : List β} (h : Fits At vs bs) : ∀ {i : Nat} {v : V}, vs[i]? = some v → ∃ b, bs[i]? = some b ∧ At v b := by
  induction h with
  | nil => intro i v e; cases e
  | cons a _ ih =>
    intro i v e
    cases i with
    | zero => cases e; exact ⟨_, rfl, a⟩
    | succ i => exact ih (i := i) e
theorem Fits.to {vs : List V} {bs : List β} (h : Fits At vs bs) : ∀ {i : Nat} {b : β}, bs[i]? = some b → ∃ v, vs[i]? = some v ∧ At v b := by
  induction h with
  | nil => intro i v e; cases e
  | cons a _ ih =>
    intro i v e
    cases i with
    | zero => cases e; exact ⟨_, rfl, a⟩
    | succ i => exact ih (i := i) e
theorem Fits.map_eq {f : β → V} {vs : List V} {bs : List β} (h : Fits (fun v b => v = f b) vs bs) : vs = bs.map f := by
  induction h with
  | nil => rfl
  | cons a _ ih => subst a; rw [ih]; rfl
theorem Fits.of_map {f : β → V} {bs : List β} (h : ∀ b ∈ bs, At (f b) b) : Fits At (bs.map f) bs := by
  induction bs with
  | nil => exact .nil
  | cons b bs ih => exact .cons (h b List.mem_cons_self) (ih fun c hc => h c (List.mem_cons_of_mem _ hc))
theorem Fits.addrs {P : Addr → β → Prop} {vs : List V} {bs : List β} (h : Fits (fun v b => ∃ a, v = .ref a ∧ P a b) vs bs) : ∃ ks : List (Addr × β), vs = ks.map (fun p => V.ref p.1) ∧ ks.map (·.2) = bs ∧ ∀ p ∈ ks, P p.1 p.2 := by
  induction h with
  | nil => exact ⟨[], rfl, rfl, fun p hp => by cases hp⟩
  | cons a _ ih =>
    obtain ⟨a, rfl, q⟩ := a
    obtain ⟨ks, h1, h2, h3⟩ := ih
    refine ⟨(a, _) :: ks, by rw [h1]; rfl, by rw [← h2]; rfl, fun p hp => ?_⟩
    rcases List.mem_cons.mp hp with z | hp
    · rw [z]; exact q
    · exact h3 p hp
theorem Fits.of_addrs {P : Addr → β → Prop} : ∀ {ks : List (Addr × β)}, (∀ p ∈ ks, P p.1 p.2) → Fits (fun v b => ∃ a, v = .ref a ∧ P a b) (ks.map fun p => V.ref p.1) (ks.map (·.2))
  | [], _ => .nil
  | p :: ks, h => .cons ⟨p.1, rfl, h p List.mem_cons_self⟩ (Fits.of_addrs fun q hq => h q (List.mem_cons_of_mem _ hq))
theorem Fits.take {vs : List V} {bs : List β} (h : Fits At vs bs) : ∀ n, Fits At (vs.take n) (bs.take n) := by
  induction h with
  | nil => intro n; simp; exact .nil
  | cons a _ ih =>
    intro n
    cases n with
    | zero => exact .nil
    | succ n => exact .cons a (ih n)
theorem Fits.drop {vs : List V} {bs : List β} (h : Fits At vs bs) : ∀ n, Fits At (vs.drop n) (bs.drop n) := by
  induction h with
  | nil => intro n; simp; exact .nil
  | cons a t ih =>
    intro n
    cases n with
    | zero => exact .cons a t
    | succ n => exact ih n
theorem Fits.bmap {γ : Type} {f : γ → β} {vs : List V} : ∀ {cs : List γ}, Fits At vs (cs.map f) → Fits (fun v c => At v (f c)) vs cs
  | [], h => by cases h; exact .nil
  | c :: cs, h => by cases h with | cons a t => exact .cons a t.bmap
theorem Fits.to_map {γ : Type} {f : γ → β} {vs : List V} {cs : List γ} (h : Fits (fun v c => At v (f c)) vs cs) : Fits At vs (cs.map f) := by
  induction h with
  | nil => exact .nil
  | cons a _ ih => exact .cons a ih
end
/-- a list at l of what L tells -/
def LsAt {β : Type} (K : PySem.W.Frag) (H : Hp) (l : Addr) (At : V → β → Prop) (L : List β) : Prop := ∃ vs, SqL K H l vs ∧ Fits At vs L
/-- a kind: its makers' numbers are ks; its list is at l -/
def KindAt (K : PySem.W.Frag) (C : Addr) (H : Hp) (x l : Addr) (ks : List Nat) : Prop :=
  ∃ dx vs rs, H x = some (.ins C dx (putF "rows" (.ref l) [])) ∧ H l = some (.lst vs) ∧ Fits (RowV K H) vs rs ∧ rs.map Prod.snd = ks ∧ 2 ≤ ks.length ∧ ks.length ≤ 5 ∧ ∀ k ∈ ks, k ≤ 4
section
variable {K : PySem.W.Frag} {C : Addr} {H H' : Hp} {x l w : Addr} {ks : List Nat}
theorem KindAt.len (h : KindAt K C H x l ks) : 2 ≤ ks.length ∧ ks.length ≤ 5 := by
  obtain ⟨_, _, _, _, _, _, _, h1, h2, _⟩ := h
  exact ⟨h1, h2⟩
theorem KindAt.le (h : KindAt K C H x l ks) (m : Nat) : ks.getD m 0 ≤ 4 := by
  obtain ⟨_, _, _, _, _, _, _, _, _, h3⟩ := h
  rw [List.getD_eq_getElem?_getD]
  cases e : ks[m]? with
  | none => exact Nat.zero_le _
  | some k => exact h3 k (List.mem_of_getElem? e)
theorem KindAt.same (h : KindAt K C H x l ks) (e : Same H H') : KindAt K C H' x l ks := by
  obtain ⟨dx, vs, rs, h1, h2, h3, h4⟩ := h
  exact ⟨dx, vs, rs, e _ _ h1, e _ _ h2, h3.imp fun v b _ r => r.tk (same_tk e), h4⟩
theorem KindAt.but {ys : List V} (h : KindAt K C H x l ks) (e : But w H H') (hw : H w = some (.lst ys)) (hl : l ≠ w) : KindAt K C H' x l ks := by
  obtain ⟨dx, vs, rs, h1, h2, h3, h4⟩ := h
  exact ⟨dx, vs, rs, e _ _ (ne_of h1 hw (by intro z; cases z)) h1, e _ _ hl h2, h3.imp fun v b _ r => r.tk (e.tk hw), h4⟩
end
theorem LsAt.same {β : Type} {K : PySem.W.Frag} {H H' : Hp} {l : Addr} {At Bt : V → β → Prop} {L : List β} (h : LsAt K H l At L) (e : Same H H') (k : ∀ v b, At v b → Bt v b) : LsAt K H' l Bt L := by
  obtain ⟨vs, h1, h2⟩ := h
  exact ⟨vs, e.seq h1, h2.imp fun v b _ => k v b⟩
theorem LsAt.but {β : Type} {K : PySem.W.Frag} {H H' : Hp} {l w : Addr} {ys : List V} {At Bt : V → β → Prop} {L : List β} (h : LsAt K H l At L) (e : But w H H') (hw : l ≠ w) (k : ∀ v b, At v b → Bt v b) : LsAt K H' l Bt L := by
  obtain ⟨vs, h1, h2⟩ := h
  refine ⟨vs, ?_, h2.imp fun v b _ => k v b⟩
  rcases h1 with (h | ⟨o, h⟩) | h
  · exact .inl (.inl (e _ _ hw h))
  · exact .inl (.inr ⟨o, e _ _ hw h⟩)
  · exact .inr h

/-! ### weaker readings -/
section
variable {X : Cx}
theorem opImp {f : Value → Value → Sem Value} {r r' : R2} (o : OpR X f r) (h : ∀ x y H Q, r' x y H Q → r x y H Q) : OpR X f r' := fun pins s σ H x y v u Q I rx ry q => o pins s σ H x y v u Q I rx ry (h _ _ _ _ q)
theorem ixImp {r r' : R2} (o : IxR X r) (h : ∀ x y H Q, r' x y H Q → r x y H Q) : IxR X r' := fun a b pins s σ H x y v u Q I rx ry q hs => o a b pins s σ H x y v u Q I rx ry (h _ _ _ _ q) hs
theorem callImp {f : Value} {r r' : List V → Hp → VK → Prop} (o : CallR X f r) (h : ∀ xs H Q, r' xs H Q → r xs H Q) : CallR X f r' := fun pins s σ H xs us Q I rx q => o pins s σ H xs us Q I rx (h _ _ _ q)
theorem slImp {r r' : V → Option Int → Option Int → Hp → VK → Prop} (o : SlR X r) (h : ∀ x lo hi H Q, r' x lo hi H Q → r x lo hi H Q) : SlR X r' := fun pins s σ H x v vl vu lo hi sl Q I rx hs pl pu q => o pins s σ H x v vl vu lo hi sl Q I rx hs pl pu (h _ _ _ _ _ q)

/-! ### numbers that are not negative -/
theorem op_addN : OpR X (binaryOp .Add) (fun x y H Q => ∃ a b : Nat, x = vi a ∧ y = vi b ∧ Q (vi (a + b)) H) :=
  opImp op_add fun x y H Q ⟨a, b, h1, h2, q⟩ => ⟨a, b, h1, h2, by show Q (V.int ((a : Int) + b)) H; rw [← Int.natCast_add]; exact q⟩
theorem op_subN : OpR X (binaryOp .Sub) (fun x y H Q => ∃ a b : Nat, x = vi a ∧ y = vi b ∧ b ≤ a ∧ Q (vi (a - b)) H) :=
  opImp op_sub fun x y H Q ⟨a, b, h1, h2, h3, q⟩ => ⟨a, b, h1, h2, by show Q (V.int ((a : Int) - b)) H; rw [← Int.ofNat_sub h3]; exact q⟩
theorem op_mulN : OpR X (binaryOp .Mult) (fun x y H Q => ∃ a b : Nat, x = vi a ∧ y = vi b ∧ a < 2 ^ 64 ∧ Q (vi (a * b)) H) :=
  opImp op_mul fun x y H Q ⟨a, b, h1, h2, h3, q⟩ => ⟨a, b, h1, h2, .inl ⟨by omega, by omega⟩, by show Q (V.int ((a : Int) * b)) H; rw [← Int.natCast_mul]; exact q⟩
theorem dec_cast {p q : Prop} [Decidable p] [Decidable q] (h : p ↔ q) : decide p = decide q := by
  by_cases hp : p
  · rw [decide_eq_true hp, decide_eq_true (h.mp hp)]
  · rw [decide_eq_false hp, decide_eq_false fun z => hp (h.mpr z)]
theorem op_ltN : OpR X (compareOp .Lt) (fun x y H Q => ∃ a b : Nat, x = vi a ∧ y = vi b ∧ Q (.bl (decide (a < b))) H) :=
  opImp op_lt fun x y H Q ⟨a, b, h1, h2, q⟩ => ⟨a, b, h1, h2, by show Q (.bl (decide ((a : Int) < b))) H; rw [dec_cast (q := a < b) (by omega)]; exact q⟩
theorem op_leN : OpR X (compareOp .LtE) (fun x y H Q => ∃ a b : Nat, x = vi a ∧ y = vi b ∧ Q (.bl (decide (a ≤ b))) H) :=
  opImp op_le fun x y H Q ⟨a, b, h1, h2, q⟩ => ⟨a, b, h1, h2, by show Q (.bl (decide ((a : Int) ≤ b))) H; rw [dec_cast (q := a ≤ b) (by omega)]; exact q⟩
theorem op_gtN : OpR X (compareOp .Gt) (fun x y H Q => ∃ a b : Nat, x = vi a ∧ y = vi b ∧ Q (.bl (decide (b < a))) H) :=
  opImp op_gt fun x y H Q ⟨a, b, h1, h2, q⟩ => ⟨a, b, h1, h2, by show Q (.bl (decide ((b : Int) < a))) H; rw [dec_cast (q := b < a) (by omega)]; exact q⟩
theorem op_geN : OpR X (compareOp .GtE) (fun x y H Q => ∃ a b : Nat, x = vi a ∧ y = vi b ∧ Q (.bl (decide (b ≤ a))) H) :=
  opImp op_ge fun x y H Q ⟨a, b, h1, h2, q⟩ => ⟨a, b, h1, h2, by show Q (.bl (decide ((b : Int) ≤ a))) H; rw [dec_cast (q := b ≤ a) (by omega)]; exact q⟩
theorem dec_vi (a b : Nat) : decide (vi a = vi b) = decide (a = b) := dec_cast ⟨fun h => by cases h; rfl, fun h => by rw [h]⟩
theorem op_eqN : OpR X (compareOp .Eq) (fun x y H Q => ∃ a b : Nat, x = vi a ∧ y = vi b ∧ Q (.bl (decide (a = b))) H) :=
  opImp op_eq fun x y H Q ⟨a, b, h1, h2, q⟩ => by subst h1 h2; exact ⟨rfl, by rw [dec_vi]; exact q⟩
theorem op_neN : OpR X (compareOp .NotEq) (fun x y H Q => ∃ a b : Nat, x = vi a ∧ y = vi b ∧ Q (.bl (!decide (a = b))) H) :=
  opImp op_ne fun x y H Q ⟨a, b, h1, h2, q⟩ => by subst h1 h2; exact ⟨rfl, by rw [dec_vi]; exact q⟩
/-- two texts -/
theorem op_eqS : OpR X (compareOp .Eq) (fun x y H Q => ∃ (a b : Str) (c : Bool), x = .str a ∧ y = .str b ∧ decide (a = b) = c ∧ Q (.bl c) H) :=
  opImp op_eq fun x y H Q ⟨a, b, c, h1, h2, h3, q⟩ => by subst h1 h2; exact ⟨rfl, by rw [dec_cast (q := a = b) ⟨fun h => by cases h; rfl, fun h => by rw [h]⟩, h3]; exact q⟩
theorem op_neS : OpR X (compareOp .NotEq) (fun x y H Q => ∃ (a b : Str) (c : Bool), x = .str a ∧ y = .str b ∧ decide (a = b) = c ∧ Q (.bl (!c)) H) :=
  opImp op_ne fun x y H Q ⟨a, b, c, h1, h2, h3, q⟩ => by subst h1 h2; exact ⟨rfl, by rw [dec_cast (q := a = b) ⟨fun h => by cases h; rfl, fun h => by rw [h]⟩, h3]; exact q⟩

/-! ### rows of numbers -/
theorem call_lenN : CallR X (.builtin "len") (fun xs H Q => ∃ v ns, xs = [v] ∧ NumsV X.K H v ns ∧ Q (vi ns.length) H) :=
  callImp call_len_seq fun xs H Q ⟨v, ns, h1, ⟨a, h2, h3⟩, q⟩ => ⟨a, ns.map vi, by rw [h1, h2], .inr h3, by rw [List.length_map]; exact q⟩
theorem call_lenT : CallR X (.builtin "len") (fun xs H Q => ∃ p ys, xs = [.ref p] ∧ SqT X.K H p ys ∧ Q (vi ys.length) H) :=
  callImp call_len_seq fun xs H Q ⟨p, ys, h1, h2, q⟩ => ⟨p, ys, h1, .inr h2, q⟩
theorem call_lenL : CallR X (.builtin "len") (fun xs H Q => ∃ p ys, xs = [.ref p] ∧ SqL X.K H p ys ∧ Q (vi ys.length) H) :=
  callImp call_len_seq fun xs H Q ⟨p, ys, h1, h2, q⟩ => ⟨p, ys, h1, .inl h2, q⟩
theorem nums_at {ns : List Nat} {i : Nat} (h : i < ns.length) : (ns.map vi)[i]? = some (vi (ns.getD i 0)) := by
  rw [List.getElem?_map, List.getElem?_eq_getElem h, List.getD_eq_getElem?_getD, List.getElem?_eq_getElem h]; rfl
theorem ix_nums : IxR X (fun x y H Q => ∃ (ns : List Nat) (i : Nat), NumsV X.K H x ns ∧ y = vi i ∧ i < ns.length ∧ Q (vi (ns.getD i 0)) H) :=
  ixImp ix_tup fun x y H Q ⟨ns, i, ⟨a, h1, h2⟩, h3, h4, q⟩ => ⟨a, _, i, _, h1, h3, h2, atI_nat (nums_at h4), q⟩
theorem ix_lnums : IxR X (fun x y H Q => ∃ (l : Addr) (ns : List Nat) (i : Nat), x = .ref l ∧ SqL X.K H l (ns.map vi) ∧ y = vi i ∧ i < ns.length ∧ Q (vi (ns.getD i 0)) H) :=
  ixImp ix_list fun x y H Q ⟨l, ns, i, h1, h2, h3, h4, q⟩ => ⟨l, _, i, _, h1, h3, h2, atI_nat (nums_at h4), q⟩
/-- an item of a tuple, of a list, by its place -/
theorem ix_tupN : IxR X (fun x y H Q => ∃ (p : Addr) (xs : List V) (i : Nat) (v : V), x = .ref p ∧ y = vi i ∧ SqT X.K H p xs ∧ xs[i]? = some v ∧ Q v H) :=
  ixImp ix_tup fun x y H Q ⟨p, xs, i, v, h1, h2, h3, h4, q⟩ => ⟨p, xs, i, v, h1, h2, h3, atI_nat h4, q⟩
theorem ix_listN : IxR X (fun x y H Q => ∃ (p : Addr) (xs : List V) (i : Nat) (v : V), x = .ref p ∧ y = vi i ∧ SqL X.K H p xs ∧ xs[i]? = some v ∧ Q v H) :=
  ixImp ix_list fun x y H Q ⟨p, xs, i, v, h1, h2, h3, h4, q⟩ => ⟨p, xs, i, v, h1, h2, h3, atI_nat h4, q⟩
theorem NumsV.new {K : PySem.W.Frag} {H : Hp} {p : Addr} {ns : List Nat} : NumsV K (upd H p (.tup (ns.map vi))) (.ref p) ns := ⟨p, rfl, SqT.of upd_same⟩
theorem op_catN : OpR X (binaryOp .Add) (fun x y H Q => ∃ a b : List Nat, NumsV X.K H x a ∧ NumsV X.K H y b ∧ a.length + b.length ≤ 1000000 ∧ ∀ v H', Same H H' → NumsV X.K H' v (a ++ b) → Q v H') :=
  opImp op_catA fun x y H Q ⟨a, b, ⟨p, h1, h2⟩, ⟨q, h3, h4⟩, h5, k⟩ => by
    refine ⟨p, q, _, _, h1, h3, h2, h4, by rw [List.length_map, List.length_map, sizeLine_eq]; omega, fun e => ?_, fun _ e => ?_, fun _ _ r hr => ?_⟩
    · have e' : a = [] := by simpa using e
      subst e'
      exact k _ _ (Same.refl _) ⟨q, rfl, h4⟩
    · have e' : b = [] := by simpa using e
      subst e'
      exact k _ _ (Same.refl _) ⟨p, rfl, by rw [List.append_nil]; exact h2⟩
    · refine k _ _ (same_new hr _) ?_
      rw [← List.map_append]
      exact NumsV.new
/-- ns[lo:hi] -/
theorem sl_nums : SlR X (fun x lo hi H Q => ∃ (ns : List Nat) (l u : Nat), NumsV X.K H x ns ∧ lo.getD 0 = (l : Int) ∧ hi.getD (ns.length : Int) = (u : Int) ∧ ∀ v H', Same H H' → NumsV X.K H' v ((ns.drop l).take (u - l)) → Q v H') := by
  refine slImp sl_tupA fun x lo hi H Q ⟨ns, l, u, ⟨p, h1, h2⟩, h3, h4, k⟩ => ?_
  have elo : HT.sIx (ns.map vi).length 0 lo = min l ns.length ∨ (lo = none ∧ l = 0 ∧ HT.sIx (ns.map vi).length 0 lo = 0) := by
    cases lo with
    | none => exact .inr ⟨rfl, by simpa using h3.symm, rfl⟩
    | some i =>
      simp at h3
      subst h3
      rw [HT.sIx_nat, List.length_map]
      exact .inl rfl
  have elo' : HT.sIx (ns.map vi).length 0 lo = min l ns.length := by
    rcases elo with e | ⟨_, e1, e2⟩
    · exact e
    · rw [e2, e1, Nat.zero_min]
  have ehi : HT.sIx (ns.map vi).length (ns.map vi).length hi = min u ns.length := by
    cases hi with
    | none =>
      have : u = ns.length := by simp at h4; omega
      rw [HT.sIx_none, List.length_map, this, Nat.min_self]
    | some i =>
      simp at h4
      subst h4
      rw [HT.sIx_nat, List.length_map]
  have ec : cutV (ns.map vi) lo hi = ((ns.drop l).take (u - l)).map vi := by
    unfold cutV
    rw [elo', ehi, List.map_take, List.map_drop]
    apply List.ext_getElem?
    intro i
    simp only [List.getElem?_take, List.getElem?_drop, List.getElem?_map]
    by_cases hl : l ≤ ns.length
    · rw [Nat.min_eq_left hl]
      by_cases hi1 : i < u - l
      · rw [if_pos hi1]
        by_cases hi2 : i < min u ns.length - l
        · rw [if_pos hi2]
        · rw [if_neg hi2, List.getElem?_eq_none (by omega)]; rfl
      · rw [if_neg hi1, if_neg (by omega)]
    · have hz : ns[l + i]? = none := List.getElem?_eq_none (by omega)
      have hz2 : ns[min l ns.length + i]? = none := List.getElem?_eq_none (by omega)
      rw [hz, hz2]
      simp
  refine ⟨p, _, h1, h2, fun e => k _ _ (Same.refl _) ⟨p, rfl, ?_⟩, fun _ r hr => k _ _ (same_new hr _) ?_⟩
  · rw [elo', ehi, List.length_map] at e
    have e2 : (ns.drop l).take (u - l) = ns := by
      have hl : l = 0 ∨ ns = [] := by
        rcases Nat.eq_zero_or_pos l with z | z
        · exact .inl z
        · refine .inr (List.eq_nil_of_length_eq_zero ?_)
          omega
      rcases hl with z | z
      · subst z
        rw [List.drop_zero]
        exact List.take_of_length_le (by omega)
      · subst z
        simp
    rw [e2]
    exact h2
  · rw [ec]
    exact NumsV.new
/-- any list's part -/
theorem sl_listN : SlR X (fun x lo hi H Q => ∃ (a : Addr) (xs : List V) (l u : Nat), x = .ref a ∧ SqL X.K H a xs ∧ lo.getD 0 = (l : Int) ∧ hi.getD (xs.length : Int) = (u : Int) ∧ l ≤ xs.length ∧ u ≤ xs.length ∧ ∀ p, H p = none → Q (.ref p) (upd H p (.lst ((xs.drop l).take (u - l))))) := by
  refine slImp sl_list fun x lo hi H Q ⟨a, xs, l, u, h1, h2, h3, h4, h5, h6, k⟩ => ?_
  have elo : HT.sIx xs.length 0 lo = l := by
    cases lo with
    | none => rw [HT.sIx_none]; have h3' : (0 : Int) = l := h3; omega
    | some i => simp at h3; subst h3; rw [HT.sIx_nat]; omega
  have ehi : HT.sIx xs.length xs.length hi = u := by
    cases hi with
    | none => rw [HT.sIx_none]; have h4' : (xs.length : Int) = u := h4; omega
    | some i => simp at h4; subst h4; rw [HT.sIx_nat]; omega
  have ec : cutV xs lo hi = (xs.drop l).take (u - l) := by unfold cutV; rw [elo, ehi]
  exact ⟨a, xs, h1, h2, fun p hp => by rw [ec]; exact k p hp⟩

/-! ### isinstance -/
inductive IsTy (K : PySem.W.Frag) (H : Hp) : V → String → Bool → Prop
  | intInt (n : Int) : IsTy K H (.int n) "int" true
  | intBool (n : Int) : IsTy K H (.int n) "bool" false
  | strStr (z : Str) : IsTy K H (.str z) "str" true
  | strTup (z : Str) : IsTy K H (.str z) "tuple" false
  | tupTup {a : Addr} {xs : List V} (h : SqT K H a xs) : IsTy K H (.ref a) "tuple" true
  | tupStr {a : Addr} {xs : List V} (h : SqT K H a xs) : IsTy K H (.ref a) "str" false
  | lst {a : Addr} {xs : List V} (h : H a = some (.lst xs)) : IsTy K H (.ref a) "list" true
theorem tyx_tup {K : PySem.W.Frag} {H : Hp} {a : Addr} {xs : List V} (h : SqT K H a xs) : TyX K H (.ref a) (.type "tuple") := by
  rcases h with (h | ⟨o, h⟩) | ⟨o, its, n, h1, h2, _⟩
  · exact .base (.tup h)
  · exact .fTuple h
  · exact .kTuple h1 h2
theorem call_isT : CallR X (.builtin "isinstance") (fun xs H Q => ∃ v T b, xs = [v, .ty T] ∧ IsTy X.K H v T b ∧ Q (.bl b) H) := by
  refine callImp call_isi fun xs H Q ⟨v, T, b, h1, h2, q⟩ => ?_
  cases h2 with
  | intInt n => exact ⟨_, _, _, _, _, h1, .ty _, .base (.int n), kit_ty (by decide +kernel), q⟩
  | intBool n => exact ⟨_, _, _, _, _, h1, .ty _, .base (.int n), kit_ty (by decide +kernel), q⟩
  | strStr z => exact ⟨_, _, _, _, _, h1, .ty _, .base (.str z), kit_ty (by decide +kernel), q⟩
  | strTup z => exact ⟨_, _, _, _, _, h1, .ty _, .base (.str z), kit_ty (by decide +kernel), q⟩
  | tupTup h => exact ⟨_, _, _, _, _, h1, .ty _, tyx_tup h, kit_ty (by decide +kernel), q⟩
  | tupStr h => exact ⟨_, _, _, _, _, h1, .ty _, tyx_tup h, kit_ty (by decide +kernel), q⟩
  | lst h => exact ⟨_, _, _, _, _, h1, .ty _, .base (.lst h), kit_ty (by decide +kernel), q⟩

/-- an expression that is never reached -/
theorem pe_never {e : Expr} : PE X e (fun _ _ _ => False) := ⟨fun _ _ _ _ _ _ h => h.elim⟩
/-! ### constants -/
def Cst (mg : Str → Option Value) (x : Str) (v : V) : Prop := ∃ u, mg x = some u ∧ RelV v u
theorem pe_cst {x : Str} {v : V} {pos : Pos} (hg : Gl X x) (h : Cst X.mg x v) (hd : (x == ("__debug__" : Str)) = false := by decide) : PE X (.Name x pos) (tC v) := by
  obtain ⟨u, hm, r⟩ := h
  exact pe_glob hg hm r hd
end
/-! ### the same within a comprehension: the written part named -/
section
variable {X : Cx} {K : PySem.W.Frag}
theorem sl_numsK (hK : X.K = K) : SlR X (fun x lo hi H Q => ∃ (ns : List Nat) (l u : Nat), NumsV K H x ns ∧ lo.getD 0 = (l : Int) ∧ hi.getD (ns.length : Int) = (u : Int) ∧ ∀ v H', Same H H' → NumsV K H' v ((ns.drop l).take (u - l)) → Q v H') := by subst hK; exact sl_nums
theorem op_catNK (hK : X.K = K) : OpR X (binaryOp .Add) (fun x y H Q => ∃ a b : List Nat, NumsV K H x a ∧ NumsV K H y b ∧ a.length + b.length ≤ 1000000 ∧ ∀ v H', Same H H' → NumsV K H' v (a ++ b) → Q v H') := by subst hK; exact op_catN
theorem ix_numsK (hK : X.K = K) : IxR X (fun x y H Q => ∃ (ns : List Nat) (i : Nat), NumsV K H x ns ∧ y = vi i ∧ i < ns.length ∧ Q (vi (ns.getD i 0)) H) := by subst hK; exact ix_nums
theorem ix_tupNK (hK : X.K = K) : IxR X (fun x y H Q => ∃ (p : Addr) (xs : List V) (i : Nat) (v : V), x = .ref p ∧ y = vi i ∧ SqT K H p xs ∧ xs[i]? = some v ∧ Q v H) := by subst hK; exact ix_tupN
theorem ix_listNK (hK : X.K = K) : IxR X (fun x y H Q => ∃ (p : Addr) (xs : List V) (i : Nat) (v : V), x = .ref p ∧ y = vi i ∧ SqL K H p xs ∧ xs[i]? = some v ∧ Q v H) := by subst hK; exact ix_listN
theorem call_lenNK (hK : X.K = K) : CallR X (.builtin "len") (fun xs H Q => ∃ v ns, xs = [v] ∧ NumsV K H v ns ∧ Q (vi ns.length) H) := by subst hK; exact call_lenN
theorem call_lenLK (hK : X.K = K) : CallR X (.builtin "len") (fun xs H Q => ∃ p ys, xs = [.ref p] ∧ SqL K H p ys ∧ Q (vi ys.length) H) := by subst hK; exact call_lenL
theorem pg_tup2K {pos : Pos} {es : List Expr} {k : Nat} {t : TGs} (hK : X.K = K) (hc : X.calm = true) (h : PGs X es t)
    (hn : (assignEach es X.env).length = 2 := by rfl) (hst : (assignEach es X.env).findIdx? (·.1) = none := by rfl) : PG X (.Tuple es k pos) (gTup K 2 t) := by subst hK; exact pg_tup hc h hn hst
end
/-! ### a tuple with no attributes of its own: made by tuple(list); its index -/
def FrzT (H : Hp) (b : Addr) (xs : List V) : Prop := ∃ o : Obj, H b = some (.frz o (.tup xs)) ∧ o.dict = none
theorem FrzT.sq {K : PySem.W.Frag} {H : Hp} {b : Addr} {xs : List V} (h : FrzT H b xs) : SqT K H b xs := by
  obtain ⟨o, h, _⟩ := h
  exact .inl (.inr ⟨o, h⟩)
theorem FrzT.same {H H' : Hp} {b : Addr} {xs : List V} (h : FrzT H b xs) (e : Same H H') : FrzT H' b xs := by
  obtain ⟨o, h, d⟩ := h
  exact ⟨o, e _ _ h, d⟩
theorem FrzT.but {H H' : Hp} {b w : Addr} {xs ys : List V} (h : FrzT H b xs) (e : But w H H') (hw : H w = some (.lst ys)) : FrzT H' b xs := by
  obtain ⟨o, h, d⟩ := h
  exact ⟨o, e _ _ (ne_of h hw (by intro z; cases z)) h, d⟩
section
variable {X : Cx}
theorem call_tuple_frz : CallR X (.type "tuple") (fun vs H Q => ∃ (p : Addr) (ys : List V), vs = [.ref p] ∧ SqL X.K H p ys ∧ ∀ (l : Addr) (o : Obj), H l = none → o.dict = none → Q (.ref l) (upd H l (.frz o (.tup ys)))) := by
  intro pins s σ H vs us Q I r h
  obtain ⟨p, ys, e0, hq, q⟩ := h
  subst e0
  obtain ⟨u, rfl, rx⟩ := vals1 r
  cases rx
  obtain ⟨its, rv, pl, hz⟩ := I.list hq
  have hl := rv.length
  refine call_tuple_list pl.isList (fun h1 kp => ?_) (by simp only [List.size_toArray] <;> omega)
  have I1 : Inv X pins σ H { s with heap := h1 } := I.kept (t' := s.toks) kp
  refine ⟨.ref h1.objs.size, upd H h1.objs.size (.frz { cls := .type "tuple", data := .seq its.toArray } (.tup ys)), ?_, rfl, q _ _ (I1.hok.fresh (Nat.le_refl _)) rfl⟩
  refine I1.laid (t' := s.toks) (fun b o e => Heap.get?_push_of_some _ e) (Nat.le_refl _) ?_
  exact ⟨Heap.get?_push_size _ rfl, hz, its, rv, IsTup.new _ _⟩
theorem pe_idxT {o e : Expr} {to : TE} {t : TA} {apos cpos : Pos} {r : V → List V → Hp → VK → Prop} (hm : MtR X "tuple.index" r) (ho : PE X o to) (ha : PA X [e] t)
    (hb : attributeBase o "index" X.env (eval o X.env) = eval o X.env := by rfl)
    (hf : ((backTo cpos (starEach [e] X.env)).all (fun x => !x.1) && (backToKw cpos (keywordEach [] X.env)).all (fun x => x.1.isSome) && decide ([e].length + ([] : List Keyword).length + (if ([] : List Keyword).isEmpty then 0 else 1) < 30)) = true := by rfl)
    (hl : (apos.endLine == cpos.line) = true := by rfl) (hs : starEach [e] X.env = (false, eval e X.env) :: starEach [] X.env := by rfl) (hp : (backTo cpos (starEach [] X.env)).any (·.1) = false := by rfl) :
    PE X (.Call (.Attribute o "index" apos) [e] [] cpos) (fun σ H Q => to σ H fun x H1 => (∃ b xs, x = .ref b ∧ FrzT H1 b xs) ∧ t σ H1 fun vs H2 => r x vs H2 Q) := by
  refine ⟨fun pins s σ H Q I h => ?_⟩
  refine wpAny_Call_method_late hb hf hl rfl (thn (ho.run pins s σ H _ I h) fun v s1 ⟨x, H1, I1, r1, ty, q1⟩ => ?_)
  obtain ⟨b, xs, rfl, ob, h1, h2⟩ := ty
  obtain ⟨g1, _, _, _, ot, g2, g3, _⟩ := I1.hok b _ h1
  rw [g1] at g2
  cases g2
  cases r1
  refine ⟨"tuple", "tuple.index", PySem.F.plainAttrs_tuple, PySem.F.slot_tuple_index, PySem.F.type_tuple_index, ⟨_, g1, g3⟩, fun a e2 => by cases e2; exact ⟨_, g1, h2⟩, ?_⟩
  have hA := ha.run cpos pins s1 σ H1 _ I1 q1
  rw [hs] at hA ⊢
  refine Calls.callWith_builtin (by show (false || (backTo cpos (starEach [] X.env)).any (·.1)) = false; rw [hp] <;> rfl) (Calls.evalArgs_plain ?_)
  exact thn hA fun us s2 ⟨vs, H2, I2, r2, q2⟩ => hm pins s2 σ H2 (.ref b) vs _ us Q I2 rfl r2 q2
end
/-! ### comprehensions -/
/-- each turn gives one value more, tuples stand, nothing else is changed -/
theorem lc_vals {K : PySem.W.Frag} {β : Type} (L : List β) (At : Hp → V → β → Prop) (keep : ∀ H H' v b, Tk K H H' → At H v b → At H' v b) {J : It} {G : Hp → Prop} {Y : Nat → Hp → V → Hp → Prop} (w : Walk J L.length G Y) (hz : L.length ≤ 1000000)
    {g : TG} {te : TE} {vs : List Nat} {σ : L2.St} {H1 : Hp} {D : Addr} {Qd : Hp → Prop} (hD : H1 D = none) (hG : ∀ H, Same H1 H → G H)
    (hs : ∀ i b x H H', L[i]? = some b → Same H1 H → Y i H x H' → ∀ N : V → Hp → Prop, (∀ y H4, Same H H4 → At H4 y b → N y H4) → g x (wipe σ vs) H' fun σ2 H2 => wipe σ2 vs = wipe σ vs ∧ te σ2 H2 N)
    (hd : ∀ ys H, H D = some (.lst ys) → Same H1 H → Fits (At H) ys L → Qd H) :
    ∃ W : Nat → Nat → Hp → Prop, (∃ m, W 0 m (upd H1 D (.lst []))) ∧ ∀ i m H, W i m H →
      (J.stop i H ∧ Qd H) ∨ (J.go i H ∧ ∃ Nx : Hp → Prop, (∀ H', Nx H' → ∃ m', m' < m ∧ W (i + 1) m' H') ∧ ∀ x H', J.yld i H x H' → g x (wipe σ vs) H' fun σ2 H2 => wipe σ2 vs = wipe σ vs ∧ tYes σ2 H2 fun b H3 =>
        if b = true then te σ2 H3 fun y H4 => ∃ acc, H4 D = some (.lst acc) ∧ acc.length < sizeLine ∧ Nx (upd H4 D (.lst (acc ++ [y]))) else Nx H3) := by
  refine lc_it w (fun i H => ∃ ys, H D = some (.lst ys) ∧ Same H1 H ∧ Fits (At H) ys (L.take i)) ⟨[], upd_same, same_new hD _, by rw [List.take_zero]; exact .nil⟩ (fun i H _ ⟨_, _, e, _⟩ => hG H e) ?_ ?_
  · rintro i x H H' hi ⟨ys, h1, h2, h3⟩ y
    refine hs i L[i] x H H' (by simp [hi]) h2 y _ fun z H4 e a => ?_
    have h4 := e _ _ h1
    have hlen : ys.length = i := by rw [h3.len, List.length_take]; omega
    refine ⟨ys, h4, by rw [hlen, sizeLine_eq]; omega, ys ++ [z], upd_same, fun b o q => ?_, ?_⟩
    · rw [upd_ne (ne_of_none q hD)]
      exact e _ _ (h2 _ _ q)
    · have tk : Tk K H4 (upd H4 D (.lst (ys ++ [z]))) := (but_upd _).tk h4
      rw [List.take_succ, List.getElem?_eq_getElem hi]
      exact (h3.imp fun v b _ q => keep _ _ _ _ ((same_tk e).trans tk) q).app (.cons (keep _ _ _ _ tk a) .nil)
  · rintro H ⟨ys, h1, h2, h3⟩
    rw [List.take_length] at h3
    exact hd ys H h1 h2 h3
/-- a comprehension whose values don't lean on the heap -/
theorem lc_pure (K : PySem.W.Frag) {β : Type} (L : List β) (f : β → V) {J : It} {G : Hp → Prop} {Y : Nat → Hp → V → Hp → Prop} (w : Walk J L.length G Y) (hz : L.length ≤ 1000000)
    {g : TG} {te : TE} {vs : List Nat} {σ : L2.St} {H1 : Hp} {D : Addr} {Qd : Hp → Prop} (hD : H1 D = none) (hG : ∀ H, Same H1 H → G H)
    (hs : ∀ i b x H H', L[i]? = some b → Same H1 H → Y i H x H' → ∀ N : V → Hp → Prop, (∀ H4, Same H H4 → N (f b) H4) → g x (wipe σ vs) H' fun σ2 H2 => wipe σ2 vs = wipe σ vs ∧ te σ2 H2 N)
    (hd : ∀ H, H D = some (.lst (L.map f)) → Same H1 H → Qd H) :
    ∃ W : Nat → Nat → Hp → Prop, (∃ m, W 0 m (upd H1 D (.lst []))) ∧ ∀ i m H, W i m H →
      (J.stop i H ∧ Qd H) ∨ (J.go i H ∧ ∃ Nx : Hp → Prop, (∀ H', Nx H' → ∃ m', m' < m ∧ W (i + 1) m' H') ∧ ∀ x H', J.yld i H x H' → g x (wipe σ vs) H' fun σ2 H2 => wipe σ2 vs = wipe σ vs ∧ tYes σ2 H2 fun b H3 =>
        if b = true then te σ2 H3 fun y H4 => ∃ acc, H4 D = some (.lst acc) ∧ acc.length < sizeLine ∧ Nx (upd H4 D (.lst (acc ++ [y]))) else Nx H3) :=
  lc_vals (K := K) L (fun _ v b => v = f b) (fun _ _ _ _ _ h => h) w hz hD hG (fun i b x H H' hb e y N hN => hs i b x H H' hb e y N fun H4 e4 => hN _ H4 e4 rfl)
    fun ys H h1 h2 h3 => hd H (by rw [h1, h3.map_eq]) h2
end Bs
/-! Shapes and their things as data. -/
namespace Bs
open PySem PySem.Spec PyProof.Rows L2
def shD : Shp → PyData
  | .none => .str "none"
  | .one => .str "one"
  | .tree => .str "tree"
  | .either a b => .tuple [.str "either", shD a, shD b]
  | .both a b => .tuple [.str "both", shD a, shD b]
def itD : Itm → PyData
  | .unit => numsD []
  | .tr t => numsD t
  | .lf i => .tuple [.str "left", itD i]
  | .rt i => .tuple [.str "right", itD i]
  | .pr i j => .tuple [itD i, itD j]
/-- is the shape this word -/
def isW : Shp → Str → Bool
  | .none, z => ("none" : Str) == z
  | .one, z => ("one" : Str) == z
  | .tree, z => ("tree" : Str) == z
  | _, _ => false
section
variable {K : PySem.W.Frag} {H : Hp}
theorem NumsV.dp {v : V} {ns : List Nat} (h : NumsV K H v ns) : Dp K H v (numsD ns) := by
  obtain ⟨a, rfl, h⟩ := h
  exact h.dp
theorem ThV.dp {v : V} {x : Thg} (h : ThV K H v x) : Dp K H v (thD x) := by
  obtain ⟨a, rfl, h⟩ := h
  exact h.dp
theorem ShV.dp : ∀ {s : Shp} {v : V}, ShV K H s v → Dp K H v (shD s)
  | .none, _, h => by cases h; exact .str _
  | .one, _, h => by cases h; exact .str _
  | .tree, _, h => by cases h; exact .str _
  | .either _ _, _, ⟨_, _, _, e, h, g, k⟩ => by subst e; exact .tup h (.cons (.str _) (.cons (ShV.dp g) (.cons (ShV.dp k) .nil)))
  | .both _ _, _, ⟨_, _, _, e, h, g, k⟩ => by subst e; exact .tup h (.cons (.str _) (.cons (ShV.dp g) (.cons (ShV.dp k) .nil)))
theorem ItV.dp : ∀ {i : Itm} {v : V}, ItV K H i v → Dp K H v (itD i)
  | .unit, _, h => NumsV.dp h
  | .tr _, _, h => NumsV.dp h
  | .lf _, _, ⟨_, _, e, h, g⟩ => by subst e; exact .tup h (.cons (.str _) (.cons (ItV.dp g) .nil))
  | .rt _, _, ⟨_, _, e, h, g⟩ => by subst e; exact .tup h (.cons (.str _) (.cons (ItV.dp g) .nil))
  | .pr _ _, _, ⟨_, _, _, e, h, g, k⟩ => by subst e; exact .tup h (.cons (ItV.dp g) (.cons (ItV.dp k) .nil))
end
theorem canN : ∀ l : List Nat, PyData.canLayAll0 (l.map fun n : Nat => PyData.int (n : Int)) = true
  | [] => by simp [PyData.canLayAll0]
  | x :: l => by
    show PyData.canLayAll0 (.int x :: _) = true
    rw [PyData.canLayAll0, canN l, PyData.canLay0]
    rfl
theorem can_nums (l : List Nat) : (numsD l).canLay0 = true := by
  show PyData.canLay0 (.tuple _) = true
  rw [PyData.canLay0]
  exact canN l
theorem can_th (x : Thg) : (thD x).canLay0 = true := by
  show PyData.canLay0 (.tuple [.int _, numsD _]) = true
  simp [PyData.canLay0, PyData.canLayAll0, can_nums]
theorem can_sh : ∀ s : Shp, (shD s).canLay0 = true
  | .none => by decide +kernel
  | .one => by decide +kernel
  | .tree => by decide +kernel
  | .either a b => by
    show PyData.canLay0 (.tuple [.str "either", shD a, shD b]) = true
    have e : PyData.canLay0 (.str "either") = true := by decide +kernel
    rw [PyData.canLay0, PyData.canLayAll0, PyData.canLayAll0, PyData.canLayAll0, PyData.canLayAll0, can_sh a, can_sh b, e]
    rfl
  | .both a b => by
    show PyData.canLay0 (.tuple [.str "both", shD a, shD b]) = true
    have e : PyData.canLay0 (.str "both") = true := by decide +kernel
    rw [PyData.canLay0, PyData.canLayAll0, PyData.canLayAll0, PyData.canLayAll0, PyData.canLayAll0, can_sh a, can_sh b, e]
    rfl
theorem can_it : ∀ i : Itm, (itD i).canLay0 = true
  | .unit => can_nums []
  | .tr t => can_nums t
  | .lf i => by
    show PyData.canLay0 (.tuple [.str "left", itD i]) = true
    have e : PyData.canLay0 (.str "left") = true := by decide +kernel
    rw [PyData.canLay0, PyData.canLayAll0, PyData.canLayAll0, PyData.canLayAll0, can_it i, e]
    rfl
  | .rt i => by
    show PyData.canLay0 (.tuple [.str "right", itD i]) = true
    have e : PyData.canLay0 (.str "right") = true := by decide +kernel
    rw [PyData.canLay0, PyData.canLayAll0, PyData.canLayAll0, PyData.canLayAll0, can_it i, e]
    rfl
  | .pr i j => by
    show PyData.canLay0 (.tuple [itD i, itD j]) = true
    rw [PyData.canLay0, PyData.canLayAll0, PyData.canLayAll0, PyData.canLayAll0, can_it i, can_it j]
    rfl
theorem depth_numsD (l : List Nat) : (numsD l).depth = 1 := by
  show PyData.depth (.tuple _) = 1
  rw [PyData.depth, depth_nums]
theorem depth_sh : ∀ s : Shp, (shD s).depth ≤ s.deep
  | .none => by simp [shD, PyData.depth]
  | .one => by simp [shD, PyData.depth]
  | .tree => by simp [shD, PyData.depth]
  | .either a b => by
    have h1 := depth_sh a
    have h2 := depth_sh b
    show PyData.depth (.tuple [.str "either", shD a, shD b]) ≤ max a.deep b.deep + 1
    simp only [PyData.depth, PyData.depthAll]
    omega
  | .both a b => by
    have h1 := depth_sh a
    have h2 := depth_sh b
    show PyData.depth (.tuple [.str "both", shD a, shD b]) ≤ max a.deep b.deep + 1
    simp only [PyData.depth, PyData.depthAll]
    omega
theorem depth_it {ks : List Nat} {s : Shp} {i : Itm} (h : Of ks s i) : (itD i).depth ≤ s.deep := by
  induction h with
  | one => show (numsD []).depth ≤ 1; rw [depth_numsD]; exact Nat.le_refl _
  | @tree t _ => show (numsD t).depth ≤ 1; rw [depth_numsD]; exact Nat.le_refl _
  | @lf a b i _ ih =>
    show PyData.depth (.tuple [.str "left", itD i]) ≤ max a.deep b.deep + 1
    simp only [PyData.depth, PyData.depthAll]
    omega
  | @rt a b i _ ih =>
    show PyData.depth (.tuple [.str "right", itD i]) ≤ max a.deep b.deep + 1
    simp only [PyData.depth, PyData.depthAll]
    omega
  | @pr a b i j _ _ ih1 ih2 =>
    show PyData.depth (.tuple [itD i, itD j]) ≤ max a.deep b.deep + 1
    simp only [PyData.depth, PyData.depthAll]
    omega
theorem shaped_of {d : PyData} (h : d.canLay0 = true) (h2 : d.depth ≤ 64) : SeqAt.shaped d = true := by
  unfold SeqAt.shaped
  rw [h, decide_eq_true h2]; rfl
theorem shaped_nums (l : List Nat) : SeqAt.shaped (numsD l) = true := shaped_of (can_nums l) (by rw [depth_numsD]; omega)
theorem shaped_th (x : Thg) : SeqAt.shaped (thD x) = true := shaped_of (can_th x) (by rw [depth_th]; omega)
theorem can_list {β : Type} {f : β → PyData} (h : ∀ b, (f b).canLay0 = true) : ∀ L : List β, PyData.canLayAll0 (L.map f) = true
  | [] => by simp [PyData.canLayAll0]
  | x :: l => by
    rw [List.map_cons, PyData.canLayAll0, can_list h l, h x]
    rfl
theorem depth_list {β : Type} {f : β → PyData} {n : Nat} : ∀ L : List β, (∀ b ∈ L, (f b).depth ≤ n) → PyData.depthAll (L.map f) ≤ n
  | [], _ => by simp [PyData.depthAll]
  | x :: l, h => by
    rw [List.map_cons, PyData.depthAll]
    have h1 := h x List.mem_cons_self
    have h2 := depth_list l fun b hb => h b (List.mem_cons_of_mem _ hb)
    omega
theorem shaped_list {β : Type} {f : β → PyData} (h : ∀ b, (f b).canLay0 = true) (L : List β) (hd : ∀ b ∈ L, (f b).depth ≤ 60) : SeqAt.shaped (.list (L.map f)) = true := by
  refine shaped_of ?_ ?_
  · rw [PyData.canLay0]; exact can_list h L
  · rw [PyData.depth]
    have := depth_list L hd
    omega
theorem eqv_self {d : PyData} (h : SeqAt.shaped d = true) : PyData.eqv d d = true := by
  have h2 : d.canLay0 = true := SeqAt.canLay_of_shaped h
  exact SeqAt.eqv_refl d h2
/-- data of a list -/
theorem ls_dp {β : Type} {K : PySem.W.Frag} {H : Hp} {f : β → PyData} {At : V → β → Prop} (h : ∀ v b, At v b → Dp K H v (f b)) : ∀ {vs : List V} {L : List β}, Fits At vs L → DpAll K H vs (L.map f)
  | _, _, .nil => .nil
  | _, _, .cons a t => .cons (h _ _ a) (ls_dp h t)
theorem LsAt.dp {β : Type} {K : PySem.W.Frag} {H : Hp} {l : Addr} {f : β → PyData} {At : V → β → Prop} {L : List β} (g : LsAt K H l At L) (h : ∀ v b, At v b → Dp K H v (f b)) : Dp K H (.ref l) (.list (L.map f)) := by
  obtain ⟨vs, h1, h2⟩ := g
  exact .lst h1 (ls_dp h h2)
theorem eqv_word (s : Shp) (z : Str) : PyData.eqv (shD s) (.str z) = isW s z := by
  cases s <;> simp [shD, isW, PyData.eqv]
/-- shape == word -/
theorem op_eqSh {X : Cx} (hu : X.A.units + 64 < cLine) : OpR X (compareOp .Eq) (fun x y H Q => ∃ (s : Shp) (z : Str) (b : Bool), ShV X.K H s x ∧ y = .str z ∧ s.deep ≤ 12 ∧ SeqAt.shaped (.str z) = true ∧ isW s z = b ∧ Q (.bl b) H) :=
  opImp (op_eqD hu) fun x y H Q ⟨s, z, b, h1, h2, h3, h4, h5, q⟩ => by
    subst h2
    refine ⟨shD s, .str z, h1.dp, .str _, shaped_of (can_sh s) (by have := depth_sh s; omega), h4, ?_⟩
    rw [eqv_word, h5]
    exact q
end Bs
/-! The program's text by places, and what its top has made. -/
namespace Bs
open PySem L2
def top (i : Nat) : Stmt := PySem.Challenge.pw_boughswap_k30_whole_shapes_lose_nothing.main.body.getD i (.Pass ⟨0, 0, 0, 0⟩)
abbrev s_is_whole : Stmt := top 12
abbrev s_ends_in : Stmt := top 14
abbrev s_is_tree : Stmt := top 15
abbrev s_trees_in : Stmt := top 16
abbrev s_is_rack : Stmt := top 20
abbrev s_sure_rack : Stmt := top 21
abbrev s_sure_small : Stmt := top 22
abbrev s_is_among : Stmt := top 23
abbrev s_is_thing : Stmt := top 24
abbrev s_sure_thing : Stmt := top 25
abbrev s_put_beside : Stmt := top 26
abbrev s_put_left : Stmt := top 27
abbrev s_put_right : Stmt := top 28
abbrev s_side_of : Stmt := top 29
abbrev s_put_times : Stmt := top 30
abbrev s_paired : Stmt := top 31
abbrev s_unpaired : Stmt := top 32
abbrev s_is_within : Stmt := top 36
abbrev s_is_shape : Stmt := top 37
abbrev s_asked_shape : Stmt := top 38
abbrev s_is_side : Stmt := top 39
abbrev s_has_kind_of : Stmt := top 40
abbrev s_rack_of : Stmt := top 41
abbrev s_flat_of : Stmt := top 42
abbrev s_laid_flat : Stmt := top 43
abbrev s_flattened : Stmt := top 44
abbrev s_put_up : Stmt := top 45
abbrev s_folded : Stmt := top 46
abbrev s_is_name : Stmt := top 52
abbrev s_is_maker_row : Stmt := top 53
abbrev s_are_makers : Stmt := top 54
abbrev s_Kind___init__ : Stmt := inClass (top 55) 0
abbrev s_Kind___len__ : Stmt := inClass (top 55) 2
abbrev s_Kind_sure_maker : Stmt := inClass (top 55) 4
abbrev s_Kind_within : Stmt := inClass (top 55) 6
abbrev s_tree_end : Stmt := top 58
abbrev s_slot_begin : Stmt := top 59
abbrev s_opened_forms : Stmt := top 60
abbrev s_is_order : Stmt := top 62
abbrev s_rack_unless : Stmt := top 63
abbrev s_can_do : Stmt := top 65
abbrev s_forms_after : Stmt := top 66
abbrev s_rack_after : Stmt := top 67
abbrev s_undone_step : Stmt := top 68
abbrev s_moved : Stmt := top 69
abbrev s_racks_on : Stmt := top 71
abbrev s_Turning___init__ : Stmt := inClass (top 72) 0
abbrev s_Turning_run : Stmt := inClass (top 72) 5
abbrev s_Turning_back : Stmt := inClass (top 72) 6
abbrev s__law_well : Stmt := top 74
abbrev s__law_draw : Stmt := top 75
abbrev s__law_within : Stmt := top 76
abbrev s__law_house : Stmt := top 77
abbrev s__law_tree : Stmt := top 78
abbrev s__law_plan : Stmt := top 79
abbrev s__law_count : Stmt := top 80
abbrev s__law_all : Stmt := top 81
abbrev s__law_signs : Stmt := top 82
abbrev s__law_spots : Stmt := top 83
abbrev s__law_steps : Stmt := top 84
abbrev s__law_trees : Stmt := top 85
abbrev s_law : Stmt := top 86
structure Dfn (K : PySem.W.Frag) (mg : Str → Option Value) (x qual : Str) (st : Stmt) (ps : List Str) where
  f : Addr
  fd : FuncData
  F : Fun K x qual st f fd
  b : Binds K fd ps []
  m : mg x = some (.ref f)
structure Mdf (K : PySem.W.Frag) (C : Addr) (x qual : Str) (st : Stmt) (ps : List Str) where
  f : Addr
  fd : FuncData
  F : Fun K x qual st f fd
  b : Binds K fd ps []
  me : Meth K C x f
/-- a tuple of numbers of the written part -/
def PlTup (K : PySem.W.Frag) (a : Addr) (ns : List Nat) : Prop := ∃ (o : Obj) (its : Array Value) (n : Nat), K.lookup a = some o ∧ o.cls = .type "tuple" ∧ o.data = .seq its n ∧ its.size ≤ sizeLine ∧ Vals (ns.map vi) its.toList
theorem PlTup.nums {K : PySem.W.Frag} {a : Addr} {ns : List Nat} (h : PlTup K a ns) (H : Hp) : NumsAt K H a ns := .inr h
structure Tp (w : World) (K : PySem.W.Frag) (mg : Str → Option Value) where
  C_Kind : Addr
  cl_Kind : Cls K C_Kind
  mg_Kind : mg "Kind" = some (.ref C_Kind)
  C_Turning : Addr
  cl_Turning : Cls K C_Turning
  mg_Turning : mg "Turning" = some (.ref C_Turning)
  d_is_whole : Dfn K mg "is_whole" "is_whole" s_is_whole ["thing", "low", "high"]
  d_ends_in : Dfn K mg "ends_in" "ends_in" s_ends_in ["kind", "thing"]
  d_is_tree : Dfn K mg "is_tree" "is_tree" s_is_tree ["kind", "thing"]
  d_trees_in : Dfn K mg "trees_in" "trees_in" s_trees_in ["kind", "row"]
  d_is_rack : Dfn K mg "is_rack" "is_rack" s_is_rack ["thing"]
  d_sure_rack : Dfn K mg "sure_rack" "sure_rack" s_sure_rack ["thing"]
  d_sure_small : Dfn K mg "sure_small" "sure_small" s_sure_small ["rack"]
  d_is_among : Dfn K mg "is_among" "is_among" s_is_among ["kind", "rack", "thing"]
  d_is_thing : Dfn K mg "is_thing" "is_thing" s_is_thing ["kind", "rack", "thing"]
  d_sure_thing : Dfn K mg "sure_thing" "sure_thing" s_sure_thing ["kind", "rack", "thing"]
  d_put_beside : Dfn K mg "put_beside" "put_beside" s_put_beside ["one", "two"]
  d_put_left : Dfn K mg "put_left" "put_left" s_put_left ["kind", "one", "two", "thing"]
  d_put_right : Dfn K mg "put_right" "put_right" s_put_right ["kind", "one", "two", "thing"]
  d_side_of : Dfn K mg "side_of" "side_of" s_side_of ["kind", "one", "two", "thing"]
  d_put_times : Dfn K mg "put_times" "put_times" s_put_times ["one", "two"]
  d_paired : Dfn K mg "paired" "paired" s_paired ["kind", "one", "two", "thing", "other"]
  d_unpaired : Dfn K mg "unpaired" "unpaired" s_unpaired ["kind", "one", "two", "thing"]
  d_is_within : Dfn K mg "is_within" "is_within" s_is_within ["thing", "deep"]
  d_is_shape : Dfn K mg "is_shape" "is_shape" s_is_shape ["thing"]
  d_asked_shape : Dfn K mg "asked_shape" "asked_shape" s_asked_shape ["thing"]
  d_is_side : Dfn K mg "is_side" "is_side" s_is_side ["thing", "word"]
  d_has_kind_of : Dfn K mg "has_kind_of" "has_kind_of" s_has_kind_of ["kind", "shape", "thing"]
  d_rack_of : Dfn K mg "rack_of" "rack_of" s_rack_of ["shape"]
  d_flat_of : Dfn K mg "flat_of" "flat_of" s_flat_of ["shape"]
  d_laid_flat : Dfn K mg "laid_flat" "laid_flat" s_laid_flat ["kind", "shape", "thing"]
  d_flattened : Dfn K mg "flattened" "flattened" s_flattened ["kind", "shape", "thing"]
  d_put_up : Dfn K mg "put_up" "put_up" s_put_up ["kind", "shape", "thing"]
  d_folded : Dfn K mg "folded" "folded" s_folded ["kind", "shape", "thing"]
  d_is_name : Dfn K mg "is_name" "is_name" s_is_name ["thing"]
  d_is_maker_row : Dfn K mg "is_maker_row" "is_maker_row" s_is_maker_row ["thing"]
  d_are_makers : Dfn K mg "are_makers" "are_makers" s_are_makers ["thing"]
  d_Kind___init__ : Mdf K C_Kind "__init__" "Kind.__init__" s_Kind___init__ ["self", "makers"]
  d_Kind___len__ : Mdf K C_Kind "__len__" "Kind.__len__" s_Kind___len__ ["self"]
  d_Kind_sure_maker : Mdf K C_Kind "sure_maker" "Kind.sure_maker" s_Kind_sure_maker ["self", "maker"]
  d_Kind_within : Mdf K C_Kind "within" "Kind.within" s_Kind_within ["self", "maker"]
  d_tree_end : Dfn K mg "tree_end" "tree_end" s_tree_end ["kind", "row", "at"]
  d_slot_begin : Dfn K mg "slot_begin" "slot_begin" s_slot_begin ["kind", "row", "slot"]
  d_opened_forms : Dfn K mg "opened_forms" "opened_forms" s_opened_forms ["kind", "many"]
  d_is_order : Dfn K mg "is_order" "is_order" s_is_order ["rack", "places"]
  d_rack_unless : Dfn K mg "rack_unless" "rack_unless" s_rack_unless ["rack"]
  d_can_do : Dfn K mg "can_do" "can_do" s_can_do ["kind", "rack", "step"]
  d_forms_after : Dfn K mg "forms_after" "forms_after" s_forms_after ["kind", "rack", "step"]
  d_rack_after : Dfn K mg "rack_after" "rack_after" s_rack_after ["kind", "rack", "step"]
  d_undone_step : Dfn K mg "undone_step" "undone_step" s_undone_step ["step"]
  d_moved : Dfn K mg "moved" "moved" s_moved ["kind", "step", "thing"]
  d_racks_on : Dfn K mg "racks_on" "racks_on" s_racks_on ["kind", "rack", "steps"]
  d_Turning___init__ : Mdf K C_Turning "__init__" "Turning.__init__" s_Turning___init__ ["self", "kind", "rack", "steps"]
  d_Turning_run : Mdf K C_Turning "run" "Turning.run" s_Turning_run ["self", "thing"]
  d_Turning_back : Mdf K C_Turning "back" "Turning.back" s_Turning_back ["self", "thing"]
  d__law_well : Dfn K mg "_law_well" "_law_well" s__law_well ["_law_cell"]
  d__law_draw : Dfn K mg "_law_draw" "_law_draw" s__law_draw ["_law_well_here", "_law_many"]
  d__law_within : Dfn K mg "_law_within" "_law_within" s__law_within ["_law_well_here"]
  d__law_house : Dfn K mg "_law_house" "_law_house" s__law_house ["_law_within_here"]
  d__law_tree : Dfn K mg "_law_tree" "_law_tree" s__law_tree ["_law_well_here", "_law_within_here", "_law_size"]
  d__law_plan : Dfn K mg "_law_plan" "_law_plan" s__law_plan ["_law_well_here", "_law_deep"]
  d__law_count : Dfn K mg "_law_count" "_law_count" s__law_count ["_law_plan_here", "_law_many"]
  d__law_all : Dfn K mg "_law_all" "_law_all" s__law_all ["_law_plan_here", "_law_trees_here"]
  d__law_signs : Dfn K mg "_law_signs" "_law_signs" s__law_signs ["_law_plan_here", "_law_item"]
  d__law_spots : Dfn K mg "_law_spots" "_law_spots" s__law_spots ["_law_rack", "_law_trees_here"]
  d__law_steps : Dfn K mg "_law_steps" "_law_steps" s__law_steps ["_law_well_here", "_law_within_here", "_law_rack"]
  d__law_trees : Dfn K mg "_law_trees" "_law_trees" s__law_trees ["_law_well_here", "_law_within_here"]
  d_law : Dfn K mg "law" "law" s_law ["_law_script"]
  mk_Kind : Mk K C_Kind d_Kind___init__.f
  mk_Turning : Mk K C_Turning d_Turning___init__.f
  a_Kind_rows : NoAttr K C_Kind "rows"
  a_Turning_kind : NoAttr K C_Turning "kind"
  a_Turning_passed : NoAttr K C_Turning "passed"
  a_Turning_done : NoAttr K C_Turning "done"
  a_Turning_begin : NoAttr K C_Turning "begin"
  a_Turning_end : NoAttr K C_Turning "end"
  n_len : mg "len" = none
  n_isinstance : mg "isinstance" = none
  n_all : mg "all" = none
  n_sum : mg "sum" = none
  n_max : mg "max" = none
  n_divmod : mg "divmod" = none
  n_sorted : mg "sorted" = none
  n_tuple : mg "tuple" = none
  n_list : mg "list" = none
  n_int : mg "int" = none
  n_dict : mg "dict" = none
  n_set : mg "set" = none
  n_range : mg "range" = none
  n_enumerate : mg "enumerate" = none
  n_zip : mg "zip" = none
  n_reversed : mg "reversed" = none
  n_str : mg "str" = none
  n_bool : mg "bool" = none
  c_MOST_FORMS : Cst mg "MOST_FORMS" (.int 4000)
  c_MOST_TREES : Cst mg "MOST_TREES" (.int 200)
  c_MOST_DEEP : Cst mg "MOST_DEEP" (.int 12)
  c_LETTERS : Cst mg "LETTERS" (.str "abcdefghijklmnopqrstuvwxyz")
  c_MOST_LETTERS : Cst mg "MOST_LETTERS" (.int 8)
  c_MOST_MAKERS : Cst mg "MOST_MAKERS" (.int 5)
  c_MOST_WITHIN : Cst mg "MOST_WITHIN" (.int 4)
  c_HOLE : Cst mg "HOLE" (.int (-1))
  pl : Addr
  kd_es : Array DictEntry
  kd_n : Nat
  c_PLAIN : Cst mg "PLAIN" (.ref pl)
  kd_PLAIN : KDict K w pl kd_es kd_n
  pa_none : Addr
  pk_none : KDct K w pl "none" (.ref pa_none)
  pt_none : PlTup K pa_none []
  pa_one : Addr
  pk_one : KDct K w pl "one" (.ref pa_one)
  pt_one : PlTup K pa_one [0]
  pa_tree : Addr
  pk_tree : KDct K w pl "tree" (.ref pa_tree)
  pt_tree : PlTup K pa_tree [1]
end Bs
/-! The walk: numbers, kinds, trees, racks. -/
namespace Bs
open PySem PySem.Spec L2
section
variable {P : Program} {w : World} {K : PySem.W.Frag} {mg : Str → Option Value} {base : Heap}
/-- nothing but new things: what comes back is told by post -/
def Ret (H : Hp) (Q : VK) (post : V → Hp → Prop) : Prop := ∀ v H', Same H H' → post v H' → Q v H'

def sp_is_whole : Sp := fun vs H Q _ => ∃ n h : Nat, vs = [vi n, .int 0, vi h] ∧ Q (.bl (decide (n ≤ h))) H
theorem sc_is_whole : FnScope ["thing", "low", "high"] ["thing", "low", "high"] (defScope s_is_whole) := ⟨rfl, rfl, rfl, by decide +kernel, rfl, by decide +kernel, by decide +kernel⟩
theorem ok_is_whole (T : Tp w K mg) : FnOk P w K mg base CX0 1 T.d_is_whole.f T.d_is_whole.fd ["thing", "low", "high"] sp_is_whole := by
  refine T.d_is_whole.F.ok sc_is_whole (fun vs H Q E h => ?_) (fun cdv A outer s H vs Q E hr h => ?_)
  · obtain ⟨n, h, rfl, _⟩ := h
    rfl
  obtain ⟨n, h, rfl, q⟩ := h
  refine ⟨_, (pss_cons (ps_if (PW.pt (pw_or (pt_not (pt_val (pe_callB call_isT (by rfl) T.n_isinstance (by decide +kernel) (pa_cons (pv 0) (pa_cons (pe_bltn (v := .ty "int") (by rfl) T.n_int (by decide +kernel) rfl) pa_nil))))) (pw_or1 (pt_val (pe_callB call_isT (by rfl) T.n_isinstance (by decide +kernel) (pa_cons (pv 0) (pa_cons (pe_bltn (v := .ty "bool") (by rfl) T.n_bool (by decide +kernel) rfl) pa_nil))))))) (pss_one (ps_ret pe_bl)) pss_nil)
    (pss_cons (ps_if (PW.pt (pw_and (pt_cmpR op_notN (pv 1) pe_non (nomark _)) (pw_and1 (pt_cmpR op_ltN (pv 0) (pv 1) (nomark _))))) (pss_one (ps_ret pe_bl)) pss_nil)
    (pss_one (ps_ret (pe_or (pe_cmpR op_isN (pv 2) pe_non (nomark _)) (pe_one (pe_cmpR op_leN (pv 0) (pv 2) (nomark _)))))))), ?_⟩
  refine ⟨_, rfl, _, _, _, rfl, .intInt _, _, rfl, iteF ⟨_, rfl, _, _, _, rfl, .intBool _, _, rfl, iteF ?_⟩⟩
  refine ⟨_, rfl, rfl, _, rfl, iteT ⟨_, rfl, _, rfl, n, 0, rfl, rfl, _, rfl, iteF ?_⟩⟩
  refine ⟨_, rfl, rfl, _, rfl, iteF ⟨_, rfl, _, rfl, n, h, rfl, rfl, q⟩⟩

def sp_len (C : Addr) (K : PySem.W.Frag) : Sp := fun vs H Q _ => ∃ (x l : Addr) (ks : List Nat), vs = [.ref x] ∧ KindAt K C H x l ks ∧ Q (vi ks.length) H
theorem rows_look (l : Addr) : (putF "rows" (V.ref l) []).lookup ("rows" : Str) = some (.ref l) := by rw [lookup_putF, if_pos rfl]
theorem sc_Kind___len__ : FnScope ["self"] ["self"] (defScope s_Kind___len__) := ⟨rfl, rfl, rfl, by decide +kernel, rfl, by decide +kernel, by decide +kernel⟩
theorem ok_Kind___len__ (T : Tp w K mg) : FnOk P w K mg base CX0 1 T.d_Kind___len__.f T.d_Kind___len__.fd ["self"] (sp_len T.C_Kind K) := by
  refine T.d_Kind___len__.F.ok sc_Kind___len__ (fun vs H Q E h => ?_) (fun cdv A outer s H vs Q E hr h => ?_)
  · obtain ⟨n, h, _, rfl, _⟩ := h
    rfl
  obtain ⟨x, l, ks, rfl, ⟨dx, vs, rs, h1, h2, h3, h4, h5⟩, q⟩ := h
  refine ⟨_, (pss_one (ps_ret (pe_callB call_lenL (by rfl) T.n_len PySem.boot_len (pa_cons (pe_fld (pv 0) rfl) pa_nil)))), ?_⟩
  refine ⟨_, rfl, x, _, _, _, _, rfl, h1, T.cl_Kind, T.a_Kind_rows, rows_look _, l, _, rfl, SqL.of h2, ?_⟩
  have e : vs.length = ks.length := by rw [h3.len, ← h4, List.length_map]
  rw [e]
  exact q

def sp_sure_maker (C : Addr) (K : PySem.W.Frag) : Sp := fun vs H Q _ => ∃ (x l : Addr) (ks : List Nat) (m : Nat), vs = [.ref x, vi m] ∧ KindAt K C H x l ks ∧ m < ks.length ∧ Q .non H
theorem sc_Kind_sure_maker : FnScope ["self", "maker"] ["self", "maker"] (defScope s_Kind_sure_maker) := ⟨rfl, rfl, rfl, by decide +kernel, rfl, by decide +kernel, by decide +kernel⟩
theorem ok_Kind_sure_maker (T : Tp w K mg) : FnOk P w K mg base CX0 2 T.d_Kind_sure_maker.f T.d_Kind_sure_maker.fd ["self", "maker"] (sp_sure_maker T.C_Kind K) := by
  refine T.d_Kind_sure_maker.F.ok sc_Kind_sure_maker (fun vs H Q E h => ?_) (fun cdv A outer s H vs Q E hr h => ?_)
  · obtain ⟨_, _, _, _, rfl, _⟩ := h
    rfl
  obtain ⟨x, l, ks, m, rfl, ⟨dx, vs, rs, h1, h2, h3, h4, h5⟩, hm, q⟩ := h
  have e : vs.length = ks.length := by rw [h3.len, ← h4, List.length_map]
  refine ⟨_, (pss_one (ps_if (pt_not (pt_val (pe_call (ok_is_whole T) (hr.mono (by omega)) (by rfl) T.d_is_whole.m T.d_is_whole.F.kp T.d_is_whole.b .nil pass0 (pa_cons (pv 1) (pa_cons pe_int (pa_cons (pe_op op_subN (pe_callB call_lenL (by rfl) T.n_len PySem.boot_len (pa_cons (pe_fld (pv 0) rfl) pa_nil)) pe_int) pa_nil)))))) (pss_one ps_never) pss_nil)), ?_⟩
  refine ⟨_, rfl, _, rfl, x, _, _, _, _, rfl, h1, T.cl_Kind, T.a_Kind_rows, rows_look _, l, _, rfl, SqL.of h2, vs.length, 1, rfl, rfl, by omega, m, vs.length - 1, rfl, ?_⟩
  rw [decide_eq_true (by omega : m ≤ vs.length - 1)]
  exact ⟨_, rfl, iteF q⟩

def sp_within (C : Addr) (K : PySem.W.Frag) : Sp := fun vs H Q _ => ∃ (x l : Addr) (ks : List Nat) (m : Nat), vs = [.ref x, vi m] ∧ KindAt K C H x l ks ∧ m < ks.length ∧ Q (vi (ks.getD m 0)) H
theorem sc_Kind_within : FnScope ["self", "maker"] ["self", "maker"] (defScope s_Kind_within) := ⟨rfl, rfl, rfl, by decide +kernel, rfl, by decide +kernel, by decide +kernel⟩
theorem no_meth {l : Addr} {x : Str} (h : ¬ x = "rows") : (putF "rows" (V.ref l) []).lookup x = none := by rw [lookup_putF, if_neg h]; rfl
theorem ok_Kind_within (T : Tp w K mg) : FnOk P w K mg base CX0 3 T.d_Kind_within.f T.d_Kind_within.fd ["self", "maker"] (sp_within T.C_Kind K) := by
  refine T.d_Kind_within.F.ok sc_Kind_within (fun vs H Q E h => ?_) (fun cdv A outer s H vs Q E hr h => ?_)
  · obtain ⟨_, _, _, _, rfl, _⟩ := h
    rfl
  obtain ⟨x, l, ks, m, rfl, hk, hm, q⟩ := h
  obtain ⟨dx, vs, rs, h1, h2, h3, h4, h5⟩ := id hk
  refine ⟨_, (pss_cons (ps_expr (pe_meth (pv 0) T.cl_Kind T.d_Kind_sure_maker.me (ok_Kind_sure_maker T) (hr.mono (by omega)) T.d_Kind_sure_maker.b .nil pass0 (pa_cons (pv 1) pa_nil)))
    (pss_one (ps_ret (pe_ix ix_tupN (pe_ix ix_listN (pe_fld (pv 0) rfl) (pv 1) (fun _ _ => rfl)) pe_int (fun _ _ => rfl))))), ?_⟩
  have hm' : m < rs.length := by rw [← h4, List.length_map] at hm; exact hm
  obtain ⟨v, hv, a, ea, ha⟩ := h3.to (List.getElem?_eq_getElem hm')
  refine ⟨_, rfl, x, _, _, rfl, h1, no_meth (by decide +kernel), _, rfl, x, l, ks, m, rfl, hk, hm, ?_⟩
  refine ⟨_, rfl, x, _, _, _, _, rfl, h1, T.cl_Kind, T.a_Kind_rows, rows_look _, _, rfl, l, _, m, v, rfl, rfl, SqL.of h2, hv, a, _, 1, _, ea, rfl, ha, rfl, ?_⟩
  have e : ks.getD m 0 = rs[m].2 := by rw [← h4, List.getD_eq_getElem?_getD, List.getElem?_map, List.getElem?_eq_getElem hm']; rfl
  rw [e] at q
  exact q
end
end Bs
/-! The walk: trees and racks. -/
namespace Bs
open PySem PySem.Spec L2
theorem call_maxN {X : Cx} (hc : X.calm = true) : CallR X (.builtin "max") (fun xs H Q => ∃ a b : Nat, xs = [vi a, vi b] ∧ Q (vi (max a b)) H) :=
  callImp (call_max2 hc) fun xs H Q ⟨a, b, h1, q⟩ => ⟨a, b, h1, by
    have e : (if (b : Int) > (a : Int) then (b : Int) else (a : Int)) = ((max a b : Nat) : Int) := by
      by_cases c : (b : Int) > a
      · rw [if_pos c]; omega
      · rw [if_neg c]; omega
    rw [e]
    exact q⟩
theorem sz {n : Nat} (h : n ≤ 1000000) : n ≤ sizeLine := by rw [sizeLine_eq]; omega
theorem sz' {n : Nat} (h : n ≤ 1000000) : n < sizeLine := by rw [sizeLine_eq]; omega
section
variable {P : Program} {w : World} {K : PySem.W.Frag} {mg : Str → Option Value} {base : Heap}

def sp_ends_in (C : Addr) (K : PySem.W.Frag) : Sp := fun vs H Q _ => ∃ (x l : Addr) (ks : List Nat) (v : V) (row : List Nat) (n : Nat), vs = [.ref x, v] ∧ KindAt K C H x l ks ∧ NumsV K H v row ∧ Rows ks n row ∧ row.length ≤ 1000 ∧
  ∀ p H', Same H H' → H p = none → H' p = some (.lst ((ends ks 0 0 row).map vi)) → (ends ks 0 0 row).length ≤ 1000 → Q (.ref p) H'
theorem sc_ends_in : FnScope ["kind", "thing", "found", "wanted", "at", "maker"] ["kind", "thing"] (defScope s_ends_in) := ⟨rfl, rfl, rfl, by decide +kernel, rfl, by decide +kernel, by decide +kernel⟩
theorem ok_ends_in (T : Tp w K mg) : FnOk P w K mg base CX0 4 T.d_ends_in.f T.d_ends_in.fd ["kind", "thing"] (sp_ends_in T.C_Kind K) := by
  refine T.d_ends_in.F.ok sc_ends_in (fun vs H Q E h => ?_) (fun cdv A outer s H vs Q E hr h => ?_)
  · obtain ⟨_, _, _, _, _, _, rfl, _⟩ := h
    rfl
  obtain ⟨x, kl, ks, v, row, n, rfl, hk, ⟨a, rfl, ha⟩, hrow, hlen, q⟩ := h
  refine ⟨_, (pss_cons (ps_if (pt_not (pt_val (pe_callB call_isT (by rfl) T.n_isinstance (by decide +kernel) (pa_cons (pv 1) (pa_cons (pe_bltn (v := .ty "tuple") (by rfl) T.n_tuple (by decide +kernel) rfl) pa_nil))))) (pss_one (ps_ret pe_non)) pss_nil)
    (pss_cons (ps_set (i := 2) sc_ends_in.nd rfl (Or.inl rfl) (pe_lst pa_nil))
    (pss_cons (ps_set (i := 3) sc_ends_in.nd rfl (Or.inl rfl) pe_int)
    (pss_cons (ps_for PassesOwn.never rfl (pi_enumT (by rfl) T.n_enumerate (pa_cons (pv 1) pa_nil)) (pg_tup (by rfl) (pgs_cons (pg_name (i := 4) sc_ends_in.nd rfl (Or.inl rfl)) (pgs_cons (pg_name (i := 5) sc_ends_in.nd rfl (Or.inl rfl)) pgs_nil)))
    (pss_cons (ps_if (pt_not (pt_val (pe_call (ok_is_whole T) (hr.mono (by omega)) (by rfl) T.d_is_whole.m T.d_is_whole.F.kp T.d_is_whole.b .nil pass0 (pa_cons (pv 5) (pa_cons pe_int (pa_cons (pe_op op_subN (pe_callB (call_lenO (ok_Kind___len__ T) (hr.mono (by omega)) T.d_Kind___len__.me.at_ T.d_Kind___len__.me.fn T.d_Kind___len__.b pass0) (by rfl) T.n_len PySem.boot_len (pa_cons (pv 0) pa_nil)) pe_int) pa_nil)))))) (pss_one (ps_ret pe_non)) pss_nil)
    (pss_cons (ps_set (i := 3) sc_ends_in.nd rfl (Or.inl rfl) (pe_op op_addN (pe_op op_subN (pe_callB (call_maxN rfl) (by rfl) T.n_max (by decide +kernel) (pa_cons (pv 3) (pa_cons pe_int pa_nil))) pe_int) (pe_meth (pv 0) T.cl_Kind T.d_Kind_within.me (ok_Kind_within T) (hr.mono (by omega)) T.d_Kind_within.b .nil pass0 (pa_cons (pv 5) pa_nil))))
    (pss_one (ps_if (pt_cmpR op_eqN (pv 3) pe_int (nomark _)) (pss_one (ps_expr (pe_bm PySem.F.plainAttrs_list PySem.F.slot_list_append PySem.F.type_list_append mt_append (pv 2) (pa_cons (pe_op op_addN (pv 4) pe_int) pa_nil)))) pss_nil)))))
    (pss_one (ps_ret (pe_ifExp (pt_cmpR op_eqN (pv 3) pe_int (nomark _)) (pv 2) pe_non))))))), ?_⟩
  refine ⟨_, rfl, _, _, _, rfl, .tupTup ha, _, rfl, iteF ?_⟩
  refine ⟨Nat.zero_le _, fun l hl => ?_⟩
  have hn := hk.len
  have z0 : ends ks 0 0 row = [] ++ ends ks 0 0 (row.drop 0) ∧ fin ks 0 (row.drop 0) = 0 := by
    obtain ⟨ts, e1, e2, e3⟩ := hrow.trees
    refine ⟨rfl, ?_⟩
    rw [List.drop_zero, e3]
    exact (ends_flat ts 0 e2).2
  refine ⟨_, rfl, a, _, rfl, (same_tk (same_new hl _)) _ _ ha, for_it walk_enumT (fun i σ H' => ∃ (done : List Nat) (w : Nat) (u1 u2 : Option V), σ = [some (.ref x), some (.ref a), some (.ref l), some (vi w), u1, u2] ∧ Same H H' ∧ H' l = some (.lst (done.map vi)) ∧ done.length ≤ i ∧
      ends ks 0 0 row = done ++ ends ks i w (row.drop i) ∧ fin ks w (row.drop i) = 0)
    ⟨[], 0, none, none, rfl, same_new hl _, upd_same, Nat.zero_le _, z0⟩ (fun i σ H' _ ⟨_, _, _, _, _, s, _⟩ => same_tk s _ _ ha) ?_ ?_⟩
  · rintro i y σ H1 H1' hi ⟨done, w, u1, u2, rfl, s1, h1, h2, h3, h4⟩ ⟨T0, y1, y2, rfl, hT, rfl, e1, e2⟩
    cases e1
    rw [List.length_map] at hi
    have em : row.drop i = row.getD i 0 :: row.drop (i + 1) := by
      rw [List.drop_eq_getElem_cons hi, List.getD_eq_getElem?_getD, List.getElem?_eq_getElem hi]; rfl
    have e2' : (row.map vi)[i]? = some y2 := e2
    rw [nums_at hi] at e2'
    cases e2'
    have hm : row.getD i 0 < ks.length := hrow.mem _ (by rw [List.getD_eq_getElem?_getD, List.getElem?_eq_getElem hi]; exact List.getElem_mem hi)
    have s2 : Same H (upd H1 T0 (.tup [vi i, vi (row.getD i 0)])) := s1.trans (same_new hT _)
    have hk2 := hk.same s2
    obtain ⟨dx, _, _, hx, _⟩ := id hk2
    refine ⟨T0, _, rfl, SqT.of upd_same, rfl, _, _, rfl, _, _, rfl, rfl, ?_⟩
    refine ⟨_, rfl, _, rfl, x, dx, _, rfl, hx, x, kl, ks, rfl, hk2, ks.length, rfl, by omega, ks.length, 1, rfl, rfl, by omega, row.getD i 0, ks.length - 1, rfl, ?_⟩
    rw [decide_eq_true (by omega : row.getD i 0 ≤ ks.length - 1)]
    refine ⟨_, rfl, iteF ?_⟩
    refine ⟨_, rfl, w, 1, rfl, max w 1, 1, rfl, rfl, by omega, _, rfl, x, dx, _, rfl, hx, no_meth (by decide +kernel), _, rfl, x, kl, ks, _, rfl, hk2, hm, _, _, rfl, rfl, ?_⟩
    refine ⟨_, rfl, stp ks w (row.getD i 0), 0, rfl, rfl, _, rfl, ?_⟩
    rw [em] at h3 h4
    have h3' : ends ks 0 0 row = done ++ (if stp ks w (row.getD i 0) = 0 then (i + 1) :: ends ks (i + 1) (stp ks w (row.getD i 0)) (row.drop (i + 1)) else ends ks (i + 1) (stp ks w (row.getD i 0)) (row.drop (i + 1))) := h3
    have h4' : fin ks (stp ks w (row.getD i 0)) (row.drop (i + 1)) = 0 := h4
    refine ite2 (fun c => ?_) (fun c => ?_)
    · have c' : stp ks w (row.getD i 0) = 0 := of_decide_eq_true c
      have hL : (upd H1 T0 (.tup [vi i, vi (row.getD i 0)])) l = some (.lst (done.map vi)) := by rw [upd_ne (ne_of_none h1 hT)]; exact h1
      refine ⟨_, rfl, .inl ⟨rfl, _, SqL.of hL⟩, _, rfl, i, 1, rfl, rfl, l, _, _, rfl, rfl, hL, sz' (by rw [List.length_map]; omega), ?_⟩
      rw [if_pos c'] at h3'
      refine ⟨done ++ [i + 1], stp ks w (row.getD i 0), _, _, rfl, fun b o e => ?_, ?_, by rw [List.length_append, List.length_singleton]; omega, by rw [h3', List.append_assoc]; rfl, h4'⟩
      · rw [upd_ne (ne_of_none e hl)]
        exact s2 _ _ e
      · rw [upd_same, List.map_append]
        rfl
    · have c' : ¬ stp ks w (row.getD i 0) = 0 := of_decide_eq_false (Bool.eq_false_iff.mpr c)
      rw [if_neg c'] at h3'
      exact ⟨done, stp ks w (row.getD i 0), _, _, rfl, s2, by rw [upd_ne (ne_of_none h1 hT)]; exact h1, by omega, h3', h4'⟩
  · rintro σ H1 ⟨done, w, u1, u2, rfl, s1, h1, h2, h3, h4⟩
    rw [List.length_map, List.drop_length] at h3 h4
    have ew : w = 0 := h4
    have ed : ends ks 0 0 row = done := by rw [h3]; exact List.append_nil _
    subst ew
    refine ⟨_, rfl, 0, 0, rfl, rfl, _, rfl, iteT ⟨_, rfl, ?_⟩⟩
    refine q _ _ s1 hl (by rw [ed]; exact h1) (by rw [ed]; rw [List.length_map] at h2; omega)

def sp_is_tree (C : Addr) (K : PySem.W.Frag) : Sp := fun vs H Q _ => ∃ (x l : Addr) (ks : List Nat) (v : V) (row : List Nat), vs = [.ref x, v] ∧ KindAt K C H x l ks ∧ NumsV K H v row ∧ Rows ks 1 row ∧ row.length ≤ 1000 ∧ ∀ H', Same H H' → Q (.bl true) H'
theorem sc_is_tree : FnScope ["kind", "thing", "ends"] ["kind", "thing"] (defScope s_is_tree) := ⟨rfl, rfl, rfl, by decide +kernel, rfl, by decide +kernel, by decide +kernel⟩
theorem ok_is_tree (T : Tp w K mg) : FnOk P w K mg base CX0 5 T.d_is_tree.f T.d_is_tree.fd ["kind", "thing"] (sp_is_tree T.C_Kind K) := by
  refine T.d_is_tree.F.ok sc_is_tree (fun vs H Q E h => ?_) (fun cdv A outer s H vs Q E hr h => ?_)
  · obtain ⟨_, _, _, _, _, rfl, _⟩ := h
    rfl
  obtain ⟨x, kl, ks, v, row, rfl, hk, hv, hrow, hlen, q⟩ := h
  refine ⟨_, (pss_cons (ps_set (i := 2) sc_is_tree.nd rfl (Or.inl rfl) (pe_call (ok_ends_in T) (hr.mono (by omega)) (by rfl) T.d_ends_in.m T.d_ends_in.F.kp T.d_ends_in.b .nil pass0 (pa_cons (pv 0) (pa_cons (pv 1) pa_nil))))
    (pss_one (ps_ret (pe_and (pe_cmpR op_notN (pv 2) pe_non (nomark _)) (pe_one (pe_cmpR op_eqN (pe_callB call_lenL (by rfl) T.n_len PySem.boot_len (pa_cons (pv 2) pa_nil)) pe_int (nomark _))))))), ?_⟩
  refine ⟨_, rfl, _, rfl, x, kl, ks, v, row, 1, rfl, hk, hv, hrow, hlen, fun p H1 s1 _ h1 _ => ?_⟩
  refine ⟨_, rfl, rfl, _, rfl, iteT ⟨_, rfl, p, _, rfl, SqL.of h1, _, 1, rfl, rfl, ?_⟩⟩
  obtain ⟨ts, e1, e2, e3⟩ := hrow.trees
  have e : ((ends ks 0 0 row).map vi).length = 1 := by rw [List.length_map, e3, (ends_flat ts 0 e2).1, cums_len, e1]
  rw [decide_eq_true e]
  exact q _ s1

def sp_trees_in (C : Addr) (K : PySem.W.Frag) : Sp := fun vs H Q _ => ∃ (x l : Addr) (ks : List Nat) (v : V) (row : List Nat) (n : Nat), vs = [.ref x, v] ∧ KindAt K C H x l ks ∧ NumsV K H v row ∧ Rows ks n row ∧ row.length ≤ 1000 ∧
  ∀ p ys ts H', Same H H' → H' p = some (.lst ys) → Fits (NumsV K H') ys ts → ts.length = n → (∀ t ∈ ts, Rows ks 1 t) → row = ts.flatten → Q (.ref p) H'
theorem sc_trees_in : FnScope ["kind", "row", "ends", "begin", "end"] ["kind", "row"] (defScope s_trees_in) := ⟨rfl, rfl, rfl, by decide +kernel, rfl, by decide +kernel, by decide +kernel⟩
theorem ok_trees_in (T : Tp w K mg) : FnOk P w K mg base CX0 5 T.d_trees_in.f T.d_trees_in.fd ["kind", "row"] (sp_trees_in T.C_Kind K) := by
  refine T.d_trees_in.F.ok sc_trees_in (fun vs H Q E h => ?_) (fun cdv A outer s H vs Q E hr h => ?_)
  · obtain ⟨_, _, _, _, _, _, rfl, _⟩ := h
    rfl
  obtain ⟨x, kl, ks, v, row, n, rfl, hk, hv, hrow, hlen, q⟩ := h
  refine ⟨_, (pss_cons (ps_set (i := 2) sc_trees_in.nd rfl (Or.inl rfl) (pe_call (ok_ends_in T) (hr.mono (by omega)) (by rfl) T.d_ends_in.m T.d_ends_in.F.kp T.d_ends_in.b .nil pass0 (pa_cons (pv 0) (pa_cons (pv 1) pa_nil))))
    (pss_cons (ps_if (pt_cmpR op_isN (pv 2) pe_non (nomark _)) (pss_one (ps_ret pe_non)) pss_nil)
    (pss_one (ps_ret (pe_lc (own := [("begin", 3), ("end", 4)]) rfl sc_trees_in.nd (pi_zip (by rfl) T.n_zip (pa_cons (pe_op op_cat (pe_lst (pa_cons pe_int pa_nil)) (pv 2)) (pa_cons (pv 2) pa_nil))) (blkOk_by (N := ["kind", "row", "ends", "begin", "end"]) (sc := defScope s_trees_in) (own := [("begin", 3), ("end", 4)]) (by decide +kernel)) (fun _ _ _ _ _ => (pg_tup2K (K := K) rfl rfl (pgs_cons (pg_name (i := 3) sc_trees_in.nd rfl (Or.inl rfl)) (pgs_cons (pg_name (i := 4) sc_trees_in.nd rfl (Or.inl rfl)) pgs_nil)))) (fun _ _ _ _ _ => pts_nil) (fun _ _ _ _ _ => (pe_slice (sl_numsK (K := K) rfl) (pv 1) (po_some (pv 3)) (po_some (pv 4))))))))), ?_⟩
  refine ⟨_, rfl, _, rfl, x, kl, ks, v, row, n, rfl, hk, hv, hrow, hlen, fun p H1 s1 _ h1 z1 => ?_⟩
  obtain ⟨ts, e1, e2, e3⟩ := hrow.trees
  have ee : ends ks 0 0 row = cums 0 ts := by rw [e3, (ends_flat ts 0 e2).1]
  rw [ee] at h1 z1
  rw [cums_len] at z1
  refine ⟨_, rfl, rfl, _, rfl, iteF ?_⟩
  refine ⟨(by show 1 ≤ sizeLine; decide), fun p0 hp0 => ?_⟩
  have s2 : Same H1 (upd H1 p0 (.lst [V.int 0])) := same_new hp0 _
  refine ⟨_, rfl, p0, p, _, _, rfl, rfl, upd_same, s2 _ _ h1, sz (by simp [cums_len]; omega), fun p1 hp1 => ?_⟩
  have s3 := s2.trans (same_new hp1 (.lst ([V.int 0] ++ (cums 0 ts).map vi)))
  refine ⟨_, rfl, p1, p, _, _, rfl, SqL.of upd_same, SqL.of (s3 _ _ h1), fun D hD => ?_⟩
  refine lc_vals (K := K) ts (NumsV K) (fun _ _ _ _ t h => h.tk t) (walk_zip (by simp [cums_len])) (by omega) hD (fun H' e => ⟨SqL.of (e _ _ upd_same), SqL.of (e _ _ (s3 _ _ h1))⟩) ?_ ?_
  · rintro i t y H2 H2' ht s4 ⟨T0, y1, y2, rfl, hT, rfl, ey1, ey2⟩ N hN
    have hi : i < ts.length := (List.getElem?_eq_some_iff.mp ht).1
    obtain ⟨c1, c2⟩ := cums_at ts 0 i hi
    obtain ⟨c3, c4⟩ := cut_at ts i t ht
    have ey1' : ((0 :: cums 0 ts).map vi)[i]? = some y1 := ey1
    rw [List.getElem?_map, c1] at ey1'
    have ey2' : ((cums 0 ts).map vi)[i]? = some y2 := ey2
    rw [List.getElem?_map, c2] at ey2'
    cases ey1'
    cases ey2'
    have s5 : Same H (upd H2 T0 (.tup [vi (0 + (ts.take i).flatten.length), vi (0 + (ts.take (i + 1)).flatten.length)])) := s1.trans (s3.trans (s4.trans (same_new hT _)))
    refine ⟨T0, _, rfl, SqT.of upd_same, rfl, _, _, rfl, _, _, rfl, rfl, rfl, ?_⟩
    refine ⟨_, rfl, _, rfl, _, rfl, _, rfl, _, rfl, row, 0 + (ts.take i).flatten.length, 0 + (ts.take (i + 1)).flatten.length, hv.tk (same_tk s5), rfl, rfl, fun z H3 s6 hz => ?_⟩
    refine hN _ _ ((same_new hT _).trans s6) ?_
    have e5 : 0 + (ts.take (i + 1)).flatten.length - (0 + (ts.take i).flatten.length) = t.length := by omega
    rw [e3, e5, Nat.zero_add, c3] at hz
    exact hz
  · intro ys H2 g1 g2 g3
    exact q D ys ts H2 (s1.trans (s3.trans g2)) g1 g3 e1 e2 e3
end
end Bs
/-! The walk: racks and their things. -/
namespace Bs
open PySem PySem.Spec L2
def RackOk (r : List Nat) : Prop := r.length ≤ 1000 ∧ ∀ f ∈ r, f ≤ 200
def times (a b : List Nat) : List Nat := a.flatMap fun f => b.map fun g => f + g
theorem RackOk.l {a b : List Nat} (h : RackOk (a ++ b)) : RackOk a := ⟨by have := h.1; rw [List.length_append] at this; omega, fun f hf => h.2 f (List.mem_append_left _ hf)⟩
theorem RackOk.r {a b : List Nat} (h : RackOk (a ++ b)) : RackOk b := ⟨by have := h.1; rw [List.length_append] at this; omega, fun f hf => h.2 f (List.mem_append_right _ hf)⟩
section
variable {P : Program} {w : World} {K : PySem.W.Frag} {mg : Str → Option Value} {base : Heap}

def sp_is_rack (K : PySem.W.Frag) : Sp := fun vs H Q _ => ∃ (v : V) (r : List Nat), vs = [v] ∧ NumsV K H v r ∧ RackOk r ∧ ∀ H', Same H H' → Q (.bl true) H'
theorem sc_is_rack : FnScope ["thing", "form"] ["thing"] (defScope s_is_rack) := ⟨rfl, rfl, rfl, by decide +kernel, rfl, by decide +kernel, by decide +kernel⟩
theorem ok_is_rack (T : Tp w K mg) : FnOk P w K mg base CX0 2 T.d_is_rack.f T.d_is_rack.fd ["thing"] (sp_is_rack K) := by
  refine T.d_is_rack.F.ok sc_is_rack (fun vs H Q E h => ?_) (fun cdv A outer s H vs Q E hr h => ?_)
  · obtain ⟨_, _, rfl, _⟩ := h
    rfl
  obtain ⟨v, r, rfl, hv, ⟨h1, h2⟩, q⟩ := h
  obtain ⟨a, rfl, ha⟩ := id hv
  refine ⟨_, (pss_cons (ps_if (PW.pt (pw_or (pt_not (pt_val (pe_callB call_isT (by rfl) T.n_isinstance (by decide +kernel) (pa_cons (pv 0) (pa_cons (pe_bltn (v := .ty "tuple") (by rfl) T.n_tuple (by decide +kernel) rfl) pa_nil))))) (pw_or1 (pt_cmpR op_gtN (pe_callB call_lenN (by rfl) T.n_len PySem.boot_len (pa_cons (pv 0) pa_nil)) (pe_cst (by rfl) T.c_MOST_FORMS) (nomark _))))) (pss_one (ps_ret pe_bl)) pss_nil)
    (pss_one (ps_ret (pe_callB (cr_all rfl) (by rfl) T.n_all (by decide +kernel) (pa_cons (pe_lc (own := [("form", 1)]) rfl sc_is_rack.nd (pi_tup (pv 0)) (blkOk_by (N := ["thing", "form"]) (sc := defScope s_is_rack) (own := [("form", 1)]) (by decide +kernel)) (fun _ _ _ _ _ => (pg_name (i := 1) sc_is_rack.nd rfl (Or.inl rfl))) (fun _ _ _ _ _ => pts_nil) (fun _ _ _ _ _ => (pe_call (ok_is_whole T) (hr.mono (by omega)) (by rfl) T.d_is_whole.m T.d_is_whole.F.kp T.d_is_whole.b .nil pass0 (pa_cons (pv 1) (pa_cons pe_int (pa_cons (pe_cst (by rfl) T.c_MOST_TREES) pa_nil)))))) pa_nil))))), ?_⟩
  refine ⟨_, rfl, _, _, _, rfl, .tupTup ha, _, rfl, iteF ?_⟩
  refine ⟨_, rfl, _, r, rfl, hv, r.length, 4000, rfl, rfl, _, rfl, ?_⟩
  rw [decide_eq_false (by omega : ¬ 4000 < r.length)]
  refine iteF ?_
  refine ⟨_, rfl, a, rfl, ⟨_, ha⟩, fun D hD => ?_⟩
  refine lc_pure K r (fun _ => V.bl true) (by rw [← List.length_map (f := vi) (as := r)]; exact walk_tup) (by omega) hD (fun H' e => same_tk e _ _ ha) ?_ ?_
  · rintro i f y H1 H1' hf s1 ⟨rfl, hy⟩ N hN
    rw [List.getElem?_map, hf] at hy
    cases hy
    refine ⟨rfl, _, rfl, f, 200, rfl, ?_⟩
    rw [decide_eq_true (h2 f (List.mem_of_getElem? hf))]
    exact hN _ (Same.refl _)
  · intro H1 g1 g2
    refine ⟨D, r.map fun _ => true, rfl, SqL.of (by rw [g1, List.map_map]; rfl), ?_⟩
    have e : (r.map fun _ => true).all id = true := by simp
    rw [e]
    exact q _ g2

def sp_sure_rack (K : PySem.W.Frag) : Sp := fun vs H Q _ => ∃ (v : V) (r : List Nat), vs = [v] ∧ NumsV K H v r ∧ RackOk r ∧ ∀ H', Same H H' → Q .non H'
theorem sc_sure_rack : FnScope ["thing"] ["thing"] (defScope s_sure_rack) := ⟨rfl, rfl, rfl, by decide +kernel, rfl, by decide +kernel, by decide +kernel⟩
theorem ok_sure_rack (T : Tp w K mg) : FnOk P w K mg base CX0 3 T.d_sure_rack.f T.d_sure_rack.fd ["thing"] (sp_sure_rack K) := by
  refine T.d_sure_rack.F.ok sc_sure_rack (fun vs H Q E h => ?_) (fun cdv A outer s H vs Q E hr h => ?_)
  · obtain ⟨_, _, rfl, _⟩ := h
    rfl
  obtain ⟨v, r, rfl, hv, h1, q⟩ := h
  refine ⟨_, (pss_one (ps_if (pt_not (pt_val (pe_call (ok_is_rack T) (hr.mono (by omega)) (by rfl) T.d_is_rack.m T.d_is_rack.F.kp T.d_is_rack.b .nil pass0 (pa_cons (pv 0) pa_nil)))) (pss_one ps_never) pss_nil)), ?_⟩
  exact ⟨_, rfl, v, r, rfl, hv, h1, fun H1 s1 => ⟨_, rfl, iteF (q _ s1)⟩⟩
theorem sc_sure_small : FnScope ["rack"] ["rack"] (defScope s_sure_small) := ⟨rfl, rfl, rfl, by decide +kernel, rfl, by decide +kernel, by decide +kernel⟩
theorem ok_sure_small (T : Tp w K mg) : FnOk P w K mg base CX0 3 T.d_sure_small.f T.d_sure_small.fd ["rack"] (sp_sure_rack K) := by
  refine T.d_sure_small.F.ok sc_sure_small (fun vs H Q E h => ?_) (fun cdv A outer s H vs Q E hr h => ?_)
  · obtain ⟨_, _, rfl, _⟩ := h
    rfl
  obtain ⟨v, r, rfl, hv, h1, q⟩ := h
  refine ⟨_, (pss_one (ps_if (pt_not (pt_val (pe_call (ok_is_rack T) (hr.mono (by omega)) (by rfl) T.d_is_rack.m T.d_is_rack.F.kp T.d_is_rack.b .nil pass0 (pa_cons (pv 0) pa_nil)))) (pss_one ps_never) pss_nil)), ?_⟩
  exact ⟨_, rfl, v, r, rfl, hv, h1, fun H1 s1 => ⟨_, rfl, iteF (q _ s1)⟩⟩
theorem sc_rack_unless : FnScope ["rack"] ["rack"] (defScope s_rack_unless) := ⟨rfl, rfl, rfl, by decide +kernel, rfl, by decide +kernel, by decide +kernel⟩
theorem ok_rack_unless (T : Tp w K mg) : FnOk P w K mg base CX0 3 T.d_rack_unless.f T.d_rack_unless.fd ["rack"] (sp_sure_rack K) := by
  refine T.d_rack_unless.F.ok sc_rack_unless (fun vs H Q E h => ?_) (fun cdv A outer s H vs Q E hr h => ?_)
  · obtain ⟨_, _, rfl, _⟩ := h
    rfl
  obtain ⟨v, r, rfl, hv, h1, q⟩ := h
  refine ⟨_, (pss_one (ps_if (pt_not (pt_val (pe_call (ok_is_rack T) (hr.mono (by omega)) (by rfl) T.d_is_rack.m T.d_is_rack.F.kp T.d_is_rack.b .nil pass0 (pa_cons (pv 0) pa_nil)))) (pss_one ps_never) pss_nil)), ?_⟩
  exact ⟨_, rfl, v, r, rfl, hv, h1, fun H1 s1 => ⟨_, rfl, iteF (q _ s1)⟩⟩

def sp_is_among (C : Addr) (K : PySem.W.Frag) : Sp := fun vs H Q _ => ∃ (x l : Addr) (ks : List Nat) (v t : V) (r : List Nat) (y : Thg), vs = [.ref x, v, t] ∧ KindAt K C H x l ks ∧ NumsV K H v r ∧ ThV K H t y ∧ IsThg ks r y ∧ y.2.length ≤ 1000 ∧ ∀ H', Same H H' → Q (.bl true) H'
theorem sc_is_among : FnScope ["kind", "rack", "thing", "trees"] ["kind", "rack", "thing"] (defScope s_is_among) := ⟨rfl, rfl, rfl, by decide +kernel, rfl, by decide +kernel, by decide +kernel⟩
theorem ok_is_among (T : Tp w K mg) : FnOk P w K mg base CX0 6 T.d_is_among.f T.d_is_among.fd ["kind", "rack", "thing"] (sp_is_among T.C_Kind K) := by
  refine T.d_is_among.F.ok sc_is_among (fun vs H Q E h => ?_) (fun cdv A outer s H vs Q E hr h => ?_)
  · obtain ⟨_, _, _, _, _, _, _, rfl, _⟩ := h
    rfl
  obtain ⟨x, kl, ks, v, t, r, y, rfl, hk, hv, ⟨a, rfl, b, ha, hb⟩, ht, hl, q⟩ := h
  obtain ⟨n, en, hrow⟩ := id ht
  have hlt := ht.lt
  have ern : r.getD y.1 0 = n := by rw [List.getD_eq_getElem?_getD, en]; rfl
  refine ⟨_, (pss_cons (ps_if (PW.pt (pw_or (pt_not (pt_val (pe_callB call_isT (by rfl) T.n_isinstance (by decide +kernel) (pa_cons (pv 2) (pa_cons (pe_bltn (v := .ty "tuple") (by rfl) T.n_tuple (by decide +kernel) rfl) pa_nil))))) (pw_or (pt_cmpR op_neN (pe_callB call_lenT (by rfl) T.n_len PySem.boot_len (pa_cons (pv 2) pa_nil)) pe_int (nomark _)) (pw_or1 (pt_not (pt_val (pe_call (ok_is_whole T) (hr.mono (by omega)) (by rfl) T.d_is_whole.m T.d_is_whole.F.kp T.d_is_whole.b .nil pass0 (pa_cons (pe_ix ix_tupN (pv 2) pe_int (fun _ _ => rfl)) (pa_cons pe_int (pa_cons (pe_op op_subN (pe_callB call_lenN (by rfl) T.n_len PySem.boot_len (pa_cons (pv 1) pa_nil)) pe_int) pa_nil)))))))))) (pss_one (ps_ret pe_bl)) pss_nil)
    (pss_cons (ps_set (i := 3) sc_is_among.nd rfl (Or.inl rfl) (pe_call (ok_trees_in T) (hr.mono (by omega)) (by rfl) T.d_trees_in.m T.d_trees_in.F.kp T.d_trees_in.b .nil pass0 (pa_cons (pv 0) (pa_cons (pe_ix ix_tupN (pv 2) pe_int (fun _ _ => rfl)) pa_nil))))
    (pss_one (ps_ret (pe_and (pe_cmpR op_notN (pv 3) pe_non (nomark _)) (pe_one (pe_cmpR op_eqN (pe_callB call_lenL (by rfl) T.n_len PySem.boot_len (pa_cons (pv 3) pa_nil)) (pe_ix ix_nums (pv 1) (pe_ix ix_tupN (pv 2) pe_int (fun _ _ => rfl)) (fun _ _ => rfl)) (nomark _)))))))), ?_⟩
  refine ⟨_, rfl, _, _, _, rfl, .tupTup ha, _, rfl, iteF ?_⟩
  refine ⟨_, rfl, a, _, rfl, ha, 2, 2, rfl, rfl, _, rfl, iteF ?_⟩
  refine ⟨_, rfl, a, _, 0, _, rfl, rfl, ha, rfl, _, rfl, _, r, rfl, hv, r.length, 1, rfl, rfl, by omega, y.1, r.length - 1, rfl, ?_⟩
  rw [decide_eq_true (by omega : y.1 ≤ r.length - 1)]
  refine ⟨_, rfl, iteF ?_⟩
  refine ⟨_, rfl, _, rfl, a, _, 1, _, rfl, rfl, ha, rfl, x, kl, ks, _, y.2, n, rfl, hk, ⟨b, rfl, hb⟩, hrow, hl, fun p ys ts H1 s1 h1 h2 h3 h4 h5 => ?_⟩
  refine ⟨_, rfl, rfl, _, rfl, iteT ?_⟩
  refine ⟨_, rfl, p, _, rfl, SqL.of h1, _, rfl, _, rfl, a, _, 0, _, rfl, rfl, same_tk s1 _ _ ha, rfl, r, y.1, hv.tk (same_tk s1), rfl, hlt, _, _, rfl, rfl, ?_⟩
  rw [h2.len, h3, ern, decide_eq_true (rfl : n = n)]
  exact q _ s1

theorem sc_is_thing : FnScope ["kind", "rack", "thing"] ["kind", "rack", "thing"] (defScope s_is_thing) := ⟨rfl, rfl, rfl, by decide +kernel, rfl, by decide +kernel, by decide +kernel⟩
theorem ok_is_thing (T : Tp w K mg) : FnOk P w K mg base CX0 7 T.d_is_thing.f T.d_is_thing.fd ["kind", "rack", "thing"] (fun vs H Q E => ∃ v r, vs[1]? = some v ∧ NumsV K H v r ∧ RackOk r ∧ sp_is_among T.C_Kind K vs H Q E) := by
  refine T.d_is_thing.F.ok sc_is_thing (fun vs H Q E h => ?_) (fun cdv A outer s H vs Q E hr h => ?_)
  · obtain ⟨_, _, _, _, _, _, _, _, _, _, _, _, rfl, _⟩ := h
    rfl
  obtain ⟨v0, r0, e0, hv0, hr0, x, kl, ks, v, t, r, y, rfl, hk, hv, ht, hy, hl, q⟩ := h
  cases e0
  refine ⟨_, (pss_cons (ps_expr (pe_call (ok_sure_rack T) (hr.mono (by omega)) (by rfl) T.d_sure_rack.m T.d_sure_rack.F.kp T.d_sure_rack.b .nil pass0 (pa_cons (pv 1) pa_nil)))
    (pss_one (ps_ret (pe_call (ok_is_among T) (hr.mono (by omega)) (by rfl) T.d_is_among.m T.d_is_among.F.kp T.d_is_among.b .nil pass0 (pa_cons (pv 0) (pa_cons (pv 1) (pa_cons (pv 2) pa_nil))))))), ?_⟩
  refine ⟨_, rfl, _, r0, rfl, hv0, hr0, fun H1 s1 => ?_⟩
  exact ⟨_, rfl, _, rfl, _, rfl, x, kl, ks, _, _, r, y, rfl, hk.same s1, hv.tk (same_tk s1), ht.tk (same_tk s1), hy, hl, fun H2 s2 => q _ (s1.trans s2)⟩

def sp_sure_thing (C : Addr) (K : PySem.W.Frag) : Sp := fun vs H Q _ => ∃ (x l : Addr) (ks : List Nat) (v t : V) (r : List Nat) (y : Thg), vs = [.ref x, v, t] ∧ KindAt K C H x l ks ∧ NumsV K H v r ∧ RackOk r ∧ ThV K H t y ∧ IsThg ks r y ∧ y.2.length ≤ 1000 ∧ ∀ H', Same H H' → Q .non H'
theorem sc_sure_thing : FnScope ["kind", "rack", "thing"] ["kind", "rack", "thing"] (defScope s_sure_thing) := ⟨rfl, rfl, rfl, by decide +kernel, rfl, by decide +kernel, by decide +kernel⟩
theorem ok_sure_thing (T : Tp w K mg) : FnOk P w K mg base CX0 8 T.d_sure_thing.f T.d_sure_thing.fd ["kind", "rack", "thing"] (sp_sure_thing T.C_Kind K) := by
  refine T.d_sure_thing.F.ok sc_sure_thing (fun vs H Q E h => ?_) (fun cdv A outer s H vs Q E hr h => ?_)
  · obtain ⟨_, _, _, _, _, _, _, rfl, _⟩ := h
    rfl
  obtain ⟨x, kl, ks, v, t, r, y, rfl, hk, hv, hro, ht, hy, hl, q⟩ := h
  refine ⟨_, (pss_one (ps_if (pt_not (pt_val (pe_call (ok_is_thing T) (hr.mono (by omega)) (by rfl) T.d_is_thing.m T.d_is_thing.F.kp T.d_is_thing.b .nil pass0 (pa_cons (pv 0) (pa_cons (pv 1) (pa_cons (pv 2) pa_nil)))))) (pss_one ps_never) pss_nil)), ?_⟩
  exact ⟨_, rfl, _, rfl, _, rfl, v, r, rfl, hv, hro, x, kl, ks, _, _, r, y, rfl, hk, hv, ht, hy, hl, fun H1 s1 => ⟨_, rfl, iteF (q _ s1)⟩⟩

def sp_put_beside (K : PySem.W.Frag) : Sp := fun vs H Q _ => ∃ (a b : V) (r1 r2 : List Nat), vs = [a, b] ∧ NumsV K H a r1 ∧ NumsV K H b r2 ∧ RackOk (r1 ++ r2) ∧ ∀ v H', Same H H' → NumsV K H' v (r1 ++ r2) → Q v H'
theorem sc_put_beside : FnScope ["one", "two"] ["one", "two"] (defScope s_put_beside) := ⟨rfl, rfl, rfl, by decide +kernel, rfl, by decide +kernel, by decide +kernel⟩
theorem ok_put_beside (T : Tp w K mg) : FnOk P w K mg base CX0 4 T.d_put_beside.f T.d_put_beside.fd ["one", "two"] (sp_put_beside K) := by
  refine T.d_put_beside.F.ok sc_put_beside (fun vs H Q E h => ?_) (fun cdv A outer s H vs Q E hr h => ?_)
  · obtain ⟨_, _, _, _, rfl, _⟩ := h
    rfl
  obtain ⟨a, b, r1, r2, rfl, ha, hb, ho, q⟩ := h
  have hz : r1.length + r2.length ≤ 1000000 := by have := ho.1; rw [List.length_append] at this; omega
  refine ⟨_, (pss_cons (ps_expr (pe_call (ok_sure_rack T) (hr.mono (by omega)) (by rfl) T.d_sure_rack.m T.d_sure_rack.F.kp T.d_sure_rack.b .nil pass0 (pa_cons (pv 0) pa_nil)))
    (pss_cons (ps_expr (pe_call (ok_sure_rack T) (hr.mono (by omega)) (by rfl) T.d_sure_rack.m T.d_sure_rack.F.kp T.d_sure_rack.b .nil pass0 (pa_cons (pv 1) pa_nil)))
    (pss_cons (ps_expr (pe_call (ok_sure_small T) (hr.mono (by omega)) (by rfl) T.d_sure_small.m T.d_sure_small.F.kp T.d_sure_small.b .nil pass0 (pa_cons (pe_op op_catN (pv 0) (pv 1)) pa_nil)))
    (pss_one (ps_ret (pe_op op_catN (pv 0) (pv 1))))))), ?_⟩
  refine ⟨_, rfl, a, r1, rfl, ha, ho.l, fun H1 s1 => ?_⟩
  refine ⟨_, rfl, b, r2, rfl, hb.tk (same_tk s1), ho.r, fun H2 s2 => ?_⟩
  have s02 := s1.trans s2
  refine ⟨_, rfl, _, rfl, r1, r2, ha.tk (same_tk s02), hb.tk (same_tk s02), hz, fun v H3 s3 hv => ?_⟩
  refine ⟨v, _, rfl, hv, ho, fun H4 s4 => ?_⟩
  have s04 := s02.trans (s3.trans s4)
  exact ⟨_, rfl, _, rfl, r1, r2, ha.tk (same_tk s04), hb.tk (same_tk s04), hz, fun v H5 s5 hv => q v H5 (s04.trans s5) hv⟩

def sp_put_left (C : Addr) (K : PySem.W.Frag) : Sp := fun vs H Q _ => ∃ (x l : Addr) (ks : List Nat) (a b t : V) (r1 r2 : List Nat) (y : Thg), vs = [.ref x, a, b, t] ∧ KindAt K C H x l ks ∧ NumsV K H a r1 ∧ NumsV K H b r2 ∧ RackOk (r1 ++ r2) ∧ ThV K H t y ∧ IsThg ks r1 y ∧ y.2.length ≤ 1000 ∧
  ∀ v H', Same H H' → ThV K H' v y → Q v H'
theorem sc_put_left : FnScope ["kind", "one", "two", "thing"] ["kind", "one", "two", "thing"] (defScope s_put_left) := ⟨rfl, rfl, rfl, by decide +kernel, rfl, by decide +kernel, by decide +kernel⟩
theorem ok_put_left (T : Tp w K mg) : FnOk P w K mg base CX0 9 T.d_put_left.f T.d_put_left.fd ["kind", "one", "two", "thing"] (sp_put_left T.C_Kind K) := by
  refine T.d_put_left.F.ok sc_put_left (fun vs H Q E h => ?_) (fun cdv A outer s H vs Q E hr h => ?_)
  · obtain ⟨_, _, _, _, _, _, _, _, _, rfl, _⟩ := h
    rfl
  obtain ⟨x, kl, ks, a, b, t, r1, r2, y, rfl, hk, ha, hb, ho, ht, hy, hl, q⟩ := h
  refine ⟨_, (pss_cons (ps_expr (pe_call (ok_put_beside T) (hr.mono (by omega)) (by rfl) T.d_put_beside.m T.d_put_beside.F.kp T.d_put_beside.b .nil pass0 (pa_cons (pv 1) (pa_cons (pv 2) pa_nil))))
    (pss_cons (ps_expr (pe_call (ok_sure_thing T) (hr.mono (by omega)) (by rfl) T.d_sure_thing.m T.d_sure_thing.F.kp T.d_sure_thing.b .nil pass0 (pa_cons (pv 0) (pa_cons (pv 1) (pa_cons (pv 3) pa_nil)))))
    (pss_one (ps_ret (pv 3))))), ?_⟩
  refine ⟨_, rfl, _, rfl, a, b, r1, r2, rfl, ha, hb, ho, fun v H1 s1 _ => ?_⟩
  refine ⟨_, rfl, _, rfl, _, rfl, x, kl, ks, _, _, r1, y, rfl, hk.same s1, ha.tk (same_tk s1), ho.l, ht.tk (same_tk s1), hy, hl, fun H2 s2 => ?_⟩
  exact ⟨_, rfl, q _ _ (s1.trans s2) (ht.tk (same_tk (s1.trans s2)))⟩

def sp_put_right (C : Addr) (K : PySem.W.Frag) : Sp := fun vs H Q _ => ∃ (x l : Addr) (ks : List Nat) (a b t : V) (r1 r2 : List Nat) (y : Thg), vs = [.ref x, a, b, t] ∧ KindAt K C H x l ks ∧ NumsV K H a r1 ∧ NumsV K H b r2 ∧ RackOk (r1 ++ r2) ∧ ThV K H t y ∧ IsThg ks r2 y ∧ y.2.length ≤ 1000 ∧
  ∀ v H', Same H H' → ThV K H' v (r1.length + y.1, y.2) → Q v H'
theorem sc_put_right : FnScope ["kind", "one", "two", "thing", "place", "row"] ["kind", "one", "two", "thing"] (defScope s_put_right) := ⟨rfl, rfl, rfl, by decide +kernel, rfl, by decide +kernel, by decide +kernel⟩
theorem ok_put_right (T : Tp w K mg) : FnOk P w K mg base CX0 9 T.d_put_right.f T.d_put_right.fd ["kind", "one", "two", "thing"] (sp_put_right T.C_Kind K) := by
  refine T.d_put_right.F.ok sc_put_right (fun vs H Q E h => ?_) (fun cdv A outer s H vs Q E hr h => ?_)
  · obtain ⟨_, _, _, _, _, _, _, _, _, rfl, _⟩ := h
    rfl
  obtain ⟨x, kl, ks, a, b, t, r1, r2, y, rfl, hk, ha, hb, ho, ht, hy, hl, q⟩ := h
  refine ⟨_, (pss_cons (ps_expr (pe_call (ok_put_beside T) (hr.mono (by omega)) (by rfl) T.d_put_beside.m T.d_put_beside.F.kp T.d_put_beside.b .nil pass0 (pa_cons (pv 1) (pa_cons (pv 2) pa_nil))))
    (pss_cons (ps_expr (pe_call (ok_sure_thing T) (hr.mono (by omega)) (by rfl) T.d_sure_thing.m T.d_sure_thing.F.kp T.d_sure_thing.b .nil pass0 (pa_cons (pv 0) (pa_cons (pv 2) (pa_cons (pv 3) pa_nil)))))
    (pss_cons (ps_asg (pv 3) (pg_tup (by rfl) (pgs_cons (pg_name (i := 4) sc_put_right.nd rfl (Or.inl rfl)) (pgs_cons (pg_name (i := 5) sc_put_right.nd rfl (Or.inl rfl)) pgs_nil))))
    (pss_one (ps_ret (pe_tup (pa_cons (pe_op op_addN (pe_callB call_lenN (by rfl) T.n_len PySem.boot_len (pa_cons (pv 1) pa_nil)) (pv 4)) (pa_cons (pv 5) pa_nil)))))))), ?_⟩
  refine ⟨_, rfl, _, rfl, a, b, r1, r2, rfl, ha, hb, ho, fun v H1 s1 _ => ?_⟩
  refine ⟨_, rfl, _, rfl, _, rfl, x, kl, ks, _, _, r2, y, rfl, hk.same s1, hb.tk (same_tk s1), ho.r, ht.tk (same_tk s1), hy, hl, fun H2 s2 => ?_⟩
  obtain ⟨p, rfl, c, hp, hc⟩ := ht.tk (same_tk (s1.trans s2))
  refine ⟨_, rfl, p, _, rfl, hp, rfl, _, _, rfl, _, _, rfl, rfl, ?_⟩
  refine ⟨_, rfl, _, r1, rfl, ha.tk (same_tk (s1.trans s2)), _, rfl, r1.length, y.1, rfl, rfl, _, rfl, (by show 2 ≤ sizeLine; decide), fun u hu => ?_⟩
  exact q _ _ ((s1.trans s2).trans (same_new hu _)) ⟨u, rfl, c, SqT.of upd_same, same_tk (same_new hu _) _ _ hc⟩

def sp_side_of (C : Addr) (K : PySem.W.Frag) : Sp := fun vs H Q _ => ∃ (x l : Addr) (ks : List Nat) (a b t : V) (r1 r2 : List Nat) (y : Thg), vs = [.ref x, a, b, t] ∧ KindAt K C H x l ks ∧ NumsV K H a r1 ∧ NumsV K H b r2 ∧ RackOk (r1 ++ r2) ∧ ThV K H t y ∧ IsThg ks (r1 ++ r2) y ∧ y.2.length ≤ 1000 ∧
  (y.1 < r1.length → ∀ p H', Same H H' → SqT K H' p [.str "left", t] → Q (.ref p) H') ∧ (¬ y.1 < r1.length → ∀ p u H', Same H H' → SqT K H' p [.str "right", u] → ThV K H' u (y.1 - r1.length, y.2) → Q (.ref p) H')
theorem sc_side_of : FnScope ["kind", "one", "two", "thing", "place", "row"] ["kind", "one", "two", "thing"] (defScope s_side_of) := ⟨rfl, rfl, rfl, by decide +kernel, rfl, by decide +kernel, by decide +kernel⟩
theorem ok_side_of (T : Tp w K mg) : FnOk P w K mg base CX0 9 T.d_side_of.f T.d_side_of.fd ["kind", "one", "two", "thing"] (sp_side_of T.C_Kind K) := by
  refine T.d_side_of.F.ok sc_side_of (fun vs H Q E h => ?_) (fun cdv A outer s H vs Q E hr h => ?_)
  · obtain ⟨_, _, _, _, _, _, _, _, _, rfl, _⟩ := h
    rfl
  obtain ⟨x, kl, ks, a, b, t, r1, r2, y, rfl, hk, ha, hb, ho, ht, hy, hl, q1, q2⟩ := h
  refine ⟨_, (pss_cons (ps_expr (pe_call (ok_sure_thing T) (hr.mono (by omega)) (by rfl) T.d_sure_thing.m T.d_sure_thing.F.kp T.d_sure_thing.b .nil pass0 (pa_cons (pv 0) (pa_cons (pe_call (ok_put_beside T) (hr.mono (by omega)) (by rfl) T.d_put_beside.m T.d_put_beside.F.kp T.d_put_beside.b .nil pass0 (pa_cons (pv 1) (pa_cons (pv 2) pa_nil))) (pa_cons (pv 3) pa_nil)))))
    (pss_cons (ps_asg (pv 3) (pg_tup (by rfl) (pgs_cons (pg_name (i := 4) sc_side_of.nd rfl (Or.inl rfl)) (pgs_cons (pg_name (i := 5) sc_side_of.nd rfl (Or.inl rfl)) pgs_nil))))
    (pss_cons (ps_if (pt_cmpR op_ltN (pv 4) (pe_callB call_lenN (by rfl) T.n_len PySem.boot_len (pa_cons (pv 1) pa_nil)) (nomark _)) (pss_one (ps_ret (pe_tup (pa_cons pe_str (pa_cons (pv 3) pa_nil))))) pss_nil)
    (pss_one (ps_ret (pe_tup (pa_cons pe_str (pa_cons (pe_tup (pa_cons (pe_op op_subN (pv 4) (pe_callB call_lenN (by rfl) T.n_len PySem.boot_len (pa_cons (pv 1) pa_nil))) (pa_cons (pv 5) pa_nil))) pa_nil)))))))), ?_⟩
  refine ⟨_, rfl, _, rfl, _, rfl, a, b, r1, r2, rfl, ha, hb, ho, fun v H1 s1 hv => ?_⟩
  refine ⟨_, rfl, x, kl, ks, _, _, r1 ++ r2, y, rfl, hk.same s1, hv, ho, ht.tk (same_tk s1), hy, hl, fun H2 s2 => ?_⟩
  have s02 := s1.trans s2
  obtain ⟨p, rfl, c, hp, hc⟩ := ht.tk (same_tk s02)
  refine ⟨_, rfl, p, _, rfl, hp, rfl, _, _, rfl, _, _, rfl, rfl, ?_⟩
  refine ⟨_, rfl, _, rfl, _, r1, rfl, ha.tk (same_tk s02), y.1, r1.length, rfl, rfl, _, rfl, ?_⟩
  refine ite2 (fun cc => ?_) (fun cc => ?_)
  · have c' : y.1 < r1.length := of_decide_eq_true cc
    exact ⟨_, rfl, (by show 2 ≤ sizeLine; decide), fun u hu => q1 c' _ _ (s02.trans (same_new hu _)) (SqT.of upd_same)⟩
  · have c' : ¬ y.1 < r1.length := of_decide_eq_false (Bool.eq_false_iff.mpr cc)
    refine ⟨_, rfl, _, rfl, _, r1, rfl, ha.tk (same_tk s02), y.1, r1.length, rfl, rfl, by omega, _, rfl, (by show 2 ≤ sizeLine; decide), fun u hu => ⟨(by show 2 ≤ sizeLine; decide), fun u2 hu2 => ?_⟩⟩
    have s3 : Same H2 (upd H2 u (.tup [vi (y.1 - r1.length), .ref c])) := same_new hu _
    have s4 := s3.trans (same_new hu2 (.tup [.str "right", .ref u]))
    exact q2 c' _ _ _ (s02.trans s4) (SqT.of upd_same) ⟨u, rfl, c, same_tk (same_new hu2 _) _ _ (SqT.of upd_same), same_tk s4 _ _ hc⟩
end
end Bs
/-! The walk: products of racks. -/
namespace Bs
open PySem PySem.Spec L2
theorem times_take {r1 r2 : List Nat} {i f : Nat} (h : r1[i]? = some f) : times (r1.take (i + 1)) r2 = times (r1.take i) r2 ++ r2.map (fun g => f + g) := by
  unfold times
  rw [List.take_succ, h, List.flatMap_append]
  simp
theorem times_sz (r1 r2 : List Nat) : (times r1 r2).length = r1.length * r2.length := times_len r1 r2
theorem nums_get {ns : List Nat} {i : Nat} {y : V} (h : (ns.map vi)[i]? = some y) : ∃ f, ns[i]? = some f ∧ y = vi f := by
  rw [List.getElem?_map] at h
  cases e : ns[i]? with
  | none => rw [e] at h; cases h
  | some f => rw [e] at h; exact ⟨f, rfl, (Option.some.inj h).symm⟩
theorem sum_lens (ts : List (List Nat)) : (ts.map fun t => (t.length : Int)).sum = (ts.flatten.length : Int) := by
  induction ts with
  | nil => rfl
  | cons t ts ih =>
    rw [List.map_cons, List.sum_cons, ih, List.flatten_cons, List.length_append]
    omega
section
variable {P : Program} {w : World} {K : PySem.W.Frag} {mg : Str → Option Value} {base : Heap}

def sp_put_times (K : PySem.W.Frag) : Sp := fun vs H Q _ => ∃ (a b : V) (r1 r2 : List Nat), vs = [a, b] ∧ NumsV K H a r1 ∧ NumsV K H b r2 ∧ RackOk r1 ∧ RackOk r2 ∧ RackOk (times r1 r2) ∧ ∀ v H', Same H H' → NumsV K H' v (times r1 r2) → Q v H'
theorem sc_put_times : FnScope ["one", "two", "found", "form", "other"] ["one", "two"] (defScope s_put_times) := ⟨rfl, rfl, rfl, by decide +kernel, rfl, by decide +kernel, by decide +kernel⟩
theorem ok_put_times (T : Tp w K mg) : FnOk P w K mg base CX0 4 T.d_put_times.f T.d_put_times.fd ["one", "two"] (sp_put_times K) := by
  refine T.d_put_times.F.ok sc_put_times (fun vs H Q E h => ?_) (fun cdv A outer s H vs Q E hr h => ?_)
  · obtain ⟨_, _, _, _, rfl, _⟩ := h
    rfl
  obtain ⟨a, b, r1, r2, rfl, ha, hb, o1, o2, o3, q⟩ := h
  have hz := o3.1
  rw [times_sz] at hz
  obtain ⟨aa, rfl, ha'⟩ := id ha
  obtain ⟨bb, rfl, hb'⟩ := id hb
  refine ⟨_, (pss_cons (ps_expr (pe_call (ok_sure_rack T) (hr.mono (by omega)) (by rfl) T.d_sure_rack.m T.d_sure_rack.F.kp T.d_sure_rack.b .nil pass0 (pa_cons (pv 0) pa_nil)))
    (pss_cons (ps_expr (pe_call (ok_sure_rack T) (hr.mono (by omega)) (by rfl) T.d_sure_rack.m T.d_sure_rack.F.kp T.d_sure_rack.b .nil pass0 (pa_cons (pv 1) pa_nil)))
    (pss_cons (ps_if (pt_cmpR op_gtN (pe_op op_mulN (pe_callB call_lenN (by rfl) T.n_len PySem.boot_len (pa_cons (pv 0) pa_nil)) (pe_callB call_lenN (by rfl) T.n_len PySem.boot_len (pa_cons (pv 1) pa_nil))) (pe_cst (by rfl) T.c_MOST_FORMS) (nomark _)) (pss_one ps_never) pss_nil)
    (pss_cons (ps_set (i := 2) sc_put_times.nd rfl (Or.inl rfl) (pe_lst pa_nil))
    (pss_cons (ps_for PassesOwn.never rfl (pi_tup (pv 0)) (pg_name (i := 3) sc_put_times.nd rfl (Or.inr rfl))
    (pss_one (ps_expr (pe_bm PySem.F.plainAttrs_list PySem.F.slot_list_extend PySem.F.type_list_extend mt_extend (pv 2) (pa_cons (pe_lc (own := [("other", 4)]) rfl sc_put_times.nd (pi_tup (pv 1)) (blkOk_by (N := ["one", "two", "found", "form", "other"]) (sc := defScope s_put_times) (own := [("other", 4)]) (by decide +kernel)) (fun _ _ _ _ _ => (pg_name (i := 4) sc_put_times.nd rfl (Or.inl rfl))) (fun _ _ _ _ _ => pts_nil) (fun _ _ _ _ _ => (pe_op op_addN (pv 3) (pv 4)))) pa_nil)))))
    (pss_cons (ps_expr (pe_call (ok_sure_small T) (hr.mono (by omega)) (by rfl) T.d_sure_small.m T.d_sure_small.F.kp T.d_sure_small.b .nil pass0 (pa_cons (pe_callTy call_tuple_of (by rfl) T.n_tuple (by decide +kernel) (pa_cons (pv 2) pa_nil)) pa_nil)))
    (pss_one (ps_ret (pe_callTy call_tuple_of (by rfl) T.n_tuple (by decide +kernel) (pa_cons (pv 2) pa_nil)))))))))), ?_⟩
  refine ⟨_, rfl, _, r1, rfl, ha, o1, fun H1 s1 => ?_⟩
  refine ⟨_, rfl, _, r2, rfl, hb.tk (same_tk s1), o2, fun H2 s2 => ?_⟩
  have s02 := s1.trans s2
  refine ⟨_, rfl, _, r1, rfl, ha.tk (same_tk s02), _, rfl, _, r2, rfl, hb.tk (same_tk s02), r1.length, r2.length, rfl, rfl, by have := o1.1; omega, r1.length * r2.length, 4000, rfl, rfl, _, rfl, ?_⟩
  rw [decide_eq_false (by omega : ¬ 4000 < r1.length * r2.length)]
  refine iteF ⟨Nat.zero_le _, fun l hl => ?_⟩
  have s03 := s02.trans (same_new hl (.lst []))
  refine ⟨_, rfl, aa, rfl, ⟨_, same_tk s03 _ _ ha'⟩, for_it walk_tup (fun i σ H' => ∃ (u1 u2 : Option V), σ = [some (.ref aa), some (.ref bb), some (.ref l), u1, u2] ∧ Same H2 H' ∧ H' l = some (.lst ((times (r1.take i) r2).map vi)))
    ⟨none, none, rfl, same_new hl _, upd_same⟩ (fun i σ H' _ ⟨_, _, _, e, _⟩ => same_tk (s02.trans e) _ _ ha') ?_ ?_⟩
  · rintro i y σ H3 H3' hi ⟨u1, u2, rfl, s3, hL⟩ ⟨rfl, hy⟩
    obtain ⟨f, hf, rfl⟩ := nums_get hy
    have hb3 := same_tk (s02.trans s3) _ _ hb'
    refine ⟨_, rfl, .inl ⟨rfl, _, SqL.of hL⟩, _, rfl, bb, rfl, ⟨_, hb3⟩, fun D hD => ?_⟩
    refine lc_pure K r2 (fun g => vi (f + g)) (by rw [← List.length_map (f := vi) (as := r2)]; exact walk_tup) (by have := o2.1; omega) hD (fun H' e => same_tk e _ _ hb3) ?_ ?_
    · rintro j g y H4 H4' hg s4 ⟨rfl, hy⟩ N hN
      rw [List.getElem?_map, hg] at hy
      cases hy
      exact ⟨rfl, _, rfl, _, rfl, f, g, rfl, rfl, hN _ (Same.refl _)⟩
    · intro H4 g1 g2
      have hL4 := g2 _ _ hL
      have e1 : r2.map (fun g => vi (f + g)) = (r2.map fun g => f + g).map vi := by rw [List.map_map]; rfl
      refine ⟨l, D, _, _, rfl, rfl, hL4, g1, ?_, ?_⟩
      · refine sz ?_
        rw [List.length_map, times_sz, List.length_map, List.length_take]
        have hq : min i r1.length * r2.length ≤ r1.length * r2.length := Nat.mul_le_mul_right _ (Nat.min_le_right _ _)
        have := o2.1
        omega
      · refine ⟨_, _, rfl, fun c o e => ?_, ?_⟩
        · rw [upd_ne (ne_of_none e hl)]
          exact g2 _ _ (s3 _ _ e)
        · rw [upd_same, times_take hf, List.map_append, e1]
  · rintro σ H3 ⟨u1, u2, rfl, s3, hL⟩
    have e0 : (r1.map vi).length = r1.length := List.length_map _
    rw [e0, List.take_length] at hL
    refine ⟨_, rfl, l, _, rfl, .inl ⟨SqL.of hL, fun t ht => ?_⟩⟩
    refine ⟨_, _, rfl, NumsV.new, o3, fun H4 s4 => ?_⟩
    have hL4 := s4 _ _ (same_new ht _ _ _ hL)
    refine ⟨_, rfl, l, _, rfl, .inl ⟨SqL.of hL4, fun t2 ht2 => ?_⟩⟩
    exact q _ _ (s02.trans (s3.trans ((same_new ht _).trans (s4.trans (same_new ht2 _))))) NumsV.new

def sp_paired (C : Addr) (K : PySem.W.Frag) : Sp := fun vs H Q _ => ∃ (x l : Addr) (ks : List Nat) (a b t u : V) (r1 r2 : List Nat) (y z : Thg), vs = [.ref x, a, b, t, u] ∧ KindAt K C H x l ks ∧ NumsV K H a r1 ∧ NumsV K H b r2 ∧ RackOk r1 ∧ RackOk r2 ∧ RackOk (times r1 r2) ∧
  ThV K H t y ∧ ThV K H u z ∧ IsThg ks r1 y ∧ IsThg ks r2 z ∧ y.2.length + z.2.length ≤ 1000 ∧ ∀ v H', Same H H' → ThV K H' v (y.1 * r2.length + z.1, y.2 ++ z.2) → Q v H'
theorem sc_paired : FnScope ["kind", "one", "two", "thing", "other"] ["kind", "one", "two", "thing", "other"] (defScope s_paired) := ⟨rfl, rfl, rfl, by decide +kernel, rfl, by decide +kernel, by decide +kernel⟩
theorem ok_paired (T : Tp w K mg) : FnOk P w K mg base CX0 9 T.d_paired.f T.d_paired.fd ["kind", "one", "two", "thing", "other"] (sp_paired T.C_Kind K) := by
  refine T.d_paired.F.ok sc_paired (fun vs H Q E h => ?_) (fun cdv A outer s H vs Q E hr h => ?_)
  · obtain ⟨_, _, _, _, _, _, _, _, _, _, _, rfl, _⟩ := h
    rfl
  obtain ⟨x, kl, ks, a, b, t, u, r1, r2, y, z, rfl, hk, ha, hb, o1, o2, o3, ht, hu, hy, hz, hl, q⟩ := h
  have hy1 := hy.lt
  refine ⟨_, (pss_cons (ps_expr (pe_call (ok_put_times T) (hr.mono (by omega)) (by rfl) T.d_put_times.m T.d_put_times.F.kp T.d_put_times.b .nil pass0 (pa_cons (pv 1) (pa_cons (pv 2) pa_nil))))
    (pss_cons (ps_expr (pe_call (ok_sure_thing T) (hr.mono (by omega)) (by rfl) T.d_sure_thing.m T.d_sure_thing.F.kp T.d_sure_thing.b .nil pass0 (pa_cons (pv 0) (pa_cons (pv 1) (pa_cons (pv 3) pa_nil)))))
    (pss_cons (ps_expr (pe_call (ok_sure_thing T) (hr.mono (by omega)) (by rfl) T.d_sure_thing.m T.d_sure_thing.F.kp T.d_sure_thing.b .nil pass0 (pa_cons (pv 0) (pa_cons (pv 2) (pa_cons (pv 4) pa_nil)))))
    (pss_one (ps_ret (pe_tup (pa_cons (pe_op op_addN (pe_op op_mulN (pe_ix ix_tupN (pv 3) pe_int (fun _ _ => rfl)) (pe_callB call_lenN (by rfl) T.n_len PySem.boot_len (pa_cons (pv 2) pa_nil))) (pe_ix ix_tupN (pv 4) pe_int (fun _ _ => rfl))) (pa_cons (pe_op op_catN (pe_ix ix_tupN (pv 3) pe_int (fun _ _ => rfl)) (pe_ix ix_tupN (pv 4) pe_int (fun _ _ => rfl))) pa_nil)))))))), ?_⟩
  refine ⟨_, rfl, _, rfl, a, b, r1, r2, rfl, ha, hb, o1, o2, o3, fun v H1 s1 _ => ?_⟩
  refine ⟨_, rfl, _, rfl, _, rfl, x, kl, ks, _, _, r1, y, rfl, hk.same s1, ha.tk (same_tk s1), o1, ht.tk (same_tk s1), hy, by omega, fun H2 s2 => ?_⟩
  have s02 := s1.trans s2
  refine ⟨_, rfl, _, rfl, _, rfl, x, kl, ks, _, _, r2, z, rfl, hk.same s02, hb.tk (same_tk s02), o2, hu.tk (same_tk s02), hz, by omega, fun H3 s3 => ?_⟩
  have s03 := s02.trans s3
  obtain ⟨p, rfl, c, hp, hc⟩ := ht.tk (same_tk s03)
  obtain ⟨p2, rfl, c2, hp2, hc2⟩ := hu.tk (same_tk s03)
  refine ⟨_, rfl, p, _, 0, _, rfl, rfl, hp, rfl, _, rfl, _, r2, rfl, hb.tk (same_tk s03), y.1, r2.length, rfl, rfl, by have := o1.1; omega, _, rfl, p2, _, 0, _, rfl, rfl, hp2, rfl, y.1 * r2.length, z.1, rfl, rfl, ?_⟩
  refine ⟨_, rfl, p, _, 1, _, rfl, rfl, hp, rfl, _, rfl, p2, _, 1, _, rfl, rfl, hp2, rfl, y.2, z.2, ⟨c, rfl, hc⟩, ⟨c2, rfl, hc2⟩, by omega, fun v4 H4 s4 h4 => ?_⟩
  obtain ⟨c4, rfl, h4⟩ := h4
  refine ⟨(by show 2 ≤ sizeLine; decide), fun d hd => ?_⟩
  exact q _ _ (s03.trans (s4.trans (same_new hd _))) ⟨d, rfl, c4, SqT.of upd_same, same_tk (same_new hd _) _ _ h4⟩

def sp_unpaired (C : Addr) (K : PySem.W.Frag) : Sp := fun vs H Q _ => ∃ (x l : Addr) (ks : List Nat) (a b t : V) (r1 r2 : List Nat) (y z : Thg), vs = [.ref x, a, b, t] ∧ KindAt K C H x l ks ∧ NumsV K H a r1 ∧ NumsV K H b r2 ∧ RackOk r1 ∧ RackOk r2 ∧ RackOk (times r1 r2) ∧
  ThV K H t (y.1 * r2.length + z.1, y.2 ++ z.2) ∧ IsThg ks r1 y ∧ IsThg ks r2 z ∧ y.2.length + z.2.length ≤ 1000 ∧ ∀ p u v H', Same H H' → SqT K H' p [u, v] → ThV K H' u y → ThV K H' v z → Q (.ref p) H'
theorem sc_unpaired : FnScope ["kind", "one", "two", "thing", "first", "second", "row", "tree", "many"] ["kind", "one", "two", "thing"] (defScope s_unpaired) := ⟨rfl, rfl, rfl, by decide +kernel, rfl, by decide +kernel, by decide +kernel⟩
theorem ok_unpaired (T : Tp w K mg) : FnOk P w K mg base CX0 9 T.d_unpaired.f T.d_unpaired.fd ["kind", "one", "two", "thing"] (sp_unpaired T.C_Kind K) := by
  refine T.d_unpaired.F.ok sc_unpaired (fun vs H Q E h => ?_) (fun cdv A outer s H vs Q E hr h => ?_)
  · obtain ⟨_, _, _, _, _, _, _, _, _, _, rfl, _⟩ := h
    rfl
  obtain ⟨x, kl, ks, a, b, t, r1, r2, y, z, rfl, hk, ha, hb, o1, o2, o3, ht, hy, hz, hl, q⟩ := h
  have hy1 := hy.lt
  have hz1 := hz.lt
  obtain ⟨ny, eny, hry⟩ := id hy
  obtain ⟨nz, enz, hrz⟩ := id hz
  have ery : r1.getD y.1 0 = ny := by rw [List.getD_eq_getElem?_getD, eny]; rfl
  have hth : IsThg ks (times r1 r2) (y.1 * r2.length + z.1, y.2 ++ z.2) := ⟨ny + nz, times_at r1 r2 y.1 z.1 ny nz eny enz, hry.app hrz⟩
  have hlen : (y.2 ++ z.2).length ≤ 1000 := by rw [List.length_append]; omega
  refine ⟨_, (pss_cons (ps_expr (pe_call (ok_sure_thing T) (hr.mono (by omega)) (by rfl) T.d_sure_thing.m T.d_sure_thing.F.kp T.d_sure_thing.b .nil pass0 (pa_cons (pv 0) (pa_cons (pe_call (ok_put_times T) (hr.mono (by omega)) (by rfl) T.d_put_times.m T.d_put_times.F.kp T.d_put_times.b .nil pass0 (pa_cons (pv 1) (pa_cons (pv 2) pa_nil))) (pa_cons (pv 3) pa_nil)))))
    (pss_cons (ps_asg (pe_callB call_divmod (by rfl) T.n_divmod (by decide +kernel) (pa_cons (pe_ix ix_tupN (pv 3) pe_int (fun _ _ => rfl)) (pa_cons (pe_callB call_lenN (by rfl) T.n_len PySem.boot_len (pa_cons (pv 2) pa_nil)) pa_nil))) (pg_tup (by rfl) (pgs_cons (pg_name (i := 4) sc_unpaired.nd rfl (Or.inl rfl)) (pgs_cons (pg_name (i := 5) sc_unpaired.nd rfl (Or.inl rfl)) pgs_nil))))
    (pss_cons (ps_set (i := 6) sc_unpaired.nd rfl (Or.inl rfl) (pe_ix ix_tupN (pv 3) pe_int (fun _ _ => rfl)))
    (pss_cons (ps_set (i := 8) sc_unpaired.nd rfl (Or.inl rfl) (pe_callB (cr_sum rfl) (by rfl) T.n_sum (by decide +kernel) (pa_cons (pe_lc (own := [("tree", 7)]) rfl sc_unpaired.nd (pi_list (pe_slice sl_listN (pe_call (ok_trees_in T) (hr.mono (by omega)) (by rfl) T.d_trees_in.m T.d_trees_in.F.kp T.d_trees_in.b .nil pass0 (pa_cons (pv 0) (pa_cons (pv 6) pa_nil))) po_none (po_some (pe_ix ix_nums (pv 1) (pv 4) (fun _ _ => rfl))))) (blkOk_by (N := ["kind", "one", "two", "thing", "first", "second", "row", "tree", "many"]) (sc := defScope s_unpaired) (own := [("tree", 7)]) (by decide +kernel)) (fun _ _ _ _ _ => (pg_name (i := 7) sc_unpaired.nd rfl (Or.inl rfl))) (fun _ _ _ _ _ => pts_nil) (fun _ _ _ _ _ => (pe_callB (call_lenNK (K := K) rfl) (by rfl) T.n_len PySem.boot_len (pa_cons (pv 7) pa_nil)))) pa_nil)))
    (pss_one (ps_ret (pe_tup (pa_cons (pe_tup (pa_cons (pv 4) (pa_cons (pe_slice sl_nums (pv 6) po_none (po_some (pv 8))) pa_nil))) (pa_cons (pe_tup (pa_cons (pv 5) (pa_cons (pe_slice sl_nums (pv 6) (po_some (pv 8)) po_none) pa_nil))) pa_nil))))))))), ?_⟩
  refine ⟨_, rfl, _, rfl, _, rfl, a, b, r1, r2, rfl, ha, hb, o1, o2, o3, fun v H1 s1 hv => ?_⟩
  refine ⟨_, rfl, x, kl, ks, _, _, times r1 r2, _, rfl, hk.same s1, hv, o3, ht.tk (same_tk s1), hth, hlen, fun H2 s2 => ?_⟩
  have s02 := s1.trans s2
  obtain ⟨p, rfl, c, hp, hc⟩ := ht.tk (same_tk s02)
  refine ⟨_, rfl, p, _, 0, _, rfl, rfl, hp, rfl, _, rfl, _, r2, rfl, hb.tk (same_tk s02), _, _, rfl, ⟨by omega, by have := o2.1; omega⟩, fun d hd => ?_⟩
  have ed : ((y.1 * r2.length + z.1 : Nat) : Int) / (r2.length : Int) = ((y.1 : Nat) : Int) := by
    rw [← Int.natCast_ediv, Nat.mul_comm, Nat.mul_add_div (by omega), Nat.div_eq_of_lt hz1, Nat.add_zero]
  have em : ((y.1 * r2.length + z.1 : Nat) : Int) % (r2.length : Int) = ((z.1 : Nat) : Int) := by
    rw [← Int.natCast_emod, Nat.mul_comm, Nat.mul_add_mod, Nat.mod_eq_of_lt hz1]
  refine ⟨d, _, rfl, SqT.of upd_same, rfl, _, _, rfl, _, _, rfl, rfl, ?_⟩
  have s3 := same_new hd (.tup [.int (((y.1 * r2.length + z.1 : Nat) : Int) / (r2.length : Int)), .int (((y.1 * r2.length + z.1 : Nat) : Int) % (r2.length : Int))])
  have s03 := s02.trans s3
  have hp3 := same_tk (K := K) s3 _ _ hp
  refine ⟨_, rfl, p, _, 1, _, rfl, rfl, hp3, rfl, ?_⟩
  refine ⟨_, rfl, _, rfl, x, kl, ks, _, y.2 ++ z.2, ny + nz, rfl, hk.same s03, ⟨c, rfl, hc.tk (same_tk s3)⟩, hry.app hrz, hlen, fun L ys ts H4 s4 h1 h2 h3 h4 h5 => ?_⟩
  have s04 := s03.trans s4
  refine ⟨_, rfl, _, rfl, r1, y.1, ha.tk (same_tk s04), congrArg V.int ed, hy1, _, rfl, L, ys, 0, ny, rfl, SqL.of h1, rfl, ?_, Nat.zero_le _, by rw [h2.len, h3]; omega, fun L2 hL2 => ?_⟩
  · rw [ery]; rfl
  have s5 := same_new hL2 (.lst ((ys.drop 0).take (ny - 0)))
  refine ⟨_, rfl, ⟨_, SqL.of upd_same⟩, fun D hD => ?_⟩
  have hF : Fits (NumsV K (upd H4 L2 (.lst ((ys.drop 0).take (ny - 0))))) ((ys.drop 0).take (ny - 0)) (ts.take ny) := by
    rw [List.drop_zero, Nat.sub_zero]
    exact (h2.imp fun v b _ k => k.tk (same_tk s5)).take ny
  refine lc_pure K (ts.take ny) (fun t => vi t.length) (by rw [← hF.len]; exact walk_list) (by rw [List.length_take]; have := (hry.app hrz).pos; rw [List.length_append] at this; omega) hD (fun H' e => SqL.of (e _ _ upd_same)) ?_ ?_
  · rintro i tr w1 H5 H5' hi s6 ⟨rfl, hw⟩ N hN
    obtain ⟨tr', e1, hn⟩ := hF.at_ hw
    rw [hi] at e1
    cases e1
    exact ⟨rfl, _, rfl, _, tr, rfl, hn.tk (same_tk s6), hN _ (Same.refl _)⟩
  · intro H5 g1 g2
    have e6 : (ts.take ny).map (fun t => vi t.length) = ((ts.take ny).map fun t => (t.length : Int)).map V.int := by rw [List.map_map]; rfl
    refine ⟨D, (ts.take ny).map fun t => (t.length : Int), rfl, SqL.of (by rw [g1, e6]), ?_⟩
    have ets : (ts.take ny).flatten = y.2 ∧ (ts.drop ny).flatten = z.2 := by
      have k1 : Rows ks (ts.take ny).length (ts.take ny).flatten := Rows.flat fun t ht => h4 t (List.mem_of_mem_take ht)
      have k2 : (ts.take ny).length = ny := by rw [List.length_take]; omega
      rw [k2] at k1
      have k3 : (ts.take ny).flatten ++ (ts.drop ny).flatten = y.2 ++ z.2 := by rw [← List.flatten_append, List.take_append_drop, h5]
      exact k1.same hry k3
    have es : ((ts.take ny).map fun t => (t.length : Int)).sum = ((y.2.length : Nat) : Int) := by rw [sum_lens, ets.1]
    rw [es]
    have s05 := s04.trans (s5.trans g2)
    have s35 := s4.trans (s5.trans g2)
    have hc5 : NumsV K H5 (.ref c) (y.2 ++ z.2) := ⟨c, rfl, (hc.tk (same_tk s3)).tk (same_tk s35)⟩
    refine ⟨_, rfl, _, rfl, _, rfl, _, rfl, y.2 ++ z.2, 0, y.2.length, hc5, rfl, rfl, fun v6 H6 s6 h6 => ?_⟩
    have e7 : ((y.2 ++ z.2).drop 0).take (y.2.length - 0) = y.2 := by simp
    rw [e7] at h6
    obtain ⟨a6, rfl, h6⟩ := h6
    refine ⟨(by show 2 ≤ sizeLine; decide), fun d6 hd6 => ?_⟩
    have s7 := same_new hd6 (.tup [.int (((y.1 * r2.length + z.1 : Nat) : Int) / (r2.length : Int)), .ref a6])
    refine ⟨_, rfl, _, rfl, _, rfl, _, rfl, y.2 ++ z.2, y.2.length, (y.2 ++ z.2).length, hc5.tk (same_tk (s6.trans s7)), rfl, rfl, fun v8 H8 s8 h8 => ?_⟩
    have e9 : ((y.2 ++ z.2).drop y.2.length).take ((y.2 ++ z.2).length - y.2.length) = z.2 := by simp
    rw [e9] at h8
    obtain ⟨a8, rfl, h8⟩ := h8
    refine ⟨(by show 2 ≤ sizeLine; decide), fun d9 hd9 => ⟨(by show 2 ≤ sizeLine; decide), fun d10 hd10 => ?_⟩⟩
    have s9 := same_new hd9 (.tup [.int (((y.1 * r2.length + z.1 : Nat) : Int) % (r2.length : Int)), .ref a8])
    have s10 := same_new hd10 (.tup [.ref d6, .ref d9])
    refine q d10 (.ref d6) (.ref d9) _ (s05.trans (s6.trans (s7.trans (s8.trans (s9.trans s10))))) (SqT.of upd_same) ⟨d6, rfl, a6, ?_, ?_⟩ ⟨d9, rfl, a8, ?_, ?_⟩
    · have k := same_tk (K := K) (s8.trans (s9.trans s10)) d6 [.int (((y.1 * r2.length + z.1 : Nat) : Int) / (r2.length : Int)), .ref a6] (SqT.of upd_same)
      rw [ed] at k
      exact k
    · exact h6.tk (same_tk (s7.trans (s8.trans (s9.trans s10))))
    · have k := same_tk (K := K) s10 d9 [.int (((y.1 * r2.length + z.1 : Nat) : Int) % (r2.length : Int)), .ref a8] (SqT.of upd_same)
      have e : ([.int (((y.1 * r2.length + z.1 : Nat) : Int) % (r2.length : Int)), .ref a8] : List V) = [vi z.1, .ref a8] := by rw [em]
      exact Eq.mp (congrArg (fun q => SqT K _ d9 q) e) k
    · exact h8.tk (same_tk (s9.trans s10))
end
end Bs
/-! The walk: shapes. -/
namespace Bs
open PySem PySem.Spec L2
theorem rack_ok {s : Shp} (h : s.deep ≤ 4) : RackOk (rk s) := by
  obtain ⟨h1, h2⟩ := rk_small h
  exact ⟨by omega, fun f hf => by have := h2 f hf; omega⟩
section
variable {P : Program} {w : World} {K : PySem.W.Frag} {mg : Str → Option Value} {base : Heap}
theorem none_ok {f : Addr} {fd : FuncData} {ps : List Str} {sp : Sp} (h : ∀ vs H Q E, ¬ sp vs H Q E) (k : Nat) : FnOk P w K mg base CX0 k f fd ps sp :=
  ⟨fun vs H Q E q => absurd q (h vs H Q E), fun A outer s H args us vs Q E _ _ _ _ q => absurd q (h vs H Q E)⟩
theorem no_deep {s : Shp} (h : s.deep ≤ 0) : False := by have := deep_pos s; omega

def sp_is_within (K : PySem.W.Frag) (n : Nat) : Sp := fun vs H Q _ => ∃ (v : V) (d : Nat) (s : Shp), vs = [v, vi d] ∧ ShV K H s v ∧ s.deep ≤ n ∧ s.deep ≤ d ∧ Q (.bl true) H
theorem sc_is_within : FnScope ["thing", "deep"] ["thing", "deep"] (defScope s_is_within) := ⟨rfl, rfl, rfl, by decide +kernel, rfl, by decide +kernel, by decide +kernel⟩
theorem ok_is_within (T : Tp w K mg) : ∀ n, FnOk P w K mg base CX0 n T.d_is_within.f T.d_is_within.fd ["thing", "deep"] (sp_is_within K n)
  | 0 => none_ok (fun vs H Q E ⟨_, _, s, _, _, h, _⟩ => no_deep h) 0
  | n + 1 => by
    have ih := ok_is_within T n
    refine T.d_is_within.F.ok sc_is_within (fun vs H Q E h => ?_) (fun cdv A outer s H vs Q E hr h => ?_)
    · obtain ⟨_, _, _, rfl, _⟩ := h
      rfl
    obtain ⟨v, d, sh, rfl, hs, h1, h2, q⟩ := h
    have hd := deep_pos sh
    refine ⟨_, (pss_cons (ps_if (pt_cmpR op_eqN (pv 1) pe_int (nomark _)) (pss_one (ps_ret pe_bl)) pss_nil)
    (pss_cons (ps_if (pt_val (pe_callB call_isT (by rfl) T.n_isinstance (by decide +kernel) (pa_cons (pv 0) (pa_cons (pe_bltn (v := .ty "str") (by rfl) T.n_str (by decide +kernel) rfl) pa_nil)))) (pss_one (ps_ret (pe_cmpR (op_in_kd T.kd_PLAIN) (pv 0) (pe_cst (by rfl) T.c_PLAIN) (by with_unfolding_all rfl)))) pss_nil)
    (pss_cons (ps_if (PW.pt (pw_or (pt_not (pt_val (pe_callB call_isT (by rfl) T.n_isinstance (by decide +kernel) (pa_cons (pv 0) (pa_cons (pe_bltn (v := .ty "tuple") (by rfl) T.n_tuple (by decide +kernel) rfl) pa_nil))))) (pw_or (pt_cmpR op_neN (pe_callB call_lenT (by rfl) T.n_len PySem.boot_len (pa_cons (pv 0) pa_nil)) pe_int (nomark _)) (pw_or1 (pt_not (pt_val (pe_callB call_isT (by rfl) T.n_isinstance (by decide +kernel) (pa_cons (pe_ix ix_tupN (pv 0) pe_int (fun _ _ => rfl)) (pa_cons (pe_bltn (v := .ty "str") (by rfl) T.n_str (by decide +kernel) rfl) pa_nil))))))))) (pss_one (ps_ret pe_bl)) pss_nil)
    (pss_cons (ps_if (PW.pt (pw_and (pt_cmpR op_neS (pe_ix ix_tupN (pv 0) pe_int (fun _ _ => rfl)) pe_str (nomark _)) (pw_and1 (pt_cmpR op_neS (pe_ix ix_tupN (pv 0) pe_int (fun _ _ => rfl)) pe_str (nomark _))))) (pss_one (ps_ret pe_bl)) pss_nil)
    (pss_one (ps_ret (pe_and (pe_call ih (hr.mono (by omega)) (by rfl) T.d_is_within.m T.d_is_within.F.kp T.d_is_within.b .nil pass0 (pa_cons (pe_ix ix_tupN (pv 0) pe_int (fun _ _ => rfl)) (pa_cons (pe_op op_subN (pv 1) pe_int) pa_nil))) (pe_one (pe_call ih (hr.mono (by omega)) (by rfl) T.d_is_within.m T.d_is_within.F.kp T.d_is_within.b .nil pass0 (pa_cons (pe_ix ix_tupN (pv 0) pe_int (fun _ _ => rfl)) (pa_cons (pe_op op_subN (pv 1) pe_int) pa_nil))))))))))), ?_⟩
    refine ⟨_, rfl, d, 0, rfl, rfl, _, rfl, ?_⟩
    rw [decide_eq_false (by omega : ¬ d = 0)]
    refine iteF ?_
    rcases sh with _ | _ | _ | ⟨a, b⟩ | ⟨a, b⟩
    · cases hs
      obtain ⟨es, nn, u, _, _, e, _⟩ := T.pk_none
      exact ⟨_, rfl, _, _, _, rfl, .strStr _, _, rfl, iteT ⟨_, rfl, _, _, rfl, rfl, e, q⟩⟩
    · cases hs
      obtain ⟨es, nn, u, _, _, e, _⟩ := T.pk_one
      exact ⟨_, rfl, _, _, _, rfl, .strStr _, _, rfl, iteT ⟨_, rfl, _, _, rfl, rfl, e, q⟩⟩
    · cases hs
      obtain ⟨es, nn, u, _, _, e, _⟩ := T.pk_tree
      exact ⟨_, rfl, _, _, _, rfl, .strStr _, _, rfl, iteT ⟨_, rfl, _, _, rfl, rfl, e, q⟩⟩
    · obtain ⟨p, x, y, rfl, hp, ha, hb⟩ := hs
      have e1 : max a.deep b.deep + 1 ≤ n + 1 := h1
      have e2 : max a.deep b.deep + 1 ≤ d := h2
      refine ⟨_, rfl, _, _, _, rfl, .tupStr hp, _, rfl, iteF ?_⟩
      refine ⟨_, rfl, _, _, _, rfl, .tupTup hp, _, rfl, iteF ⟨_, rfl, p, _, rfl, hp, 3, 3, rfl, rfl, _, rfl, iteF ⟨_, rfl, p, _, 0, _, rfl, rfl, hp, rfl, _, _, _, rfl, .strStr _, _, rfl, iteF ?_⟩⟩⟩
      refine ⟨_, rfl, p, _, 0, _, rfl, rfl, hp, rfl, _, _, true, rfl, rfl, (by decide +kernel), _, rfl, iteF ?_⟩
      refine ⟨_, rfl, p, _, 1, _, rfl, rfl, hp, rfl, _, rfl, d, 1, rfl, rfl, by omega, _, d - 1, a, rfl, ha, by omega, by omega, _, rfl, iteT ?_⟩
      exact ⟨_, rfl, p, _, 2, _, rfl, rfl, hp, rfl, _, rfl, d, 1, rfl, rfl, by omega, _, d - 1, b, rfl, hb, by omega, by omega, q⟩
    · obtain ⟨p, x, y, rfl, hp, ha, hb⟩ := hs
      have e1 : max a.deep b.deep + 1 ≤ n + 1 := h1
      have e2 : max a.deep b.deep + 1 ≤ d := h2
      refine ⟨_, rfl, _, _, _, rfl, .tupStr hp, _, rfl, iteF ?_⟩
      refine ⟨_, rfl, _, _, _, rfl, .tupTup hp, _, rfl, iteF ⟨_, rfl, p, _, rfl, hp, 3, 3, rfl, rfl, _, rfl, iteF ⟨_, rfl, p, _, 0, _, rfl, rfl, hp, rfl, _, _, _, rfl, .strStr _, _, rfl, iteF ?_⟩⟩⟩
      refine ⟨_, rfl, p, _, 0, _, rfl, rfl, hp, rfl, _, _, false, rfl, rfl, (by decide +kernel), _, rfl, iteT ⟨_, rfl, p, _, 0, _, rfl, rfl, hp, rfl, _, _, true, rfl, rfl, (by decide +kernel), _, rfl, iteF ?_⟩⟩
      refine ⟨_, rfl, p, _, 1, _, rfl, rfl, hp, rfl, _, rfl, d, 1, rfl, rfl, by omega, _, d - 1, a, rfl, ha, by omega, by omega, _, rfl, iteT ?_⟩
      exact ⟨_, rfl, p, _, 2, _, rfl, rfl, hp, rfl, _, rfl, d, 1, rfl, rfl, by omega, _, d - 1, b, rfl, hb, by omega, by omega, q⟩

def sp_is_shape (K : PySem.W.Frag) : Sp := fun vs H Q _ => ∃ (v : V) (s : Shp), vs = [v] ∧ ShV K H s v ∧ s.deep ≤ 4 ∧ Q (.bl true) H
theorem sc_is_shape : FnScope ["thing"] ["thing"] (defScope s_is_shape) := ⟨rfl, rfl, rfl, by decide +kernel, rfl, by decide +kernel, by decide +kernel⟩
theorem ok_is_shape (T : Tp w K mg) : FnOk P w K mg base CX0 5 T.d_is_shape.f T.d_is_shape.fd ["thing"] (sp_is_shape K) := by
  refine T.d_is_shape.F.ok sc_is_shape (fun vs H Q E h => ?_) (fun cdv A outer s H vs Q E hr h => ?_)
  · obtain ⟨_, _, rfl, _⟩ := h
    rfl
  obtain ⟨v, sh, rfl, hs, hd, q⟩ := h
  refine ⟨_, (pss_one (ps_ret (pe_call (ok_is_within T 4) (hr.mono (by omega)) (by rfl) T.d_is_within.m T.d_is_within.F.kp T.d_is_within.b .nil pass0 (pa_cons (pv 0) (pa_cons (pe_cst (by rfl) T.c_MOST_DEEP) pa_nil))))), ?_⟩
  exact ⟨_, rfl, v, 12, sh, rfl, hs, hd, by omega, q⟩
def sp_asked_shape (K : PySem.W.Frag) : Sp := fun vs H Q _ => ∃ (v : V) (s : Shp), vs = [v] ∧ ShV K H s v ∧ s.deep ≤ 4 ∧ Q .non H
theorem sc_asked_shape : FnScope ["thing"] ["thing"] (defScope s_asked_shape) := ⟨rfl, rfl, rfl, by decide +kernel, rfl, by decide +kernel, by decide +kernel⟩
theorem ok_asked_shape (T : Tp w K mg) : FnOk P w K mg base CX0 6 T.d_asked_shape.f T.d_asked_shape.fd ["thing"] (sp_asked_shape K) := by
  refine T.d_asked_shape.F.ok sc_asked_shape (fun vs H Q E h => ?_) (fun cdv A outer s H vs Q E hr h => ?_)
  · obtain ⟨_, _, rfl, _⟩ := h
    rfl
  obtain ⟨v, sh, rfl, hs, hd, q⟩ := h
  refine ⟨_, (pss_one (ps_if (pt_not (pt_val (pe_call (ok_is_shape T) (hr.mono (by omega)) (by rfl) T.d_is_shape.m T.d_is_shape.F.kp T.d_is_shape.b .nil pass0 (pa_cons (pv 0) pa_nil)))) (pss_one ps_never) pss_nil)), ?_⟩
  exact ⟨_, rfl, v, sh, rfl, hs, hd, _, rfl, iteF q⟩
def sp_is_side (K : PySem.W.Frag) : Sp := fun vs H Q _ => ∃ (p : Addr) (z y : Str) (x : V) (b : Bool), vs = [.ref p, .str y] ∧ SqT K H p [.str z, x] ∧ decide (z = y) = b ∧ Q (.bl b) H
theorem sc_is_side : FnScope ["thing", "word"] ["thing", "word"] (defScope s_is_side) := ⟨rfl, rfl, rfl, by decide +kernel, rfl, by decide +kernel, by decide +kernel⟩
theorem ok_is_side (T : Tp w K mg) : FnOk P w K mg base CX0 1 T.d_is_side.f T.d_is_side.fd ["thing", "word"] (sp_is_side K) := by
  refine T.d_is_side.F.ok sc_is_side (fun vs H Q E h => ?_) (fun cdv A outer s H vs Q E hr h => ?_)
  · obtain ⟨_, _, _, _, _, rfl, _⟩ := h
    rfl
  obtain ⟨p, z, y, x, b, rfl, hp, e, q⟩ := h
  refine ⟨_, (pss_one (ps_ret (pe_and (pe_callB call_isT (by rfl) T.n_isinstance (by decide +kernel) (pa_cons (pe_ix ix_tupN (pv 0) pe_int (fun _ _ => rfl)) (pa_cons (pe_bltn (v := .ty "str") (by rfl) T.n_str (by decide +kernel) rfl) pa_nil))) (pe_one (pe_cmpR op_eqS (pe_ix ix_tupN (pv 0) pe_int (fun _ _ => rfl)) (pv 1) (nomark _)))))), ?_⟩
  exact ⟨_, rfl, p, _, 0, _, rfl, rfl, hp, rfl, _, _, _, rfl, .strStr _, _, rfl, iteT ⟨_, rfl, p, _, 0, _, rfl, rfl, hp, rfl, _, rfl, z, y, b, rfl, rfl, e, q⟩⟩

def sp_has_kind_of (C : Addr) (K : PySem.W.Frag) (n : Nat) : Sp := fun vs H Q _ => ∃ (x l : Addr) (ks : List Nat) (v t : V) (s : Shp) (i : Itm), vs = [.ref x, v, t] ∧ KindAt K C H x l ks ∧ ShV K H s v ∧ ItV K H i t ∧ Of ks s i ∧ s.deep ≤ n ∧ s.deep ≤ 4 ∧ (flt s i).2.length ≤ 1000 ∧ ∀ H', Same H H' → Q (.bl true) H'
theorem sc_has_kind_of : FnScope ["kind", "shape", "thing"] ["kind", "shape", "thing"] (defScope s_has_kind_of) := ⟨rfl, rfl, rfl, by decide +kernel, rfl, by decide +kernel, by decide +kernel⟩
theorem sh_none : SeqAt.shaped (.str "none") = true := by decide +kernel
theorem sh_one : SeqAt.shaped (.str "one") = true := by decide +kernel
theorem sh_tree : SeqAt.shaped (.str "tree") = true := by decide +kernel
theorem ok_has_kind_of (T : Tp w K mg) : ∀ n, FnOk P w K mg base CX0 (n + 5) T.d_has_kind_of.f T.d_has_kind_of.fd ["kind", "shape", "thing"] (sp_has_kind_of T.C_Kind K n)
  | 0 => none_ok (fun vs H Q E ⟨_, _, _, _, _, s, _, _, _, _, _, _, h, _⟩ => no_deep h) 5
  | n + 1 => by
    have ih := ok_has_kind_of T n
    refine T.d_has_kind_of.F.ok sc_has_kind_of (fun vs H Q E h => ?_) (fun cdv A outer s H vs Q E hr h => ?_)
    · obtain ⟨_, _, _, _, _, _, _, rfl, _⟩ := h
      rfl
    obtain ⟨x, kl, ks, v, t, sh, i, rfl, hk, hs, hi, ho, h1, h2, hl, q⟩ := h
    refine ⟨_, (pss_cons (ps_if (pt_cmpR (op_eqSh hr.units) (pv 1) pe_str (nomark _)) (pss_one (ps_ret pe_bl)) pss_nil)
    (pss_cons (ps_if (pt_cmpR (op_eqSh hr.units) (pv 1) pe_str (nomark _)) (pss_one (ps_ret (pe_and (pe_callB call_isT (by rfl) T.n_isinstance (by decide +kernel) (pa_cons (pv 2) (pa_cons (pe_bltn (v := .ty "tuple") (by rfl) T.n_tuple (by decide +kernel) rfl) pa_nil))) (pe_one (pe_cmpR op_eqN (pe_callB call_lenT (by rfl) T.n_len PySem.boot_len (pa_cons (pv 2) pa_nil)) pe_int (nomark _)))))) pss_nil)
    (pss_cons (ps_if (pt_cmpR (op_eqSh hr.units) (pv 1) pe_str (nomark _)) (pss_one (ps_ret (pe_call (ok_is_tree T) (hr.mono (by omega)) (by rfl) T.d_is_tree.m T.d_is_tree.F.kp T.d_is_tree.b .nil pass0 (pa_cons (pv 0) (pa_cons (pv 2) pa_nil))))) pss_nil)
    (pss_cons (ps_if (PW.pt (pw_or (pt_not (pt_val (pe_callB call_isT (by rfl) T.n_isinstance (by decide +kernel) (pa_cons (pv 2) (pa_cons (pe_bltn (v := .ty "tuple") (by rfl) T.n_tuple (by decide +kernel) rfl) pa_nil))))) (pw_or1 (pt_cmpR op_neN (pe_callB call_lenT (by rfl) T.n_len PySem.boot_len (pa_cons (pv 2) pa_nil)) pe_int (nomark _))))) (pss_one (ps_ret pe_bl)) pss_nil)
    (pss_cons (ps_if (pt_cmpR op_eqS (pe_ix ix_tupN (pv 1) pe_int (fun _ _ => rfl)) pe_str (nomark _)) (pss_one (ps_ret (pe_and (pe_call ih (hr.mono (by omega)) (by rfl) T.d_has_kind_of.m T.d_has_kind_of.F.kp T.d_has_kind_of.b .nil pass0 (pa_cons (pv 0) (pa_cons (pe_ix ix_tupN (pv 1) pe_int (fun _ _ => rfl)) (pa_cons (pe_ix ix_tupN (pv 2) pe_int (fun _ _ => rfl)) pa_nil)))) (pe_one (pe_call ih (hr.mono (by omega)) (by rfl) T.d_has_kind_of.m T.d_has_kind_of.F.kp T.d_has_kind_of.b .nil pass0 (pa_cons (pv 0) (pa_cons (pe_ix ix_tupN (pv 1) pe_int (fun _ _ => rfl)) (pa_cons (pe_ix ix_tupN (pv 2) pe_int (fun _ _ => rfl)) pa_nil)))))))) pss_nil)
    (pss_cons (ps_if (pt_val (pe_call (ok_is_side T) (hr.mono (by omega)) (by rfl) T.d_is_side.m T.d_is_side.F.kp T.d_is_side.b .nil pass0 (pa_cons (pv 2) (pa_cons pe_str pa_nil)))) (pss_one (ps_ret (pe_call ih (hr.mono (by omega)) (by rfl) T.d_has_kind_of.m T.d_has_kind_of.F.kp T.d_has_kind_of.b .nil pass0 (pa_cons (pv 0) (pa_cons (pe_ix ix_tupN (pv 1) pe_int (fun _ _ => rfl)) (pa_cons (pe_ix ix_tupN (pv 2) pe_int (fun _ _ => rfl)) pa_nil)))))) pss_nil)
    (pss_one (ps_ret (pe_and (pe_call (ok_is_side T) (hr.mono (by omega)) (by rfl) T.d_is_side.m T.d_is_side.F.kp T.d_is_side.b .nil pass0 (pa_cons (pv 2) (pa_cons pe_str pa_nil))) (pe_one (pe_call ih (hr.mono (by omega)) (by rfl) T.d_has_kind_of.m T.d_has_kind_of.F.kp T.d_has_kind_of.b .nil pass0 (pa_cons (pv 0) (pa_cons (pe_ix ix_tupN (pv 1) pe_int (fun _ _ => rfl)) (pa_cons (pe_ix ix_tupN (pv 2) pe_int (fun _ _ => rfl)) pa_nil)))))))))))))), ?_⟩
    refine ⟨_, rfl, sh, _, false, hs, rfl, by omega, sh_none, by cases ho <;> first | rfl | decide +kernel, _, rfl, iteF ?_⟩
    cases ho with
    | one =>
      refine ⟨_, rfl, .one, _, true, hs, rfl, by omega, sh_one, by decide +kernel, _, rfl, iteT ?_⟩
      obtain ⟨p, rfl, hp⟩ := hi
      exact ⟨_, rfl, _, _, _, rfl, .tupTup hp, _, rfl, iteT ⟨_, rfl, p, _, rfl, hp, 0, 0, rfl, rfl, q _ (Same.refl _)⟩⟩
    | tree hrow =>
      refine ⟨_, rfl, .tree, _, false, hs, rfl, by omega, sh_one, by decide +kernel, _, rfl, iteF ?_⟩
      refine ⟨_, rfl, .tree, _, true, hs, rfl, by omega, sh_tree, by decide +kernel, _, rfl, iteT ?_⟩
      exact ⟨_, rfl, _, rfl, x, kl, ks, _, _, rfl, hk, hi, hrow, hl, q⟩
    | @lf a b i hi0 =>
      refine ⟨_, rfl, .either a b, _, false, hs, rfl, by omega, sh_one, rfl, _, rfl, iteF ?_⟩
      refine ⟨_, rfl, .either a b, _, false, hs, rfl, by omega, sh_tree, rfl, _, rfl, iteF ?_⟩
      have e1 : max a.deep b.deep + 1 ≤ n + 1 := h1
      have e2 : max a.deep b.deep + 1 ≤ 4 := h2
      obtain ⟨p, y1, y2, rfl, hp, ha, hb⟩ := hs
      obtain ⟨u, u1, rfl, hu, hu1⟩ := hi
      refine ⟨_, rfl, _, _, _, rfl, .tupTup hu, _, rfl, iteF ⟨_, rfl, u, _, rfl, hu, 2, 2, rfl, rfl, _, rfl, iteF ?_⟩⟩
      refine ⟨_, rfl, p, _, 0, _, rfl, rfl, hp, rfl, _, _, false, rfl, rfl, by decide +kernel, _, rfl, iteF ?_⟩
      refine ⟨_, rfl, u, _, _, _, true, rfl, hu, by decide +kernel, _, rfl, iteT ?_⟩
      exact ⟨_, rfl, _, rfl, p, _, 1, _, rfl, rfl, hp, rfl, _, rfl, u, _, 1, _, rfl, rfl, hu, rfl, x, kl, ks, _, _, a, i, rfl, hk, ha, hu1, hi0, by omega, by omega, hl, q⟩
    | @rt a b i hi0 =>
      refine ⟨_, rfl, .either a b, _, false, hs, rfl, by omega, sh_one, rfl, _, rfl, iteF ?_⟩
      refine ⟨_, rfl, .either a b, _, false, hs, rfl, by omega, sh_tree, rfl, _, rfl, iteF ?_⟩
      have e1 : max a.deep b.deep + 1 ≤ n + 1 := h1
      have e2 : max a.deep b.deep + 1 ≤ 4 := h2
      obtain ⟨p, y1, y2, rfl, hp, ha, hb⟩ := hs
      obtain ⟨u, u1, rfl, hu, hu1⟩ := hi
      refine ⟨_, rfl, _, _, _, rfl, .tupTup hu, _, rfl, iteF ⟨_, rfl, u, _, rfl, hu, 2, 2, rfl, rfl, _, rfl, iteF ?_⟩⟩
      refine ⟨_, rfl, p, _, 0, _, rfl, rfl, hp, rfl, _, _, false, rfl, rfl, by decide +kernel, _, rfl, iteF ?_⟩
      refine ⟨_, rfl, u, _, _, _, false, rfl, hu, by decide +kernel, _, rfl, iteF ?_⟩
      refine ⟨_, rfl, u, _, _, _, true, rfl, hu, by decide +kernel, _, rfl, iteT ?_⟩
      exact ⟨_, rfl, _, rfl, p, _, 2, _, rfl, rfl, hp, rfl, _, rfl, u, _, 1, _, rfl, rfl, hu, rfl, x, kl, ks, _, _, b, i, rfl, hk, hb, hu1, hi0, by omega, by omega, hl, q⟩
    | @pr a b i j hi0 hj0 =>
      refine ⟨_, rfl, .both a b, _, false, hs, rfl, by omega, sh_one, rfl, _, rfl, iteF ?_⟩
      refine ⟨_, rfl, .both a b, _, false, hs, rfl, by omega, sh_tree, rfl, _, rfl, iteF ?_⟩
      have e1 : max a.deep b.deep + 1 ≤ n + 1 := h1
      have e2 : max a.deep b.deep + 1 ≤ 4 := h2
      have e3 : ((flt a i).2 ++ (flt b j).2).length ≤ 1000 := hl
      rw [List.length_append] at e3
      obtain ⟨p, y1, y2, rfl, hp, ha, hb⟩ := hs
      obtain ⟨u, u1, u2, rfl, hu, hu1, hu2⟩ := hi
      refine ⟨_, rfl, _, _, _, rfl, .tupTup hu, _, rfl, iteF ⟨_, rfl, u, _, rfl, hu, 2, 2, rfl, rfl, _, rfl, iteF ?_⟩⟩
      refine ⟨_, rfl, p, _, 0, _, rfl, rfl, hp, rfl, _, _, true, rfl, rfl, by decide +kernel, _, rfl, iteT ?_⟩
      refine ⟨_, rfl, _, rfl, p, _, 1, _, rfl, rfl, hp, rfl, _, rfl, u, _, 0, _, rfl, rfl, hu, rfl, x, kl, ks, _, _, a, i, rfl, hk, ha, hu1, hi0, by omega, by omega, by omega, fun H1 s1 => ?_⟩
      have hp1 := same_tk s1 _ _ hp
      have hu' := same_tk s1 _ _ hu
      exact ⟨_, rfl, iteT ⟨_, rfl, _, rfl, p, _, 2, _, rfl, rfl, hp1, rfl, _, rfl, u, _, 1, _, rfl, rfl, hu', rfl, x, kl, ks, _, _, b, j, rfl, hk.same s1, ShV.tk (same_tk s1) hb, ItV.tk (same_tk s1) hu2, hj0, by omega, by omega, by omega, fun H2 s2 => q _ (s1.trans s2)⟩⟩
end
end Bs
/-! The walk: racks of shapes, laying flat, putting up. -/
namespace Bs
open PySem PySem.Spec L2
section
variable {P : Program} {w : World} {K : PySem.W.Frag} {mg : Str → Option Value} {base : Heap}

def sp_rack_of (K : PySem.W.Frag) (n : Nat) : Sp := fun vs H Q _ => ∃ (v : V) (s : Shp), vs = [v] ∧ ShV K H s v ∧ s.deep ≤ n ∧ s.deep ≤ 4 ∧ ∀ u H', Same H H' → NumsV K H' u (rk s) → Q u H'
theorem sc_rack_of : FnScope ["shape"] ["shape"] (defScope s_rack_of) := ⟨rfl, rfl, rfl, by decide +kernel, rfl, by decide +kernel, by decide +kernel⟩
theorem ok_rack_of (T : Tp w K mg) : ∀ n, FnOk P w K mg base CX0 (n + 4) T.d_rack_of.f T.d_rack_of.fd ["shape"] (sp_rack_of K n)
  | 0 => none_ok (fun vs H Q E ⟨_, s, _, _, h, _⟩ => no_deep h) 4
  | n + 1 => by
    have ih := ok_rack_of T n
    refine T.d_rack_of.F.ok sc_rack_of (fun vs H Q E h => ?_) (fun cdv A outer s H vs Q E hr h => ?_)
    · obtain ⟨_, _, rfl, _⟩ := h
      rfl
    obtain ⟨v, sh, rfl, hs, h1, h2, q⟩ := h
    refine ⟨_, (pss_cons (ps_if (pt_val (pe_callB call_isT (by rfl) T.n_isinstance (by decide +kernel) (pa_cons (pv 0) (pa_cons (pe_bltn (v := .ty "str") (by rfl) T.n_str (by decide +kernel) rfl) pa_nil)))) (pss_one (ps_ret (pe_ix ix_kdict (pe_cst (by rfl) T.c_PLAIN) (pv 0) (fun _ _ => rfl)))) pss_nil)
    (pss_cons (ps_if (pt_cmpR op_eqS (pe_ix ix_tupN (pv 0) pe_int (fun _ _ => rfl)) pe_str (nomark _)) (pss_one (ps_ret (pe_call (ok_put_beside T) (hr.mono (by omega)) (by rfl) T.d_put_beside.m T.d_put_beside.F.kp T.d_put_beside.b .nil pass0 (pa_cons (pe_call ih (hr.mono (by omega)) (by rfl) T.d_rack_of.m T.d_rack_of.F.kp T.d_rack_of.b .nil pass0 (pa_cons (pe_ix ix_tupN (pv 0) pe_int (fun _ _ => rfl)) pa_nil)) (pa_cons (pe_call ih (hr.mono (by omega)) (by rfl) T.d_rack_of.m T.d_rack_of.F.kp T.d_rack_of.b .nil pass0 (pa_cons (pe_ix ix_tupN (pv 0) pe_int (fun _ _ => rfl)) pa_nil)) pa_nil))))) pss_nil)
    (pss_one (ps_ret (pe_call (ok_put_times T) (hr.mono (by omega)) (by rfl) T.d_put_times.m T.d_put_times.F.kp T.d_put_times.b .nil pass0 (pa_cons (pe_call ih (hr.mono (by omega)) (by rfl) T.d_rack_of.m T.d_rack_of.F.kp T.d_rack_of.b .nil pass0 (pa_cons (pe_ix ix_tupN (pv 0) pe_int (fun _ _ => rfl)) pa_nil)) (pa_cons (pe_call ih (hr.mono (by omega)) (by rfl) T.d_rack_of.m T.d_rack_of.F.kp T.d_rack_of.b .nil pass0 (pa_cons (pe_ix ix_tupN (pv 0) pe_int (fun _ _ => rfl)) pa_nil)) pa_nil))))))), ?_⟩
    have ro := rack_ok h2
    rcases sh with _ | _ | _ | ⟨a, b⟩ | ⟨a, b⟩
    · cases hs
      exact ⟨_, rfl, _, _, _, rfl, .strStr _, _, rfl, iteT ⟨_, rfl, _, _, _, rfl, rfl, T.pk_none, q _ _ (Same.refl _) ⟨_, rfl, T.pt_none.nums _⟩⟩⟩
    · cases hs
      exact ⟨_, rfl, _, _, _, rfl, .strStr _, _, rfl, iteT ⟨_, rfl, _, _, _, rfl, rfl, T.pk_one, q _ _ (Same.refl _) ⟨_, rfl, T.pt_one.nums _⟩⟩⟩
    · cases hs
      exact ⟨_, rfl, _, _, _, rfl, .strStr _, _, rfl, iteT ⟨_, rfl, _, _, _, rfl, rfl, T.pk_tree, q _ _ (Same.refl _) ⟨_, rfl, T.pt_tree.nums _⟩⟩⟩
    · obtain ⟨p, x, y, rfl, hp, ha, hb⟩ := hs
      have e1 : max a.deep b.deep + 1 ≤ n + 1 := h1
      have e2 : max a.deep b.deep + 1 ≤ 4 := h2
      refine ⟨_, rfl, _, _, _, rfl, .tupStr hp, _, rfl, iteF ?_⟩
      refine ⟨_, rfl, p, _, 0, _, rfl, rfl, hp, rfl, _, _, true, rfl, rfl, by decide +kernel, _, rfl, iteT ?_⟩
      refine ⟨_, rfl, p, _, 1, _, rfl, rfl, hp, rfl, _, a, rfl, ha, by omega, by omega, fun u1 H1 s1 h1 => ?_⟩
      refine ⟨_, rfl, p, _, 2, _, rfl, rfl, same_tk s1 _ _ hp, rfl, _, b, rfl, ShV.tk (same_tk s1) hb, by omega, by omega, fun u2 H2 s2 h2 => ?_⟩
      exact ⟨_, _, rk a, rk b, rfl, h1.tk (same_tk s2), h2, ro, fun v H3 s3 h3 => q v H3 (s1.trans (s2.trans s3)) h3⟩
    · obtain ⟨p, x, y, rfl, hp, ha, hb⟩ := hs
      have e1 : max a.deep b.deep + 1 ≤ n + 1 := h1
      have e2 : max a.deep b.deep + 1 ≤ 4 := h2
      refine ⟨_, rfl, _, _, _, rfl, .tupStr hp, _, rfl, iteF ?_⟩
      refine ⟨_, rfl, p, _, 0, _, rfl, rfl, hp, rfl, _, _, false, rfl, rfl, by decide +kernel, _, rfl, iteF ?_⟩
      refine ⟨_, rfl, p, _, 1, _, rfl, rfl, hp, rfl, _, a, rfl, ha, by omega, by omega, fun u1 H1 s1 h1 => ?_⟩
      refine ⟨_, rfl, p, _, 2, _, rfl, rfl, same_tk s1 _ _ hp, rfl, _, b, rfl, ShV.tk (same_tk s1) hb, by omega, by omega, fun u2 H2 s2 h2 => ?_⟩
      exact ⟨_, _, rk a, rk b, rfl, h1.tk (same_tk s2), h2, rack_ok (by omega), rack_ok (by omega), ro, fun v H3 s3 h3 => q v H3 (s1.trans (s2.trans s3)) h3⟩

def sp_flat_of (K : PySem.W.Frag) : Sp := fun vs H Q _ => ∃ (v : V) (s : Shp), vs = [v] ∧ ShV K H s v ∧ s.deep ≤ 4 ∧ ∀ u H', Same H H' → NumsV K H' u (rk s) → Q u H'
theorem sc_flat_of : FnScope ["shape"] ["shape"] (defScope s_flat_of) := ⟨rfl, rfl, rfl, by decide +kernel, rfl, by decide +kernel, by decide +kernel⟩
theorem ok_flat_of (T : Tp w K mg) : FnOk P w K mg base CX0 9 T.d_flat_of.f T.d_flat_of.fd ["shape"] (sp_flat_of K) := by
  refine T.d_flat_of.F.ok sc_flat_of (fun vs H Q E h => ?_) (fun cdv A outer s H vs Q E hr h => ?_)
  · obtain ⟨_, _, rfl, _⟩ := h
    rfl
  obtain ⟨v, sh, rfl, hs, h1, q⟩ := h
  refine ⟨_, (pss_cons (ps_expr (pe_call (ok_asked_shape T) (hr.mono (by omega)) (by rfl) T.d_asked_shape.m T.d_asked_shape.F.kp T.d_asked_shape.b .nil pass0 (pa_cons (pv 0) pa_nil)))
    (pss_one (ps_ret (pe_call (ok_rack_of T 4) (hr.mono (by omega)) (by rfl) T.d_rack_of.m T.d_rack_of.F.kp T.d_rack_of.b .nil pass0 (pa_cons (pv 0) pa_nil))))), ?_⟩
  exact ⟨_, rfl, v, sh, rfl, hs, h1, _, rfl, v, sh, rfl, hs, h1, h1, q⟩

def sp_laid_flat (C : Addr) (K : PySem.W.Frag) (n : Nat) : Sp := fun vs H Q _ => ∃ (x l : Addr) (ks : List Nat) (v t : V) (s : Shp) (i : Itm), vs = [.ref x, v, t] ∧ KindAt K C H x l ks ∧ ShV K H s v ∧ ItV K H i t ∧ Of ks s i ∧ s.deep ≤ n ∧ s.deep ≤ 4 ∧ (flt s i).2.length ≤ 1000 ∧ ∀ u H', Same H H' → ThV K H' u (flt s i) → Q u H'
theorem sc_laid_flat : FnScope ["kind", "shape", "thing", "racks", "first"] ["kind", "shape", "thing"] (defScope s_laid_flat) := ⟨rfl, rfl, rfl, by decide +kernel, rfl, by decide +kernel, by decide +kernel⟩
theorem ok_laid_flat (T : Tp w K mg) : ∀ n, FnOk P w K mg base CX0 (n + 9) T.d_laid_flat.f T.d_laid_flat.fd ["kind", "shape", "thing"] (sp_laid_flat T.C_Kind K n)
  | 0 => none_ok (fun vs H Q E ⟨_, _, _, _, _, s, _, _, _, _, _, _, h, _⟩ => no_deep h) 9
  | n + 1 => by
    have ih := ok_laid_flat T n
    refine T.d_laid_flat.F.ok sc_laid_flat (fun vs H Q E h => ?_) (fun cdv A outer s H vs Q E hr h => ?_)
    · obtain ⟨_, _, _, _, _, _, _, rfl, _⟩ := h
      rfl
    obtain ⟨x, kl, ks, v, t, sh, i, rfl, hk, hs, hi, ho, h1, h2, hl, q⟩ := h
    refine ⟨_, (pss_cons (ps_if (pt_cmpR (op_eqSh hr.units) (pv 1) pe_str (nomark _)) (pss_one (ps_ret (pe_tup (pa_cons pe_int (pa_cons (pe_tup pa_nil) pa_nil))))) pss_nil)
    (pss_cons (ps_if (pt_cmpR (op_eqSh hr.units) (pv 1) pe_str (nomark _)) (pss_one (ps_ret (pe_tup (pa_cons pe_int (pa_cons (pv 2) pa_nil))))) pss_nil)
    (pss_cons (ps_set (i := 3) sc_laid_flat.nd rfl (Or.inl rfl) (pe_tup (pa_cons (pe_call (ok_rack_of T 4) (hr.mono (by omega)) (by rfl) T.d_rack_of.m T.d_rack_of.F.kp T.d_rack_of.b .nil pass0 (pa_cons (pe_ix ix_tupN (pv 1) pe_int (fun _ _ => rfl)) pa_nil)) (pa_cons (pe_call (ok_rack_of T 4) (hr.mono (by omega)) (by rfl) T.d_rack_of.m T.d_rack_of.F.kp T.d_rack_of.b .nil pass0 (pa_cons (pe_ix ix_tupN (pv 1) pe_int (fun _ _ => rfl)) pa_nil)) pa_nil))))
    (pss_cons (ps_if (pt_cmpR op_eqS (pe_ix ix_tupN (pv 1) pe_int (fun _ _ => rfl)) pe_str (nomark _)) (pss_cons (ps_set (i := 4) sc_laid_flat.nd rfl (Or.inl rfl) (pe_call ih (hr.mono (by omega)) (by rfl) T.d_laid_flat.m T.d_laid_flat.F.kp T.d_laid_flat.b .nil pass0 (pa_cons (pv 0) (pa_cons (pe_ix ix_tupN (pv 1) pe_int (fun _ _ => rfl)) (pa_cons (pe_ix ix_tupN (pv 2) pe_int (fun _ _ => rfl)) pa_nil)))))
    (pss_one (ps_ret (pe_call (ok_paired T) (hr.mono (by omega)) (by rfl) T.d_paired.m T.d_paired.F.kp T.d_paired.b .nil pass0 (pa_cons (pv 0) (pa_cons (pe_ix ix_tupN (pv 3) pe_int (fun _ _ => rfl)) (pa_cons (pe_ix ix_tupN (pv 3) pe_int (fun _ _ => rfl)) (pa_cons (pv 4) (pa_cons (pe_call ih (hr.mono (by omega)) (by rfl) T.d_laid_flat.m T.d_laid_flat.F.kp T.d_laid_flat.b .nil pass0 (pa_cons (pv 0) (pa_cons (pe_ix ix_tupN (pv 1) pe_int (fun _ _ => rfl)) (pa_cons (pe_ix ix_tupN (pv 2) pe_int (fun _ _ => rfl)) pa_nil)))) pa_nil))))))))) pss_nil)
    (pss_cons (ps_if (pt_cmpR op_eqS (pe_ix ix_tupN (pv 2) pe_int (fun _ _ => rfl)) pe_str (nomark _)) (pss_one (ps_ret (pe_call (ok_put_left T) (hr.mono (by omega)) (by rfl) T.d_put_left.m T.d_put_left.F.kp T.d_put_left.b .nil pass0 (pa_cons (pv 0) (pa_cons (pe_ix ix_tupN (pv 3) pe_int (fun _ _ => rfl)) (pa_cons (pe_ix ix_tupN (pv 3) pe_int (fun _ _ => rfl)) (pa_cons (pe_call ih (hr.mono (by omega)) (by rfl) T.d_laid_flat.m T.d_laid_flat.F.kp T.d_laid_flat.b .nil pass0 (pa_cons (pv 0) (pa_cons (pe_ix ix_tupN (pv 1) pe_int (fun _ _ => rfl)) (pa_cons (pe_ix ix_tupN (pv 2) pe_int (fun _ _ => rfl)) pa_nil)))) pa_nil))))))) pss_nil)
    (pss_one (ps_ret (pe_call (ok_put_right T) (hr.mono (by omega)) (by rfl) T.d_put_right.m T.d_put_right.F.kp T.d_put_right.b .nil pass0 (pa_cons (pv 0) (pa_cons (pe_ix ix_tupN (pv 3) pe_int (fun _ _ => rfl)) (pa_cons (pe_ix ix_tupN (pv 3) pe_int (fun _ _ => rfl)) (pa_cons (pe_call ih (hr.mono (by omega)) (by rfl) T.d_laid_flat.m T.d_laid_flat.F.kp T.d_laid_flat.b .nil pass0 (pa_cons (pv 0) (pa_cons (pe_ix ix_tupN (pv 1) pe_int (fun _ _ => rfl)) (pa_cons (pe_ix ix_tupN (pv 2) pe_int (fun _ _ => rfl)) pa_nil)))) pa_nil)))))))))))), ?_⟩
    have ro := rack_ok h2
    cases ho with
    | one =>
      refine ⟨_, rfl, .one, _, true, hs, rfl, by omega, sh_one, by decide +kernel, _, rfl, iteT ?_⟩
      refine ⟨(by show 0 ≤ sizeLine; decide), fun p hp => ⟨(by show 2 ≤ sizeLine; decide), fun p2 hp2 => ?_⟩⟩
      exact q _ _ ((same_new hp _).trans (same_new hp2 _)) ⟨p2, rfl, p, SqT.of upd_same, same_tk (same_new hp2 _) _ _ (SqT.of upd_same)⟩
    | @tree tr hrow =>
      refine ⟨_, rfl, .tree, _, false, hs, rfl, by omega, sh_one, by decide +kernel, _, rfl, iteF ?_⟩
      refine ⟨_, rfl, .tree, _, true, hs, rfl, by omega, sh_tree, by decide +kernel, _, rfl, iteT ?_⟩
      obtain ⟨c, rfl, hc⟩ := hi
      refine ⟨_, rfl, (by show 2 ≤ sizeLine; decide), fun p2 hp2 => ?_⟩
      exact q _ _ (same_new hp2 _) ⟨p2, rfl, c, SqT.of upd_same, same_tk (same_new hp2 _) _ _ hc⟩
    | @lf a b i hi0 =>
      refine ⟨_, rfl, .either a b, _, false, hs, rfl, by omega, sh_one, rfl, _, rfl, iteF ?_⟩
      refine ⟨_, rfl, .either a b, _, false, hs, rfl, by omega, sh_tree, rfl, _, rfl, iteF ?_⟩
      have e1 : max a.deep b.deep + 1 ≤ n + 1 := h1
      have e2 : max a.deep b.deep + 1 ≤ 4 := h2
      obtain ⟨p, y1, y2, rfl, hp, ha, hb⟩ := hs
      obtain ⟨u, u1, rfl, hu, hu1⟩ := hi
      refine ⟨_, rfl, p, _, 1, _, rfl, rfl, hp, rfl, _, a, rfl, ha, by omega, by omega, fun r1 H1 s1 g1 => ?_⟩
      refine ⟨_, rfl, p, _, 2, _, rfl, rfl, same_tk s1 _ _ hp, rfl, _, b, rfl, ShV.tk (same_tk s1) hb, by omega, by omega, fun r2 H2 s2 g2 => ?_⟩
      refine ⟨(by show 2 ≤ sizeLine; decide), fun d hd => ?_⟩
      have s3 : Same H2 _ := same_new hd (.tup [r1, r2])
      have s03 := s1.trans (s2.trans s3)
      have hd3 : SqT K (upd H2 d (.tup [r1, r2])) d [r1, r2] := SqT.of upd_same
      have hp3 := same_tk s03 _ _ hp
      have hu3 := same_tk s03 _ _ hu
      refine ⟨_, rfl, p, _, 0, _, rfl, rfl, hp3, rfl, _, _, false, rfl, rfl, by decide +kernel, _, rfl, iteF ?_⟩
      refine ⟨_, rfl, u, _, 0, _, rfl, rfl, hu3, rfl, _, _, true, rfl, rfl, by decide +kernel, _, rfl, iteT ?_⟩
      refine ⟨_, rfl, _, rfl, d, _, 0, _, rfl, rfl, hd3, rfl, _, rfl, d, _, 1, _, rfl, rfl, hd3, rfl, _, rfl, _, rfl, p, _, 1, _, rfl, rfl, hp3, rfl, _, rfl, u, _, 1, _, rfl, rfl, hu3, rfl, ?_⟩
      refine ⟨x, kl, ks, _, _, a, i, rfl, hk.same s03, ShV.tk (same_tk s03) ha, ItV.tk (same_tk s03) hu1, hi0, by omega, by omega, hl, fun f H4 s4 g4 => ?_⟩
      exact ⟨x, kl, ks, _, _, _, rk a, rk b, flt a i, rfl, hk.same (s03.trans s4), g1.tk (same_tk (s2.trans (s3.trans s4))), g2.tk (same_tk (s3.trans s4)), ro, g4, flt_ok hi0, hl, fun v5 H5 s5 g5 => q _ _ (s03.trans (s4.trans s5)) g5⟩
    | @rt a b i hi0 =>
      refine ⟨_, rfl, .either a b, _, false, hs, rfl, by omega, sh_one, rfl, _, rfl, iteF ?_⟩
      refine ⟨_, rfl, .either a b, _, false, hs, rfl, by omega, sh_tree, rfl, _, rfl, iteF ?_⟩
      have e1 : max a.deep b.deep + 1 ≤ n + 1 := h1
      have e2 : max a.deep b.deep + 1 ≤ 4 := h2
      obtain ⟨p, y1, y2, rfl, hp, ha, hb⟩ := hs
      obtain ⟨u, u1, rfl, hu, hu1⟩ := hi
      refine ⟨_, rfl, p, _, 1, _, rfl, rfl, hp, rfl, _, a, rfl, ha, by omega, by omega, fun r1 H1 s1 g1 => ?_⟩
      refine ⟨_, rfl, p, _, 2, _, rfl, rfl, same_tk s1 _ _ hp, rfl, _, b, rfl, ShV.tk (same_tk s1) hb, by omega, by omega, fun r2 H2 s2 g2 => ?_⟩
      refine ⟨(by show 2 ≤ sizeLine; decide), fun d hd => ?_⟩
      have s3 : Same H2 _ := same_new hd (.tup [r1, r2])
      have s03 := s1.trans (s2.trans s3)
      have hd3 : SqT K (upd H2 d (.tup [r1, r2])) d [r1, r2] := SqT.of upd_same
      have hp3 := same_tk s03 _ _ hp
      have hu3 := same_tk s03 _ _ hu
      refine ⟨_, rfl, p, _, 0, _, rfl, rfl, hp3, rfl, _, _, false, rfl, rfl, by decide +kernel, _, rfl, iteF ?_⟩
      refine ⟨_, rfl, u, _, 0, _, rfl, rfl, hu3, rfl, _, _, false, rfl, rfl, by decide +kernel, _, rfl, iteF ?_⟩
      refine ⟨_, rfl, _, rfl, d, _, 0, _, rfl, rfl, hd3, rfl, _, rfl, d, _, 1, _, rfl, rfl, hd3, rfl, _, rfl, _, rfl, p, _, 2, _, rfl, rfl, hp3, rfl, _, rfl, u, _, 1, _, rfl, rfl, hu3, rfl, ?_⟩
      refine ⟨x, kl, ks, _, _, b, i, rfl, hk.same s03, ShV.tk (same_tk s03) hb, ItV.tk (same_tk s03) hu1, hi0, by omega, by omega, hl, fun f H4 s4 g4 => ?_⟩
      exact ⟨x, kl, ks, _, _, _, rk a, rk b, flt b i, rfl, hk.same (s03.trans s4), g1.tk (same_tk (s2.trans (s3.trans s4))), g2.tk (same_tk (s3.trans s4)), ro, g4, flt_ok hi0, hl, fun v5 H5 s5 g5 => q _ _ (s03.trans (s4.trans s5)) g5⟩
    | @pr a b i j hi0 hj0 =>
      refine ⟨_, rfl, .both a b, _, false, hs, rfl, by omega, sh_one, rfl, _, rfl, iteF ?_⟩
      refine ⟨_, rfl, .both a b, _, false, hs, rfl, by omega, sh_tree, rfl, _, rfl, iteF ?_⟩
      have e1 : max a.deep b.deep + 1 ≤ n + 1 := h1
      have e2 : max a.deep b.deep + 1 ≤ 4 := h2
      have e3 : ((flt a i).2 ++ (flt b j).2).length ≤ 1000 := hl
      rw [List.length_append] at e3
      obtain ⟨p, y1, y2, rfl, hp, ha, hb⟩ := hs
      obtain ⟨u, u1, u2, rfl, hu, hu1, hu2⟩ := hi
      refine ⟨_, rfl, p, _, 1, _, rfl, rfl, hp, rfl, _, a, rfl, ha, by omega, by omega, fun r1 H1 s1 g1 => ?_⟩
      refine ⟨_, rfl, p, _, 2, _, rfl, rfl, same_tk s1 _ _ hp, rfl, _, b, rfl, ShV.tk (same_tk s1) hb, by omega, by omega, fun r2 H2 s2 g2 => ?_⟩
      refine ⟨(by show 2 ≤ sizeLine; decide), fun d hd => ?_⟩
      have s3 : Same H2 _ := same_new hd (.tup [r1, r2])
      have s03 := s1.trans (s2.trans s3)
      have hd3 : SqT K (upd H2 d (.tup [r1, r2])) d [r1, r2] := SqT.of upd_same
      have hp3 := same_tk s03 _ _ hp
      have hu3 := same_tk s03 _ _ hu
      refine ⟨_, rfl, p, _, 0, _, rfl, rfl, hp3, rfl, _, _, true, rfl, rfl, by decide +kernel, _, rfl, iteT ?_⟩
      refine ⟨_, rfl, _, rfl, p, _, 1, _, rfl, rfl, hp3, rfl, _, rfl, u, _, 0, _, rfl, rfl, hu3, rfl, ?_⟩
      refine ⟨x, kl, ks, _, _, a, i, rfl, hk.same s03, ShV.tk (same_tk s03) ha, ItV.tk (same_tk s03) hu1, hi0, by omega, by omega, by omega, fun f1 H4 s4 g4 => ?_⟩
      have s04 := s03.trans s4
      have hd4 := same_tk s4 _ _ hd3
      refine ⟨_, rfl, _, rfl, d, _, 0, _, rfl, rfl, hd4, rfl, _, rfl, d, _, 1, _, rfl, rfl, hd4, rfl, _, rfl, _, rfl, _, rfl, p, _, 2, _, rfl, rfl, same_tk s04 _ _ hp, rfl, _, rfl, u, _, 1, _, rfl, rfl, same_tk s04 _ _ hu, rfl, ?_⟩
      refine ⟨x, kl, ks, _, _, b, j, rfl, hk.same s04, ShV.tk (same_tk s04) hb, ItV.tk (same_tk s04) hu2, hj0, by omega, by omega, by omega, fun f2 H5 s5 g5 => ?_⟩
      exact ⟨x, kl, ks, _, _, _, _, rk a, rk b, flt a i, flt b j, rfl, hk.same (s04.trans s5), g1.tk (same_tk (s2.trans (s3.trans (s4.trans s5)))), g2.tk (same_tk (s3.trans (s4.trans s5))), rack_ok (by omega), rack_ok (by omega), ro, g4.tk (same_tk s5), g5, flt_ok hi0, flt_ok hj0, e3,
        fun v6 H6 s6 g6 => q _ _ (s04.trans (s5.trans s6)) g6⟩

def sp_flattened (C : Addr) (K : PySem.W.Frag) : Sp := fun vs H Q _ => ∃ (x l : Addr) (ks : List Nat) (v t : V) (s : Shp) (i : Itm), vs = [.ref x, v, t] ∧ KindAt K C H x l ks ∧ ShV K H s v ∧ ItV K H i t ∧ Of ks s i ∧ s.deep ≤ 4 ∧ (flt s i).2.length ≤ 1000 ∧ ∀ u H', Same H H' → ThV K H' u (flt s i) → Q u H'
theorem sc_flattened : FnScope ["kind", "shape", "thing"] ["kind", "shape", "thing"] (defScope s_flattened) := ⟨rfl, rfl, rfl, by decide +kernel, rfl, by decide +kernel, by decide +kernel⟩
theorem ok_flattened (T : Tp w K mg) : FnOk P w K mg base CX0 14 T.d_flattened.f T.d_flattened.fd ["kind", "shape", "thing"] (sp_flattened T.C_Kind K) := by
  refine T.d_flattened.F.ok sc_flattened (fun vs H Q E h => ?_) (fun cdv A outer s H vs Q E hr h => ?_)
  · obtain ⟨_, _, _, _, _, _, _, rfl, _⟩ := h
    rfl
  obtain ⟨x, kl, ks, v, t, sh, i, rfl, hk, hs, hi, ho, h2, hl, q⟩ := h
  refine ⟨_, (pss_cons (ps_expr (pe_call (ok_asked_shape T) (hr.mono (by omega)) (by rfl) T.d_asked_shape.m T.d_asked_shape.F.kp T.d_asked_shape.b .nil pass0 (pa_cons (pv 1) pa_nil)))
    (pss_cons (ps_expr (pe_call (ok_rack_of T 4) (hr.mono (by omega)) (by rfl) T.d_rack_of.m T.d_rack_of.F.kp T.d_rack_of.b .nil pass0 (pa_cons (pv 1) pa_nil)))
    (pss_cons (ps_if (pt_not (pt_val (pe_call (ok_has_kind_of T 4) (hr.mono (by omega)) (by rfl) T.d_has_kind_of.m T.d_has_kind_of.F.kp T.d_has_kind_of.b .nil pass0 (pa_cons (pv 0) (pa_cons (pv 1) (pa_cons (pv 2) pa_nil)))))) (pss_one ps_never) pss_nil)
    (pss_one (ps_ret (pe_call (ok_laid_flat T 4) (hr.mono (by omega)) (by rfl) T.d_laid_flat.m T.d_laid_flat.F.kp T.d_laid_flat.b .nil pass0 (pa_cons (pv 0) (pa_cons (pv 1) (pa_cons (pv 2) pa_nil))))))))), ?_⟩
  refine ⟨_, rfl, v, sh, rfl, hs, h2, _, rfl, v, sh, rfl, hs, h2, h2, fun u1 H1 s1 _ => ?_⟩
  refine ⟨_, rfl, _, rfl, _, rfl, x, kl, ks, _, _, sh, i, rfl, hk.same s1, ShV.tk (same_tk s1) hs, ItV.tk (same_tk s1) hi, ho, h2, h2, hl, fun H2 s2 => ⟨_, rfl, iteF ?_⟩⟩
  have s02 := s1.trans s2
  exact ⟨_, rfl, _, rfl, _, rfl, x, kl, ks, _, _, sh, i, rfl, hk.same s02, ShV.tk (same_tk s02) hs, ItV.tk (same_tk s02) hi, ho, h2, h2, hl, fun u H3 s3 g3 => q _ _ (s02.trans s3) g3⟩

def sp_put_up (C : Addr) (K : PySem.W.Frag) (n : Nat) : Sp := fun vs H Q _ => ∃ (x l : Addr) (ks : List Nat) (v t : V) (s : Shp) (i : Itm), vs = [.ref x, v, t] ∧ KindAt K C H x l ks ∧ ShV K H s v ∧ ThV K H t (flt s i) ∧ Of ks s i ∧ s.deep ≤ n ∧ s.deep ≤ 4 ∧ (flt s i).2.length ≤ 1000 ∧ ∀ u H', Same H H' → ItV K H' i u → Q u H'
theorem sc_put_up : FnScope ["kind", "shape", "thing", "racks", "first", "second", "word", "within"] ["kind", "shape", "thing"] (defScope s_put_up) := ⟨rfl, rfl, rfl, by decide +kernel, rfl, by decide +kernel, by decide +kernel⟩
theorem ok_put_up (T : Tp w K mg) : ∀ n, FnOk P w K mg base CX0 (n + 9) T.d_put_up.f T.d_put_up.fd ["kind", "shape", "thing"] (sp_put_up T.C_Kind K n)
  | 0 => none_ok (fun vs H Q E ⟨_, _, _, _, _, s, _, _, _, _, _, _, h, _⟩ => no_deep h) 9
  | n + 1 => by
    have ih := ok_put_up T n
    refine T.d_put_up.F.ok sc_put_up (fun vs H Q E h => ?_) (fun cdv A outer s H vs Q E hr h => ?_)
    · obtain ⟨_, _, _, _, _, _, _, rfl, _⟩ := h
      rfl
    obtain ⟨x, kl, ks, v, t, sh, i, rfl, hk, hs, hi, ho, h1, h2, hl, q⟩ := h
    refine ⟨_, (pss_cons (ps_if (pt_cmpR (op_eqSh hr.units) (pv 1) pe_str (nomark _)) (pss_one (ps_ret (pe_tup pa_nil))) pss_nil)
    (pss_cons (ps_if (pt_cmpR (op_eqSh hr.units) (pv 1) pe_str (nomark _)) (pss_one (ps_ret (pe_ix ix_tupN (pv 2) pe_int (fun _ _ => rfl)))) pss_nil)
    (pss_cons (ps_set (i := 3) sc_put_up.nd rfl (Or.inl rfl) (pe_tup (pa_cons (pe_call (ok_rack_of T 4) (hr.mono (by omega)) (by rfl) T.d_rack_of.m T.d_rack_of.F.kp T.d_rack_of.b .nil pass0 (pa_cons (pe_ix ix_tupN (pv 1) pe_int (fun _ _ => rfl)) pa_nil)) (pa_cons (pe_call (ok_rack_of T 4) (hr.mono (by omega)) (by rfl) T.d_rack_of.m T.d_rack_of.F.kp T.d_rack_of.b .nil pass0 (pa_cons (pe_ix ix_tupN (pv 1) pe_int (fun _ _ => rfl)) pa_nil)) pa_nil))))
    (pss_cons (ps_if (pt_cmpR op_eqS (pe_ix ix_tupN (pv 1) pe_int (fun _ _ => rfl)) pe_str (nomark _)) (pss_cons (ps_asg (pe_call (ok_unpaired T) (hr.mono (by omega)) (by rfl) T.d_unpaired.m T.d_unpaired.F.kp T.d_unpaired.b .nil pass0 (pa_cons (pv 0) (pa_cons (pe_ix ix_tupN (pv 3) pe_int (fun _ _ => rfl)) (pa_cons (pe_ix ix_tupN (pv 3) pe_int (fun _ _ => rfl)) (pa_cons (pv 2) pa_nil))))) (pg_tup (by rfl) (pgs_cons (pg_name (i := 4) sc_put_up.nd rfl (Or.inl rfl)) (pgs_cons (pg_name (i := 5) sc_put_up.nd rfl (Or.inl rfl)) pgs_nil))))
    (pss_one (ps_ret (pe_tup (pa_cons (pe_call ih (hr.mono (by omega)) (by rfl) T.d_put_up.m T.d_put_up.F.kp T.d_put_up.b .nil pass0 (pa_cons (pv 0) (pa_cons (pe_ix ix_tupN (pv 1) pe_int (fun _ _ => rfl)) (pa_cons (pv 4) pa_nil)))) (pa_cons (pe_call ih (hr.mono (by omega)) (by rfl) T.d_put_up.m T.d_put_up.F.kp T.d_put_up.b .nil pass0 (pa_cons (pv 0) (pa_cons (pe_ix ix_tupN (pv 1) pe_int (fun _ _ => rfl)) (pa_cons (pv 5) pa_nil)))) pa_nil)))))) pss_nil)
    (pss_cons (ps_asg (pe_call (ok_side_of T) (hr.mono (by omega)) (by rfl) T.d_side_of.m T.d_side_of.F.kp T.d_side_of.b .nil pass0 (pa_cons (pv 0) (pa_cons (pe_ix ix_tupN (pv 3) pe_int (fun _ _ => rfl)) (pa_cons (pe_ix ix_tupN (pv 3) pe_int (fun _ _ => rfl)) (pa_cons (pv 2) pa_nil))))) (pg_tup (by rfl) (pgs_cons (pg_name (i := 6) sc_put_up.nd rfl (Or.inl rfl)) (pgs_cons (pg_name (i := 7) sc_put_up.nd rfl (Or.inl rfl)) pgs_nil))))
    (pss_cons (ps_if (pt_cmpR op_eqS (pv 6) pe_str (nomark _)) (pss_one (ps_ret (pe_tup (pa_cons pe_str (pa_cons (pe_call ih (hr.mono (by omega)) (by rfl) T.d_put_up.m T.d_put_up.F.kp T.d_put_up.b .nil pass0 (pa_cons (pv 0) (pa_cons (pe_ix ix_tupN (pv 1) pe_int (fun _ _ => rfl)) (pa_cons (pv 7) pa_nil)))) pa_nil))))) pss_nil)
    (pss_one (ps_ret (pe_tup (pa_cons pe_str (pa_cons (pe_call ih (hr.mono (by omega)) (by rfl) T.d_put_up.m T.d_put_up.F.kp T.d_put_up.b .nil pass0 (pa_cons (pv 0) (pa_cons (pe_ix ix_tupN (pv 1) pe_int (fun _ _ => rfl)) (pa_cons (pv 7) pa_nil)))) pa_nil))))))))))), ?_⟩
    have ro := rack_ok h2
    have hth := flt_ok ho
    cases ho with
    | one =>
      refine ⟨_, rfl, .one, _, true, hs, rfl, by omega, sh_one, by decide +kernel, _, rfl, iteT ?_⟩
      exact ⟨(by show 0 ≤ sizeLine; decide), fun p hp => q _ _ (same_new hp _) ⟨p, rfl, SqT.of upd_same⟩⟩
    | @tree tr hrow =>
      refine ⟨_, rfl, .tree, _, false, hs, rfl, by omega, sh_one, by decide +kernel, _, rfl, iteF ?_⟩
      refine ⟨_, rfl, .tree, _, true, hs, rfl, by omega, sh_tree, by decide +kernel, _, rfl, iteT ?_⟩
      obtain ⟨p, rfl, c, hp, hc⟩ := hi
      exact ⟨_, rfl, p, _, 1, _, rfl, rfl, hp, rfl, q _ _ (Same.refl _) ⟨c, rfl, hc⟩⟩
    | @lf a b i hi0 =>
      refine ⟨_, rfl, .either a b, _, false, hs, rfl, by omega, sh_one, rfl, _, rfl, iteF ?_⟩
      refine ⟨_, rfl, .either a b, _, false, hs, rfl, by omega, sh_tree, rfl, _, rfl, iteF ?_⟩
      have e1 : max a.deep b.deep + 1 ≤ n + 1 := h1
      have e2 : max a.deep b.deep + 1 ≤ 4 := h2
      have hlt := (flt_ok hi0).lt
      obtain ⟨p, y1, y2, rfl, hp, ha, hb⟩ := hs
      refine ⟨_, rfl, p, _, 1, _, rfl, rfl, hp, rfl, _, a, rfl, ha, by omega, by omega, fun r1 H1 s1 g1 => ?_⟩
      refine ⟨_, rfl, p, _, 2, _, rfl, rfl, same_tk s1 _ _ hp, rfl, _, b, rfl, ShV.tk (same_tk s1) hb, by omega, by omega, fun r2 H2 s2 g2 => ?_⟩
      refine ⟨(by show 2 ≤ sizeLine; decide), fun d hd => ?_⟩
      have s3 : Same H2 _ := same_new hd (.tup [r1, r2])
      have s03 := s1.trans (s2.trans s3)
      have hd3 : SqT K (upd H2 d (.tup [r1, r2])) d [r1, r2] := SqT.of upd_same
      have hp3 := same_tk s03 _ _ hp
      refine ⟨_, rfl, p, _, 0, _, rfl, rfl, hp3, rfl, _, _, false, rfl, rfl, by decide +kernel, _, rfl, iteF ?_⟩
      refine ⟨_, rfl, _, rfl, d, _, 0, _, rfl, rfl, hd3, rfl, _, rfl, d, _, 1, _, rfl, rfl, hd3, rfl, _, rfl, ?_⟩
      refine ⟨x, kl, ks, _, _, _, rk a, rk b, flt a i, rfl, hk.same s03, g1.tk (same_tk (s2.trans s3)), g2.tk (same_tk s3), ro, hi.tk (same_tk s03), hth, hl, fun _ p4 H4 s4 g4 => ?_, fun c => absurd hlt c⟩
      refine ⟨p4, _, rfl, g4, rfl, _, _, rfl, _, _, rfl, rfl, ?_⟩
      have s04 := s03.trans s4
      refine ⟨_, rfl, _, _, true, rfl, rfl, by decide +kernel, _, rfl, iteT ?_⟩
      refine ⟨_, rfl, _, rfl, p, _, 1, _, rfl, rfl, same_tk s04 _ _ hp, rfl, _, rfl, x, kl, ks, _, _, a, i, rfl, hk.same s04, ShV.tk (same_tk s04) ha, hi.tk (same_tk s04), hi0, by omega, by omega, hl, fun u5 H5 s5 g5 => ?_⟩
      exact ⟨(by show 2 ≤ sizeLine; decide), fun d2 hd2 => q _ _ (s04.trans (s5.trans (same_new hd2 _))) ⟨d2, _, rfl, SqT.of upd_same, ItV.tk (same_tk (same_new hd2 _)) g5⟩⟩
    | @rt a b i hi0 =>
      refine ⟨_, rfl, .either a b, _, false, hs, rfl, by omega, sh_one, rfl, _, rfl, iteF ?_⟩
      refine ⟨_, rfl, .either a b, _, false, hs, rfl, by omega, sh_tree, rfl, _, rfl, iteF ?_⟩
      have e1 : max a.deep b.deep + 1 ≤ n + 1 := h1
      have e2 : max a.deep b.deep + 1 ≤ 4 := h2
      have hge : ¬ (flt (.either a b) (.rt i)).1 < (rk a).length := by
        show ¬ (rk a).length + (flt b i).1 < (rk a).length
        omega
      obtain ⟨p, y1, y2, rfl, hp, ha, hb⟩ := hs
      refine ⟨_, rfl, p, _, 1, _, rfl, rfl, hp, rfl, _, a, rfl, ha, by omega, by omega, fun r1 H1 s1 g1 => ?_⟩
      refine ⟨_, rfl, p, _, 2, _, rfl, rfl, same_tk s1 _ _ hp, rfl, _, b, rfl, ShV.tk (same_tk s1) hb, by omega, by omega, fun r2 H2 s2 g2 => ?_⟩
      refine ⟨(by show 2 ≤ sizeLine; decide), fun d hd => ?_⟩
      have s3 : Same H2 _ := same_new hd (.tup [r1, r2])
      have s03 := s1.trans (s2.trans s3)
      have hd3 : SqT K (upd H2 d (.tup [r1, r2])) d [r1, r2] := SqT.of upd_same
      have hp3 := same_tk s03 _ _ hp
      refine ⟨_, rfl, p, _, 0, _, rfl, rfl, hp3, rfl, _, _, false, rfl, rfl, by decide +kernel, _, rfl, iteF ?_⟩
      refine ⟨_, rfl, _, rfl, d, _, 0, _, rfl, rfl, hd3, rfl, _, rfl, d, _, 1, _, rfl, rfl, hd3, rfl, _, rfl, ?_⟩
      refine ⟨x, kl, ks, _, _, _, rk a, rk b, flt (.either a b) (.rt i), rfl, hk.same s03, g1.tk (same_tk (s2.trans s3)), g2.tk (same_tk s3), ro, hi.tk (same_tk s03), hth, hl, fun c => absurd c hge, fun _ p4 u4 H4 s4 g4 k4 => ?_⟩
      refine ⟨p4, _, rfl, g4, rfl, _, _, rfl, _, _, rfl, rfl, ?_⟩
      have s04 := s03.trans s4
      have k4' : ThV K H4 u4 (flt b i) := by
        have e : ((flt (.either a b) (.rt i)).1 - (rk a).length, (flt (.either a b) (.rt i)).2) = flt b i := by
          show ((rk a).length + (flt b i).1 - (rk a).length, (flt b i).2) = flt b i
          rw [Nat.add_sub_cancel_left]
        rw [e] at k4
        exact k4
      refine ⟨_, rfl, _, _, false, rfl, rfl, by decide +kernel, _, rfl, iteF ?_⟩
      refine ⟨_, rfl, _, rfl, p, _, 2, _, rfl, rfl, same_tk s04 _ _ hp, rfl, _, rfl, x, kl, ks, _, _, b, i, rfl, hk.same s04, ShV.tk (same_tk s04) hb, k4', hi0, by omega, by omega, hl, fun u5 H5 s5 g5 => ?_⟩
      exact ⟨(by show 2 ≤ sizeLine; decide), fun d2 hd2 => q _ _ (s04.trans (s5.trans (same_new hd2 _))) ⟨d2, _, rfl, SqT.of upd_same, ItV.tk (same_tk (same_new hd2 _)) g5⟩⟩
    | @pr a b i j hi0 hj0 =>
      refine ⟨_, rfl, .both a b, _, false, hs, rfl, by omega, sh_one, rfl, _, rfl, iteF ?_⟩
      refine ⟨_, rfl, .both a b, _, false, hs, rfl, by omega, sh_tree, rfl, _, rfl, iteF ?_⟩
      have e1 : max a.deep b.deep + 1 ≤ n + 1 := h1
      have e2 : max a.deep b.deep + 1 ≤ 4 := h2
      have e3 : ((flt a i).2 ++ (flt b j).2).length ≤ 1000 := hl
      rw [List.length_append] at e3
      obtain ⟨p, y1, y2, rfl, hp, ha, hb⟩ := hs
      refine ⟨_, rfl, p, _, 1, _, rfl, rfl, hp, rfl, _, a, rfl, ha, by omega, by omega, fun r1 H1 s1 g1 => ?_⟩
      refine ⟨_, rfl, p, _, 2, _, rfl, rfl, same_tk s1 _ _ hp, rfl, _, b, rfl, ShV.tk (same_tk s1) hb, by omega, by omega, fun r2 H2 s2 g2 => ?_⟩
      refine ⟨(by show 2 ≤ sizeLine; decide), fun d hd => ?_⟩
      have s3 : Same H2 _ := same_new hd (.tup [r1, r2])
      have s03 := s1.trans (s2.trans s3)
      have hd3 : SqT K (upd H2 d (.tup [r1, r2])) d [r1, r2] := SqT.of upd_same
      have hp3 := same_tk s03 _ _ hp
      refine ⟨_, rfl, p, _, 0, _, rfl, rfl, hp3, rfl, _, _, true, rfl, rfl, by decide +kernel, _, rfl, iteT ?_⟩
      refine ⟨_, rfl, _, rfl, d, _, 0, _, rfl, rfl, hd3, rfl, _, rfl, d, _, 1, _, rfl, rfl, hd3, rfl, _, rfl, ?_⟩
      refine ⟨x, kl, ks, _, _, _, rk a, rk b, flt a i, flt b j, rfl, hk.same s03, g1.tk (same_tk (s2.trans s3)), g2.tk (same_tk s3), rack_ok (by omega), rack_ok (by omega), ro, hi.tk (same_tk s03), flt_ok hi0, flt_ok hj0, e3, fun p4 u4 v4 H4 s4 g4 k4 m4 => ?_⟩
      refine ⟨p4, _, rfl, g4, rfl, _, _, rfl, _, _, rfl, rfl, ?_⟩
      have s04 := s03.trans s4
      refine ⟨_, rfl, _, rfl, p, _, 1, _, rfl, rfl, same_tk s04 _ _ hp, rfl, _, rfl, x, kl, ks, _, _, a, i, rfl, hk.same s04, ShV.tk (same_tk s04) ha, k4, hi0, by omega, by omega, by omega, fun u5 H5 s5 g5 => ?_⟩
      have s05 := s04.trans s5
      refine ⟨_, rfl, _, rfl, p, _, 2, _, rfl, rfl, same_tk s05 _ _ hp, rfl, _, rfl, x, kl, ks, _, _, b, j, rfl, hk.same s05, ShV.tk (same_tk s05) hb, m4.tk (same_tk s5), hj0, by omega, by omega, by omega, fun u6 H6 s6 g6 => ?_⟩
      exact ⟨(by show 2 ≤ sizeLine; decide), fun d2 hd2 => q _ _ (s05.trans (s6.trans (same_new hd2 _))) ⟨d2, _, _, rfl, SqT.of upd_same, ItV.tk (same_tk (s6.trans (same_new hd2 _))) g5, ItV.tk (same_tk (same_new hd2 _)) g6⟩⟩

def sp_folded (C : Addr) (K : PySem.W.Frag) : Sp := fun vs H Q _ => ∃ (x l : Addr) (ks : List Nat) (v t : V) (s : Shp) (i : Itm), vs = [.ref x, v, t] ∧ KindAt K C H x l ks ∧ ShV K H s v ∧ ThV K H t (flt s i) ∧ Of ks s i ∧ s.deep ≤ 4 ∧ (flt s i).2.length ≤ 1000 ∧ ∀ u H', Same H H' → ItV K H' i u → Q u H'
theorem sc_folded : FnScope ["kind", "shape", "thing"] ["kind", "shape", "thing"] (defScope s_folded) := ⟨rfl, rfl, rfl, by decide +kernel, rfl, by decide +kernel, by decide +kernel⟩
theorem ok_folded (T : Tp w K mg) : FnOk P w K mg base CX0 14 T.d_folded.f T.d_folded.fd ["kind", "shape", "thing"] (sp_folded T.C_Kind K) := by
  refine T.d_folded.F.ok sc_folded (fun vs H Q E h => ?_) (fun cdv A outer s H vs Q E hr h => ?_)
  · obtain ⟨_, _, _, _, _, _, _, rfl, _⟩ := h
    rfl
  obtain ⟨x, kl, ks, v, t, sh, i, rfl, hk, hs, hi, ho, h2, hl, q⟩ := h
  refine ⟨_, (pss_cons (ps_expr (pe_call (ok_asked_shape T) (hr.mono (by omega)) (by rfl) T.d_asked_shape.m T.d_asked_shape.F.kp T.d_asked_shape.b .nil pass0 (pa_cons (pv 1) pa_nil)))
    (pss_cons (ps_if (pt_not (pt_val (pe_call (ok_is_thing T) (hr.mono (by omega)) (by rfl) T.d_is_thing.m T.d_is_thing.F.kp T.d_is_thing.b .nil pass0 (pa_cons (pv 0) (pa_cons (pe_call (ok_rack_of T 4) (hr.mono (by omega)) (by rfl) T.d_rack_of.m T.d_rack_of.F.kp T.d_rack_of.b .nil pass0 (pa_cons (pv 1) pa_nil)) (pa_cons (pv 2) pa_nil)))))) (pss_one ps_never) pss_nil)
    (pss_one (ps_ret (pe_call (ok_put_up T 4) (hr.mono (by omega)) (by rfl) T.d_put_up.m T.d_put_up.F.kp T.d_put_up.b .nil pass0 (pa_cons (pv 0) (pa_cons (pv 1) (pa_cons (pv 2) pa_nil)))))))), ?_⟩
  refine ⟨_, rfl, v, sh, rfl, hs, h2, _, rfl, _, rfl, v, sh, rfl, hs, h2, h2, fun u1 H1 s1 g1 => ?_⟩
  refine ⟨_, rfl, _, _, rfl, g1, rack_ok h2, x, kl, ks, _, _, rk sh, flt sh i, rfl, hk.same s1, g1, hi.tk (same_tk s1), flt_ok ho, hl, fun H2 s2 => ⟨_, rfl, iteF ?_⟩⟩
  have s02 := s1.trans s2
  exact ⟨_, rfl, _, rfl, _, rfl, x, kl, ks, _, _, sh, i, rfl, hk.same s02, ShV.tk (same_tk s02) hs, hi.tk (same_tk s02), ho, h2, h2, hl, fun u H3 s3 g3 => q _ _ (s02.trans s3) g3⟩
end
end Bs
/-! The walk: how a kind is made; where a slot begins. -/
namespace Bs
open PySem PySem.Spec L2
def letters : Str := "abcdefghijklmnopqrstuvwxyz"
def NameOk (z : Str) : Prop := 1 ≤ z.length ∧ z.length ≤ 8 ∧ ∀ c ∈ z.cps.toList, c ∈ letters.cps.toList
structure RowsOk (rs : List (Str × Nat)) : Prop where
  lo : 2 ≤ rs.length
  hi : rs.length ≤ 5
  ok : ∀ r ∈ rs, NameOk r.1 ∧ r.2 ≤ 4
  un : (rs.map Prod.fst).Nodup
  leaf : 0 ∈ rs.map Prod.snd
  wide : ∃ k ∈ rs.map Prod.snd, 1 < k
theorem walk_rangeN {n : Nat} : Walk (Itr 0 n) n (fun _ => True) (YFn fun i => vi i) :=
  walk_range.mono (fun _ h => h) fun i H x H' _ _ ⟨h1, h2⟩ => ⟨h1, h2.trans (congrArg V.int (Int.zero_add _))⟩
section
variable {P : Program} {w : World} {K : PySem.W.Frag} {mg : Str → Option Value} {base : Heap}

def sp_is_name : Sp := fun vs H Q _ => ∃ z : Str, vs = [.str z] ∧ NameOk z ∧ ∀ H', Same H H' → Q (.bl true) H'
theorem sc_is_name : FnScope ["thing", "sign"] ["thing"] (defScope s_is_name) := ⟨rfl, rfl, rfl, by decide +kernel, rfl, by decide +kernel, by decide +kernel⟩
theorem ok_is_name (T : Tp w K mg) : FnOk P w K mg base CX0 1 T.d_is_name.f T.d_is_name.fd ["thing"] sp_is_name := by
  refine T.d_is_name.F.ok sc_is_name (fun vs H Q E h => ?_) (fun cdv A outer s H vs Q E hr h => ?_)
  · obtain ⟨_, rfl, _⟩ := h
    rfl
  obtain ⟨z, rfl, ⟨h1, h2, h3⟩, q⟩ := h
  refine ⟨_, (pss_cons (ps_if (PW.pt (pw_or (pt_not (pt_val (pe_callB call_isT (by rfl) T.n_isinstance (by decide +kernel) (pa_cons (pv 0) (pa_cons (pe_bltn (v := .ty "str") (by rfl) T.n_str (by decide +kernel) rfl) pa_nil))))) (pw_or1 (pt_not (pt_chain op_leN op_leN pe_int (pe_callB call_len_str (by rfl) T.n_len PySem.boot_len (pa_cons (pv 0) pa_nil)) (pe_cst (by rfl) T.c_MOST_LETTERS)))))) (pss_one (ps_ret pe_bl)) pss_nil)
    (pss_one (ps_ret (pe_callB (cr_all rfl) (by rfl) T.n_all (by decide +kernel) (pa_cons (pe_lc (own := [("sign", 1)]) rfl sc_is_name.nd (pi_str (pv 0)) (blkOk_by (N := ["thing", "sign"]) (sc := defScope s_is_name) (own := [("sign", 1)]) (by decide +kernel)) (fun _ _ _ _ _ => (pg_name (i := 1) sc_is_name.nd rfl (Or.inl rfl))) (fun _ _ _ _ _ => pts_nil) (fun _ _ _ _ _ => (pe_cmpR op_in_sign (pv 1) (pe_cst (by rfl) T.c_LETTERS) (by with_unfolding_all rfl)))) pa_nil))))), ?_⟩
  refine ⟨_, rfl, _, _, _, rfl, .strStr z, _, rfl, iteF ?_⟩
  have e1 : decide (1 ≤ z.length) = true := decide_eq_true h1
  have e2 : decide (z.length ≤ 8) = true := decide_eq_true h2
  refine ⟨_, rfl, z, rfl, sz (by omega), 1, z.length, rfl, rfl, true, congrArg V.bl e1, iteT ⟨z.length, 8, rfl, rfl, true, congrArg V.bl e2, iteF ?_⟩⟩
  refine ⟨_, rfl, z, rfl, fun D hD => ?_⟩
  refine lc_pure K z.cps.toList (fun _ => V.bl true) (by rw [Array.length_toList]; exact walk_str) (by rw [Array.length_toList]; show z.length ≤ _; omega) hD (fun _ _ => trivial) ?_ ?_
  · rintro i c y H1 H1' hc s1 ⟨rfl, c', hc', rfl⟩ N hN
    have ec : c' = c := by
      have : z.cps.toList[i]? = some c' := by rw [Array.getElem?_toList]; exact hc'
      rw [this] at hc
      exact Option.some.inj hc
    subst ec
    refine ⟨rfl, _, rfl, c', letters, rfl, rfl, ?_⟩
    rw [decide_eq_true (h3 c' (List.mem_of_getElem? hc))]
    exact hN _ (Same.refl _)
  · intro H1 g1 g2
    refine ⟨D, z.cps.toList.map fun _ => true, rfl, SqL.of (by rw [g1, List.map_map]; rfl), ?_⟩
    have e : (z.cps.toList.map fun _ => true).all id = true := by simp
    rw [e]
    exact q _ g2

def sp_is_maker_row (K : PySem.W.Frag) : Sp := fun vs H Q _ => ∃ (v : V) (r : Str × Nat), vs = [v] ∧ RowV K H v r ∧ NameOk r.1 ∧ r.2 ≤ 4 ∧ ∀ H', Same H H' → Q (.bl true) H'
theorem sc_is_maker_row : FnScope ["thing"] ["thing"] (defScope s_is_maker_row) := ⟨rfl, rfl, rfl, by decide +kernel, rfl, by decide +kernel, by decide +kernel⟩
theorem ok_is_maker_row (T : Tp w K mg) : FnOk P w K mg base CX0 2 T.d_is_maker_row.f T.d_is_maker_row.fd ["thing"] (sp_is_maker_row K) := by
  refine T.d_is_maker_row.F.ok sc_is_maker_row (fun vs H Q E h => ?_) (fun cdv A outer s H vs Q E hr h => ?_)
  · obtain ⟨_, _, rfl, _⟩ := h
    rfl
  obtain ⟨v, r, rfl, ⟨a, rfl, ha⟩, h1, h2, q⟩ := h
  refine ⟨_, (pss_cons (ps_if (PW.pt (pw_or (pt_not (pt_val (pe_callB call_isT (by rfl) T.n_isinstance (by decide +kernel) (pa_cons (pv 0) (pa_cons (pe_bltn (v := .ty "tuple") (by rfl) T.n_tuple (by decide +kernel) rfl) pa_nil))))) (pw_or1 (pt_cmpR op_neN (pe_callB call_lenT (by rfl) T.n_len PySem.boot_len (pa_cons (pv 0) pa_nil)) pe_int (nomark _))))) (pss_one (ps_ret pe_bl)) pss_nil)
    (pss_one (ps_ret (pe_and (pe_call (ok_is_name T) (hr.mono (by omega)) (by rfl) T.d_is_name.m T.d_is_name.F.kp T.d_is_name.b .nil pass0 (pa_cons (pe_ix ix_tupN (pv 0) pe_int (fun _ _ => rfl)) pa_nil)) (pe_one (pe_call (ok_is_whole T) (hr.mono (by omega)) (by rfl) T.d_is_whole.m T.d_is_whole.F.kp T.d_is_whole.b .nil pass0 (pa_cons (pe_ix ix_tupN (pv 0) pe_int (fun _ _ => rfl)) (pa_cons pe_int (pa_cons (pe_cst (by rfl) T.c_MOST_WITHIN) pa_nil))))))))), ?_⟩
  refine ⟨_, rfl, _, _, _, rfl, .tupTup ha, _, rfl, iteF ⟨_, rfl, a, _, rfl, ha, 2, 2, rfl, rfl, _, rfl, iteF ?_⟩⟩
  refine ⟨_, rfl, a, _, 0, _, rfl, rfl, ha, rfl, r.1, rfl, h1, fun H1 s1 => ⟨_, rfl, iteT ?_⟩⟩
  refine ⟨_, rfl, a, _, 1, _, rfl, rfl, same_tk s1 _ _ ha, rfl, r.2, 4, rfl, ?_⟩
  rw [decide_eq_true h2]
  exact q _ s1

def sp_are_makers (K : PySem.W.Frag) : Sp := fun vs H Q _ => ∃ (l : Addr) (ys : List V) (rs : List (Str × Nat)), vs = [.ref l] ∧ H l = some (.lst ys) ∧ Fits (RowV K H) ys rs ∧ RowsOk rs ∧ ∀ H', Same H H' → Q (.bl true) H'
theorem sc_are_makers : FnScope ["thing", "row", "name", "many", "numbers"] ["thing"] (defScope s_are_makers) := ⟨rfl, rfl, rfl, by decide +kernel, rfl, by decide +kernel, by decide +kernel⟩
theorem ok_are_makers (T : Tp w K mg) : FnOk P w K mg base CX0 3 T.d_are_makers.f T.d_are_makers.fd ["thing"] (sp_are_makers K) := by
  refine T.d_are_makers.F.ok sc_are_makers (fun vs H Q E h => ?_) (fun cdv A outer s H vs Q E hr h => ?_)
  · obtain ⟨_, _, _, rfl, _⟩ := h
    rfl
  obtain ⟨l, ys, rs, rfl, hl, hf, ok, q⟩ := h
  have hn := hf.len
  have h1 := ok.lo
  have h2 := ok.hi
  refine ⟨_, (pss_cons (ps_if (PW.pt (pw_or (pt_not (pt_val (pe_callB call_isT (by rfl) T.n_isinstance (by decide +kernel) (pa_cons (pv 0) (pa_cons (pe_bltn (v := .ty "list") (by rfl) T.n_list (by decide +kernel) rfl) pa_nil))))) (pw_or1 (pt_not (pt_chain op_leN op_leN pe_int (pe_callB call_lenL (by rfl) T.n_len PySem.boot_len (pa_cons (pv 0) pa_nil)) (pe_cst (by rfl) T.c_MOST_MAKERS)))))) (pss_one (ps_ret pe_bl)) pss_nil)
    (pss_cons (ps_if (PW.pt (pw_or (pt_not (pt_val (pe_callB (cr_all rfl) (by rfl) T.n_all (by decide +kernel) (pa_cons (pe_lc (own := [("row", 1)]) rfl sc_are_makers.nd (pi_list (pv 0)) (blkOk_by (N := ["thing", "row", "name", "many", "numbers"]) (sc := defScope s_are_makers) (own := [("row", 1)]) (by decide +kernel)) (fun _ _ _ _ _ => (pg_name (i := 1) sc_are_makers.nd rfl (Or.inl rfl))) (fun _ _ _ _ _ => pts_nil) (fun _ _ _ _ _ => (pe_call (ok_is_maker_row T) (hr.mono (by omega)) (by rfl) T.d_is_maker_row.m T.d_is_maker_row.F.kp T.d_is_maker_row.b .nil pass0 (pa_cons (pv 1) pa_nil)))) pa_nil)))) (pw_or1 (pt_cmpR op_ltN (pe_lenSetS (by rfl) T.n_len (by rfl) T.n_set (pe_lc (own := [("name", 2), ("many", 3)]) rfl sc_are_makers.nd (pi_list (pv 0)) (blkOk_by (N := ["thing", "row", "name", "many", "numbers"]) (sc := defScope s_are_makers) (own := [("name", 2), ("many", 3)]) (by decide +kernel)) (fun _ _ _ _ _ => (pg_tup2K (K := K) rfl rfl (pgs_cons (pg_name (i := 2) sc_are_makers.nd rfl (Or.inl rfl)) (pgs_cons (pg_name (i := 3) sc_are_makers.nd rfl (Or.inl rfl)) pgs_nil)))) (fun _ _ _ _ _ => pts_nil) (fun _ _ _ _ _ => (pv 2)))) (pe_callB call_lenL (by rfl) T.n_len PySem.boot_len (pa_cons (pv 0) pa_nil)) (nomark _))))) (pss_one (ps_ret pe_bl)) pss_nil)
    (pss_cons (ps_setLc (i := 4) (own := [("name", 2), ("many", 3)]) rfl sc_are_makers.nd rfl rfl (sw_true rfl rfl rfl (by decide +kernel)) (pi_list (pv 0)) (blkOk_by (N := ["thing", "row", "name", "many", "numbers"]) (sc := defScope s_are_makers) (own := [("name", 2), ("many", 3)]) (by decide +kernel)) (fun _ _ _ _ _ => (pg_tup2K (K := K) rfl rfl (pgs_cons (pg_name (i := 2) sc_are_makers.nd rfl (Or.inl rfl)) (pgs_cons (pg_name (i := 3) sc_are_makers.nd rfl (Or.inl rfl)) pgs_nil)))) (fun _ _ _ _ _ => pts_nil) (fun _ _ _ _ _ => (pv 3)))
    (pss_one (ps_ret (pe_and (pe_cmpR op_in_seq pe_int (pv 4) (by with_unfolding_all rfl)) (pe_one (pe_cmpR op_gtN (pe_callB (cr_max rfl) (by rfl) T.n_max (by decide +kernel) (pa_cons (pv 4) pa_nil)) pe_int (nomark _))))))))), ?_⟩
  refine ⟨_, rfl, _, _, _, rfl, .lst hl, _, rfl, iteF ?_⟩
  have c1 : decide (2 ≤ ys.length) = true := decide_eq_true (by omega)
  have c2 : decide (ys.length ≤ 5) = true := decide_eq_true (by omega)
  refine ⟨_, rfl, l, ys, rfl, SqL.of hl, 2, ys.length, rfl, rfl, true, congrArg V.bl c1, iteT ⟨ys.length, 5, rfl, rfl, true, congrArg V.bl c2, iteF ?_⟩⟩
  refine ⟨_, rfl, l, rfl, ⟨_, SqL.of hl⟩, fun D hD => ?_⟩
  refine lc_pure K rs (fun _ => V.bl true) (by rw [← hn]; exact walk_list) (by omega) hD (fun H' e => SqL.of (e _ _ hl)) ?_ ?_
  · rintro i r y H1 H1' hi s1 ⟨rfl, hy⟩ N hN
    obtain ⟨r', e1, hr'⟩ := hf.at_ hy
    rw [hi] at e1
    cases e1
    have ho := ok.ok r (List.mem_of_getElem? hi)
    exact ⟨rfl, _, rfl, y, r, rfl, hr'.tk (same_tk s1), ho.1, ho.2, fun H2 s2 => hN _ s2⟩
  intro H1 g1 s1
  refine ⟨D, rs.map fun _ => true, rfl, SqL.of (by rw [g1, List.map_map]; rfl), ?_⟩
  have e : (rs.map fun _ => true).all id = true := by simp
  rw [e]
  refine ⟨_, rfl, iteF ?_⟩
  have hl1 := s1 _ _ hl
  refine ⟨_, rfl, l, rfl, ⟨_, SqL.of hl1⟩, fun D2 hD2 => ?_⟩
  refine lc_pure K rs (fun r => V.str r.1) (by rw [← hn]; exact walk_list) (by omega) hD2 (fun H' e => SqL.of (e _ _ hl1)) ?_ ?_
  · rintro i r y H2 H2' hi s2 ⟨rfl, hy⟩ N hN
    obtain ⟨r', e1, a, rfl, ha⟩ := hf.at_ hy
    rw [hi] at e1
    cases e1
    exact ⟨a, _, rfl, same_tk (s1.trans s2) _ _ ha, rfl, _, _, rfl, _, _, rfl, rfl, rfl, _, rfl, hN _ (Same.refl _)⟩
  intro H2 g2 s2
  have s02 := s1.trans s2
  have hl2 := s02 _ _ hl
  refine ⟨D2, rs.map Prod.fst, rfl, SqL.of (by rw [g2, List.map_map]; rfl), by rw [List.length_map]; omega, ok.un, ?_⟩
  refine ⟨_, rfl, l, ys, rfl, SqL.of hl2, (rs.map Prod.fst).length, ys.length, rfl, rfl, _, rfl, ?_⟩
  rw [List.length_map, decide_eq_false (by omega : ¬ rs.length < ys.length)]
  refine iteF ?_
  refine ⟨_, rfl, l, rfl, ⟨_, SqL.of hl2⟩, fun D3 hD3 => ?_⟩
  refine lc_pure K rs (fun r => vi r.2) (by rw [← hn]; exact walk_list) (by omega) hD3 (fun H' e => SqL.of (e _ _ hl2)) ?_ ?_
  · rintro i r y H3 H3' hi s3 ⟨rfl, hy⟩ N hN
    obtain ⟨r', e1, a, rfl, ha⟩ := hf.at_ hy
    rw [hi] at e1
    cases e1
    exact ⟨a, _, rfl, same_tk (s02.trans s3) _ _ ha, rfl, _, _, rfl, _, _, rfl, rfl, rfl, _, rfl, hN _ (Same.refl _)⟩
  intro H3 g3 s3
  have e3 : rs.map (fun r => vi r.2) = (rs.map fun r => (r.2 : Int)).map V.int := by rw [List.map_map]; rfl
  have hD3' : SqL K H3 D3 ((rs.map fun r => (r.2 : Int)).map V.int) := SqL.of (by rw [g3, e3])
  refine ⟨_, rfl, D3, _, rfl, .inl hD3', rfl, by simp [flatV], ?_⟩
  have e4 : inV (.int 0) ((rs.map fun r => (r.2 : Int)).map V.int) = true := by
    unfold inV
    rw [List.any_eq_true]
    refine ⟨.int 0, ?_, by decide⟩
    obtain ⟨r, hr1, hr2⟩ := List.mem_map.mp ok.leaf
    exact List.mem_map.mpr ⟨0, List.mem_map.mpr ⟨r, hr1, by rw [hr2]; rfl⟩, rfl⟩
  have e5 : (if false then !inV (.int 0) ((rs.map fun r => (r.2 : Int)).map V.int) else inV (.int 0) ((rs.map fun r => (r.2 : Int)).map V.int)) = true := e4
  refine ⟨true, congrArg V.bl e5, iteT ?_⟩
  refine ⟨_, rfl, D3, _, rfl, hD3', by rw [List.length_map]; omega, fun m hm hle => ?_⟩
  obtain ⟨r, hr1, hr2⟩ := List.mem_map.mp hm
  obtain ⟨k, hk1, hk2⟩ := ok.wide
  obtain ⟨r2, hr3, hr4⟩ := List.mem_map.mp hk1
  have h9 := hle _ (List.mem_map.mpr ⟨r2, hr3, rfl⟩)
  refine ⟨r.2, 1, congrArg V.int hr2.symm, rfl, ?_⟩
  rw [decide_eq_true (by omega : 1 < r.2)]
  exact q _ (s02.trans s3)

def sp_kind_init (C : Addr) (K : PySem.W.Frag) : Sp := fun vs H Q _ => ∃ (p dx l : Addr) (ys : List V) (rs : List (Str × Nat)), vs = [.ref p, .ref l] ∧ H p = some (.ins C dx []) ∧ H l = some (.lst ys) ∧ Fits (RowV K H) ys rs ∧ RowsOk rs ∧
  ∀ l2 H', But p H H' → KindAt K C H' p l2 (rs.map Prod.snd) → H l2 = none → Q .non H'
theorem sc_Kind___init__ : FnScope ["self", "makers"] ["self", "makers"] (defScope s_Kind___init__) := ⟨rfl, rfl, rfl, by decide +kernel, rfl, by decide +kernel, by decide +kernel⟩
theorem ok_Kind___init__ (T : Tp w K mg) : FnOk P w K mg base CX0 4 T.d_Kind___init__.f T.d_Kind___init__.fd ["self", "makers"] (sp_kind_init T.C_Kind K) := by
  refine T.d_Kind___init__.F.ok sc_Kind___init__ (fun vs H Q E h => ?_) (fun cdv A outer s H vs Q E hr h => ?_)
  · obtain ⟨_, _, _, _, _, rfl, _⟩ := h
    rfl
  obtain ⟨p, dx, l, ys, rs, rfl, hp, hl, hf, ok, q⟩ := h
  refine ⟨_, (pss_cons (ps_if (pt_not (pt_val (pe_call (ok_are_makers T) (hr.mono (by omega)) (by rfl) T.d_are_makers.m T.d_are_makers.F.kp T.d_are_makers.b .nil pass0 (pa_cons (pv 1) pa_nil)))) (pss_one ps_never) pss_nil)
    (pss_one (ps_fld (pv 0) (pe_callTy call_list_of (by rfl) T.n_list (by decide +kernel) (pa_cons (pv 1) pa_nil)) rfl))), ?_⟩
  refine ⟨_, rfl, l, ys, rs, rfl, hl, hf, ok, fun H1 s1 => ⟨_, rfl, iteF ?_⟩⟩
  refine ⟨_, rfl, l, ys, rfl, .inl (SqL.of (s1 _ _ hl)), fun l2 hl2 => ?_⟩
  have hp2 : (upd H1 l2 (.lst ys)) p = some (.ins T.C_Kind dx []) := by rw [upd_ne (ne_of_none (s1 _ _ hp) hl2)]; exact s1 _ _ hp
  refine ⟨_, rfl, p, _, dx, [], rfl, hp2, T.cl_Kind, T.a_Kind_rows, (by show 0 < 1000; decide), ?_⟩
  have n1 : l2 ≠ p := (ne_of_none (s1 _ _ hp) hl2).symm
  have s2 := s1.trans (same_new hl2 (.lst ys))
  have b3 : But p H (upd (upd H1 l2 (.lst ys)) p (.ins T.C_Kind dx (putF "rows" (.ref l2) []))) := fun b o n e => by rw [upd_ne n]; exact s2 _ _ e
  have tk : Tk K H (upd (upd H1 l2 (.lst ys)) p (.ins T.C_Kind dx (putF "rows" (.ref l2) []))) := by
    rintro a xs ((h | ⟨o, h⟩) | h)
    · exact .inl (.inl (b3 _ _ (ne_of h hp (by intro z; cases z)) h))
    · exact .inl (.inr ⟨o, b3 _ _ (ne_of h hp (by intro z; cases z)) h⟩)
    · exact .inr h
  refine q l2 _ b3 ⟨dx, ys, rs, upd_same, by rw [upd_ne n1, upd_same], hf.imp fun v b _ k => k.tk tk, rfl, by rw [List.length_map]; exact ok.lo, by rw [List.length_map]; exact ok.hi, fun k hk => ?_⟩ (s1.free hl2)
  obtain ⟨r, h1, h2⟩ := List.mem_map.mp hk
  rw [← h2]
  exact (ok.ok r h1).2

/-! ### where a slot begins -/
def sp_tree_end (C : Addr) (K : PySem.W.Frag) : Sp := fun vs H Q _ => ∃ (x l : Addr) (ks : List Nat) (v : V) (a t b : List Nat), vs = [.ref x, v, vi a.length] ∧ KindAt K C H x l ks ∧ NumsV K H v (a ++ (t ++ b)) ∧ Rows ks 1 t ∧ Q (vi (a ++ t).length) H
theorem sc_tree_end : FnScope ["kind", "row", "at", "wanted"] ["kind", "row", "at"] (defScope s_tree_end) := ⟨rfl, rfl, rfl, by decide +kernel, rfl, by decide +kernel, by decide +kernel⟩
theorem ok_tree_end (T : Tp w K mg) : FnOk P w K mg base CX0 4 T.d_tree_end.f T.d_tree_end.fd ["kind", "row", "at"] (sp_tree_end T.C_Kind K) := by
  refine T.d_tree_end.F.ok sc_tree_end (fun vs H Q E h => ?_) (fun cdv A outer s H vs Q E hr h => ?_)
  · obtain ⟨_, _, _, _, _, _, _, rfl, _⟩ := h
    rfl
  obtain ⟨x, kl, ks, v, a, t, b, rfl, hk, hv, ht, q⟩ := h
  obtain ⟨dx, _, _, hx, _⟩ := id hk
  refine ⟨_, (pss_cons (ps_set (i := 3) sc_tree_end.nd rfl (Or.inl rfl) pe_int)
    (pss_cons (ps_while PassesOwn.never (pt_cmpR op_gtN (pv 3) pe_int (nomark _))
    (pss_cons (ps_set (i := 3) sc_tree_end.nd rfl (Or.inl rfl) (pe_op op_subN (pv 3) pe_int))
    (pss_cons (ps_if (pt_cmpR op_ne (pe_ix ix_nums (pv 1) (pv 2) (fun _ _ => rfl)) (pe_cst (by rfl) T.c_HOLE) (nomark _)) (pss_one (ps_set (i := 3) sc_tree_end.nd rfl (Or.inl rfl) (pe_op op_addN (pv 3) (pe_meth (pv 0) T.cl_Kind T.d_Kind_within.me (ok_Kind_within T) (hr.mono (by omega)) T.d_Kind_within.b .nil pass0 (pa_cons (pe_ix ix_nums (pv 1) (pv 2) (fun _ _ => rfl)) pa_nil))))) pss_nil)
    (pss_one (ps_set (i := 2) sc_tree_end.nd rfl (Or.inl rfl) (pe_op op_addN (pv 2) pe_int))))))
    (pss_one (ps_ret (pv 2))))), ?_⟩
  refine while_by (fun σ H' => H' = H ∧ ∃ (n : Nat) (c d : List Nat), σ = [some (.ref x), some v, some (vi c.length), some (vi n)] ∧ c ++ d = a ++ t ∧ Rows ks n d)
    (fun (σ : L2.St) _ => match σ[2]? with | some (some (V.int i)) => (a ++ t).length - i.toNat | _ => 0) ⟨rfl, 1, a, t, rfl, rfl, ht⟩ ?_ (fun σ H Q Q' h ⟨v, e, a, b, h1, h2, k, e2, q⟩ => ⟨v, e, a, b, h1, h2, k, e2, h _ _ q⟩)
  rintro σ H1 ⟨rfl, n, c, d, rfl, hcd, hd⟩
  refine ⟨_, rfl, n, 0, rfl, rfl, _, rfl, ?_⟩
  refine ite2 (fun cc => ?_) (fun cc => ?_)
  · have c' : 0 < n := of_decide_eq_true cc
    rcases hd.inv with ⟨e, _⟩ | ⟨j, m, r, e1, e2, hm, hr2⟩
    · omega
    subst e1 e2
    have erow : a ++ (t ++ b) = c ++ (m :: (r ++ b)) := by rw [← List.append_assoc, ← hcd]; simp
    have hlt : c.length < (a ++ (t ++ b)).length := by rw [erow]; simp
    have eget : (a ++ (t ++ b)).getD c.length 0 = m := by
      rw [erow, List.getD_eq_getElem?_getD, List.getElem?_append_right (Nat.le_refl _), Nat.sub_self]; rfl
    refine ⟨_, rfl, j + 1, 1, rfl, rfl, by omega, ?_⟩
    refine ⟨_, rfl, _, rfl, a ++ (t ++ b), c.length, hv, rfl, hlt, ?_⟩
    rw [eget]
    refine ⟨rfl, _, rfl, ?_⟩
    have e0 : (!decide (vi m = V.int (-1))) = true := by
      have : ¬ vi m = V.int (-1) := fun z => by
        have := V.int.inj z
        omega
      rw [decide_eq_false this]
      rfl
    rw [e0]
    refine iteT ?_
    have ej : j + 1 - 1 = j := rfl
    refine ⟨_, rfl, _, rfl, x, dx, _, rfl, hx, no_meth (by decide +kernel), _, rfl, _, rfl, a ++ (t ++ b), c.length, hv, rfl, hlt, x, kl, ks, m, by rw [eget]; rfl, hk, hm, j, ks.getD m 0, rfl, rfl, ?_⟩
    refine ⟨_, rfl, c.length, 1, rfl, rfl, ⟨rfl, j + ks.getD m 0, c ++ [m], r, ?_, by rw [← hcd]; simp, hr2⟩, ?_⟩
    · rw [List.length_append]; rfl
    · show (a ++ t).length - ((c.length + 1 : Nat) : Int).toNat < (a ++ t).length - ((c.length : Nat) : Int).toNat
      rw [← hcd]
      simp only [List.length_append, List.length_cons, Int.toNat_natCast]
      omega
  · have c' : ¬ 0 < n := of_decide_eq_false (Bool.eq_false_iff.mpr cc)
    have en : n = 0 := by omega
    subst en
    have ed := hd.zero
    subst ed
    rw [List.append_nil] at hcd
    subst hcd
    exact ⟨_, rfl, q⟩

def sp_slot_begin (C : Addr) (K : PySem.W.Frag) : Sp := fun vs H Q _ => ∃ (x l : Addr) (ks : List Nat) (v : V) (row : List Nat) (n sl : Nat), vs = [.ref x, v, vi sl] ∧ KindAt K C H x l ks ∧ NumsV K H v row ∧ Rows ks n row ∧ sl ≤ n ∧ n ≤ 1000 ∧ Q (vi (tlen ks sl row)) H
theorem sc_slot_begin : FnScope ["kind", "row", "slot", "at", "k"] ["kind", "row", "slot"] (defScope s_slot_begin) := ⟨rfl, rfl, rfl, by decide +kernel, rfl, by decide +kernel, by decide +kernel⟩
theorem ok_slot_begin (T : Tp w K mg) : FnOk P w K mg base CX0 5 T.d_slot_begin.f T.d_slot_begin.fd ["kind", "row", "slot"] (sp_slot_begin T.C_Kind K) := by
  refine T.d_slot_begin.F.ok sc_slot_begin (fun vs H Q E h => ?_) (fun cdv A outer s H vs Q E hr h => ?_)
  · obtain ⟨_, _, _, _, _, _, _, rfl, _⟩ := h
    rfl
  obtain ⟨x, kl, ks, v, row, n, sl, rfl, hk, hv, hrow, hs, hn, q⟩ := h
  refine ⟨_, (pss_cons (ps_set (i := 3) sc_slot_begin.nd rfl (Or.inl rfl) pe_int)
    (pss_cons (ps_for PassesOwn.never rfl (pi_range1 (by rfl) T.n_range (pa_cons (pv 2) pa_nil)) (pg_name (i := 4) sc_slot_begin.nd rfl (Or.inl rfl))
    (pss_one (ps_set (i := 3) sc_slot_begin.nd rfl (Or.inl rfl) (pe_call (ok_tree_end T) (hr.mono (by omega)) (by rfl) T.d_tree_end.m T.d_tree_end.F.kp T.d_tree_end.b .nil pass0 (pa_cons (pv 0) (pa_cons (pv 1) (pa_cons (pv 3) pa_nil)))))))
    (pss_one (ps_ret (pv 3))))), ?_⟩
  refine ⟨_, rfl, (sl : Int), rfl, by omega, by omega, for_it (n := sl) walk_rangeN (fun i σ H' => H' = H ∧ ∃ u, σ = [some (.ref x), some v, some (vi sl), some (vi (tlen ks i row)), u]) ⟨rfl, none, by cases row <;> rfl⟩ (fun _ _ _ _ _ => trivial) ?_ ?_⟩
  · rintro i y σ H1 H1' hi ⟨rfl, u, rfl⟩ ⟨rfl, rfl⟩
    have e : n = i + (1 + (n - 1 - i)) := by omega
    rw [e] at hrow
    obtain ⟨a, r, e1, ha, hr1⟩ := Rows.split row _ _ hrow
    obtain ⟨t, b, e2, ht, hb⟩ := Rows.split r _ _ hr1
    have t1 : tlen ks i row = a.length := by rw [e1]; exact tlen_rows ha _
    have t2 : tlen ks (i + 1) row = (a ++ t).length := by
      rw [e1, e2, ← List.append_assoc]
      exact tlen_rows (ha.app ht) _
    rw [t1]
    refine ⟨_, rfl, _, rfl, _, rfl, x, kl, ks, v, a, t, b, rfl, hk, by rw [← e2, ← e1]; exact hv, ht, ?_⟩
    exact ⟨rfl, _, by rw [t2]; rfl⟩
  · rintro σ H1 ⟨rfl, u, rfl⟩
    exact ⟨_, rfl, q⟩
end
end Bs
/-! The walk: steps. -/
namespace Bs
open PySem PySem.Spec L2
inductive Stp where
  | opn (p sl : Nat) | cls (p sl : Nat) | ord (ps : List Nat)
def StpV (K : PySem.W.Frag) (H : Hp) (v : V) : Stp → Prop
  | .opn p sl => ∃ a, v = .ref a ∧ SqT K H a [.str "open", vi p, vi sl]
  | .cls p sl => ∃ a, v = .ref a ∧ SqT K H a [.str "close", vi p, vi sl]
  | .ord ps => ∃ a b, v = .ref a ∧ SqT K H a [.str "order", .ref b] ∧ FrzT H b (ps.map vi)
theorem StpV.same {K : PySem.W.Frag} {H H' : Hp} {v : V} (t : Same H H') : ∀ {s : Stp}, StpV K H v s → StpV K H' v s
  | .opn _ _, ⟨a, e, h⟩ => ⟨a, e, same_tk t _ _ h⟩
  | .cls _ _, ⟨a, e, h⟩ => ⟨a, e, same_tk t _ _ h⟩
  | .ord _, ⟨a, b, e, h, g⟩ => ⟨a, b, e, same_tk t _ _ h, g.same t⟩
/-- the step can be done on the rack -/
def StOk (r : List Nat) : Stp → Prop
  | .opn p sl => ∃ n, r[p]? = some n ∧ sl < n
  | .ord ps => ps.length = r.length ∧ ps.Nodup ∧ ∀ q ∈ ps, q < r.length
  | .cls _ _ => False
def aft (ks r : List Nat) : Stp → List Nat
  | .opn p _ => opnR ks r p
  | .ord ps => ps.map fun q => r.getD q 0
  | .cls _ _ => []
def undo : Stp → Stp
  | .opn p sl => .cls p sl
  | .cls p sl => .opn p sl
  | .ord ps => .ord ((List.range ps.length).map fun m => ps.idxOf m)
def mv (ks : List Nat) : Stp → Thg → Thg
  | .opn p sl, x => opn ks p sl x
  | .cls p sl, x => cls ks p sl x
  | .ord ps, x => (ps.idxOf x.1, x.2)
/-- the step can move the thing -/
def MvOk (ks : List Nat) : Stp → Thg → Prop
  | .opn p sl, x => x.2.length ≤ 1000 ∧ (x.1 = p → ∃ n, Rows ks n x.2 ∧ sl < n ∧ n ≤ 1000)
  | .cls p sl, x => x.2.length ≤ 1000 ∧ (p ≤ x.1 → x.1 ≤ p + (ks.length - 1) → ∃ n, Rows ks n x.2 ∧ sl ≤ n ∧ n ≤ 1000)
  | .ord ps, x => x.1 ∈ ps
theorem merge_at : ∀ (ps : List Nat) (k : Nat) (acc : List (Key × V)) (m : Nat), ps.Nodup →
    valV (mergeK acc ((ps.zipIdx k).map fun (q : Nat × Nat) => ((Sum.inl (q.1 : Int) : Key), vi q.2))) (Sum.inl (m : Int) : Key) = if m ∈ ps then some (vi (k + ps.idxOf m)) else valV acc (Sum.inl (m : Int) : Key)
  | [], k, acc, m, _ => by simp [mergeK]
  | a :: ps, k, acc, m, hn => by
    obtain ⟨h1, h2⟩ := List.nodup_cons.mp hn
    show valV (mergeK (putK acc (Sum.inl (a : Int) : Key) (vi k)) ((ps.zipIdx (k + 1)).map fun (q : Nat × Nat) => ((Sum.inl (q.1 : Int) : Key), vi q.2))) (Sum.inl (m : Int) : Key) = _
    rw [merge_at ps (k + 1) _ m h2]
    by_cases c : m ∈ ps
    · have ne : ¬ a = m := fun z => h1 (by rw [z]; exact c)
      rw [if_pos c, if_pos (List.mem_cons_of_mem _ c), List.idxOf_cons, beq_eq_false_iff_ne.mpr ne]
      have e : k + 1 + ps.idxOf m = k + (ps.idxOf m + 1) := by omega
      rw [e]
      rfl
    · rw [if_neg c, valV_put]
      by_cases e : m = a
      · subst e
        rw [if_pos rfl, if_pos List.mem_cons_self, List.idxOf_cons, beq_self_eq_true]
        rfl
      · have ne : ¬ (Sum.inl (m : Int) : Key) = Sum.inl (a : Int) := fun z => e (Int.ofNat.inj (Sum.inl.inj z))
        rw [if_neg ne, if_neg]
        intro z
        rcases List.mem_cons.mp z with z | z
        · exact e z
        · exact c z
section
variable {P : Program} {w : World} {K : PySem.W.Frag} {mg : Str → Option Value} {base : Heap}

def sp_opened_forms (C : Addr) (K : PySem.W.Frag) : Sp := fun vs H Q _ => ∃ (x l : Addr) (ks : List Nat) (n : Nat), vs = [.ref x, vi n] ∧ KindAt K C H x l ks ∧ 1 ≤ n ∧ ∀ v H', Same H H' → NumsV K H' v (ks.map fun k => n - 1 + k) → Q v H'
theorem sc_opened_forms : FnScope ["kind", "many", "maker"] ["kind", "many"] (defScope s_opened_forms) := ⟨rfl, rfl, rfl, by decide +kernel, rfl, by decide +kernel, by decide +kernel⟩
theorem ok_opened_forms (T : Tp w K mg) : FnOk P w K mg base CX0 4 T.d_opened_forms.f T.d_opened_forms.fd ["kind", "many"] (sp_opened_forms T.C_Kind K) := by
  refine T.d_opened_forms.F.ok sc_opened_forms (fun vs H Q E h => ?_) (fun cdv A outer s H vs Q E hr h => ?_)
  · obtain ⟨_, _, _, _, rfl, _⟩ := h
    rfl
  obtain ⟨x, kl, ks, n, rfl, hk, hn, q⟩ := h
  have hl := hk.len
  obtain ⟨dx, _, _, hx, _⟩ := id hk
  refine ⟨_, (pss_one (ps_ret (pe_callTy call_tuple_of (by rfl) T.n_tuple (by decide +kernel) (pa_cons (pe_lc (own := [("maker", 2)]) rfl sc_opened_forms.nd (pi_range1 (by rfl) T.n_range (pa_cons (pe_callB (call_lenO (ok_Kind___len__ T) (hr.mono (by omega)) T.d_Kind___len__.me.at_ T.d_Kind___len__.me.fn T.d_Kind___len__.b pass0) (by rfl) T.n_len PySem.boot_len (pa_cons (pv 0) pa_nil)) pa_nil)) (blkOk_by (N := ["kind", "many", "maker"]) (sc := defScope s_opened_forms) (own := [("maker", 2)]) (by decide +kernel)) (fun _ _ _ _ _ => (pg_name (i := 2) sc_opened_forms.nd rfl (Or.inl rfl))) (fun _ _ _ _ _ => pts_nil) (fun _ _ _ _ _ => (pe_op op_addN (pe_op op_subN (pv 1) pe_int) (pe_meth (pv 0) T.cl_Kind T.d_Kind_within.me (ok_Kind_within T) (hr.mono (by omega)) T.d_Kind_within.b .nil pass0 (pa_cons (pv 2) pa_nil))))) pa_nil)))), ?_⟩
  refine ⟨_, rfl, x, dx, _, rfl, hx, x, kl, ks, rfl, hk, ks.length, rfl, by omega, (ks.length : Int), rfl, by omega, by omega, fun D hD => ?_⟩
  refine lc_pure K ks (fun k => vi (n - 1 + k)) (walk_rangeN (n := ks.length)) (by omega) hD (fun _ _ => trivial) ?_ ?_
  · rintro i k y H1 H1' hi s1 ⟨rfl, rfl⟩ N hN
    have hi2 : i < ks.length := (List.getElem?_eq_some_iff.mp hi).1
    have eg : ks.getD i 0 = k := by rw [List.getD_eq_getElem?_getD, hi]; rfl
    refine ⟨rfl, _, rfl, n, 1, rfl, rfl, hn, _, rfl, x, dx, _, rfl, s1 _ _ hx, no_meth (by decide +kernel), _, rfl, x, kl, ks, i, rfl, hk.same s1, hi2, n - 1, k, rfl, by rw [eg], hN _ (Same.refl _)⟩
  · intro H1 g1 g2
    have e : ks.map (fun k => vi (n - 1 + k)) = (ks.map fun k => n - 1 + k).map vi := by rw [List.map_map]; rfl
    refine ⟨D, _, rfl, .inl ⟨SqL.of g1, fun t ht => ?_⟩⟩
    rw [e]
    exact q _ _ (g2.trans (same_new ht _)) NumsV.new

def sp_is_order (K : PySem.W.Frag) : Sp := fun vs H Q _ => ∃ (v u : V) (r ps : List Nat), vs = [v, u] ∧ NumsV K H v r ∧ NumsV K H u ps ∧ ps.length = r.length ∧ ps.Nodup ∧ (∀ q ∈ ps, q < r.length) ∧ r.length ≤ 1000 ∧ ∀ H', Same H H' → Q (.bl true) H'
theorem sc_is_order : FnScope ["rack", "places", "seen", "place"] ["rack", "places"] (defScope s_is_order) := ⟨rfl, rfl, rfl, by decide +kernel, rfl, by decide +kernel, by decide +kernel⟩
theorem ok_is_order (T : Tp w K mg) : FnOk P w K mg base CX0 2 T.d_is_order.f T.d_is_order.fd ["rack", "places"] (sp_is_order K) := by
  refine T.d_is_order.F.ok sc_is_order (fun vs H Q E h => ?_) (fun cdv A outer s H vs Q E hr h => ?_)
  · obtain ⟨_, _, _, _, rfl, _⟩ := h
    rfl
  obtain ⟨v, u, r, ps, rfl, hv, hu0, hl, hnd, hlt, hz, q⟩ := h
  have hu := hu_of hr
  obtain ⟨a, rfl, ha⟩ := id hu0
  refine ⟨_, (pss_cons (ps_if (PW.pt (pw_or (pt_not (pt_val (pe_callB call_isT (by rfl) T.n_isinstance (by decide +kernel) (pa_cons (pv 1) (pa_cons (pe_bltn (v := .ty "tuple") (by rfl) T.n_tuple (by decide +kernel) rfl) pa_nil))))) (pw_or1 (pt_cmpR op_neN (pe_callB call_lenN (by rfl) T.n_len PySem.boot_len (pa_cons (pv 1) pa_nil)) (pe_callB call_lenN (by rfl) T.n_len PySem.boot_len (pa_cons (pv 0) pa_nil)) (nomark _))))) (pss_one (ps_ret pe_bl)) pss_nil)
    (pss_cons (ps_set (i := 2) sc_is_order.nd rfl (Or.inl rfl) pe_dnewK)
    (pss_cons (ps_for PassesOwn.never rfl (pi_tup (pv 1)) (pg_name (i := 3) sc_is_order.nd rfl (Or.inl rfl))
    (pss_cons (ps_if (PW.pt (pw_or (pt_not (pt_val (pe_call (ok_is_whole T) (hr.mono (by omega)) (by rfl) T.d_is_whole.m T.d_is_whole.F.kp T.d_is_whole.b .nil pass0 (pa_cons (pv 3) (pa_cons pe_int (pa_cons (pe_op op_subN (pe_callB call_lenN (by rfl) T.n_len PySem.boot_len (pa_cons (pv 0) pa_nil)) pe_int) pa_nil)))))) (pw_or1 (pt_cmp (pc_din hu (pv 3) (pv 2)))))) (pss_one (ps_ret pe_bl)) pss_nil)
    (pss_one (ps_dput hu (pv 2) (pv 3) pe_bl rfl))))
    (pss_one (ps_ret pe_bl))))), ?_⟩
  refine ⟨_, rfl, _, _, _, rfl, .tupTup ha, _, rfl, iteF ?_⟩
  refine ⟨_, rfl, _, ps, rfl, hu0, _, rfl, _, r, rfl, hv, ps.length, r.length, rfl, rfl, _, rfl, ?_⟩
  rw [decide_eq_true hl]
  refine iteF ?_
  intro d hd
  refine ⟨_, rfl, a, rfl, ⟨_, same_tk (same_new hd _) _ _ ha⟩, for_it walk_tup (fun i σ H' => ∃ (u1 : Option V) (kvs : List (Key × V)), σ = [some v, some (.ref a), some (.ref d), u1] ∧ Same H H' ∧ H' d = some (.dK kvs) ∧ kvs.length ≤ i ∧ ∀ m : Nat, m ∉ ps.take i → valV kvs (Sum.inl (m : Int) : Key) = none)
    ⟨none, [], rfl, same_new hd _, upd_same, Nat.le_refl _, fun m _ => rfl⟩ (fun i σ H' _ ⟨_, _, _, e, _⟩ => same_tk e _ _ ha) ?_ ?_⟩
  · rintro i y σ H1 H1' hi ⟨u1, kvs, rfl, s1, h1, h2, h3⟩ ⟨rfl, hy⟩
    obtain ⟨m, hm, rfl⟩ := nums_get hy
    rw [List.length_map] at hi
    have hmr := hlt m (List.mem_of_getElem? hm)
    refine ⟨_, rfl, _, rfl, _, r, rfl, hv.tk (same_tk s1), r.length, 1, rfl, rfl, by omega, m, r.length - 1, rfl, ?_⟩
    rw [decide_eq_true (by omega : m ≤ r.length - 1)]
    refine ⟨_, rfl, iteF ?_⟩
    have hnew : m ∉ ps.take i := fun z => by
      obtain ⟨j, hj, e⟩ := List.getElem_of_mem z
      rw [List.length_take] at hj
      rw [List.getElem_take] at e
      have e2 : ps[i] = m := (List.getElem?_eq_some_iff.mp hm).2
      exact List.pairwise_iff_getElem.mp hnd j i (by omega) hi (by omega) (e.trans e2.symm)
    have hnone := h3 m hnew
    refine ⟨_, rfl, _, rfl, d, _, rfl, DGet.k (k := Sum.inl (m : Int)) h1, ?_⟩
    rw [hnone]
    refine ⟨_, rfl, iteF ?_⟩
    refine ⟨_, rfl, _, rfl, d, _, rfl, DPut.k (k := Sum.inl (m : Int)) h1 (sz' (by omega)), ?_⟩
    refine ⟨_, _, rfl, fun c o e => ?_, upd_same, ?_, fun j hj => ?_⟩
    · rw [upd_ne (ne_of_none e hd)]
      exact s1 _ _ e
    · rw [putK_new _ hnone, List.length_append, List.length_singleton]
      omega
    · have hj2 : j ∉ ps.take i ∧ j ≠ m := by
        rw [List.take_succ, hm] at hj
        constructor
        · intro z
          exact hj (List.mem_append_left _ z)
        · rintro rfl
          exact hj (List.mem_append_right _ (by simp))
      have ne : ¬ (Sum.inl (j : Int) : Key) = Sum.inl (m : Int) := fun z => hj2.2 (Int.ofNat.inj (Sum.inl.inj z))
      rw [valV_put, if_neg ne]
      exact h3 j hj2.1
  · rintro σ H1 ⟨u1, kvs, rfl, s1, _⟩
    exact q _ s1

def sp_can_do (C : Addr) (K : PySem.W.Frag) : Sp := fun vs H Q _ => ∃ (x l : Addr) (ks : List Nat) (v u : V) (r : List Nat) (st : Stp), vs = [.ref x, v, u] ∧ KindAt K C H x l ks ∧ NumsV K H v r ∧ RackOk r ∧ StpV K H u st ∧ StOk r st ∧ ∀ H', Same H H' → Q (.bl true) H'
theorem sc_can_do : FnScope ["kind", "rack", "step", "word", "place", "slot"] ["kind", "rack", "step"] (defScope s_can_do) := ⟨rfl, rfl, rfl, by decide +kernel, rfl, by decide +kernel, by decide +kernel⟩
theorem ok_can_do (T : Tp w K mg) : FnOk P w K mg base CX0 4 T.d_can_do.f T.d_can_do.fd ["kind", "rack", "step"] (sp_can_do T.C_Kind K) := by
  refine T.d_can_do.F.ok sc_can_do (fun vs H Q E h => ?_) (fun cdv A outer s H vs Q E hr h => ?_)
  · obtain ⟨_, _, _, _, _, _, _, rfl, _⟩ := h
    rfl
  obtain ⟨x, kl, ks, v, u, r, st, rfl, hk, hv, ho, hs, hok, q⟩ := h
  refine ⟨_, (pss_cons (ps_expr (pe_call (ok_rack_unless T) (hr.mono (by omega)) (by rfl) T.d_rack_unless.m T.d_rack_unless.F.kp T.d_rack_unless.b .nil pass0 (pa_cons (pv 1) pa_nil)))
    (pss_cons (ps_if (PW.pt (pw_or (pt_not (pt_val (pe_callB call_isT (by rfl) T.n_isinstance (by decide +kernel) (pa_cons (pv 2) (pa_cons (pe_bltn (v := .ty "tuple") (by rfl) T.n_tuple (by decide +kernel) rfl) pa_nil))))) (pw_or1 (pt_not (pt_chain op_leN op_leN pe_int (pe_callB call_lenT (by rfl) T.n_len PySem.boot_len (pa_cons (pv 2) pa_nil)) pe_int))))) (pss_one (ps_ret pe_bl)) pss_nil)
    (pss_cons (ps_if (pt_cmpR op_eqS (pe_ix ix_tupN (pv 2) pe_int (fun _ _ => rfl)) pe_str (nomark _)) (pss_one (ps_ret (pe_and (pe_cmpR op_eqN (pe_callB call_lenT (by rfl) T.n_len PySem.boot_len (pa_cons (pv 2) pa_nil)) pe_int (nomark _)) (pe_one (pe_call (ok_is_order T) (hr.mono (by omega)) (by rfl) T.d_is_order.m T.d_is_order.F.kp T.d_is_order.b .nil pass0 (pa_cons (pv 1) (pa_cons (pe_ix ix_tupN (pv 2) pe_int (fun _ _ => rfl)) pa_nil))))))) pss_nil)
    (pss_cons (ps_if (pt_cmpR op_neN (pe_callB call_lenT (by rfl) T.n_len PySem.boot_len (pa_cons (pv 2) pa_nil)) pe_int (nomark _)) (pss_one (ps_ret pe_bl)) pss_nil)
    (pss_cons (ps_asg (pv 2) (pg_tup (by rfl) (pgs_cons (pg_name (i := 3) sc_can_do.nd rfl (Or.inl rfl)) (pgs_cons (pg_name (i := 4) sc_can_do.nd rfl (Or.inl rfl)) (pgs_cons (pg_name (i := 5) sc_can_do.nd rfl (Or.inl rfl)) pgs_nil)))))
    (pss_cons (ps_if (pt_cmpR op_eqS (pv 3) pe_str (nomark _)) (pss_one (ps_ret (pe_and (pe_call (ok_is_whole T) (hr.mono (by omega)) (by rfl) T.d_is_whole.m T.d_is_whole.F.kp T.d_is_whole.b .nil pass0 (pa_cons (pv 4) (pa_cons pe_int (pa_cons (pe_op op_subN (pe_callB call_lenN (by rfl) T.n_len PySem.boot_len (pa_cons (pv 1) pa_nil)) pe_int) pa_nil)))) (pe_one (pe_call (ok_is_whole T) (hr.mono (by omega)) (by rfl) T.d_is_whole.m T.d_is_whole.F.kp T.d_is_whole.b .nil pass0 (pa_cons (pv 5) (pa_cons pe_int (pa_cons (pe_op op_subN (pe_ix ix_nums (pv 1) (pv 4) (fun _ _ => rfl)) pe_int) pa_nil)))))))) pss_nil)
    (pss_one (ps_ret (pe_and (pe_cmpR op_eqS (pv 3) pe_str (nomark _)) (pe_one pe_never)))))))))), ?_⟩
  refine ⟨_, rfl, v, r, rfl, hv, ho, fun H1 s1 => ?_⟩
  have hv1 := hv.tk (same_tk s1)
  have hs1 := StpV.same s1 hs
  rcases st with ⟨p, sl⟩ | ⟨p, sl⟩ | ps
  · obtain ⟨a, rfl, ha⟩ := hs1
    obtain ⟨n, en, hn⟩ := hok
    have hp : p < r.length := (List.getElem?_eq_some_iff.mp en).1
    have er : r.getD p 0 = n := by rw [List.getD_eq_getElem?_getD, en]; rfl
    refine ⟨_, rfl, _, _, _, rfl, .tupTup ha, _, rfl, iteF ?_⟩
    refine ⟨_, rfl, a, _, rfl, ha, 2, 3, rfl, rfl, true, rfl, iteT ⟨3, 3, rfl, rfl, true, rfl, iteF ?_⟩⟩
    refine ⟨_, rfl, a, _, 0, _, rfl, rfl, ha, rfl, _, _, false, rfl, rfl, by decide +kernel, _, rfl, iteF ?_⟩
    refine ⟨_, rfl, a, _, rfl, ha, 3, 3, rfl, rfl, _, rfl, iteF ?_⟩
    refine ⟨_, rfl, a, _, rfl, ha, rfl, _, _, rfl, _, _, rfl, _, _, rfl, rfl, ?_⟩
    refine ⟨_, rfl, _, _, true, rfl, rfl, by decide +kernel, _, rfl, iteT ?_⟩
    refine ⟨_, rfl, _, rfl, _, r, rfl, hv1, r.length, 1, rfl, rfl, by omega, p, r.length - 1, rfl, ?_⟩
    rw [decide_eq_true (by omega : p ≤ r.length - 1)]
    refine ⟨_, rfl, iteT ?_⟩
    refine ⟨_, rfl, _, rfl, _, rfl, r, p, hv1, rfl, hp, n, 1, by rw [er], rfl, by omega, sl, n - 1, rfl, ?_⟩
    rw [decide_eq_true (by omega : sl ≤ n - 1)]
    exact q _ s1
  · exact hok.elim
  · obtain ⟨a, b, rfl, ha, hbf⟩ := hs1
    have hb : NumsAt K H1 b ps := hbf.sq
    obtain ⟨h1, h2, h3⟩ := hok
    refine ⟨_, rfl, _, _, _, rfl, .tupTup ha, _, rfl, iteF ?_⟩
    refine ⟨_, rfl, a, _, rfl, ha, 2, 2, rfl, rfl, true, rfl, iteT ⟨2, 3, rfl, rfl, true, rfl, iteF ?_⟩⟩
    refine ⟨_, rfl, a, _, 0, _, rfl, rfl, ha, rfl, _, _, true, rfl, rfl, by decide +kernel, _, rfl, iteT ?_⟩
    refine ⟨_, rfl, a, _, rfl, ha, 2, 2, rfl, rfl, true, rfl, iteT ?_⟩
    exact ⟨_, rfl, _, rfl, a, _, 1, _, rfl, rfl, ha, rfl, v, _, r, ps, rfl, hv1, ⟨b, rfl, hb⟩, h1, h2, h3, ho.1, fun H2 s2 => q _ (s1.trans s2)⟩

def sp_forms_after (C : Addr) (K : PySem.W.Frag) : Sp := fun vs H Q _ => ∃ (x l : Addr) (ks : List Nat) (v u : V) (r : List Nat) (st : Stp), vs = [.ref x, v, u] ∧ KindAt K C H x l ks ∧ NumsV K H v r ∧ r.length ≤ 1000 ∧ StpV K H u st ∧ StOk r st ∧ ∀ y H', Same H H' → NumsV K H' y (aft ks r st) → Q y H'
theorem sc_forms_after : FnScope ["kind", "rack", "step", "place"] ["kind", "rack", "step"] (defScope s_forms_after) := ⟨rfl, rfl, rfl, by decide +kernel, rfl, by decide +kernel, by decide +kernel⟩
theorem ok_forms_after (T : Tp w K mg) : FnOk P w K mg base CX0 5 T.d_forms_after.f T.d_forms_after.fd ["kind", "rack", "step"] (sp_forms_after T.C_Kind K) := by
  refine T.d_forms_after.F.ok sc_forms_after (fun vs H Q E h => ?_) (fun cdv A outer s H vs Q E hr h => ?_)
  · obtain ⟨_, _, _, _, _, _, _, rfl, _⟩ := h
    rfl
  obtain ⟨x, kl, ks, v, u, r, st, rfl, hk, hv, hz, hs, hok, q⟩ := h
  have hkl := hk.len
  refine ⟨_, (pss_cons (ps_if (pt_cmpR op_eqS (pe_ix ix_tupN (pv 2) pe_int (fun _ _ => rfl)) pe_str (nomark _)) (pss_one (ps_ret (pe_callTy call_tuple_of (by rfl) T.n_tuple (by decide +kernel) (pa_cons (pe_lc (own := [("place", 3)]) rfl sc_forms_after.nd (pi_tup (pe_ix ix_tupN (pv 2) pe_int (fun _ _ => rfl))) (blkOk_by (N := ["kind", "rack", "step", "place"]) (sc := defScope s_forms_after) (own := [("place", 3)]) (by decide +kernel)) (fun _ _ _ _ _ => (pg_name (i := 3) sc_forms_after.nd rfl (Or.inl rfl))) (fun _ _ _ _ _ => pts_nil) (fun _ _ _ _ _ => (pe_ix (ix_numsK (K := K) rfl) (pv 1) (pv 3) (fun _ _ => rfl)))) pa_nil)))) pss_nil)
    (pss_cons (ps_set (i := 3) sc_forms_after.nd rfl (Or.inl rfl) (pe_ix ix_tupN (pv 2) pe_int (fun _ _ => rfl)))
    (pss_cons (ps_if (pt_cmpR op_eqS (pe_ix ix_tupN (pv 2) pe_int (fun _ _ => rfl)) pe_str (nomark _)) (pss_one (ps_ret (pe_op op_catN (pe_op op_catN (pe_slice sl_nums (pv 1) po_none (po_some (pv 3))) (pe_call (ok_opened_forms T) (hr.mono (by omega)) (by rfl) T.d_opened_forms.m T.d_opened_forms.F.kp T.d_opened_forms.b .nil pass0 (pa_cons (pv 0) (pa_cons (pe_ix ix_nums (pv 1) (pv 3) (fun _ _ => rfl)) pa_nil)))) (pe_slice sl_nums (pv 1) (po_some (pe_op op_addN (pv 3) pe_int)) po_none)))) pss_nil)
    (pss_one (ps_ret (pe_op op_catN (pe_op op_catN (pe_slice sl_nums (pv 1) po_none (po_some (pv 3))) (pe_tup (pa_cons pe_never pa_nil))) (pe_slice sl_nums (pv 1) (po_some (pe_op op_addN (pv 3) (pe_callB (call_lenO (ok_Kind___len__ T) (hr.mono (by omega)) T.d_Kind___len__.me.at_ T.d_Kind___len__.me.fn T.d_Kind___len__.b pass0) (by rfl) T.n_len PySem.boot_len (pa_cons (pv 0) pa_nil)))) po_none))))))), ?_⟩
  rcases st with ⟨p, sl⟩ | ⟨p, sl⟩ | ps
  · obtain ⟨a, rfl, ha⟩ := hs
    obtain ⟨n, en, hn⟩ := hok
    have hp : p < r.length := (List.getElem?_eq_some_iff.mp en).1
    have er : r.getD p 0 = n := by rw [List.getD_eq_getElem?_getD, en]; rfl
    refine ⟨_, rfl, a, _, 0, _, rfl, rfl, ha, rfl, _, _, false, rfl, rfl, by decide +kernel, _, rfl, iteF ?_⟩
    refine ⟨_, rfl, a, _, 1, _, rfl, rfl, ha, rfl, ?_⟩
    refine ⟨_, rfl, a, _, 0, _, rfl, rfl, ha, rfl, _, _, true, rfl, rfl, by decide +kernel, _, rfl, iteT ?_⟩
    refine ⟨_, rfl, _, rfl, _, rfl, r, 0, p, hv, rfl, rfl, fun v1 H1 s1 h1 => ?_⟩
    refine ⟨_, rfl, _, rfl, _, rfl, r, p, hv.tk (same_tk s1), rfl, hp, x, kl, ks, n, by rw [er]; rfl, hk.same s1, by omega, fun v2 H2 s2 h2 => ?_⟩
    have e0 : (r.drop 0).take (p - 0) = r.take p := by simp
    rw [e0] at h1
    refine ⟨_, _, h1.tk (same_tk s2), h2, by rw [List.length_take, List.length_map]; omega, fun v3 H3 s3 h3 => ?_⟩
    refine ⟨_, rfl, _, rfl, p, 1, rfl, rfl, _, rfl, r, p + 1, r.length, hv.tk (same_tk (s1.trans (s2.trans s3))), rfl, rfl, fun v4 H4 s4 h4 => ?_⟩
    have e4 : (r.drop (p + 1)).take (r.length - (p + 1)) = r.drop (p + 1) := List.take_of_length_le (by rw [List.length_drop]; exact Nat.le_refl _)
    rw [e4] at h4
    refine ⟨_, _, h3.tk (same_tk s4), h4, by rw [List.length_append, List.length_take, List.length_map, List.length_drop]; omega, fun v5 H5 s5 h5 => ?_⟩
    refine q v5 H5 (s1.trans (s2.trans (s3.trans (s4.trans s5)))) ?_
    show NumsV K H5 v5 (opnR ks r p)
    unfold opnR
    rw [er]
    exact h5
  · exact hok.elim
  · obtain ⟨a, b, rfl, ha, hbf⟩ := hs
    have hb : NumsAt K H b ps := hbf.sq
    obtain ⟨g1, g2, g3⟩ := hok
    refine ⟨_, rfl, a, _, 0, _, rfl, rfl, ha, rfl, _, _, true, rfl, rfl, by decide +kernel, _, rfl, iteT ?_⟩
    refine ⟨_, rfl, a, _, 1, _, rfl, rfl, ha, rfl, b, rfl, ⟨_, hb⟩, fun D hD => ?_⟩
    refine lc_pure K ps (fun j => vi (r.getD j 0)) (by rw [← List.length_map (f := vi) (as := ps)]; exact walk_tup) (by omega) hD (fun H' e => same_tk e _ _ hb) ?_ ?_
    · rintro i j y H1 H1' hj s1 ⟨rfl, hy⟩ N hN
      rw [List.getElem?_map, hj] at hy
      cases hy
      exact ⟨rfl, _, rfl, _, rfl, r, j, hv.tk (same_tk s1), rfl, g3 j (List.mem_of_getElem? hj), hN _ (Same.refl _)⟩
    · intro H1 k1 k2
      have e : ps.map (fun j => vi (r.getD j 0)) = (ps.map fun j => r.getD j 0).map vi := by rw [List.map_map]; rfl
      refine ⟨D, _, rfl, .inl ⟨SqL.of k1, fun t ht => ?_⟩⟩
      rw [e]
      exact q _ _ (k2.trans (same_new ht _)) NumsV.new

def sp_rack_after (C : Addr) (K : PySem.W.Frag) : Sp := fun vs H Q _ => ∃ (x l : Addr) (ks : List Nat) (v u : V) (r : List Nat) (st : Stp), vs = [.ref x, v, u] ∧ KindAt K C H x l ks ∧ NumsV K H v r ∧ RackOk r ∧ StpV K H u st ∧ StOk r st ∧ RackOk (aft ks r st) ∧ ∀ y H', Same H H' → NumsV K H' y (aft ks r st) → Q y H'
theorem sc_rack_after : FnScope ["kind", "rack", "step", "found"] ["kind", "rack", "step"] (defScope s_rack_after) := ⟨rfl, rfl, rfl, by decide +kernel, rfl, by decide +kernel, by decide +kernel⟩
theorem ok_rack_after (T : Tp w K mg) : FnOk P w K mg base CX0 6 T.d_rack_after.f T.d_rack_after.fd ["kind", "rack", "step"] (sp_rack_after T.C_Kind K) := by
  refine T.d_rack_after.F.ok sc_rack_after (fun vs H Q E h => ?_) (fun cdv A outer s H vs Q E hr h => ?_)
  · obtain ⟨_, _, _, _, _, _, _, rfl, _⟩ := h
    rfl
  obtain ⟨x, kl, ks, v, u, r, st, rfl, hk, hv, ho, hs, hok, ho2, q⟩ := h
  refine ⟨_, (pss_cons (ps_if (pt_not (pt_val (pe_call (ok_can_do T) (hr.mono (by omega)) (by rfl) T.d_can_do.m T.d_can_do.F.kp T.d_can_do.b .nil pass0 (pa_cons (pv 0) (pa_cons (pv 1) (pa_cons (pv 2) pa_nil)))))) (pss_one ps_never) pss_nil)
    (pss_cons (ps_set (i := 3) sc_rack_after.nd rfl (Or.inl rfl) (pe_call (ok_forms_after T) (hr.mono (by omega)) (by rfl) T.d_forms_after.m T.d_forms_after.F.kp T.d_forms_after.b .nil pass0 (pa_cons (pv 0) (pa_cons (pv 1) (pa_cons (pv 2) pa_nil)))))
    (pss_cons (ps_if (pt_not (pt_val (pe_call (ok_is_rack T) (hr.mono (by omega)) (by rfl) T.d_is_rack.m T.d_is_rack.F.kp T.d_is_rack.b .nil pass0 (pa_cons (pv 3) pa_nil)))) (pss_one ps_never) pss_nil)
    (pss_one (ps_ret (pv 3)))))), ?_⟩
  refine ⟨_, rfl, _, rfl, _, rfl, x, kl, ks, v, u, r, st, rfl, hk, hv, ho, hs, hok, fun H1 s1 => ⟨_, rfl, iteF ?_⟩⟩
  refine ⟨_, rfl, _, rfl, _, rfl, x, kl, ks, v, u, r, st, rfl, hk.same s1, hv.tk (same_tk s1), ho.1, StpV.same s1 hs, hok, fun y H2 s2 h2 => ?_⟩
  refine ⟨_, rfl, y, _, rfl, h2, ho2, fun H3 s3 => ⟨_, rfl, iteF ?_⟩⟩
  exact ⟨_, rfl, q _ _ (s1.trans (s2.trans s3)) (h2.tk (same_tk s3))⟩

def sp_undone (K : PySem.W.Frag) : Sp := fun vs H Q _ => ∃ (u : V) (st : Stp), vs = [u] ∧ StpV K H u st ∧ (∀ ps, st = .ord ps → ps.Nodup ∧ ps.length ≤ 1000 ∧ ∀ m, m < ps.length → m ∈ ps) ∧ ∀ y H', Same H H' → StpV K H' y (undo st) → Q y H'
theorem sc_undone_step : FnScope ["step", "k", "place", "at"] ["step"] (defScope s_undone_step) := ⟨rfl, rfl, rfl, by decide +kernel, rfl, by decide +kernel, by decide +kernel⟩
theorem ok_undone_step (T : Tp w K mg) : FnOk P w K mg base CX0 1 T.d_undone_step.f T.d_undone_step.fd ["step"] (sp_undone K) := by
  refine T.d_undone_step.F.ok sc_undone_step (fun vs H Q E h => ?_) (fun cdv A outer s H vs Q E hr h => ?_)
  · obtain ⟨_, _, rfl, _⟩ := h
    rfl
  obtain ⟨u, st, rfl, hs, hps, q⟩ := h
  have hu := hu_of hr
  refine ⟨_, (pss_cons (ps_if (pt_cmpR op_eqS (pe_ix ix_tupN (pv 0) pe_int (fun _ _ => rfl)) pe_str (nomark _)) (pss_one (ps_ret (pe_tup (pa_cons pe_str (pa_cons (pe_ix ix_tupN (pv 0) pe_int (fun _ _ => rfl)) (pa_cons (pe_ix ix_tupN (pv 0) pe_int (fun _ _ => rfl)) pa_nil)))))) pss_nil)
    (pss_cons (ps_if (pt_cmpR op_eqS (pe_ix ix_tupN (pv 0) pe_int (fun _ _ => rfl)) pe_str (nomark _)) (pss_one (ps_ret (pe_tup (pa_cons pe_str (pa_cons (pe_ix ix_tupN (pv 0) pe_int (fun _ _ => rfl)) (pa_cons (pe_ix ix_tupN (pv 0) pe_int (fun _ _ => rfl)) pa_nil)))))) pss_nil)
    (pss_cons (ps_set (i := 3) sc_undone_step.nd rfl (Or.inr rfl) (pe_callTy (call_dictP rfl) (by rfl) T.n_dict (by decide +kernel) (pa_cons (pe_lc (own := [("k", 1), ("place", 2)]) rfl sc_undone_step.nd (pi_enumT (by rfl) T.n_enumerate (pa_cons (pe_ix ix_tupN (pv 0) pe_int (fun _ _ => rfl)) pa_nil)) (blkOk_by (N := ["step", "k", "place", "at"]) (sc := defScope s_undone_step) (own := [("k", 1), ("place", 2)]) (by decide +kernel)) (fun _ _ _ _ _ => (pg_tup2K (K := K) rfl rfl (pgs_cons (pg_name (i := 1) sc_undone_step.nd rfl (Or.inl rfl)) (pgs_cons (pg_name (i := 2) sc_undone_step.nd rfl (Or.inl rfl)) pgs_nil)))) (fun _ _ _ _ _ => pts_nil) (fun _ _ _ _ _ => (pe_tup (pa_cons (pv 2) (pa_cons (pv 1) pa_nil))))) pa_nil)))
    (pss_one (ps_ret (pe_tup (pa_cons pe_str (pa_cons (pe_callTy call_tuple_frz (by rfl) T.n_tuple (by decide +kernel) (pa_cons (pe_lc (own := [("place", 2)]) rfl sc_undone_step.nd (pi_range1 (by rfl) T.n_range (pa_cons (pe_callB call_lenN (by rfl) T.n_len PySem.boot_len (pa_cons (pe_ix ix_tupN (pv 0) pe_int (fun _ _ => rfl)) pa_nil)) pa_nil)) (blkOk_by (N := ["step", "k", "place", "at"]) (sc := defScope s_undone_step) (own := [("place", 2)]) (by decide +kernel)) (fun _ _ _ _ _ => (pg_name (i := 2) sc_undone_step.nd rfl (Or.inl rfl))) (fun _ _ _ _ _ => pts_nil) (fun _ _ _ _ _ => (pe_dget hu (pv 3) (pv 2) (fun _ _ => rfl)))) pa_nil)) pa_nil)))))))), ?_⟩
  rcases st with ⟨p, sl⟩ | ⟨p, sl⟩ | ps
  · obtain ⟨a, rfl, ha⟩ := hs
    refine ⟨_, rfl, a, _, 0, _, rfl, rfl, ha, rfl, _, _, true, rfl, rfl, by decide +kernel, _, rfl, iteT ?_⟩
    refine ⟨_, rfl, a, _, 1, _, rfl, rfl, ha, rfl, _, rfl, a, _, 2, _, rfl, rfl, ha, rfl, (by show 3 ≤ sizeLine; decide), fun t ht => ?_⟩
    exact q _ _ (same_new ht _) ⟨t, rfl, SqT.of upd_same⟩
  · obtain ⟨a, rfl, ha⟩ := hs
    refine ⟨_, rfl, a, _, 0, _, rfl, rfl, ha, rfl, _, _, false, rfl, rfl, by decide +kernel, _, rfl, iteF ?_⟩
    refine ⟨_, rfl, a, _, 0, _, rfl, rfl, ha, rfl, _, _, true, rfl, rfl, by decide +kernel, _, rfl, iteT ?_⟩
    refine ⟨_, rfl, a, _, 1, _, rfl, rfl, ha, rfl, _, rfl, a, _, 2, _, rfl, rfl, ha, rfl, (by show 3 ≤ sizeLine; decide), fun t ht => ?_⟩
    exact q _ _ (same_new ht _) ⟨t, rfl, SqT.of upd_same⟩
  · obtain ⟨a, b, rfl, ha, hbf⟩ := hs
    have hb : NumsAt K H b ps := hbf.sq
    obtain ⟨g1, g2, g3⟩ := hps ps rfl
    refine ⟨_, rfl, a, _, 0, _, rfl, rfl, ha, rfl, _, _, false, rfl, rfl, by decide +kernel, _, rfl, iteF ?_⟩
    refine ⟨_, rfl, a, _, 0, _, rfl, rfl, ha, rfl, _, _, false, rfl, rfl, by decide +kernel, _, rfl, iteF ?_⟩
    refine ⟨_, rfl, a, _, 1, _, rfl, rfl, ha, rfl, b, _, rfl, hb, fun D hD => ?_⟩
    refine lc_vals (K := K) (ps.zipIdx 0) (fun H v q => ∃ t, v = .ref t ∧ SqT K H t [vi q.1, vi q.2]) (fun H H' v q tk ⟨t, e, h⟩ => ⟨t, e, tk _ _ h⟩) (by rw [List.length_zipIdx, ← List.length_map (f := vi) (as := ps)]; exact walk_enumT) (by rw [List.length_zipIdx]; omega) hD (fun H' e => same_tk e _ _ hb) ?_ ?_
    · rintro i ⟨m, k⟩ y H1 H1' hi s1 ⟨T0, y1, y2, rfl, hT, rfl, e1, e2⟩ N hN
      rw [List.getElem?_zipIdx] at hi
      have e2' : (ps.map vi)[i]? = some y2 := e2
      obtain ⟨m', hm, rfl⟩ := nums_get e2'
      rw [hm] at hi
      have hi' := Option.some.inj hi
      have q1 : m' = m := congrArg Prod.fst hi'
      have q2 : 0 + i = k := congrArg Prod.snd hi'
      cases e1
      subst q1 q2
      refine ⟨T0, _, rfl, SqT.of upd_same, rfl, _, _, rfl, _, _, rfl, rfl, rfl, _, rfl, _, rfl, (by show 2 ≤ sizeLine; decide), fun t ht => ?_⟩
      exact hN _ _ ((same_new hT _).trans (same_new ht _)) ⟨t, rfl, by rw [Nat.zero_add]; exact SqT.of upd_same⟩
    intro ys H1 k1 s1 k3
    obtain ⟨kk, ey, ek, hkk⟩ := k3.addrs
    have pr : ∀ (kk : List (Addr × (Nat × Nat))), (∀ p ∈ kk, SqT K H1 p.1 [vi p.2.1, vi p.2.2]) → Paired (fun p (kv : Key × V) => SqT K H1 p [kV kv.1, kv.2]) (kk.map Prod.fst) ((kk.map Prod.snd).map fun (q : Nat × Nat) => ((Sum.inl (q.1 : Int) : Key), vi q.2)) := by
      intro kk
      induction kk with
      | nil => intro _; exact .nil
      | cons p kk ih =>
        intro h
        exact .cons (h p List.mem_cons_self) (ih fun q hq => h q (List.mem_cons_of_mem _ hq))
    have ek' : kk.map Prod.snd = ps.zipIdx 0 := ek
    have pr2 := pr kk hkk
    rw [ek'] at pr2
    refine ⟨D, kk.map Prod.fst, (ps.zipIdx 0).map (fun (q : Nat × Nat) => ((Sum.inl (q.1 : Int) : Key), vi q.2)), rfl, SqL.of (by rw [k1, ey, List.map_map]; rfl), pr2, fun d hd => ?_⟩
    have s2 := s1.trans (same_new hd (.dK (mergeK [] ((ps.zipIdx 0).map fun (q : Nat × Nat) => ((Sum.inl (q.1 : Int) : Key), vi q.2)))))
    refine ⟨_, rfl, a, _, 1, _, rfl, rfl, same_tk s2 _ _ ha, rfl, _, ps, rfl, ⟨b, rfl, same_tk s2 _ _ hb⟩, (ps.length : Int), rfl, by omega, by omega, fun D2 hD2 => ?_⟩
    refine lc_pure K (List.range ps.length) (fun m => vi (ps.idxOf m)) (by rw [List.length_range]; exact walk_rangeN) (by rw [List.length_range]; omega) hD2 (fun _ _ => trivial) ?_ ?_
    · rintro i m y H3 H3' hi s3 ⟨rfl, rfl⟩ N hN
      have hil : i < ps.length := by simpa using (List.getElem?_eq_some_iff.mp hi).1
      have em : i = m := by
        rw [List.getElem?_range hil] at hi
        exact Option.some.inj hi
      subst em
      have hd3 := s3 _ _ (upd_same (H := H1) (a := d) (o := .dK (mergeK [] ((ps.zipIdx 0).map fun (q : Nat × Nat) => ((Sum.inl (q.1 : Int) : Key), vi q.2)))))
      have hg := DGet.k (k := (Sum.inl (i : Int) : Key)) hd3
      rw [merge_at ps 0 [] i g1, if_pos (g3 i hil), Nat.zero_add] at hg
      exact ⟨rfl, _, rfl, _, rfl, d, _, rfl, hg, hN _ (Same.refl _)⟩
    · intro H3 k4 k5
      have e : (List.range ps.length).map (fun m => vi (ps.idxOf m)) = ((List.range ps.length).map fun m => ps.idxOf m).map vi := by rw [List.map_map]; rfl
      refine ⟨D2, _, rfl, SqL.of k4, fun t o ht hod => ?_⟩
      rw [e]
      refine ⟨(by show 2 ≤ sizeLine; decide), fun t2 ht2 => ?_⟩
      exact q _ _ (s2.trans (k5.trans ((same_new ht _).trans (same_new ht2 _)))) ⟨t2, t, rfl, SqT.of upd_same, FrzT.same ⟨o, upd_same, hod⟩ (same_new ht2 _)⟩
end
end Bs
/-! The walk: things moved by steps, turnings. -/
namespace Bs
open PySem PySem.Spec L2
def ChainOk (ks : List Nat) : List Nat → List Stp → Prop
  | _, [] => True
  | r, st :: t => StOk r st ∧ RackOk (aft ks r st) ∧ ChainOk ks (aft ks r st) t
def endr (ks : List Nat) : List Nat → List Stp → List Nat
  | r, [] => r
  | r, st :: t => endr ks (aft ks r st) t
def runs (ks : List Nat) : List Stp → Thg → Thg
  | [], x => x
  | st :: t, x => runs ks t (mv ks st x)
def RunOk (ks : List Nat) : List Stp → Thg → Prop
  | [], _ => True
  | st :: t, x => MvOk ks st x ∧ RunOk ks t (mv ks st x)
/-- the fields of a turning -/
def tf (k p d b e : V) : List (Str × V) := putF "end" e (putF "begin" b (putF "done" d (putF "passed" p (putF "kind" k []))))
theorem tf_kind (k p d b e : V) : (tf k p d b e).lookup ("kind" : Str) = some k := by
  unfold tf
  rw [lookup_putF, if_neg (by decide +kernel), lookup_putF, if_neg (by decide +kernel), lookup_putF, if_neg (by decide +kernel), lookup_putF, if_neg (by decide +kernel), lookup_putF, if_pos rfl]
theorem tf_done (k p d b e : V) : (tf k p d b e).lookup ("done" : Str) = some d := by
  unfold tf
  rw [lookup_putF, if_neg (by decide +kernel), lookup_putF, if_neg (by decide +kernel), lookup_putF, if_pos rfl]
theorem tf_begin (k p d b e : V) : (tf k p d b e).lookup ("begin" : Str) = some b := by
  unfold tf
  rw [lookup_putF, if_neg (by decide +kernel), lookup_putF, if_pos rfl]
theorem tf_end (k p d b e : V) : (tf k p d b e).lookup ("end" : Str) = some e := by
  unfold tf
  rw [lookup_putF, if_pos rfl]
theorem tf_no (k p d b e : V) {x : Str} (h1 : ¬ x = "end") (h2 : ¬ x = "begin") (h3 : ¬ x = "done") (h4 : ¬ x = "passed") (h5 : ¬ x = "kind") : (tf k p d b e).lookup x = none := by
  unfold tf
  rw [lookup_putF, if_neg h1, lookup_putF, if_neg h2, lookup_putF, if_neg h3, lookup_putF, if_neg h4, lookup_putF, if_neg h5]
  rfl
theorem put1 {n : Nat} {f : Str} {v : V} {fs : List (Str × V)} (h : fs.length < n) : (putF f v fs).length < n + 1 := Nat.lt_of_le_of_lt (length_putF f v fs) (Nat.succ_lt_succ h)
section
variable {P : Program} {w : World} {K : PySem.W.Frag} {mg : Str → Option Value} {base : Heap}

def sp_moved (C : Addr) (K : PySem.W.Frag) : Sp := fun vs H Q _ => ∃ (x l : Addr) (ks : List Nat) (u t : V) (st : Stp) (y : Thg), vs = [.ref x, u, t] ∧ KindAt K C H x l ks ∧ StpV K H u st ∧ ThV K H t y ∧ MvOk ks st y ∧ ∀ v H', Same H H' → ThV K H' v (mv ks st y) → Q v H'
theorem sc_moved : FnScope ["kind", "step", "thing", "at", "row", "word", "place", "slot", "spread", "spot"] ["kind", "step", "thing"] (defScope s_moved) := ⟨rfl, rfl, rfl, by decide +kernel, rfl, by decide +kernel, by decide +kernel⟩
theorem ok_moved (T : Tp w K mg) : FnOk P w K mg base CX0 6 T.d_moved.f T.d_moved.fd ["kind", "step", "thing"] (sp_moved T.C_Kind K) := by
  refine T.d_moved.F.ok sc_moved (fun vs H Q E h => ?_) (fun cdv A outer s H vs Q E hr h => ?_)
  · obtain ⟨_, _, _, _, _, _, _, rfl, _⟩ := h
    rfl
  obtain ⟨x, kl, ks, u, t, st, y, rfl, hk, hs, ht, hok, q⟩ := h
  have hkl := hk.len
  obtain ⟨dx, _, _, hx, _⟩ := id hk
  refine ⟨_, (pss_cons (ps_asg (pv 2) (pg_tup (by rfl) (pgs_cons (pg_name (i := 3) sc_moved.nd rfl (Or.inl rfl)) (pgs_cons (pg_name (i := 4) sc_moved.nd rfl (Or.inl rfl)) pgs_nil))))
    (pss_cons (ps_if (pt_cmpR op_eqS (pe_ix ix_tupN (pv 1) pe_int (fun _ _ => rfl)) pe_str (nomark _)) (pss_one (ps_ret (pe_tup (pa_cons (pe_idxT mt_idxT (pe_ix ix_tupN (pv 1) pe_int (fun _ _ => rfl)) (pa_cons (pv 3) pa_nil)) (pa_cons (pv 4) pa_nil))))) pss_nil)
    (pss_cons (ps_asg (pv 1) (pg_tup (by rfl) (pgs_cons (pg_name (i := 5) sc_moved.nd rfl (Or.inl rfl)) (pgs_cons (pg_name (i := 6) sc_moved.nd rfl (Or.inl rfl)) (pgs_cons (pg_name (i := 7) sc_moved.nd rfl (Or.inl rfl)) pgs_nil)))))
    (pss_cons (ps_if (pt_cmpR op_ltN (pv 3) (pv 6) (nomark _)) (pss_one (ps_ret (pv 2))) pss_nil)
    (pss_cons (ps_set (i := 8) sc_moved.nd rfl (Or.inl rfl) (pe_op op_subN (pe_callB (call_lenO (ok_Kind___len__ T) (hr.mono (by omega)) T.d_Kind___len__.me.at_ T.d_Kind___len__.me.fn T.d_Kind___len__.b pass0) (by rfl) T.n_len PySem.boot_len (pa_cons (pv 0) pa_nil)) pe_int))
    (pss_cons (ps_if (pt_cmpR op_eqS (pv 5) pe_str (nomark _)) (pss_cons (ps_if (pt_cmpR op_gtN (pv 3) (pv 6) (nomark _)) (pss_one (ps_ret (pe_tup (pa_cons (pe_op op_addN (pv 3) (pv 8)) (pa_cons (pv 4) pa_nil))))) pss_nil)
    (pss_cons (ps_set (i := 9) sc_moved.nd rfl (Or.inl rfl) (pe_call (ok_slot_begin T) (hr.mono (by omega)) (by rfl) T.d_slot_begin.m T.d_slot_begin.F.kp T.d_slot_begin.b .nil pass0 (pa_cons (pv 0) (pa_cons (pv 4) (pa_cons (pv 7) pa_nil)))))
    (pss_one (ps_ret (pe_tup (pa_cons (pe_op op_addN (pv 6) (pe_ix ix_nums (pv 4) (pv 9) (fun _ _ => rfl))) (pa_cons (pe_op op_catN (pe_slice sl_nums (pv 4) po_none (po_some (pv 9))) (pe_slice sl_nums (pv 4) (po_some (pe_op op_addN (pv 9) pe_int)) po_none)) pa_nil))))))) pss_nil)
    (pss_cons (ps_if (pt_cmpR op_gtN (pv 3) (pe_op op_addN (pv 6) (pv 8)) (nomark _)) (pss_one (ps_ret (pe_tup (pa_cons (pe_op op_subN (pv 3) (pv 8)) (pa_cons (pv 4) pa_nil))))) pss_nil)
    (pss_cons (ps_set (i := 9) sc_moved.nd rfl (Or.inl rfl) (pe_call (ok_slot_begin T) (hr.mono (by omega)) (by rfl) T.d_slot_begin.m T.d_slot_begin.F.kp T.d_slot_begin.b .nil pass0 (pa_cons (pv 0) (pa_cons (pv 4) (pa_cons (pv 7) pa_nil)))))
    (pss_one (ps_ret (pe_tup (pa_cons (pv 6) (pa_cons (pe_op op_catN (pe_op op_catN (pe_slice sl_nums (pv 4) po_none (po_some (pv 9))) (pe_tup (pa_cons (pe_op op_subN (pv 3) (pv 6)) pa_nil))) (pe_slice sl_nums (pv 4) (po_some (pv 9)) po_none)) pa_nil))))))))))))), ?_⟩
  obtain ⟨tp, rfl, c, hp, hc⟩ := id ht
  refine ⟨_, rfl, tp, _, rfl, hp, rfl, _, _, rfl, _, _, rfl, rfl, ?_⟩
  rcases st with ⟨p, sl⟩ | ⟨p, sl⟩ | ps
  · obtain ⟨a, rfl, ha⟩ := hs
    obtain ⟨hz, hrow⟩ := hok
    refine ⟨_, rfl, a, _, 0, _, rfl, rfl, ha, rfl, _, _, false, rfl, rfl, by decide +kernel, _, rfl, iteF ?_⟩
    refine ⟨_, rfl, a, _, rfl, ha, rfl, _, _, rfl, _, _, rfl, _, _, rfl, rfl, ?_⟩
    refine ⟨_, rfl, _, rfl, y.1, p, rfl, rfl, _, rfl, ?_⟩
    refine ite2 (fun cc => ?_) (fun cc => ?_)
    · have c1 : y.1 < p := of_decide_eq_true cc
      refine ⟨_, rfl, q _ _ (Same.refl _) ?_⟩
      show ThV K H (.ref tp) (opn ks p sl y)
      unfold opn
      rw [if_pos c1]
      exact ht
    have c1 : ¬ y.1 < p := of_decide_eq_false (Bool.eq_false_iff.mpr cc)
    refine ⟨_, rfl, x, dx, _, rfl, hx, x, kl, ks, rfl, hk, ks.length, rfl, by omega, ks.length, 1, rfl, rfl, by omega, ?_⟩
    refine ⟨_, rfl, _, _, true, rfl, rfl, by decide +kernel, _, rfl, iteT ?_⟩
    refine ⟨_, rfl, _, rfl, y.1, p, rfl, rfl, _, rfl, ?_⟩
    refine ite2 (fun cc2 => ?_) (fun cc2 => ?_)
    · have c2 : p < y.1 := of_decide_eq_true cc2
      refine ⟨_, rfl, _, rfl, y.1, ks.length - 1, rfl, rfl, _, rfl, (by show 2 ≤ sizeLine; decide), fun t2 ht2 => q _ _ (same_new ht2 _) ?_⟩
      have e : mv ks (.opn p sl) y = (y.1 + (ks.length - 1), y.2) := by
        show opn ks p sl y = _
        unfold opn
        rw [if_neg c1, if_pos c2]
      rw [e]
      exact ⟨t2, rfl, c, SqT.of upd_same, same_tk (same_new ht2 _) _ _ hc⟩
    have c2 : ¬ p < y.1 := of_decide_eq_false (Bool.eq_false_iff.mpr cc2)
    have ey : y.1 = p := by omega
    obtain ⟨n, hr1, hn, hn2⟩ := hrow ey
    obtain ⟨ra, m, rc, rb, e1, _, _, _, _, e2, _⟩ := opn_at (p := p) hr1 hn
    have hlt : tlen ks sl y.2 < y.2.length := by rw [e2, e1]; simp
    refine ⟨_, rfl, _, rfl, _, rfl, x, kl, ks, _, y.2, n, sl, rfl, hk, ⟨c, rfl, hc⟩, hr1, by omega, hn2, ?_⟩
    refine ⟨_, rfl, _, rfl, _, rfl, y.2, tlen ks sl y.2, ⟨c, rfl, hc⟩, rfl, hlt, p, y.2.getD (tlen ks sl y.2) 0, rfl, rfl, ?_⟩
    refine ⟨_, rfl, _, rfl, _, rfl, y.2, 0, tlen ks sl y.2, ⟨c, rfl, hc⟩, rfl, rfl, fun v1 H1 s1 h1 => ?_⟩
    refine ⟨_, rfl, _, rfl, tlen ks sl y.2, 1, rfl, rfl, _, rfl, y.2, tlen ks sl y.2 + 1, y.2.length, ⟨c, rfl, hc.tk (same_tk s1)⟩, rfl, rfl, fun v2 H2 s2 h2 => ?_⟩
    have e3 : (y.2.drop 0).take (tlen ks sl y.2 - 0) = y.2.take (tlen ks sl y.2) := by simp
    have e4 : (y.2.drop (tlen ks sl y.2 + 1)).take (y.2.length - (tlen ks sl y.2 + 1)) = y.2.drop (tlen ks sl y.2 + 1) := List.take_of_length_le (by rw [List.length_drop]; exact Nat.le_refl _)
    rw [e3] at h1
    rw [e4] at h2
    refine ⟨_, _, h1.tk (same_tk s2), h2, by rw [List.length_take, List.length_drop]; omega, fun v3 H3 s3 h3 => ?_⟩
    obtain ⟨a3, rfl, h3⟩ := h3
    refine ⟨(by show 2 ≤ sizeLine; decide), fun t4 ht4 => q _ _ (s1.trans (s2.trans (s3.trans (same_new ht4 _)))) ?_⟩
    have e : mv ks (.opn p sl) y = (p + y.2.getD (tlen ks sl y.2) 0, y.2.take (tlen ks sl y.2) ++ y.2.drop (tlen ks sl y.2 + 1)) := by
      show opn ks p sl y = _
      unfold opn
      rw [if_neg c1, if_neg c2]
    rw [e]
    exact ⟨t4, rfl, a3, SqT.of upd_same, same_tk (same_new ht4 _) _ _ h3⟩
  · obtain ⟨a, rfl, ha⟩ := hs
    obtain ⟨hz, hrow⟩ := hok
    refine ⟨_, rfl, a, _, 0, _, rfl, rfl, ha, rfl, _, _, false, rfl, rfl, by decide +kernel, _, rfl, iteF ?_⟩
    refine ⟨_, rfl, a, _, rfl, ha, rfl, _, _, rfl, _, _, rfl, _, _, rfl, rfl, ?_⟩
    refine ⟨_, rfl, _, rfl, y.1, p, rfl, rfl, _, rfl, ?_⟩
    refine ite2 (fun cc => ?_) (fun cc => ?_)
    · have c1 : y.1 < p := of_decide_eq_true cc
      refine ⟨_, rfl, q _ _ (Same.refl _) ?_⟩
      show ThV K H (.ref tp) (cls ks p sl y)
      unfold cls
      rw [if_pos c1]
      exact ht
    have c1 : ¬ y.1 < p := of_decide_eq_false (Bool.eq_false_iff.mpr cc)
    refine ⟨_, rfl, x, dx, _, rfl, hx, x, kl, ks, rfl, hk, ks.length, rfl, by omega, ks.length, 1, rfl, rfl, by omega, ?_⟩
    refine ⟨_, rfl, _, _, false, rfl, rfl, by decide +kernel, _, rfl, iteF ?_⟩
    refine ⟨_, rfl, _, rfl, _, rfl, p, ks.length - 1, rfl, rfl, y.1, p + (ks.length - 1), rfl, rfl, _, rfl, ?_⟩
    refine ite2 (fun cc2 => ?_) (fun cc2 => ?_)
    · have c2 : p + (ks.length - 1) < y.1 := of_decide_eq_true cc2
      refine ⟨_, rfl, _, rfl, y.1, ks.length - 1, rfl, rfl, by omega, _, rfl, (by show 2 ≤ sizeLine; decide), fun t2 ht2 => q _ _ (same_new ht2 _) ?_⟩
      have e : mv ks (.cls p sl) y = (y.1 - (ks.length - 1), y.2) := by
        show cls ks p sl y = _
        unfold cls
        rw [if_neg c1, if_pos c2]
      rw [e]
      exact ⟨t2, rfl, c, SqT.of upd_same, same_tk (same_new ht2 _) _ _ hc⟩
    have c2 : ¬ p + (ks.length - 1) < y.1 := of_decide_eq_false (Bool.eq_false_iff.mpr cc2)
    obtain ⟨n, hr1, hn, hn2⟩ := hrow (by omega) (by omega)
    have hle : tlen ks sl y.2 ≤ y.2.length := by
      have e : n = sl + (n - sl) := by omega
      rw [e] at hr1
      obtain ⟨ra, rb, e1, h1, _⟩ := Rows.split _ _ _ hr1
      rw [e1, tlen_rows h1, List.length_append]
      omega
    refine ⟨_, rfl, _, rfl, _, rfl, x, kl, ks, _, y.2, n, sl, rfl, hk, ⟨c, rfl, hc⟩, hr1, hn, hn2, ?_⟩
    refine ⟨_, rfl, ?_⟩
    refine ⟨_, rfl, _, rfl, _, rfl, y.2, 0, tlen ks sl y.2, ⟨c, rfl, hc⟩, rfl, rfl, fun v1 H1 s1 h1 => ?_⟩
    refine ⟨_, rfl, _, rfl, y.1, p, rfl, rfl, by omega, (by show 1 ≤ sizeLine; decide), fun t2 ht2 => ?_⟩
    have e3 : (y.2.drop 0).take (tlen ks sl y.2 - 0) = y.2.take (tlen ks sl y.2) := by simp
    rw [e3] at h1
    have s2 := same_new ht2 (.tup [vi (y.1 - p)])
    refine ⟨y.2.take (tlen ks sl y.2), [y.1 - p], h1.tk (same_tk s2), ⟨t2, rfl, SqT.of upd_same⟩, by rw [List.length_take, List.length_singleton]; omega, fun v3 H3 s3 h3 => ?_⟩
    refine ⟨_, rfl, _, rfl, _, rfl, y.2, tlen ks sl y.2, y.2.length, ⟨c, rfl, hc.tk (same_tk (s1.trans (s2.trans s3)))⟩, rfl, rfl, fun v4 H4 s4 h4 => ?_⟩
    have e4 : (y.2.drop (tlen ks sl y.2)).take (y.2.length - tlen ks sl y.2) = y.2.drop (tlen ks sl y.2) := List.take_of_length_le (by rw [List.length_drop]; exact Nat.le_refl _)
    rw [e4] at h4
    refine ⟨_, _, h3.tk (same_tk s4), h4, by rw [List.length_append, List.length_take, List.length_drop, List.length_singleton]; omega, fun v5 H5 s5 h5 => ?_⟩
    obtain ⟨a5, rfl, h5⟩ := h5
    refine ⟨(by show 2 ≤ sizeLine; decide), fun t6 ht6 => q _ _ (s1.trans (s2.trans (s3.trans (s4.trans (s5.trans (same_new ht6 _)))))) ?_⟩
    have e : mv ks (.cls p sl) y = (p, y.2.take (tlen ks sl y.2) ++ [y.1 - p] ++ y.2.drop (tlen ks sl y.2)) := by
      show cls ks p sl y = _
      unfold cls
      rw [if_neg c1, if_neg c2]
    rw [e]
    exact ⟨t6, rfl, a5, SqT.of upd_same, same_tk (same_new ht6 _) _ _ h5⟩
  · obtain ⟨a, b, rfl, ha, hbf⟩ := hs
    have hb : NumsAt K H b ps := hbf.sq
    refine ⟨_, rfl, a, _, 0, _, rfl, rfl, ha, rfl, _, _, true, rfl, rfl, by decide +kernel, _, rfl, iteT ?_⟩
    refine ⟨_, rfl, a, _, 1, _, rfl, rfl, ha, rfl, ⟨b, _, rfl, hbf⟩, _, rfl, b, ps, y.1, rfl, rfl, hb, hok, _, rfl, (by show 2 ≤ sizeLine; decide), fun t2 ht2 => q _ _ (same_new ht2 _) ?_⟩
    exact ⟨t2, rfl, c, SqT.of upd_same, same_tk (same_new ht2 _) _ _ hc⟩

def sp_racks_on (C : Addr) (K : PySem.W.Frag) : Sp := fun vs H Q _ => ∃ (x l : Addr) (ks : List Nat) (v : V) (r : List Nat) (sl : Addr) (ys : List V) (sts : List Stp), vs = [.ref x, v, .ref sl] ∧ KindAt K C H x l ks ∧ NumsV K H v r ∧ RackOk r ∧ H sl = some (.lst ys) ∧ Fits (StpV K H) ys sts ∧ sts.length ≤ 60 ∧ ChainOk ks r sts ∧
  ∀ D us z H', Same H H' → H D = none → H' D = some (.lst (us ++ [z])) → NumsV K H' z (endr ks r sts) → Q (.ref D) H'
theorem sc_racks_on : FnScope ["kind", "rack", "steps", "found", "k", "step"] ["kind", "rack", "steps"] (defScope s_racks_on) := ⟨rfl, rfl, rfl, by decide +kernel, rfl, by decide +kernel, by decide +kernel⟩
theorem ok_racks_on (T : Tp w K mg) : FnOk P w K mg base CX0 7 T.d_racks_on.f T.d_racks_on.fd ["kind", "rack", "steps"] (sp_racks_on T.C_Kind K) := by
  refine T.d_racks_on.F.ok sc_racks_on (fun vs H Q E h => ?_) (fun cdv A outer s H vs Q E hr h => ?_)
  · obtain ⟨_, _, _, _, _, _, _, _, rfl, _⟩ := h
    rfl
  obtain ⟨x, kl, ks, v, r, sl, ys, sts, rfl, hk, hv, ho, hl, hf, hz, hch, q⟩ := h
  refine ⟨_, (pss_cons (ps_set (i := 3) sc_racks_on.nd rfl (Or.inl rfl) (pe_lst (pa_cons (pv 1) pa_nil)))
    (pss_cons (ps_for PassesOwn.never rfl (pi_enum (by rfl) T.n_enumerate (pa_cons (pv 2) pa_nil)) (pg_tup (by rfl) (pgs_cons (pg_name (i := 4) sc_racks_on.nd rfl (Or.inl rfl)) (pgs_cons (pg_name (i := 5) sc_racks_on.nd rfl (Or.inl rfl)) pgs_nil)))
    (pss_one (ps_try_thru0 (pss_one (ps_expr (pe_bm PySem.F.plainAttrs_list PySem.F.slot_list_append PySem.F.type_list_append mt_append (pv 3) (pa_cons (pe_call (ok_rack_after T) (hr.mono (by omega)) (by rfl) T.d_rack_after.m T.d_rack_after.F.kp T.d_rack_after.b .nil pass0 (pa_cons (pv 0) (pa_cons (pe_ix ix_list (pv 3) (pe_un un_neg pe_int) (fun _ _ => rfl)) (pa_cons (pv 5) pa_nil)))) pa_nil)))))))
    (pss_one (ps_ret (pv 3))))), ?_⟩
  refine ⟨_, rfl, (by show 1 ≤ sizeLine; decide), fun D hD => ?_⟩
  have s0 := same_new hD (.lst [v])
  refine ⟨_, rfl, sl, ys, rfl, SqL.of (s0 _ _ hl), for_it walk_enum (fun i σ H' => ∃ (u1 u2 : Option V) (us : List V) (z : V) (ri : List Nat), σ = [some (.ref x), some v, some (.ref sl), some (.ref D), u1, u2] ∧ Same H H' ∧ H' D = some (.lst (us ++ [z])) ∧ us.length ≤ i ∧ NumsV K H' z ri ∧ RackOk ri ∧ ChainOk ks ri (sts.drop i) ∧ endr ks ri (sts.drop i) = endr ks r sts)
    ⟨none, none, [], v, r, rfl, s0, upd_same, Nat.le_refl _, hv.tk (same_tk s0), ho, hch, rfl⟩ (fun i σ H' _ ⟨_, _, _, _, _, _, e, _⟩ => SqL.of (e _ _ hl)) ?_ ?_⟩
  · rintro i y σ H1 H1' hi ⟨u1, u2, us, z, ri, rfl, s1, h1, h2, h3, h4, h5, h6⟩ ⟨T0, y1, y2, rfl, hT, rfl, e1, e2⟩
    cases e1
    obtain ⟨st, hst, hsv⟩ := hf.at_ e2
    have hi2 := (List.getElem?_eq_some_iff.mp hst).1
    have ed : sts.drop i = st :: sts.drop (i + 1) := by
      rw [List.drop_eq_getElem_cons hi2]
      exact congrArg (· :: _) (List.getElem?_eq_some_iff.mp hst).2
    rw [ed] at h5 h6
    obtain ⟨g1, g2, g3⟩ := h5
    have sT := same_new hT (.tup [vi i, y2])
    have s1' := s1.trans sT
    have hD1 := sT _ _ h1
    refine ⟨T0, _, rfl, SqT.of upd_same, rfl, _, _, rfl, _, _, rfl, rfl, ?_⟩
    refine ⟨_, rfl, .inl ⟨rfl, _, SqL.of hD1⟩, ?_⟩
    refine ⟨_, rfl, _, rfl, 1, rfl, D, us ++ [z], -1, z, rfl, rfl, SqL.of hD1, atI_last us z, _, rfl, ?_⟩
    refine ⟨x, kl, ks, z, y2, ri, st, rfl, hk.same s1', h3.tk (same_tk sT), h4, StpV.same s1' hsv, g1, g2, fun w2 H2 s2 h7 => ?_⟩
    have hD2 := s2 _ _ hD1
    refine ⟨D, _, _, rfl, rfl, hD2, sz' (by rw [List.length_append, List.length_singleton]; omega), ?_⟩
    have tk : Tk K H2 (upd H2 D (.lst (us ++ [z] ++ [w2]))) := (but_upd _).tk hD2
    refine ⟨_, _, us ++ [z], w2, aft ks ri st, rfl, fun b o e => ?_, upd_same, by rw [List.length_append, List.length_singleton]; omega, h7.tk tk, g2, g3, h6⟩
    rw [upd_ne (ne_of_none e hD)]
    exact s2 _ _ (s1' _ _ e)
  · rintro σ H1 ⟨u1, u2, us, z, ri, rfl, s1, h1, h2, h3, h4, h5, h6⟩
    rw [hf.len, List.drop_length] at h6
    have e6 : ri = endr ks r sts := h6
    rw [e6] at h3
    exact ⟨_, rfl, q D us z H1 s1 hD h1 h3⟩

def sp_turn_init (CK C : Addr) (K : PySem.W.Frag) : Sp := fun vs H Q _ => ∃ (p dx x l : Addr) (ks : List Nat) (v : V) (r : List Nat) (sl : Addr) (ys : List V) (sts : List Stp), vs = [.ref p, .ref x, v, .ref sl] ∧ H p = some (.ins C dx []) ∧ p ≠ x ∧ KindAt K CK H x l ks ∧ NumsV K H v r ∧ RackOk r ∧ H sl = some (.lst ys) ∧ Fits (StpV K H) ys sts ∧ sts.length ≤ 60 ∧ ChainOk ks r sts ∧
  ∀ pl dl z H', But p H H' → H' p = some (.ins C dx (tf (.ref x) (.ref pl) (.ref dl) v z)) → H' dl = some (.lst ys) → NumsV K H' z (endr ks r sts) → Q .non H'
theorem sc_Turning___init__ : FnScope ["self", "kind", "rack", "steps"] ["self", "kind", "rack", "steps"] (defScope s_Turning___init__) := ⟨rfl, rfl, rfl, by decide +kernel, rfl, by decide +kernel, by decide +kernel⟩
theorem ok_Turning___init__ (T : Tp w K mg) : FnOk P w K mg base CX0 8 T.d_Turning___init__.f T.d_Turning___init__.fd ["self", "kind", "rack", "steps"] (sp_turn_init T.C_Kind T.C_Turning K) := by
  refine T.d_Turning___init__.F.ok sc_Turning___init__ (fun vs H Q E h => ?_) (fun cdv A outer s H vs Q E hr h => ?_)
  · obtain ⟨_, _, _, _, _, _, _, _, _, _, rfl, _⟩ := h
    rfl
  obtain ⟨p, dx, x, kl, ks, v, r, sl, ys, sts, rfl, hp, npx, hk, hv, ho, hl, hf, hz, hch, q⟩ := h
  refine ⟨_, (pss_cons (ps_expr (pe_call (ok_rack_unless T) (hr.mono (by omega)) (by rfl) T.d_rack_unless.m T.d_rack_unless.F.kp T.d_rack_unless.b .nil pass0 (pa_cons (pv 2) pa_nil)))
    (pss_cons (ps_if (pt_not (pt_val (pe_callB call_isT (by rfl) T.n_isinstance (by decide +kernel) (pa_cons (pv 3) (pa_cons (pe_bltn (v := .ty "list") (by rfl) T.n_list (by decide +kernel) rfl) pa_nil))))) (pss_one ps_never) pss_nil)
    (pss_cons (ps_fld (pv 0) (pv 1) rfl)
    (pss_cons (ps_fld (pv 0) (pe_call (ok_racks_on T) (hr.mono (by omega)) (by rfl) T.d_racks_on.m T.d_racks_on.F.kp T.d_racks_on.b .nil pass0 (pa_cons (pv 1) (pa_cons (pv 2) (pa_cons (pv 3) pa_nil)))) rfl)
    (pss_cons (ps_fld (pv 0) (pe_callTy call_list_of (by rfl) T.n_list (by decide +kernel) (pa_cons (pv 3) pa_nil)) rfl)
    (pss_cons (ps_fld (pv 0) (pv 2) rfl)
    (pss_one (ps_fld (pv 0) (pe_ix ix_list (pe_fld (pv 0) rfl) (pe_un un_neg pe_int) (fun _ _ => rfl)) rfl)))))))), ?_⟩
  refine ⟨_, rfl, v, r, rfl, hv, ho, fun H1 s1 => ?_⟩
  have hp1 := s1 _ _ hp
  have hl1 := s1 _ _ hl
  refine ⟨_, rfl, _, _, _, rfl, .lst hl1, _, rfl, iteF ?_⟩
  refine ⟨_, rfl, _, rfl, p, _, dx, [], rfl, hp1, T.cl_Turning, T.a_Turning_kind, (by show 0 < 1000; decide), ?_⟩
  have b2 : But p H1 (upd H1 p (.ins T.C_Turning dx (putF "kind" (.ref x) []))) := but_upd _
  have tkB : ∀ {Ha Hb : Hp} {fs : List (Str × V)}, Ha p = some (.ins T.C_Turning dx fs) → But p Ha Hb → Tk K Ha Hb := by
    rintro Ha Hb fs hpa b a xs ((h | ⟨o, h⟩) | h)
    · exact .inl (.inl (b _ _ (ne_of h hpa (by intro z; cases z)) h))
    · exact .inl (.inr ⟨o, b _ _ (ne_of h hpa (by intro z; cases z)) h⟩)
    · exact .inr h
  have stB : ∀ {Ha Hb : Hp} {fs : List (Str × V)}, Ha p = some (.ins T.C_Turning dx fs) → But p Ha Hb → ∀ {u : V} {st : Stp}, StpV K Ha u st → StpV K Hb u st := by
    intro Ha Hb fs hpa b u st h
    rcases st with ⟨_, _⟩ | ⟨_, _⟩ | _
    · obtain ⟨a, e, h⟩ := h; exact ⟨a, e, tkB hpa b _ _ h⟩
    · obtain ⟨a, e, h⟩ := h; exact ⟨a, e, tkB hpa b _ _ h⟩
    · obtain ⟨a, c, e, h, o, g1, g2⟩ := h
      exact ⟨a, c, e, tkB hpa b _ _ h, o, b _ _ (ne_of g1 hpa (by intro z; cases z)) g1, g2⟩
  have kB : ∀ {Ha Hb : Hp} {fs : List (Str × V)}, Ha p = some (.ins T.C_Turning dx fs) → But p Ha Hb → KindAt K T.C_Kind Ha x kl ks → KindAt K T.C_Kind Hb x kl ks := by
    rintro Ha Hb fs hpa b ⟨dk, vs, rs, h1, h2, h3, h4⟩
    exact ⟨dk, vs, rs, b _ _ npx.symm h1, b _ _ (ne_of h2 hpa (by intro z; cases z)) h2, h3.imp fun v b' _ k => k.tk (tkB hpa b), h4⟩
  have hk2 := kB hp1 b2 (hk.same s1)
  have hv2 := (hv.tk (same_tk s1)).tk (tkB hp1 b2)
  have hl2 := b2 _ _ (ne_of hl1 hp1 (by intro z; cases z)) hl1
  have hf2 : Fits (StpV K (upd H1 p (.ins T.C_Turning dx (putF "kind" (.ref x) [])))) ys sts := hf.imp fun u st _ h => stB hp1 b2 (StpV.same s1 h)
  refine ⟨_, rfl, _, rfl, _, rfl, x, kl, ks, v, r, sl, ys, sts, rfl, hk2, hv2, ho, hl2, hf2, hz, hch, fun D us z H3 s3 hD h3 h4 => ?_⟩
  have hp3 := s3 _ _ upd_same
  have n3 : D ≠ p := (ne_of_none (H := upd H1 p (.ins T.C_Turning dx (putF "kind" (.ref x) []))) upd_same hD).symm
  refine ⟨_, rfl, p, _, dx, _, rfl, hp3, T.cl_Turning, T.a_Turning_passed, put1 (n := 999) (by show 0 < 999; decide), ?_⟩
  have b4 : But p H3 (upd H3 p (.ins T.C_Turning dx (putF "passed" (.ref D) (putF "kind" (.ref x) [])))) := but_upd _
  have hl4 := b4 _ _ (ne_of (s3 _ _ hl2) hp3 (by intro z; cases z)) (s3 _ _ hl2)
  refine ⟨_, rfl, sl, ys, rfl, .inl (SqL.of hl4), fun L hL => ?_⟩
  have s5 := same_new hL (.lst ys)
  have hp5 := s5 _ _ (upd_same (H := H3) (a := p))
  have nL : L ≠ p := (ne_of_none (upd_same (H := H3) (a := p)) hL).symm
  refine ⟨_, rfl, p, _, dx, _, rfl, hp5, T.cl_Turning, T.a_Turning_done, put1 (n := 999) (put1 (n := 998) (by show 0 < 998; decide)), ?_⟩
  have b6 := but_upd (l := p) (H := upd (upd H3 p (.ins T.C_Turning dx (putF "passed" (.ref D) (putF "kind" (.ref x) [])))) L (.lst ys)) (.ins T.C_Turning dx (putF "done" (.ref L) (putF "passed" (.ref D) (putF "kind" (.ref x) []))))
  refine ⟨_, rfl, _, rfl, p, _, dx, _, rfl, upd_same, T.cl_Turning, T.a_Turning_begin, put1 (n := 999) (put1 (n := 998) (put1 (n := 997) (by show 0 < 997; decide))), ?_⟩
  have hD5 : (upd (upd H3 p (.ins T.C_Turning dx (putF "passed" (.ref D) (putF "kind" (.ref x) [])))) L (.lst ys)) D = some (.lst (us ++ [z])) := by
    refine s5 _ _ ?_
    rw [upd_ne n3]
    exact h3
  refine ⟨_, rfl, p, _, dx, _, .ref D, rfl, upd_same, T.cl_Turning, T.a_Turning_passed, ?_, 1, rfl, D, us ++ [z], -1, z, rfl, rfl, SqL.of ?_, atI_last us z, ?_⟩
  · rw [lookup_putF, if_neg (by decide +kernel), lookup_putF, if_neg (by decide +kernel), lookup_putF, if_pos rfl]
  · rw [upd_ne n3, upd_ne n3]
    exact hD5
  refine ⟨_, rfl, p, _, dx, _, rfl, upd_same, T.cl_Turning, T.a_Turning_end, put1 (n := 999) (put1 (n := 998) (put1 (n := 997) (put1 (n := 996) (by show 0 < 996; decide)))), ?_⟩
  refine q D L z _ (fun b o n e => ?_) upd_same ?_ ?_
  · rw [upd_ne n, upd_ne n, upd_ne n]
    refine s5 _ _ ?_
    rw [upd_ne n]
    refine s3 _ _ ?_
    rw [upd_ne n]
    exact s1 _ _ e
  · rw [upd_ne nL, upd_ne nL, upd_ne nL]
    exact upd_same
  · refine h4.tk (Tk.trans (tkB hp3 b4) (Tk.trans (same_tk s5) (tkB hp5 ?_)))
    intro b o n e
    rw [upd_ne n, upd_ne n, upd_ne n]
    exact e

def TurnAt (K : PySem.W.Frag) (CT : Addr) (H : Hp) (p x : Addr) (bv ev : V) (sts : List Stp) : Prop :=
  ∃ (dx pl dl : Addr) (ys : List V), H p = some (.ins CT dx (tf (.ref x) (.ref pl) (.ref dl) bv ev)) ∧ H dl = some (.lst ys) ∧ Fits (StpV K H) ys sts
theorem TurnAt.same {CT : Addr} {H H' : Hp} {p x : Addr} {bv ev : V} {sts : List Stp} (h : TurnAt K CT H p x bv ev sts) (e : Same H H') : TurnAt K CT H' p x bv ev sts := by
  obtain ⟨dx, pl, dl, ys, h1, h2, h3⟩ := h
  exact ⟨dx, pl, dl, ys, e _ _ h1, e _ _ h2, h3.imp fun v b _ k => StpV.same e k⟩

def sp_run (CK CT : Addr) (K : PySem.W.Frag) : Sp := fun vs H Q _ => ∃ (p x l : Addr) (ks : List Nat) (bv ev t : V) (r : List Nat) (sts : List Stp) (y : Thg), vs = [.ref p, t] ∧ TurnAt K CT H p x bv ev sts ∧ KindAt K CK H x l ks ∧ NumsV K H bv r ∧ RackOk r ∧ ThV K H t y ∧ IsThg ks r y ∧ y.2.length ≤ 1000 ∧ RunOk ks sts y ∧ ∀ v H', Same H H' → ThV K H' v (runs ks sts y) → Q v H'
theorem sc_Turning_run : FnScope ["self", "thing", "step"] ["self", "thing"] (defScope s_Turning_run) := ⟨rfl, rfl, rfl, by decide +kernel, rfl, by decide +kernel, by decide +kernel⟩
theorem ok_Turning_run (T : Tp w K mg) : FnOk P w K mg base CX0 8 T.d_Turning_run.f T.d_Turning_run.fd ["self", "thing"] (sp_run T.C_Kind T.C_Turning K) := by
  refine T.d_Turning_run.F.ok sc_Turning_run (fun vs H Q E h => ?_) (fun cdv A outer s H vs Q E hr h => ?_)
  · obtain ⟨_, _, _, _, _, _, _, _, _, _, rfl, _⟩ := h
    rfl
  obtain ⟨p, x, kl, ks, bv, ev, t, r, sts, y, rfl, ht0, hk, hbv, ho, ht, hy, hyl, hrun, q⟩ := h
  obtain ⟨dx, pl, dl, ys, h1, h2, h3⟩ := id ht0
  refine ⟨_, (pss_cons (ps_if (pt_not (pt_val (pe_call (ok_is_thing T) (hr.mono (by omega)) (by rfl) T.d_is_thing.m T.d_is_thing.F.kp T.d_is_thing.b .nil pass0 (pa_cons (pe_fld (pv 0) rfl) (pa_cons (pe_fld (pv 0) rfl) (pa_cons (pv 1) pa_nil)))))) (pss_one ps_never) pss_nil)
    (pss_cons (ps_for PassesOwn.never rfl (pi_list (pe_fld (pv 0) rfl)) (pg_name (i := 2) sc_Turning_run.nd rfl (Or.inl rfl))
    (pss_one (ps_set (i := 1) sc_Turning_run.nd rfl (Or.inl rfl) (pe_call (ok_moved T) (hr.mono (by omega)) (by rfl) T.d_moved.m T.d_moved.F.kp T.d_moved.b .nil pass0 (pa_cons (pe_fld (pv 0) rfl) (pa_cons (pv 2) (pa_cons (pv 1) pa_nil)))))))
    (pss_one (ps_ret (pv 1))))), ?_⟩
  refine ⟨_, rfl, p, _, dx, _, _, rfl, h1, T.cl_Turning, T.a_Turning_kind, tf_kind .., _, rfl, p, _, dx, _, _, rfl, h1, T.cl_Turning, T.a_Turning_begin, tf_begin .., _, rfl, _, r, rfl, hbv, ho, x, kl, ks, _, _, r, y, rfl, hk, hbv, ht, hy, hyl, fun H1 s1 => ⟨_, rfl, iteF ?_⟩⟩
  have g1 := s1 _ _ h1
  refine ⟨_, rfl, p, _, dx, _, _, rfl, g1, T.cl_Turning, T.a_Turning_done, tf_done .., dl, rfl, ⟨ys, SqL.of (s1 _ _ h2)⟩, for_it walk_list (fun i σ H' => ∃ (u : Option V) (tv : V) (z : Thg), σ = [some (.ref p), some tv, u] ∧ Same H H' ∧ ThV K H' tv z ∧ RunOk ks (sts.drop i) z ∧ runs ks (sts.drop i) z = runs ks sts y)
    ⟨none, t, y, rfl, s1, ht.tk (same_tk s1), hrun, rfl⟩ (fun i σ H' _ ⟨_, _, _, _, e, _⟩ => SqL.of (e _ _ h2)) ?_ ?_⟩
  · rintro i w1 σ H2 H2' hi ⟨u, tv, z, rfl, s2, k1, k2, k3⟩ ⟨rfl, hw⟩
    obtain ⟨st, hst, hsv⟩ := h3.at_ hw
    have hi2 := (List.getElem?_eq_some_iff.mp hst).1
    have ed : sts.drop i = st :: sts.drop (i + 1) := by
      rw [List.drop_eq_getElem_cons hi2]
      exact congrArg (· :: _) (List.getElem?_eq_some_iff.mp hst).2
    rw [ed] at k2 k3
    refine ⟨_, rfl, p, _, dx, _, _, rfl, s2 _ _ h1, T.cl_Turning, T.a_Turning_kind, tf_kind .., _, rfl, _, rfl, x, kl, ks, w1, tv, st, z, rfl, hk.same s2, StpV.same s2 hsv, k1, k2.1, fun v3 H3 s3 k4 => ?_⟩
    exact ⟨_, v3, mv ks st z, rfl, s2.trans s3, k4, k2.2, k3⟩
  · rintro σ H2 ⟨u, tv, z, rfl, s2, k1, k2, k3⟩
    rw [h3.len, List.drop_length] at k3
    have e3 : z = runs ks sts y := k3
    rw [e3] at k1
    exact ⟨_, rfl, q _ _ s2 k1⟩

def UnOk : List Stp → Prop
  | [] => True
  | st :: t => (∀ ps, st = .ord ps → ps.Nodup ∧ ps.length ≤ 1000 ∧ ∀ m, m < ps.length → m ∈ ps) ∧ UnOk t
theorem UnOk.mem : ∀ {l : List Stp}, UnOk l → ∀ st ∈ l, ∀ ps, st = .ord ps → ps.Nodup ∧ ps.length ≤ 1000 ∧ ∀ m, m < ps.length → m ∈ ps
  | _ :: _, h, st, hm => by
    rcases List.mem_cons.mp hm with rfl | hm
    · exact h.1
    · exact UnOk.mem h.2 st hm
def sp_back (CK CT : Addr) (K : PySem.W.Frag) : Sp := fun vs H Q _ => ∃ (p x l : Addr) (ks : List Nat) (bv ev t : V) (r : List Nat) (sts : List Stp) (y : Thg), vs = [.ref p, t] ∧ TurnAt K CT H p x bv ev sts ∧ KindAt K CK H x l ks ∧ NumsV K H ev r ∧ RackOk r ∧ ThV K H t y ∧ IsThg ks r y ∧ y.2.length ≤ 1000 ∧ UnOk sts ∧ RunOk ks (sts.reverse.map undo) y ∧ ∀ v H', Same H H' → ThV K H' v (runs ks (sts.reverse.map undo) y) → Q v H'
theorem sc_Turning_back : FnScope ["self", "thing", "step"] ["self", "thing"] (defScope s_Turning_back) := ⟨rfl, rfl, rfl, by decide +kernel, rfl, by decide +kernel, by decide +kernel⟩
theorem ok_Turning_back (T : Tp w K mg) : FnOk P w K mg base CX0 8 T.d_Turning_back.f T.d_Turning_back.fd ["self", "thing"] (sp_back T.C_Kind T.C_Turning K) := by
  refine T.d_Turning_back.F.ok sc_Turning_back (fun vs H Q E h => ?_) (fun cdv A outer s H vs Q E hr h => ?_)
  · obtain ⟨_, _, _, _, _, _, _, _, _, _, rfl, _⟩ := h
    rfl
  obtain ⟨p, x, kl, ks, bv, ev, t, r, sts, y, rfl, ht0, hk, hbv, ho, ht, hy, hyl, hun, hrun, q⟩ := h
  obtain ⟨dx, pl, dl, ys, h1, h2, h3⟩ := id ht0
  refine ⟨_, (pss_cons (ps_if (pt_not (pt_val (pe_call (ok_is_thing T) (hr.mono (by omega)) (by rfl) T.d_is_thing.m T.d_is_thing.F.kp T.d_is_thing.b .nil pass0 (pa_cons (pe_fld (pv 0) rfl) (pa_cons (pe_fld (pv 0) rfl) (pa_cons (pv 1) pa_nil)))))) (pss_one ps_never) pss_nil)
    (pss_cons (ps_for PassesOwn.never rfl (pi_reversed (by rfl) T.n_reversed (pa_cons (pe_fld (pv 0) rfl) pa_nil)) (pg_name (i := 2) sc_Turning_back.nd rfl (Or.inl rfl))
    (pss_one (ps_set (i := 1) sc_Turning_back.nd rfl (Or.inl rfl) (pe_call (ok_moved T) (hr.mono (by omega)) (by rfl) T.d_moved.m T.d_moved.F.kp T.d_moved.b .nil pass0 (pa_cons (pe_fld (pv 0) rfl) (pa_cons (pe_call (ok_undone_step T) (hr.mono (by omega)) (by rfl) T.d_undone_step.m T.d_undone_step.F.kp T.d_undone_step.b .nil pass0 (pa_cons (pv 2) pa_nil)) (pa_cons (pv 1) pa_nil)))))))
    (pss_one (ps_ret (pv 1))))), ?_⟩
  refine ⟨_, rfl, p, _, dx, _, _, rfl, h1, T.cl_Turning, T.a_Turning_kind, tf_kind .., _, rfl, p, _, dx, _, _, rfl, h1, T.cl_Turning, T.a_Turning_end, tf_end .., _, rfl, _, r, rfl, hbv, ho, x, kl, ks, _, _, r, y, rfl, hk, hbv, ht, hy, hyl, fun H1 s1 => ⟨_, rfl, iteF ?_⟩⟩
  have g1 := s1 _ _ h1
  refine ⟨_, rfl, p, _, dx, _, _, rfl, g1, T.cl_Turning, T.a_Turning_done, tf_done .., dl, ys, rfl, SqL.of (s1 _ _ h2), for_it walk_rev (fun i σ H' => ∃ (u : Option V) (tv : V) (z : Thg), σ = [some (.ref p), some tv, u] ∧ Same H H' ∧ ThV K H' tv z ∧ RunOk ks ((sts.reverse.map undo).drop i) z ∧ runs ks ((sts.reverse.map undo).drop i) z = runs ks (sts.reverse.map undo) y)
    ⟨none, t, y, rfl, s1, ht.tk (same_tk s1), hrun, rfl⟩ (fun i σ H' _ ⟨_, _, _, _, e, _⟩ => SqL.of (e _ _ h2)) ?_ ?_⟩
  · rintro i w1 σ H2 H2' hi ⟨u, tv, z, rfl, s2, k1, k2, k3⟩ ⟨rfl, hw⟩
    obtain ⟨st, hst, hsv⟩ := h3.at_ hw
    rw [h3.len] at hst hi
    have hrev : (sts.reverse.map undo)[i]? = some (undo st) := by
      rw [List.getElem?_map, List.getElem?_reverse hi, hst]; rfl
    have hi2 := (List.getElem?_eq_some_iff.mp hrev).1
    have ed : (sts.reverse.map undo).drop i = undo st :: (sts.reverse.map undo).drop (i + 1) := by
      rw [List.drop_eq_getElem_cons hi2]
      exact congrArg (· :: _) (List.getElem?_eq_some_iff.mp hrev).2
    rw [ed] at k2 k3
    refine ⟨_, rfl, p, _, dx, _, _, rfl, s2 _ _ h1, T.cl_Turning, T.a_Turning_kind, tf_kind .., _, rfl, w1, st, rfl, StpV.same s2 hsv, hun.mem st (List.mem_of_getElem? hst), fun w2 H3 s3 k4 => ?_⟩
    have s03 := s2.trans s3
    refine ⟨_, rfl, x, kl, ks, w2, tv, undo st, z, rfl, hk.same s03, k4, k1.tk (same_tk s3), k2.1, fun v4 H4 s4 k5 => ?_⟩
    exact ⟨_, v4, mv ks (undo st) z, rfl, s03.trans s4, k5, k2.2, k3⟩
  · rintro σ H2 ⟨u, tv, z, rfl, s2, k1, k2, k3⟩
    rw [h3.len] at k3
    have en : (sts.reverse.map undo).drop sts.length = [] := List.drop_eq_nil_of_le (by simp)
    rw [en] at k3
    have e3 : z = runs ks (sts.reverse.map undo) y := k3
    rw [e3] at k1
    exact ⟨_, rfl, q _ _ s2 k1⟩
end
end Bs
/-! The walk: the law's own well, numbers, house. -/
namespace Bs
open PySem PySem.Spec L2
section
variable {X : Cx}
theorem op_modP : OpR X (binaryOp .Mod) (fun x y H Q => ∃ a b : Nat, x = vi a ∧ y = vi b ∧ 0 < b ∧ ∀ r, r < b → r = a % b → Q (vi r) H) :=
  opImp op_mod fun x y H Q ⟨a, b, h1, h2, h3, q⟩ => ⟨a, b, h1, h2, by show (0 : Int) < b; omega, by
    show Q (.int ((a : Int) % b)) H
    rw [← Int.natCast_emod]
    exact q _ (Nat.mod_lt _ h3) rfl⟩
theorem op_divP : OpR X (binaryOp .FloorDiv) (fun x y H Q => ∃ a b : Nat, x = vi a ∧ y = vi b ∧ 0 < b ∧ b < 1073741824 ∧ Q (vi (a / b)) H) :=
  opImp op_fdiv fun x y H Q ⟨a, b, h1, h2, h3, h4, q⟩ => ⟨a, b, h1, h2, ⟨by omega, by omega⟩, by
    show Q (.int ((a : Int) / b)) H
    rw [← Int.natCast_ediv]
    exact q⟩
theorem op_powP : OpR X (binaryOp .Pow) (fun x y H Q => ∃ a b : Nat, x = vi a ∧ y = vi b ∧ b ≤ 1000 ∧ a < 2 ^ 64 ∧ Q (vi (a ^ b)) H) :=
  opImp op_pow fun x y H Q ⟨a, b, h1, h2, h3, h4, q⟩ => ⟨a, b, h1, h2, ⟨by omega, by omega, by rw [Int.natAbs_natCast]; exact h4⟩, by
    show Q (.int ((a : Int) ^ ((b : Nat) : Int).toNat)) H
    rw [Int.toNat_natCast, ← Int.natCast_pow]
    exact q⟩
theorem flat_nums (ns : List Nat) : (ns.map vi).all flatV = true := by
  rw [List.all_map]
  exact List.all_eq_true.mpr fun _ _ => rfl
theorem eq_vi (a b : Nat) : eqV (vi a) (vi b) = decide (a = b) := by
  show ((a : Int) == (b : Int)) = _
  rw [Bool.eq_iff_iff]
  simp
  omega
theorem idx_le : ∀ {ns : List Nat} {m f : Nat}, ns[m]? = some f → ns.idxOf f ≤ m
  | [], _, _, h => by cases h
  | a :: ns, 0, f, h => by
    have e : a = f := Option.some.inj h
    subst e
    rw [List.idxOf_cons, beq_self_eq_true]
    exact Nat.le_refl _
  | a :: ns, m + 1, f, h => by
    have ih := idx_le (ns := ns) (m := m) (f := f) h
    rw [List.idxOf_cons]
    cases e : a == f with
    | true => exact Nat.zero_le _
    | false => exact Nat.succ_le_succ ih
theorem mt_indexN : MtR X "list.index" (fun x xs H Q => ∃ (l : Addr) (ns : List Nat) (k : Nat), x = .ref l ∧ xs = [vi k] ∧ SqL X.K H l (ns.map vi) ∧ k ∈ ns ∧ Q (vi (ns.idxOf k)) H) := by
  intro pins s σ H x xs v us Q I rx rxs ⟨l, ns, k, h1, h2, h3, h4, q⟩
  have hlt : ns.idxOf k < ns.length := List.idxOf_lt_length_of_mem h4
  have hat : ns[ns.idxOf k]? = some k := by rw [List.getElem?_eq_getElem hlt, List.getElem_idxOf hlt]
  refine mt_index pins s σ H x xs v us Q I rx rxs ⟨l, ns.map vi, vi k, ns.idxOf k, vi k, h1, h2, h3, rfl, flat_nums ns, by rw [List.getElem?_map, hat]; rfl, by rw [eq_vi]; exact decide_eq_true rfl, ?_, q⟩
  intro m z hm hz
  obtain ⟨f, hz0, rfl⟩ := nums_get hz
  have hf := hz0
  rw [eq_vi]
  refine decide_eq_false fun e => ?_
  subst e
  have hmn : m < ns.length := by omega
  have h5 : ns[m] = f := (List.getElem?_eq_some_iff.mp hf).2
  have h6 : ns.idxOf f ≤ m := by
    exact idx_le hz0
  omega
theorem op_repN : OpR X (binaryOp .Mult) (fun x y H Q => ∃ (ns : List Nat) (k : Nat), NumsV X.K H x ns ∧ y = vi k ∧ ns ≠ [] ∧ 1 ≤ k ∧ k ≤ 1000 ∧ ns.length ≤ 1000 ∧ ∀ v H', Same H H' → NumsV X.K H' v (List.replicate k ns).flatten → Q v H') := by
  refine opImp (OpR.or op_repT1 op_repT) fun x y H Q ⟨ns, k, ⟨a, h1, h2⟩, h3, h4, h5, h6, h7, q⟩ => ?_
  rcases Nat.lt_or_ge k 2 with c | c
  · have e : k = 1 := by omega
    subst e
    exact .inl ⟨a, _, h1, h3, h2, q _ _ (Same.refl _) ⟨a, rfl, by simpa using h2⟩⟩
  · refine .inr ⟨a, (k : Int), _, h1, h3, h2, by simpa using h4, by omega, by omega, by rw [List.length_map]; exact h7, fun p hp => ?_⟩
    have e : (List.replicate (k : Int).toNat (ns.map vi)).flatten = ((List.replicate k ns).flatten).map vi := by
      rw [Int.toNat_natCast, List.map_flatten, List.map_replicate]
    rw [e]
    exact q _ _ (same_new hp _) NumsV.new
end
/-- the well at l -/
def WellAt (H : Hp) (l : Addr) : Prop := ∃ x y z : Nat, H l = some (.lst ([x, y, z].map vi)) ∧ y < 2 ^ 31
theorem WellAt.same {H H' : Hp} {l : Addr} (h : WellAt H l) (e : Same H H') : WellAt H' l := by
  obtain ⟨x, y, z, h1, h2⟩ := h
  exact ⟨x, y, z, e _ _ h1, h2⟩
theorem WellAt.but {H H' : Hp} {l m : Addr} (h : WellAt H l) (e : But m H H') (n : l ≠ m) : WellAt H' l := by
  obtain ⟨x, y, z, h1, h2⟩ := h
  exact ⟨x, y, z, e _ _ n h1, h2⟩
structure KsOk (ks : List Nat) : Prop where
  lo : 2 ≤ ks.length
  hi : ks.length ≤ 5
  leaf : 0 ∈ ks
  le : ∀ k ∈ ks, k ≤ 4
  wide : ∃ k ∈ ks, 1 < k
def nm (i : Nat) : Str := Txt.mul ⟨#[97 + i]⟩ ((1 + i % 3 : Nat) : Int)
def rowsOf (ks : List Nat) : List (Str × Nat) := (ks.zipIdx 0).map fun (q : Nat × Nat) => (nm q.2, q.1)
theorem rowsOf_snd (ks : List Nat) : (rowsOf ks).map Prod.snd = ks := by
  unfold rowsOf
  rw [List.map_map]
  exact List.zipIdx_map_fst 0 ks
theorem nm_ok (i : Nat) (h : i < 5) : NameOk (nm i) := by
  have e : i = 0 ∨ i = 1 ∨ i = 2 ∨ i = 3 ∨ i = 4 := by omega
  have k : ∀ j : Nat, (decide (1 ≤ (nm j).length) && decide ((nm j).length ≤ 8) && (nm j).cps.toList.all fun c => decide (c ∈ letters.cps.toList)) = true → NameOk (nm j) := fun j hj => by
    simp only [Bool.and_eq_true, decide_eq_true_eq, List.all_eq_true] at hj
    exact ⟨hj.1.1, hj.1.2, hj.2⟩
  rcases e with rfl | rfl | rfl | rfl | rfl <;> exact k _ (by decide +kernel)
theorem rows_ok {ks : List Nat} (h : KsOk ks) : RowsOk (rowsOf ks) := by
  have hl : (rowsOf ks).length = ks.length := by rw [← rowsOf_snd ks, List.length_map]; rw [rowsOf_snd]
  refine ⟨by rw [hl]; exact h.lo, by rw [hl]; exact h.hi, fun r hr => ?_, ?_, by rw [rowsOf_snd]; exact h.leaf, by rw [rowsOf_snd]; exact h.wide⟩
  · unfold rowsOf at hr
    obtain ⟨q, hq, rfl⟩ := List.mem_map.mp hr
    obtain ⟨i, hi⟩ := List.getElem?_of_mem hq
    rw [List.getElem?_zipIdx] at hi
    cases e : ks[i]? with
    | none => rw [e] at hi; cases hi
    | some k =>
      rw [e] at hi
      have e2 := Option.some.inj hi
      have q1 : k = q.1 := congrArg Prod.fst e2
      have q2 : 0 + i = q.2 := congrArg Prod.snd e2
      have hi5 := (List.getElem?_eq_some_iff.mp e).1
      have := h.hi
      refine ⟨?_, ?_⟩
      · show NameOk (nm q.2)
        exact nm_ok _ (by omega)
      · show q.1 ≤ 4
        rw [← q1]
        exact h.le k (List.mem_of_getElem? e)
  · have e : (rowsOf ks).map Prod.fst = (List.range' 0 ks.length).map nm := by
      unfold rowsOf
      rw [List.map_map, ← List.zipIdx_map_snd 0 ks, List.map_map]
      rfl
    rw [e]
    have h1 := h.lo
    have h2 := h.hi
    have c : ks.length = 2 ∨ ks.length = 3 ∨ ks.length = 4 ∨ ks.length = 5 := by omega
    rcases c with c | c | c | c <;> rw [c] <;> decide +kernel
section
variable {P : Program} {w : World} {K : PySem.W.Frag} {mg : Str → Option Value} {base : Heap}

def sp_well : Sp := fun vs H Q _ => ∃ c : Int, vs = [.int c] ∧ ∀ l H', Same H H' → H l = none → WellAt H' l → Q (.ref l) H'
theorem sc__law_well : FnScope ["_law_cell"] ["_law_cell"] (defScope s__law_well) := ⟨rfl, rfl, rfl, by decide +kernel, rfl, by decide +kernel, by decide +kernel⟩
theorem ok__law_well (T : Tp w K mg) : FnOk P w K mg base CX0 1 T.d__law_well.f T.d__law_well.fd ["_law_cell"] sp_well := by
  refine T.d__law_well.F.ok sc__law_well (fun vs H Q E h => ?_) (fun cdv A outer s H vs Q E hr h => ?_)
  · obtain ⟨_, rfl, _⟩ := h
    rfl
  obtain ⟨c, rfl, q⟩ := h
  refine ⟨_, (pss_one (ps_ret (pe_lst (pa_cons (pe_op op_mul (pv 0) (pe_callTy call_int1 (by rfl) T.n_int (by decide +kernel) (pa_cons (pe_cmpR op_ge (pv 0) (pe_op op_pow pe_int pe_int) (nomark _)) pa_nil))) (pa_cons (pe_op op_mod (pv 0) pe_int) (pa_cons pe_int pa_nil)))))), ?_⟩
  refine ⟨_, rfl, _, rfl, 10, 18, rfl, rfl, ⟨by decide, by decide, by decide⟩, c, _, rfl, rfl, .inr ⟨_, rfl, ?_⟩⟩
  refine ⟨c, _, rfl, rfl, .inr ?_, ?_⟩
  · split
    · exact ⟨by decide, by decide⟩
    · exact ⟨by decide, by decide⟩
  refine ⟨_, rfl, c, _, rfl, rfl, (by show (0 : Int) < 2147483647; decide), (by show 3 ≤ sizeLine; decide), fun l hl => ?_⟩
  have hx : ∃ x : Nat, c * (if decide ((10 : Int) ^ (18 : Int).toNat ≤ c) = true then 1 else 0) = (x : Int) := by
    by_cases cc : (10 : Int) ^ (18 : Int).toNat ≤ c
    · rw [decide_eq_true cc, if_pos rfl]
      have h0 : (0 : Int) ≤ 10 ^ (18 : Int).toNat := by decide
      exact ⟨c.toNat, by omega⟩
    · rw [decide_eq_false cc]
      exact ⟨0, by simp⟩
  obtain ⟨x, hx⟩ := hx
  have h0 : 0 ≤ c % 2147483647 := Int.emod_nonneg _ (by decide)
  have h1 : c % 2147483647 < 2147483647 := Int.emod_lt_of_pos _ (by decide)
  refine q l _ (same_new hl _) hl ⟨x, (c % 2147483647).toNat, 0, ?_, by omega⟩
  have hy : (((c % 2147483647).toNat : Nat) : Int) = c % 2147483647 := Int.toNat_of_nonneg h0
  show upd H l _ l = some (.lst [.int (x : Int), .int (((c % 2147483647).toNat : Nat) : Int), .int 0])
  rw [upd_same, hy, ← hx]

def sp_draw : Sp := fun vs H Q _ => ∃ (l : Addr) (m : Nat), vs = [.ref l, vi m] ∧ WellAt H l ∧ 0 < m ∧ m < 1073741824 ∧ ∀ d H', But l H H' → WellAt H' l → d < m → Q (vi d) H'
theorem sc__law_draw : FnScope ["_law_well_here", "_law_many", "_law_digit", "_law_one"] ["_law_well_here", "_law_many"] (defScope s__law_draw) := ⟨rfl, rfl, rfl, by decide +kernel, rfl, by decide +kernel, by decide +kernel⟩
theorem ok__law_draw (T : Tp w K mg) : FnOk P w K mg base CX0 1 T.d__law_draw.f T.d__law_draw.fd ["_law_well_here", "_law_many"] sp_draw := by
  refine T.d__law_draw.F.ok sc__law_draw (fun vs H Q E h => ?_) (fun cdv A outer s H vs Q E hr h => ?_)
  · obtain ⟨_, _, rfl, _⟩ := h
    rfl
  obtain ⟨l, m, rfl, ⟨x, y, z, hl, hy⟩, hm, hm2, q⟩ := h
  refine ⟨_, (pss_cons (ps_if (pt_cmpR op_gtN (pe_ix ix_lnums (pv 0) pe_int (fun _ _ => rfl)) pe_int (nomark _)) (pss_cons (ps_asg (pe_callB call_divmod (by rfl) T.n_divmod (by decide +kernel) (pa_cons (pe_ix ix_lnums (pv 0) pe_int (fun _ _ => rfl)) (pa_cons (pv 1) pa_nil))) (pg_tup (by rfl) (pgs_cons (pg_sub (pv 0) pe_int set_list) (pgs_cons (pg_name (i := 2) sc__law_draw.nd rfl (Or.inl rfl)) pgs_nil))))
    (pss_one (ps_ret (pv 2)))) pss_nil)
    (pss_cons (ps_asg (pe_op op_addN (pe_ix ix_lnums (pv 0) pe_int (fun _ _ => rfl)) pe_int) (pg_sub (pv 0) pe_int set_list))
    (pss_cons (ps_set (i := 3) sc__law_draw.nd rfl (Or.inl rfl) (pe_op op_modP (pe_op op_addN (pe_op op_addN (pe_op op_mulN (pe_ix ix_lnums (pv 0) pe_int (fun _ _ => rfl)) (pe_op op_addN (pe_op op_mulN pe_int (pe_ix ix_lnums (pv 0) pe_int (fun _ _ => rfl))) pe_int)) (pe_op op_mulN pe_int (pe_ix ix_lnums (pv 0) pe_int (fun _ _ => rfl)))) pe_int) pe_int))
    (pss_cons (ps_set (i := 3) sc__law_draw.nd rfl (Or.inl rfl) (pe_op op_addN (pe_op op_modP (pe_op op_powP (pv 3) pe_int) pe_int) pe_int))
    (pss_cons (ps_set (i := 3) sc__law_draw.nd rfl (Or.inl rfl) (pe_op op_modP (pe_op op_mulN (pv 3) (pe_op op_addN (pe_op op_divP (pv 3) pe_int) pe_int)) pe_int))
    (pss_one (ps_ret (pe_op op_modP (pe_op op_divP (pv 3) pe_int) (pv 1))))))))), ?_⟩
  refine ⟨_, rfl, l, [x, y, z], 0, rfl, SqL.of hl, rfl, (by show 0 < 3; decide), x, 0, rfl, rfl, _, rfl, ?_⟩
  refine ite2 (fun cc => ?_) (fun cc => ?_)
  · refine ⟨_, rfl, l, [x, y, z], 0, rfl, SqL.of hl, rfl, (by show 0 < 3; decide), _, rfl, (x : Int), (m : Int), rfl, ⟨by omega, by omega⟩, fun p hp => ?_⟩
    have npl : l ≠ p := ne_of_none hl hp
    have hl2 : (upd H p (.tup [.int ((x : Int) / m), .int ((x : Int) % m)])) l = some (.lst ([x, y, z].map vi)) := by rw [upd_ne npl]; exact hl
    refine ⟨p, _, rfl, SqT.of upd_same, rfl, _, _, rfl, ?_⟩
    refine ⟨_, rfl, l, _, 0, 0, rfl, rfl, hl2, rfl, ?_⟩
    refine ⟨_, _, rfl, rfl, _, rfl, ?_⟩
    have e1 : (.int ((x : Int) % m) : V) = vi (x % m) := congrArg V.int (Int.natCast_emod x m).symm
    have e2 : (.int ((x : Int) / m) : V) = vi (x / m) := congrArg V.int (Int.natCast_ediv x m).symm
    rw [e1]
    refine q (x % m) _ (fun b o n e => ?_) ⟨x / m, y, z, ?_, hy⟩ (Nat.mod_lt _ hm)
    · rw [upd_ne n, upd_ne (ne_of_none e hp)]
      exact e
    · rw [upd_same, e2]
      rfl
  · refine ⟨_, rfl, l, [x, y, z], 2, rfl, SqL.of hl, rfl, (by show 2 < 3; decide), z, 1, rfl, rfl, ?_⟩
    refine ⟨_, rfl, l, _, 2, 2, rfl, rfl, hl, rfl, ?_⟩
    have hl2 : (upd H l (.lst (([x, y, z].map vi).set 2 (vi (z + 1))))) l = some (.lst ([x, y, z + 1].map vi)) := by rw [upd_same]; rfl
    refine ⟨_, rfl, l, [x, y, z + 1], 1, rfl, SqL.of hl2, rfl, (by show 1 < 3; decide), ?_⟩
    refine ⟨_, rfl, l, [x, y, z + 1], 2, rfl, SqL.of hl2, rfl, (by show 2 < 3; decide), 2, z + 1, rfl, rfl, by decide, ?_⟩
    refine ⟨2 * (z + 1), 3, rfl, rfl, y, 2 * (z + 1) + 3, rfl, rfl, by omega, ?_⟩
    refine ⟨_, rfl, l, [x, y, z + 1], 2, rfl, SqL.of hl2, rfl, (by show 2 < 3; decide), 15485863, z + 1, rfl, rfl, by decide, ?_⟩
    refine ⟨_, _, rfl, rfl, _, 11, rfl, rfl, _, 2147483587, rfl, rfl, by decide, fun r hr1 _ => ?_⟩
    refine ⟨_, rfl, r, 5, rfl, rfl, by decide, by omega, _, 2147483629, rfl, rfl, by decide, fun r2 hr2 _ => ⟨r2, 1, rfl, rfl, ?_⟩⟩
    refine ⟨_, rfl, _, rfl, r2 + 1, 1709, rfl, rfl, by decide, by decide, _, 30223, rfl, rfl, r2 + 1, _, rfl, rfl, by omega, _, 2147483647, rfl, rfl, by decide, fun r3 hr3 _ => ?_⟩
    refine ⟨_, rfl, r3, 11, rfl, rfl, by decide, by decide, _, rfl, _, m, rfl, rfl, hm, fun r4 hr4 _ => ?_⟩
    exact q r4 _ (but_upd _) ⟨x, y, z + 1, hl2, hy⟩ hr4

def sp_lwithin : Sp := fun vs H Q _ => ∃ l : Addr, vs = [.ref l] ∧ WellAt H l ∧ ∀ F ks H', But l H H' → H F = none → WellAt H' l → H' F = some (.lst (ks.map vi)) → KsOk ks → Q (.ref F) H'
theorem sc__law_within : FnScope ["_law_well_here", "_law_found", "_law_k", "_law_many"] ["_law_well_here"] (defScope s__law_within) := ⟨rfl, rfl, rfl, by decide +kernel, rfl, by decide +kernel, by decide +kernel⟩
theorem ok__law_within (T : Tp w K mg) : FnOk P w K mg base CX0 2 T.d__law_within.f T.d__law_within.fd ["_law_well_here"] sp_lwithin := by
  refine T.d__law_within.F.ok sc__law_within (fun vs H Q E h => ?_) (fun cdv A outer s H vs Q E hr h => ?_)
  · obtain ⟨_, rfl, _⟩ := h
    rfl
  obtain ⟨l, rfl, hw, q⟩ := h
  refine ⟨_, (pss_cons (ps_set (i := 1) sc__law_within.nd rfl (Or.inl rfl) (pe_lst (pa_cons pe_int pa_nil)))
    (pss_cons (ps_for PassesOwn.never rfl (pi_list (pe_op op_cat (pe_lst (pa_cons (pe_op op_addN pe_int (pe_call (ok__law_draw T) (hr.mono (by omega)) (by rfl) T.d__law_draw.m T.d__law_draw.F.kp T.d__law_draw.b .nil pass0 (pa_cons (pv 0) (pa_cons pe_int pa_nil)))) pa_nil)) (pe_lc (own := [("_law_k", 2)]) rfl sc__law_within.nd (pi_range1 (by rfl) T.n_range (pa_cons (pe_call (ok__law_draw T) (hr.mono (by omega)) (by rfl) T.d__law_draw.m T.d__law_draw.F.kp T.d__law_draw.b .nil pass0 (pa_cons (pv 0) (pa_cons pe_int pa_nil))) pa_nil)) (blkOk_by (N := ["_law_well_here", "_law_found", "_law_k", "_law_many"]) (sc := defScope s__law_within) (own := [("_law_k", 2)]) (by decide +kernel)) (fun _ _ _ _ _ => (pg_name (i := 2) sc__law_within.nd rfl (Or.inl rfl))) (fun _ _ _ _ _ => pts_nil) (fun _ _ _ _ _ => (pe_call (ok__law_draw T) (hr.mono (by omega)) (by rfl) T.d__law_draw.m T.d__law_draw.F.kp T.d__law_draw.b .nil pass0 (pa_cons (pv 0) (pa_cons pe_int pa_nil))))))) (pg_name (i := 3) sc__law_within.nd rfl (Or.inl rfl))
    (pss_one (ps_expr (pe_bm PySem.F.plainAttrs_list PySem.F.slot_list_insert PySem.F.type_list_insert mt_insert (pv 1) (pa_cons (pe_call (ok__law_draw T) (hr.mono (by omega)) (by rfl) T.d__law_draw.m T.d__law_draw.F.kp T.d__law_draw.b .nil pass0 (pa_cons (pv 0) (pa_cons (pe_op op_addN (pe_callB call_lenL (by rfl) T.n_len PySem.boot_len (pa_cons (pv 1) pa_nil)) pe_int) pa_nil))) (pa_cons (pv 3) pa_nil))))))
    (pss_one (ps_ret (pv 1))))), ?_⟩
  refine ⟨(by show 1 ≤ sizeLine; decide), fun F hF => ?_⟩
  have hw0 := hw.same (same_new hF (.lst [V.int 0]))
  refine ⟨_, rfl, l, 3, rfl, hw0, by decide, by decide, fun d H1 b1 w1 hd => ?_⟩
  refine ⟨2, d, rfl, rfl, (by show 1 ≤ sizeLine; decide), fun p0 hp0 => ?_⟩
  have w1' := w1.same (same_new hp0 (.lst [vi (2 + d)]))
  refine ⟨_, rfl, l, 4, rfl, w1', by decide, by decide, fun d2 H2 b2 w2 hd2 => ?_⟩
  refine ⟨(d2 : Int), rfl, by omega, by omega, fun D hD => ?_⟩
  have nlD : l ≠ D := by
    obtain ⟨_, _, _, h, _⟩ := w2
    exact ne_of_none h hD
  have nlF : l ≠ F := by
    obtain ⟨_, _, _, h, _⟩ := hw
    exact ne_of_none h hF
  have hF1 : H1 F = some (.lst [vi 0]) := b1 _ _ nlF.symm upd_same
  have nlp : l ≠ p0 := by
    obtain ⟨_, _, _, h, _⟩ := w1
    exact ne_of_none h hp0
  have nFp : F ≠ p0 := ne_of_none hF1 hp0
  have hF2 : H2 F = some (.lst [vi 0]) := b2 _ _ nlF.symm (by rw [upd_ne nFp]; exact hF1)
  have hp2 : H2 p0 = some (.lst [vi (2 + d)]) := b2 _ _ nlp.symm upd_same
  have nDF : F ≠ D := ne_of_none hF2 hD
  have nDp : p0 ≠ D := ne_of_none hp2 hD
  have b02 : ∀ b o, b ≠ l → H b = some o → H2 b = some o := fun b o n e => by
    refine b2 _ _ n ?_
    have e1 := b1 _ _ n (same_new hF _ _ _ e)
    exact same_new hp0 _ _ _ e1
  refine lc_it (n := d2) walk_rangeN (fun i H' => ∃ ms : List Nat, H' D = some (.lst (ms.map vi)) ∧ ms.length = i ∧ (∀ m ∈ ms, m ≤ 4) ∧ WellAt H' l ∧ (∀ b o, b ≠ l → b ≠ D → H2 b = some o → H' b = some o))
    ⟨[], upd_same, rfl, (fun m hm => by cases hm), w2.same (same_new hD _), fun b o _ n e => by rw [upd_ne n]; exact e⟩ (fun _ _ _ _ => trivial) ?_ ?_
  · rintro i y H3 H3' hi ⟨ms, g1, g2, g3, g4, g5⟩ ⟨rfl, rfl⟩
    refine ⟨rfl, _, rfl, l, 5, rfl, g4, by decide, by decide, fun e H4 b4 w4 he => ?_⟩
    have g1' := b4 _ _ nlD.symm g1
    refine ⟨_, g1', sz' (by rw [List.length_map]; omega), ms ++ [e], by rw [upd_same, List.map_append]; rfl, by rw [List.length_append, List.length_singleton, g2], fun m hm => ?_, ?_, fun b o n1 n2 h => ?_⟩
    · rcases List.mem_append.mp hm with hm | hm
      · exact g3 m hm
      · have := List.mem_singleton.mp hm
        omega
    · exact w4.but (but_upd _) nlD
    · rw [upd_ne n2]
      exact b4 _ _ n1 (g5 _ _ n1 n2 h)
  rintro H3 ⟨ms, g1, g2, g3, g4, g5⟩
  have hp3 := g5 _ _ nlp.symm nDp hp2
  have hF3 := g5 _ _ nlF.symm nDF hF2
  refine ⟨p0, D, _, _, rfl, rfl, hp3, g1, sz (by simp; omega), fun p hp => ?_⟩
  have s4 : Same H3 (upd H3 p (.lst ([vi (2 + d)] ++ ms.map vi))) := same_new hp _
  have nlp2 : l ≠ p := by
    obtain ⟨_, _, _, h, _⟩ := g4
    exact ne_of_none h hp
  have nFp2 : F ≠ p := ne_of_none hF3 hp
  refine ⟨p, rfl, ⟨_, SqL.of upd_same⟩, for_it (walk_list (xs := ((2 + d) :: ms).map vi)) (fun i σ H' => ∃ (u1 u2 : Option V) (ks : List Nat), σ = [some (.ref l), some (.ref F), u1, u2] ∧ H' F = some (.lst (ks.map vi)) ∧ ks.length = i + 1 ∧ 0 ∈ ks ∧ (∀ k ∈ ks, k ≤ 4) ∧ (∀ m ∈ ((2 + d) :: ms).take i, m ∈ ks) ∧ WellAt H' l ∧
      H' p = some (.lst (((2 + d) :: ms).map vi)) ∧ ∀ b o, b ≠ l → H b = some o → H' b = some o)
    ⟨none, none, [0], rfl, s4 _ _ hF3, rfl, List.mem_singleton.mpr rfl, (fun k hk => by rw [List.mem_singleton.mp hk]; omega), (fun m hm => by cases hm), g4.same s4, upd_same, fun b o n e => ?_⟩ (fun i σ H' _ ⟨_, _, _, _, _, _, _, _, _, _, h, _⟩ => SqL.of h) ?_ ?_⟩
  · have e2 := b02 b o n e
    have nbD : b ≠ D := ne_of_none e2 hD
    exact s4 _ _ (g5 _ _ n nbD e2)
  · rintro i y σ H4 H4' hi ⟨u1, u2, ks, rfl, k1, k2, k3, k4, k5, k6, k7, k8⟩ ⟨rfl, hy⟩
    obtain ⟨m, hm, rfl⟩ := nums_get hy
    have hm4 : m ≤ 4 := by
      rcases List.mem_cons.mp (List.mem_of_getElem? hm) with e | e
      · omega
      · exact g3 m e
    rw [List.length_map] at hi
    have hi5 : i < 4 := by simp at hi; omega
    refine ⟨_, rfl, .inl ⟨rfl, _, SqL.of k1⟩, ?_⟩
    refine ⟨_, rfl, _, rfl, F, _, rfl, SqL.of k1, (ks.map vi).length, 1, rfl, rfl, l, (ks.map vi).length + 1, rfl, k6, by omega, by rw [List.length_map]; omega, fun e H5 b5 w5 he => ?_⟩
    have k1' := b5 _ _ nlF.symm k1
    refine ⟨_, rfl, F, _, (e : Int), vi m, rfl, rfl, k1', sz' (by rw [List.length_map]; omega), by omega, by rw [List.length_map] at he; omega, ?_⟩
    have et : (e : Int).toNat = e := Int.toNat_natCast e
    rw [et]
    have emem : ∀ k, k ∈ ks.take e ++ [m] ++ ks.drop e ↔ k = m ∨ k ∈ ks := fun k => by
      rw [List.append_assoc, List.mem_append, List.mem_append, List.mem_singleton]
      constructor
      · rintro (h | h | h)
        · exact .inr (List.mem_of_mem_take h)
        · exact .inl h
        · exact .inr (List.mem_of_mem_drop h)
      · rintro (h | h)
        · exact .inr (.inl h)
        · rw [← List.take_append_drop e ks] at h
          rcases List.mem_append.mp h with h | h
          · exact .inl h
          · exact .inr (.inr h)
    refine ⟨_, _, ks.take e ++ [m] ++ ks.drop e, rfl, ?_, ?_, (emem 0).mpr (.inr k3), fun k hk => ?_, fun j hj => ?_, w5.but (but_upd _) nlF, ?_, fun b o n h => ?_⟩
    · rw [upd_same, List.map_append, List.map_append, List.map_take, List.map_drop]
      rfl
    · rw [List.length_append, List.length_append, List.length_take, List.length_drop, List.length_singleton]
      rw [List.length_map] at he
      omega
    · rcases (emem k).mp hk with h | h
      · omega
      · exact k4 k h
    · rw [List.take_succ, hm] at hj
      rcases List.mem_append.mp hj with hj | hj
      · exact (emem j).mpr (.inr (k5 j hj))
      · have : j = m := by simpa using hj
        exact (emem j).mpr (.inl this)
    · rw [upd_ne nFp2.symm]
      exact b5 _ _ nlp2.symm k7
    · rw [upd_ne (ne_of_none h hF)]
      exact b5 _ _ n (k8 b o n h)
  · rintro σ H4 ⟨u1, u2, ks, rfl, k1, k2, k3, k4, k5, k6, k7, k8⟩
    rw [List.length_map, List.length_cons] at k2
    have k9 : 2 + d ∈ ks := k5 (2 + d) (by rw [List.length_map, List.take_length]; exact List.mem_cons_self)
    refine ⟨_, rfl, q F ks H4 k8 hF k6 k1 ⟨by omega, by omega, k3, k4, 2 + d, k9, by omega⟩⟩

def sp_house (C : Addr) (K : PySem.W.Frag) : Sp := fun vs H Q _ => ∃ (F : Addr) (ks : List Nat), vs = [.ref F] ∧ H F = some (.lst (ks.map vi)) ∧ KsOk ks ∧ ∀ x l H', Same H H' → KindAt K C H' x l ks → H x = none → H l = none → Q (.ref x) H'
theorem sc__law_house : FnScope ["_law_within_here", "_law_k", "_law_many"] ["_law_within_here"] (defScope s__law_house) := ⟨rfl, rfl, rfl, by decide +kernel, rfl, by decide +kernel, by decide +kernel⟩
theorem ok__law_house (T : Tp w K mg) : FnOk P w K mg base CX0 6 T.d__law_house.f T.d__law_house.fd ["_law_within_here"] (sp_house T.C_Kind K) := by
  refine T.d__law_house.F.ok sc__law_house (fun vs H Q E h => ?_) (fun cdv A outer s H vs Q E hr h => ?_)
  · obtain ⟨_, _, rfl, _⟩ := h
    rfl
  obtain ⟨F, ks, rfl, hF, ok, q⟩ := h
  have hk5 := ok.hi
  refine ⟨_, (pss_one (ps_ret (pe_make T.mk_Kind (ok_Kind___init__ T) (hr.mono (by omega)) (by rfl) T.mg_Kind T.d_Kind___init__.b .nil pass0 (pa_cons (pe_lc (own := [("_law_k", 1), ("_law_many", 2)]) rfl sc__law_house.nd (pi_enum (by rfl) T.n_enumerate (pa_cons (pv 0) pa_nil)) (blkOk_by (N := ["_law_within_here", "_law_k", "_law_many"]) (sc := defScope s__law_house) (own := [("_law_k", 1), ("_law_many", 2)]) (by decide +kernel)) (fun _ _ _ _ _ => (pg_tup2K (K := K) rfl rfl (pgs_cons (pg_name (i := 1) sc__law_house.nd rfl (Or.inl rfl)) (pgs_cons (pg_name (i := 2) sc__law_house.nd rfl (Or.inl rfl)) pgs_nil)))) (fun _ _ _ _ _ => pts_nil) (fun _ _ _ _ _ => (pe_tup (pa_cons (pe_op op_mulS (pe_ix ix_str pe_str (pv 1) (fun _ _ => rfl)) (pe_op op_addN pe_int (pe_op op_modP (pv 1) pe_int))) (pa_cons (pv 2) pa_nil))))) pa_nil)))), ?_⟩
  refine ⟨_, rfl, F, _, rfl, SqL.of hF, fun D hD => ?_⟩
  have hln : (rowsOf ks).length = (ks.map vi).length := by unfold rowsOf; rw [List.length_map, List.length_zipIdx, List.length_map]
  refine lc_vals (K := K) (rowsOf ks) (RowV K) (fun H H' v b t h => h.tk t) (by rw [hln]; exact walk_enum) (by rw [hln, List.length_map]; omega) hD (fun H' e => SqL.of (e _ _ hF)) ?_ ?_
  · rintro i ⟨z, k⟩ y H1 H1' hi s1 ⟨T0, y1, y2, rfl, hT, rfl, e1, e2⟩ N hN
    have e2' : (ks.map vi)[i]? = some y2 := e2
    obtain ⟨k', hk, rfl⟩ := nums_get e2'
    unfold rowsOf at hi
    rw [List.getElem?_map, List.getElem?_zipIdx, hk] at hi
    have e3 := Option.some.inj hi
    have q1 : nm (0 + i) = z := congrArg Prod.fst e3
    have q2 : k' = k := congrArg Prod.snd e3
    rw [Nat.zero_add] at q1
    cases e1
    subst q1 q2
    have hi5 := (List.getElem?_eq_some_iff.mp hk).1
    have hat : (("abcde" : Str).cps.toList)[i]? = some (97 + i) := by
      have c : i = 0 ∨ i = 1 ∨ i = 2 ∨ i = 3 ∨ i = 4 := by omega
      rcases c with rfl | rfl | rfl | rfl | rfl <;> decide +kernel
    refine ⟨T0, _, rfl, SqT.of upd_same, rfl, _, _, rfl, _, _, rfl, rfl, rfl, ?_⟩
    refine ⟨_, rfl, _, (i : Int), 97 + i, rfl, rfl, (by decide +kernel), atI_nat hat, ?_⟩
    refine ⟨_, rfl, i, 3, rfl, rfl, by decide, fun r hr1 hr2 => ?_⟩
    refine ⟨1, r, rfl, rfl, _, ((1 + r : Nat) : Int), rfl, rfl, by omega, by omega, (by show 1 ≤ 100; decide), ?_⟩
    refine ⟨_, rfl, (by show 2 ≤ sizeLine; decide), fun t ht => hN _ _ ((same_new hT _).trans (same_new ht _)) ⟨t, rfl, ?_⟩⟩
    rw [hr2]
    exact SqT.of upd_same
  · intro ys H1 g1 s1 g3 x dx hx hdx hne
    have s2 : Same H1 (upd (upd H1 dx (.own x)) x (.ins T.C_Kind dx [])) := fun b o e => by
      rw [upd_ne (ne_of_none e hx), upd_ne (ne_of_none e hdx)]
      exact e
    refine ⟨x, dx, D, ys, rowsOf ks, rfl, upd_same, s2 _ _ g1, g3.imp fun v b _ h => h.tk (same_tk s2), rows_ok ok, fun l2 H2 b2 hk2 hl2 => ⟨rfl, ?_⟩⟩
    rw [rowsOf_snd] at hk2
    refine q x l2 H2 (fun b o e => b2 _ _ (ne_of_none (s1 _ _ e) hx) (s2 _ _ (s1 _ _ e))) hk2 ?_ ?_
    · cases e : H x with
      | none => rfl
      | some o => rw [s1 _ _ e] at hx; cases hx
    · exact (s1.trans s2).free hl2
end
end Bs
/-! The walk: the law's own trees and plans. -/
namespace Bs
open PySem PySem.Spec L2
theorem hu65 {k : Nat} {A : Around} (r : Room k A) : A.units + 65 < cLine := by have := r.un; omega
theorem WellAt.ne {H : Hp} {l p : Addr} (h : WellAt H l) (hp : H p = none) : l ≠ p := by
  obtain ⟨_, _, _, h, _⟩ := h
  exact ne_of_none h hp
theorem WellAt.tk {K : PySem.W.Frag} {H H' : Hp} {l : Addr} (h : WellAt H l) (b : But l H H') : Tk K H H' := by
  obtain ⟨_, _, _, h, _⟩ := h
  exact b.tk h
/-- trees of a kind, unlike, short -/
structure TsOk (ks : List Nat) (ts : List (List Nat)) : Prop where
  le : ts.length ≤ 3
  tr : ∀ t ∈ ts, Rows ks 1 t
  sh : ∀ t ∈ ts, t.length ≤ 20
  nd : ts.Nodup
theorem rep_eq (k z : Nat) : (List.replicate k [z]).flatten = List.replicate k z := by
  induction k with
  | zero => rfl
  | succ k ih => rw [List.replicate_succ, List.flatten_cons, ih, List.replicate_succ]; rfl
theorem rows_rep {ks : List Nat} {z : Nat} (hz : z < ks.length) (h0 : ks.getD z 0 = 0) : ∀ k, Rows ks k (List.replicate k z)
  | 0 => .nil
  | k + 1 => by
    rw [List.replicate_succ]
    exact .cons hz (by rw [h0]; exact rows_rep hz h0 k)
theorem idx_at {ks : List Nat} {k : Nat} (h : k ∈ ks) : ks.idxOf k < ks.length ∧ ks.getD (ks.idxOf k) 0 = k := by
  have hlt := List.idxOf_lt_length_of_mem h
  refine ⟨hlt, ?_⟩
  rw [List.getD_eq_getElem?_getD, List.getElem?_eq_getElem hlt, List.getElem_idxOf hlt]
  rfl
section
variable {P : Program} {w : World} {K : PySem.W.Frag} {mg : Str → Option Value} {base : Heap}

def sp_ltree (K : PySem.W.Frag) : Sp := fun vs H Q _ => ∃ (l F : Addr) (ks : List Nat), vs = [.ref l, .ref F, vi 4] ∧ WellAt H l ∧ H F = some (.lst (ks.map vi)) ∧ F ≠ l ∧ KsOk ks ∧ ∀ v t H', But l H H' → WellAt H' l → NumsV K H' v t → Rows ks 1 t → t.length ≤ 20 → Q v H'
theorem sc__law_tree : FnScope ["_law_well_here", "_law_within_here", "_law_size", "_law_row", "_law_wanted", "_law_maker"] ["_law_well_here", "_law_within_here", "_law_size"] (defScope s__law_tree) := ⟨rfl, rfl, rfl, by decide +kernel, rfl, by decide +kernel, by decide +kernel⟩
theorem ok__law_tree (T : Tp w K mg) : FnOk P w K mg base CX0 2 T.d__law_tree.f T.d__law_tree.fd ["_law_well_here", "_law_within_here", "_law_size"] (sp_ltree K) := by
  refine T.d__law_tree.F.ok sc__law_tree (fun vs H Q E h => ?_) (fun cdv A outer s H vs Q E hr h => ?_)
  · obtain ⟨_, _, _, rfl, _⟩ := h
    rfl
  obtain ⟨l, F, ks, rfl, hw, hF, nFl, ok, q⟩ := h
  have hlo := ok.lo
  have hhi := ok.hi
  obtain ⟨z1, z2⟩ := idx_at ok.leaf
  refine ⟨_, (pss_cons (ps_set (i := 3) sc__law_tree.nd rfl (Or.inl rfl) (pe_lst pa_nil))
    (pss_cons (ps_set (i := 4) sc__law_tree.nd rfl (Or.inl rfl) pe_int)
    (pss_cons (ps_while PassesOwn.never (pt_cmpR op_gtN (pv 4) pe_int (nomark _))
    (pss_cons (ps_set (i := 5) sc__law_tree.nd rfl (Or.inl rfl) (pe_call (ok__law_draw T) (hr.mono (by omega)) (by rfl) T.d__law_draw.m T.d__law_draw.F.kp T.d__law_draw.b .nil pass0 (pa_cons (pv 0) (pa_cons (pe_callB call_lenL (by rfl) T.n_len PySem.boot_len (pa_cons (pv 1) pa_nil)) pa_nil))))
    (pss_cons (ps_if (pt_cmpR op_geN (pe_callB call_lenL (by rfl) T.n_len PySem.boot_len (pa_cons (pv 3) pa_nil)) (pv 2) (nomark _)) (pss_one (ps_set (i := 5) sc__law_tree.nd rfl (Or.inl rfl) (pe_bm PySem.F.plainAttrs_list PySem.F.slot_list_index PySem.F.type_list_index mt_indexN (pv 1) (pa_cons pe_int pa_nil)))) pss_nil)
    (pss_cons (ps_expr (pe_bm PySem.F.plainAttrs_list PySem.F.slot_list_append PySem.F.type_list_append mt_append (pv 3) (pa_cons (pv 5) pa_nil)))
    (pss_one (ps_set (i := 4) sc__law_tree.nd rfl (Or.inl rfl) (pe_op op_addN (pe_op op_subN (pv 4) pe_int) (pe_ix ix_lnums (pv 1) (pv 5) (fun _ _ => rfl)))))))))
    (pss_one (ps_ret (pe_callTy call_tuple_of (by rfl) T.n_tuple (by decide +kernel) (pa_cons (pv 3) pa_nil))))))), ?_⟩
  refine ⟨Nat.zero_le _, fun R hR => ?_⟩
  have nlR := hw.ne hR
  have nFR := ne_of_none hF hR
  refine ⟨fun m σ H' => ∃ (done : List Nat) (n : Nat) (u : Option V), σ = [some (.ref l), some (.ref F), some (vi 4), some (.ref R), some (vi n), u] ∧ m = (4 - done.length) * 100 + n ∧ H' R = some (.lst (done.map vi)) ∧ ((done.length ≤ 4 ∧ n ≤ 1 + 3 * done.length) ∨ (4 ≤ done.length ∧ done.length + n ≤ 17)) ∧
    (∀ t, Rows ks n t → Rows ks 1 (done ++ t)) ∧ WellAt H' l ∧ (∀ b o, b ≠ l → H b = some o → H' b = some o), ⟨_, [], 1, none, rfl, rfl, upd_same, .inl ⟨by decide, by decide⟩, fun t ht => ht, hw.same (same_new hR _), fun b o _ e => same_new hR _ _ _ e⟩, ?_⟩
  rintro m σ H1 ⟨done, n, u, rfl, rfl, h1, h2, h3, h4, h5⟩
  have hF1 := h5 _ _ nFl hF
  refine ⟨_, rfl, n, 0, rfl, rfl, _, rfl, ?_⟩
  refine ite2 (fun cc => ?_) (fun cc => ?_)
  · have c : 0 < n := of_decide_eq_true cc
    refine ⟨_, fun _ _ h => h, ?_⟩
    refine ⟨_, rfl, _, rfl, F, _, rfl, SqL.of hF1, l, (ks.map vi).length, rfl, h4, by rw [List.length_map]; omega, by rw [List.length_map]; omega, fun d H2 b2 w2 hd => ?_⟩
    rw [List.length_map] at hd
    have h1' := b2 _ _ nlR.symm h1
    have hF2 := b2 _ _ nFl hF1
    have h5' : ∀ b o, b ≠ l → H b = some o → H2 b = some o := fun b o n e => b2 _ _ n (h5 b o n e)
    have rest : ∀ mk : Nat, mk < ks.length → (4 ≤ done.length → ks.getD mk 0 = 0) → ∀ H3, H3 = H2 → ∃ m', m' < (4 - done.length) * 100 + n ∧ ∃ (done' : List Nat) (n' : Nat) (u : Option V), [some (V.ref l), some (V.ref F), some (vi 4), some (V.ref R), some (vi (n - 1 + ks.getD mk 0)), some (vi mk)] = [some (.ref l), some (.ref F), some (vi 4), some (.ref R), some (vi n'), u] ∧ m' = (4 - done'.length) * 100 + n' ∧ (upd H3 R (.lst (done.map vi ++ [vi mk]))) R = some (.lst (done'.map vi)) ∧ ((done'.length ≤ 4 ∧ n' ≤ 1 + 3 * done'.length) ∨ (4 ≤ done'.length ∧ done'.length + n' ≤ 17)) ∧
        (∀ t, Rows ks n' t → Rows ks 1 (done' ++ t)) ∧ WellAt (upd H3 R (.lst (done.map vi ++ [vi mk]))) l ∧ (∀ b o, b ≠ l → H b = some o → (upd H3 R (.lst (done.map vi ++ [vi mk]))) b = some o) := by
      rintro mk hmk h0 H3 rfl
      have hk4 : ks.getD mk 0 ≤ 4 := by
        rw [List.getD_eq_getElem?_getD, List.getElem?_eq_getElem hmk]
        exact ok.le _ (List.getElem_mem hmk)
      refine ⟨(4 - (done.length + 1)) * 100 + (n - 1 + ks.getD mk 0), ?_, done ++ [mk], n - 1 + ks.getD mk 0, _, rfl, by rw [List.length_append, List.length_singleton], by rw [upd_same, List.map_append]; rfl, ?_, fun t ht => ?_, w2.but (but_upd _) nlR, fun b o nb e => ?_⟩
      · rcases h2 with ⟨g1, g2⟩ | ⟨g1, g2⟩
        · by_cases g : done.length = 4
          · have := h0 (by omega); omega
          · omega
        · have := h0 g1; omega
      · rw [List.length_append, List.length_singleton]
        rcases h2 with ⟨g1, g2⟩ | ⟨g1, g2⟩
        · by_cases g : done.length = 4
          · have := h0 (by omega); right; omega
          · left; omega
        · have := h0 g1; right; omega
      · rw [List.append_assoc]
        refine h3 _ ?_
        have en : n = (n - 1) + 1 := by omega
        rw [en]
        exact .cons hmk ht
      · rw [upd_ne (ne_of_none e hR)]
        exact h5' b o nb e
    refine ⟨_, rfl, R, _, rfl, SqL.of h1', _, rfl, (done.map vi).length, 4, rfl, rfl, _, rfl, ?_⟩
    refine ite2 (fun cc2 => ?_) (fun cc2 => ?_)
    · have c2 : 4 ≤ (done.map vi).length := of_decide_eq_true cc2
      rw [List.length_map] at c2
      refine ⟨_, rfl, .inl ⟨rfl, _, SqL.of hF2⟩, F, ks, 0, rfl, rfl, SqL.of hF2, ok.leaf, ?_⟩
      refine ⟨_, rfl, .inl ⟨rfl, _, SqL.of h1'⟩, _, rfl, R, _, _, rfl, rfl, h1', sz' (by rw [List.length_map]; omega), ?_⟩
      have hF3 : (upd H2 R (.lst (done.map vi ++ [vi (ks.idxOf 0)]))) F = some (.lst (ks.map vi)) := by rw [upd_ne nFR]; exact hF2
      refine ⟨_, rfl, n, 1, rfl, rfl, by omega, _, rfl, _, rfl, F, ks, ks.idxOf 0, rfl, SqL.of hF3, rfl, z1, n - 1, _, rfl, rfl, ?_⟩
      exact rest (ks.idxOf 0) z1 (fun _ => z2) H2 rfl
    · have c2 : ¬ 4 ≤ (done.map vi).length := of_decide_eq_false (Bool.eq_false_iff.mpr cc2)
      rw [List.length_map] at c2
      refine ⟨_, rfl, .inl ⟨rfl, _, SqL.of h1'⟩, _, rfl, R, _, _, rfl, rfl, h1', sz' (by rw [List.length_map]; omega), ?_⟩
      have hF3 : (upd H2 R (.lst (done.map vi ++ [vi d]))) F = some (.lst (ks.map vi)) := by rw [upd_ne nFR]; exact hF2
      refine ⟨_, rfl, n, 1, rfl, rfl, by omega, _, rfl, _, rfl, F, ks, d, rfl, SqL.of hF3, rfl, hd, n - 1, _, rfl, rfl, ?_⟩
      exact rest d hd (fun g => absurd g c2) H2 rfl
  · have c : ¬ 0 < n := of_decide_eq_false (Bool.eq_false_iff.mpr cc)
    have en : n = 0 := by omega
    subst en
    have hd := h3 [] .nil
    rw [List.append_nil] at hd
    refine ⟨_, rfl, R, _, rfl, .inl ⟨SqL.of h1, fun t ht => ?_⟩⟩
    refine q _ done _ (fun b o n e => same_new ht _ _ _ (h5 b o n e)) (h4.same (same_new ht _)) NumsV.new hd ?_
    rcases h2 with ⟨g1, g2⟩ | ⟨g1, g2⟩ <;> omega

def sp_ltrees (K : PySem.W.Frag) : Sp := fun vs H Q _ => ∃ (l F : Addr) (ks : List Nat), vs = [.ref l, .ref F] ∧ WellAt H l ∧ H F = some (.lst (ks.map vi)) ∧ F ≠ l ∧ KsOk ks ∧ ∀ D ys ts H', But l H H' → WellAt H' l → H D = none → H' D = some (.lst ys) → Fits (NumsV K H') ys ts → TsOk ks ts → ts.length = 3 → Q (.ref D) H'
theorem sc__law_trees : FnScope ["_law_well_here", "_law_within_here", "_law_leaf", "_law_wide", "_law_found", "_law_more"] ["_law_well_here", "_law_within_here"] (defScope s__law_trees) := ⟨rfl, rfl, rfl, by decide +kernel, rfl, by decide +kernel, by decide +kernel⟩
theorem ok__law_trees (T : Tp w K mg) : FnOk P w K mg base CX0 3 T.d__law_trees.f T.d__law_trees.fd ["_law_well_here", "_law_within_here"] (sp_ltrees K) := by
  refine T.d__law_trees.F.ok sc__law_trees (fun vs H Q E h => ?_) (fun cdv A outer s H vs Q E hr h => ?_)
  · obtain ⟨_, _, _, rfl, _⟩ := h
    rfl
  obtain ⟨l, F, ks, rfl, hw, hF, nFl, ok, q⟩ := h
  have hlo := ok.lo
  have hhi := ok.hi
  obtain ⟨z1, z2⟩ := idx_at ok.leaf
  have hu65 := hu65 hr
  refine ⟨_, (pss_cons (ps_set (i := 2) sc__law_trees.nd rfl (Or.inl rfl) (pe_tup (pa_cons (pe_bm PySem.F.plainAttrs_list PySem.F.slot_list_index PySem.F.type_list_index mt_indexN (pv 1) (pa_cons pe_int pa_nil)) pa_nil)))
    (pss_cons (ps_set (i := 3) sc__law_trees.nd rfl (Or.inl rfl) (pe_bm PySem.F.plainAttrs_list PySem.F.slot_list_index PySem.F.type_list_index mt_indexN (pv 1) (pa_cons (pe_callB (cr_max rfl) (by rfl) T.n_max (by decide +kernel) (pa_cons (pv 1) pa_nil)) pa_nil)))
    (pss_cons (ps_set (i := 4) sc__law_trees.nd rfl (Or.inl rfl) (pe_lst (pa_cons (pv 2) (pa_cons (pe_op op_catN (pe_tup (pa_cons (pv 3) pa_nil)) (pe_op op_repN (pv 2) (pe_ix ix_lnums (pv 1) (pv 3) (fun _ _ => rfl)))) pa_nil))))
    (pss_cons (ps_set (i := 5) sc__law_trees.nd rfl (Or.inl rfl) (pe_call (ok__law_tree T) (hr.mono (by omega)) (by rfl) T.d__law_tree.m T.d__law_tree.F.kp T.d__law_tree.b .nil pass0 (pa_cons (pv 0) (pa_cons (pv 1) (pa_cons pe_int pa_nil)))))
    (pss_cons (ps_if (pt_cmpR (op_inD hu65) (pv 5) (pv 4) (by with_unfolding_all rfl)) (pss_one (ps_set (i := 5) sc__law_trees.nd rfl (Or.inl rfl) (pe_op op_catN (pe_op op_catN (pe_tup (pa_cons (pv 3) pa_nil)) (pe_ix ix_listN (pv 4) pe_int (fun _ _ => rfl))) (pe_op op_repN (pv 2) (pe_op op_subN (pe_ix ix_lnums (pv 1) (pv 3) (fun _ _ => rfl)) pe_int))))) pss_nil)
    (pss_one (ps_ret (pe_op op_cat (pv 4) (pe_lst (pa_cons (pv 5) pa_nil)))))))))), ?_⟩
  refine ⟨_, rfl, .inl ⟨rfl, _, SqL.of hF⟩, F, ks, 0, rfl, rfl, SqL.of hF, ok.leaf, (by show 1 ≤ sizeLine; decide), fun A0 hA0 => ?_⟩
  have s1 := same_new hA0 (.tup [vi (ks.idxOf 0)])
  have hA1 : NumsV K (upd H A0 (.tup [vi (ks.idxOf 0)])) (.ref A0) [ks.idxOf 0] := ⟨A0, rfl, SqT.of upd_same⟩
  have hF1 := s1 _ _ hF
  refine ⟨_, rfl, .inl ⟨rfl, _, SqL.of hF1⟩, ?_⟩
  refine ⟨_, rfl, F, ks.map fun n : Nat => (n : Int), rfl, by rw [← nums_ints]; exact SqL.of hF1, by rw [List.length_map]; omega, fun mx hmx hle => ?_⟩
  obtain ⟨kx, hkx, rfl⟩ := List.mem_map.mp hmx
  obtain ⟨kw, hkw1, hkw2⟩ := ok.wide
  have hkx2 : 2 ≤ kx := by
    have := hle _ (List.mem_map.mpr ⟨kw, hkw1, rfl⟩)
    omega
  have hkx4 := ok.le kx hkx
  obtain ⟨y1, y2⟩ := idx_at hkx
  refine ⟨F, ks, kx, rfl, rfl, SqL.of hF1, hkx, ?_⟩
  refine ⟨_, rfl, _, rfl, (by show 1 ≤ sizeLine; decide), fun A1 hA1' => ?_⟩
  have s2 := same_new hA1' (.tup [vi (ks.idxOf kx)])
  refine ⟨_, rfl, _, rfl, _, rfl, F, ks, ks.idxOf kx, rfl, SqL.of (s2 _ _ hF1), rfl, y1, [ks.idxOf 0], kx, hA1.tk (same_tk s2), by rw [y2], by simp, by omega, by omega, by simp, fun v3 H3 s3 h3 => ?_⟩
  rw [rep_eq] at h3
  refine ⟨[ks.idxOf kx], List.replicate kx (ks.idxOf 0), ⟨A1, rfl, same_tk s3 _ _ (SqT.of upd_same)⟩, h3, by simp; omega, fun v4 H4 s4 h4 => ?_⟩
  refine ⟨(by show 2 ≤ sizeLine; decide), fun G hG => ?_⟩
  have s5 := same_new hG (.lst [.ref A0, v4])
  have s05 := s1.trans (s2.trans (s3.trans (s4.trans s5)))
  have hsec := h4.tk (same_tk (K := K) s5)
  have hleaf := hA1.tk (same_tk (K := K) (s2.trans (s3.trans (s4.trans s5))))
  have hG5 : (upd H4 G (.lst [.ref A0, v4])) G = some (.lst [.ref A0, v4]) := upd_same
  have nlG : l ≠ G := (hw.same (s1.trans (s2.trans (s3.trans s4)))).ne hG
  have r1 : Rows ks 1 [ks.idxOf 0] := rows_rep z1 z2 1
  have r2 : Rows ks 1 ([ks.idxOf kx] ++ List.replicate kx (ks.idxOf 0)) := by
    show Rows ks (0 + 1) (ks.idxOf kx :: List.replicate kx (ks.idxOf 0))
    exact .cons y1 (by rw [y2, Nat.zero_add]; exact rows_rep z1 z2 kx)
  refine ⟨_, rfl, _, rfl, l, F, ks, rfl, hw.same s05, s05 _ _ hF, nFl, ok, fun v6 t H6 b6 w6 h6 hr6 hl6 => ?_⟩
  have tk6 : Tk K (upd H4 G (.lst [.ref A0, v4])) H6 := (hw.same s05).tk b6
  have hG6 := b6 _ _ nlG.symm hG5
  have hsec6 := hsec.tk tk6
  have hleaf6 := hleaf.tk tk6
  have b06 : ∀ b o, b ≠ l → H b = some o → H6 b = some o := fun b o n e => b6 _ _ n (s05 _ _ e)
  have hGn : H G = none := (s1.trans (s2.trans (s3.trans s4))).free hG
  have dd : Dp K H6 (.ref G) (.list [numsD [ks.idxOf 0], numsD ([ks.idxOf kx] ++ List.replicate kx (ks.idxOf 0))]) := .lst (SqL.of hG6) (.cons hleaf6.dp (.cons hsec6.dp .nil))
  have sd : SeqAt.shaped (.list [numsD [ks.idxOf 0], numsD ([ks.idxOf kx] ++ List.replicate kx (ks.idxOf 0))]) = true := shaped_list (f := numsD) can_nums [[ks.idxOf 0], [ks.idxOf kx] ++ List.replicate kx (ks.idxOf 0)] fun b _ => by rw [depth_numsD]; omega
  have rest : ∀ (H7 : Hp) (vm : V) (tm : List Nat), Same H6 H7 → NumsV K H7 vm tm → Rows ks 1 tm → tm.length ≤ 20 → tm ≠ [ks.idxOf 0] → tm ≠ [ks.idxOf kx] ++ List.replicate kx (ks.idxOf 0) → ∀ M, H7 M = none → ∀ D, (upd H7 M (.lst [vm])) D = none → Q (.ref D) (upd (upd H7 M (.lst [vm])) D (.lst ([.ref A0, v4] ++ [vm]))) := by
    intro H7 vm tm s7 h7 g1 g2 g3 g4 M hM D hD
    have s8 := same_new hM (.lst [vm])
    have s9 := same_new hD (.lst ([.ref A0, v4] ++ [vm]))
    have s79 := s7.trans (s8.trans s9)
    have hDn : H D = none := by
      cases e : H D with
      | none => rfl
      | some o =>
        by_cases c : D = l
        · subst c
          obtain ⟨_, _, _, h, _⟩ := w6
          rw [(s7.trans s8) _ _ h] at hD
          cases hD
        · rw [(s7.trans s8) _ _ (b06 D o c e)] at hD
          cases hD
    refine q D _ [[ks.idxOf 0], [ks.idxOf kx] ++ List.replicate kx (ks.idxOf 0), tm] _ (fun b o n e => s79 _ _ (b06 b o n e)) (w6.same s79) hDn upd_same ?_ ⟨by simp, ?_, ?_, ?_⟩ rfl
    · exact .cons (hleaf6.tk (same_tk s79)) (.cons (hsec6.tk (same_tk s79)) (.cons (h7.tk (same_tk (s8.trans s9))) .nil))
    · intro t' ht'
      simp only [List.mem_cons, List.not_mem_nil, or_false] at ht'
      rcases ht' with rfl | rfl | rfl
      · exact r1
      · exact r2
      · exact g1
    · intro t' ht'
      simp only [List.mem_cons, List.not_mem_nil, or_false] at ht'
      rcases ht' with rfl | rfl | rfl
      · simp
      · simp; omega
      · exact g2
    · have n12 : [ks.idxOf 0] ≠ [ks.idxOf kx] ++ List.replicate kx (ks.idxOf 0) := fun z => by
        have := congrArg List.length z
        simp at this
        omega
      refine List.nodup_cons.mpr ⟨?_, List.nodup_cons.mpr ⟨?_, List.nodup_cons.mpr ⟨by simp, List.nodup_nil⟩⟩⟩
      · simp only [List.mem_cons, List.not_mem_nil, or_false, not_or]
        exact ⟨n12, fun z => g3 z.symm⟩
      · simp only [List.mem_cons, List.not_mem_nil, or_false]
        exact fun z => g4 z.symm
  refine ⟨_, rfl, _, rfl, numsD t, _, h6.dp, dd, shaped_nums t, sd, _, rfl, ?_⟩
  refine ite2 (fun cc => ?_) (fun cc => ?_)
  · -- more = (wide,) + found[1] + leaf * (within[wide] - 1)
    have hF6 := b06 F _ nFl hF
    refine ⟨_, rfl, (by show 1 ≤ sizeLine; decide), fun A7 hA7 => ?_⟩
    have s7 := same_new hA7 (.tup [vi (ks.idxOf kx)])
    refine ⟨_, rfl, G, _, 1, v4, rfl, rfl, SqL.of (s7 _ _ hG6), rfl, [ks.idxOf kx], _, ⟨A7, rfl, SqT.of upd_same⟩, hsec6.tk (same_tk s7), by simp; omega, fun v8 H8 s8 h8 => ?_⟩
    refine ⟨_, rfl, _, rfl, _, rfl, F, ks, ks.idxOf kx, rfl, SqL.of (s8 _ _ (s7 _ _ hF6)), rfl, y1, kx, 1, by rw [y2], rfl, by omega, [ks.idxOf 0], kx - 1, hleaf6.tk (same_tk (s7.trans s8)), rfl, by simp, by omega, by omega, by simp, fun v9 H9 s9 h9 => ?_⟩
    rw [rep_eq] at h9
    refine ⟨_, _, h8.tk (same_tk s9), h9, by simp; omega, fun v10 H10 s10 h10 => ?_⟩
    have s610 := s7.trans (s8.trans (s9.trans s10))
    refine ⟨_, rfl, _, rfl, (by show 1 ≤ sizeLine; decide), fun M hM => ?_⟩
    refine ⟨G, M, _, _, rfl, rfl, same_new hM _ _ _ (s610 _ _ hG6), upd_same, (by show 3 ≤ sizeLine; decide), fun D hD => ?_⟩
    refine rest H10 v10 _ s610 h10 ?_ ?_ ?_ ?_ M hM D hD
    · have e : [ks.idxOf kx] ++ ([ks.idxOf kx] ++ List.replicate kx (ks.idxOf 0)) ++ List.replicate (kx - 1) (ks.idxOf 0) = ks.idxOf kx :: (([ks.idxOf kx] ++ List.replicate kx (ks.idxOf 0)) ++ List.replicate (kx - 1) (ks.idxOf 0)) := by simp
      rw [e]
      refine .cons (n := 0) y1 ?_
      have r3 := r2.app (rows_rep z1 z2 (kx - 1))
      have e2 : 0 + ks.getD (ks.idxOf kx) 0 = 1 + (kx - 1) := by rw [y2]; omega
      rw [e2]
      exact r3
    · simp; omega
    · intro z
      have := congrArg List.length z
      simp at this
    · intro z
      have := congrArg List.length z
      simp at this
      omega
  · have hn : ([numsD [ks.idxOf 0], numsD ([ks.idxOf kx] ++ List.replicate kx (ks.idxOf 0))].any fun z => PyData.eqv z (numsD t)) = false := Bool.eq_false_iff.mpr cc
    simp only [List.any_cons, List.any_nil, Bool.or_false, Bool.or_eq_false_iff, eqv_numsD, decide_eq_false_iff_not] at hn
    refine ⟨_, rfl, _, rfl, (by show 1 ≤ sizeLine; decide), fun M hM => ?_⟩
    refine ⟨G, M, _, _, rfl, rfl, same_new hM _ _ _ hG6, upd_same, (by show 3 ≤ sizeLine; decide), fun D hD => ?_⟩
    exact rest H6 v6 t (Same.refl _) h6 hr6 hl6 (fun z => hn.1 z.symm) (fun z => hn.2 z.symm) M hM D hD

def sp_plan (K : PySem.W.Frag) (n : Nat) : Sp := fun vs H Q _ => ∃ l : Addr, vs = [.ref l, vi n] ∧ 1 ≤ n ∧ WellAt H l ∧ ∀ v s H', But l H H' → WellAt H' l → ShV K H' s v → s.deep ≤ n → Q v H'
theorem sc__law_plan : FnScope ["_law_well_here", "_law_deep", "_law_turn", "_law_one"] ["_law_well_here", "_law_deep"] (defScope s__law_plan) := ⟨rfl, rfl, rfl, by decide +kernel, rfl, by decide +kernel, by decide +kernel⟩
theorem ok__law_plan (T : Tp w K mg) : ∀ n, FnOk P w K mg base CX0 (n + 1) T.d__law_plan.f T.d__law_plan.fd ["_law_well_here", "_law_deep"] (sp_plan K n)
  | 0 => none_ok (fun vs H Q E ⟨_, _, h, _⟩ => by omega) 1
  | n + 1 => by
    have ih := ok__law_plan T n
    refine T.d__law_plan.F.ok sc__law_plan (fun vs H Q E h => ?_) (fun cdv A outer s H vs Q E hr h => ?_)
    · obtain ⟨_, rfl, _⟩ := h
      rfl
    obtain ⟨l, rfl, h1, hw, q⟩ := h
    refine ⟨_, (pss_cons (ps_set (i := 2) sc__law_plan.nd rfl (Or.inl rfl) (pe_call (ok__law_draw T) (hr.mono (by omega)) (by rfl) T.d__law_draw.m T.d__law_draw.F.kp T.d__law_draw.b .nil pass0 (pa_cons (pv 0) (pa_cons pe_int pa_nil))))
    (pss_cons (ps_if (PW.pt (pw_or (pt_cmpR op_eqN (pv 1) pe_int (nomark _)) (pw_or1 (pt_cmpR op_ltN (pv 2) pe_int (nomark _))))) (pss_one (ps_ret (pe_ix ix_listN (pe_lst (pa_cons pe_str (pa_cons pe_str (pa_cons pe_str (pa_cons pe_str (pa_cons pe_str (pa_cons pe_str pa_nil))))))) (pe_call (ok__law_draw T) (hr.mono (by omega)) (by rfl) T.d__law_draw.m T.d__law_draw.F.kp T.d__law_draw.b .nil pass0 (pa_cons (pv 0) (pa_cons pe_int pa_nil))) (fun _ _ => rfl)))) pss_nil)
    (pss_cons (ps_set (i := 3) sc__law_plan.nd rfl (Or.inl rfl) (pe_call ih (hr.mono (by omega)) (by rfl) T.d__law_plan.m T.d__law_plan.F.kp T.d__law_plan.b .nil pass0 (pa_cons (pv 0) (pa_cons (pe_op op_subN (pv 1) pe_int) pa_nil))))
    (pss_one (ps_ret (pe_tup (pa_cons (pe_ix ix_listN (pe_lst (pa_cons pe_str (pa_cons pe_str pa_nil))) (pe_op op_modP (pv 2) pe_int) (fun _ _ => rfl)) (pa_cons (pv 3) (pa_cons (pe_call ih (hr.mono (by omega)) (by rfl) T.d__law_plan.m T.d__law_plan.F.kp T.d__law_plan.b .nil pass0 (pa_cons (pv 0) (pa_cons (pe_op op_subN (pv 1) pe_int) pa_nil))) pa_nil))))))))), ?_⟩
    refine ⟨_, rfl, l, 6, rfl, hw, by decide, by decide, fun d H1 b1 w1 hd => ?_⟩
    have pick : ∀ (j : Nat), j < 6 → ∃ s : Shp, ∀ H2 : Hp, ∃ v, ([V.str "one", V.str "tree", V.str "none", V.str "tree", V.str "one", V.str "tree"])[j]? = some v ∧ ShV K H2 s v ∧ s.deep ≤ n + 1 := by
      intro j hj
      have c : j = 0 ∨ j = 1 ∨ j = 2 ∨ j = 3 ∨ j = 4 ∨ j = 5 := by omega
      rcases c with rfl | rfl | rfl | rfl | rfl | rfl
      · exact ⟨.one, fun H2 => ⟨_, rfl, rfl, by show 1 ≤ n + 1; omega⟩⟩
      · exact ⟨.tree, fun H2 => ⟨_, rfl, rfl, by show 1 ≤ n + 1; omega⟩⟩
      · exact ⟨.none, fun H2 => ⟨_, rfl, rfl, by show 1 ≤ n + 1; omega⟩⟩
      · exact ⟨.tree, fun H2 => ⟨_, rfl, rfl, by show 1 ≤ n + 1; omega⟩⟩
      · exact ⟨.one, fun H2 => ⟨_, rfl, rfl, by show 1 ≤ n + 1; omega⟩⟩
      · exact ⟨.tree, fun H2 => ⟨_, rfl, rfl, by show 1 ≤ n + 1; omega⟩⟩
    refine ⟨_, rfl, n + 1, 1, rfl, rfl, _, rfl, ?_⟩
    by_cases c1 : n + 1 = 1
    · rw [decide_eq_true c1]
      refine iteT ⟨(by show 6 ≤ sizeLine; decide), fun p hp => ?_⟩
      refine ⟨_, rfl, l, 6, rfl, w1.same (same_new hp _), by decide, by decide, fun j H2 b2 w2 hj => ?_⟩
      obtain ⟨sh, hsh⟩ := pick j hj
      obtain ⟨v, g1, g2, g3⟩ := hsh H2
      have np := w1.ne hp
      refine ⟨p, _, j, v, rfl, rfl, SqL.of (b2 _ _ np.symm upd_same), g1, q v sh H2 (fun b o n e => b2 _ _ n (same_new hp _ _ _ (b1 _ _ n e))) w2 g2 g3⟩
    rw [decide_eq_false c1]
    refine iteF ⟨_, rfl, d, 2, rfl, rfl, _, rfl, ?_⟩
    refine ite2 (fun cc => ?_) (fun cc => ?_)
    · refine ⟨(by show 6 ≤ sizeLine; decide), fun p hp => ?_⟩
      refine ⟨_, rfl, l, 6, rfl, w1.same (same_new hp _), by decide, by decide, fun j H2 b2 w2 hj => ?_⟩
      obtain ⟨sh, hsh⟩ := pick j hj
      obtain ⟨v, g1, g2, g3⟩ := hsh H2
      have np := w1.ne hp
      refine ⟨p, _, j, v, rfl, rfl, SqL.of (b2 _ _ np.symm upd_same), g1, q v sh H2 (fun b o n e => b2 _ _ n (same_new hp _ _ _ (b1 _ _ n e))) w2 g2 g3⟩
    · refine ⟨_, rfl, _, rfl, n + 1, 1, rfl, rfl, by omega, l, rfl, by omega, w1, fun v2 s2 H2 b2 w2 g2 k2 => ?_⟩
      refine ⟨(by show 2 ≤ sizeLine; decide), fun p hp => ?_⟩
      have s3 := same_new hp (.lst [V.str "either", V.str "both"])
      refine ⟨_, rfl, d, 2, rfl, rfl, by decide, fun r hr1 _ => ?_⟩
      have w3 := w2.same s3
      have c : r = 0 ∨ r = 1 := by omega
      rcases c with rfl | rfl
      · refine ⟨p, _, 0, _, rfl, rfl, SqL.of upd_same, rfl, _, rfl, _, rfl, _, rfl, n + 1, 1, rfl, rfl, by omega, l, rfl, by omega, w3, fun v4 s4 H4 b4 w4 g4 k4 => ?_⟩
        have tk4 : Tk K H2 H4 := (same_tk s3).trans (w3.tk b4)
        refine ⟨(by show 3 ≤ sizeLine; decide), fun t ht => ?_⟩
        have tk5 : Tk K H4 _ := same_tk (same_new ht (.tup [V.str "either", v2, v4]))
        refine q _ (.either s2 s4) _ (fun b o n e => same_new ht _ _ _ (b4 _ _ n (s3 _ _ (b2 _ _ n (b1 _ _ n e))))) (w4.same (same_new ht _)) ⟨t, v2, v4, rfl, SqT.of upd_same, ShV.tk (tk4.trans tk5) g2, ShV.tk tk5 g4⟩ ?_
        show max s2.deep s4.deep + 1 ≤ n + 1
        omega
      · refine ⟨p, _, 1, _, rfl, rfl, SqL.of upd_same, rfl, _, rfl, _, rfl, _, rfl, n + 1, 1, rfl, rfl, by omega, l, rfl, by omega, w3, fun v4 s4 H4 b4 w4 g4 k4 => ?_⟩
        have tk4 : Tk K H2 H4 := (same_tk s3).trans (w3.tk b4)
        refine ⟨(by show 3 ≤ sizeLine; decide), fun t ht => ?_⟩
        have tk5 : Tk K H4 _ := same_tk (same_new ht (.tup [V.str "both", v2, v4]))
        refine q _ (.both s2 s4) _ (fun b o n e => same_new ht _ _ _ (b4 _ _ n (s3 _ _ (b2 _ _ n (b1 _ _ n e))))) (w4.same (same_new ht _)) ⟨t, v2, v4, rfl, SqT.of upd_same, ShV.tk (tk4.trans tk5) g2, ShV.tk tk5 g4⟩ ?_
        show max s2.deep s4.deep + 1 ≤ n + 1
        omega
end
end Bs
/-! The walk: the law's own count, items, signs, spots, steps. -/
namespace Bs
open PySem PySem.Spec L2
theorem three (a b c : V) : mergeK [] [((Sum.inr "none" : Key), a), (Sum.inr "one", b), (Sum.inr "tree", c)] = putK (putK (putK [] (Sum.inr "none" : Key) a) (Sum.inr "one") b) (Sum.inr "tree") c := rfl
theorem n12 : ¬ (Sum.inr ("none" : Str) : Key) = Sum.inr ("one" : Str) := by decide +kernel
theorem n13 : ¬ (Sum.inr ("none" : Str) : Key) = Sum.inr ("tree" : Str) := by decide +kernel
theorem n23 : ¬ (Sum.inr ("one" : Str) : Key) = Sum.inr ("tree" : Str) := by decide +kernel
theorem at_none (a b c : V) : valV (mergeK [] [((Sum.inr "none" : Key), a), (Sum.inr "one", b), (Sum.inr "tree", c)]) (Sum.inr "none" : Key) = some a := by
  rw [three, valV_put, if_neg n13, valV_put, if_neg n12, valV_put, if_pos rfl]
theorem at_one (a b c : V) : valV (mergeK [] [((Sum.inr "none" : Key), a), (Sum.inr "one", b), (Sum.inr "tree", c)]) (Sum.inr "one" : Key) = some b := by
  rw [three, valV_put, if_neg n23, valV_put, if_pos rfl]
theorem at_tree (a b c : V) : valV (mergeK [] [((Sum.inr "none" : Key), a), (Sum.inr "one", b), (Sum.inr "tree", c)]) (Sum.inr "tree" : Key) = some c := by
  rw [three, valV_put, if_pos rfl]
theorem cnt_le {m : Nat} (hm : m ≤ 3) : ∀ s : Shp, cnt m s ≤ 3 ^ 2 ^ (s.deep - 1)
  | .none => Nat.zero_le _
  | .one => by show 1 ≤ 3; decide
  | .tree => hm
  | .either a b => by
    have ia := cnt_le hm a
    have ib := cnt_le hm b
    have da := deep_pos a
    have db := deep_pos b
    show cnt m a + cnt m b ≤ 3 ^ 2 ^ (max a.deep b.deep + 1 - 1)
    have e : max a.deep b.deep + 1 - 1 = (max a.deep b.deep - 1) + 1 := by omega
    rw [e, Nat.pow_succ, Nat.pow_mul]
    have ja : cnt m a ≤ 3 ^ 2 ^ (max a.deep b.deep - 1) := Nat.le_trans ia (Nat.pow_le_pow_right (by decide) (Nat.pow_le_pow_right (by decide) (by omega)))
    have jb : cnt m b ≤ 3 ^ 2 ^ (max a.deep b.deep - 1) := Nat.le_trans ib (Nat.pow_le_pow_right (by decide) (Nat.pow_le_pow_right (by decide) (by omega)))
    have h3 : 3 ≤ 3 ^ 2 ^ (max a.deep b.deep - 1) := by
      have : 1 ≤ 2 ^ (max a.deep b.deep - 1) := Nat.one_le_two_pow
      exact Nat.le_trans (by decide : 3 ≤ 3 ^ 1) (Nat.pow_le_pow_right (by decide) this)
    generalize 3 ^ 2 ^ (max a.deep b.deep - 1) = X at ja jb h3 ⊢
    have : 2 * X ≤ X * X := Nat.mul_le_mul_right X (by omega)
    have e2 : X ^ 2 = X * X := Nat.pow_two X
    omega
  | .both a b => by
    have ia := cnt_le hm a
    have ib := cnt_le hm b
    have da := deep_pos a
    have db := deep_pos b
    show cnt m a * cnt m b ≤ 3 ^ 2 ^ (max a.deep b.deep + 1 - 1)
    have e : max a.deep b.deep + 1 - 1 = (max a.deep b.deep - 1) + 1 := by omega
    rw [e, Nat.pow_succ, Nat.pow_mul]
    have ja : cnt m a ≤ 3 ^ 2 ^ (max a.deep b.deep - 1) := Nat.le_trans ia (Nat.pow_le_pow_right (by decide) (Nat.pow_le_pow_right (by decide) (by omega)))
    have jb : cnt m b ≤ 3 ^ 2 ^ (max a.deep b.deep - 1) := Nat.le_trans ib (Nat.pow_le_pow_right (by decide) (Nat.pow_le_pow_right (by decide) (by omega)))
    rw [Nat.pow_two]
    exact Nat.mul_le_mul ja jb
theorem cnt_big {m : Nat} (hm : m ≤ 3) {s : Shp} (hs : s.deep ≤ 4) : cnt m s ≤ 6561 := by
  refine Nat.le_trans (cnt_le hm s) ?_
  have : 2 ^ (s.deep - 1) ≤ 8 := Nat.le_trans (Nat.pow_le_pow_right (by decide) (show s.deep - 1 ≤ 3 by omega)) (by decide)
  exact Nat.le_trans (Nat.pow_le_pow_right (by decide) this) (by decide)
theorem all_big {ts : List (List Nat)} (hm : ts.length ≤ 3) {s : Shp} (hs : s.deep ≤ 4) : (all ts s).length ≤ 6561 := by
  rw [all_len]
  exact cnt_big hm hs
theorem rowsN_num (ts : List (List Nat)) : ∀ n, (rowsN ts n).length = ts.length ^ n
  | 0 => rfl
  | n + 1 => by
    show ((rowsN ts n).flatMap fun r => ts.map fun t => r ++ t).length = _
    rw [List.length_flatMap, Nat.pow_succ, ← rowsN_num ts n]
    generalize rowsN ts n = L
    induction L with
    | nil => simp
    | cons a L ih => rw [List.map_cons, List.sum_cons, ih, List.length_map, List.length_cons, Nat.succ_mul]; omega
theorem rowsN_big {ts : List (List Nat)} (hm : ts.length ≤ 3) {n : Nat} (hn : n ≤ 8) : (rowsN ts n).length ≤ 6561 := by
  rw [rowsN_num]
  have h1 : ts.length ^ n ≤ 3 ^ n := Nat.pow_le_pow_left hm n
  have h2 : 3 ^ n ≤ 3 ^ 8 := Nat.pow_le_pow_right (by decide) hn
  have h3 : (3 : Nat) ^ 8 = 6561 := by decide
  omega
theorem rowsN_sh {ts : List (List Nat)} {c : Nat} (hs : ∀ t ∈ ts, t.length ≤ c) : ∀ n row, row ∈ rowsN ts n → row.length ≤ c * n
  | 0, row, h => by
    have : row = [] := List.mem_singleton.mp h
    subst this
    exact Nat.zero_le _
  | n + 1, row, h => by
    obtain ⟨r, hr, h2⟩ := List.mem_flatMap.mp h
    obtain ⟨t, ht, rfl⟩ := List.mem_map.mp h2
    have h1 := rowsN_sh hs n r hr
    have h3 := hs t ht
    rw [List.length_append, Nat.mul_succ]
    omega
theorem spotsF_snoc (ts : List (List Nat)) : ∀ (r : List Nat) (p n : Nat), spotsF ts p (r ++ [n]) = spotsF ts p r ++ (rowsN ts n).map fun x => (p + r.length, x)
  | [], p, n => by simp [spotsF]
  | a :: r, p, n => by
    show (rowsN ts a).map (fun x => (p, x)) ++ spotsF ts (p + 1) (r ++ [n]) = ((rowsN ts a).map (fun x => (p, x)) ++ spotsF ts (p + 1) r) ++ _
    rw [spotsF_snoc ts r (p + 1) n, List.append_assoc]
    have e : p + 1 + r.length = p + (a :: r).length := by simp only [List.length_cons]; omega
    rw [e]
theorem spotsF_big {ts : List (List Nat)} (hm : ts.length ≤ 3) : ∀ (r : List Nat) (p : Nat), (∀ f ∈ r, f ≤ 8) → (spotsF ts p r).length ≤ r.length * 6561
  | [], _, _ => Nat.zero_le _
  | a :: r, p, h => by
    show ((rowsN ts a).map (fun x => (p, x)) ++ spotsF ts (p + 1) r).length ≤ _
    have h1 := rowsN_big hm (h a List.mem_cons_self)
    have h2 := spotsF_big hm r (p + 1) fun f hf => h f (List.mem_cons_of_mem _ hf)
    rw [List.length_append, List.length_map, List.length_cons, Nat.succ_mul]
    omega
theorem flatMap_take {α β : Type} (f : α → List β) {l : List α} {i : Nat} {a : α} (h : l[i]? = some a) : (l.take (i + 1)).flatMap f = (l.take i).flatMap f ++ f a := by
  rw [List.take_succ, h, List.flatMap_append]
  simp
theorem flatMap_len {α β : Type} (f : α → List β) (c : Nat) : ∀ l : List α, (∀ a, (f a).length ≤ c) → (l.flatMap f).length ≤ l.length * c
  | [], _ => Nat.zero_le _
  | a :: l, h => by
    have h1 := h a
    have h2 := flatMap_len f c l h
    rw [List.flatMap_cons, List.length_append, List.length_cons, Nat.succ_mul]
    omega
section
variable {P : Program} {w : World} {K : PySem.W.Frag} {mg : Str → Option Value} {base : Heap}

def sp_count (K : PySem.W.Frag) (n : Nat) : Sp := fun vs H Q _ => ∃ (v : V) (s : Shp) (m : Nat), vs = [v, vi m] ∧ ShV K H s v ∧ s.deep ≤ n ∧ s.deep ≤ 4 ∧ m ≤ 3 ∧ ∀ H', Same H H' → Q (vi (cnt m s)) H'
theorem sc__law_count : FnScope ["_law_plan_here", "_law_many", "_law_first", "_law_second"] ["_law_plan_here", "_law_many"] (defScope s__law_count) := ⟨rfl, rfl, rfl, by decide +kernel, rfl, by decide +kernel, by decide +kernel⟩
theorem ok__law_count (T : Tp w K mg) : ∀ n, FnOk P w K mg base CX0 n T.d__law_count.f T.d__law_count.fd ["_law_plan_here", "_law_many"] (sp_count K n)
  | 0 => none_ok (fun vs H Q E ⟨_, s, _, _, _, h, _⟩ => no_deep h) 0
  | n + 1 => by
    have ih := ok__law_count T n
    refine T.d__law_count.F.ok sc__law_count (fun vs H Q E h => ?_) (fun cdv A outer s H vs Q E hr h => ?_)
    · obtain ⟨_, _, _, rfl, _⟩ := h
      rfl
    obtain ⟨v, sh, m, rfl, hs, h1, h2, hm, q⟩ := h
    have hu := hu_of hr
    refine ⟨_, (pss_cons (ps_if (pt_val (pe_callB call_isT (by rfl) T.n_isinstance (by decide +kernel) (pa_cons (pv 0) (pa_cons (pe_bltn (v := .ty "str") (by rfl) T.n_str (by decide +kernel) rfl) pa_nil)))) (pss_one (ps_ret (pe_dget hu (pe_disp (pps_cons pe_str pe_int (pps_cons pe_str pe_int (pps_cons pe_str (pv 1) pps_nil))) (by rfl) (by rfl) (fun z => by cases z) (by decide)) (pv 0) (fun _ _ => rfl)))) pss_nil)
    (pss_cons (ps_set (i := 2) sc__law_count.nd rfl (Or.inl rfl) (pe_call ih (hr.mono (by omega)) (by rfl) T.d__law_count.m T.d__law_count.F.kp T.d__law_count.b .nil pass0 (pa_cons (pe_ix ix_tupN (pv 0) pe_int (fun _ _ => rfl)) (pa_cons (pv 1) pa_nil))))
    (pss_cons (ps_set (i := 3) sc__law_count.nd rfl (Or.inl rfl) (pe_call ih (hr.mono (by omega)) (by rfl) T.d__law_count.m T.d__law_count.F.kp T.d__law_count.b .nil pass0 (pa_cons (pe_ix ix_tupN (pv 0) pe_int (fun _ _ => rfl)) (pa_cons (pv 1) pa_nil))))
    (pss_one (ps_ret (pe_ix ix_lnums (pe_lst (pa_cons (pe_op op_addN (pv 2) (pv 3)) (pa_cons (pe_op op_mulN (pv 2) (pv 3)) pa_nil))) (pe_callTy call_int1 (by rfl) T.n_int (by decide +kernel) (pa_cons (pe_cmpR op_eqS (pe_ix ix_tupN (pv 0) pe_int (fun _ _ => rfl)) pe_str (nomark _)) pa_nil)) (fun _ _ => rfl))))))), ?_⟩
    have ks : [(V.str "none", V.int 0), (V.str "one", V.int 1), (V.str "tree", vi m)] = [((Sum.inr "none" : Key), V.int 0), (Sum.inr "one", V.int 1), (Sum.inr "tree", vi m)].map (fun kv => (kV kv.1, kv.2)) := rfl
    rcases sh with _ | _ | _ | ⟨a, b⟩ | ⟨a, b⟩
    · cases hs
      refine ⟨_, rfl, _, _, _, rfl, .strStr _, _, rfl, iteT (fun p hp => ⟨_, rfl, upd_same, _, ks, (by show 3 ≤ 15; decide), _, rfl, p, _, rfl, ?_, q _ (fun b o e => ?_)⟩)⟩
      · have hg := DGet.k (k := (Sum.inr "none" : Key)) (upd_same (H := upd H p (.dK [])) (a := p) (o := .dK (mergeK [] [((Sum.inr "none" : Key), V.int 0), (Sum.inr "one", V.int 1), (Sum.inr "tree", vi m)])))
        rw [at_none] at hg
        exact hg
      · rw [upd_ne (ne_of_none e hp), upd_ne (ne_of_none e hp)]; exact e
    · cases hs
      refine ⟨_, rfl, _, _, _, rfl, .strStr _, _, rfl, iteT (fun p hp => ⟨_, rfl, upd_same, _, ks, (by show 3 ≤ 15; decide), _, rfl, p, _, rfl, ?_, q _ (fun b o e => ?_)⟩)⟩
      · have hg := DGet.k (k := (Sum.inr "one" : Key)) (upd_same (H := upd H p (.dK [])) (a := p) (o := .dK (mergeK [] [((Sum.inr "none" : Key), V.int 0), (Sum.inr "one", V.int 1), (Sum.inr "tree", vi m)])))
        rw [at_one] at hg
        exact hg
      · rw [upd_ne (ne_of_none e hp), upd_ne (ne_of_none e hp)]; exact e
    · cases hs
      refine ⟨_, rfl, _, _, _, rfl, .strStr _, _, rfl, iteT (fun p hp => ⟨_, rfl, upd_same, _, ks, (by show 3 ≤ 15; decide), _, rfl, p, _, rfl, ?_, q _ (fun b o e => ?_)⟩)⟩
      · have hg := DGet.k (k := (Sum.inr "tree" : Key)) (upd_same (H := upd H p (.dK [])) (a := p) (o := .dK (mergeK [] [((Sum.inr "none" : Key), V.int 0), (Sum.inr "one", V.int 1), (Sum.inr "tree", vi m)])))
        rw [at_tree] at hg
        exact hg
      · rw [upd_ne (ne_of_none e hp), upd_ne (ne_of_none e hp)]; exact e
    · obtain ⟨p, x, y, rfl, hp, ha, hb⟩ := hs
      have e1 : max a.deep b.deep + 1 ≤ n + 1 := h1
      have e2 : max a.deep b.deep + 1 ≤ 4 := h2
      have hca := cnt_big hm (s := a) (by omega)
      refine ⟨_, rfl, _, _, _, rfl, .tupStr hp, _, rfl, iteF ?_⟩
      refine ⟨_, rfl, p, _, 1, _, rfl, rfl, hp, rfl, _, rfl, _, a, m, rfl, ha, by omega, by omega, hm, fun H1 s1 => ?_⟩
      refine ⟨_, rfl, p, _, 2, _, rfl, rfl, same_tk s1 _ _ hp, rfl, _, rfl, _, b, m, rfl, ShV.tk (same_tk s1) hb, by omega, by omega, hm, fun H2 s2 => ?_⟩
      refine ⟨_, rfl, _, rfl, cnt m a, cnt m b, rfl, rfl, _, rfl, _, rfl, cnt m a, cnt m b, rfl, rfl, by omega, (by show 2 ≤ sizeLine; decide), fun d hd => ?_⟩
      have s3 := same_new hd (.lst [vi (cnt m a + cnt m b), vi (cnt m a * cnt m b)])
      have s03 := s1.trans (s2.trans s3)
      refine ⟨_, rfl, p, _, 0, _, rfl, rfl, same_tk s03 _ _ hp, rfl, _, _, false, rfl, rfl, by decide +kernel, .inr ⟨_, rfl, ?_⟩⟩
      exact ⟨d, [cnt m a + cnt m b, cnt m a * cnt m b], 0, rfl, SqL.of upd_same, rfl, (by show 0 < 2; decide), q _ s03⟩
    · obtain ⟨p, x, y, rfl, hp, ha, hb⟩ := hs
      have e1 : max a.deep b.deep + 1 ≤ n + 1 := h1
      have e2 : max a.deep b.deep + 1 ≤ 4 := h2
      have hca := cnt_big hm (s := a) (by omega)
      refine ⟨_, rfl, _, _, _, rfl, .tupStr hp, _, rfl, iteF ?_⟩
      refine ⟨_, rfl, p, _, 1, _, rfl, rfl, hp, rfl, _, rfl, _, a, m, rfl, ha, by omega, by omega, hm, fun H1 s1 => ?_⟩
      refine ⟨_, rfl, p, _, 2, _, rfl, rfl, same_tk s1 _ _ hp, rfl, _, rfl, _, b, m, rfl, ShV.tk (same_tk s1) hb, by omega, by omega, hm, fun H2 s2 => ?_⟩
      refine ⟨_, rfl, _, rfl, cnt m a, cnt m b, rfl, rfl, _, rfl, _, rfl, cnt m a, cnt m b, rfl, rfl, by omega, (by show 2 ≤ sizeLine; decide), fun d hd => ?_⟩
      have s3 := same_new hd (.lst [vi (cnt m a + cnt m b), vi (cnt m a * cnt m b)])
      have s03 := s1.trans (s2.trans s3)
      refine ⟨_, rfl, p, _, 0, _, rfl, rfl, same_tk s03 _ _ hp, rfl, _, _, true, rfl, rfl, by decide +kernel, .inr ⟨_, rfl, ?_⟩⟩
      exact ⟨d, [cnt m a + cnt m b, cnt m a * cnt m b], 1, rfl, SqL.of upd_same, rfl, (by show 1 < 2; decide), q _ s03⟩

def sp_all (K : PySem.W.Frag) (n : Nat) : Sp := fun vs H Q _ => ∃ (v : V) (s : Shp) (L : Addr) (ys : List V) (ts : List (List Nat)), vs = [v, .ref L] ∧ ShV K H s v ∧ s.deep ≤ n ∧ s.deep ≤ 4 ∧ H L = some (.lst ys) ∧ Fits (NumsV K H) ys ts ∧ ts.length ≤ 3 ∧
  ∀ D zs H', Same H H' → H' D = some (.lst zs) → Fits (fun v i => ItV K H' i v) zs (all ts s) → Q (.ref D) H'
theorem sc__law_all : FnScope ["_law_plan_here", "_law_trees_here", "_law_first", "_law_second", "_law_one", "_law_other", "_law_found"] ["_law_plan_here", "_law_trees_here"] (defScope s__law_all) := ⟨rfl, rfl, rfl, by decide +kernel, rfl, by decide +kernel, by decide +kernel⟩
theorem ok__law_all (T : Tp w K mg) : ∀ n, FnOk P w K mg base CX0 n T.d__law_all.f T.d__law_all.fd ["_law_plan_here", "_law_trees_here"] (sp_all K n)
  | 0 => none_ok (fun vs H Q E ⟨_, s, _, _, _, _, _, h, _⟩ => no_deep h) 0
  | n + 1 => by
    have ih := ok__law_all T n
    refine T.d__law_all.F.ok sc__law_all (fun vs H Q E h => ?_) (fun cdv A outer s H vs Q E hr h => ?_)
    · obtain ⟨_, _, _, _, _, rfl, _⟩ := h
      rfl
    obtain ⟨v, sh, L, ys, ts, rfl, hs, h1, h2, hL, hf, hm, q⟩ := h
    have hu := hu_of hr
    refine ⟨_, (pss_cons (ps_if (pt_val (pe_callB call_isT (by rfl) T.n_isinstance (by decide +kernel) (pa_cons (pv 0) (pa_cons (pe_bltn (v := .ty "str") (by rfl) T.n_str (by decide +kernel) rfl) pa_nil)))) (pss_one (ps_ret (pe_dget hu (pe_disp (pps_cons pe_str (pe_lst pa_nil) (pps_cons pe_str (pe_lst (pa_cons (pe_tup pa_nil) pa_nil)) (pps_cons pe_str (pv 1) pps_nil))) (by rfl) (by rfl) (fun z => by cases z) (by decide)) (pv 0) (fun _ _ => rfl)))) pss_nil)
    (pss_cons (ps_set (i := 2) sc__law_all.nd rfl (Or.inl rfl) (pe_call ih (hr.mono (by omega)) (by rfl) T.d__law_all.m T.d__law_all.F.kp T.d__law_all.b .nil pass0 (pa_cons (pe_ix ix_tupN (pv 0) pe_int (fun _ _ => rfl)) (pa_cons (pv 1) pa_nil))))
    (pss_cons (ps_set (i := 3) sc__law_all.nd rfl (Or.inl rfl) (pe_call ih (hr.mono (by omega)) (by rfl) T.d__law_all.m T.d__law_all.F.kp T.d__law_all.b .nil pass0 (pa_cons (pe_ix ix_tupN (pv 0) pe_int (fun _ _ => rfl)) (pa_cons (pv 1) pa_nil))))
    (pss_cons (ps_if (pt_cmpR op_eqS (pe_ix ix_tupN (pv 0) pe_int (fun _ _ => rfl)) pe_str (nomark _)) (pss_one (ps_ret (pe_op op_cat (pe_lc (own := [("_law_one", 4)]) rfl sc__law_all.nd (pi_list (pv 2)) (blkOk_by (N := ["_law_plan_here", "_law_trees_here", "_law_first", "_law_second", "_law_one", "_law_other", "_law_found"]) (sc := defScope s__law_all) (own := [("_law_one", 4)]) (by decide +kernel)) (fun _ _ _ _ _ => (pg_name (i := 4) sc__law_all.nd rfl (Or.inl rfl))) (fun _ _ _ _ _ => pts_nil) (fun _ _ _ _ _ => (pe_tup (pa_cons pe_str (pa_cons (pv 4) pa_nil))))) (pe_lc (own := [("_law_other", 5)]) rfl sc__law_all.nd (pi_list (pv 3)) (blkOk_by (N := ["_law_plan_here", "_law_trees_here", "_law_first", "_law_second", "_law_one", "_law_other", "_law_found"]) (sc := defScope s__law_all) (own := [("_law_other", 5)]) (by decide +kernel)) (fun _ _ _ _ _ => (pg_name (i := 5) sc__law_all.nd rfl (Or.inl rfl))) (fun _ _ _ _ _ => pts_nil) (fun _ _ _ _ _ => (pe_tup (pa_cons pe_str (pa_cons (pv 5) pa_nil)))))))) pss_nil)
    (pss_cons (ps_set (i := 6) sc__law_all.nd rfl (Or.inl rfl) (pe_lst pa_nil))
    (pss_cons (ps_for PassesOwn.never rfl (pi_list (pv 2)) (pg_name (i := 4) sc__law_all.nd rfl (Or.inr rfl))
    (pss_one (ps_expr (pe_bm PySem.F.plainAttrs_list PySem.F.slot_list_extend PySem.F.type_list_extend mt_extend (pv 6) (pa_cons (pe_lc (own := [("_law_other", 5)]) rfl sc__law_all.nd (pi_list (pv 3)) (blkOk_by (N := ["_law_plan_here", "_law_trees_here", "_law_first", "_law_second", "_law_one", "_law_other", "_law_found"]) (sc := defScope s__law_all) (own := [("_law_other", 5)]) (by decide +kernel)) (fun _ _ _ _ _ => (pg_name (i := 5) sc__law_all.nd rfl (Or.inl rfl))) (fun _ _ _ _ _ => pts_nil) (fun _ _ _ _ _ => (pe_tup (pa_cons (pv 4) (pa_cons (pv 5) pa_nil))))) pa_nil)))))
    (pss_one (ps_ret (pv 6))))))))), ?_⟩
    have dict : ∀ (z : Str), v = .str z → (∀ (p1 p2 p3 p4 : Addr) (H5 : Hp), Same H H5 → H5 p1 = some (.lst []) → H5 p3 = some (.lst [.ref p2]) → SqT K H5 p2 [] → H5 p4 = some (.dK (mergeK [] [((Sum.inr "none" : Key), .ref p1), (Sum.inr "one", .ref p3), (Sum.inr "tree", .ref L)])) → ∃ u, DGet H5 p4 (.str z) (some u) ∧ Q u H5) →
        ∀ p, H p = none → ∀ p1, upd H p (.dK []) p1 = none → ∀ p2, upd (upd H p (.dK [])) p1 (.lst []) p2 = none → ∀ p3, upd (upd (upd H p (.dK [])) p1 (.lst [])) p2 (.tup []) p3 = none →
          (upd (upd (upd (upd H p (.dK [])) p1 (.lst [])) p2 (.tup [])) p3 (.lst [.ref p2])) p = some (.dK []) ∧ ∃ u, DGet (upd (upd (upd (upd (upd H p (.dK [])) p1 (.lst [])) p2 (.tup [])) p3 (.lst [.ref p2])) p (.dK (mergeK [] [((Sum.inr "none" : Key), .ref p1), (Sum.inr "one", .ref p3), (Sum.inr "tree", .ref L)]))) p (.str z) (some u) ∧
            Q u (upd (upd (upd (upd (upd H p (.dK [])) p1 (.lst [])) p2 (.tup [])) p3 (.lst [.ref p2])) p (.dK (mergeK [] [((Sum.inr "none" : Key), .ref p1), (Sum.inr "one", .ref p3), (Sum.inr "tree", .ref L)]))) := by
      intro z _ k p hp p1 hp1 p2 hp2 p3 hp3
      have s1 := same_new hp1 (.lst [])
      have s2 := same_new hp2 (.tup [])
      have s3 := same_new hp3 (.lst [.ref p2])
      have n1 : p1 ≠ p := (ne_of_none (upd_same (H := H) (a := p)) hp1).symm
      have n2 : p2 ≠ p := (ne_of_none (s1 _ _ (upd_same (H := H) (a := p))) hp2).symm
      have n3 : p3 ≠ p := (ne_of_none (s2 _ _ (s1 _ _ (upd_same (H := H) (a := p)))) hp3).symm
      refine ⟨s3 _ _ (s2 _ _ (s1 _ _ upd_same)), k p1 p2 p3 p _ (fun b o e => ?_) ?_ ?_ ?_ upd_same⟩
      · rw [upd_ne (ne_of_none e hp)]
        exact s3 _ _ (s2 _ _ (s1 _ _ (same_new hp _ _ _ e)))
      · rw [upd_ne n1]
        exact s3 _ _ (s2 _ _ upd_same)
      · rw [upd_ne n3]
        exact upd_same
      · refine SqT.of ?_
        rw [upd_ne n2]
        exact s3 _ _ upd_same
    have ks : ∀ p1 p3 : Addr, [(V.str "none", V.ref p1), (V.str "one", V.ref p3), (V.str "tree", V.ref L)] = [((Sum.inr "none" : Key), V.ref p1), (Sum.inr "one", V.ref p3), (Sum.inr "tree", V.ref L)].map (fun kv => (kV kv.1, kv.2)) := fun _ _ => rfl
    rcases sh with _ | _ | _ | ⟨a, b⟩ | ⟨a, b⟩
    · cases hs
      have k := dict "none" rfl fun p1 p2 p3 p4 H5 s5 g1 g2 g3 g4 => by
        have hg := DGet.k (k := (Sum.inr "none" : Key)) g4
        rw [at_none] at hg
        exact ⟨_, hg, q p1 [] H5 s5 g1 .nil⟩
      refine ⟨_, rfl, _, _, _, rfl, .strStr _, _, rfl, iteT (fun p hp => ⟨Nat.zero_le _, fun p1 hp1 => ⟨Nat.zero_le _, fun p2 hp2 => ⟨(by show 1 ≤ sizeLine; decide), fun p3 hp3 => ?_⟩⟩⟩)⟩
      obtain ⟨k1, u, k2, k3⟩ := k p hp p1 hp1 p2 hp2 p3 hp3
      exact ⟨_, rfl, k1, _, ks p1 p3, (by show 3 ≤ 15; decide), _, rfl, p, u, rfl, k2, k3⟩
    · cases hs
      have k := dict "one" rfl fun p1 p2 p3 p4 H5 s5 g1 g2 g3 g4 => by
        have hg := DGet.k (k := (Sum.inr "one" : Key)) g4
        rw [at_one] at hg
        exact ⟨_, hg, q p3 _ H5 s5 g2 (.cons ⟨p2, rfl, g3⟩ .nil)⟩
      refine ⟨_, rfl, _, _, _, rfl, .strStr _, _, rfl, iteT (fun p hp => ⟨Nat.zero_le _, fun p1 hp1 => ⟨Nat.zero_le _, fun p2 hp2 => ⟨(by show 1 ≤ sizeLine; decide), fun p3 hp3 => ?_⟩⟩⟩)⟩
      obtain ⟨k1, u, k2, k3⟩ := k p hp p1 hp1 p2 hp2 p3 hp3
      exact ⟨_, rfl, k1, _, ks p1 p3, (by show 3 ≤ 15; decide), _, rfl, p, u, rfl, k2, k3⟩
    · cases hs
      have k := dict "tree" rfl fun p1 p2 p3 p4 H5 s5 g1 g2 g3 g4 => by
        have hg := DGet.k (k := (Sum.inr "tree" : Key)) g4
        rw [at_tree] at hg
        exact ⟨_, hg, q L ys H5 s5 (s5 _ _ hL) (Fits.to_map (f := Itm.tr) (hf.imp fun v b _ h => h.tk (same_tk s5)))⟩
      refine ⟨_, rfl, _, _, _, rfl, .strStr _, _, rfl, iteT (fun p hp => ⟨Nat.zero_le _, fun p1 hp1 => ⟨Nat.zero_le _, fun p2 hp2 => ⟨(by show 1 ≤ sizeLine; decide), fun p3 hp3 => ?_⟩⟩⟩)⟩
      obtain ⟨k1, u, k2, k3⟩ := k p hp p1 hp1 p2 hp2 p3 hp3
      exact ⟨_, rfl, k1, _, ks p1 p3, (by show 3 ≤ 15; decide), _, rfl, p, u, rfl, k2, k3⟩
    · obtain ⟨p, x, y, rfl, hp, ha, hb⟩ := hs
      have e1 : max a.deep b.deep + 1 ≤ n + 1 := h1
      have e2 : max a.deep b.deep + 1 ≤ 4 := h2
      have la := all_big hm (s := a) (by omega)
      have lb := all_big hm (s := b) (by omega)
      refine ⟨_, rfl, _, _, _, rfl, .tupStr hp, _, rfl, iteF ?_⟩
      refine ⟨_, rfl, p, _, 1, _, rfl, rfl, hp, rfl, _, rfl, _, a, L, ys, ts, rfl, ha, by omega, by omega, hL, hf, hm, fun D1 z1 H1 s1 g1 f1 => ?_⟩
      refine ⟨_, rfl, p, _, 2, _, rfl, rfl, same_tk s1 _ _ hp, rfl, _, rfl, _, b, L, ys, ts, rfl, ShV.tk (same_tk s1) hb, by omega, by omega, s1 _ _ hL, hf.imp (fun v b _ h => h.tk (same_tk s1)), hm, fun D2 z2 H2 s2 g2 f2 => ?_⟩
      have g12 := s2 _ _ g1
      refine ⟨_, rfl, p, _, 0, _, rfl, rfl, same_tk (s1.trans s2) _ _ hp, rfl, _, _, true, rfl, rfl, by decide +kernel, _, rfl, iteT ?_⟩
      refine ⟨_, rfl, D1, rfl, ⟨_, SqL.of g12⟩, fun D3 hD3 => ?_⟩
      have f1' := f1.imp (Bt := fun v i => ItV K H2 i v) fun v i _ h => ItV.tk (same_tk s2) h
      refine lc_vals (K := K) ((all ts a).map Itm.lf) (fun H v i => ItV K H i v) (fun H H' v i t h => ItV.tk t h) (by rw [List.length_map, ← f1.len]; exact walk_list) (by rw [List.length_map]; omega) hD3 (fun H' e => SqL.of (e _ _ g12)) ?_ ?_
      · rintro i j yv H3 H3' hj s3 ⟨rfl, hy⟩ N hN
        obtain ⟨i0, hi0, hv0⟩ := f1'.at_ hy
        rw [List.getElem?_map, hi0] at hj
        cases hj
        refine ⟨rfl, _, rfl, (by show 2 ≤ sizeLine; decide), fun t ht => hN _ _ (same_new ht _) ⟨t, yv, rfl, SqT.of upd_same, ItV.tk (same_tk (s3.trans (same_new ht _))) hv0⟩⟩
      intro z3 H3 k1 k2 k3
      have g23 := k2 _ _ g2
      refine ⟨_, rfl, D2, rfl, ⟨_, SqL.of g23⟩, fun D4 hD4 => ?_⟩
      have f2' := f2.imp (Bt := fun v i => ItV K H3 i v) fun v i _ h => ItV.tk (same_tk k2) h
      refine lc_vals (K := K) ((all ts b).map Itm.rt) (fun H v i => ItV K H i v) (fun H H' v i t h => ItV.tk t h) (by rw [List.length_map, ← f2.len]; exact walk_list) (by rw [List.length_map]; omega) hD4 (fun H' e => SqL.of (e _ _ g23)) ?_ ?_
      · rintro i j yv H4 H4' hj s4 ⟨rfl, hy⟩ N hN
        obtain ⟨i0, hi0, hv0⟩ := f2'.at_ hy
        rw [List.getElem?_map, hi0] at hj
        cases hj
        refine ⟨rfl, _, rfl, (by show 2 ≤ sizeLine; decide), fun t ht => hN _ _ (same_new ht _) ⟨t, yv, rfl, SqT.of upd_same, ItV.tk (same_tk (s4.trans (same_new ht _))) hv0⟩⟩
      intro z4 H4 k4 k5 k6
      refine ⟨D3, D4, _, _, rfl, rfl, k5 _ _ k1, k4, sz (by rw [k3.len, k6.len, List.length_map, List.length_map]; omega), fun D5 hD5 => ?_⟩
      have s5 := same_new hD5 (.lst (z3 ++ z4))
      exact q D5 _ _ (s1.trans (s2.trans (k2.trans (k5.trans s5)))) upd_same ((k3.imp fun v i _ h => ItV.tk (same_tk (k5.trans s5)) h).app (k6.imp fun v i _ h => ItV.tk (same_tk s5) h))
    · obtain ⟨p, x, y, rfl, hp, ha, hb⟩ := hs
      have e1 : max a.deep b.deep + 1 ≤ n + 1 := h1
      have e2 : max a.deep b.deep + 1 ≤ 4 := h2
      have la := all_big hm (s := a) (by omega)
      have lb := all_big hm (s := b) (by omega)
      refine ⟨_, rfl, _, _, _, rfl, .tupStr hp, _, rfl, iteF ?_⟩
      refine ⟨_, rfl, p, _, 1, _, rfl, rfl, hp, rfl, _, rfl, _, a, L, ys, ts, rfl, ha, by omega, by omega, hL, hf, hm, fun D1 z1 H1 s1 g1 f1 => ?_⟩
      refine ⟨_, rfl, p, _, 2, _, rfl, rfl, same_tk s1 _ _ hp, rfl, _, rfl, _, b, L, ys, ts, rfl, ShV.tk (same_tk s1) hb, by omega, by omega, s1 _ _ hL, hf.imp (fun v b _ h => h.tk (same_tk s1)), hm, fun D2 z2 H2 s2 g2 f2 => ?_⟩
      have g12 := s2 _ _ g1
      have f1' := f1.imp (Bt := fun v i => ItV K H2 i v) fun v i _ h => ItV.tk (same_tk s2) h
      refine ⟨_, rfl, p, _, 0, _, rfl, rfl, same_tk (s1.trans s2) _ _ hp, rfl, _, _, false, rfl, rfl, by decide +kernel, _, rfl, iteF ?_⟩
      refine ⟨Nat.zero_le _, fun G hG => ?_⟩
      have sG := same_new hG (.lst [])
      refine ⟨_, rfl, D1, rfl, ⟨_, SqL.of (sG _ _ g12)⟩, for_it (walk_list (xs := z1)) (fun i σ H' => ∃ (u1 u2 : Option V) (zs : List V), σ = [some (.ref p), some (.ref L), some (.ref D1), some (.ref D2), u1, u2, some (.ref G)] ∧ Same H2 H' ∧ H' G = some (.lst zs) ∧ Fits (fun v i => ItV K H' i v) zs (((all ts a).take i).flatMap fun i => (all ts b).map fun j => .pr i j))
        ⟨none, none, [], rfl, sG, upd_same, by rw [List.take_zero]; exact .nil⟩ (fun i σ H' _ ⟨_, _, _, _, e, _⟩ => SqL.of (e _ _ g12)) ?_ ?_⟩
      · rintro i yv σ H3 H3' hi ⟨u1, u2, zs, rfl, s3, g3, f3⟩ ⟨rfl, hy⟩
        obtain ⟨i0, hi0, hv0⟩ := f1'.at_ hy
        have g23 := s3 _ _ g2
        have f2' := f2.imp (Bt := fun v i => ItV K H3' i v) fun v i _ h => ItV.tk (same_tk s3) h
        have hv3 := ItV.tk (same_tk s3) hv0
        refine ⟨_, rfl, .inl ⟨rfl, _, SqL.of g3⟩, _, rfl, D2, rfl, ⟨_, SqL.of g23⟩, fun D4 hD4 => ?_⟩
        refine lc_vals (K := K) ((all ts b).map (Itm.pr i0)) (fun H v i => ItV K H i v) (fun H H' v i t h => ItV.tk t h) (by rw [List.length_map, ← f2.len]; exact walk_list) (by rw [List.length_map]; omega) hD4 (fun H' e => SqL.of (e _ _ g23)) ?_ ?_
        · rintro i' j yv2 H4 H4' hj s4 ⟨rfl, hy2⟩ N hN
          obtain ⟨j0, hj0, hw0⟩ := f2'.at_ hy2
          rw [List.getElem?_map, hj0] at hj
          cases hj
          have s5 := fun (t : Addr) (ht : H4' t = none) => s4.trans (same_new ht (.tup [yv, yv2]))
          refine ⟨rfl, _, rfl, _, rfl, (by show 2 ≤ sizeLine; decide), fun t ht => hN _ _ (same_new ht _) ⟨t, yv, yv2, rfl, SqT.of upd_same, ItV.tk (same_tk (s5 t ht)) hv3, ItV.tk (same_tk (s5 t ht)) hw0⟩⟩
        intro z4 H4 k4 k5 k6
        have g34 := k5 _ _ g3
        have hlen : (((all ts a).take i).flatMap fun i => (all ts b).map fun j => Itm.pr i j).length ≤ 100 * 6561 := by
          have hmin := flatMap_len (fun i => (all ts b).map fun j => Itm.pr i j) (all ts b).length ((all ts a).take i) fun a => by rw [List.length_map]; exact Nat.le_refl _
          have h5 : ((all ts a).take i).length * (all ts b).length ≤ (all ts a).length * (all ts b).length := Nat.mul_le_mul_right _ (by rw [List.length_take]; exact Nat.min_le_right _ _)
          have h6 : (all ts a).length * (all ts b).length = cnt ts.length (.both a b) := by rw [all_len, all_len]; rfl
          have h7 := cnt_big hm (s := .both a b) h2
          omega
        refine ⟨G, D4, _, _, rfl, rfl, g34, k4, sz (by rw [f3.len, k6.len, List.length_map]; omega), ?_⟩
        have tk : Tk K H4 (upd H4 G (.lst (zs ++ z4))) := (but_upd _).tk g34
        refine ⟨_, _, _, rfl, fun c o e => ?_, upd_same, ?_⟩
        · rw [upd_ne (ne_of_none e hG)]
          exact k5 _ _ (s3 _ _ e)
        · rw [flatMap_take _ hi0]
          exact (f3.imp fun v i _ h => ItV.tk ((same_tk k5).trans tk) h).app (k6.imp fun v i _ h => ItV.tk tk h)
      · rintro σ H3 ⟨u1, u2, zs, rfl, s3, g3, f3⟩
        rw [f1.len, List.take_length] at f3
        exact ⟨_, rfl, q G zs H3 (s1.trans (s2.trans s3)) g3 f3⟩

def sp_signs (K : PySem.W.Frag) (n : Nat) : Sp := fun vs H Q _ => ∃ (v t : V) (s : Shp) (i : Itm) (ks : List Nat), vs = [v, t] ∧ ShV K H s v ∧ ItV K H i t ∧ Of ks s i ∧ s.deep ≤ n ∧ (sig s i).length ≤ 1000 ∧ ∀ u H', Same H H' → NumsV K H' u (sig s i) → Q u H'
theorem sc__law_signs : FnScope ["_law_plan_here", "_law_item"] ["_law_plan_here", "_law_item"] (defScope s__law_signs) := ⟨rfl, rfl, rfl, by decide +kernel, rfl, by decide +kernel, by decide +kernel⟩
theorem ok__law_signs (T : Tp w K mg) : ∀ n, FnOk P w K mg base CX0 n T.d__law_signs.f T.d__law_signs.fd ["_law_plan_here", "_law_item"] (sp_signs K n)
  | 0 => none_ok (fun vs H Q E ⟨_, _, s, _, _, _, _, _, _, h, _⟩ => no_deep h) 0
  | n + 1 => by
    have ih := ok__law_signs T n
    refine T.d__law_signs.F.ok sc__law_signs (fun vs H Q E h => ?_) (fun cdv A outer s H vs Q E hr h => ?_)
    · obtain ⟨_, _, _, _, _, rfl, _⟩ := h
      rfl
    obtain ⟨v, t, sh, i, ks, rfl, hs, hi, ho, h1, hl, q⟩ := h
    refine ⟨_, (pss_cons (ps_if (pt_val (pe_callB call_isT (by rfl) T.n_isinstance (by decide +kernel) (pa_cons (pv 0) (pa_cons (pe_bltn (v := .ty "str") (by rfl) T.n_str (by decide +kernel) rfl) pa_nil)))) (pss_one (ps_ret (pv 1))) pss_nil)
    (pss_cons (ps_if (pt_cmpR op_eqS (pe_ix ix_tupN (pv 0) pe_int (fun _ _ => rfl)) pe_str (nomark _)) (pss_one (ps_ret (pe_op op_catN (pe_call ih (hr.mono (by omega)) (by rfl) T.d__law_signs.m T.d__law_signs.F.kp T.d__law_signs.b .nil pass0 (pa_cons (pe_ix ix_tupN (pv 0) pe_int (fun _ _ => rfl)) (pa_cons (pe_ix ix_tupN (pv 1) pe_int (fun _ _ => rfl)) pa_nil))) (pe_call ih (hr.mono (by omega)) (by rfl) T.d__law_signs.m T.d__law_signs.F.kp T.d__law_signs.b .nil pass0 (pa_cons (pe_ix ix_tupN (pv 0) pe_int (fun _ _ => rfl)) (pa_cons (pe_ix ix_tupN (pv 1) pe_int (fun _ _ => rfl)) pa_nil)))))) pss_nil)
    (pss_one (ps_ret (pe_call ih (hr.mono (by omega)) (by rfl) T.d__law_signs.m T.d__law_signs.F.kp T.d__law_signs.b .nil pass0 (pa_cons (pe_ix ix_tupN (pv 0) (pe_op op_addN pe_int (pe_callTy call_int1 (by rfl) T.n_int (by decide +kernel) (pa_cons (pe_cmpR op_eqS (pe_ix ix_tupN (pv 1) pe_int (fun _ _ => rfl)) pe_str (nomark _)) pa_nil))) (fun _ _ => rfl)) (pa_cons (pe_ix ix_tupN (pv 1) pe_int (fun _ _ => rfl)) pa_nil))))))), ?_⟩
    cases ho with
    | one =>
      cases hs
      exact ⟨_, rfl, _, _, _, rfl, .strStr _, _, rfl, iteT ⟨_, rfl, q _ _ (Same.refl _) hi⟩⟩
    | tree _ =>
      cases hs
      exact ⟨_, rfl, _, _, _, rfl, .strStr _, _, rfl, iteT ⟨_, rfl, q _ _ (Same.refl _) hi⟩⟩
    | @lf a b i hi0 =>
      have e1 : max a.deep b.deep + 1 ≤ n + 1 := h1
      obtain ⟨p, y1, y2, rfl, hp, ha, hb⟩ := hs
      obtain ⟨u, u1, rfl, hu, hu1⟩ := hi
      refine ⟨_, rfl, _, _, _, rfl, .tupStr hp, _, rfl, iteF ?_⟩
      refine ⟨_, rfl, p, _, 0, _, rfl, rfl, hp, rfl, _, _, false, rfl, rfl, by decide +kernel, _, rfl, iteF ?_⟩
      refine ⟨_, rfl, _, rfl, u, _, 0, _, rfl, rfl, hu, rfl, _, _, false, rfl, rfl, by decide +kernel, .inr ⟨_, rfl, ?_⟩⟩
      refine ⟨1, 0, rfl, rfl, p, _, 1, _, rfl, rfl, hp, rfl, _, rfl, u, _, 1, _, rfl, rfl, hu, rfl, ?_⟩
      exact ⟨_, _, a, i, ks, rfl, ha, hu1, hi0, by omega, hl, q⟩
    | @rt a b i hi0 =>
      have e1 : max a.deep b.deep + 1 ≤ n + 1 := h1
      obtain ⟨p, y1, y2, rfl, hp, ha, hb⟩ := hs
      obtain ⟨u, u1, rfl, hu, hu1⟩ := hi
      refine ⟨_, rfl, _, _, _, rfl, .tupStr hp, _, rfl, iteF ?_⟩
      refine ⟨_, rfl, p, _, 0, _, rfl, rfl, hp, rfl, _, _, false, rfl, rfl, by decide +kernel, _, rfl, iteF ?_⟩
      refine ⟨_, rfl, _, rfl, u, _, 0, _, rfl, rfl, hu, rfl, _, _, true, rfl, rfl, by decide +kernel, .inr ⟨_, rfl, ?_⟩⟩
      refine ⟨1, 1, rfl, rfl, p, _, 2, _, rfl, rfl, hp, rfl, _, rfl, u, _, 1, _, rfl, rfl, hu, rfl, ?_⟩
      exact ⟨_, _, b, i, ks, rfl, hb, hu1, hi0, by omega, hl, q⟩
    | @pr a b i j hi0 hj0 =>
      have e1 : max a.deep b.deep + 1 ≤ n + 1 := h1
      have e3 : (sig a i ++ sig b j).length ≤ 1000 := hl
      rw [List.length_append] at e3
      obtain ⟨p, y1, y2, rfl, hp, ha, hb⟩ := hs
      obtain ⟨u, u1, u2, rfl, hu, hu1, hu2⟩ := hi
      refine ⟨_, rfl, _, _, _, rfl, .tupStr hp, _, rfl, iteF ?_⟩
      refine ⟨_, rfl, p, _, 0, _, rfl, rfl, hp, rfl, _, _, true, rfl, rfl, by decide +kernel, _, rfl, iteT ?_⟩
      refine ⟨_, rfl, p, _, 1, _, rfl, rfl, hp, rfl, _, rfl, u, _, 0, _, rfl, rfl, hu, rfl, _, _, a, i, ks, rfl, ha, hu1, hi0, by omega, by omega, fun v1 H1 s1 g1 => ?_⟩
      refine ⟨_, rfl, p, _, 2, _, rfl, rfl, same_tk s1 _ _ hp, rfl, _, rfl, u, _, 1, _, rfl, rfl, same_tk s1 _ _ hu, rfl, _, _, b, j, ks, rfl, ShV.tk (same_tk s1) hb, ItV.tk (same_tk s1) hu2, hj0, by omega, by omega, fun v2 H2 s2 g2 => ?_⟩
      exact ⟨_, _, g1.tk (same_tk s2), g2, by omega, fun v3 H3 s3 g3 => q _ _ (s1.trans (s2.trans s3)) g3⟩
end
end Bs
/-! The walk: the law's own spots and steps. -/
namespace Bs
open PySem PySem.Spec L2
theorem rgV_nat (m : Nat) : rgV 0 (m : Int) = (List.range m).map vi := by
  unfold rgV
  rw [Int.sub_zero, Int.toNat_natCast]
  refine List.map_congr_left fun i _ => ?_
  exact congrArg V.int (Int.zero_add _)
theorem eqv_numsL (a b : List Nat) : PyData.eqv (.list (a.map fun n : Nat => PyData.int (n : Int))) (.list (b.map fun n : Nat => PyData.int (n : Int))) = decide (a = b) := by
  rw [PyData.eqv, eqv_nums]
theorem nums_dpL {K : PySem.W.Frag} {H : Hp} {l : Addr} {ns : List Nat} (h : SqL K H l (ns.map vi)) : Dp K H (.ref l) (.list (ns.map fun n : Nat => PyData.int (n : Int))) := .lst h (nums_dp ns)
theorem shaped_numsL (ns : List Nat) : SeqAt.shaped (.list (ns.map fun n : Nat => PyData.int (n : Int))) = true :=
  shaped_of (by rw [PyData.canLay0]; exact canN ns) (by rw [PyData.depth, depth_nums]; decide)
def LStepsOk (ks r : List Nat) (sts : List Stp) : Prop :=
  sts = [.ord (List.range r.length).reverse] ∨ ∃ p sl n, r[p]? = some n ∧ sl < n ∧ sts = [.opn p sl, .ord (List.range (r.length + (ks.length - 1))).reverse]
section
variable {P : Program} {w : World} {K : PySem.W.Frag} {mg : Str → Option Value} {base : Heap}

def sp_spots (K : PySem.W.Frag) : Sp := fun vs H Q _ => ∃ (v : V) (r : List Nat) (L : Addr) (ys : List V) (ts : List (List Nat)), vs = [v, .ref L] ∧ NumsV K H v r ∧ r.length ≤ 16 ∧ (∀ f ∈ r, f ≤ 8) ∧ H L = some (.lst ys) ∧ Fits (NumsV K H) ys ts ∧ ts.length ≤ 3 ∧ (∀ t ∈ ts, t.length ≤ 20) ∧
  ∀ D zs H', Same H H' → H' D = some (.lst zs) → Fits (ThV K H') zs (spots ts r) → Q (.ref D) H'
theorem sc__law_spots : FnScope ["_law_rack", "_law_trees_here", "_law_found", "_law_place", "_law_form", "_law_rows", "_law_k", "_law_longer", "_law_row", "_law_tree_here"] ["_law_rack", "_law_trees_here"] (defScope s__law_spots) := ⟨rfl, rfl, rfl, by decide +kernel, rfl, by decide +kernel, by decide +kernel⟩
theorem ok__law_spots (T : Tp w K mg) : FnOk P w K mg base CX0 1 T.d__law_spots.f T.d__law_spots.fd ["_law_rack", "_law_trees_here"] (sp_spots K) := by
  refine T.d__law_spots.F.ok sc__law_spots (fun vs H Q E h => ?_) (fun cdv A outer s H vs Q E hr h => ?_)
  · obtain ⟨_, _, _, _, _, rfl, _⟩ := h
    rfl
  obtain ⟨v, r, L, ys, ts, rfl, ⟨ra, rfl, hra⟩, hr16, hf8, hL, hf, hm, hsh, q⟩ := h
  refine ⟨_, (pss_cons (ps_set (i := 2) sc__law_spots.nd rfl (Or.inl rfl) (pe_lst pa_nil))
    (pss_cons (ps_for PassesOwn.never rfl (pi_enumT (by rfl) T.n_enumerate (pa_cons (pv 0) pa_nil)) (pg_tup (by rfl) (pgs_cons (pg_name (i := 3) sc__law_spots.nd rfl (Or.inr rfl)) (pgs_cons (pg_name (i := 4) sc__law_spots.nd rfl (Or.inl rfl)) pgs_nil)))
    (pss_cons (ps_set (i := 5) sc__law_spots.nd rfl (Or.inl rfl) (pe_lst (pa_cons (pe_tup pa_nil) pa_nil)))
    (pss_cons (ps_for PassesOwn.never rfl (pi_range1 (by rfl) T.n_range (pa_cons (pv 4) pa_nil)) (pg_name (i := 6) sc__law_spots.nd rfl (Or.inl rfl))
    (pss_cons (ps_set (i := 7) sc__law_spots.nd rfl (Or.inl rfl) (pe_lst pa_nil))
    (pss_cons (ps_for PassesOwn.never rfl (pi_list (pv 5)) (pg_name (i := 8) sc__law_spots.nd rfl (Or.inr rfl))
    (pss_one (ps_expr (pe_bm PySem.F.plainAttrs_list PySem.F.slot_list_extend PySem.F.type_list_extend mt_extend (pv 7) (pa_cons (pe_lc (own := [("_law_tree_here", 9)]) rfl sc__law_spots.nd (pi_list (pv 1)) (blkOk_by (N := ["_law_rack", "_law_trees_here", "_law_found", "_law_place", "_law_form", "_law_rows", "_law_k", "_law_longer", "_law_row", "_law_tree_here"]) (sc := defScope s__law_spots) (own := [("_law_tree_here", 9)]) (by decide +kernel)) (fun _ _ _ _ _ => (pg_name (i := 9) sc__law_spots.nd rfl (Or.inl rfl))) (fun _ _ _ _ _ => pts_nil) (fun _ _ _ _ _ => (pe_op (op_catNK (K := K) rfl) (pv 8) (pv 9)))) pa_nil)))))
    (pss_one (ps_set (i := 5) sc__law_spots.nd rfl (Or.inl rfl) (pv 7))))))
    (pss_one (ps_expr (pe_bm PySem.F.plainAttrs_list PySem.F.slot_list_extend PySem.F.type_list_extend mt_extend (pv 2) (pa_cons (pe_lc (own := [("_law_row", 8)]) rfl sc__law_spots.nd (pi_list (pv 5)) (blkOk_by (N := ["_law_rack", "_law_trees_here", "_law_found", "_law_place", "_law_form", "_law_rows", "_law_k", "_law_longer", "_law_row", "_law_tree_here"]) (sc := defScope s__law_spots) (own := [("_law_row", 8)]) (by decide +kernel)) (fun _ _ _ _ _ => (pg_name (i := 8) sc__law_spots.nd rfl (Or.inl rfl))) (fun _ _ _ _ _ => pts_nil) (fun _ _ _ _ _ => (pe_tup (pa_cons (pv 3) (pa_cons (pv 8) pa_nil))))) pa_nil)))))))
    (pss_one (ps_ret (pv 2))))), ?_⟩
  refine ⟨Nat.zero_le _, fun G hG => ?_⟩
  have sG := same_new hG (.lst [])
  refine ⟨_, rfl, ra, _, rfl, same_tk sG _ _ hra, for_it walk_enumT (fun i σ H' => ∃ (u3 u4 u5 u6 u7 u8 u9 : Option V) (zs : List V), σ = [some (.ref ra), some (.ref L), some (.ref G), u3, u4, u5, u6, u7, u8, u9] ∧ Same H H' ∧ H' G = some (.lst zs) ∧ Fits (ThV K H') zs (spotsF ts 0 (r.take i)))
    ⟨none, none, none, none, none, none, none, [], rfl, sG, upd_same, by rw [List.take_zero]; exact .nil⟩ (fun i σ H' _ ⟨_, _, _, _, _, _, _, _, _, e, _⟩ => same_tk e _ _ hra) ?_ ?_⟩
  · rintro i y σ H1 H1' hi ⟨u3, u4, u5, u6, u7, u8, u9, zs, rfl, s1, g1, f1⟩ ⟨T0, y1, y2, rfl, hT, rfl, e1, e2⟩
    cases e1
    have e2' : (r.map vi)[i]? = some y2 := e2
    obtain ⟨n, hn, rfl⟩ := nums_get e2'
    rw [List.length_map] at hi
    have hn8 := hf8 n (List.mem_of_getElem? hn)
    have sT := same_new hT (.tup [vi i, vi n])
    refine ⟨T0, _, rfl, SqT.of upd_same, rfl, _, _, rfl, _, _, rfl, rfl, ?_⟩
    refine ⟨(by show 0 ≤ sizeLine; decide), fun p0 hp0 => ⟨(by show 1 ≤ sizeLine; decide), fun R hR => ?_⟩⟩
    have s2 := sT.trans ((same_new hp0 (.tup [])).trans (same_new hR (.lst [.ref p0])))
    have s02 := s1.trans s2
    refine ⟨_, rfl, (n : Int), rfl, by omega, by omega, for_it (n := n) walk_rangeN (fun k σ H' => ∃ (R : Addr) (u6 u7 u8 u9 : Option V) (zr : List V), σ = [some (.ref ra), some (.ref L), some (.ref G), some (vi i), some (vi n), some (.ref R), u6, u7, u8, u9] ∧ Same H1 H' ∧ H' R = some (.lst zr) ∧ Fits (NumsV K H') zr (rowsN ts k))
      ⟨R, u6, u7, u8, u9, _, rfl, s2, upd_same, .cons ⟨p0, rfl, same_tk (same_new hR _) _ _ (SqT.of upd_same)⟩ .nil⟩ (fun _ _ _ _ _ => trivial) ?_ ?_⟩
    · rintro k yk σ H2 H2' hk ⟨R2, u6, u7, u8, u9, zr, rfl, s3, g3, f3⟩ ⟨rfl, rfl⟩
      refine ⟨Nat.zero_le _, fun W hW => ?_⟩
      have sW := same_new hW (.lst [])
      have rb := rowsN_big hm (n := k) (by omega)
      refine ⟨_, rfl, R2, rfl, ⟨_, SqL.of (sW _ _ g3)⟩, for_it (walk_list (xs := zr)) (fun j σ H' => ∃ (u8 u9 : Option V) (zw : List V), σ = [some (.ref ra), some (.ref L), some (.ref G), some (vi i), some (vi n), some (.ref R2), some (vi k), some (.ref W), u8, u9] ∧ Same H2' H' ∧ H' W = some (.lst zw) ∧ Fits (NumsV K H') zw (((rowsN ts k).take j).flatMap fun row => ts.map fun t => row ++ t))
        ⟨u8, u9, [], rfl, sW, upd_same, by rw [List.take_zero]; exact .nil⟩ (fun j σ H' _ ⟨_, _, _, _, e, _⟩ => SqL.of (e _ _ g3)) ?_ ?_⟩
      · rintro j yv σ H3 H3' hj ⟨u8, u9, zw, rfl, s4, g4, f4⟩ ⟨rfl, hy⟩
        obtain ⟨row, hrow, hvrow⟩ := f3.at_ hy
        have hL3 := s4 _ _ (s3 _ _ (s1 _ _ hL))
        have hf3 := hf.imp (Bt := NumsV K H3') fun v t _ h => h.tk (same_tk (s1.trans (s3.trans s4)))
        have hvr3 := hvrow.tk (same_tk (K := K) s4)
        have hrl := rowsN_sh hsh k row (List.mem_of_getElem? hrow)
        refine ⟨_, rfl, .inl ⟨rfl, _, SqL.of g4⟩, _, rfl, L, rfl, ⟨_, SqL.of hL3⟩, fun D4 hD4 => ?_⟩
        refine lc_vals (K := K) (ts.map fun t => row ++ t) (NumsV K) (fun _ _ _ _ t h => h.tk t) (by rw [List.length_map, ← hf.len]; exact walk_list) (by rw [List.length_map]; omega) hD4 (fun H' e => SqL.of (e _ _ hL3)) ?_ ?_
        · rintro i' b yv2 H4 H4' hb s5 ⟨rfl, hy2⟩ N hN
          obtain ⟨t, ht, hvt⟩ := hf3.at_ hy2
          rw [List.getElem?_map, ht] at hb
          cases hb
          have htl := hsh t (List.mem_of_getElem? ht)
          exact ⟨rfl, _, rfl, _, rfl, row, t, hvr3.tk (same_tk s5), hvt.tk (same_tk s5), by omega, fun v6 H6 s6 h6 => hN _ _ s6 h6⟩
        intro z4 H4 k4 k5 k6
        have g45 := k5 _ _ g4
        have hlen : (((rowsN ts k).take j).flatMap fun row => ts.map fun t => row ++ t).length ≤ 6561 * 3 := by
          refine Nat.le_trans (flatMap_len _ ts.length _ fun a => by rw [List.length_map]; exact Nat.le_refl _) ?_
          exact Nat.mul_le_mul (by rw [List.length_take]; omega) hm
        refine ⟨W, D4, _, _, rfl, rfl, g45, k4, sz (by rw [f4.len, k6.len, List.length_map]; omega), ?_⟩
        have tk : Tk K H4 (upd H4 W (.lst (zw ++ z4))) := (but_upd _).tk g45
        refine ⟨_, _, _, rfl, fun c o e => ?_, upd_same, ?_⟩
        · rw [upd_ne (ne_of_none e hW)]
          exact k5 _ _ (s4 _ _ e)
        · rw [flatMap_take _ hrow]
          exact (f4.imp fun v i _ h => h.tk ((same_tk k5).trans tk)).app (k6.imp fun v i _ h => h.tk tk)
      · rintro σ H3 ⟨u8, u9, zw, rfl, s4, g4, f4⟩
        rw [f3.len, List.take_length] at f4
        exact ⟨_, rfl, W, _, _, _, _, zw, rfl, s3.trans s4, g4, f4⟩
    · rintro σ H2 ⟨R2, u6, u7, u8, u9, zr, rfl, s3, g3, f3⟩
      have hG2 := s3 _ _ g1
      have rb := rowsN_big hm hn8
      refine ⟨_, rfl, .inl ⟨rfl, _, SqL.of hG2⟩, _, rfl, R2, rfl, ⟨_, SqL.of g3⟩, fun D4 hD4 => ?_⟩
      refine lc_vals (K := K) ((rowsN ts n).map fun x => (i, x)) (ThV K) (fun _ _ _ _ t h => h.tk t) (by rw [List.length_map, ← f3.len]; exact walk_list) (by rw [List.length_map]; omega) hD4 (fun H' e => SqL.of (e _ _ g3)) ?_ ?_
      · rintro i' b yv2 H4 H4' hb s5 ⟨rfl, hy2⟩ N hN
        obtain ⟨row, hrow, c, rfl, hc⟩ := f3.at_ hy2
        rw [List.getElem?_map, hrow] at hb
        cases hb
        exact ⟨rfl, _, rfl, _, rfl, (by show 2 ≤ sizeLine; decide), fun t ht => hN _ _ (same_new ht _) ⟨t, rfl, c, SqT.of upd_same, same_tk (s5.trans (same_new ht _)) _ _ hc⟩⟩
      intro z4 H4 k4 k5 k6
      have g45 := k5 _ _ hG2
      have hlen := spotsF_big hm (r.take i) 0 fun f hf => hf8 f (List.mem_of_mem_take hf)
      rw [List.length_take] at hlen
      have hlen2 : min i r.length * 6561 ≤ 16 * 6561 := Nat.mul_le_mul_right _ (by omega)
      refine ⟨G, D4, _, _, rfl, rfl, g45, k4, sz (by rw [f1.len, k6.len, List.length_map]; omega), ?_⟩
      have tk : Tk K H4 (upd H4 G (.lst (zs ++ z4))) := (but_upd _).tk g45
      refine ⟨_, _, _, _, _, _, _, _, rfl, fun c o e => ?_, upd_same, ?_⟩
      · rw [upd_ne (ne_of_none e hG)]
        exact k5 _ _ (s3 _ _ (s1 _ _ e))
      · have et : r.take (i + 1) = r.take i ++ [n] := by rw [List.take_succ, hn]; rfl
        have el : 0 + (r.take i).length = i := by rw [List.length_take]; omega
        rw [et, spotsF_snoc, el]
        exact (f1.imp fun v x _ h => h.tk ((same_tk (s3.trans k5)).trans tk)).app (k6.imp fun v x _ h => h.tk tk)
  · rintro σ H1 ⟨u3, u4, u5, u6, u7, u8, u9, zs, rfl, s1, g1, f1⟩
    rw [List.length_map, List.take_length] at f1
    exact ⟨_, rfl, q G zs H1 s1 g1 f1⟩

def sp_lsteps (K : PySem.W.Frag) : Sp := fun vs H Q _ => ∃ (l F : Addr) (ks : List Nat) (v : V) (r : List Nat), vs = [.ref l, .ref F, v] ∧ WellAt H l ∧ H F = some (.lst (ks.map vi)) ∧ F ≠ l ∧ 2 ≤ ks.length ∧ ks.length ≤ 5 ∧ NumsV K H v r ∧ r.length ≤ 1000 ∧ (∀ f ∈ r, f ≤ 200) ∧
  ∀ D ys sts H', But l H H' → WellAt H' l → H D = none → H' D = some (.lst ys) → Fits (StpV K H') ys sts → LStepsOk ks r sts → Q (.ref D) H'
theorem sc__law_steps : FnScope ["_law_well_here", "_law_within_here", "_law_rack", "_law_found", "_law_size", "_law_place", "_law_form", "_law_places"] ["_law_well_here", "_law_within_here", "_law_rack"] (defScope s__law_steps) := ⟨rfl, rfl, rfl, by decide +kernel, rfl, by decide +kernel, by decide +kernel⟩
theorem ok__law_steps (T : Tp w K mg) : FnOk P w K mg base CX0 2 T.d__law_steps.f T.d__law_steps.fd ["_law_well_here", "_law_within_here", "_law_rack"] (sp_lsteps K) := by
  refine T.d__law_steps.F.ok sc__law_steps (fun vs H Q E h => ?_) (fun cdv A outer s H vs Q E hr h => ?_)
  · obtain ⟨_, _, _, _, _, rfl, _⟩ := h
    rfl
  obtain ⟨l, F, ks, v, r, rfl, hw, hF, nFl, hlo, hhi, ⟨ra, rfl, hra⟩, hr1, hr2, q⟩ := h
  refine ⟨_, (pss_cons (ps_set (i := 3) sc__law_steps.nd rfl (Or.inl rfl) (pe_lst pa_nil))
    (pss_cons (ps_set (i := 4) sc__law_steps.nd rfl (Or.inl rfl) (pe_callB call_lenN (by rfl) T.n_len PySem.boot_len (pa_cons (pv 2) pa_nil)))
    (pss_cons (ps_setLc (i := 7) (own := [("_law_place", 5), ("_law_form", 6)]) rfl sc__law_steps.nd rfl rfl (sw_true rfl rfl rfl (by decide +kernel)) (pi_enumT (by rfl) T.n_enumerate (pa_cons (pv 2) pa_nil)) (blkOk_by (N := ["_law_well_here", "_law_within_here", "_law_rack", "_law_found", "_law_size", "_law_place", "_law_form", "_law_places"]) (sc := defScope s__law_steps) (own := [("_law_place", 5), ("_law_form", 6)]) (by decide +kernel)) (fun _ _ _ _ _ => (pg_tup2K (K := K) rfl rfl (pgs_cons (pg_name (i := 5) sc__law_steps.nd rfl (Or.inl rfl)) (pgs_cons (pg_name (i := 6) sc__law_steps.nd rfl (Or.inl rfl)) pgs_nil)))) (fun _ _ _ _ _ => (pts_one (pt_cmpR op_gtN (pv 6) pe_int (nomark _)))) (fun _ _ _ _ _ => (pv 5)))
    (pss_cons (ps_if (pt_cmpR (op_neD hr.units) (pv 7) (pe_lst pa_nil) (nomark _)) (pss_cons (ps_set (i := 5) sc__law_steps.nd rfl (Or.inl rfl) (pe_ix ix_lnums (pv 7) (pe_call (ok__law_draw T) (hr.mono (by omega)) (by rfl) T.d__law_draw.m T.d__law_draw.F.kp T.d__law_draw.b .nil pass0 (pa_cons (pv 0) (pa_cons (pe_callB call_lenL (by rfl) T.n_len PySem.boot_len (pa_cons (pv 7) pa_nil)) pa_nil))) (fun _ _ => rfl)))
    (pss_cons (ps_expr (pe_bm PySem.F.plainAttrs_list PySem.F.slot_list_append PySem.F.type_list_append mt_append (pv 3) (pa_cons (pe_tup (pa_cons pe_str (pa_cons (pv 5) (pa_cons (pe_call (ok__law_draw T) (hr.mono (by omega)) (by rfl) T.d__law_draw.m T.d__law_draw.F.kp T.d__law_draw.b .nil pass0 (pa_cons (pv 0) (pa_cons (pe_ix ix_nums (pv 2) (pv 5) (fun _ _ => rfl)) pa_nil))) pa_nil)))) pa_nil)))
    (pss_one (ps_set (i := 4) sc__law_steps.nd rfl (Or.inl rfl) (pe_op op_subN (pe_op op_addN (pv 4) (pe_callB call_lenL (by rfl) T.n_len PySem.boot_len (pa_cons (pv 1) pa_nil))) pe_int))))) pss_nil)
    (pss_one (ps_ret (pe_op op_cat (pv 3) (pe_lst (pa_cons (pe_tup (pa_cons pe_str (pa_cons (pe_callTy call_tuple_frz (by rfl) T.n_tuple (by decide +kernel) (pa_cons (pe_revL (pe_listRg rfl (by rfl) T.n_list (prg_1 (by rfl) T.n_range (pv 4)))) pa_nil)) pa_nil))) pa_nil))))))))), ?_⟩
  refine ⟨Nat.zero_le _, fun G hG => ?_⟩
  have sG := same_new hG (.lst [])
  have nlG := hw.ne hG
  refine ⟨_, rfl, _, r, rfl, ⟨ra, rfl, same_tk sG _ _ hra⟩, ?_⟩
  refine ⟨_, rfl, ra, _, rfl, same_tk sG _ _ hra, fun D hD => ?_⟩
  have nDG : G ≠ D := ne_of_none upd_same hD
  refine lc_it walk_enumT (fun i H' => ∃ ps : List Nat, H' D = some (.lst (ps.map vi)) ∧ Same (upd H G (.lst [])) H' ∧ (∀ p ∈ ps, ∃ n, r[p]? = some n ∧ 0 < n) ∧ ps.length ≤ i)
    ⟨[], upd_same, same_new hD _, (fun p hp => by cases hp), Nat.le_refl _⟩ (fun i H' _ ⟨_, _, e, _⟩ => same_tk (sG.trans e) _ _ hra) ?_ ?_
  · rintro i y H1 H1' hi ⟨ps, g1, s1, k1, k2⟩ ⟨T0, y1, y2, rfl, hT, rfl, e1, e2⟩
    cases e1
    have e2' : (r.map vi)[i]? = some y2 := e2
    obtain ⟨n, hn, rfl⟩ := nums_get e2'
    rw [List.length_map] at hi
    have sT := same_new hT (.tup [vi i, vi n])
    have g1' := sT _ _ g1
    refine ⟨T0, _, rfl, SqT.of upd_same, rfl, _, _, rfl, _, _, rfl, rfl, rfl, _, rfl, n, 0, rfl, rfl, _, rfl, ?_⟩
    refine ite2 (fun cc => ?_) (fun cc => ?_)
    · have c : 0 < n := of_decide_eq_true cc
      refine ⟨_, rfl, _, g1', sz' (by rw [List.length_map]; omega), ps ++ [i], by rw [upd_same, List.map_append]; rfl, fun b o e => ?_, fun p hp => ?_, by rw [List.length_append, List.length_singleton]; omega⟩
      · rw [upd_ne (ne_of_none e hD)]
        exact sT _ _ (s1 _ _ e)
      · rcases List.mem_append.mp hp with hp | hp
        · exact k1 p hp
        · rw [List.mem_singleton.mp hp]
          exact ⟨n, hn, c⟩
    · exact ⟨ps, g1', s1.trans sT, k1, by omega⟩
  rintro H1 ⟨ps, g1, s1, k1, k2⟩
  have s01 := sG.trans s1
  have hG1 := s1 _ _ (upd_same (H := H) (a := G) (o := .lst []))
  rw [List.length_map] at k2
  have last : ∀ (H2 : Hp) (m : Nat) (us : List V) (pre : List Stp), m ≤ 2000 → (∀ b o, b ≠ l → H b = some o → H2 b = some o) → WellAt H2 l → H2 G = some (.lst us) → Fits (StpV K H2) us pre → us.length ≤ 10 → LStepsOk ks r (pre ++ [.ord (List.range m).reverse]) → ∀ q1, H2 q1 = none → ∀ q2, upd H2 q1 (.lst (rgV 0 (m : Int))) q2 = none → ∀ (t : Addr) (o : Obj), upd (upd H2 q1 (.lst (rgV 0 (m : Int)))) q2 (.lst (rgV 0 (m : Int)).reverse) t = none → o.dict = none →
      ∀ u, upd (upd (upd H2 q1 (.lst (rgV 0 (m : Int)))) q2 (.lst (rgV 0 (m : Int)).reverse)) t (.frz o (.tup (rgV 0 (m : Int)).reverse)) u = none → ∀ M, upd (upd (upd (upd H2 q1 (.lst (rgV 0 (m : Int)))) q2 (.lst (rgV 0 (m : Int)).reverse)) t (.frz o (.tup (rgV 0 (m : Int)).reverse))) u (.tup [.str "order", .ref t]) M = none →
      ∀ D2, upd (upd (upd (upd (upd H2 q1 (.lst (rgV 0 (m : Int)))) q2 (.lst (rgV 0 (m : Int)).reverse)) t (.frz o (.tup (rgV 0 (m : Int)).reverse))) u (.tup [.str "order", .ref t])) M (.lst [.ref u]) D2 = none →
      Q (.ref D2) (upd (upd (upd (upd (upd (upd H2 q1 (.lst (rgV 0 (m : Int)))) q2 (.lst (rgV 0 (m : Int)).reverse)) t (.frz o (.tup (rgV 0 (m : Int)).reverse))) u (.tup [.str "order", .ref t])) M (.lst [.ref u])) D2 (.lst (us ++ [.ref u]))) := by
    intro H2 m us pre hm b2 w2 hG2 hf hul hls q1 hq1 q2 hq2 t o ht ho u hu M hM D2 hD2
    have a1 := same_new hq1 (.lst (rgV 0 (m : Int)))
    have a2 := same_new hq2 (.lst (rgV 0 (m : Int)).reverse)
    have a3 := same_new ht (.frz o (.tup (rgV 0 (m : Int)).reverse))
    have a4 := same_new hu (.tup [.str "order", .ref t])
    have a5 := same_new hM (.lst [.ref u])
    have a6 := same_new hD2 (.lst (us ++ [.ref u]))
    have a15 := a1.trans (a2.trans (a3.trans (a4.trans a5)))
    have a16 := a15.trans a6
    have er : (rgV 0 (m : Int)).reverse = ((List.range m).reverse).map vi := by rw [rgV_nat, List.map_reverse]
    have hDn : H D2 = none := by
      cases e : H D2 with
      | none => rfl
      | some ob =>
        by_cases c : D2 = l
        · subst c
          obtain ⟨_, _, _, h, _⟩ := w2
          rw [a15 _ _ h] at hD2
          cases hD2
        · rw [a15 _ _ (b2 D2 ob c e)] at hD2
          cases hD2
    refine q D2 _ _ _ (fun b ob n e => a16 _ _ (b2 b ob n e)) (w2.same a16) hDn upd_same ((hf.imp fun v st _ h => StpV.same a16 h).app (.cons ?_ .nil)) hls
    refine ⟨u, t, rfl, same_tk (a5.trans a6) _ _ (SqT.of upd_same), ?_⟩
    refine FrzT.same ?_ (a4.trans (a5.trans a6))
    refine ⟨o, ?_, ho⟩
    rw [upd_same, er]
  refine ⟨_, rfl, Nat.zero_le _, fun Z hZ => ?_⟩
  have sZ := same_new hZ (.lst [])
  have s0Z := s01.trans sZ
  have hGZ := sZ _ _ hG1
  have hDZ := sZ _ _ g1
  refine ⟨_, .list (([] : List Nat).map fun n : Nat => PyData.int (n : Int)), nums_dpL (SqL.of hDZ), nums_dpL (ns := []) (SqL.of upd_same), shaped_numsL ps, shaped_numsL [], _, rfl, ?_⟩
  rw [eqv_numsL]
  have nlD : l ≠ D := (hw.same sG).ne hD
  by_cases cp : ps = []
  · rw [decide_eq_true cp]
    refine iteF ?_
    refine ⟨_, rfl, ?_⟩
    refine ⟨_, rfl, (r.length : Int), rfl, ⟨by decide, by decide, by omega, by omega, by omega⟩, fun q1 hq1 => ⟨q1, _, rfl, SqL.of upd_same, fun q2 hq2 => ⟨q2, _, rfl, SqL.of upd_same, fun t o ht ho => ⟨(by show 2 ≤ sizeLine; decide), fun u hu => ⟨(by show 1 ≤ sizeLine; decide), fun M hM => ?_⟩⟩⟩⟩⟩
    have b5 := (same_new hq1 (.lst (rgV 0 (r.length : Int)))).trans ((same_new hq2 (.lst (rgV 0 (r.length : Int)).reverse)).trans ((same_new ht (.frz o (.tup (rgV 0 (r.length : Int)).reverse))).trans ((same_new hu (.tup [.str "order", .ref t])).trans (same_new hM (.lst [.ref u])))))
    refine ⟨G, M, _, _, rfl, rfl, b5 _ _ hGZ, upd_same, (by show 1 ≤ sizeLine; decide), fun D2 hD2 => ?_⟩
    exact last _ r.length [] [] (by omega) (fun b o _ e => s0Z _ _ e) (hw.same s0Z) hGZ .nil (by decide) (.inl rfl) q1 hq1 q2 hq2 t o ht ho u hu M hM D2 hD2
  · rw [decide_eq_false cp]
    refine iteT ?_
    have hpos : 0 < ps.length := List.length_pos_iff.mpr cp
    refine ⟨_, rfl, _, rfl, _, rfl, D, _, rfl, SqL.of hDZ, l, (ps.map vi).length, rfl, hw.same s0Z, by rw [List.length_map]; exact hpos, by rw [List.length_map]; omega, fun j H3 b3 w3 hj => ?_⟩
    rw [List.length_map] at hj
    have hD3 := b3 _ _ nlD.symm hDZ
    obtain ⟨n, hn1, hn2⟩ := k1 (ps.getD j 0) (by rw [List.getD_eq_getElem?_getD, List.getElem?_eq_getElem hj]; exact List.getElem_mem hj)
    refine ⟨D, ps, j, rfl, SqL.of hD3, rfl, hj, ?_⟩
    have tk3 : Tk K H H3 := (same_tk s0Z).trans ((hw.same s0Z).tk b3)
    have hG3 := b3 _ _ nlG.symm hGZ
    have hp : ps.getD j 0 < r.length := (List.getElem?_eq_some_iff.mp hn1).1
    have er : r.getD (ps.getD j 0) 0 = n := by rw [List.getD_eq_getElem?_getD, hn1]; rfl
    have hn200 := hr2 n (List.mem_of_getElem? hn1)
    refine ⟨_, rfl, .inl ⟨rfl, _, SqL.of hG3⟩, _, rfl, _, rfl, _, rfl, _, rfl, r, ps.getD j 0, ⟨ra, rfl, tk3 _ _ hra⟩, rfl, hp, l, n, by rw [er]; rfl, w3, hn2, by omega, fun sl H4 b4 w4 hsl => ?_⟩
    have hG4 := b4 _ _ nlG.symm hG3
    refine ⟨(by show 3 ≤ sizeLine; decide), fun t4 ht4 => ?_⟩
    have s5 := same_new ht4 (.tup [.str "open", vi (ps.getD j 0), vi sl])
    have hG5 := s5 _ _ hG4
    have b05 : ∀ b o, b ≠ l → H b = some o → (upd H4 t4 (.tup [.str "open", vi (ps.getD j 0), vi sl])) b = some o := fun b o nb e => s5 _ _ (b4 _ _ nb (b3 _ _ nb (s0Z _ _ e)))
    refine ⟨G, _, _, rfl, rfl, hG5, (by show 0 < sizeLine; decide), ?_⟩
    have nFG : F ≠ G := ne_of_none hF hG
    have hF6 : (upd (upd H4 t4 (.tup [.str "open", vi (ps.getD j 0), vi sl])) G (.lst ([] ++ [.ref t4]))) F = some (.lst (ks.map vi)) := by
      rw [upd_ne nFG]
      exact b05 _ _ nFl hF
    refine ⟨_, rfl, _, rfl, F, _, rfl, SqL.of hF6, r.length, (ks.map vi).length, rfl, rfl, r.length + (ks.map vi).length, 1, rfl, rfl, by rw [List.length_map]; omega, ?_⟩
    have em : r.length + (ks.map vi).length - 1 = r.length + (ks.length - 1) := by rw [List.length_map]; omega
    rw [em]
    refine ⟨_, rfl, ?_⟩
    refine ⟨_, rfl, ((r.length + (ks.length - 1) : Nat) : Int), rfl, ⟨by decide, by decide, by omega, by omega, by omega⟩, fun q1 hq1 => ⟨q1, _, rfl, SqL.of upd_same, fun q2 hq2 => ⟨q2, _, rfl, SqL.of upd_same, fun t o ht ho => ⟨(by show 2 ≤ sizeLine; decide), fun u hu => ⟨(by show 1 ≤ sizeLine; decide), fun M hM => ?_⟩⟩⟩⟩⟩
    have hG6 : (upd (upd H4 t4 (.tup [.str "open", vi (ps.getD j 0), vi sl])) G (.lst ([] ++ [.ref t4]))) G = some (.lst [.ref t4]) := upd_same
    have b5 := (same_new hq1 (.lst (rgV 0 ((r.length + (ks.length - 1) : Nat) : Int)))).trans ((same_new hq2 (.lst (rgV 0 ((r.length + (ks.length - 1) : Nat) : Int)).reverse)).trans ((same_new ht (.frz o (.tup (rgV 0 ((r.length + (ks.length - 1) : Nat) : Int)).reverse))).trans ((same_new hu (.tup [.str "order", .ref t])).trans (same_new hM (.lst [.ref u])))))
    refine ⟨G, M, _, _, rfl, rfl, b5 _ _ hG6, upd_same, (by show 2 ≤ sizeLine; decide), fun D2 hD2 => ?_⟩
    refine last _ (r.length + (ks.length - 1)) [.ref t4] [.opn (ps.getD j 0) sl] (by omega) (fun b o nb e => ?_) ((w4.same s5).but (but_upd _) nlG) hG6 (.cons ⟨t4, rfl, ?_⟩ .nil) (by show 1 ≤ 10; decide) (.inr ⟨_, sl, n, hn1, hsl, rfl⟩) q1 hq1 q2 hq2 t o ht ho u hu M hM D2 hD2
    · rw [upd_ne (ne_of_none e hG)]
      exact b05 b o nb e
    · refine SqT.of ?_
      rw [upd_ne (ne_of_none hG4 ht4).symm]
      exact upd_same
end
end Bs
/-! The plain law of the turnings. -/
namespace Bs
open PySem PySem.Spec L2
theorem rr_mem {n m : Nat} : m ∈ (List.range n).reverse ↔ m < n := by rw [List.mem_reverse, List.mem_range]
theorem rr_len (n : Nat) : (List.range n).reverse.length = n := by rw [List.length_reverse, List.length_range]
theorem rr_nd (n : Nat) : (List.range n).reverse.Nodup := List.pairwise_reverse.mpr (List.nodup_range.imp fun h => h.symm)
theorem rr_at {n i : Nat} (h : i < n) : (List.range n).reverse[i]? = some (n - 1 - i) := by
  rw [List.getElem?_reverse (by rw [List.length_range]; exact h), List.length_range, List.getElem?_range (by omega)]
theorem idx_nd {l : List Nat} (hn : l.Nodup) {i m : Nat} (h : l[i]? = some m) : l.idxOf m = i := by
  have hi := (List.getElem?_eq_some_iff.mp h).1
  have e := (List.getElem?_eq_some_iff.mp h).2
  have hm : m ∈ l := by rw [← e]; exact List.getElem_mem hi
  have hlt := List.idxOf_lt_length_of_mem hm
  have e2 : l[l.idxOf m] = m := List.getElem_idxOf hlt
  rcases Nat.lt_trichotomy (l.idxOf m) i with c | c | c
  · exact absurd (e2.trans e.symm) (List.pairwise_iff_getElem.mp hn _ _ hlt hi c)
  · exact c
  · exact absurd (e.trans e2.symm) (List.pairwise_iff_getElem.mp hn _ _ hi hlt c)
theorem rr_idx {n m : Nat} (h : m < n) : (List.range n).reverse.idxOf m = n - 1 - m := by
  refine idx_nd (rr_nd n) ?_
  rw [rr_at (by omega)]
  congr 1
  omega
theorem mv_rr (ks : List Nat) {n : Nat} {x : Thg} (h : x.1 < n) : mv ks (.ord (List.range n).reverse) x = rev n x := by
  show ((List.range n).reverse.idxOf x.1, x.2) = (n - 1 - x.1, x.2)
  rw [rr_idx h]
theorem undo_rr (n : Nat) : undo (.ord (List.range n).reverse) = .ord (List.range n).reverse := by
  show Stp.ord ((List.range (List.range n).reverse.length).map fun m => (List.range n).reverse.idxOf m) = _
  rw [rr_len]
  congr 1
  refine List.ext_getElem? fun i => ?_
  by_cases hi : i < n
  · rw [List.getElem?_map, List.getElem?_range hi, rr_at hi]
    show some ((List.range n).reverse.idxOf i) = _
    rw [rr_idx hi]
  · rw [List.getElem?_eq_none (by rw [List.length_map, List.length_range]; omega), List.getElem?_eq_none (by rw [rr_len]; omega)]
theorem aft_rr (ks r : List Nat) : aft ks r (.ord (List.range r.length).reverse) = r.reverse := by
  show ((List.range r.length).reverse.map fun q => r.getD q 0) = r.reverse
  rw [List.map_reverse]
  congr 1
  refine List.ext_getElem? fun i => ?_
  by_cases hi : i < r.length
  · rw [List.getElem?_map, List.getElem?_range hi]
    show some (r.getD i 0) = _
    rw [List.getD_eq_getElem?_getD, List.getElem?_eq_getElem hi]
    rfl
  · rw [List.getElem?_eq_none (by rw [List.length_map, List.length_range]; omega), List.getElem?_eq_none (by omega)]
theorem stok_rr (r : List Nat) : StOk r (.ord (List.range r.length).reverse) := ⟨rr_len _, rr_nd _, fun q hq => rr_mem.mp hq⟩
theorem rack_rev {r : List Nat} (h : RackOk r) : RackOk r.reverse := ⟨by rw [List.length_reverse]; exact h.1, fun f hf => h.2 f (List.mem_reverse.mp hf)⟩
theorem un_rr (n : Nat) (h : n ≤ 1000) : ∀ ps, Stp.ord (List.range n).reverse = .ord ps → ps.Nodup ∧ ps.length ≤ 1000 ∧ ∀ m, m < ps.length → m ∈ ps := fun ps e => by
  have e2 : (List.range n).reverse = ps := Stp.ord.inj e
  subst e2
  exact ⟨rr_nd _, by rw [rr_len]; exact h, fun m hm => by rw [rr_len] at hm; exact rr_mem.mpr hm⟩
theorem opn_len (ks : List Nat) (p sl : Nat) (x : Thg) : (opn ks p sl x).2.length ≤ x.2.length := by
  unfold opn
  split
  · exact Nat.le_refl _
  · split
    · exact Nat.le_refl _
    · show (x.2.take _ ++ x.2.drop _).length ≤ _
      rw [List.length_append, List.length_take, List.length_drop]
      omega
theorem endr_one (ks r : List Nat) (a : Stp) : endr ks r [a] = aft ks r a := rfl
theorem endr_two (ks r : List Nat) (a b : Stp) : endr ks r [a, b] = aft ks (aft ks r a) b := rfl
theorem runs_one (ks : List Nat) (a : Stp) (x : Thg) : runs ks [a] x = mv ks a x := rfl
theorem runs_two (ks : List Nat) (a b : Stp) (x : Thg) : runs ks [a, b] x = mv ks b (mv ks a x) := rfl
theorem turn_ok {ks r : List Nat} {sts : List Stp} (k1 : 2 ≤ ks.length) (k2 : ks.length ≤ 5) (k3 : ∀ k ∈ ks, k ≤ 4) (r1 : r.length ≤ 16) (r2 : ∀ f ∈ r, f ≤ 8) (h : LStepsOk ks r sts) :
    sts.length ≤ 60 ∧ ChainOk ks r sts ∧ RackOk (endr ks r sts) ∧ UnOk sts ∧ ∀ x, IsThg ks r x → x.2.length ≤ 160 → RunOk ks sts x ∧ IsThg ks (endr ks r sts) (runs ks sts x) ∧ (runs ks sts x).2.length ≤ 160 ∧
      RunOk ks (sts.reverse.map undo) (runs ks sts x) ∧ runs ks (sts.reverse.map undo) (runs ks sts x) = x := by
  have ro : RackOk r := ⟨by omega, fun f hf => by have := r2 f hf; omega⟩
  rcases h with rfl | ⟨p, sl, n, hn, hsl, rfl⟩
  · have ea : aft ks r (.ord (List.range r.length).reverse) = r.reverse := aft_rr ks r
    refine ⟨(by show 1 ≤ 60; decide), ⟨stok_rr r, by rw [ea]; exact rack_rev ro, trivial⟩, ?_, ⟨un_rr _ (by omega), trivial⟩, fun x hx hl => ?_⟩
    · rw [endr_one, ea]
      exact rack_rev ro
    have hlt := hx.lt
    obtain ⟨g1, g2⟩ := rev_ok hx
    have er : runs ks [.ord (List.range r.length).reverse] x = rev r.length x := mv_rr ks hlt
    have eb : ([Stp.ord (List.range r.length).reverse].reverse.map undo) = [.ord (List.range r.length).reverse] := by
      show [undo (.ord (List.range r.length).reverse)] = _
      rw [undo_rr]
    have hlt2 : (rev r.length x).1 < r.length := by
      show r.length - 1 - x.1 < r.length
      omega
    refine ⟨⟨rr_mem.mpr hlt, trivial⟩, ?_, ?_, ?_, ?_⟩
    · rw [er, endr_one, ea]
      exact g1
    · rw [er]; exact hl
    · rw [er, eb]
      exact ⟨rr_mem.mpr hlt2, trivial⟩
    · rw [er, eb, runs_one, mv_rr ks hlt2]
      exact g2
  · have hp : p < r.length := (List.getElem?_eq_some_iff.mp hn).1
    have er0 : r.getD p 0 = n := by rw [List.getD_eq_getElem?_getD, hn]; rfl
    have hn8 : n ≤ 8 := r2 n (List.mem_of_getElem? hn)
    have hlen : (opnR ks r p).length = r.length + (ks.length - 1) := opnR_len (by omega) hp
    have ro2 : RackOk (opnR ks r p) := by
      refine ⟨by omega, fun f hf => ?_⟩
      unfold opnR at hf
      rcases List.mem_append.mp hf with hf | hf
      · rcases List.mem_append.mp hf with hf | hf
        · have := r2 f (List.mem_of_mem_take hf); omega
        · obtain ⟨k, hk, rfl⟩ := List.mem_map.mp hf
          have := k3 k hk
          omega
      · have := r2 f (List.mem_of_mem_drop hf); omega
    have ea : aft ks (opnR ks r p) (.ord (List.range (r.length + (ks.length - 1))).reverse) = (opnR ks r p).reverse := by
      rw [← hlen]
      exact aft_rr ks _
    refine ⟨(by show 2 ≤ 60; decide), ⟨⟨n, hn, hsl⟩, ro2, ?_, ?_, trivial⟩, ?_, ⟨(fun ps e => by cases e), un_rr _ (by omega), trivial⟩, fun x hx hl => ?_⟩
    · show StOk (opnR ks r p) _
      rw [← hlen]
      exact stok_rr _
    · show RackOk (aft ks (opnR ks r p) (.ord (List.range (r.length + (ks.length - 1))).reverse))
      rw [ea]
      exact rack_rev ro2
    · rw [endr_two]
      show RackOk (aft ks (opnR ks r p) (.ord (List.range (r.length + (ks.length - 1))).reverse))
      rw [ea]
      exact rack_rev ro2
    obtain ⟨g1, g2⟩ := opn_ok (by omega) hn hsl hx
    have hlt := g1.lt
    have hlt' : (opn ks p sl x).1 < r.length + (ks.length - 1) := by omega
    obtain ⟨g3, g4⟩ := rev_ok g1
    rw [hlen] at g3 g4
    have el := opn_len ks p sl x
    have er : runs ks [.opn p sl, .ord (List.range (r.length + (ks.length - 1))).reverse] x = rev (r.length + (ks.length - 1)) (opn ks p sl x) := mv_rr ks hlt'
    have eb : ([Stp.opn p sl, .ord (List.range (r.length + (ks.length - 1))).reverse].reverse.map undo) = [.ord (List.range (r.length + (ks.length - 1))).reverse, .cls p sl] := by
      show [undo (.ord (List.range (r.length + (ks.length - 1))).reverse), .cls p sl] = _
      rw [undo_rr]
    have hlt2 : (rev (r.length + (ks.length - 1)) (opn ks p sl x)).1 < r.length + (ks.length - 1) := by
      show r.length + (ks.length - 1) - 1 - (opn ks p sl x).1 < _
      omega
    have eback : mv ks (.ord (List.range (r.length + (ks.length - 1))).reverse) (rev (r.length + (ks.length - 1)) (opn ks p sl x)) = opn ks p sl x := by
      rw [mv_rr ks hlt2]
      exact g4
    refine ⟨⟨⟨by omega, fun e => ?_⟩, rr_mem.mpr hlt', trivial⟩, ?_, ?_, ?_, ?_⟩
    · obtain ⟨nx, h1, h2⟩ := hx
      rw [e, hn] at h1
      cases h1
      exact ⟨n, h2, hsl, by omega⟩
    · rw [er, endr_two]
      show IsThg ks (aft ks (opnR ks r p) (.ord (List.range (r.length + (ks.length - 1))).reverse)) _
      rw [ea]
      exact g3
    · rw [er]
      show (opn ks p sl x).2.length ≤ 160
      omega
    · rw [er, eb]
      refine ⟨rr_mem.mpr hlt2, ?_, trivial⟩
      rw [eback]
      refine ⟨by omega, fun c1 c2 => ?_⟩
      obtain ⟨nx, h1, h2⟩ := g1
      have hm : (opn ks p sl x).1 - p < ks.length := by omega
      have h3 := opnR_at_in (ks := ks) hm hp
      have e1 : p + ((opn ks p sl x).1 - p) = (opn ks p sl x).1 := by omega
      rw [e1, h1] at h3
      have h4 := Option.some.inj h3
      have h5 : ks.getD ((opn ks p sl x).1 - p) 0 ≤ 4 := by
        rw [List.getD_eq_getElem?_getD, List.getElem?_eq_getElem hm]
        exact k3 _ (List.getElem_mem hm)
      exact ⟨nx, h2, by omega, by omega⟩
    · rw [er, eb, runs_two, eback]
      exact g2
/-- the rows of the spots are short -/
theorem spot_short {ks : List Nat} {ts : List (List Nat)} {s : Shp} (ht : TsOk ks ts) (hs : s.deep ≤ 4) {x : Thg} (hx : x ∈ spots ts (rk s)) : x.2.length ≤ 160 ∧ IsThg ks (rk s) x := by
  obtain ⟨n, e, hr⟩ := mem_spots.mp hx
  have h1 := rowsN_sh ht.sh n x.2 hr
  have h2 := (rk_small hs).2 n (List.mem_of_getElem? e)
  exact ⟨by omega, n, e, rowsN_rows ht.tr n x.2 hr⟩
end Bs
/-! The walk: the law. -/
namespace Bs
open PySem PySem.Spec L2
theorem of_test {c : TT} {σ : L2.St} {H : Hp} {Q : Bool → Hp → Prop} (R : Bool → Hp → Prop) (h1 : ∀ Q' : Bool → Hp → Prop, (∀ b H7, R b H7 → Q' b H7) → c σ H Q') (h2 : ∀ b H7, R b H7 → Q b H7) : c σ H Q := h1 Q h2
theorem not_well {K : PySem.W.Frag} {H : Hp} {l I : Addr} {zi : List V} {A : List Itm} (h : WellAt H l) (hI : H I = some (.lst zi)) (f : Fits (fun v i => ItV K H i v) zi A) : I ≠ l := by
  rintro rfl
  obtain ⟨x, y, z, h, _⟩ := h
  rw [h] at hI
  cases hI
  cases f with
  | @cons v b vs bs a _ =>
    cases b with
    | unit => obtain ⟨_, e, _⟩ := a; cases e
    | tr t => obtain ⟨_, e, _⟩ := a; cases e
    | lf i => obtain ⟨_, _, e, _⟩ := a; cases e
    | rt i => obtain ⟨_, _, e, _⟩ := a; cases e
    | pr i j => obtain ⟨_, _, _, e, _⟩ := a; cases e
theorem ts_tail {ks t : List Nat} {ts : List (List Nat)} (h : TsOk ks (t :: ts)) : TsOk ks ts :=
  ⟨by have := h.le; simp at this; omega, fun x hx => h.tr x (List.mem_cons_of_mem _ hx), fun x hx => h.sh x (List.mem_cons_of_mem _ hx), (List.nodup_cons.mp h.nd).2⟩
theorem ks_len {ks : List Nat} {K : PySem.W.Frag} {C x l : Addr} {H : Hp} (h : KindAt K C H x l ks) : ∀ k ∈ ks, k ≤ 4 := by
  obtain ⟨_, _, _, _, _, _, _, _, _, h3⟩ := h
  exact h3
theorem rk_bd {s : Shp} (h : s.deep ≤ 4) : (rk s).length ≤ 1000 ∧ ∀ f ∈ rk s, f ≤ 200 := rack_ok h
section
variable {P : Program} {w : World} {K : PySem.W.Frag} {mg : Str → Option Value} {base : Heap}
def sp_law (K : PySem.W.Frag) : Sp := fun vs H Q _ => ∃ (a : Addr) (ns : List Int), vs = [.ref a] ∧ SqL K H a (ns.map V.int) ∧ ns.length ≤ 63 ∧ ∀ H', Q (.bl true) H'
theorem sc_law : FnScope ["_law_script", "_law_cell", "_law_well_here", "_law_within_here", "_law_house_here", "_law_plan_here", "_law_trees_here", "_law_rack", "_law_items", "_law_item", "_law_spots_here", "_law_spot", "_law_turning", "_law_ends", "_law_end"] ["_law_script"] (defScope s_law) := ⟨rfl, rfl, rfl, by decide +kernel, rfl, by decide +kernel, by decide +kernel⟩
theorem ok_law (T : Tp w K mg) : FnOk P w K mg base CX0 15 T.d_law.f T.d_law.fd ["_law_script"] (sp_law K) := by
  refine T.d_law.F.ok sc_law (fun vs H Q E h => ?_) (fun cdv A0 outer s H vs Q E hr h => ?_)
  · obtain ⟨_, _, rfl, _⟩ := h
    rfl
  obtain ⟨a, ns, rfl, hS, h63, q⟩ := h
  have hu65 := hu65 hr
  refine ⟨_, (pss_cons (ps_for PassesOwn.never rfl (pi_list (pe_op op_cat (pe_lst (pa_cons pe_int pa_nil)) (pe_slice sl_list (pv 0) po_none (po_some pe_int)))) (pg_name (i := 1) sc_law.nd rfl (Or.inl rfl))
    (pss_cons (ps_set (i := 2) sc_law.nd rfl (Or.inl rfl) (pe_call (ok__law_well T) (hr.mono (by omega)) (by rfl) T.d__law_well.m T.d__law_well.F.kp T.d__law_well.b .nil pass0 (pa_cons (pv 1) pa_nil)))
    (pss_cons (ps_set (i := 3) sc_law.nd rfl (Or.inl rfl) (pe_call (ok__law_within T) (hr.mono (by omega)) (by rfl) T.d__law_within.m T.d__law_within.F.kp T.d__law_within.b .nil pass0 (pa_cons (pv 2) pa_nil)))
    (pss_cons (ps_set (i := 4) sc_law.nd rfl (Or.inr rfl) (pe_call (ok__law_house T) (hr.mono (by omega)) (by rfl) T.d__law_house.m T.d__law_house.F.kp T.d__law_house.b .nil pass0 (pa_cons (pv 3) pa_nil)))
    (pss_cons (ps_set (i := 5) sc_law.nd rfl (Or.inr rfl) (pe_call (ok__law_plan T 4) (hr.mono (by omega)) (by rfl) T.d__law_plan.m T.d__law_plan.F.kp T.d__law_plan.b .nil pass0 (pa_cons (pv 2) (pa_cons pe_int pa_nil))))
    (pss_cons (ps_set (i := 6) sc_law.nd rfl (Or.inl rfl) (pe_call (ok__law_trees T) (hr.mono (by omega)) (by rfl) T.d__law_trees.m T.d__law_trees.F.kp T.d__law_trees.b .nil pass0 (pa_cons (pv 2) (pa_cons (pv 3) pa_nil))))
    (pss_cons (ps_while PassesOwn.never (PW.pt (pw_and (pt_cmpR op_gtN (pe_callB call_lenL (by rfl) T.n_len PySem.boot_len (pa_cons (pv 6) pa_nil)) pe_int (nomark _)) (pw_and1 (pt_cmpR op_gtN (pe_call (ok__law_count T 4) (hr.mono (by omega)) (by rfl) T.d__law_count.m T.d__law_count.F.kp T.d__law_count.b .nil pass0 (pa_cons (pv 5) (pa_cons (pe_callB call_lenL (by rfl) T.n_len PySem.boot_len (pa_cons (pv 6) pa_nil)) pa_nil))) pe_int (nomark _)))))
    (pss_one (ps_expr (pe_bm PySem.F.plainAttrs_list PySem.F.slot_list_pop PySem.F.type_list_pop mt_popAt (pv 6) (pa_cons pe_int pa_nil)))))
    (pss_cons (ps_set (i := 7) sc_law.nd rfl (Or.inl rfl) (pe_call (ok_flat_of T) (hr.mono (by omega)) (by rfl) T.d_flat_of.m T.d_flat_of.F.kp T.d_flat_of.b .nil pass0 (pa_cons (pv 5) pa_nil)))
    (pss_cons (ps_set (i := 8) sc_law.nd rfl (Or.inl rfl) (pe_call (ok__law_all T 4) (hr.mono (by omega)) (by rfl) T.d__law_all.m T.d__law_all.F.kp T.d__law_all.b .nil pass0 (pa_cons (pv 5) (pa_cons (pv 6) pa_nil))))
    (pss_cons (ps_setLc (i := 10) (own := [("_law_item", 9)]) rfl sc_law.nd rfl rfl (sw_true rfl rfl rfl (by decide +kernel)) (pi_list (pv 8)) (blkOk_by (N := ["_law_script", "_law_cell", "_law_well_here", "_law_within_here", "_law_house_here", "_law_plan_here", "_law_trees_here", "_law_rack", "_law_items", "_law_item", "_law_spots_here", "_law_spot", "_law_turning", "_law_ends", "_law_end"]) (sc := defScope s_law) (own := [("_law_item", 9)]) (by decide +kernel)) (fun _ _ _ _ _ => (pg_name (i := 9) sc_law.nd rfl (Or.inl rfl))) (fun _ _ _ _ _ => pts_nil) (fun _ _ _ _ _ => (pe_call (ok_flattened T) (hr.mono (by omega)) (by rfl) T.d_flattened.m T.d_flattened.F.kp T.d_flattened.b .nil pass0 (pa_cons (pv 4) (pa_cons (pv 5) (pa_cons (pv 9) pa_nil))))))
    (pss_cons (ps_if (PW.pt (pw_or (pt_cmpR op_neN (pe_lenSetK hr.units (by rfl) T.n_len (by rfl) T.n_set (pv 10)) (pe_callB call_lenL (by rfl) T.n_len PySem.boot_len (pa_cons (pv 8) pa_nil)) (nomark _)) (pw_or1 (pt_cmpR (op_neD hr.units) (pe_callB (cr_sortK hr.units) (by rfl) T.n_sorted (by decide +kernel) (pa_cons (pv 10) pa_nil)) (pe_callB (cr_sortK hr.units) (by rfl) T.n_sorted (by decide +kernel) (pa_cons (pe_call (ok__law_spots T) (hr.mono (by omega)) (by rfl) T.d__law_spots.m T.d__law_spots.F.kp T.d__law_spots.b .nil pass0 (pa_cons (pv 7) (pa_cons (pv 6) pa_nil))) pa_nil)) (nomark _))))) (pss_one (ps_ret pe_bl)) pss_nil)
    (pss_cons (ps_if (pt_cmpR (op_neD hr.units) (pe_lc (own := [("_law_spot", 11)]) rfl sc_law.nd (pi_list (pv 10)) (blkOk_by (N := ["_law_script", "_law_cell", "_law_well_here", "_law_within_here", "_law_house_here", "_law_plan_here", "_law_trees_here", "_law_rack", "_law_items", "_law_item", "_law_spots_here", "_law_spot", "_law_turning", "_law_ends", "_law_end"]) (sc := defScope s_law) (own := [("_law_spot", 11)]) (by decide +kernel)) (fun _ _ _ _ _ => (pg_name (i := 11) sc_law.nd rfl (Or.inl rfl))) (fun _ _ _ _ _ => pts_nil) (fun _ _ _ _ _ => (pe_ix (ix_tupNK (K := K) rfl) (pv 11) pe_int (fun _ _ => rfl)))) (pe_lc (own := [("_law_item", 9)]) rfl sc_law.nd (pi_list (pv 8)) (blkOk_by (N := ["_law_script", "_law_cell", "_law_well_here", "_law_within_here", "_law_house_here", "_law_plan_here", "_law_trees_here", "_law_rack", "_law_items", "_law_item", "_law_spots_here", "_law_spot", "_law_turning", "_law_ends", "_law_end"]) (sc := defScope s_law) (own := [("_law_item", 9)]) (by decide +kernel)) (fun _ _ _ _ _ => (pg_name (i := 9) sc_law.nd rfl (Or.inl rfl))) (fun _ _ _ _ _ => pts_nil) (fun _ _ _ _ _ => (pe_call (ok__law_signs T 4) (hr.mono (by omega)) (by rfl) T.d__law_signs.m T.d__law_signs.F.kp T.d__law_signs.b .nil pass0 (pa_cons (pv 5) (pa_cons (pv 9) pa_nil))))) (nomark _)) (pss_one (ps_ret pe_bl)) pss_nil)
    (pss_cons (ps_for PassesOwn.never rfl (pi_list (pe_call (ok__law_spots T) (hr.mono (by omega)) (by rfl) T.d__law_spots.m T.d__law_spots.F.kp T.d__law_spots.b .nil pass0 (pa_cons (pv 7) (pa_cons (pv 6) pa_nil)))) (pg_name (i := 11) sc_law.nd rfl (Or.inl rfl))
    (pss_cons (ps_set (i := 9) sc_law.nd rfl (Or.inl rfl) (pe_call (ok_folded T) (hr.mono (by omega)) (by rfl) T.d_folded.m T.d_folded.F.kp T.d_folded.b .nil pass0 (pa_cons (pv 4) (pa_cons (pv 5) (pa_cons (pv 11) pa_nil)))))
    (pss_one (ps_if (PW.pt (pw_or (pt_cmpR (op_notInD hu65) (pv 9) (pv 8) (by with_unfolding_all rfl)) (pw_or1 (pt_cmpR (op_neD hr.units) (pe_call (ok_flattened T) (hr.mono (by omega)) (by rfl) T.d_flattened.m T.d_flattened.F.kp T.d_flattened.b .nil pass0 (pa_cons (pv 4) (pa_cons (pv 5) (pa_cons (pv 9) pa_nil)))) (pv 11) (nomark _))))) (pss_one (ps_ret pe_bl)) pss_nil))))
    (pss_cons (ps_set (i := 12) sc_law.nd rfl (Or.inr rfl) (pe_make T.mk_Turning (ok_Turning___init__ T) (hr.mono (by omega)) (by rfl) T.mg_Turning T.d_Turning___init__.b .nil pass0 (pa_cons (pv 4) (pa_cons (pv 7) (pa_cons (pe_call (ok__law_steps T) (hr.mono (by omega)) (by rfl) T.d__law_steps.m T.d__law_steps.F.kp T.d__law_steps.b .nil pass0 (pa_cons (pv 2) (pa_cons (pv 3) (pa_cons (pv 7) pa_nil)))) pa_nil)))))
    (pss_cons (ps_setLc (i := 13) (own := [("_law_spot", 11)]) rfl sc_law.nd rfl rfl (sw_true rfl rfl rfl (by decide +kernel)) (pi_list (pv 10)) (blkOk_by (N := ["_law_script", "_law_cell", "_law_well_here", "_law_within_here", "_law_house_here", "_law_plan_here", "_law_trees_here", "_law_rack", "_law_items", "_law_item", "_law_spots_here", "_law_spot", "_law_turning", "_law_ends", "_law_end"]) (sc := defScope s_law) (own := [("_law_spot", 11)]) (by decide +kernel)) (fun _ _ _ _ _ => (pg_name (i := 11) sc_law.nd rfl (Or.inl rfl))) (fun _ _ _ _ _ => pts_nil) (fun _ _ _ _ _ => (pe_meth (pv 12) T.cl_Turning T.d_Turning_run.me (ok_Turning_run T) (hr.mono (by omega)) T.d_Turning_run.b .nil pass0 (pa_cons (pv 11) pa_nil))))
    (pss_cons (ps_if (pt_cmpR op_neN (pe_lenSetK hr.units (by rfl) T.n_len (by rfl) T.n_set (pv 13)) (pe_callB call_lenL (by rfl) T.n_len PySem.boot_len (pa_cons (pv 8) pa_nil)) (nomark _)) (pss_one (ps_ret pe_bl)) pss_nil)
    (pss_one (ps_if (pt_cmpR (op_neD hr.units) (pe_lc (own := [("_law_end", 14)]) rfl sc_law.nd (pi_list (pv 13)) (blkOk_by (N := ["_law_script", "_law_cell", "_law_well_here", "_law_within_here", "_law_house_here", "_law_plan_here", "_law_trees_here", "_law_rack", "_law_items", "_law_item", "_law_spots_here", "_law_spot", "_law_turning", "_law_ends", "_law_end"]) (sc := defScope s_law) (own := [("_law_end", 14)]) (by decide +kernel)) (fun _ _ _ _ _ => (pg_name (i := 14) sc_law.nd rfl (Or.inl rfl))) (fun _ _ _ _ _ => pts_nil) (fun _ _ _ _ _ => (pe_call (ok_folded T) (hr.mono (by omega)) (by rfl) T.d_folded.m T.d_folded.F.kp T.d_folded.b .nil pass0 (pa_cons (pv 4) (pa_cons (pv 5) (pa_cons (pe_meth (pv 12) T.cl_Turning T.d_Turning_back.me (ok_Turning_back T) (hr.mono (by omega)) T.d_Turning_back.b .nil pass0 (pa_cons (pv 14) pa_nil)) pa_nil)))))) (pv 8) (nomark _)) (pss_one (ps_ret pe_bl)) pss_nil))))))))))))))))))
    (pss_one (ps_ret pe_bl))), ?_⟩
  refine ⟨(by show 1 ≤ sizeLine; decide), fun p0 hp0 => ?_⟩
  have s0 := same_new hp0 (.lst [V.int 0])
  refine ⟨_, rfl, _, rfl, a, _, rfl, s0.seq hS, fun p1 hp1 => ?_⟩
  have hcl : ((ns.map V.int).length : Nat) = ns.length := List.length_map _
  have hcut := cutV_length (ns.map V.int) none (some 4)
  refine ⟨p0, p1, _, _, rfl, rfl, same_new hp1 _ _ _ upd_same, upd_same, sz (by rw [List.length_singleton]; omega), fun p2 hp2 => ?_⟩
  have hint : ∀ (i : Nat) (y : V), ([V.int 0] ++ cutV (ns.map V.int) none (some 4))[i]? = some y → ∃ c : Int, y = V.int c := by
    intro i y h
    have hm := List.mem_of_getElem? h
    rcases List.mem_append.mp hm with hm | hm
    · exact ⟨0, List.mem_singleton.mp hm⟩
    · unfold cutV at hm
      obtain ⟨c, _, e⟩ := List.mem_map.mp (List.mem_of_mem_drop (List.mem_of_mem_take hm))
      exact ⟨c, e.symm⟩
  generalize hcells : [V.int 0] ++ cutV (ns.map V.int) none (some 4) = cells at hint
  generalize upd (upd H p0 (.lst [V.int 0])) p1 (.lst (cutV (ns.map V.int) none (some 4))) = H0 at hp2
  refine ⟨p2, rfl, ⟨_, SqL.of upd_same⟩, for_it (walk_list (xs := cells)) (fun i σ H' => ∃ (u1 u2 u3 u4 u5 u6 u7 u8 u9 u10 u11 u12 u13 u14 : Option V), σ = [some (.ref a), u1, u2, u3, u4, u5, u6, u7, u8, u9, u10, u11, u12, u13, u14] ∧ H' p2 = some (.lst cells))
    ⟨none, none, none, none, none, none, none, none, none, none, none, none, none, none, rfl, by rw [upd_same]⟩ (fun i σ H' _ ⟨_, _, _, _, _, _, _, _, _, _, _, _, _, _, _, h⟩ => SqL.of h) ?_ ?_⟩
  rotate_left
  · rintro σ H' ⟨_, _, _, _, _, _, _, _, _, _, _, _, _, _, rfl, _⟩
    exact q _
  rintro i y σ Hc Hc' hi ⟨u1, u2, u3, u4, u5, u6, u7, u8, u9, u10, u11, u12, u13, u14, rfl, hp2c⟩ ⟨rfl, hy⟩
  obtain ⟨c, rfl⟩ := hint i y hy
  refine ⟨_, rfl, c, rfl, fun l H1 s1 hl w1 => ?_⟩
  refine ⟨_, rfl, l, rfl, w1, fun F ks H2 b2 hF w2 hF2 ok => ?_⟩
  have nlF := w1.ne hF
  have t2 : Same Hc' H2 := fun b o e => b2 _ _ (ne_of_none e hl) (s1 _ _ e)
  refine ⟨_, rfl, F, ks, rfl, hF2, ok, fun x kl H3 s3 hk3 hx hkl => ?_⟩
  have w3 := w2.same s3
  have nlk := w2.ne hkl
  have hF3 := s3 _ _ hF2
  refine ⟨_, rfl, l, rfl, by decide, w3, fun pv sh H4 b4 w4 hsh4 hdeep => ?_⟩
  obtain ⟨wx3, wy3, wz3, hl3, _⟩ := id w3
  have hk4 := hk3.but b4 hl3 nlk.symm
  have hF4 := b4 _ _ nlF.symm hF3
  have t4 : Same Hc' H4 := fun b o e => b4 _ _ (ne_of_none e hl) (s3 _ _ (t2 _ _ e))
  refine ⟨_, rfl, _, rfl, l, F, ks, rfl, w4, hF4, nlF.symm, ok, fun L ys ts0 H5 b5 w5 hL hL5 hf5 hts0 hts3 => ?_⟩
  obtain ⟨wx4, wy4, wz4, hl4, _⟩ := id w4
  have nlL := w4.ne hL
  have hk5 := hk4.but b5 hl4 nlk.symm
  have hF5 := b5 _ _ nlF.symm hF4
  have hsh5 := ShV.tk (b5.tk hl4) hsh4
  have t5 : Same Hc' H5 := fun b o e => b5 _ _ (ne_of_none e hl) (t4 _ _ e)
  have tL : ∀ b o, Hc' b = some o → b ≠ L := fun b o e => ne_of_none (t4 _ _ e) hL
  have nkL : kl ≠ L := by
    obtain ⟨_, _, _, _, h, _⟩ := hk4
    exact ne_of_none h hL
  have nFL : F ≠ L := ne_of_none hF4 hL
  refine ⟨fun m σ H' => ∃ (zs : List V) (ts : List (List Nat)), σ = [some (.ref a), some (.int c), some (.ref l), some (.ref F), some (.ref x), some pv, some (.ref L), u7, u8, u9, u10, u11, u12, u13, u14] ∧ m = ts.length ∧ 1 ≤ ts.length ∧ But L H5 H' ∧ H' L = some (.lst zs) ∧ Fits (NumsV K H') zs ts ∧ TsOk ks ts,
    ⟨_, ys, ts0, rfl, rfl, by omega, But.refl _ _, hL5, hf5, hts0⟩, ?_⟩
  rintro m σ H6 ⟨zs, ts, rfl, rfl, hts1, b6, hL6, hf6, hts⟩
  have tk6 : Tk K H5 H6 := b6.tk hL5
  have hsh6 := ShV.tk tk6 hsh5
  have hzl := hf6.len
  refine of_test (fun b H7 => Same H6 H7 ∧ (b = true → 1 < ts.length) ∧ (b = false → (all ts sh).length ≤ 60)) ?_ ?_
  · intro Q' hQ
    refine ⟨_, rfl, L, zs, rfl, SqL.of hL6, zs.length, 1, rfl, rfl, _, rfl, ?_⟩
    refine ite2 (fun cc => ?_) (fun cc => ?_)
    · have c1 : 1 < zs.length := of_decide_eq_true cc
      have hle := hts.le
      refine ⟨_, rfl, _, rfl, L, zs, rfl, SqL.of hL6, pv, sh, zs.length, rfl, hsh6, hdeep, hdeep, by omega, fun H7 s7 => ?_⟩
      refine ⟨cnt zs.length sh, 60, rfl, rfl, _, rfl, hQ _ _ ⟨s7, fun _ => by omega, fun h => ?_⟩⟩
      have := of_decide_eq_false h
      rw [all_len, ← hzl]
      omega
    · have c1 : ¬ 1 < zs.length := of_decide_eq_false (Bool.eq_false_iff.mpr cc)
      refine hQ _ _ ⟨Same.refl _, (fun h => by cases h), fun _ => ?_⟩
      have e1 : ts.length = 1 := by omega
      have := (rk_small hdeep).1
      rw [all_len, e1, cnt_one]
      omega
  rintro b H7 ⟨s7, hb1, hb2⟩
  cases b with
  | true =>
    refine iteT ⟨_, fun _ _ h => h, ?_⟩
    have h1 := hb1 rfl
    have hL7 := s7 _ _ hL6
    cases hf6 with
    | nil => simp at h1
    | @cons z t zs ts hz hf6 =>
      refine ⟨_, rfl, .inl ⟨rfl, _, SqL.of hL7⟩, L, _, 0, 0, z, rfl, rfl, hL7, by decide, by decide, ?_, rfl, ?_⟩
      · show seqIndex? 0 (zs.length + 1) = some 0
        unfold seqIndex?
        simp
      have tk : Tk K H6 (upd H7 L (.lst ((z :: zs).eraseIdx 0))) := (same_tk s7).trans ((but_upd _).tk hL7)
      refine ⟨_, Nat.lt_succ_self _, zs, ts, rfl, rfl, by simp at h1; omega, (b6.trans (same_but s7)).trans (but_upd _), upd_same, hf6.imp fun v b _ h => h.tk tk, ts_tail hts⟩
  | false =>
  refine iteF ?_
  have hA60 := hb2 rfl
  clear hb1 hb2
  have b7 : But L H5 H7 := b6.trans (same_but s7)
  have hL7 := s7 _ _ hL6
  have hf7 := hf6.imp (Bt := NumsV K H7) fun v t _ h => h.tk (same_tk s7)
  have hsh7 := ShV.tk (same_tk s7) hsh6
  have hk7 := hk5.but b7 hL5 nkL
  have w7 := w5.but b7 nlL
  have hF7 := b7 _ _ nFL hF5
  have t7 : Same Hc' H7 := fun b o e => b7 _ _ (tL b o e) (t5 _ _ e)
  have hkl := hk7.len
  have hk4' := ks_len hk7
  have hof := all_of hts.tr sh
  have hshort : ∀ j ∈ all ts sh, (flt sh j).2.length ≤ 160 ∧ IsThg ks (rk sh) (flt sh j) := fun j hj => spot_short hts hdeep ((flat_mem (flt sh j) sh).mp ⟨j, hj, rfl⟩)
  have hnd := flats_nodup hts.tr hts.nd sh
  have hpm := flats_perm hts.tr hts.nd sh
  clear b6 tk6 hsh6 hf6 hL6 hsh5 hf5 hL5 hk5 w5 hF5
  refine ⟨_, rfl, pv, sh, rfl, hsh7, hdeep, fun rv Hb sb hrv => ?_⟩
  refine ⟨_, rfl, _, rfl, pv, sh, L, zs, ts, rfl, ShV.tk (same_tk sb) hsh7, hdeep, hdeep, sb _ _ hL7, hf7.imp (fun v t _ h => h.tk (same_tk sb)), hts.le, fun I zi Hi si hI hfi => ?_⟩
  have s7i := sb.trans si
  refine ⟨_, rfl, I, rfl, ⟨_, SqL.of hI⟩, fun D hD => ?_⟩
  have hshi := ShV.tk (same_tk s7i) hsh7
  have hki := hk7.same s7i
  refine lc_vals (K := K) ((all ts sh).map (flt sh)) (ThV K) (fun _ _ _ _ t h => h.tk t) (by rw [List.length_map, ← hfi.len]; exact walk_list) (by rw [List.length_map]; omega) hD (fun H' e => SqL.of (e _ _ hI)) ?_ ?_
  · rintro i' xx yv H8 H8' hxx s8 ⟨rfl, hy⟩ N hN
    obtain ⟨j, hj, hvj⟩ := hfi.at_ hy
    rw [List.getElem?_map, hj] at hxx
    cases hxx
    have hjm := List.mem_of_getElem? hj
    have := (hshort j hjm).1
    exact ⟨rfl, _, rfl, _, rfl, _, rfl, x, kl, ks, _, _, sh, j, rfl, hki.same s8, ShV.tk (same_tk s8) hshi, ItV.tk (same_tk s8) hvj, hof j hjm, hdeep, by omega, fun u9 H9 s9 h9 => hN _ _ s9 h9⟩
  intro zp H8 k1 k2 k3
  have s78 := s7i.trans k2
  have hI8 := k2 _ _ hI
  have hfi8 := hfi.imp (Bt := fun v i => ItV K H8 i v) fun v i _ h => ItV.tk (same_tk k2) h
  have hlenp : zp.length = (all ts sh).length := by rw [k3.len, List.length_map]
  have hleni : zi.length = (all ts sh).length := hfi.len
  obtain ⟨kk, ezp, ekk, hkk⟩ := k3.addrs
  have hkl60 : kk.length ≤ 60 := by
    have := congrArg List.length ekk
    rw [List.length_map, List.length_map] at this
    omega
  have hkl2 : kk.length = zi.length := by
    have := congrArg List.length ekk
    rw [List.length_map, List.length_map] at this
    omega
  have hD8 : SqL K H8 D (kk.map fun p => V.ref p.1) := SqL.of (by rw [k1, ezp])
  refine ⟨_, rfl, D, kk, rfl, hD8, hkk, by omega, by rw [ekk]; exact hnd, ?_⟩
  refine ⟨_, rfl, I, zi, rfl, SqL.of hI8, kk.length, zi.length, rfl, rfl, _, rfl, ?_⟩
  rw [decide_eq_true hkl2]
  refine iteF ?_
  refine ⟨_, rfl, D, kk, rfl, hD8, hkk, by omega, fun p9 ls hp9 hls els => ?_⟩
  have s9 := same_new hp9 (.lst (ls.map fun p => V.ref p.1))
  have s79 := s78.trans s9
  refine ⟨_, rfl, _, rfl, rv, rk sh, L, zs, ts, rfl, hrv.tk (same_tk (si.trans (k2.trans s9))), (rk_small hdeep).1, (rk_small hdeep).2, s79 _ _ hL7, hf7.imp (fun v t _ h => h.tk (same_tk s79)), hts.le, hts.sh, fun D2 z2 H10 s10 g10 f10 => ?_⟩
  obtain ⟨k2k, ez2, ek2, hk2k⟩ := f10.addrs
  have hlp := hpm.length_eq
  rw [List.length_map] at hlp
  have hk2l : k2k.length ≤ 60 := by
    have := congrArg List.length ek2
    rw [List.length_map] at this
    omega
  refine ⟨D2, k2k, rfl, SqL.of (by rw [g10, ez2]), hk2k, by omega, fun p11 ls2 hp11 hls2 els2 => ?_⟩
  have s11 := same_new hp11 (.lst (ls2.map fun p => V.ref p.1))
  have s8_11 := s9.trans (s10.trans s11)
  have eqs : ls.map (·.2) = ls2.map (·.2) := by
    rw [els, els2, ekk, ek2]
    exact sort_perm hpm
  have ddp : ∀ (H : Hp) (p : Addr) (ls : List (Addr × Thg)), H p = some (.lst (ls.map fun p => V.ref p.1)) → (∀ q ∈ ls, ThAt K H q.1 q.2) → Dp K H (.ref p) (.list ((ls.map (·.2)).map thD)) := fun H p ls h1 h2 => .lst (SqL.of h1) (ls_dp (At := ThV K H) (fun v b h => ThV.dp h) (Fits.of_addrs h2))
  have d1 := ddp (upd H10 p11 (.lst (ls2.map fun p => V.ref p.1))) p9 ls (s11 _ _ (s10 _ _ upd_same)) fun q hq => (hls q hq).tk (same_tk s8_11)
  have d2 := ddp (upd H10 p11 (.lst (ls2.map fun p => V.ref p.1))) p11 ls2 upd_same fun q hq => (hls2 q hq).tk (same_tk s11)
  rw [eqs] at d1
  have sht : SeqAt.shaped (.list ((ls2.map (·.2)).map thD)) = true := shaped_list (f := thD) can_th _ fun b _ => by rw [depth_th]; decide
  refine ⟨_, _, d1, d2, sht, sht, ?_⟩
  rw [eqv_self sht]
  refine ⟨_, rfl, iteF ?_⟩
  have s7_11 := s78.trans s8_11
  clear d1 d2 sht ddp eqs els els2 hls hls2
  generalize hH11 : upd H10 p11 (.lst (ls2.map fun p => V.ref p.1)) = H11 at s8_11 s7_11
  clear hH11
  have hD11 := s8_11 _ _ k1
  have hI11 := s8_11 _ _ hI8
  have f3_11 := k3.imp (Bt := ThV K H11) fun v b _ h => h.tk (same_tk s8_11)
  have fi_11 := hfi8.imp (Bt := fun v i => ItV K H11 i v) fun v i _ h => ItV.tk (same_tk s8_11) h
  have hsh11 := ShV.tk (same_tk s7_11) hsh7
  refine ⟨_, rfl, D, rfl, ⟨_, SqL.of hD11⟩, fun E1 hE1 => ?_⟩
  refine lc_vals (K := K) ((all ts sh).map (sig sh)) (NumsV K) (fun _ _ _ _ t h => h.tk t) (by rw [List.length_map, ← hlenp]; exact walk_list) (by rw [List.length_map]; omega) hE1 (fun H' e => SqL.of (e _ _ hD11)) ?_ ?_
  · rintro i' xx yv H12 H12' hxx s12 ⟨rfl, hy⟩ N hN
    obtain ⟨th, hth, pa, rfl, pc, hpa, hpc⟩ := f3_11.at_ hy
    rw [List.getElem?_map] at hth hxx
    cases ej : (all ts sh)[i']? with
    | none => rw [ej] at hth; cases hth
    | some j =>
      rw [ej] at hth hxx
      cases hth
      cases hxx
      have ejm := List.mem_of_getElem? ej
      exact ⟨rfl, _, rfl, pa, _, 1, _, rfl, rfl, same_tk s12 _ _ hpa, rfl, hN _ _ (Same.refl _) ⟨pc, rfl, by rw [sig_eq (hof j ejm)]; exact same_tk s12 _ _ hpc⟩⟩
  intro ze1 H12 g12 s12 f12
  have hI12 := s12 _ _ hI11
  refine ⟨_, rfl, I, rfl, ⟨_, SqL.of hI12⟩, fun E2 hE2 => ?_⟩
  refine lc_vals (K := K) ((all ts sh).map (sig sh)) (NumsV K) (fun _ _ _ _ t h => h.tk t) (by rw [List.length_map, ← hleni]; exact walk_list) (by rw [List.length_map]; omega) hE2 (fun H' e => SqL.of (e _ _ hI12)) ?_ ?_
  · rintro i' xx yv H13 H13' hxx s13 ⟨rfl, hy⟩ N hN
    obtain ⟨j, hj, hvj⟩ := fi_11.at_ hy
    rw [List.getElem?_map, hj] at hxx
    cases hxx
    have ejm := List.mem_of_getElem? hj
    have hlj := (hshort j ejm).1
    have s1113 := s12.trans s13
    exact ⟨rfl, _, rfl, _, rfl, _, _, sh, j, ks, rfl, ShV.tk (same_tk s1113) hsh11, ItV.tk (same_tk s1113) hvj, hof j ejm, hdeep, by rw [sig_eq (hof j ejm)]; omega, fun u14 H14 s14 h14 => hN _ _ s14 h14⟩
  intro ze2 H13 g13 s13 f13
  have shn : SeqAt.shaped (.list (((all ts sh).map (sig sh)).map numsD)) = true := shaped_list (f := numsD) can_nums _ fun b _ => by rw [depth_numsD]; decide
  refine ⟨_, _, .lst (SqL.of (s13 _ _ g12)) (ls_dp (At := NumsV K H13) (fun v b h => NumsV.dp h) (f12.imp fun v b _ h => h.tk (same_tk s13))), .lst (SqL.of g13) (ls_dp (At := NumsV K H13) (fun v b h => NumsV.dp h) f13), shn, shn, ?_⟩
  rw [eqv_self shn]
  refine ⟨_, rfl, iteF ?_⟩
  have s1113 := s12.trans s13
  have s7_13 := s7_11.trans s1113
  have hD13 := s1113 _ _ hD11
  have hI13 := s1113 _ _ hI11
  have f3_13 := f3_11.imp (Bt := ThV K H13) fun v b _ h => h.tk (same_tk s1113)
  have fi_13 := fi_11.imp (Bt := fun v i => ItV K H13 i v) fun v i _ h => ItV.tk (same_tk s1113) h
  have hrv13 : NumsV K H13 rv (rk sh) := hrv.tk (same_tk (si.trans (k2.trans (s8_11.trans s1113))))
  have hsh13 := ShV.tk (same_tk s7_13) hsh7
  have hk13 := hk7.same s7_13
  have w13 := w7.same s7_13
  have hF13 := s7_13 _ _ hF7
  have t13 : Same Hc' H13 := t7.trans s7_13
  clear f12 f13 shn f3_11 fi_11 hsh11 hD11 hI11
  have shi : SeqAt.shaped (.list ((all ts sh).map itD)) = true := shaped_list (f := itD) can_it _ fun j hj => by have := depth_it (hof j hj); omega
  refine ⟨_, rfl, _, rfl, rv, rk sh, L, zs, ts, rfl, hrv13, (rk_small hdeep).1, (rk_small hdeep).2, s7_13 _ _ hL7, hf7.imp (fun v t _ h => h.tk (same_tk s7_13)), hts.le, hts.sh, fun D3 z3 H14 s14 g14 f14 => ?_⟩
  refine ⟨D3, rfl, ⟨_, SqL.of g14⟩, for_it (walk_list (xs := z3)) (fun i σ H' => ∃ (u9 u11 : Option V), σ = [some (.ref a), some (.int c), some (.ref l), some (.ref F), some (.ref x), some pv, some (.ref L), some rv, some (.ref I), u9, some (.ref D), u11, u12, u13, u14] ∧ Same H14 H')
    ⟨_, _, rfl, Same.refl _⟩ (fun i σ H' _ ⟨_, _, _, e⟩ => SqL.of (e _ _ g14)) ?_ ?_⟩
  · rintro i' yv σ H15 H15' hi' ⟨u9, u11, rfl, s15⟩ ⟨rfl, hy⟩
    obtain ⟨xx, hxx, hvx⟩ := f14.at_ hy
    obtain ⟨j, hj, ej⟩ := (flat_mem xx sh).mpr (List.mem_of_getElem? hxx)
    subst ej
    have hlj := (hshort j hj).1
    have s1315 := s14.trans s15
    refine ⟨_, rfl, _, rfl, _, rfl, x, kl, ks, _, _, sh, j, rfl, hk13.same s1315, ShV.tk (same_tk s1315) hsh13, hvx.tk (same_tk s15), hof j hj, hdeep, by omega, fun u16 H16 s16 h16 => ?_⟩
    have s1316 := s1315.trans s16
    have hI16 := s1316 _ _ hI13
    have fi16 := fi_13.imp (Bt := fun v i => ItV K H16 i v) fun v i _ h => ItV.tk (same_tk s1316) h
    have shj : SeqAt.shaped (itD j) = true := shaped_of (can_it j) (by have := depth_it (hof j hj); omega)
    refine ⟨_, rfl, _, rfl, itD j, _, ItV.dp h16, .lst (SqL.of hI16) (ls_dp (At := fun v i => ItV K H16 i v) (fun v b h => ItV.dp h) fi16), shj, shi, ?_⟩
    have eany : ((all ts sh).map itD).any (fun z => PyData.eqv z (itD j)) = true := List.any_eq_true.mpr ⟨itD j, List.mem_map.mpr ⟨j, hj, rfl⟩, eqv_self shj⟩
    rw [eany]
    refine ⟨_, rfl, iteF ?_⟩
    refine ⟨_, rfl, _, rfl, _, rfl, x, kl, ks, _, _, sh, j, rfl, hk13.same s1316, ShV.tk (same_tk s1316) hsh13, h16, hof j hj, hdeep, by omega, fun u17 H17 s17 h17 => ?_⟩
    refine ⟨_, rfl, thD (flt sh j), thD (flt sh j), h17.dp, (hvx.tk (same_tk (s15.trans (s16.trans s17)))).dp, shaped_th _, shaped_th _, ?_⟩
    rw [eqv_self (shaped_th _)]
    exact ⟨_, rfl, iteF ⟨_, _, rfl, s15.trans (s16.trans s17)⟩⟩
  rintro σ H15 ⟨u9, u11, rfl, s15⟩
  have s1315 := s14.trans s15
  have t15 := t13.trans s1315
  have w15 := w13.same s1315
  have hk15 := hk13.same s1315
  have hF15 := s1315 _ _ hF13
  have hrv15 := hrv13.tk (same_tk (K := K) s1315)
  have hsh15 := ShV.tk (same_tk s1315) hsh13
  have hD15 := s1315 _ _ hD13
  have hI15 := s1315 _ _ hI13
  have f3_15 := f3_13.imp (Bt := ThV K H15) fun v b _ h => h.tk (same_tk s1315)
  have fi_15 := fi_13.imp (Bt := fun v i => ItV K H15 i v) fun v i _ h => ItV.tk (same_tk s1315) h
  have nIl : I ≠ l := not_well w15 hI15 fi_15
  have nDl : D ≠ l := by
    have := (w7.same s7i).ne hD
    exact this.symm
  refine ⟨_, rfl, _, rfl, _, rfl, _, rfl, _, rfl, l, F, ks, rv, rk sh, rfl, w15, hF15, nlF.symm, hkl.1, hkl.2, hrv15, (rk_bd hdeep).1, (rk_bd hdeep).2, fun S yst sts H16 b16 w16 hS hS16 hfs hls => ?_⟩
  obtain ⟨wx, wy, wz, hl15, _⟩ := id w15
  have tk16 : Tk K H15 H16 := b16.tk hl15
  have hk16 := hk15.but b16 hl15 nlk.symm
  have hrv16 := hrv15.tk tk16
  have hsh16 := ShV.tk tk16 hsh15
  have hD16 := b16 _ _ nDl hD15
  have hI16 := b16 _ _ nIl hI15
  have f3_16 := f3_15.imp (Bt := ThV K H16) fun v b _ h => h.tk tk16
  have fi_16 := fi_15.imp (Bt := fun v i => ItV K H16 i v) fun v i _ h => ItV.tk tk16 h
  have t16 : Same Hc' H16 := fun b o e => b16 _ _ (ne_of_none e hl) (t15 _ _ e)
  obtain ⟨m1, m2, m3, m4, m5⟩ := turn_ok hkl.1 hkl.2 hk4' (rk_small hdeep).1 (rk_small hdeep).2 hls
  intro tn dx ht hdx hne
  have sn : Same H16 (upd (upd H16 dx (.own tn)) tn (.ins T.C_Turning dx [])) := fun b o e => by
    rw [upd_ne (ne_of_none e ht), upd_ne (ne_of_none e hdx)]
    exact e
  have ntx : tn ≠ x := by
    obtain ⟨_, _, _, h, _⟩ := hk16
    exact (ne_of_none h ht).symm
  refine ⟨tn, dx, x, kl, ks, rv, rk sh, S, yst, sts, rfl, upd_same, ntx, hk16.same sn, hrv16.tk (same_tk sn), rack_ok hdeep, sn _ _ hS16, hfs.imp (fun v st _ h => StpV.same sn h), m1, m2, fun pl dl z H17 b17 g17 gd17 hz17 => ⟨rfl, ?_⟩⟩
  have s17 : Same H16 H17 := fun b o e => b17 _ _ (ne_of_none e ht) (sn _ _ e)
  have hta : TurnAt K T.C_Turning H17 tn x rv z sts := ⟨dx, pl, dl, yst, g17, gd17, hfs.imp fun v st _ h => StpV.same s17 h⟩
  have hk17 := hk16.same s17
  have hrv17 := hrv16.tk (same_tk (K := K) s17)
  have hsh17 := ShV.tk (same_tk s17) hsh16
  have hD17 := s17 _ _ hD16
  have hI17 := s17 _ _ hI16
  have f3_17 := f3_16.imp (Bt := ThV K H17) fun v b _ h => h.tk (same_tk s17)
  have fi_17 := fi_16.imp (Bt := fun v i => ItV K H17 i v) fun v i _ h => ItV.tk (same_tk s17) h
  have t17 := t16.trans s17
  have norun : (tf (.ref x) (.ref pl) (.ref dl) rv z).lookup ("run" : Str) = none := tf_no _ _ _ _ _ (by decide +kernel) (by decide +kernel) (by decide +kernel) (by decide +kernel) (by decide +kernel)
  have noback : (tf (.ref x) (.ref pl) (.ref dl) rv z).lookup ("back" : Str) = none := tf_no _ _ _ _ _ (by decide +kernel) (by decide +kernel) (by decide +kernel) (by decide +kernel) (by decide +kernel)
  refine ⟨_, rfl, D, rfl, ⟨_, SqL.of hD17⟩, fun E3 hE3 => ?_⟩
  refine lc_vals (K := K) ((all ts sh).map fun j => runs ks sts (flt sh j)) (ThV K) (fun _ _ _ _ t h => h.tk t) (by rw [List.length_map, ← hlenp]; exact walk_list) (by rw [List.length_map]; omega) hE3 (fun H' e => SqL.of (e _ _ hD17)) ?_ ?_
  · rintro i' xx yv H18 H18' hxx s18 ⟨rfl, hy⟩ N hN
    obtain ⟨th, hth, hvt⟩ := f3_17.at_ hy
    rw [List.getElem?_map] at hth hxx
    cases ej : (all ts sh)[i']? with
    | none => rw [ej] at hth; cases hth
    | some j =>
      rw [ej] at hth hxx
      cases hth
      cases hxx
      have ejm := List.mem_of_getElem? ej
      obtain ⟨hlj, hthj⟩ := hshort j ejm
      obtain ⟨n1, n2, n3, n4, n5⟩ := m5 (flt sh j) hthj hlj
      exact ⟨rfl, _, rfl, tn, dx, _, rfl, s18 _ _ g17, norun, _, rfl, tn, x, kl, ks, rv, z, _, rk sh, sts, flt sh j, rfl, hta.same s18, hk17.same s18, hrv17.tk (same_tk s18), rack_ok hdeep, hvt.tk (same_tk s18), hthj, by omega, n1, fun u19 H19 s19 h19 => hN _ _ s19 h19⟩
  intro zq H18 g18 s18 f18
  have hI18 := s18 _ _ hI17
  obtain ⟨kq, ezq, ekq, hkq⟩ := f18.addrs
  have hkq60 : kq.length = (all ts sh).length := by
    have := congrArg List.length ekq
    rw [List.length_map, List.length_map] at this
    exact this
  have hndq : ((all ts sh).map fun j => runs ks sts (flt sh j)).Nodup := by
    have e : ((all ts sh).map fun j => runs ks sts (flt sh j)) = ((all ts sh).map (flt sh)).map (runs ks sts) := by rw [List.map_map]; rfl
    rw [e]
    refine map_nodup (fun y1 hy1 y2 hy2 ee => ?_) hnd
    obtain ⟨j1, hj1, rfl⟩ := List.mem_map.mp hy1
    obtain ⟨j2, hj2, rfl⟩ := List.mem_map.mp hy2
    obtain ⟨_, _, _, _, p5⟩ := m5 _ (hshort j1 hj1).2 (hshort j1 hj1).1
    obtain ⟨_, _, _, _, p6⟩ := m5 _ (hshort j2 hj2).2 (hshort j2 hj2).1
    rw [← p5, ← p6, ee]
  refine ⟨_, rfl, E3, kq, rfl, SqL.of (by rw [g18, ezq]), hkq, by omega, by rw [ekq]; exact hndq, ?_⟩
  refine ⟨_, rfl, I, zi, rfl, SqL.of hI18, kq.length, zi.length, rfl, rfl, _, rfl, ?_⟩
  rw [decide_eq_true (by omega : kq.length = zi.length)]
  refine iteF ?_
  have s1718 := s18
  have fi_18 := fi_17.imp (Bt := fun v i => ItV K H18 i v) fun v i _ h => ItV.tk (same_tk s18) h
  refine ⟨_, rfl, E3, rfl, ⟨_, SqL.of g18⟩, fun E4 hE4 => ?_⟩
  refine lc_vals (K := K) (all ts sh) (fun H v i => ItV K H i v) (fun H H' v i t h => ItV.tk t h) (by rw [← hkq60, ← List.length_map (f := fun p : Addr × Thg => V.ref p.1) (as := kq), ← ezq]; exact walk_list) (by omega) hE4 (fun H' e => SqL.of (e _ _ g18)) ?_ ?_
  · rintro i' j yv H19 H19' hj s19 ⟨rfl, hy⟩ N hN
    obtain ⟨th, hth, hvt⟩ := f18.at_ hy
    rw [List.getElem?_map, hj] at hth
    cases hth
    have ejm := List.mem_of_getElem? hj
    obtain ⟨hlj, hthj⟩ := hshort j ejm
    obtain ⟨n1, n2, n3, n4, n5⟩ := m5 (flt sh j) hthj hlj
    have s1719 := s18.trans s19
    refine ⟨rfl, _, rfl, _, rfl, _, rfl, tn, dx, _, rfl, s1719 _ _ g17, noback, _, rfl, tn, x, kl, ks, rv, z, _, endr ks (rk sh) sts, sts, runs ks sts (flt sh j), rfl, hta.same s1719, hk17.same s1719, hz17.tk (same_tk s1719), m3, hvt.tk (same_tk s19), n2, by omega, m4, n4, fun u20 H20 s20 h20 => ?_⟩
    rw [n5] at h20
    have s1720 := s1719.trans s20
    exact ⟨x, kl, ks, _, _, sh, j, rfl, hk17.same s1720, ShV.tk (same_tk s1720) hsh17, h20, hof j ejm, hdeep, by omega, fun u21 H21 s21 h21 => hN _ _ (s20.trans s21) h21⟩
  intro ze4 H19 g19 s19 f19
  refine ⟨_, rfl, _, _, .lst (SqL.of g19) (ls_dp (At := fun v i => ItV K H19 i v) (fun v b h => ItV.dp h) f19), .lst (SqL.of (s19 _ _ hI18)) (ls_dp (At := fun v i => ItV K H19 i v) (fun v b h => ItV.dp h) (fi_18.imp fun v i _ h => ItV.tk (same_tk s19) h)), shi, shi, ?_⟩
  rw [eqv_self shi]
  refine ⟨_, rfl, iteF ?_⟩
  exact ⟨_, _, _, _, _, _, _, _, _, _, _, _, _, _, rfl, (t17.trans (s18.trans s19)) _ _ hp2c⟩
end
end Bs
/-! What the top has made, all together. -/
namespace Bs
open PySem L2
/-- the dict of the plain shapes as the top has made it -/
structure PlainAt (w : World) (K : PySem.W.Frag) (mg : Str → Option Value) where
  a : Addr
  es : Array DictEntry
  n : Nat
  c : Cst mg "PLAIN" (.ref a)
  k : KDict K w a es n
  p_none : Addr
  k_none : KDct K w a "none" (.ref p_none)
  t_none : PlTup K p_none []
  p_one : Addr
  k_one : KDct K w a "one" (.ref p_one)
  t_one : PlTup K p_one [0]
  p_tree : Addr
  k_tree : KDct K w a "tree" (.ref p_tree)
  t_tree : PlTup K p_tree [1]
def PlainOk (w : World) (K : PySem.W.Frag) (mg : Str → Option Value) : Prop := Nonempty (PlainAt w K mg)
theorem plain_mk {w : World} {K : PySem.W.Frag} {mg : Str → Option Value} {h : Heap} (X : K.In h) (G : h.Ns mainGlobals mg) {a p0 p1 p2 : Addr} {es : Array DictEntry} {n n0 n1 n2 : Nat} {o0 o1 o2 : Option Addr} {q0 q1 q2 : Array (Option Value)} {t1 t2 : Tok}
    (ha : PySem.W.nsIn K mainGlobals "PLAIN" = some (some (.ref a))) (hl : K.lookup a = some ⟨.type "dict", none, .dict es n, #[]⟩) (hk : PySem.W.KeysLit w.params es.toList) (hs : (a == sysModules) = false)
    (g0 : PySem.W.nsIn K a "none" = some (some (.ref p0))) (g1 : PySem.W.nsIn K a "one" = some (some (.ref p1))) (g2 : PySem.W.nsIn K a "tree" = some (some (.ref p2)))
    (l0 : K.lookup p0 = some ⟨.type "tuple", o0, .seq #[] n0, q0⟩) (l1 : K.lookup p1 = some ⟨.type "tuple", o1, .seq #[.int 0 t1] n1, q1⟩) (l2 : K.lookup p2 = some ⟨.type "tuple", o2, .seq #[.int 1 t2] n2, q2⟩) : PlainOk w K mg :=
  ⟨{ a := a, es := es, n := n, c := ⟨_, PySem.W.mg_of X G ha, rfl⟩, k := ⟨hl, hk, hs⟩,
     p_none := p0, k_none := ⟨es, n, _, hl, hk, g0, rfl⟩, t_none := ⟨_, #[], n0, l0, rfl, rfl, Nat.zero_le _, .nil⟩,
     p_one := p1, k_one := ⟨es, n, _, hl, hk, g1, rfl⟩, t_one := ⟨_, #[.int 0 t1], n1, l1, rfl, rfl, (by show 1 ≤ sizeLine; decide), .cons ⟨t1, rfl⟩ .nil⟩,
     p_tree := p2, k_tree := ⟨es, n, _, hl, hk, g2, rfl⟩, t_tree := ⟨_, #[.int 1 t2], n2, l2, rfl, rfl, (by show 1 ≤ sizeLine; decide), .cons ⟨t2, rfl⟩ .nil⟩ }⟩
theorem all_mk {l : PySem.W.OpenLaw} {w : World} {K : PySem.W.Frag} {h : Heap} {mg : Str → Option Value} {fa : Addr} (X : K.In h) (G : h.Ns mainGlobals mg) (hfa : mg "law" = some (.ref fa))
    {C_Kind : Addr} {C_Turning : Addr} {f0 : Addr} {od0 an0 : Option Addr} {sl0 : Array (Option Value)} {oc0 kV0 dc0 pm0 cd0 ct0 : Value} {f1 : Addr} {od1 an1 : Option Addr} {sl1 : Array (Option Value)} {oc1 kV1 dc1 pm1 cd1 ct1 : Value} {f2 : Addr} {od2 an2 : Option Addr} {sl2 : Array (Option Value)} {oc2 kV2 dc2 pm2 cd2 ct2 : Value} {f3 : Addr} {od3 an3 : Option Addr} {sl3 : Array (Option Value)} {oc3 kV3 dc3 pm3 cd3 ct3 : Value} {f4 : Addr} {od4 an4 : Option Addr} {sl4 : Array (Option Value)} {oc4 kV4 dc4 pm4 cd4 ct4 : Value} {f5 : Addr} {od5 an5 : Option Addr} {sl5 : Array (Option Value)} {oc5 kV5 dc5 pm5 cd5 ct5 : Value} {f6 : Addr} {od6 an6 : Option Addr} {sl6 : Array (Option Value)} {oc6 kV6 dc6 pm6 cd6 ct6 : Value} {f7 : Addr} {od7 an7 : Option Addr} {sl7 : Array (Option Value)} {oc7 kV7 dc7 pm7 cd7 ct7 : Value} {f8 : Addr} {od8 an8 : Option Addr} {sl8 : Array (Option Value)} {oc8 kV8 dc8 pm8 cd8 ct8 : Value} {f9 : Addr} {od9 an9 : Option Addr} {sl9 : Array (Option Value)} {oc9 kV9 dc9 pm9 cd9 ct9 : Value} {f10 : Addr} {od10 an10 : Option Addr} {sl10 : Array (Option Value)} {oc10 kV10 dc10 pm10 cd10 ct10 : Value} {f11 : Addr} {od11 an11 : Option Addr} {sl11 : Array (Option Value)} {oc11 kV11 dc11 pm11 cd11 ct11 : Value} {f12 : Addr} {od12 an12 : Option Addr} {sl12 : Array (Option Value)} {oc12 kV12 dc12 pm12 cd12 ct12 : Value} {f13 : Addr} {od13 an13 : Option Addr} {sl13 : Array (Option Value)} {oc13 kV13 dc13 pm13 cd13 ct13 : Value} {f14 : Addr} {od14 an14 : Option Addr} {sl14 : Array (Option Value)} {oc14 kV14 dc14 pm14 cd14 ct14 : Value} {f15 : Addr} {od15 an15 : Option Addr} {sl15 : Array (Option Value)} {oc15 kV15 dc15 pm15 cd15 ct15 : Value} {f16 : Addr} {od16 an16 : Option Addr} {sl16 : Array (Option Value)} {oc16 kV16 dc16 pm16 cd16 ct16 : Value} {f17 : Addr} {od17 an17 : Option Addr} {sl17 : Array (Option Value)} {oc17 kV17 dc17 pm17 cd17 ct17 : Value} {f18 : Addr} {od18 an18 : Option Addr} {sl18 : Array (Option Value)} {oc18 kV18 dc18 pm18 cd18 ct18 : Value} {f19 : Addr} {od19 an19 : Option Addr} {sl19 : Array (Option Value)} {oc19 kV19 dc19 pm19 cd19 ct19 : Value} {f20 : Addr} {od20 an20 : Option Addr} {sl20 : Array (Option Value)} {oc20 kV20 dc20 pm20 cd20 ct20 : Value} {f21 : Addr} {od21 an21 : Option Addr} {sl21 : Array (Option Value)} {oc21 kV21 dc21 pm21 cd21 ct21 : Value} {f22 : Addr} {od22 an22 : Option Addr} {sl22 : Array (Option Value)} {oc22 kV22 dc22 pm22 cd22 ct22 : Value} {f23 : Addr} {od23 an23 : Option Addr} {sl23 : Array (Option Value)} {oc23 kV23 dc23 pm23 cd23 ct23 : Value} {f24 : Addr} {od24 an24 : Option Addr} {sl24 : Array (Option Value)} {oc24 kV24 dc24 pm24 cd24 ct24 : Value} {f25 : Addr} {od25 an25 : Option Addr} {sl25 : Array (Option Value)} {oc25 kV25 dc25 pm25 cd25 ct25 : Value} {f26 : Addr} {od26 an26 : Option Addr} {sl26 : Array (Option Value)} {oc26 kV26 dc26 pm26 cd26 ct26 : Value} {f27 : Addr} {od27 an27 : Option Addr} {sl27 : Array (Option Value)} {oc27 kV27 dc27 pm27 cd27 ct27 : Value} {f28 : Addr} {od28 an28 : Option Addr} {sl28 : Array (Option Value)} {oc28 kV28 dc28 pm28 cd28 ct28 : Value} {f29 : Addr} {od29 an29 : Option Addr} {sl29 : Array (Option Value)} {oc29 kV29 dc29 pm29 cd29 ct29 : Value} {f30 : Addr} {od30 an30 : Option Addr} {sl30 : Array (Option Value)} {oc30 kV30 dc30 pm30 cd30 ct30 : Value} {f31 : Addr} {od31 an31 : Option Addr} {sl31 : Array (Option Value)} {oc31 kV31 dc31 pm31 cd31 ct31 : Value} {f32 : Addr} {od32 an32 : Option Addr} {sl32 : Array (Option Value)} {oc32 kV32 dc32 pm32 cd32 ct32 : Value} {f33 : Addr} {od33 an33 : Option Addr} {sl33 : Array (Option Value)} {oc33 kV33 dc33 pm33 cd33 ct33 : Value} {f34 : Addr} {od34 an34 : Option Addr} {sl34 : Array (Option Value)} {oc34 kV34 dc34 pm34 cd34 ct34 : Value} {f35 : Addr} {od35 an35 : Option Addr} {sl35 : Array (Option Value)} {oc35 kV35 dc35 pm35 cd35 ct35 : Value} {f36 : Addr} {od36 an36 : Option Addr} {sl36 : Array (Option Value)} {oc36 kV36 dc36 pm36 cd36 ct36 : Value} {f37 : Addr} {od37 an37 : Option Addr} {sl37 : Array (Option Value)} {oc37 kV37 dc37 pm37 cd37 ct37 : Value} {f38 : Addr} {od38 an38 : Option Addr} {sl38 : Array (Option Value)} {oc38 kV38 dc38 pm38 cd38 ct38 : Value} {f39 : Addr} {od39 an39 : Option Addr} {sl39 : Array (Option Value)} {oc39 kV39 dc39 pm39 cd39 ct39 : Value} {f40 : Addr} {od40 an40 : Option Addr} {sl40 : Array (Option Value)} {oc40 kV40 dc40 pm40 cd40 ct40 : Value} {f41 : Addr} {od41 an41 : Option Addr} {sl41 : Array (Option Value)} {oc41 kV41 dc41 pm41 cd41 ct41 : Value} {f42 : Addr} {od42 an42 : Option Addr} {sl42 : Array (Option Value)} {oc42 kV42 dc42 pm42 cd42 ct42 : Value} {f43 : Addr} {od43 an43 : Option Addr} {sl43 : Array (Option Value)} {oc43 kV43 dc43 pm43 cd43 ct43 : Value} {f44 : Addr} {od44 an44 : Option Addr} {sl44 : Array (Option Value)} {oc44 kV44 dc44 pm44 cd44 ct44 : Value} {f45 : Addr} {od45 an45 : Option Addr} {sl45 : Array (Option Value)} {oc45 kV45 dc45 pm45 cd45 ct45 : Value} {f46 : Addr} {od46 an46 : Option Addr} {sl46 : Array (Option Value)} {oc46 kV46 dc46 pm46 cd46 ct46 : Value} {f47 : Addr} {od47 an47 : Option Addr} {sl47 : Array (Option Value)} {oc47 kV47 dc47 pm47 cd47 ct47 : Value} {f48 : Addr} {od48 an48 : Option Addr} {sl48 : Array (Option Value)} {oc48 kV48 dc48 pm48 cd48 ct48 : Value} {f49 : Addr} {od49 an49 : Option Addr} {sl49 : Array (Option Value)} {oc49 kV49 dc49 pm49 cd49 ct49 : Value} {f50 : Addr} {od50 an50 : Option Addr} {sl50 : Array (Option Value)} {oc50 kV50 dc50 pm50 cd50 ct50 : Value} {f51 : Addr} {od51 an51 : Option Addr} {sl51 : Array (Option Value)} {oc51 kV51 dc51 pm51 cd51 ct51 : Value} {f52 : Addr} {od52 an52 : Option Addr} {sl52 : Array (Option Value)} {oc52 kV52 dc52 pm52 cd52 ct52 : Value} {f53 : Addr} {od53 an53 : Option Addr} {sl53 : Array (Option Value)} {oc53 kV53 dc53 pm53 cd53 ct53 : Value} {f54 : Addr} {od54 an54 : Option Addr} {sl54 : Array (Option Value)} {oc54 kV54 dc54 pm54 cd54 ct54 : Value} {f55 : Addr} {od55 an55 : Option Addr} {sl55 : Array (Option Value)} {oc55 kV55 dc55 pm55 cd55 ct55 : Value} {f56 : Addr} {od56 an56 : Option Addr} {sl56 : Array (Option Value)} {oc56 kV56 dc56 pm56 cd56 ct56 : Value} {f57 : Addr} {od57 an57 : Option Addr} {sl57 : Array (Option Value)} {oc57 kV57 dc57 pm57 cd57 ct57 : Value} {f58 : Addr} {od58 an58 : Option Addr} {sl58 : Array (Option Value)} {oc58 kV58 dc58 pm58 cd58 ct58 : Value} {f59 : Addr} {od59 an59 : Option Addr} {sl59 : Array (Option Value)} {oc59 kV59 dc59 pm59 cd59 ct59 : Value} {f60 : Addr} {od60 an60 : Option Addr} {sl60 : Array (Option Value)} {oc60 kV60 dc60 pm60 cd60 ct60 : Value} {f61 : Addr} {od61 an61 : Option Addr} {sl61 : Array (Option Value)} {oc61 kV61 dc61 pm61 cd61 ct61 : Value} {t_MOST_FORMS : Tok} {t_MOST_TREES : Tok} {t_MOST_DEEP : Tok} {t_LETTERS : Tok} {t_MOST_LETTERS : Tok} {t_MOST_MAKERS : Tok} {t_MOST_WITHIN : Tok} {t_HOLE : Tok}
    (aC_Kind : PySem.W.nsIn K mainGlobals "Kind" = some (some (.ref C_Kind)))
    (pg_Kind : PySem.W.plainGet K C_Kind Str.empty = true)
    (hd_Kind : PySem.W.hasDictIn K C_Kind = true)
    (po_Kind : PySem.W.plainOver K C_Kind = true)
    (sa_Kind : PySem.W.findIn K (.ref C_Kind) "__setattr__" = some (some (.builtin "object.__setattr__")))
    (mk_Kind : PySem.W.makesIn K C_Kind = true)
    (kc_Kind : PySem.W.keepIn K (.ref C_Kind) = true)
    (aC_Turning : PySem.W.nsIn K mainGlobals "Turning" = some (some (.ref C_Turning)))
    (pg_Turning : PySem.W.plainGet K C_Turning Str.empty = true)
    (hd_Turning : PySem.W.hasDictIn K C_Turning = true)
    (po_Turning : PySem.W.plainOver K C_Turning = true)
    (sa_Turning : PySem.W.findIn K (.ref C_Turning) "__setattr__" = some (some (.builtin "object.__setattr__")))
    (mk_Turning : PySem.W.makesIn K C_Turning = true)
    (kc_Turning : PySem.W.keepIn K (.ref C_Turning) = true)
    (a0 : PySem.W.nsIn K mainGlobals "is_whole" = some (some (.ref f0)))
    (l0 : K.lookup f0 = some ⟨oc0, od0, .func (PySem.W.fnOf "is_whole" "is_whole" (defArgs s_is_whole) (defBody s_is_whole) (defScope s_is_whole) .none kV0 dc0 pm0 an0 cd0 ct0), sl0⟩)
    (c0 : PySem.W.codeIn K cd0 "is_whole" = true)
    (k0 : PySem.W.keepIn K (.ref f0) = true)
    (a1 : PySem.W.nsIn K mainGlobals "ends_in" = some (some (.ref f1)))
    (l1 : K.lookup f1 = some ⟨oc1, od1, .func (PySem.W.fnOf "ends_in" "ends_in" (defArgs s_ends_in) (defBody s_ends_in) (defScope s_ends_in) .none kV1 dc1 pm1 an1 cd1 ct1), sl1⟩)
    (c1 : PySem.W.codeIn K cd1 "ends_in" = true)
    (k1 : PySem.W.keepIn K (.ref f1) = true)
    (a2 : PySem.W.nsIn K mainGlobals "is_tree" = some (some (.ref f2)))
    (l2 : K.lookup f2 = some ⟨oc2, od2, .func (PySem.W.fnOf "is_tree" "is_tree" (defArgs s_is_tree) (defBody s_is_tree) (defScope s_is_tree) .none kV2 dc2 pm2 an2 cd2 ct2), sl2⟩)
    (c2 : PySem.W.codeIn K cd2 "is_tree" = true)
    (k2 : PySem.W.keepIn K (.ref f2) = true)
    (a3 : PySem.W.nsIn K mainGlobals "trees_in" = some (some (.ref f3)))
    (l3 : K.lookup f3 = some ⟨oc3, od3, .func (PySem.W.fnOf "trees_in" "trees_in" (defArgs s_trees_in) (defBody s_trees_in) (defScope s_trees_in) .none kV3 dc3 pm3 an3 cd3 ct3), sl3⟩)
    (c3 : PySem.W.codeIn K cd3 "trees_in" = true)
    (k3 : PySem.W.keepIn K (.ref f3) = true)
    (a4 : PySem.W.nsIn K mainGlobals "is_rack" = some (some (.ref f4)))
    (l4 : K.lookup f4 = some ⟨oc4, od4, .func (PySem.W.fnOf "is_rack" "is_rack" (defArgs s_is_rack) (defBody s_is_rack) (defScope s_is_rack) .none kV4 dc4 pm4 an4 cd4 ct4), sl4⟩)
    (c4 : PySem.W.codeIn K cd4 "is_rack" = true)
    (k4 : PySem.W.keepIn K (.ref f4) = true)
    (a5 : PySem.W.nsIn K mainGlobals "sure_rack" = some (some (.ref f5)))
    (l5 : K.lookup f5 = some ⟨oc5, od5, .func (PySem.W.fnOf "sure_rack" "sure_rack" (defArgs s_sure_rack) (defBody s_sure_rack) (defScope s_sure_rack) .none kV5 dc5 pm5 an5 cd5 ct5), sl5⟩)
    (c5 : PySem.W.codeIn K cd5 "sure_rack" = true)
    (k5 : PySem.W.keepIn K (.ref f5) = true)
    (a6 : PySem.W.nsIn K mainGlobals "sure_small" = some (some (.ref f6)))
    (l6 : K.lookup f6 = some ⟨oc6, od6, .func (PySem.W.fnOf "sure_small" "sure_small" (defArgs s_sure_small) (defBody s_sure_small) (defScope s_sure_small) .none kV6 dc6 pm6 an6 cd6 ct6), sl6⟩)
    (c6 : PySem.W.codeIn K cd6 "sure_small" = true)
    (k6 : PySem.W.keepIn K (.ref f6) = true)
    (a7 : PySem.W.nsIn K mainGlobals "is_among" = some (some (.ref f7)))
    (l7 : K.lookup f7 = some ⟨oc7, od7, .func (PySem.W.fnOf "is_among" "is_among" (defArgs s_is_among) (defBody s_is_among) (defScope s_is_among) .none kV7 dc7 pm7 an7 cd7 ct7), sl7⟩)
    (c7 : PySem.W.codeIn K cd7 "is_among" = true)
    (k7 : PySem.W.keepIn K (.ref f7) = true)
    (a8 : PySem.W.nsIn K mainGlobals "is_thing" = some (some (.ref f8)))
    (l8 : K.lookup f8 = some ⟨oc8, od8, .func (PySem.W.fnOf "is_thing" "is_thing" (defArgs s_is_thing) (defBody s_is_thing) (defScope s_is_thing) .none kV8 dc8 pm8 an8 cd8 ct8), sl8⟩)
    (c8 : PySem.W.codeIn K cd8 "is_thing" = true)
    (k8 : PySem.W.keepIn K (.ref f8) = true)
    (a9 : PySem.W.nsIn K mainGlobals "sure_thing" = some (some (.ref f9)))
    (l9 : K.lookup f9 = some ⟨oc9, od9, .func (PySem.W.fnOf "sure_thing" "sure_thing" (defArgs s_sure_thing) (defBody s_sure_thing) (defScope s_sure_thing) .none kV9 dc9 pm9 an9 cd9 ct9), sl9⟩)
    (c9 : PySem.W.codeIn K cd9 "sure_thing" = true)
    (k9 : PySem.W.keepIn K (.ref f9) = true)
    (a10 : PySem.W.nsIn K mainGlobals "put_beside" = some (some (.ref f10)))
    (l10 : K.lookup f10 = some ⟨oc10, od10, .func (PySem.W.fnOf "put_beside" "put_beside" (defArgs s_put_beside) (defBody s_put_beside) (defScope s_put_beside) .none kV10 dc10 pm10 an10 cd10 ct10), sl10⟩)
    (c10 : PySem.W.codeIn K cd10 "put_beside" = true)
    (k10 : PySem.W.keepIn K (.ref f10) = true)
    (a11 : PySem.W.nsIn K mainGlobals "put_left" = some (some (.ref f11)))
    (l11 : K.lookup f11 = some ⟨oc11, od11, .func (PySem.W.fnOf "put_left" "put_left" (defArgs s_put_left) (defBody s_put_left) (defScope s_put_left) .none kV11 dc11 pm11 an11 cd11 ct11), sl11⟩)
    (c11 : PySem.W.codeIn K cd11 "put_left" = true)
    (k11 : PySem.W.keepIn K (.ref f11) = true)
    (a12 : PySem.W.nsIn K mainGlobals "put_right" = some (some (.ref f12)))
    (l12 : K.lookup f12 = some ⟨oc12, od12, .func (PySem.W.fnOf "put_right" "put_right" (defArgs s_put_right) (defBody s_put_right) (defScope s_put_right) .none kV12 dc12 pm12 an12 cd12 ct12), sl12⟩)
    (c12 : PySem.W.codeIn K cd12 "put_right" = true)
    (k12 : PySem.W.keepIn K (.ref f12) = true)
    (a13 : PySem.W.nsIn K mainGlobals "side_of" = some (some (.ref f13)))
    (l13 : K.lookup f13 = some ⟨oc13, od13, .func (PySem.W.fnOf "side_of" "side_of" (defArgs s_side_of) (defBody s_side_of) (defScope s_side_of) .none kV13 dc13 pm13 an13 cd13 ct13), sl13⟩)
    (c13 : PySem.W.codeIn K cd13 "side_of" = true)
    (k13 : PySem.W.keepIn K (.ref f13) = true)
    (a14 : PySem.W.nsIn K mainGlobals "put_times" = some (some (.ref f14)))
    (l14 : K.lookup f14 = some ⟨oc14, od14, .func (PySem.W.fnOf "put_times" "put_times" (defArgs s_put_times) (defBody s_put_times) (defScope s_put_times) .none kV14 dc14 pm14 an14 cd14 ct14), sl14⟩)
    (c14 : PySem.W.codeIn K cd14 "put_times" = true)
    (k14 : PySem.W.keepIn K (.ref f14) = true)
    (a15 : PySem.W.nsIn K mainGlobals "paired" = some (some (.ref f15)))
    (l15 : K.lookup f15 = some ⟨oc15, od15, .func (PySem.W.fnOf "paired" "paired" (defArgs s_paired) (defBody s_paired) (defScope s_paired) .none kV15 dc15 pm15 an15 cd15 ct15), sl15⟩)
    (c15 : PySem.W.codeIn K cd15 "paired" = true)
    (k15 : PySem.W.keepIn K (.ref f15) = true)
    (a16 : PySem.W.nsIn K mainGlobals "unpaired" = some (some (.ref f16)))
    (l16 : K.lookup f16 = some ⟨oc16, od16, .func (PySem.W.fnOf "unpaired" "unpaired" (defArgs s_unpaired) (defBody s_unpaired) (defScope s_unpaired) .none kV16 dc16 pm16 an16 cd16 ct16), sl16⟩)
    (c16 : PySem.W.codeIn K cd16 "unpaired" = true)
    (k16 : PySem.W.keepIn K (.ref f16) = true)
    (a17 : PySem.W.nsIn K mainGlobals "is_within" = some (some (.ref f17)))
    (l17 : K.lookup f17 = some ⟨oc17, od17, .func (PySem.W.fnOf "is_within" "is_within" (defArgs s_is_within) (defBody s_is_within) (defScope s_is_within) .none kV17 dc17 pm17 an17 cd17 ct17), sl17⟩)
    (c17 : PySem.W.codeIn K cd17 "is_within" = true)
    (k17 : PySem.W.keepIn K (.ref f17) = true)
    (a18 : PySem.W.nsIn K mainGlobals "is_shape" = some (some (.ref f18)))
    (l18 : K.lookup f18 = some ⟨oc18, od18, .func (PySem.W.fnOf "is_shape" "is_shape" (defArgs s_is_shape) (defBody s_is_shape) (defScope s_is_shape) .none kV18 dc18 pm18 an18 cd18 ct18), sl18⟩)
    (c18 : PySem.W.codeIn K cd18 "is_shape" = true)
    (k18 : PySem.W.keepIn K (.ref f18) = true)
    (a19 : PySem.W.nsIn K mainGlobals "asked_shape" = some (some (.ref f19)))
    (l19 : K.lookup f19 = some ⟨oc19, od19, .func (PySem.W.fnOf "asked_shape" "asked_shape" (defArgs s_asked_shape) (defBody s_asked_shape) (defScope s_asked_shape) .none kV19 dc19 pm19 an19 cd19 ct19), sl19⟩)
    (c19 : PySem.W.codeIn K cd19 "asked_shape" = true)
    (k19 : PySem.W.keepIn K (.ref f19) = true)
    (a20 : PySem.W.nsIn K mainGlobals "is_side" = some (some (.ref f20)))
    (l20 : K.lookup f20 = some ⟨oc20, od20, .func (PySem.W.fnOf "is_side" "is_side" (defArgs s_is_side) (defBody s_is_side) (defScope s_is_side) .none kV20 dc20 pm20 an20 cd20 ct20), sl20⟩)
    (c20 : PySem.W.codeIn K cd20 "is_side" = true)
    (k20 : PySem.W.keepIn K (.ref f20) = true)
    (a21 : PySem.W.nsIn K mainGlobals "has_kind_of" = some (some (.ref f21)))
    (l21 : K.lookup f21 = some ⟨oc21, od21, .func (PySem.W.fnOf "has_kind_of" "has_kind_of" (defArgs s_has_kind_of) (defBody s_has_kind_of) (defScope s_has_kind_of) .none kV21 dc21 pm21 an21 cd21 ct21), sl21⟩)
    (c21 : PySem.W.codeIn K cd21 "has_kind_of" = true)
    (k21 : PySem.W.keepIn K (.ref f21) = true)
    (a22 : PySem.W.nsIn K mainGlobals "rack_of" = some (some (.ref f22)))
    (l22 : K.lookup f22 = some ⟨oc22, od22, .func (PySem.W.fnOf "rack_of" "rack_of" (defArgs s_rack_of) (defBody s_rack_of) (defScope s_rack_of) .none kV22 dc22 pm22 an22 cd22 ct22), sl22⟩)
    (c22 : PySem.W.codeIn K cd22 "rack_of" = true)
    (k22 : PySem.W.keepIn K (.ref f22) = true)
    (a23 : PySem.W.nsIn K mainGlobals "flat_of" = some (some (.ref f23)))
    (l23 : K.lookup f23 = some ⟨oc23, od23, .func (PySem.W.fnOf "flat_of" "flat_of" (defArgs s_flat_of) (defBody s_flat_of) (defScope s_flat_of) .none kV23 dc23 pm23 an23 cd23 ct23), sl23⟩)
    (c23 : PySem.W.codeIn K cd23 "flat_of" = true)
    (k23 : PySem.W.keepIn K (.ref f23) = true)
    (a24 : PySem.W.nsIn K mainGlobals "laid_flat" = some (some (.ref f24)))
    (l24 : K.lookup f24 = some ⟨oc24, od24, .func (PySem.W.fnOf "laid_flat" "laid_flat" (defArgs s_laid_flat) (defBody s_laid_flat) (defScope s_laid_flat) .none kV24 dc24 pm24 an24 cd24 ct24), sl24⟩)
    (c24 : PySem.W.codeIn K cd24 "laid_flat" = true)
    (k24 : PySem.W.keepIn K (.ref f24) = true)
    (a25 : PySem.W.nsIn K mainGlobals "flattened" = some (some (.ref f25)))
    (l25 : K.lookup f25 = some ⟨oc25, od25, .func (PySem.W.fnOf "flattened" "flattened" (defArgs s_flattened) (defBody s_flattened) (defScope s_flattened) .none kV25 dc25 pm25 an25 cd25 ct25), sl25⟩)
    (c25 : PySem.W.codeIn K cd25 "flattened" = true)
    (k25 : PySem.W.keepIn K (.ref f25) = true)
    (a26 : PySem.W.nsIn K mainGlobals "put_up" = some (some (.ref f26)))
    (l26 : K.lookup f26 = some ⟨oc26, od26, .func (PySem.W.fnOf "put_up" "put_up" (defArgs s_put_up) (defBody s_put_up) (defScope s_put_up) .none kV26 dc26 pm26 an26 cd26 ct26), sl26⟩)
    (c26 : PySem.W.codeIn K cd26 "put_up" = true)
    (k26 : PySem.W.keepIn K (.ref f26) = true)
    (a27 : PySem.W.nsIn K mainGlobals "folded" = some (some (.ref f27)))
    (l27 : K.lookup f27 = some ⟨oc27, od27, .func (PySem.W.fnOf "folded" "folded" (defArgs s_folded) (defBody s_folded) (defScope s_folded) .none kV27 dc27 pm27 an27 cd27 ct27), sl27⟩)
    (c27 : PySem.W.codeIn K cd27 "folded" = true)
    (k27 : PySem.W.keepIn K (.ref f27) = true)
    (a28 : PySem.W.nsIn K mainGlobals "is_name" = some (some (.ref f28)))
    (l28 : K.lookup f28 = some ⟨oc28, od28, .func (PySem.W.fnOf "is_name" "is_name" (defArgs s_is_name) (defBody s_is_name) (defScope s_is_name) .none kV28 dc28 pm28 an28 cd28 ct28), sl28⟩)
    (c28 : PySem.W.codeIn K cd28 "is_name" = true)
    (k28 : PySem.W.keepIn K (.ref f28) = true)
    (a29 : PySem.W.nsIn K mainGlobals "is_maker_row" = some (some (.ref f29)))
    (l29 : K.lookup f29 = some ⟨oc29, od29, .func (PySem.W.fnOf "is_maker_row" "is_maker_row" (defArgs s_is_maker_row) (defBody s_is_maker_row) (defScope s_is_maker_row) .none kV29 dc29 pm29 an29 cd29 ct29), sl29⟩)
    (c29 : PySem.W.codeIn K cd29 "is_maker_row" = true)
    (k29 : PySem.W.keepIn K (.ref f29) = true)
    (a30 : PySem.W.nsIn K mainGlobals "are_makers" = some (some (.ref f30)))
    (l30 : K.lookup f30 = some ⟨oc30, od30, .func (PySem.W.fnOf "are_makers" "are_makers" (defArgs s_are_makers) (defBody s_are_makers) (defScope s_are_makers) .none kV30 dc30 pm30 an30 cd30 ct30), sl30⟩)
    (c30 : PySem.W.codeIn K cd30 "are_makers" = true)
    (k30 : PySem.W.keepIn K (.ref f30) = true)
    (a31 : PySem.W.findIn K (.ref C_Kind) "__init__" = some (some (.ref f31)))
    (i31 : PySem.W.isFn K (.ref f31) = true)
    (l31 : K.lookup f31 = some ⟨oc31, od31, .func (PySem.W.fnOf "__init__" "Kind.__init__" (defArgs s_Kind___init__) (defBody s_Kind___init__) (defScope s_Kind___init__) .none kV31 dc31 pm31 an31 cd31 ct31), sl31⟩)
    (c31 : PySem.W.codeIn K cd31 "Kind.__init__" = true)
    (k31 : PySem.W.keepIn K (.ref f31) = true)
    (a32 : PySem.W.findIn K (.ref C_Kind) "__len__" = some (some (.ref f32)))
    (i32 : PySem.W.isFn K (.ref f32) = true)
    (l32 : K.lookup f32 = some ⟨oc32, od32, .func (PySem.W.fnOf "__len__" "Kind.__len__" (defArgs s_Kind___len__) (defBody s_Kind___len__) (defScope s_Kind___len__) .none kV32 dc32 pm32 an32 cd32 ct32), sl32⟩)
    (c32 : PySem.W.codeIn K cd32 "Kind.__len__" = true)
    (k32 : PySem.W.keepIn K (.ref f32) = true)
    (a33 : PySem.W.findIn K (.ref C_Kind) "sure_maker" = some (some (.ref f33)))
    (i33 : PySem.W.isFn K (.ref f33) = true)
    (l33 : K.lookup f33 = some ⟨oc33, od33, .func (PySem.W.fnOf "sure_maker" "Kind.sure_maker" (defArgs s_Kind_sure_maker) (defBody s_Kind_sure_maker) (defScope s_Kind_sure_maker) .none kV33 dc33 pm33 an33 cd33 ct33), sl33⟩)
    (c33 : PySem.W.codeIn K cd33 "Kind.sure_maker" = true)
    (k33 : PySem.W.keepIn K (.ref f33) = true)
    (a34 : PySem.W.findIn K (.ref C_Kind) "within" = some (some (.ref f34)))
    (i34 : PySem.W.isFn K (.ref f34) = true)
    (l34 : K.lookup f34 = some ⟨oc34, od34, .func (PySem.W.fnOf "within" "Kind.within" (defArgs s_Kind_within) (defBody s_Kind_within) (defScope s_Kind_within) .none kV34 dc34 pm34 an34 cd34 ct34), sl34⟩)
    (c34 : PySem.W.codeIn K cd34 "Kind.within" = true)
    (k34 : PySem.W.keepIn K (.ref f34) = true)
    (a35 : PySem.W.nsIn K mainGlobals "tree_end" = some (some (.ref f35)))
    (l35 : K.lookup f35 = some ⟨oc35, od35, .func (PySem.W.fnOf "tree_end" "tree_end" (defArgs s_tree_end) (defBody s_tree_end) (defScope s_tree_end) .none kV35 dc35 pm35 an35 cd35 ct35), sl35⟩)
    (c35 : PySem.W.codeIn K cd35 "tree_end" = true)
    (k35 : PySem.W.keepIn K (.ref f35) = true)
    (a36 : PySem.W.nsIn K mainGlobals "slot_begin" = some (some (.ref f36)))
    (l36 : K.lookup f36 = some ⟨oc36, od36, .func (PySem.W.fnOf "slot_begin" "slot_begin" (defArgs s_slot_begin) (defBody s_slot_begin) (defScope s_slot_begin) .none kV36 dc36 pm36 an36 cd36 ct36), sl36⟩)
    (c36 : PySem.W.codeIn K cd36 "slot_begin" = true)
    (k36 : PySem.W.keepIn K (.ref f36) = true)
    (a37 : PySem.W.nsIn K mainGlobals "opened_forms" = some (some (.ref f37)))
    (l37 : K.lookup f37 = some ⟨oc37, od37, .func (PySem.W.fnOf "opened_forms" "opened_forms" (defArgs s_opened_forms) (defBody s_opened_forms) (defScope s_opened_forms) .none kV37 dc37 pm37 an37 cd37 ct37), sl37⟩)
    (c37 : PySem.W.codeIn K cd37 "opened_forms" = true)
    (k37 : PySem.W.keepIn K (.ref f37) = true)
    (a38 : PySem.W.nsIn K mainGlobals "is_order" = some (some (.ref f38)))
    (l38 : K.lookup f38 = some ⟨oc38, od38, .func (PySem.W.fnOf "is_order" "is_order" (defArgs s_is_order) (defBody s_is_order) (defScope s_is_order) .none kV38 dc38 pm38 an38 cd38 ct38), sl38⟩)
    (c38 : PySem.W.codeIn K cd38 "is_order" = true)
    (k38 : PySem.W.keepIn K (.ref f38) = true)
    (a39 : PySem.W.nsIn K mainGlobals "rack_unless" = some (some (.ref f39)))
    (l39 : K.lookup f39 = some ⟨oc39, od39, .func (PySem.W.fnOf "rack_unless" "rack_unless" (defArgs s_rack_unless) (defBody s_rack_unless) (defScope s_rack_unless) .none kV39 dc39 pm39 an39 cd39 ct39), sl39⟩)
    (c39 : PySem.W.codeIn K cd39 "rack_unless" = true)
    (k39 : PySem.W.keepIn K (.ref f39) = true)
    (a40 : PySem.W.nsIn K mainGlobals "can_do" = some (some (.ref f40)))
    (l40 : K.lookup f40 = some ⟨oc40, od40, .func (PySem.W.fnOf "can_do" "can_do" (defArgs s_can_do) (defBody s_can_do) (defScope s_can_do) .none kV40 dc40 pm40 an40 cd40 ct40), sl40⟩)
    (c40 : PySem.W.codeIn K cd40 "can_do" = true)
    (k40 : PySem.W.keepIn K (.ref f40) = true)
    (a41 : PySem.W.nsIn K mainGlobals "forms_after" = some (some (.ref f41)))
    (l41 : K.lookup f41 = some ⟨oc41, od41, .func (PySem.W.fnOf "forms_after" "forms_after" (defArgs s_forms_after) (defBody s_forms_after) (defScope s_forms_after) .none kV41 dc41 pm41 an41 cd41 ct41), sl41⟩)
    (c41 : PySem.W.codeIn K cd41 "forms_after" = true)
    (k41 : PySem.W.keepIn K (.ref f41) = true)
    (a42 : PySem.W.nsIn K mainGlobals "rack_after" = some (some (.ref f42)))
    (l42 : K.lookup f42 = some ⟨oc42, od42, .func (PySem.W.fnOf "rack_after" "rack_after" (defArgs s_rack_after) (defBody s_rack_after) (defScope s_rack_after) .none kV42 dc42 pm42 an42 cd42 ct42), sl42⟩)
    (c42 : PySem.W.codeIn K cd42 "rack_after" = true)
    (k42 : PySem.W.keepIn K (.ref f42) = true)
    (a43 : PySem.W.nsIn K mainGlobals "undone_step" = some (some (.ref f43)))
    (l43 : K.lookup f43 = some ⟨oc43, od43, .func (PySem.W.fnOf "undone_step" "undone_step" (defArgs s_undone_step) (defBody s_undone_step) (defScope s_undone_step) .none kV43 dc43 pm43 an43 cd43 ct43), sl43⟩)
    (c43 : PySem.W.codeIn K cd43 "undone_step" = true)
    (k43 : PySem.W.keepIn K (.ref f43) = true)
    (a44 : PySem.W.nsIn K mainGlobals "moved" = some (some (.ref f44)))
    (l44 : K.lookup f44 = some ⟨oc44, od44, .func (PySem.W.fnOf "moved" "moved" (defArgs s_moved) (defBody s_moved) (defScope s_moved) .none kV44 dc44 pm44 an44 cd44 ct44), sl44⟩)
    (c44 : PySem.W.codeIn K cd44 "moved" = true)
    (k44 : PySem.W.keepIn K (.ref f44) = true)
    (a45 : PySem.W.nsIn K mainGlobals "racks_on" = some (some (.ref f45)))
    (l45 : K.lookup f45 = some ⟨oc45, od45, .func (PySem.W.fnOf "racks_on" "racks_on" (defArgs s_racks_on) (defBody s_racks_on) (defScope s_racks_on) .none kV45 dc45 pm45 an45 cd45 ct45), sl45⟩)
    (c45 : PySem.W.codeIn K cd45 "racks_on" = true)
    (k45 : PySem.W.keepIn K (.ref f45) = true)
    (a46 : PySem.W.findIn K (.ref C_Turning) "__init__" = some (some (.ref f46)))
    (i46 : PySem.W.isFn K (.ref f46) = true)
    (l46 : K.lookup f46 = some ⟨oc46, od46, .func (PySem.W.fnOf "__init__" "Turning.__init__" (defArgs s_Turning___init__) (defBody s_Turning___init__) (defScope s_Turning___init__) .none kV46 dc46 pm46 an46 cd46 ct46), sl46⟩)
    (c46 : PySem.W.codeIn K cd46 "Turning.__init__" = true)
    (k46 : PySem.W.keepIn K (.ref f46) = true)
    (a47 : PySem.W.findIn K (.ref C_Turning) "run" = some (some (.ref f47)))
    (i47 : PySem.W.isFn K (.ref f47) = true)
    (l47 : K.lookup f47 = some ⟨oc47, od47, .func (PySem.W.fnOf "run" "Turning.run" (defArgs s_Turning_run) (defBody s_Turning_run) (defScope s_Turning_run) .none kV47 dc47 pm47 an47 cd47 ct47), sl47⟩)
    (c47 : PySem.W.codeIn K cd47 "Turning.run" = true)
    (k47 : PySem.W.keepIn K (.ref f47) = true)
    (a48 : PySem.W.findIn K (.ref C_Turning) "back" = some (some (.ref f48)))
    (i48 : PySem.W.isFn K (.ref f48) = true)
    (l48 : K.lookup f48 = some ⟨oc48, od48, .func (PySem.W.fnOf "back" "Turning.back" (defArgs s_Turning_back) (defBody s_Turning_back) (defScope s_Turning_back) .none kV48 dc48 pm48 an48 cd48 ct48), sl48⟩)
    (c48 : PySem.W.codeIn K cd48 "Turning.back" = true)
    (k48 : PySem.W.keepIn K (.ref f48) = true)
    (a49 : PySem.W.nsIn K mainGlobals "_law_well" = some (some (.ref f49)))
    (l49 : K.lookup f49 = some ⟨oc49, od49, .func (PySem.W.fnOf "_law_well" "_law_well" (defArgs s__law_well) (defBody s__law_well) (defScope s__law_well) .none kV49 dc49 pm49 an49 cd49 ct49), sl49⟩)
    (c49 : PySem.W.codeIn K cd49 "_law_well" = true)
    (k49 : PySem.W.keepIn K (.ref f49) = true)
    (a50 : PySem.W.nsIn K mainGlobals "_law_draw" = some (some (.ref f50)))
    (l50 : K.lookup f50 = some ⟨oc50, od50, .func (PySem.W.fnOf "_law_draw" "_law_draw" (defArgs s__law_draw) (defBody s__law_draw) (defScope s__law_draw) .none kV50 dc50 pm50 an50 cd50 ct50), sl50⟩)
    (c50 : PySem.W.codeIn K cd50 "_law_draw" = true)
    (k50 : PySem.W.keepIn K (.ref f50) = true)
    (a51 : PySem.W.nsIn K mainGlobals "_law_within" = some (some (.ref f51)))
    (l51 : K.lookup f51 = some ⟨oc51, od51, .func (PySem.W.fnOf "_law_within" "_law_within" (defArgs s__law_within) (defBody s__law_within) (defScope s__law_within) .none kV51 dc51 pm51 an51 cd51 ct51), sl51⟩)
    (c51 : PySem.W.codeIn K cd51 "_law_within" = true)
    (k51 : PySem.W.keepIn K (.ref f51) = true)
    (a52 : PySem.W.nsIn K mainGlobals "_law_house" = some (some (.ref f52)))
    (l52 : K.lookup f52 = some ⟨oc52, od52, .func (PySem.W.fnOf "_law_house" "_law_house" (defArgs s__law_house) (defBody s__law_house) (defScope s__law_house) .none kV52 dc52 pm52 an52 cd52 ct52), sl52⟩)
    (c52 : PySem.W.codeIn K cd52 "_law_house" = true)
    (k52 : PySem.W.keepIn K (.ref f52) = true)
    (a53 : PySem.W.nsIn K mainGlobals "_law_tree" = some (some (.ref f53)))
    (l53 : K.lookup f53 = some ⟨oc53, od53, .func (PySem.W.fnOf "_law_tree" "_law_tree" (defArgs s__law_tree) (defBody s__law_tree) (defScope s__law_tree) .none kV53 dc53 pm53 an53 cd53 ct53), sl53⟩)
    (c53 : PySem.W.codeIn K cd53 "_law_tree" = true)
    (k53 : PySem.W.keepIn K (.ref f53) = true)
    (a54 : PySem.W.nsIn K mainGlobals "_law_plan" = some (some (.ref f54)))
    (l54 : K.lookup f54 = some ⟨oc54, od54, .func (PySem.W.fnOf "_law_plan" "_law_plan" (defArgs s__law_plan) (defBody s__law_plan) (defScope s__law_plan) .none kV54 dc54 pm54 an54 cd54 ct54), sl54⟩)
    (c54 : PySem.W.codeIn K cd54 "_law_plan" = true)
    (k54 : PySem.W.keepIn K (.ref f54) = true)
    (a55 : PySem.W.nsIn K mainGlobals "_law_count" = some (some (.ref f55)))
    (l55 : K.lookup f55 = some ⟨oc55, od55, .func (PySem.W.fnOf "_law_count" "_law_count" (defArgs s__law_count) (defBody s__law_count) (defScope s__law_count) .none kV55 dc55 pm55 an55 cd55 ct55), sl55⟩)
    (c55 : PySem.W.codeIn K cd55 "_law_count" = true)
    (k55 : PySem.W.keepIn K (.ref f55) = true)
    (a56 : PySem.W.nsIn K mainGlobals "_law_all" = some (some (.ref f56)))
    (l56 : K.lookup f56 = some ⟨oc56, od56, .func (PySem.W.fnOf "_law_all" "_law_all" (defArgs s__law_all) (defBody s__law_all) (defScope s__law_all) .none kV56 dc56 pm56 an56 cd56 ct56), sl56⟩)
    (c56 : PySem.W.codeIn K cd56 "_law_all" = true)
    (k56 : PySem.W.keepIn K (.ref f56) = true)
    (a57 : PySem.W.nsIn K mainGlobals "_law_signs" = some (some (.ref f57)))
    (l57 : K.lookup f57 = some ⟨oc57, od57, .func (PySem.W.fnOf "_law_signs" "_law_signs" (defArgs s__law_signs) (defBody s__law_signs) (defScope s__law_signs) .none kV57 dc57 pm57 an57 cd57 ct57), sl57⟩)
    (c57 : PySem.W.codeIn K cd57 "_law_signs" = true)
    (k57 : PySem.W.keepIn K (.ref f57) = true)
    (a58 : PySem.W.nsIn K mainGlobals "_law_spots" = some (some (.ref f58)))
    (l58 : K.lookup f58 = some ⟨oc58, od58, .func (PySem.W.fnOf "_law_spots" "_law_spots" (defArgs s__law_spots) (defBody s__law_spots) (defScope s__law_spots) .none kV58 dc58 pm58 an58 cd58 ct58), sl58⟩)
    (c58 : PySem.W.codeIn K cd58 "_law_spots" = true)
    (k58 : PySem.W.keepIn K (.ref f58) = true)
    (a59 : PySem.W.nsIn K mainGlobals "_law_steps" = some (some (.ref f59)))
    (l59 : K.lookup f59 = some ⟨oc59, od59, .func (PySem.W.fnOf "_law_steps" "_law_steps" (defArgs s__law_steps) (defBody s__law_steps) (defScope s__law_steps) .none kV59 dc59 pm59 an59 cd59 ct59), sl59⟩)
    (c59 : PySem.W.codeIn K cd59 "_law_steps" = true)
    (k59 : PySem.W.keepIn K (.ref f59) = true)
    (a60 : PySem.W.nsIn K mainGlobals "_law_trees" = some (some (.ref f60)))
    (l60 : K.lookup f60 = some ⟨oc60, od60, .func (PySem.W.fnOf "_law_trees" "_law_trees" (defArgs s__law_trees) (defBody s__law_trees) (defScope s__law_trees) .none kV60 dc60 pm60 an60 cd60 ct60), sl60⟩)
    (c60 : PySem.W.codeIn K cd60 "_law_trees" = true)
    (k60 : PySem.W.keepIn K (.ref f60) = true)
    (a61 : PySem.W.nsIn K mainGlobals "law" = some (some (.ref f61)))
    (l61 : K.lookup f61 = some ⟨oc61, od61, .func (PySem.W.fnOf "law" "law" (defArgs s_law) (defBody s_law) (defScope s_law) .none kV61 dc61 pm61 an61 cd61 ct61), sl61⟩)
    (c61 : PySem.W.codeIn K cd61 "law" = true)
    (k61 : PySem.W.keepIn K (.ref f61) = true)
    (n_Kind_rows : PySem.W.findIn K (.ref C_Kind) "rows" = some none)
    (n_Turning_kind : PySem.W.findIn K (.ref C_Turning) "kind" = some none)
    (n_Turning_passed : PySem.W.findIn K (.ref C_Turning) "passed" = some none)
    (n_Turning_done : PySem.W.findIn K (.ref C_Turning) "done" = some none)
    (n_Turning_begin : PySem.W.findIn K (.ref C_Turning) "begin" = some none)
    (n_Turning_end : PySem.W.findIn K (.ref C_Turning) "end" = some none)
    (z_len : PySem.W.nsIn K mainGlobals "len" = some none)
    (z_isinstance : PySem.W.nsIn K mainGlobals "isinstance" = some none)
    (z_all : PySem.W.nsIn K mainGlobals "all" = some none)
    (z_sum : PySem.W.nsIn K mainGlobals "sum" = some none)
    (z_max : PySem.W.nsIn K mainGlobals "max" = some none)
    (z_divmod : PySem.W.nsIn K mainGlobals "divmod" = some none)
    (z_sorted : PySem.W.nsIn K mainGlobals "sorted" = some none)
    (z_tuple : PySem.W.nsIn K mainGlobals "tuple" = some none)
    (z_list : PySem.W.nsIn K mainGlobals "list" = some none)
    (z_int : PySem.W.nsIn K mainGlobals "int" = some none)
    (z_dict : PySem.W.nsIn K mainGlobals "dict" = some none)
    (z_set : PySem.W.nsIn K mainGlobals "set" = some none)
    (z_range : PySem.W.nsIn K mainGlobals "range" = some none)
    (z_enumerate : PySem.W.nsIn K mainGlobals "enumerate" = some none)
    (z_zip : PySem.W.nsIn K mainGlobals "zip" = some none)
    (z_reversed : PySem.W.nsIn K mainGlobals "reversed" = some none)
    (z_str : PySem.W.nsIn K mainGlobals "str" = some none)
    (z_bool : PySem.W.nsIn K mainGlobals "bool" = some none)
    (v_MOST_FORMS : PySem.W.nsIn K mainGlobals "MOST_FORMS" = some (some (.int 4000 t_MOST_FORMS)))
    (v_MOST_TREES : PySem.W.nsIn K mainGlobals "MOST_TREES" = some (some (.int 200 t_MOST_TREES)))
    (v_MOST_DEEP : PySem.W.nsIn K mainGlobals "MOST_DEEP" = some (some (.int 12 t_MOST_DEEP)))
    (v_LETTERS : PySem.W.nsIn K mainGlobals "LETTERS" = some (some (.str "abcdefghijklmnopqrstuvwxyz" t_LETTERS)))
    (v_MOST_LETTERS : PySem.W.nsIn K mainGlobals "MOST_LETTERS" = some (some (.int 8 t_MOST_LETTERS)))
    (v_MOST_MAKERS : PySem.W.nsIn K mainGlobals "MOST_MAKERS" = some (some (.int 5 t_MOST_MAKERS)))
    (v_MOST_WITHIN : PySem.W.nsIn K mainGlobals "MOST_WITHIN" = some (some (.int 4 t_MOST_WITHIN)))
    (v_HOLE : PySem.W.nsIn K mainGlobals "HOLE" = some (some (.int (-1) t_HOLE)))
    (pl : PlainOk w K mg) :
    ∃ fd : FuncData, (∀ (s : Shared) (v : Value), BindsTo s fd ⟨[v], []⟩ [("_law_script", v)]) ∧ ∀ base : Heap, K.In base → base.Ns mainGlobals mg → FnOk l.prog w K mg base CX0 15 fa fd ["_law_script"] (sp_law K) := by
  have e := hfa.symm.trans (PySem.W.mg_of X G a61)
  cases e
  have F0 := fun_mk (st := s_is_whole) l0 c0 k0
  have b0 := F0.binds (ps := ["thing", "low", "high"]) fun _ _ _ _ _ _ us hl => match us, hl with | [_, _, _], _ => rfl
  have F1 := fun_mk (st := s_ends_in) l1 c1 k1
  have b1 := F1.binds (ps := ["kind", "thing"]) fun _ _ _ _ _ _ us hl => match us, hl with | [_, _], _ => rfl
  have F2 := fun_mk (st := s_is_tree) l2 c2 k2
  have b2 := F2.binds (ps := ["kind", "thing"]) fun _ _ _ _ _ _ us hl => match us, hl with | [_, _], _ => rfl
  have F3 := fun_mk (st := s_trees_in) l3 c3 k3
  have b3 := F3.binds (ps := ["kind", "row"]) fun _ _ _ _ _ _ us hl => match us, hl with | [_, _], _ => rfl
  have F4 := fun_mk (st := s_is_rack) l4 c4 k4
  have b4 := F4.binds (ps := ["thing"]) fun _ _ _ _ _ _ us hl => match us, hl with | [_], _ => rfl
  have F5 := fun_mk (st := s_sure_rack) l5 c5 k5
  have b5 := F5.binds (ps := ["thing"]) fun _ _ _ _ _ _ us hl => match us, hl with | [_], _ => rfl
  have F6 := fun_mk (st := s_sure_small) l6 c6 k6
  have b6 := F6.binds (ps := ["rack"]) fun _ _ _ _ _ _ us hl => match us, hl with | [_], _ => rfl
  have F7 := fun_mk (st := s_is_among) l7 c7 k7
  have b7 := F7.binds (ps := ["kind", "rack", "thing"]) fun _ _ _ _ _ _ us hl => match us, hl with | [_, _, _], _ => rfl
  have F8 := fun_mk (st := s_is_thing) l8 c8 k8
  have b8 := F8.binds (ps := ["kind", "rack", "thing"]) fun _ _ _ _ _ _ us hl => match us, hl with | [_, _, _], _ => rfl
  have F9 := fun_mk (st := s_sure_thing) l9 c9 k9
  have b9 := F9.binds (ps := ["kind", "rack", "thing"]) fun _ _ _ _ _ _ us hl => match us, hl with | [_, _, _], _ => rfl
  have F10 := fun_mk (st := s_put_beside) l10 c10 k10
  have b10 := F10.binds (ps := ["one", "two"]) fun _ _ _ _ _ _ us hl => match us, hl with | [_, _], _ => rfl
  have F11 := fun_mk (st := s_put_left) l11 c11 k11
  have b11 := F11.binds (ps := ["kind", "one", "two", "thing"]) fun _ _ _ _ _ _ us hl => match us, hl with | [_, _, _, _], _ => rfl
  have F12 := fun_mk (st := s_put_right) l12 c12 k12
  have b12 := F12.binds (ps := ["kind", "one", "two", "thing"]) fun _ _ _ _ _ _ us hl => match us, hl with | [_, _, _, _], _ => rfl
  have F13 := fun_mk (st := s_side_of) l13 c13 k13
  have b13 := F13.binds (ps := ["kind", "one", "two", "thing"]) fun _ _ _ _ _ _ us hl => match us, hl with | [_, _, _, _], _ => rfl
  have F14 := fun_mk (st := s_put_times) l14 c14 k14
  have b14 := F14.binds (ps := ["one", "two"]) fun _ _ _ _ _ _ us hl => match us, hl with | [_, _], _ => rfl
  have F15 := fun_mk (st := s_paired) l15 c15 k15
  have b15 := F15.binds (ps := ["kind", "one", "two", "thing", "other"]) fun _ _ _ _ _ _ us hl => match us, hl with | [_, _, _, _, _], _ => rfl
  have F16 := fun_mk (st := s_unpaired) l16 c16 k16
  have b16 := F16.binds (ps := ["kind", "one", "two", "thing"]) fun _ _ _ _ _ _ us hl => match us, hl with | [_, _, _, _], _ => rfl
  have F17 := fun_mk (st := s_is_within) l17 c17 k17
  have b17 := F17.binds (ps := ["thing", "deep"]) fun _ _ _ _ _ _ us hl => match us, hl with | [_, _], _ => rfl
  have F18 := fun_mk (st := s_is_shape) l18 c18 k18
  have b18 := F18.binds (ps := ["thing"]) fun _ _ _ _ _ _ us hl => match us, hl with | [_], _ => rfl
  have F19 := fun_mk (st := s_asked_shape) l19 c19 k19
  have b19 := F19.binds (ps := ["thing"]) fun _ _ _ _ _ _ us hl => match us, hl with | [_], _ => rfl
  have F20 := fun_mk (st := s_is_side) l20 c20 k20
  have b20 := F20.binds (ps := ["thing", "word"]) fun _ _ _ _ _ _ us hl => match us, hl with | [_, _], _ => rfl
  have F21 := fun_mk (st := s_has_kind_of) l21 c21 k21
  have b21 := F21.binds (ps := ["kind", "shape", "thing"]) fun _ _ _ _ _ _ us hl => match us, hl with | [_, _, _], _ => rfl
  have F22 := fun_mk (st := s_rack_of) l22 c22 k22
  have b22 := F22.binds (ps := ["shape"]) fun _ _ _ _ _ _ us hl => match us, hl with | [_], _ => rfl
  have F23 := fun_mk (st := s_flat_of) l23 c23 k23
  have b23 := F23.binds (ps := ["shape"]) fun _ _ _ _ _ _ us hl => match us, hl with | [_], _ => rfl
  have F24 := fun_mk (st := s_laid_flat) l24 c24 k24
  have b24 := F24.binds (ps := ["kind", "shape", "thing"]) fun _ _ _ _ _ _ us hl => match us, hl with | [_, _, _], _ => rfl
  have F25 := fun_mk (st := s_flattened) l25 c25 k25
  have b25 := F25.binds (ps := ["kind", "shape", "thing"]) fun _ _ _ _ _ _ us hl => match us, hl with | [_, _, _], _ => rfl
  have F26 := fun_mk (st := s_put_up) l26 c26 k26
  have b26 := F26.binds (ps := ["kind", "shape", "thing"]) fun _ _ _ _ _ _ us hl => match us, hl with | [_, _, _], _ => rfl
  have F27 := fun_mk (st := s_folded) l27 c27 k27
  have b27 := F27.binds (ps := ["kind", "shape", "thing"]) fun _ _ _ _ _ _ us hl => match us, hl with | [_, _, _], _ => rfl
  have F28 := fun_mk (st := s_is_name) l28 c28 k28
  have b28 := F28.binds (ps := ["thing"]) fun _ _ _ _ _ _ us hl => match us, hl with | [_], _ => rfl
  have F29 := fun_mk (st := s_is_maker_row) l29 c29 k29
  have b29 := F29.binds (ps := ["thing"]) fun _ _ _ _ _ _ us hl => match us, hl with | [_], _ => rfl
  have F30 := fun_mk (st := s_are_makers) l30 c30 k30
  have b30 := F30.binds (ps := ["thing"]) fun _ _ _ _ _ _ us hl => match us, hl with | [_], _ => rfl
  have F31 := fun_mk (st := s_Kind___init__) l31 c31 k31
  have b31 := F31.binds (ps := ["self", "makers"]) fun _ _ _ _ _ _ us hl => match us, hl with | [_, _], _ => rfl
  have F32 := fun_mk (st := s_Kind___len__) l32 c32 k32
  have b32 := F32.binds (ps := ["self"]) fun _ _ _ _ _ _ us hl => match us, hl with | [_], _ => rfl
  have F33 := fun_mk (st := s_Kind_sure_maker) l33 c33 k33
  have b33 := F33.binds (ps := ["self", "maker"]) fun _ _ _ _ _ _ us hl => match us, hl with | [_, _], _ => rfl
  have F34 := fun_mk (st := s_Kind_within) l34 c34 k34
  have b34 := F34.binds (ps := ["self", "maker"]) fun _ _ _ _ _ _ us hl => match us, hl with | [_, _], _ => rfl
  have F35 := fun_mk (st := s_tree_end) l35 c35 k35
  have b35 := F35.binds (ps := ["kind", "row", "at"]) fun _ _ _ _ _ _ us hl => match us, hl with | [_, _, _], _ => rfl
  have F36 := fun_mk (st := s_slot_begin) l36 c36 k36
  have b36 := F36.binds (ps := ["kind", "row", "slot"]) fun _ _ _ _ _ _ us hl => match us, hl with | [_, _, _], _ => rfl
  have F37 := fun_mk (st := s_opened_forms) l37 c37 k37
  have b37 := F37.binds (ps := ["kind", "many"]) fun _ _ _ _ _ _ us hl => match us, hl with | [_, _], _ => rfl
  have F38 := fun_mk (st := s_is_order) l38 c38 k38
  have b38 := F38.binds (ps := ["rack", "places"]) fun _ _ _ _ _ _ us hl => match us, hl with | [_, _], _ => rfl
  have F39 := fun_mk (st := s_rack_unless) l39 c39 k39
  have b39 := F39.binds (ps := ["rack"]) fun _ _ _ _ _ _ us hl => match us, hl with | [_], _ => rfl
  have F40 := fun_mk (st := s_can_do) l40 c40 k40
  have b40 := F40.binds (ps := ["kind", "rack", "step"]) fun _ _ _ _ _ _ us hl => match us, hl with | [_, _, _], _ => rfl
  have F41 := fun_mk (st := s_forms_after) l41 c41 k41
  have b41 := F41.binds (ps := ["kind", "rack", "step"]) fun _ _ _ _ _ _ us hl => match us, hl with | [_, _, _], _ => rfl
  have F42 := fun_mk (st := s_rack_after) l42 c42 k42
  have b42 := F42.binds (ps := ["kind", "rack", "step"]) fun _ _ _ _ _ _ us hl => match us, hl with | [_, _, _], _ => rfl
  have F43 := fun_mk (st := s_undone_step) l43 c43 k43
  have b43 := F43.binds (ps := ["step"]) fun _ _ _ _ _ _ us hl => match us, hl with | [_], _ => rfl
  have F44 := fun_mk (st := s_moved) l44 c44 k44
  have b44 := F44.binds (ps := ["kind", "step", "thing"]) fun _ _ _ _ _ _ us hl => match us, hl with | [_, _, _], _ => rfl
  have F45 := fun_mk (st := s_racks_on) l45 c45 k45
  have b45 := F45.binds (ps := ["kind", "rack", "steps"]) fun _ _ _ _ _ _ us hl => match us, hl with | [_, _, _], _ => rfl
  have F46 := fun_mk (st := s_Turning___init__) l46 c46 k46
  have b46 := F46.binds (ps := ["self", "kind", "rack", "steps"]) fun _ _ _ _ _ _ us hl => match us, hl with | [_, _, _, _], _ => rfl
  have F47 := fun_mk (st := s_Turning_run) l47 c47 k47
  have b47 := F47.binds (ps := ["self", "thing"]) fun _ _ _ _ _ _ us hl => match us, hl with | [_, _], _ => rfl
  have F48 := fun_mk (st := s_Turning_back) l48 c48 k48
  have b48 := F48.binds (ps := ["self", "thing"]) fun _ _ _ _ _ _ us hl => match us, hl with | [_, _], _ => rfl
  have F49 := fun_mk (st := s__law_well) l49 c49 k49
  have b49 := F49.binds (ps := ["_law_cell"]) fun _ _ _ _ _ _ us hl => match us, hl with | [_], _ => rfl
  have F50 := fun_mk (st := s__law_draw) l50 c50 k50
  have b50 := F50.binds (ps := ["_law_well_here", "_law_many"]) fun _ _ _ _ _ _ us hl => match us, hl with | [_, _], _ => rfl
  have F51 := fun_mk (st := s__law_within) l51 c51 k51
  have b51 := F51.binds (ps := ["_law_well_here"]) fun _ _ _ _ _ _ us hl => match us, hl with | [_], _ => rfl
  have F52 := fun_mk (st := s__law_house) l52 c52 k52
  have b52 := F52.binds (ps := ["_law_within_here"]) fun _ _ _ _ _ _ us hl => match us, hl with | [_], _ => rfl
  have F53 := fun_mk (st := s__law_tree) l53 c53 k53
  have b53 := F53.binds (ps := ["_law_well_here", "_law_within_here", "_law_size"]) fun _ _ _ _ _ _ us hl => match us, hl with | [_, _, _], _ => rfl
  have F54 := fun_mk (st := s__law_plan) l54 c54 k54
  have b54 := F54.binds (ps := ["_law_well_here", "_law_deep"]) fun _ _ _ _ _ _ us hl => match us, hl with | [_, _], _ => rfl
  have F55 := fun_mk (st := s__law_count) l55 c55 k55
  have b55 := F55.binds (ps := ["_law_plan_here", "_law_many"]) fun _ _ _ _ _ _ us hl => match us, hl with | [_, _], _ => rfl
  have F56 := fun_mk (st := s__law_all) l56 c56 k56
  have b56 := F56.binds (ps := ["_law_plan_here", "_law_trees_here"]) fun _ _ _ _ _ _ us hl => match us, hl with | [_, _], _ => rfl
  have F57 := fun_mk (st := s__law_signs) l57 c57 k57
  have b57 := F57.binds (ps := ["_law_plan_here", "_law_item"]) fun _ _ _ _ _ _ us hl => match us, hl with | [_, _], _ => rfl
  have F58 := fun_mk (st := s__law_spots) l58 c58 k58
  have b58 := F58.binds (ps := ["_law_rack", "_law_trees_here"]) fun _ _ _ _ _ _ us hl => match us, hl with | [_, _], _ => rfl
  have F59 := fun_mk (st := s__law_steps) l59 c59 k59
  have b59 := F59.binds (ps := ["_law_well_here", "_law_within_here", "_law_rack"]) fun _ _ _ _ _ _ us hl => match us, hl with | [_, _, _], _ => rfl
  have F60 := fun_mk (st := s__law_trees) l60 c60 k60
  have b60 := F60.binds (ps := ["_law_well_here", "_law_within_here"]) fun _ _ _ _ _ _ us hl => match us, hl with | [_, _], _ => rfl
  have F61 := fun_mk (st := s_law) l61 c61 k61
  have b61 := F61.binds (ps := ["_law_script"]) fun _ _ _ _ _ _ us hl => match us, hl with | [_], _ => rfl
  obtain ⟨P⟩ := pl
  let T : Tp w K mg := { C_Kind := C_Kind, cl_Kind := ⟨pg_Kind, hd_Kind, po_Kind, sa_Kind⟩, mg_Kind := PySem.W.mg_of X G aC_Kind, C_Turning := C_Turning, cl_Turning := ⟨pg_Turning, hd_Turning, po_Turning, sa_Turning⟩, mg_Turning := PySem.W.mg_of X G aC_Turning, d_is_whole := ⟨_, _, F0, b0, PySem.W.mg_of X G a0⟩, d_ends_in := ⟨_, _, F1, b1, PySem.W.mg_of X G a1⟩, d_is_tree := ⟨_, _, F2, b2, PySem.W.mg_of X G a2⟩, d_trees_in := ⟨_, _, F3, b3, PySem.W.mg_of X G a3⟩, d_is_rack := ⟨_, _, F4, b4, PySem.W.mg_of X G a4⟩, d_sure_rack := ⟨_, _, F5, b5, PySem.W.mg_of X G a5⟩, d_sure_small := ⟨_, _, F6, b6, PySem.W.mg_of X G a6⟩, d_is_among := ⟨_, _, F7, b7, PySem.W.mg_of X G a7⟩, d_is_thing := ⟨_, _, F8, b8, PySem.W.mg_of X G a8⟩, d_sure_thing := ⟨_, _, F9, b9, PySem.W.mg_of X G a9⟩, d_put_beside := ⟨_, _, F10, b10, PySem.W.mg_of X G a10⟩, d_put_left := ⟨_, _, F11, b11, PySem.W.mg_of X G a11⟩, d_put_right := ⟨_, _, F12, b12, PySem.W.mg_of X G a12⟩, d_side_of := ⟨_, _, F13, b13, PySem.W.mg_of X G a13⟩, d_put_times := ⟨_, _, F14, b14, PySem.W.mg_of X G a14⟩, d_paired := ⟨_, _, F15, b15, PySem.W.mg_of X G a15⟩, d_unpaired := ⟨_, _, F16, b16, PySem.W.mg_of X G a16⟩, d_is_within := ⟨_, _, F17, b17, PySem.W.mg_of X G a17⟩, d_is_shape := ⟨_, _, F18, b18, PySem.W.mg_of X G a18⟩, d_asked_shape := ⟨_, _, F19, b19, PySem.W.mg_of X G a19⟩, d_is_side := ⟨_, _, F20, b20, PySem.W.mg_of X G a20⟩, d_has_kind_of := ⟨_, _, F21, b21, PySem.W.mg_of X G a21⟩, d_rack_of := ⟨_, _, F22, b22, PySem.W.mg_of X G a22⟩, d_flat_of := ⟨_, _, F23, b23, PySem.W.mg_of X G a23⟩, d_laid_flat := ⟨_, _, F24, b24, PySem.W.mg_of X G a24⟩, d_flattened := ⟨_, _, F25, b25, PySem.W.mg_of X G a25⟩, d_put_up := ⟨_, _, F26, b26, PySem.W.mg_of X G a26⟩, d_folded := ⟨_, _, F27, b27, PySem.W.mg_of X G a27⟩, d_is_name := ⟨_, _, F28, b28, PySem.W.mg_of X G a28⟩, d_is_maker_row := ⟨_, _, F29, b29, PySem.W.mg_of X G a29⟩, d_are_makers := ⟨_, _, F30, b30, PySem.W.mg_of X G a30⟩, d_Kind___init__ := ⟨_, _, F31, b31, ⟨a31, i31, k31⟩⟩, d_Kind___len__ := ⟨_, _, F32, b32, ⟨a32, i32, k32⟩⟩, d_Kind_sure_maker := ⟨_, _, F33, b33, ⟨a33, i33, k33⟩⟩, d_Kind_within := ⟨_, _, F34, b34, ⟨a34, i34, k34⟩⟩, d_tree_end := ⟨_, _, F35, b35, PySem.W.mg_of X G a35⟩, d_slot_begin := ⟨_, _, F36, b36, PySem.W.mg_of X G a36⟩, d_opened_forms := ⟨_, _, F37, b37, PySem.W.mg_of X G a37⟩, d_is_order := ⟨_, _, F38, b38, PySem.W.mg_of X G a38⟩, d_rack_unless := ⟨_, _, F39, b39, PySem.W.mg_of X G a39⟩, d_can_do := ⟨_, _, F40, b40, PySem.W.mg_of X G a40⟩, d_forms_after := ⟨_, _, F41, b41, PySem.W.mg_of X G a41⟩, d_rack_after := ⟨_, _, F42, b42, PySem.W.mg_of X G a42⟩, d_undone_step := ⟨_, _, F43, b43, PySem.W.mg_of X G a43⟩, d_moved := ⟨_, _, F44, b44, PySem.W.mg_of X G a44⟩, d_racks_on := ⟨_, _, F45, b45, PySem.W.mg_of X G a45⟩, d_Turning___init__ := ⟨_, _, F46, b46, ⟨a46, i46, k46⟩⟩, d_Turning_run := ⟨_, _, F47, b47, ⟨a47, i47, k47⟩⟩, d_Turning_back := ⟨_, _, F48, b48, ⟨a48, i48, k48⟩⟩, d__law_well := ⟨_, _, F49, b49, PySem.W.mg_of X G a49⟩, d__law_draw := ⟨_, _, F50, b50, PySem.W.mg_of X G a50⟩, d__law_within := ⟨_, _, F51, b51, PySem.W.mg_of X G a51⟩, d__law_house := ⟨_, _, F52, b52, PySem.W.mg_of X G a52⟩, d__law_tree := ⟨_, _, F53, b53, PySem.W.mg_of X G a53⟩, d__law_plan := ⟨_, _, F54, b54, PySem.W.mg_of X G a54⟩, d__law_count := ⟨_, _, F55, b55, PySem.W.mg_of X G a55⟩, d__law_all := ⟨_, _, F56, b56, PySem.W.mg_of X G a56⟩, d__law_signs := ⟨_, _, F57, b57, PySem.W.mg_of X G a57⟩, d__law_spots := ⟨_, _, F58, b58, PySem.W.mg_of X G a58⟩, d__law_steps := ⟨_, _, F59, b59, PySem.W.mg_of X G a59⟩, d__law_trees := ⟨_, _, F60, b60, PySem.W.mg_of X G a60⟩, d_law := ⟨_, _, F61, b61, PySem.W.mg_of X G a61⟩, mk_Kind := ⟨mk_Kind, a31, i31, kc_Kind⟩, mk_Turning := ⟨mk_Turning, a46, i46, kc_Turning⟩, a_Kind_rows := n_Kind_rows, a_Turning_kind := n_Turning_kind, a_Turning_passed := n_Turning_passed, a_Turning_done := n_Turning_done, a_Turning_begin := n_Turning_begin, a_Turning_end := n_Turning_end, n_len := PySem.W.mg_none_of X G z_len, n_isinstance := PySem.W.mg_none_of X G z_isinstance, n_all := PySem.W.mg_none_of X G z_all, n_sum := PySem.W.mg_none_of X G z_sum, n_max := PySem.W.mg_none_of X G z_max, n_divmod := PySem.W.mg_none_of X G z_divmod, n_sorted := PySem.W.mg_none_of X G z_sorted, n_tuple := PySem.W.mg_none_of X G z_tuple, n_list := PySem.W.mg_none_of X G z_list, n_int := PySem.W.mg_none_of X G z_int, n_dict := PySem.W.mg_none_of X G z_dict, n_set := PySem.W.mg_none_of X G z_set, n_range := PySem.W.mg_none_of X G z_range, n_enumerate := PySem.W.mg_none_of X G z_enumerate, n_zip := PySem.W.mg_none_of X G z_zip, n_reversed := PySem.W.mg_none_of X G z_reversed, n_str := PySem.W.mg_none_of X G z_str, n_bool := PySem.W.mg_none_of X G z_bool, c_MOST_FORMS := ⟨_, PySem.W.mg_of X G v_MOST_FORMS, ⟨_, rfl⟩⟩, c_MOST_TREES := ⟨_, PySem.W.mg_of X G v_MOST_TREES, ⟨_, rfl⟩⟩, c_MOST_DEEP := ⟨_, PySem.W.mg_of X G v_MOST_DEEP, ⟨_, rfl⟩⟩, c_LETTERS := ⟨_, PySem.W.mg_of X G v_LETTERS, ⟨_, rfl⟩⟩, c_MOST_LETTERS := ⟨_, PySem.W.mg_of X G v_MOST_LETTERS, ⟨_, rfl⟩⟩, c_MOST_MAKERS := ⟨_, PySem.W.mg_of X G v_MOST_MAKERS, ⟨_, rfl⟩⟩, c_MOST_WITHIN := ⟨_, PySem.W.mg_of X G v_MOST_WITHIN, ⟨_, rfl⟩⟩, c_HOLE := ⟨_, PySem.W.mg_of X G v_HOLE, ⟨_, rfl⟩⟩, pl := P.a, kd_es := P.es, kd_n := P.n, c_PLAIN := P.c, kd_PLAIN := P.k, pa_none := P.p_none, pk_none := P.k_none, pt_none := P.t_none, pa_one := P.p_one, pk_one := P.k_one, pt_one := P.t_one, pa_tree := P.p_tree, pk_tree := P.k_tree, pt_tree := P.t_tree }
  exact ⟨_, fun s v => .of_eq rfl, fun base _ _ => ok_law T⟩
theorem walk {l : PySem.W.OpenLaw} {q : Program} {loose : List Str} {XP : (Str → Option Value) → Heap → Prop} {YP : World → Heap → Prop} {d : DefRec} {K : Params → PySem.W.Frag} (hn : l.most = some 63) (hdf : d.params.defaults = [])
    (hY : ∀ (w : World) (h : Heap), YP w h → (K w.params).In h)
    (F : ∀ (w : World) (mg : Str → Option Value) (fa : Addr) (h : Heap), (K w.params).In h → h.Ns mainGlobals mg → mg d.name = some (.ref fa) →
      ∃ fd : FuncData, (∀ (s : Shared) (u : Value), BindsTo s fd ⟨[u], []⟩ [("_law_script", u)]) ∧ ∀ base : Heap, (K w.params).In base → base.Ns mainGlobals mg → FnOk l.prog w (K w.params) mg base CX0 15 fa fd ["_law_script"] (sp_law (K w.params))) :
    PySem.W.WalkO q loose XP YP l.row.toRowW d [] (fun f vs => PySem.call f vs) :=
  L2.walk_of (n := 63) (k := 15) (x := "_law_script") (CX := fun _ => CX0) (sp := fun w => sp_law (K w.params)) hn (by decide) hdf ⟨rfl, by decide, by decide⟩ hY F (fun _ _ a ns hl _ hS => ⟨a, ns, rfl, hS, hl, fun _ => rfl⟩) fun _ _ _ _ _ z => z
end Bs
open PySem PySem.W PyProof.Rows
set_option maxRecDepth 100000 in
set_option maxHeartbeats 0 in
theorem PySem.Challenge.cw_boughswap_k30_whole_shapes_lose_nothing_holds : PySem.Challenge.rw_boughswap_k30_whole_shapes_lose_nothing.Holds := by
  w_on; o_law; k_head; (case hw => w_witness2)
  k_fill
  refine Bs.walk (l := PySem.Challenge.rw_boughswap_k30_whole_shapes_lose_nothing) rfl rfl (fun w h Y => PySem.W.kIn_of Y) ?F
  case F =>
    intro w mg fa h KX G hmg
    refine' Bs.all_mk KX G hmg ?aC_Kind ?pg_Kind ?hd_Kind ?po_Kind ?sa_Kind ?mk_Kind ?kc_Kind ?aC_Turning ?pg_Turning ?hd_Turning ?po_Turning ?sa_Turning ?mk_Turning ?kc_Turning ?a0 ?l0 ?c0 ?k0 ?a1 ?l1 ?c1 ?k1 ?a2 ?l2 ?c2 ?k2 ?a3 ?l3 ?c3 ?k3 ?a4 ?l4 ?c4 ?k4 ?a5 ?l5 ?c5 ?k5 ?a6 ?l6 ?c6 ?k6 ?a7 ?l7 ?c7 ?k7 ?a8 ?l8 ?c8 ?k8 ?a9 ?l9 ?c9 ?k9 ?a10 ?l10 ?c10 ?k10 ?a11 ?l11 ?c11 ?k11 ?a12 ?l12 ?c12 ?k12 ?a13 ?l13 ?c13 ?k13 ?a14 ?l14 ?c14 ?k14 ?a15 ?l15 ?c15 ?k15 ?a16 ?l16 ?c16 ?k16 ?a17 ?l17 ?c17 ?k17 ?a18 ?l18 ?c18 ?k18 ?a19 ?l19 ?c19 ?k19 ?a20 ?l20 ?c20 ?k20 ?a21 ?l21 ?c21 ?k21 ?a22 ?l22 ?c22 ?k22 ?a23 ?l23 ?c23 ?k23 ?a24 ?l24 ?c24 ?k24 ?a25 ?l25 ?c25 ?k25 ?a26 ?l26 ?c26 ?k26 ?a27 ?l27 ?c27 ?k27 ?a28 ?l28 ?c28 ?k28 ?a29 ?l29 ?c29 ?k29 ?a30 ?l30 ?c30 ?k30 ?a31 ?i31 ?l31 ?c31 ?k31 ?a32 ?i32 ?l32 ?c32 ?k32 ?a33 ?i33 ?l33 ?c33 ?k33 ?a34 ?i34 ?l34 ?c34 ?k34 ?a35 ?l35 ?c35 ?k35 ?a36 ?l36 ?c36 ?k36 ?a37 ?l37 ?c37 ?k37 ?a38 ?l38 ?c38 ?k38 ?a39 ?l39 ?c39 ?k39 ?a40 ?l40 ?c40 ?k40 ?a41 ?l41 ?c41 ?k41 ?a42 ?l42 ?c42 ?k42 ?a43 ?l43 ?c43 ?k43 ?a44 ?l44 ?c44 ?k44 ?a45 ?l45 ?c45 ?k45 ?a46 ?i46 ?l46 ?c46 ?k46 ?a47 ?i47 ?l47 ?c47 ?k47 ?a48 ?i48 ?l48 ?c48 ?k48 ?a49 ?l49 ?c49 ?k49 ?a50 ?l50 ?c50 ?k50 ?a51 ?l51 ?c51 ?k51 ?a52 ?l52 ?c52 ?k52 ?a53 ?l53 ?c53 ?k53 ?a54 ?l54 ?c54 ?k54 ?a55 ?l55 ?c55 ?k55 ?a56 ?l56 ?c56 ?k56 ?a57 ?l57 ?c57 ?k57 ?a58 ?l58 ?c58 ?k58 ?a59 ?l59 ?c59 ?k59 ?a60 ?l60 ?c60 ?k60 ?a61 ?l61 ?c61 ?k61 ?n_Kind_rows ?n_Turning_kind ?n_Turning_passed ?n_Turning_done ?n_Turning_begin ?n_Turning_end ?z_len ?z_isinstance ?z_all ?z_sum ?z_max ?z_divmod ?z_sorted ?z_tuple ?z_list ?z_int ?z_dict ?z_set ?z_range ?z_enumerate ?z_zip ?z_reversed ?z_str ?z_bool ?v_MOST_FORMS ?v_MOST_TREES ?v_MOST_DEEP ?v_LETTERS ?v_MOST_LETTERS ?v_MOST_MAKERS ?v_MOST_WITHIN ?v_HOLE ?pl
    (case aC_Kind => k_is)
    (case pg_Kind => k_is)
    (case hd_Kind => k_is)
    (case po_Kind => k_is)
    (case sa_Kind => k_is)
    (case mk_Kind => k_is)
    (case kc_Kind => k_is)
    (case aC_Turning => k_is)
    (case pg_Turning => k_is)
    (case hd_Turning => k_is)
    (case po_Turning => k_is)
    (case sa_Turning => k_is)
    (case mk_Turning => k_is)
    (case kc_Turning => k_is)
    (case a0 => k_is)
    (case l0 => k_is)
    (case c0 => k_is)
    (case k0 => k_is)
    (case a1 => k_is)
    (case l1 => k_is)
    (case c1 => k_is)
    (case k1 => k_is)
    (case a2 => k_is)
    (case l2 => k_is)
    (case c2 => k_is)
    (case k2 => k_is)
    (case a3 => k_is)
    (case l3 => k_is)
    (case c3 => k_is)
    (case k3 => k_is)
    (case a4 => k_is)
    (case l4 => k_is)
    (case c4 => k_is)
    (case k4 => k_is)
    (case a5 => k_is)
    (case l5 => k_is)
    (case c5 => k_is)
    (case k5 => k_is)
    (case a6 => k_is)
    (case l6 => k_is)
    (case c6 => k_is)
    (case k6 => k_is)
    (case a7 => k_is)
    (case l7 => k_is)
    (case c7 => k_is)
    (case k7 => k_is)
    (case a8 => k_is)
    (case l8 => k_is)
    (case c8 => k_is)
    (case k8 => k_is)
    (case a9 => k_is)
    (case l9 => k_is)
    (case c9 => k_is)
    (case k9 => k_is)
    (case a10 => k_is)
    (case l10 => k_is)
    (case c10 => k_is)
    (case k10 => k_is)
    (case a11 => k_is)
    (case l11 => k_is)
    (case c11 => k_is)
    (case k11 => k_is)
    (case a12 => k_is)
    (case l12 => k_is)
    (case c12 => k_is)
    (case k12 => k_is)
    (case a13 => k_is)
    (case l13 => k_is)
    (case c13 => k_is)
    (case k13 => k_is)
    (case a14 => k_is)
    (case l14 => k_is)
    (case c14 => k_is)
    (case k14 => k_is)
    (case a15 => k_is)
    (case l15 => k_is)
    (case c15 => k_is)
    (case k15 => k_is)
    (case a16 => k_is)
    (case l16 => k_is)
    (case c16 => k_is)
    (case k16 => k_is)
    (case a17 => k_is)
    (case l17 => k_is)
    (case c17 => k_is)
    (case k17 => k_is)
    (case a18 => k_is)
    (case l18 => k_is)
    (case c18 => k_is)
    (case k18 => k_is)
    (case a19 => k_is)
    (case l19 => k_is)
    (case c19 => k_is)
    (case k19 => k_is)
    (case a20 => k_is)
    (case l20 => k_is)
    (case c20 => k_is)
    (case k20 => k_is)
    (case a21 => k_is)
    (case l21 => k_is)
    (case c21 => k_is)
    (case k21 => k_is)
    (case a22 => k_is)
    (case l22 => k_is)
    (case c22 => k_is)
    (case k22 => k_is)
    (case a23 => k_is)
    (case l23 => k_is)
    (case c23 => k_is)
    (case k23 => k_is)
    (case a24 => k_is)
    (case l24 => k_is)
    (case c24 => k_is)
    (case k24 => k_is)
    (case a25 => k_is)
    (case l25 => k_is)
    (case c25 => k_is)
    (case k25 => k_is)
    (case a26 => k_is)
    (case l26 => k_is)
    (case c26 => k_is)
    (case k26 => k_is)
    (case a27 => k_is)
    (case l27 => k_is)
    (case c27 => k_is)
    (case k27 => k_is)
    (case a28 => k_is)
    (case l28 => k_is)
    (case c28 => k_is)
    (case k28 => k_is)
    (case a29 => k_is)
    (case l29 => k_is)
    (case c29 => k_is)
    (case k29 => k_is)
    (case a30 => k_is)
    (case l30 => k_is)
    (case c30 => k_is)
    (case k30 => k_is)
    (case a31 => k_is)
    (case i31 => k_is)
    (case l31 => k_is)
    (case c31 => k_is)
    (case k31 => k_is)
    (case a32 => k_is)
    (case i32 => k_is)
    (case l32 => k_is)
    (case c32 => k_is)
    (case k32 => k_is)
    (case a33 => k_is)
    (case i33 => k_is)
    (case l33 => k_is)
    (case c33 => k_is)
    (case k33 => k_is)
    (case a34 => k_is)
    (case i34 => k_is)
    (case l34 => k_is)
    (case c34 => k_is)
    (case k34 => k_is)
    (case a35 => k_is)
    (case l35 => k_is)
    (case c35 => k_is)
    (case k35 => k_is)
    (case a36 => k_is)
    (case l36 => k_is)
    (case c36 => k_is)
    (case k36 => k_is)
    (case a37 => k_is)
    (case l37 => k_is)
    (case c37 => k_is)
    (case k37 => k_is)
    (case a38 => k_is)
    (case l38 => k_is)
    (case c38 => k_is)
    (case k38 => k_is)
    (case a39 => k_is)
    (case l39 => k_is)
    (case c39 => k_is)
    (case k39 => k_is)
    (case a40 => k_is)
    (case l40 => k_is)
    (case c40 => k_is)
    (case k40 => k_is)
    (case a41 => k_is)
    (case l41 => k_is)
    (case c41 => k_is)
    (case k41 => k_is)
    (case a42 => k_is)
    (case l42 => k_is)
    (case c42 => k_is)
    (case k42 => k_is)
    (case a43 => k_is)
    (case l43 => k_is)
    (case c43 => k_is)
    (case k43 => k_is)
    (case a44 => k_is)
    (case l44 => k_is)
    (case c44 => k_is)
    (case k44 => k_is)
    (case a45 => k_is)
    (case l45 => k_is)
    (case c45 => k_is)
    (case k45 => k_is)
    (case a46 => k_is)
    (case i46 => k_is)
    (case l46 => k_is)
    (case c46 => k_is)
    (case k46 => k_is)
    (case a47 => k_is)
    (case i47 => k_is)
    (case l47 => k_is)
    (case c47 => k_is)
    (case k47 => k_is)
    (case a48 => k_is)
    (case i48 => k_is)
    (case l48 => k_is)
    (case c48 => k_is)
    (case k48 => k_is)
    (case a49 => k_is)
    (case l49 => k_is)
    (case c49 => k_is)
    (case k49 => k_is)
    (case a50 => k_is)
    (case l50 => k_is)
    (case c50 => k_is)
    (case k50 => k_is)
    (case a51 => k_is)
    (case l51 => k_is)
    (case c51 => k_is)
    (case k51 => k_is)
    (case a52 => k_is)
    (case l52 => k_is)
    (case c52 => k_is)
    (case k52 => k_is)
    (case a53 => k_is)
    (case l53 => k_is)
    (case c53 => k_is)
    (case k53 => k_is)
    (case a54 => k_is)
    (case l54 => k_is)
    (case c54 => k_is)
    (case k54 => k_is)
    (case a55 => k_is)
    (case l55 => k_is)
    (case c55 => k_is)
    (case k55 => k_is)
    (case a56 => k_is)
    (case l56 => k_is)
    (case c56 => k_is)
    (case k56 => k_is)
    (case a57 => k_is)
    (case l57 => k_is)
    (case c57 => k_is)
    (case k57 => k_is)
    (case a58 => k_is)
    (case l58 => k_is)
    (case c58 => k_is)
    (case k58 => k_is)
    (case a59 => k_is)
    (case l59 => k_is)
    (case c59 => k_is)
    (case k59 => k_is)
    (case a60 => k_is)
    (case l60 => k_is)
    (case c60 => k_is)
    (case k60 => k_is)
    (case a61 => k_is)
    (case l61 => k_is)
    (case c61 => k_is)
    (case k61 => k_is)
    (case n_Kind_rows => k_is)
    (case n_Turning_kind => k_is)
    (case n_Turning_passed => k_is)
    (case n_Turning_done => k_is)
    (case n_Turning_begin => k_is)
    (case n_Turning_end => k_is)
    (case z_len => k_is)
    (case z_isinstance => k_is)
    (case z_all => k_is)
    (case z_sum => k_is)
    (case z_max => k_is)
    (case z_divmod => k_is)
    (case z_sorted => k_is)
    (case z_tuple => k_is)
    (case z_list => k_is)
    (case z_int => k_is)
    (case z_dict => k_is)
    (case z_set => k_is)
    (case z_range => k_is)
    (case z_enumerate => k_is)
    (case z_zip => k_is)
    (case z_reversed => k_is)
    (case z_str => k_is)
    (case z_bool => k_is)
    (case v_MOST_FORMS => k_is)
    (case v_MOST_TREES => k_is)
    (case v_MOST_DEEP => k_is)
    (case v_LETTERS => k_is)
    (case v_MOST_LETTERS => k_is)
    (case v_MOST_MAKERS => k_is)
    (case v_MOST_WITHIN => k_is)
    (case v_HOLE => k_is)
    (case pl =>
      refine' Bs.plain_mk KX G ?pnA ?pnL ?pnK ?pnS ?pnG0 ?pnG1 ?pnG2 ?pnT0 ?pnT1 ?pnT2
      (case pnA => k_is); (case pnL => k_is); (case pnK => k_keys); (case pnS => decide)
      (case pnG0 => k_is); (case pnG1 => k_is); (case pnG2 => k_is)
      (case pnT0 => k_is); (case pnT1 => k_is); (case pnT2 => k_is))
