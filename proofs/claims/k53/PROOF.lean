import PyProof.Rows.All
import Wide.All
import OpenK.AllK
import Wide.FinOn
import KE.GoesMore
import KE.SortData
import KE.DataMinMax
import HandS.ForMost
import HandS.IsInst
import HandS.SetFor
import HandS.Evl
import HandS.Conv
import PySem.Challenge.RW_ringbeats_k53_whole_circular_or_without
set_option Elab.async false
set_option linter.all false
set_option maxRecDepth 100000
set_option maxHeartbeats 4000000
namespace K53
/-! ## The mathematics: tournaments of n players as relations b, obstructions, signed orders. -/

structure Trn (n : Nat) (b : Nat → Nat → Bool) : Prop where
  irr : ∀ i, i < n → b i i = false
  anti : ∀ i j, i < n → j < n → i ≠ j → b i j = !b j i

def row (n : Nat) (b : Nat → Nat → Bool) (i : Nat) : List Nat := (List.range n).filter (b i)
def tab (n : Nat) (b : Nat → Nat → Bool) : List (List Nat) := (List.range n).map (row n b)

theorem mem_row {n : Nat} {b : Nat → Nat → Bool} {i j : Nat} : j ∈ row n b i ↔ j < n ∧ b i j = true := by
  unfold row
  rw [List.mem_filter, List.mem_range]
theorem dec_row {n : Nat} {b : Nat → Nat → Bool} {i j : Nat} (h : j < n) : decide (j ∈ row n b i) = b i j := by
  rw [Bool.eq_iff_iff, decide_eq_true_iff, mem_row]
  exact ⟨fun q => q.2, fun q => ⟨h, q⟩⟩
theorem mem_tab {n : Nat} {b : Nat → Nat → Bool} {r : List Nat} (h : r ∈ tab n b) : ∃ i, i < n ∧ r = row n b i := by
  obtain ⟨i, hi, e⟩ := List.mem_map.mp h
  exact ⟨i, List.mem_range.mp hi, e.symm⟩
theorem tab_len {n : Nat} {b : Nat → Nat → Bool} : (tab n b).length = n := by
  unfold tab
  rw [List.length_map, List.length_range]
theorem tab_get {n : Nat} {b : Nat → Nat → Bool} {i : Nat} (h : i < n) : (tab n b)[i]? = some (row n b i) := by
  unfold tab
  rw [List.getElem?_map, List.getElem?_range h]
  rfl
theorem row_len {n : Nat} {b : Nat → Nat → Bool} {i : Nat} : (row n b i).length ≤ n := by
  have h := List.length_filter_le (b i) (List.range n)
  rw [List.length_range] at h
  exact h
theorem row_nodup {n : Nat} {b : Nat → Nat → Bool} {i : Nat} : (row n b i).Nodup := List.Pairwise.filter _ List.nodup_range
theorem row_asc {n : Nat} {b : Nat → Nat → Bool} {i : Nat} : (row n b i).Pairwise (· < ·) := List.Pairwise.filter _ List.pairwise_lt_range

/-- an obstruction -/
def Obs (n : Nat) (b : Nat → Nat → Bool) : Prop := ∃ a x y z, a < n ∧ x < n ∧ y < n ∧ z < n ∧ b x y = true ∧ b y z = true ∧ b z x = true ∧
  ((b a x = true ∧ b a y = true ∧ b a z = true) ∨ (b x a = true ∧ b y a = true ∧ b z a = true))

theorem tab_inj {n : Nat} {b c : Nat → Nat → Bool} (h : tab n b = tab n c) : ∀ i j, i < n → j < n → b i j = c i j := by
  intro i j hi hj
  have h1 := tab_get (b := b) hi
  rw [h, tab_get (b := c) hi] at h1
  have e : row n c i = row n b i := Option.some.inj h1
  have m1 : j ∈ row n b i ↔ j ∈ row n c i := by rw [e]
  rw [mem_row, mem_row] at m1
  cases h2 : b i j <;> cases h3 : c i j <;> simp_all
theorem tab_congr {n : Nat} {b c : Nat → Nat → Bool} (h : ∀ i j, i < n → j < n → b i j = c i j) : tab n b = tab n c := by
  unfold tab row
  refine List.map_congr_left fun i hi => ?_
  rw [List.mem_range] at hi
  refine List.filter_congr fun j hj => ?_
  rw [List.mem_range] at hj
  exact h i j hi hj
theorem Obs.congr {n : Nat} {b c : Nat → Nat → Bool} (h : ∀ i j, i < n → j < n → b i j = c i j) (o : Obs n b) : Obs n c := by
  obtain ⟨a, x, y, z, ha, hx, hy, hz, h1, h2, h3, h4⟩ := o
  refine ⟨a, x, y, z, ha, hx, hy, hz, ?_, ?_, ?_, ?_⟩
  · rw [← h _ _ hx hy]; exact h1
  · rw [← h _ _ hy hz]; exact h2
  · rw [← h _ _ hz hx]; exact h3
  · rw [← h _ _ ha hx, ← h _ _ ha hy, ← h _ _ ha hz, ← h _ _ hx ha, ← h _ _ hy ha, ← h _ _ hz ha]; exact h4
theorem Trn.congr {n : Nat} {b c : Nat → Nat → Bool} (h : ∀ i j, i < n → j < n → b i j = c i j) (t : Trn n b) : Trn n c :=
  ⟨fun i hi => by rw [← h i i hi hi]; exact t.irr i hi, fun i j hi hj ne => by rw [← h i j hi hj, ← h j i hj hi]; exact t.anti i j hi hj ne⟩

/-! ### sorted lists -/
abbrev toI (l : List Nat) : List Int := l.map fun k : Nat => (k : Int)
theorem sorted_eq {l m : List Nat} {ns : List Int} (hp : ns.Perm (toI l)) (hs : ns.Pairwise (· ≤ ·)) (hm : m.Pairwise (· < ·)) (pm : l.Perm m) : ns = toI m := by
  refine List.Perm.eq_of_pairwise (le := (· ≤ ·)) (fun a b _ _ h1 h2 => Int.le_antisymm h1 h2) hs ?_ (hp.trans (pm.map _))
  rw [List.pairwise_map]
  refine List.Pairwise.imp (fun {a b} h => ?_) hm
  omega
theorem perm_row {n : Nat} {f : Nat → Bool} {l : List Nat} (nd : l.Nodup) (hm : ∀ j, j ∈ l ↔ j < n ∧ f j = true) : l.Perm ((List.range n).filter f) := by
  rw [List.perm_ext_iff_of_nodup nd (List.Pairwise.filter _ List.nodup_range)]
  intro a
  rw [List.mem_filter, List.mem_range]
  exact hm a

/-! ### an item taken out -/
theorem perm_pop {α : Type} : ∀ {l : List α} {j : Nat} {p : α}, l[j]? = some p → l.Perm (p :: l.eraseIdx j)
  | [], j, p, h => by simp at h
  | a :: r, 0, p, h => by
    have e : a = p := by simpa using h
    subst e
    exact List.Perm.refl _
  | a :: r, j + 1, p, h => by
    have ih := perm_pop (l := r) (j := j) (p := p) (by simpa using h)
    rw [List.eraseIdx_cons_succ]
    exact (ih.cons a).trans (List.Perm.swap p a _)
theorem map_pop {α β : Type} (f : α → β) : ∀ (l : List α) (j : Nat), (l.map f).eraseIdx j = (l.eraseIdx j).map f
  | [], j => by simp
  | a :: r, 0 => by simp
  | a :: r, j + 1 => by
    rw [List.map_cons, List.eraseIdx_cons_succ, List.eraseIdx_cons_succ, List.map_cons, map_pop f r j]
/-- the place of an item in a list without repetitions -/
theorem place_of {l : List Nat} (nd : l.Nodup) {p : Nat} (h : p ∈ l) : ∃ j, l[j]? = some p ∧ j < l.length ∧ ∀ (m : Nat) q, m < j → l[m]? = some q → q ≠ p := by
  obtain ⟨j, hj, e⟩ := List.mem_iff_getElem.mp h
  refine ⟨j, by rw [List.getElem?_eq_getElem hj, e], hj, fun m q hm hq e2 => ?_⟩
  obtain ⟨lm, em⟩ := List.getElem?_eq_some_iff.mp hq
  have := List.pairwise_iff_getElem.mp nd m j lm hj hm
  rw [em, e, e2] at this
  exact this rfl

/-! ### signed orders -/
def pls (o : List (Nat × Bool)) : List Nat := o.map (·.1)
def pos (o : List (Nat × Bool)) (i : Nat) : Nat := (pls o).idxOf i
def sg (o : List (Nat × Bool)) (i : Nat) : Bool := match o[pos o i]? with
  | some p => p.2
  | none => true
/-- the relation for which a signed order stands -/
def bo (o : List (Nat × Bool)) (i j : Nat) : Bool := !decide (i = j) && (decide (pos o i < pos o j) == (sg o i == sg o j))

theorem pos_at {o : List (Nat × Bool)} (nd : (pls o).Nodup) {x p : Nat} {s : Bool} (h : o[x]? = some (p, s)) : pos o p = x := by
  have hx : (pls o)[x]? = some p := by
    unfold pls
    rw [List.getElem?_map, h]
    rfl
  obtain ⟨hl, e⟩ := List.getElem?_eq_some_iff.mp hx
  have := nd.idxOf_getElem x hl
  rw [e] at this
  exact this
theorem sg_at {o : List (Nat × Bool)} (nd : (pls o).Nodup) {x p : Nat} {s : Bool} (h : o[x]? = some (p, s)) : sg o p = s := by
  unfold sg
  rw [pos_at nd h, h]
theorem bo_irr {o : List (Nat × Bool)} {i : Nat} : bo o i i = false := by
  unfold bo
  simp
theorem bo_at {o : List (Nat × Bool)} (nd : (pls o).Nodup) {x y p q : Nat} {s t : Bool} (hx : o[x]? = some (p, s)) (hy : o[y]? = some (q, t)) (hl : x < y) :
    bo o p q = (s == t) ∧ bo o q p = !(s == t) := by
  have e1 := pos_at nd hx
  have e2 := pos_at nd hy
  have ne : p ≠ q := fun e => by
    rw [e, e2] at e1
    omega
  have ne' : ¬ q = p := fun e => ne e.symm
  unfold bo
  rw [e1, e2, sg_at nd hx, sg_at nd hy, decide_eq_false ne, decide_eq_false ne', decide_eq_true hl, decide_eq_false (show ¬ y < x by omega)]
  cases s <;> cases t <;> simp
theorem pos_lt {o : List (Nat × Bool)} {i : Nat} (h : i ∈ pls o) : pos o i < o.length := by
  have := List.idxOf_lt_length_of_mem h
  unfold pls at this
  rw [List.length_map] at this
  exact this
theorem at_pos {o : List (Nat × Bool)} {i : Nat} (h : i ∈ pls o) : o[pos o i]? = some (i, sg o i) := by
  have hl := pos_lt h
  have e : o[pos o i]? = some o[pos o i] := List.getElem?_eq_getElem hl
  have e2 : (pls o)[pos o i]? = some i := by
    have hl2 : pos o i < (pls o).length := by
      unfold pls
      rw [List.length_map]
      exact hl
    rw [List.getElem?_eq_getElem hl2]
    have := List.getElem_idxOf (x := i) (xs := pls o) hl2
    exact congrArg some this
  have e3 : (pls o)[pos o i]? = some (o[pos o i]).1 := by
    unfold pls
    rw [List.getElem?_map, e]
    rfl
  have e4 : (o[pos o i]).1 = i := Option.some.inj (e3.symm.trans e2)
  have e5 : sg o i = (o[pos o i]).2 := by
    unfold sg
    rw [e]
  rw [e, e5]
  exact congrArg some (Prod.ext e4 rfl)
theorem pos_inj {o : List (Nat × Bool)} {i j : Nat} (hi : i ∈ pls o) (hj : j ∈ pls o) (e : pos o i = pos o j) : i = j := by
  have h1 := at_pos hi
  have h2 := at_pos hj
  rw [e, h2] at h1
  exact (congrArg Prod.fst (Option.some.inj h1)).symm
theorem bo_trn {n : Nat} {o : List (Nat × Bool)} (h : ∀ i, i < n → i ∈ pls o) : Trn n (bo o) := by
  refine ⟨fun i _ => bo_irr, fun i j hi hj ne => ?_⟩
  have hp : pos o i ≠ pos o j := fun e => ne (pos_inj (h i hi) (h j hj) e)
  have ne' : ¬ j = i := fun e => ne e.symm
  unfold bo
  rw [decide_eq_false ne, decide_eq_false ne']
  rcases Nat.lt_or_gt_of_ne hp with q | q
  · rw [decide_eq_true q, decide_eq_false (show ¬ pos o j < pos o i by omega)]
    cases sg o i <;> cases sg o j <;> rfl
  · rw [decide_eq_false (show ¬ pos o i < pos o j by omega), decide_eq_true q]
    cases sg o i <;> cases sg o j <;> rfl
theorem bo_lt {o : List (Nat × Bool)} {i j : Nat} (h : bo o i j = true) (hi : i ∈ pls o) (hj : j ∈ pls o) : i ≠ j ∧ pos o i ≠ pos o j ∧ (pos o i < pos o j ↔ sg o i = sg o j) := by
  unfold bo at h
  rw [Bool.and_eq_true] at h
  obtain ⟨h1, h2⟩ := h
  have ne : i ≠ j := by simpa using h1
  refine ⟨ne, fun e => ne (pos_inj hi hj e), ?_⟩
  rw [beq_iff_eq] at h2
  rw [← beq_iff_eq (a := sg o i), ← h2, decide_eq_true_iff]
/-- what a signed order stands for has no obstruction -/
theorem bo_clear {n : Nat} {o : List (Nat × Bool)} (h : ∀ i, i < n → i ∈ pls o) : ¬ Obs n (bo o) := by
  rintro ⟨a, x, y, z, ha, hx, hy, hz, h1, h2, h3, h4⟩
  have ha := h a ha
  have hx := h x hx
  have hy := h y hy
  have hz := h z hz
  obtain ⟨_, n1, b1⟩ := bo_lt h1 hx hy
  obtain ⟨_, n2, b2⟩ := bo_lt h2 hy hz
  obtain ⟨_, n3, b3⟩ := bo_lt h3 hz hx
  rcases h4 with ⟨g1, g2, g3⟩ | ⟨g1, g2, g3⟩
  · obtain ⟨_, m1, c1⟩ := bo_lt g1 ha hx
    obtain ⟨_, m2, c2⟩ := bo_lt g2 ha hy
    obtain ⟨_, m3, c3⟩ := bo_lt g3 ha hz
    generalize pos o a = pa at *
    generalize pos o x = px at *
    generalize pos o y = py at *
    generalize pos o z = pz at *
    generalize sg o a = sa at *
    generalize sg o x = sx at *
    generalize sg o y = sy at *
    generalize sg o z = sz at *
    cases sa <;> cases sx <;> cases sy <;> cases sz <;> simp at b1 b2 b3 c1 c2 c3 <;> omega
  · obtain ⟨_, m1, c1⟩ := bo_lt g1 hx ha
    obtain ⟨_, m2, c2⟩ := bo_lt g2 hy ha
    obtain ⟨_, m3, c3⟩ := bo_lt g3 hz ha
    generalize pos o a = pa at *
    generalize pos o x = px at *
    generalize pos o y = py at *
    generalize pos o z = pz at *
    generalize sg o a = sa at *
    generalize sg o x = sx at *
    generalize sg o y = sy at *
    generalize sg o z = sz at *
    cases sa <;> cases sx <;> cases sy <;> cases sz <;> simp at b1 b2 b3 c1 c2 c3 <;> omega

/-! ### the told order -/
/-- the sign of a player, and «ahead of» in the switched tournament -/
def sn (b : Nat → Nat → Bool) (i : Nat) : Bool := decide (i = 0) || b 0 i
def al (b : Nat → Nat → Bool) (p q : Nat) : Bool := b p q == (sn b p == sn b q)
def oth (n p : Nat) : List Nat := (List.range' 1 (n - 1)).filter fun q => !decide (q = p)
def bf (n : Nat) (b : Nat → Nat → Bool) (p : Nat) : Nat := (oth n p).length - ((oth n p).filter (al b p)).length
def toldO (b : Nat → Nat → Bool) (L : List Nat) : List (Nat × Bool) := (0, true) :: L.map fun p => (p, sn b p)

theorem mem_oth {n p q : Nat} : q ∈ oth n p ↔ (1 ≤ q ∧ q < n) ∧ q ≠ p := by
  unfold oth
  rw [List.mem_filter, List.mem_range'_1]
  simp
  omega
theorem al_anti {n : Nat} {b : Nat → Nat → Bool} (t : Trn n b) {p q : Nat} (hp : p < n) (hq : q < n) (ne : p ≠ q) : al b p q = !al b q p := by
  unfold al
  rw [t.anti p q hp hq ne]
  cases b q p <;> cases sn b p <;> cases sn b q <;> rfl

theorem no_cyc {n : Nat} {b : Nat → Nat → Bool} (t : Trn n b) (no : ¬ Obs n b) {p q r : Nat} (hp : 1 ≤ p ∧ p < n) (hq : 1 ≤ q ∧ q < n) (hr : 1 ≤ r ∧ r < n) (pq : p ≠ q) (qr : q ≠ r) (rp : r ≠ p)
    (h1 : al b p q = true) (h2 : al b q r = true) (h3 : al b r p = true) : False := by
  have z : 0 < n := by omega
  have s1 : sn b p = b 0 p := by unfold sn; rw [decide_eq_false (by omega)]; rfl
  have s2 : sn b q = b 0 q := by unfold sn; rw [decide_eq_false (by omega)]; rfl
  have s3 : sn b r = b 0 r := by unfold sn; rw [decide_eq_false (by omega)]; rfl
  unfold al at h1 h2 h3
  rw [s1, s2] at h1
  rw [s2, s3] at h2
  rw [s3, s1] at h3
  have a1 := t.anti p 0 hp.2 z (by omega)
  have a2 := t.anti q 0 hq.2 z (by omega)
  have a3 := t.anti r 0 hr.2 z (by omega)
  have a4 := t.anti q p hq.2 hp.2 (Ne.symm pq)
  have a5 := t.anti r q hr.2 hq.2 (Ne.symm qr)
  have a6 := t.anti p r hp.2 hr.2 (Ne.symm rp)
  have hno : ∀ a x y z, a < n → x < n → y < n → z < n → ¬ (b x y = true ∧ b y z = true ∧ b z x = true ∧ ((b a x = true ∧ b a y = true ∧ b a z = true) ∨ (b x a = true ∧ b y a = true ∧ b z a = true))) :=
    fun a x y z ha hx hy hz h => no ⟨a, x, y, z, ha, hx, hy, hz, h⟩
  have k1 := hno 0 p q r z hp.2 hq.2 hr.2
  have k2 := hno 0 p r q z hp.2 hr.2 hq.2
  have k3 := hno p 0 q r hp.2 z hq.2 hr.2
  have k4 := hno p 0 r q hp.2 z hr.2 hq.2
  have k5 := hno q 0 p r hq.2 z hp.2 hr.2
  have k6 := hno q 0 r p hq.2 z hr.2 hp.2
  have k7 := hno r 0 p q hr.2 z hp.2 hq.2
  have k8 := hno r 0 q p hr.2 z hq.2 hp.2
  clear hno no s1 s2 s3 pq qr rp
  revert h1 h2 h3 a1 a2 a3 a4 a5 a6 k1 k2 k3 k4 k5 k6 k7 k8
  generalize b 0 p = x1
  generalize b 0 q = x2
  generalize b 0 r = x3
  generalize b p q = x4
  generalize b q r = x5
  generalize b r p = x6
  intro h1 h2 h3 a1 a2 a3 a4 a5 a6
  rw [a1, a2, a3, a4, a5, a6]
  clear a1 a2 a3 a4 a5 a6
  cases x1 <;> cases x2 <;> cases x3 <;> cases x4 <;> cases x5 <;> cases x6 <;> simp at h1 h2 h3 ⊢

theorem al_trans {n : Nat} {b : Nat → Nat → Bool} (t : Trn n b) (no : ¬ Obs n b) {p q r : Nat} (hp : 1 ≤ p ∧ p < n) (hq : 1 ≤ q ∧ q < n) (hr : 1 ≤ r ∧ r < n) (pq : p ≠ q) (qr : q ≠ r) (rp : r ≠ p)
    (h1 : al b p q = true) (h2 : al b q r = true) : al b p r = true := by
  cases e : al b p r with
  | true => rfl
  | false =>
    refine (no_cyc t no hp hq hr pq qr rp h1 h2 ?_).elim
    rw [al_anti t hr.2 hp.2 rp, e]
    rfl

theorem filter_lt {α : Type} {f g : α → Bool} : ∀ {l : List α} {x : α}, (∀ a ∈ l, f a = true → g a = true) → x ∈ l → f x = false → g x = true → (l.filter f).length < (l.filter g).length
  | [], _, _, hx, _, _ => by cases hx
  | a :: l, x, h, hx, hf, hg => by
    have hle : ∀ m : List α, (∀ a ∈ m, f a = true → g a = true) → (m.filter f).length ≤ (m.filter g).length := fun m hm => by
      rw [← List.countP_eq_length_filter, ← List.countP_eq_length_filter]
      exact List.countP_mono_left hm
    have hl := hle l fun c hc => h c (List.mem_cons_of_mem _ hc)
    rcases List.mem_cons.mp hx with e | hx
    · subst e
      rw [List.filter_cons_of_neg (by rw [hf]; decide), List.filter_cons_of_pos hg, List.length_cons]
      omega
    · have ih := filter_lt (fun c hc => h c (List.mem_cons_of_mem _ hc)) hx hf hg
      cases h1 : f a with
      | true =>
        rw [List.filter_cons_of_pos h1, List.filter_cons_of_pos (h a List.mem_cons_self h1), List.length_cons, List.length_cons]
        omega
      | false =>
        rw [List.filter_cons_of_neg (by rw [h1]; decide)]
        cases h2 : g a with
        | true =>
          rw [List.filter_cons_of_pos h2, List.length_cons]
          omega
        | false =>
          rw [List.filter_cons_of_neg (by rw [h2]; decide)]
          exact ih

theorem len_split {α : Type} (f : α → Bool) : ∀ l : List α, (l.filter f).length + (l.filter fun a => !f a).length = l.length
  | [] => rfl
  | a :: l => by
    have ih := len_split f l
    cases h : f a with
    | true =>
      rw [List.filter_cons_of_pos h, List.filter_cons_of_neg (by rw [h]; decide), List.length_cons, List.length_cons]
      omega
    | false =>
      rw [List.filter_cons_of_neg (by rw [h]; decide), List.filter_cons_of_pos (by rw [h]; rfl), List.length_cons, List.length_cons]
      omega

/-- how many are behind it: by the players who are ahead of p -/
theorem bf_eq {n : Nat} {b : Nat → Nat → Bool} (t : Trn n b) {p : Nat} (hp : 1 ≤ p ∧ p < n) : bf n b p = ((List.range' 1 (n - 1)).filter fun q => !decide (q = p) && al b q p).length := by
  have e := len_split (al b p) (oth n p)
  have e2 : (oth n p).filter (fun a => !al b p a) = (List.range' 1 (n - 1)).filter fun q => !decide (q = p) && al b q p := by
    unfold oth
    rw [List.filter_filter]
    refine List.filter_congr fun q hq => ?_
    rw [List.mem_range'_1] at hq
    by_cases h : q = p
    · rw [decide_eq_true h]
      simp
    · rw [decide_eq_false h, al_anti t (p := q) (q := p) (by omega) hp.2 h]
      simp
  rw [← e2]
  unfold bf
  omega

theorem bf_lt {n : Nat} {b : Nat → Nat → Bool} (t : Trn n b) (no : ¬ Obs n b) {p q : Nat} (hp : 1 ≤ p ∧ p < n) (hq : 1 ≤ q ∧ q < n) (ne : p ≠ q) (h : al b p q = true) : bf n b p < bf n b q := by
  rw [bf_eq t hp, bf_eq t hq]
  refine filter_lt (x := p) (fun r hr h1 => ?_) (by rw [List.mem_range'_1]; omega) (by simp) (by simp [ne, h])
  rw [List.mem_range'_1] at hr
  rw [Bool.and_eq_true] at h1 ⊢
  obtain ⟨h2, h3⟩ := h1
  have nrp : r ≠ p := by simpa using h2
  have nrq : r ≠ q := fun e => by
    subst e
    rw [al_anti t (p := r) (q := p) (by omega) hp.2 nrp, h] at h3
    cases h3
  refine ⟨by simp [nrq], al_trans t no (q := p) (by omega) hp hq nrp ne (Ne.symm nrq) h3 h⟩

theorem told_ok {n : Nat} {b : Nat → Nat → Bool} (hn : 1 ≤ n) {L : List Nat} (hp : L.Perm (List.range' 1 (n - 1))) :
    (toldO b L).length = n ∧ (pls (toldO b L)).Nodup ∧ ∀ i, i ∈ pls (toldO b L) ↔ i < n := by
  have e : pls (toldO b L) = 0 :: L := by
    unfold pls toldO
    rw [List.map_cons, List.map_map]
    congr 1
    exact List.map_id'' (fun _ => rfl) L
  refine ⟨?_, ?_, fun i => ?_⟩
  · unfold toldO
    rw [List.length_cons, List.length_map, hp.length_eq, List.length_range']
    omega
  · rw [e, List.nodup_cons]
    refine ⟨fun h => ?_, hp.nodup_iff.mpr (List.nodup_range')⟩
    have := hp.mem_iff.mp h
    rw [List.mem_range'_1] at this
    omega
  · rw [e, List.mem_cons, hp.mem_iff, List.mem_range'_1]
    omega

/-- no obstruction: the told order stands for the tournament -/
theorem told_bo {n : Nat} {b : Nat → Nat → Bool} (t : Trn n b) (no : ¬ Obs n b) (hn : 1 ≤ n) {L : List Nat} (hp : L.Perm (List.range' 1 (n - 1))) (hs : L.Pairwise fun x y => bf n b x ≤ bf n b y) :
    ∀ i j, i < n → j < n → bo (toldO b L) i j = b i j := by
  obtain ⟨hl, nd, hm⟩ := told_ok (b := b) hn hp
  have key : ∀ (x y p q : Nat) (s s' : Bool), x < y → (toldO b L)[x]? = some (p, s) → (toldO b L)[y]? = some (q, s') → b p q = (s == s') := by
    intro x y p q s s' hxy hx hy
    obtain ⟨y', rfl⟩ : ∃ y', y = y' + 1 := ⟨y - 1, by omega⟩
    have hy' : (L.map fun p => (p, sn b p))[y']? = some (q, s') := hy
    rw [List.getElem?_map] at hy'
    obtain ⟨q', hq, eq⟩ := Option.map_eq_some_iff.mp hy'
    obtain ⟨rfl, rfl⟩ := Prod.mk.inj eq
    have mq : 1 ≤ q' ∧ q' < n := by
      have := hp.mem_iff.mp (List.mem_of_getElem? hq)
      rw [List.mem_range'_1] at this
      omega
    cases x with
    | zero =>
      have hx' : some (0, true) = some (p, s) := hx
      obtain ⟨rfl, rfl⟩ := Prod.mk.inj (Option.some.inj hx')
      unfold sn
      rw [decide_eq_false (by omega)]
      cases b 0 q' <;> rfl
    | succ x' =>
      have hx' : (L.map fun p => (p, sn b p))[x']? = some (p, s) := hx
      rw [List.getElem?_map] at hx'
      obtain ⟨p', hpp, eq⟩ := Option.map_eq_some_iff.mp hx'
      obtain ⟨rfl, rfl⟩ := Prod.mk.inj eq
      have mp : 1 ≤ p' ∧ p' < n := by
        have := hp.mem_iff.mp (List.mem_of_getElem? hpp)
        rw [List.mem_range'_1] at this
        omega
      obtain ⟨lx, ex⟩ := List.getElem?_eq_some_iff.mp hpp
      obtain ⟨ly, ey⟩ := List.getElem?_eq_some_iff.mp hq
      have hle := List.pairwise_iff_getElem.mp hs x' y' lx ly (by omega)
      rw [ex, ey] at hle
      have ne : p' ≠ q' := fun e => by
        have := List.pairwise_iff_getElem.mp (hp.nodup_iff.mpr (List.nodup_range')) x' y' lx ly (by omega)
        rw [ex, ey] at this
        exact this e
      have ha : al b p' q' = true := by
        cases h : al b p' q' with
        | true => rfl
        | false =>
          have h2 : al b q' p' = true := by
            rw [al_anti t mq.2 mp.2 (Ne.symm ne), h]
            rfl
          have := bf_lt t no mq mp (Ne.symm ne) h2
          omega
      unfold al at ha
      rw [beq_iff_eq] at ha
      exact ha
  intro i j hi hj
  by_cases e : i = j
  · subst e
    rw [bo_irr, t.irr i hi]
  · have ai := at_pos ((hm i).mpr hi)
    have aj := at_pos ((hm j).mpr hj)
    have hne : pos (toldO b L) i ≠ pos (toldO b L) j := fun q => e (pos_inj ((hm i).mpr hi) ((hm j).mpr hj) q)
    rcases Nat.lt_or_gt_of_ne hne with q | q
    · rw [(bo_at nd ai aj q).1, key _ _ _ _ _ _ q ai aj]
    · rw [(bo_at nd aj ai q).2, t.anti i j hi hj e, key _ _ _ _ _ _ q aj ai]

/-! ### reversed, renamed -/
theorem rev_trn {n : Nat} {b : Nat → Nat → Bool} (t : Trn n b) : Trn n fun i j => b j i :=
  ⟨t.irr, fun i j hi hj ne => t.anti j i hj hi (Ne.symm ne)⟩
theorem rev_obs {n : Nat} {b : Nat → Nat → Bool} : Obs n (fun i j => b j i) ↔ Obs n b := by
  constructor
  · rintro ⟨a, x, y, z, ha, hx, hy, hz, h1, h2, h3, h4⟩
    exact ⟨a, x, z, y, ha, hx, hz, hy, h3, h2, h1, h4.elim (fun g => .inr ⟨g.1, g.2.2, g.2.1⟩) fun g => .inl ⟨g.1, g.2.2, g.2.1⟩⟩
  · rintro ⟨a, x, y, z, ha, hx, hy, hz, h1, h2, h3, h4⟩
    exact ⟨a, x, z, y, ha, hx, hz, hy, h3, h2, h1, h4.elim (fun g => .inr ⟨g.1, g.2.2, g.2.1⟩) fun g => .inl ⟨g.1, g.2.2, g.2.1⟩⟩
/-- renamed by p: p[i] in the place of i -/
def ren (p : List Nat) (b : Nat → Nat → Bool) (i j : Nat) : Bool := b (p.idxOf i) (p.idxOf j)
section
variable {n : Nat} {b : Nat → Nat → Bool} {p : List Nat}
theorem idx_lt (hp : p.Perm (List.range n)) {i : Nat} (hi : i < n) : p.idxOf i < n := by
  have h := List.idxOf_lt_length_of_mem (hp.mem_iff.mpr (List.mem_range.mpr hi))
  rw [hp.length_eq, List.length_range] at h
  exact h
theorem idx_at (hp : p.Perm (List.range n)) {i : Nat} (hi : i < n) : p[p.idxOf i]? = some i := by
  have h := List.idxOf_lt_length_of_mem (hp.mem_iff.mpr (List.mem_range.mpr hi))
  rw [List.getElem?_eq_getElem h]
  exact congrArg some (List.getElem_idxOf h)
theorem idx_of (hp : p.Perm (List.range n)) {k i : Nat} (h : p[k]? = some i) : p.idxOf i = k := by
  obtain ⟨hl, e⟩ := List.getElem?_eq_some_iff.mp h
  have := (hp.nodup_iff.mpr List.nodup_range).idxOf_getElem k hl
  rw [e] at this
  exact this
theorem perm_get (hp : p.Perm (List.range n)) {k : Nat} (hk : k < n) : ∃ i, i < n ∧ p[k]? = some i := by
  have hl : k < p.length := by rw [hp.length_eq, List.length_range]; exact hk
  exact ⟨p[k], List.mem_range.mp (hp.mem_iff.mp (List.getElem_mem hl)), List.getElem?_eq_getElem hl⟩
theorem ren_trn (hp : p.Perm (List.range n)) (t : Trn n b) : Trn n (ren p b) := by
  refine ⟨fun i hi => t.irr _ (idx_lt hp hi), fun i j hi hj ne => t.anti _ _ (idx_lt hp hi) (idx_lt hp hj) fun e => ne ?_⟩
  have h1 := idx_at hp hi
  rw [e, idx_at hp hj] at h1
  exact (Option.some.inj h1).symm
theorem ren_obs (hp : p.Perm (List.range n)) : Obs n (ren p b) ↔ Obs n b := by
  constructor
  · rintro ⟨a, x, y, z, ha, hx, hy, hz, h⟩
    exact ⟨_, _, _, _, idx_lt hp ha, idx_lt hp hx, idx_lt hp hy, idx_lt hp hz, h⟩
  · rintro ⟨a, x, y, z, ha, hx, hy, hz, h⟩
    obtain ⟨a', ga, ea⟩ := perm_get hp ha
    obtain ⟨x', gx, ex⟩ := perm_get hp hx
    obtain ⟨y', gy, ey⟩ := perm_get hp hy
    obtain ⟨z', gz, ez⟩ := perm_get hp hz
    refine ⟨a', x', y', z', ga, gx, gy, gz, ?_⟩
    unfold ren
    rw [idx_of hp ea, idx_of hp ex, idx_of hp ey, idx_of hp ez]
    exact h
/-- the row of p[k], as the program makes it -/
theorem ren_row (hp : p.Perm (List.range n)) {k i : Nat} (hk : k < n) (h : p[k]? = some i) : ((row n b k).map fun v => p.getD v 0).Perm (row n (ren p b) i) := by
  have nd : p.Nodup := hp.nodup_iff.mpr List.nodup_range
  have gd : ∀ {v w : Nat}, p[v]? = some w → p.getD v 0 = w := fun {v w} e => by rw [List.getD_eq_getElem?_getD, e]; rfl
  refine perm_row ?_ fun j => ?_
  · rw [List.Nodup, List.pairwise_map]
    refine List.Pairwise.imp_of_mem (fun {v w} hv hw ne e => ne ?_) (row_nodup (n := n) (b := b) (i := k))
    obtain ⟨v', _, ev⟩ := perm_get hp (mem_row.mp hv).1
    obtain ⟨w', _, ew⟩ := perm_get hp (mem_row.mp hw).1
    rw [gd ev, gd ew] at e
    rw [← idx_of hp ev, ← idx_of hp ew, e]
  · rw [List.mem_map]
    constructor
    · rintro ⟨v, hv, e⟩
      obtain ⟨hv1, hv2⟩ := mem_row.mp hv
      obtain ⟨v', lv, ev⟩ := perm_get hp hv1
      rw [gd ev] at e
      subst e
      refine ⟨lv, ?_⟩
      unfold ren
      rw [idx_of hp h, idx_of hp ev]
      exact hv2
    · rintro ⟨hj, hb⟩
      refine ⟨p.idxOf j, mem_row.mpr ⟨idx_lt hp hj, ?_⟩, gd (idx_at hp hj)⟩
      unfold ren at hb
      rw [idx_of hp h] at hb
      exact hb
end

/-! ### rows filled pair by pair -/
def Pr (k j x y : Nat) : Prop := x < k ∨ (x = k ∧ y < j)
structure Fill (n : Nat) (pl : Nat → Nat) (dec : Nat → Nat → Bool) (k j : Nat) (R : Nat → List Nat) : Prop where
  mem : ∀ x y, x < n → y < n → (pl y ∈ R (pl x) ↔ (x < y ∧ Pr k j x y ∧ dec x y = true) ∨ (y < x ∧ Pr k j y x ∧ dec y x = false))
  sub : ∀ i v, v ∈ R i → v < n
  nd : ∀ i, (R i).Nodup
/-- v put behind the row of u -/
def app (R : Nat → List Nat) (u v : Nat) : Nat → List Nat := fun i => if i = u then R u ++ [v] else R i
theorem app_mem {R : Nat → List Nat} {u v i w : Nat} : w ∈ app R u v i ↔ w ∈ R i ∨ (i = u ∧ w = v) := by
  unfold app
  by_cases h : i = u
  · subst h
    rw [if_pos rfl, List.mem_append, List.mem_singleton]
    simp
  · rw [if_neg h]
    simp [h]
section
variable {n : Nat} {pl : Nat → Nat} {dec : Nat → Nat → Bool} {k j : Nat} {R : Nat → List Nat}
theorem fill_start : Fill n pl dec 0 0 fun _ => [] := by
  refine ⟨fun x y _ _ => ?_, fun _ _ h => (by cases h), fun _ => List.nodup_nil⟩
  constructor
  · intro h
    cases h
  · rintro (⟨_, h | ⟨_, h⟩, _⟩ | ⟨_, h | ⟨_, h⟩, _⟩) <;> omega
theorem Fill.turn (F : Fill n pl dec k n R) : Fill n pl dec (k + 1) (k + 2) R := by
  refine ⟨fun x y hx hy => (F.mem x y hx hy).trans ?_, F.sub, F.nd⟩
  have h1 : ∀ x y, x < y → y < n → (Pr k n x y ↔ Pr (k + 1) (k + 2) x y) := fun x y h1 h2 => by
    unfold Pr
    omega
  constructor
  · rintro (⟨a, c, d⟩ | ⟨a, c, d⟩)
    · exact .inl ⟨a, (h1 _ _ a hy).mp c, d⟩
    · exact .inr ⟨a, (h1 _ _ a hx).mp c, d⟩
  · rintro (⟨a, c, d⟩ | ⟨a, c, d⟩)
    · exact .inl ⟨a, (h1 _ _ a hy).mpr c, d⟩
    · exact .inr ⟨a, (h1 _ _ a hx).mpr c, d⟩
theorem Fill.begin (F : Fill n pl dec k j R) (hj : j ≤ k + 1) : Fill n pl dec k (k + 1) R := by
  refine ⟨fun x y hx hy => (F.mem x y hx hy).trans ?_, F.sub, F.nd⟩
  have h1 : ∀ x y, x < y → (Pr k j x y ↔ Pr k (k + 1) x y) := fun x y h1 => by
    unfold Pr
    omega
  constructor
  · rintro (⟨a, c, d⟩ | ⟨a, c, d⟩)
    · exact .inl ⟨a, (h1 _ _ a).mp c, d⟩
    · exact .inr ⟨a, (h1 _ _ a).mp c, d⟩
  · rintro (⟨a, c, d⟩ | ⟨a, c, d⟩)
    · exact .inl ⟨a, (h1 _ _ a).mpr c, d⟩
    · exact .inr ⟨a, (h1 _ _ a).mpr c, d⟩
/-- the pair (k, j) done -/
theorem Fill.step (F : Fill n pl dec k j R) (hk : k < j) (hj : j < n) (inj : ∀ x y, x < n → y < n → pl x = pl y → x = y) (ran : ∀ x, x < n → pl x < n) :
    Fill n pl dec k (j + 1) (if dec k j = true then app R (pl k) (pl j) else app R (pl j) (pl k)) := by
  have hkn : k < n := by omega
  have pr : ∀ x y, Pr k (j + 1) x y ↔ Pr k j x y ∨ (x = k ∧ y = j) := fun x y => by
    unfold Pr
    omega
  cases hd : dec k j with
  | true =>
    rw [if_pos rfl]
    have nin : pl j ∉ R (pl k) := fun h => by
      rcases (F.mem k j hkn hj).mp h with ⟨_, h | ⟨_, h⟩, _⟩ | ⟨h, _, _⟩ <;> omega
    refine ⟨fun x y hx hy => ?_, fun i v h => ?_, fun i => ?_⟩
    · rw [app_mem, F.mem x y hx hy, pr, pr]
      constructor
      · rintro ((⟨a, c, d⟩ | ⟨a, c, d⟩) | ⟨e1, e2⟩)
        · exact .inl ⟨a, .inl c, d⟩
        · exact .inr ⟨a, .inl c, d⟩
        · have e1 := inj _ _ hx hkn e1
          have e2 := inj _ _ hy hj e2
          subst e1 e2
          exact .inl ⟨hk, .inr ⟨rfl, rfl⟩, hd⟩
      · rintro (⟨a, c | ⟨e1, e2⟩, d⟩ | ⟨a, c | ⟨e1, e2⟩, d⟩)
        · exact .inl (.inl ⟨a, c, d⟩)
        · subst e1 e2
          exact .inr ⟨rfl, rfl⟩
        · exact .inl (.inr ⟨a, c, d⟩)
        · subst e1 e2
          rw [hd] at d
          cases d
    · rcases app_mem.mp h with h | ⟨_, e⟩
      · exact F.sub i v h
      · rw [e]
        exact ran j hj
    · unfold app
      split
      · rw [List.nodup_append]
        refine ⟨F.nd _, by simp, fun a ha c hc e => nin ?_⟩
        rw [List.mem_singleton] at hc
        rw [← hc, ← e]
        exact ha
      · exact F.nd i
  | false =>
    rw [if_neg Bool.false_ne_true]
    have nin : pl k ∉ R (pl j) := fun h => by
      rcases (F.mem j k hj hkn).mp h with ⟨h, _, _⟩ | ⟨_, h | ⟨_, h⟩, _⟩ <;> omega
    refine ⟨fun x y hx hy => ?_, fun i v h => ?_, fun i => ?_⟩
    · rw [app_mem, F.mem x y hx hy, pr, pr]
      constructor
      · rintro ((⟨a, c, d⟩ | ⟨a, c, d⟩) | ⟨e1, e2⟩)
        · exact .inl ⟨a, .inl c, d⟩
        · exact .inr ⟨a, .inl c, d⟩
        · have e1 := inj _ _ hx hj e1
          have e2 := inj _ _ hy hkn e2
          subst e1 e2
          exact .inr ⟨hk, .inr ⟨rfl, rfl⟩, hd⟩
      · rintro (⟨a, c | ⟨e1, e2⟩, d⟩ | ⟨a, c | ⟨e1, e2⟩, d⟩)
        · exact .inl (.inl ⟨a, c, d⟩)
        · subst e1 e2
          rw [hd] at d
          cases d
        · exact .inl (.inr ⟨a, c, d⟩)
        · subst e1 e2
          exact .inr ⟨rfl, rfl⟩
    · rcases app_mem.mp h with h | ⟨_, e⟩
      · exact F.sub i v h
      · rw [e]
        exact ran k hkn
    · unfold app
      split
      · rw [List.nodup_append]
        refine ⟨F.nd _, by simp, fun a ha c hc e => nin ?_⟩
        rw [List.mem_singleton] at hc
        rw [← hc, ← e]
        exact ha
      · exact F.nd i
/-- another bit for a pair that is not done yet -/
def put (dec : Nat → Nat → Bool) (k j : Nat) (d : Bool) : Nat → Nat → Bool := fun x y => if x = k ∧ y = j then d else dec x y
theorem put_same {d : Bool} : put dec k j d k j = d := by
  unfold put
  rw [if_pos ⟨rfl, rfl⟩]
theorem Fill.other (F : Fill n pl dec k j R) (d : Bool) : Fill n pl (put dec k j d) k j R := by
  have e : ∀ x y, Pr k j x y → put dec k j d x y = dec x y := fun x y h => by
    unfold put
    rw [if_neg]
    rintro ⟨e1, e2⟩
    unfold Pr at h
    omega
  refine ⟨fun x y hx hy => (F.mem x y hx hy).trans ?_, F.sub, F.nd⟩
  constructor
  · rintro (⟨a, c, g⟩ | ⟨a, c, g⟩)
    · exact .inl ⟨a, c, by rw [e _ _ c]; exact g⟩
    · exact .inr ⟨a, c, by rw [e _ _ c]; exact g⟩
  · rintro (⟨a, c, g⟩ | ⟨a, c, g⟩)
    · exact .inl ⟨a, c, by rw [e _ _ c] at g; exact g⟩
    · exact .inr ⟨a, c, by rw [e _ _ c] at g; exact g⟩
/-- all pairs done -/
theorem Fill.rows (F : Fill n pl dec n j R) {b : Nat → Nat → Bool} (sur : ∀ i, i < n → ∃ x, x < n ∧ pl x = i) (hb : ∀ x y, x < y → y < n → b (pl x) (pl y) = dec x y ∧ b (pl y) (pl x) = !dec x y) (irr : ∀ i, b i i = false) {i : Nat} (hi : i < n) :
    (R i).Perm (row n b i) := by
  refine perm_row (F.nd i) fun v => ?_
  constructor
  · intro h
    have hv := F.sub i v h
    refine ⟨hv, ?_⟩
    obtain ⟨x, hx, rfl⟩ := sur i hi
    obtain ⟨y, hy, rfl⟩ := sur v hv
    rcases (F.mem x y hx hy).mp h with ⟨a, _, d⟩ | ⟨a, _, d⟩
    · rw [(hb x y a hy).1, d]
    · rw [(hb y x a hx).2, d]
      rfl
  · rintro ⟨hv, h⟩
    obtain ⟨x, hx, rfl⟩ := sur i hi
    obtain ⟨y, hy, rfl⟩ := sur v hv
    refine (F.mem x y hx hy).mpr ?_
    rcases Nat.lt_trichotomy x y with q | q | q
    · rw [(hb x y q hy).1] at h
      exact .inl ⟨q, .inl hx, h⟩
    · subst q
      rw [irr] at h
      cases h
    · rw [(hb y x q hx).2] at h
      refine .inr ⟨q, .inl hy, ?_⟩
      simpa using h
/-- the relation of the bits -/
def bd (dec : Nat → Nat → Bool) (i j : Nat) : Bool := if i < j then dec i j else if j < i then !dec j i else false
theorem bd_irr (i : Nat) : bd dec i i = false := by
  unfold bd
  rw [if_neg (Nat.lt_irrefl i), if_neg (Nat.lt_irrefl i)]
theorem bd_at {x y : Nat} (h : x < y) : bd dec x y = dec x y ∧ bd dec y x = !dec x y := by
  unfold bd
  rw [if_pos h, if_neg (by omega), if_pos h]
  exact ⟨rfl, rfl⟩
theorem bd_trn : Trn n (bd dec) := by
  refine ⟨fun i _ => bd_irr i, fun i j _ _ ne => ?_⟩
  rcases Nat.lt_or_gt_of_ne ne with q | q
  · rw [(bd_at q).1, (bd_at q).2]
    simp
  · rw [(bd_at q).1, (bd_at q).2]
end

/-! ### the places of a signed order as the rows' filler -/
structure Ord (n : Nat) (o : List (Nat × Bool)) : Prop where
  len : o.length = n
  nd : (pls o).Nodup
  mem : ∀ i, i ∈ pls o ↔ i < n
def plo (o : List (Nat × Bool)) (x : Nat) : Nat := (o[x]?.map (·.1)).getD 0
def sgo (o : List (Nat × Bool)) (x : Nat) : Bool := (o[x]?.map (·.2)).getD true
def deco (o : List (Nat × Bool)) (x y : Nat) : Bool := sgo o x == sgo o y
section
variable {n : Nat} {o : List (Nat × Bool)}
theorem plo_at {x p : Nat} {s : Bool} (h : o[x]? = some (p, s)) : plo o x = p ∧ sgo o x = s := by
  unfold plo sgo
  rw [h]
  exact ⟨rfl, rfl⟩
theorem Ord.at (O : Ord n o) {x : Nat} (h : x < n) : o[x]? = some (plo o x, sgo o x) := by
  have hl : x < o.length := by rw [O.len]; exact h
  obtain ⟨e1, e2⟩ := plo_at (o := o) (x := x) (p := o[x].1) (s := o[x].2) (List.getElem?_eq_getElem hl)
  rw [e1, e2, List.getElem?_eq_getElem hl]
theorem Ord.inj (O : Ord n o) (x y : Nat) (hx : x < n) (hy : y < n) (e : plo o x = plo o y) : x = y := by
  have h1 := pos_at O.nd (O.at hx)
  rw [e, pos_at O.nd (O.at hy)] at h1
  exact h1.symm
theorem Ord.ran (O : Ord n o) (x : Nat) (hx : x < n) : plo o x < n := by
  refine (O.mem _).mp ?_
  unfold pls
  exact List.mem_map.mpr ⟨_, List.mem_of_getElem? (O.at hx), rfl⟩
theorem Ord.sur (O : Ord n o) (i : Nat) (hi : i < n) : ∃ x, x < n ∧ plo o x = i := by
  have hm := (O.mem i).mpr hi
  exact ⟨pos o i, by rw [← O.len]; exact pos_lt hm, (plo_at (at_pos hm)).1⟩
theorem Ord.bo (O : Ord n o) (x y : Nat) (h : x < y) (hy : y < n) : bo o (plo o x) (plo o y) = deco o x y ∧ K53.bo o (plo o y) (plo o x) = !deco o x y :=
  bo_at O.nd (O.at (by omega)) (O.at hy) h
theorem Ord.trn (O : Ord n o) : Trn n (K53.bo o) := bo_trn fun i hi => (O.mem i).mpr hi
theorem Ord.clear (O : Ord n o) : ¬ Obs n (K53.bo o) := bo_clear fun i hi => (O.mem i).mpr hi
end

/-! ### triangles found, and what is due -/
def ext (n : Nat) (b : Nat → Nat → Bool) (r : List Nat) : List (List Nat) := ((row n b (r.getLast?.getD 0)).filter fun v => !decide (v ∈ r)).map fun v => r ++ [v]
def one (n : Nat) : List (List Nat) := (List.range n).map fun k => [k]
def exts (n : Nat) (b : Nat → Nat → Bool) (rs : List (List Nat)) : List (List Nat) := rs.flatMap (ext n b)
def isTri (b : Nat → Nat → Bool) (r : List Nat) : Bool := match r with
  | [x, _, z] => b z x
  | _ => false
def least (r : List Nat) : Bool := match r with
  | [x, y, z] => decide (x ≤ y) && decide (x ≤ z)
  | _ => false
def tris (n : Nat) (b : Nat → Nat → Bool) : List (List Nat) := ((exts n b (exts n b (one n))).filter (isTri b)).filter least

theorem ext_len {n : Nat} {b : Nat → Nat → Bool} {r : List Nat} : (ext n b r).length ≤ n := by
  unfold ext
  rw [List.length_map]
  exact Nat.le_trans (List.length_filter_le _ _) row_len
theorem exts_len {n : Nat} {b : Nat → Nat → Bool} : ∀ rs : List (List Nat), (exts n b rs).length ≤ rs.length * n
  | [] => by simp [exts]
  | r :: rs => by
    have ih := exts_len (n := n) (b := b) rs
    unfold exts at ih ⊢
    rw [List.flatMap_cons, List.length_append, List.length_cons, Nat.add_mul, Nat.one_mul]
    have := ext_len (n := n) (b := b) (r := r)
    omega
theorem exts_snoc {n : Nat} {b : Nat → Nat → Bool} (rs : List (List Nat)) (r : List Nat) : exts n b (rs ++ [r]) = exts n b rs ++ ext n b r := by
  unfold exts
  rw [List.flatMap_append]
  simp
theorem mem_two {n : Nat} {b : Nat → Nat → Bool} {r : List Nat} : r ∈ exts n b (one n) ↔ ∃ x y, r = [x, y] ∧ x < n ∧ y < n ∧ b x y = true ∧ y ≠ x := by
  unfold exts one
  rw [List.mem_flatMap]
  constructor
  · rintro ⟨q, hq, h⟩
    obtain ⟨x, hx, rfl⟩ := List.mem_map.mp hq
    unfold ext at h
    obtain ⟨y, hy, rfl⟩ := List.mem_map.mp h
    rw [List.mem_filter] at hy
    obtain ⟨hy, hy2⟩ := hy
    obtain ⟨h1, h2⟩ := mem_row.mp hy
    refine ⟨x, y, rfl, List.mem_range.mp hx, h1, h2, ?_⟩
    simpa using hy2
  · rintro ⟨x, y, rfl, hx, hy, h, ne⟩
    refine ⟨[x], List.mem_map.mpr ⟨x, List.mem_range.mpr hx, rfl⟩, ?_⟩
    unfold ext
    refine List.mem_map.mpr ⟨y, ?_, rfl⟩
    rw [List.mem_filter]
    exact ⟨mem_row.mpr ⟨hy, h⟩, by simpa using ne⟩
theorem mem_three {n : Nat} {b : Nat → Nat → Bool} {r : List Nat} : r ∈ exts n b (exts n b (one n)) ↔ ∃ x y z, r = [x, y, z] ∧ x < n ∧ y < n ∧ z < n ∧ b x y = true ∧ y ≠ x ∧ b y z = true ∧ z ≠ x ∧ z ≠ y := by
  rw [exts, List.mem_flatMap]
  constructor
  · rintro ⟨q, hq, h⟩
    obtain ⟨x, y, rfl, hx, hy, h1, ne⟩ := mem_two.mp hq
    unfold ext at h
    obtain ⟨z, hz, rfl⟩ := List.mem_map.mp h
    rw [List.mem_filter] at hz
    obtain ⟨hz, hz2⟩ := hz
    obtain ⟨h2, h3⟩ := mem_row.mp hz
    have hz2 : z ≠ x ∧ z ≠ y := by simpa using hz2
    exact ⟨x, y, z, rfl, hx, hy, h2, h1, ne, h3, hz2.1, hz2.2⟩
  · rintro ⟨x, y, z, rfl, hx, hy, hz, h1, ne, h2, n1, n2⟩
    refine ⟨[x, y], mem_two.mpr ⟨x, y, rfl, hx, hy, h1, ne⟩, ?_⟩
    unfold ext
    refine List.mem_map.mpr ⟨z, ?_, rfl⟩
    rw [List.mem_filter]
    refine ⟨mem_row.mpr ⟨hz, h2⟩, ?_⟩
    simp [n1, n2]
theorem mem_tris {n : Nat} {b : Nat → Nat → Bool} {r : List Nat} : r ∈ tris n b ↔ ∃ x y z, r = [x, y, z] ∧ x < n ∧ y < n ∧ z < n ∧ b x y = true ∧ y ≠ x ∧ b y z = true ∧ z ≠ x ∧ z ≠ y ∧ b z x = true ∧ x ≤ y ∧ x ≤ z := by
  unfold tris
  rw [List.mem_filter, List.mem_filter, mem_three]
  constructor
  · rintro ⟨⟨⟨x, y, z, rfl, h⟩, h1⟩, h2⟩
    have h2' : x ≤ y ∧ x ≤ z := by simpa [least] using h2
    have h1' : b z x = true := h1
    obtain ⟨a1, a2, a3, a4, a5, a6, a7, a8⟩ := h
    exact ⟨x, y, z, rfl, a1, a2, a3, a4, a5, a6, a7, a8, h1', h2'.1, h2'.2⟩
  · rintro ⟨x, y, z, rfl, a1, a2, a3, a4, a5, a6, a7, a8, h1, h2, h3⟩
    refine ⟨⟨⟨x, y, z, rfl, a1, a2, a3, a4, a5, a6, a7, a8⟩, h1⟩, ?_⟩
    simp [least, h2, h3]
/-- a player and a triangle found: is something due -/
def hit (b : Nat → Nat → Bool) (p : Nat) (r : List Nat) : Bool := !decide (p ∈ r) && (r.all (fun v => b p v) || !r.any fun v => b p v)
def due (n : Nat) (b : Nat → Nat → Bool) (rs : List (List Nat)) : Bool := rs.any fun r => (List.range n).any fun p => hit b p r
theorem due_perm {n : Nat} {b : Nat → Nat → Bool} {rs qs : List (List Nat)} (h : rs.Perm qs) : due n b rs = due n b qs := by
  unfold due
  rw [Bool.eq_iff_iff, List.any_eq_true, List.any_eq_true]
  constructor
  · rintro ⟨r, hr, q⟩
    exact ⟨r, h.mem_iff.mp hr, q⟩
  · rintro ⟨r, hr, q⟩
    exact ⟨r, h.mem_iff.mpr hr, q⟩
theorem due_obs {n : Nat} {b : Nat → Nat → Bool} (t : Trn n b) : due n b (tris n b) = true ↔ Obs n b := by
  unfold due
  rw [List.any_eq_true]
  constructor
  · rintro ⟨r, hr, h⟩
    obtain ⟨x, y, z, rfl, hx, hy, hz, h1, n1, h2, n2, n3, h3, _, _⟩ := mem_tris.mp hr
    rw [List.any_eq_true] at h
    obtain ⟨p, hp, hh⟩ := h
    rw [List.mem_range] at hp
    unfold hit at hh
    rw [Bool.and_eq_true] at hh
    obtain ⟨g1, g2⟩ := hh
    have g1 : p ≠ x ∧ p ≠ y ∧ p ≠ z := by simpa using g1
    refine ⟨p, x, y, z, hp, hx, hy, hz, h1, h2, h3, ?_⟩
    rw [Bool.or_eq_true] at g2
    rcases g2 with g2 | g2
    · left
      simpa using g2
    · right
      have g2 : b p x = false ∧ b p y = false ∧ b p z = false := by simpa using g2
      rw [t.anti x p hx hp (Ne.symm g1.1), t.anti y p hy hp (Ne.symm g1.2.1), t.anti z p hz hp (Ne.symm g1.2.2), g2.1, g2.2.1, g2.2.2]
      exact ⟨rfl, rfl, rfl⟩
  · -- the triangle from its least player on
    have main : ∀ a x y z, a < n → x < n → y < n → z < n → b x y = true → b y z = true → b z x = true → x ≤ y → x ≤ z →
        ((b a x = true ∧ b a y = true ∧ b a z = true) ∨ (b x a = true ∧ b y a = true ∧ b z a = true)) → ∃ r, r ∈ tris n b ∧ ((List.range n).any fun p => hit b p r) = true := by
      intro a x y z ha hx hy hz h1 h2 h3 l1 l2 h4
      have irr : ∀ {i j : Nat}, i < n → b i j = true → i ≠ j := fun {i j} hi h e => by
        subst e
        rw [t.irr i hi] at h
        cases h
      refine ⟨[x, y, z], mem_tris.mpr ⟨x, y, z, rfl, hx, hy, hz, h1, Ne.symm (irr hx h1), h2, irr hz h3, Ne.symm (irr hy h2), h3, l1, l2⟩, ?_⟩
      rw [List.any_eq_true]
      refine ⟨a, List.mem_range.mpr ha, ?_⟩
      unfold hit
      rcases h4 with ⟨g1, g2, g3⟩ | ⟨g1, g2, g3⟩
      · simp [g1, g2, g3, irr ha g1, irr ha g2, irr ha g3]
      · have n1 := Ne.symm (irr hx g1)
        have n2 := Ne.symm (irr hy g2)
        have n3 := Ne.symm (irr hz g3)
        have e1 := t.anti a x ha hx n1
        have e2 := t.anti a y ha hy n2
        have e3 := t.anti a z ha hz n3
        rw [g1] at e1
        rw [g2] at e2
        rw [g3] at e3
        simp [e1, e2, e3, n1, n2, n3]
    rintro ⟨a, x, y, z, ha, hx, hy, hz, h1, h2, h3, h4⟩
    by_cases c1 : x ≤ y ∧ x ≤ z
    · exact main a x y z ha hx hy hz h1 h2 h3 c1.1 c1.2 h4
    · by_cases c2 : y ≤ z ∧ y ≤ x
      · exact main a y z x ha hy hz hx h2 h3 h1 c2.1 c2.2 (h4.elim (fun g => .inl ⟨g.2.1, g.2.2, g.1⟩) fun g => .inr ⟨g.2.1, g.2.2, g.1⟩)
      · exact main a z x y ha hz hx hy h3 h1 h2 (by omega) (by omega) (h4.elim (fun g => .inl ⟨g.2.2, g.1, g.2.1⟩) fun g => .inr ⟨g.2.2, g.1, g.2.1⟩)
end K53

namespace K53
open PySem PySem.Spec PyProof.Rows L2

/-! ## Rules that the layer lacks: enumerate over a tuple, min of a tuple, sorted of data -/

/-- the iterator and the enumerate object over a tuple at l, made in this order -/
abbrev titO (l : Addr) : Obj := { cls := .type "tuple_iterator", data := .fields #[.ref l, .int 0 0] }
abbrev enuO (it : Addr) : Obj := { cls := .type "enumerate", data := .fields #[.none, .bool false, .ref it, rawInt 0, .none, .none] }

theorem new_enumT (l : Addr) (items : Array Value) (n : Nat) (dct : Option Addr) (sl : Array (Option Value)) :
    Meets (Builtin.«enumerate.__new__» ⟨[.type "enumerate", .ref l], []⟩) (fun _ R s => s.heap.get? l = some { cls := .type "tuple", dict := dct, data := .seq items n, slots := sl } ∧
      R (.ok (.ret (.ref (s.heap.push (titO l)).objs.size))) { s with heap := (s.heap.push (titO l)).push (enuO s.heap.objs.size) }) := by
  refine .of_wp fun prog w A R s h => ?_
  obtain ⟨hp, g, d, tk, os⟩ := s
  obtain ⟨ht, hr⟩ := h
  have hsub := sub_enumerate
  have hT : Heap.IsTuple (Shared.heap ⟨hp, g, d, tk, os⟩) l items := ⟨_, ht, rfl, n, rfl⟩
  wp_walk using PySem.AutoSeq1.wpAny_loadPart' ht
  refine wpAny_stack_any fun st => wpAny_pure ?_
  split
  · rename_i c _ _ _ _ _
    cases (c == Value.type "enumerate") <;> (wp_walk using PySem.AutoSeq1.wpAny_loadPart' ht, wpAny_pyIter_tuple hT; exact ⟨_, rfl, hr⟩)
  · wp_walk using PySem.AutoSeq1.wpAny_loadPart' ht, wpAny_pyIter_tuple hT
    exact ⟨_, rfl, hr⟩
section
variable {prog : Program} {w : World} {A : Around} {E : Value → Shared → Prop} {s : Shared}
/-- enumerate(t), t a tuple -/
theorem call_enumT {l : Addr} {items : Array Value} {Q : Value → Shared → Prop} (ht : s.heap.IsTuple l items)
    (h : ∀ h', IsEnum h' (s.heap.objs.size + 1) s.heap.objs.size 0 .none → h'.IsTupleIter s.heap.objs.size l 0 → (∀ b o, s.heap.get? b = some o → h'.get? b = some o) →
      Q (.ref (s.heap.objs.size + 1)) { s with heap := h' }) : wpAny (model prog w) A (call (.type "enumerate") [.ref l]) Q E s := by
  obtain ⟨⟨cl, dct, dt, sl⟩, g, e1, n, e2⟩ := ht
  simp only at e1 e2
  subst e1 e2
  have hz : (s.heap.push (titO l)).objs.size = s.heap.objs.size + 1 := Heap.size_push ..
  refine callType_new F.called_enumerate (by decide) (F.typeCall_enumerate_1 _) (F.newCall_enumerate_1 _) (fun obj => F.args_object_init_2 obj _) F.entry_enumerate_new (new_enumT l items n dct sl) ⟨g, ?_⟩
  have he : IsEnum ((s.heap.push (titO l)).push (enuO s.heap.objs.size)) (s.heap.objs.size + 1) s.heap.objs.size 0 .none := by
    have q := Heap.get?_push_size (s.heap.push (titO l)) (o := enuO s.heap.objs.size) rfl
    rw [hz] at q
    exact q
  have hi : ((s.heap.push (titO l)).push (enuO s.heap.objs.size)).get? s.heap.objs.size = some (titO l) := Heap.get?_push_of_some _ (Heap.get?_push_size _ rfl)
  show _ ∧ _
  rw [hz]
  exact ⟨⟨_, he, rfl⟩, h _ he ⟨_, hi, rfl, rfl⟩ fun b o q => Heap.get?_push_of_some _ (Heap.get?_push_of_some _ q)⟩
end

/-- what enumerate over the tuple at a gives: a new pair at each turn -/
def IteT (K : PySem.W.Frag) (a : Addr) : It where
  go := fun i H => ∃ (xs : List V) (x : V), SqT K H a xs ∧ xs[i]? = some x
  yld := fun i H v H' => ∃ T x, v = .ref T ∧ H T = none ∧ H' = upd H T (.tup [.int (i : Nat), x]) ∧ ∀ xs, SqT K H a xs → xs[i]? = some x
  stop := fun i H => ∃ xs : List V, SqT K H a xs ∧ xs.length ≤ i
theorem turn_enumT {P : Program} {w : World} {K : PySem.W.Frag} {elts : List Expr} {kk : Nat} {tpos : Pos} (a e it : Addr) (n1 : e ≠ it) (n2 : e ≠ a) (n3 : a ≠ it) :
    Turn P w K (.Tuple elts kk tpos) (IteT K a) [e, it] e (fun i h => (∃ old, IsEnum h e it ((i : Nat) : Int) old) ∧ h.IsTupleIter it a i) where
  mem := List.mem_cons_self
  obj := fun i h st b hb => by
    obtain ⟨⟨old, h1⟩, ⟨o, h2, _, h3⟩⟩ := st
    rcases List.mem_cons.mp hb with z | hb
    · subst z
      exact ⟨_, h1, fun v q => nomatch q⟩
    · have z := List.mem_singleton.mp hb
      subst z
      refine ⟨o, h2, fun v q => ?_⟩
      rw [h3] at q
      cases q
  keep := fun i h h' st k => by
    obtain ⟨⟨old, h1⟩, h2⟩ := st
    exact ⟨⟨old, k e (by simp) _ h1⟩, h2.at fun o q => k it (by simp) o q⟩
  item := by
    intro X hP hw hK hc i pins s σ H E I hf st hg
    subst hP hw hK
    obtain ⟨he, hit⟩ := st
    obtain ⟨xs, x, hq, hx⟩ := hg
    obtain ⟨its, rv, ht, hz⟩ := I.tuple hq
    obtain ⟨u, hu, ru⟩ := rv.get hx
    have hlt : i < its.toArray.size := by
      rw [List.size_toArray]
      exact (List.getElem?_eq_some_iff.mp hu).1
    have hh : X.A.in1.handled = none := I.ok.hd hc
    have W := WalksT.enumerateD (Draws.tuple (prog := X.prog) (w := X.w) hh it a n3 its.toArray) e n1 (by simp [n1, n2]) (by simp)
    refine W.item i s _ _ hlt ⟨he, hit, ht⟩ fun T vals h' tk hP hT hTup hmid hk => ⟨_, rfl, ?_⟩
    obtain ⟨tt, x', hx', rfl⟩ := hP
    have ex : u = x' := by
      have : its.toArray[i]? = some u := by simpa using hu
      exact Option.some.inj (this.symm.trans hx')
    subst ex
    have apT := W.apart i T h' hmid
    refine W.go elts kk tpos i T _ _ _ hmid fun h'' hst hk2 => ?_
    have hTup2 : IsTup h'' T #[.int i tt, u] := by
      obtain ⟨o, q1, q2⟩ := hTup
      exact ⟨o, hk2 T o apT q1, q2⟩
    have new : ObjOk X.prog X.w (upd H T (.tup [.int (i : Nat), x])) h'' T (.tup [.int (i : Nat), x]) :=
      ⟨by show 2 ≤ sizeLine; decide, [.int i tt, u], .cons ⟨_, rfl⟩ (.cons ru .nil), hTup2⟩
    have I1 : Inv X pins σ (upd H T (.tup [.int (i : Nat), x])) { s with heap := h'', toks := tk } :=
      I.turnedNew (ch := [e, it]) (fun b ob hb q => hk2 b ob hb (hk b ob hb q)) hf hT new
    refine ⟨.ref T, _, I1, rfl, ⟨T, x, rfl, I.hok.fresh hT, rfl, fun ys hy => ?_⟩, ⟨hst.1, hst.2.1⟩, fun b hb => ?_⟩
    · rw [I.tuple_inj hy hq]
      exact hx
    · have hbT : b ≠ T := fun z => apT (z ▸ hb)
      rw [upd_ne hbT]
      exact (hf b hb).1
  done := by
    intro X hP hw hK hc i pins s σ H E I hf st hg
    subst hP hw hK
    obtain ⟨⟨old, he⟩, hit⟩ := st
    obtain ⟨xs, hq, hx⟩ := hg
    obtain ⟨its, rv, ht, hz⟩ := I.tuple hq
    have hl := rv.length
    have hh : X.A.in1.handled = none := I.ok.hd hc
    have hn : its.toArray[i]? = none := by
      rw [List.getElem?_toArray, List.getElem?_eq_none_iff]
      omega
    have hT : s.TypeIs (.ref e) "enumerate" := ⟨_, he, rfl⟩
    obtain ⟨f0, f1, f2, f3, f4, f5⟩ := hf it (by simp)
    unfold pyNext
    refine wpAny_bind (wpAny_attempt (wpAny_callSpecial?_slot (name := Str.ofString "__next__") hT F.slot_enumerate_next
      (wpAny_call_entry F.slot_enumerate_next hT F.entry_enumerate_next ?_ (F.args_enumerate_next_1 _))))
    show wpAny _ _ (field (.ref e) 2 >>= _) _ _ _
    refine wpAny_bind (wpAny_field he rfl (x := .ref it) rfl ?_)
    refine wpAny_bind (PySem.wpAny_nextOf_tuple_end hh hit ht hn fun h' v eb ⟨o, ho, hcl⟩ => ?_)
    exact wpAny_bind (wpAny_isInstance (T := "StopIteration") (b := true) ⟨o, ho, hcl⟩ isSubtype_stop (wpAny_pure ⟨rfl, I.turned (t' := s.toks) (fun b o hb q => eb b o hb q) f0 f1 f3 f4 f5⟩))
  self := fun A i s Q E st h => by
    obtain ⟨⟨_, he⟩, _⟩ := st
    exact wpAny_pyIter_enum he h
def iEnumT (K : PySem.W.Frag) (ta : TA) : TI := fun σ H R => ta σ H fun vs H1 => ∃ a xs, vs = [.ref a] ∧ SqT K H1 a xs ∧ R (IteT K a) H1
theorem pi_enumT {X : Cx} {e : Expr} {ta : TA} {p pos tpos : Pos} {elts : List Expr} {kk : Nat} (hg : Gl X "enumerate") (hm : X.mg "enumerate" = none) (ha : PA X [e] ta) (hs : starEach [e] X.env = [(false, eval e X.env)] := by rfl) :
    PI X (.Tuple elts kk tpos) (.Call (.Name "enumerate" p) [e] [] pos) (iEnumT X.K ta) := by
  refine ⟨fun pins s σ H R I h => Call_ (ld_blt I hg hm boot_enumerate (PyProof.Rows.callWith_type1 (thn (ha.run pos pins s σ H _ I h) ?_) hs rfl))⟩
  rintro us s1 ⟨vs, H1, I1, r1, a, xs, rfl, hq, q⟩
  rw [Vals.ref1 r1]
  obtain ⟨its, rv, ht, hz⟩ := I1.tuple hq
  have la : a < s1.heap.objs.size := ht.lt
  refine call_enumT ht fun h' he hit hk => wpAny_pyIter_enum he ?_
  have I2 : Inv X pins σ H1 { s1 with heap := h' } := I1.kept (t' := s1.toks) hk
  have n1 : s1.heap.objs.size + 1 ≠ s1.heap.objs.size := Nat.succ_ne_self _
  have n2 : s1.heap.objs.size + 1 ≠ a := Nat.ne_of_gt (Nat.lt_succ_of_lt la)
  have n3 : a ≠ s1.heap.objs.size := Nat.ne_of_lt la
  refine ⟨s1.heap.objs.size + 1, [s1.heap.objs.size + 1, s1.heap.objs.size], _, _, H1, rfl, I2, turn_enumT a _ _ n1 n2 n3, ⟨⟨.none, he⟩, hit⟩, fun b hb => ?_, q⟩
  have hb' : s1.heap.objs.size ≤ b := by
    rcases List.mem_cons.mp hb with z | hb
    · rw [z]
      exact Nat.le_succ _
    · rw [List.mem_singleton.mp hb]
      exact Nat.le_refl _
  exact I1.fpOk hb' (I1.hok.fresh hb')
/-- a loop over enumerate of a tuple -/
theorem for_enumT {K : PySem.W.Frag} {a : Addr} {xs : List V} {g : TG} {tb : TS} {D : Ends} {σ : L2.St} {H : Hp} (Pv : Nat → L2.St → Hp → Prop) (h0 : Pv 0 σ H) (hl : ∀ i σ H, i ≤ xs.length → Pv i σ H → SqT K H a xs)
    (hs : ∀ i x T σ H, xs[i]? = some x → Pv i σ H → H T = none → g (.ref T) σ (upd H T (.tup [.int (i : Nat), x])) fun σ2 H2 => tb { D with nx := Pv (i + 1), ct := Pv (i + 1), bk := D.nx } σ2 H2) (hd : ∀ σ H, Pv xs.length σ H → D.nx σ H) :
    ∃ W : Nat → Nat → L2.St → Hp → Prop, (∃ m, W 0 m σ H) ∧ ∀ i m σ H, W i m σ H →
      ((IteT K a).stop i H ∧ D.nx σ H) ∨ ((IteT K a).go i H ∧ ∃ Nx : L2.St → Hp → Prop, (∀ σ' H', Nx σ' H' → ∃ m', m' < m ∧ W (i + 1) m' σ' H') ∧ ∀ x H', (IteT K a).yld i H x H' → g x σ H' fun σ2 H2 => tb { D with nx := Nx, ct := Nx, bk := D.nx } σ2 H2) := by
  refine ⟨fun i m σ H => m + i = xs.length ∧ Pv i σ H, ⟨xs.length, rfl, h0⟩, ?_⟩
  rintro i m σ H ⟨hm, p⟩
  have q := hl i σ H (by omega) p
  by_cases hi : i < xs.length
  · refine .inr ⟨⟨xs, xs[i], q, List.getElem?_eq_getElem hi⟩, Pv (i + 1), fun σ' H' p' => ⟨m - 1, by omega, by omega, p'⟩, ?_⟩
    rintro x H' ⟨T, y, rfl, hT, rfl, hy⟩
    exact hs i y T σ H (hy xs q) p hT
  · have e : i = xs.length := by omega
    subst e
    exact .inl ⟨⟨xs, q, Nat.le_refl _⟩, hd σ H p⟩
end K53

namespace K53
open PySem PySem.Spec PyProof.Rows L2
/-! ## min of a tuple of ints, sorted of a list of data -/
section
variable {X : Cx}
theorem dp_ints {K : PySem.W.Frag} {H : Hp} : ∀ ns : List Int, DpAll K H (ns.map V.int) (ns.map PyData.int)
  | [] => .nil
  | n :: ns => .cons (.int n) (dp_ints ns)
theorem ints_alike (ns : List Int) : PySem.W.AlikeAll (ns.map PyData.int) := by
  refine ⟨fun x hx y hy => ?_, fun x hx e => ?_⟩
  · obtain ⟨i, _, rfl⟩ := List.mem_map.mp hx
    obtain ⟨j, _, rfl⟩ := List.mem_map.mp hy
    simp [PySem.W.alike]
  · obtain ⟨i, _, q⟩ := List.mem_map.mp hx
    rw [e] at q
    cases q
def rMinT (K : PySem.W.Frag) : List V → Hp → VK → Prop := fun vs H Q => ∃ (a : Addr) (n : Int) (ns : List Int), vs = [V.ref a] ∧ SqT K H a ((n :: ns).map V.int) ∧ Q (.int (ns.foldl min n)) H
theorem cr_minT (hc : X.calm = true) (hu : X.A.units + 64 < cLine) : CallR X (.builtin "min") (rMinT X.K) := by
  rintro pins s σ H vs us Q I r ⟨a, n, ns, rfl, hs, q⟩
  obtain ⟨its, rv, ht, hz⟩ := I.tuple hs
  rw [Vals.ref1 r]
  obtain ⟨as, hr⟩ := Dp.readsAll I _ _ _ (dp_ints (K := X.K) (H := H) (n :: ns)) rv
  have hd : PyData.depthAll ((n :: ns).map PyData.int) = 0 := PySem.W.depth_ints (n :: ns)
  refine PySem.W.min_tuple_data (x := .int n) (xs := ns.map .int) (as := as) (I.ok.hd hc) ht (by simpa using hr) (ints_alike (n :: ns)) ?_ fun i v h' tk bs hv rd k => ?_
  · have hd' : PyData.depthAll (PyData.int n :: ns.map PyData.int) = 0 := hd
    rw [hd']
    omega
  · rw [PySem.W.minD_ints] at rd
    cases rd with
    | int _ t => exact ⟨.int _, H, I.kept k, ⟨t, rfl⟩, q⟩

/-- sorted of data: val the items' values, dat what they stand for, the order of the new list -/
def ItemsOk (K : PySem.W.Frag) (H : Hp) {β : Type} (val : β → V) (dat : β → PyData) (bs : List β) : Prop :=
  (∀ b ∈ bs, Dp K H (val b) (dat b)) ∧ PySem.W.AllAlike (bs.map dat) ∧ PySem.W.Sortable (bs.map dat) ∧ ∀ b ∈ bs, (dat b).depth ≤ 20
def rSortD (K : PySem.W.Frag) {β : Type} (val : β → V) (dat : β → PyData) : List V → Hp → VK → Prop := fun vs H Q => ∃ (a : Addr) (bs : List β), vs = [V.ref a] ∧ SqL K H a (bs.map val) ∧ ItemsOk K H val dat bs ∧
  ∀ (cs : List β) (p : Addr), cs.Perm bs → cs.Pairwise (fun b c => PySem.W.dataLe false dat b c = true) → H p = none → Q (.ref p) (upd H p (.lst (cs.map val)))
theorem each_of_vals {β : Type} {val : β → V} : ∀ {bs : List β} {us : List Value}, Vals (bs.map val) us → PySem.W.EachIs (fun (u : Value) (b : β) => RelV (val b) u) us bs
  | [], us, h => by
    cases h
    exact .nil
  | b :: bs, us, h => by
    cases h with
    | cons r t => exact .cons r (each_of_vals t)
theorem vals_of_each {β : Type} {val : β → V} : ∀ {bs : List β} {us : List Value}, PySem.W.EachIs (fun (u : Value) (b : β) => RelV (val b) u) us bs → Vals (bs.map val) us
  | _, _, .nil => .nil
  | _, _, .cons h t => .cons h (vals_of_each t)
theorem cr_sortD {β : Type} {val : β → V} {dat : β → PyData} (hu : X.A.units + 64 < cLine) : CallR X (.builtin "sorted") (rSortD X.K val dat) := by
  rintro pins s σ H vs us Q I r ⟨a, bs, rfl, hs, ⟨hd, hal, hk, hdep⟩, q⟩
  obtain ⟨its, rv, hl, hz⟩ := I.list hs
  rw [Vals.ref1 r]
  have e := each_of_vals rv
  have er : PySem.W.EachIs (fun (u : Value) (b : β) => ∃ as, Reads s.heap u (dat b) as) its bs := by
    have hd' := hd
    clear hs hal hk hdep q hz hd rv hl
    induction e with
    | nil => exact .nil
    | cons h1 t ih => exact .cons (Dp.reads I _ _ _ (hd' _ List.mem_cons_self) h1) (ih (fun b hb => hd' b (List.mem_cons_of_mem _ hb)))
  rw [List.length_map] at hz
  refine PySem.W.sorted_data (enc := dat) hl.isList e er hal hk hz (fun b hb => ?_) fun out ho eo => ?_
  · have := hdep b hb
    show X.A.units + 2 + (dat b).depth < cLine
    omega
  · obtain ⟨ep, he⟩ := sortedAll_at s.heap its (List.toArray out)
    have hp : (bs.mergeSort (PySem.W.dataLe false dat)).Perm bs := List.mergeSort_perm _ _
    have hlen : ((bs.mergeSort (PySem.W.dataLe false dat)).map val).length ≤ sizeLine := by
      rw [List.length_map, hp.length_eq]
      exact hz
    refine ⟨.ref _, upd H (s.heap.objs.size + 1) (.lst ((bs.mergeSort (PySem.W.dataLe false dat)).map val)), I.laid (t' := s.toks) (fun _ _ => sortedAll_old) (Nat.le_succ _) ⟨hlen, out, ep, vals_of_each eo, he⟩, rfl, ?_⟩
    exact q _ _ hp (PySem.W.sort_pairwise (PySem.W.sortLe_total _ _ _) bs) (I.hok.fresh (Nat.le_succ _))
end
section
variable {X : Cx}
/-- sorted(t), t a tuple of fewer than 64 ints -/
def rSortTI (K : PySem.W.Frag) : List V → Hp → VK → Prop := fun vs H Q => ∃ (a : Addr) (ns : List Int), vs = [V.ref a] ∧ SqT K H a (ns.map V.int) ∧ ns.length < 64 ∧
  ∀ (ms : List Int) (p : Addr), ms.Perm ns → ms.Pairwise (· ≤ ·) → H p = none → Q (.ref p) (upd H p (.lst (ms.map V.int)))
theorem cr_sortTI : CallR X (.builtin "sorted") (rSortTI X.K) := by
  rintro pins s σ H vs us Q I r ⟨a, ns, rfl, hs, h64, q⟩
  obtain ⟨its, rv, ht, hz⟩ := I.tuple hs
  rw [Vals.ref1 r]
  obtain ⟨o, ho, hcl, n, hd⟩ := ht
  have hi := rv.ints
  have hl : its.length = ns.length := hi.length
  refine PySem.Calls.call_function_entry kind_sorted plain_sorted entry_sorted (args_sorted1 _) ?_
  unfold Builtin.«sorted»
  refine wpAny_bind (m := checkCount "sorted" 1 1 _) (wpAny_pure (wpAny_bind ?_))
  refine wpAny_collect_seq a (.inr rfl) ho hcl hd (fun h' hk => ?_) (by rw [List.size_toArray, ← rv.length]; exact hz)
  have e : its.toArray.toList = its := by simp
  rw [e]
  refine wpAny_bind (wpAny_newList ?_ (by rw [← rv.length]; exact hz))
  have I1 : Inv X pins σ H { s with heap := h' } := I.kept (t' := s.toks) hk
  have g2 : (h'.push { cls := .type "list", data := .seq its.toArray }).get? h'.objs.size = some { cls := .type "list", data := .seq its.toArray } := Heap.get?_push_size _ rfl
  have I2 : Inv X pins σ (upd H h'.objs.size (.lst (ns.map V.int))) { s with heap := h'.push { cls := .type "list", data := .seq its.toArray } } :=
    I1.laid (t' := s.toks) (fun b u q => Heap.get?_push_of_some _ q) (Nat.le_refl _) ⟨hz, its, 0, rv, g2⟩
  refine wpAny_bind (wpAny_holding (wpAny_call_entry slot_list_sort ⟨_, g2, rfl⟩ entry_list_sort (list_sort_tree g2 hi (by rw [hl]; exact h64) fun out ms h1 h2 h3 => ?_) (args_list_sort _)))
  obtain ⟨ep, he⟩ := sortedHeap_at (vs := its) (out := out) g2
  refine ⟨_, rfl, wpAny_pure ⟨_, rfl, ?_⟩⟩
  have hlen : (ms.map V.int).length ≤ sizeLine := by
    rw [List.length_map, h2.length_eq]
    exact small64 h64
  have I3 := I2.write (x := h'.objs.size) (e := h'.objs.size) (o := .lst (ms.map V.int)) (t' := s.toks) (by rw [upd_same]; trivial) (.inl rfl) (fun b u hb hu => (sortedHeap_old hb (Heap.lt_size hu)).trans hu) ⟨_, he⟩ ⟨hlen, out.toList, ep, vals_of_ints h1, he⟩
  rw [upd_upd] at I3
  exact ⟨.ref h'.objs.size, _, I3, rfl, q ms _ h2 h3 (I1.hok.fresh (Nat.le_refl _))⟩
end
/-- of two pairs whose first parts are ints, the lesser first part stands first -/
theorem le_fst {β : Type} {dat : β → PyData} {b c : β} {i j : Int} {x y : PyData} (hb : dat b = .tuple [.int i, x]) (hc : dat c = .tuple [.int j, y]) (hle : PySem.W.dataLe false dat b c = true) : i ≤ j := by
  rw [PySem.W.dataLe_eq] at hle
  have hle : (!PySem.W.dataLt (dat c) (dat b)) = true := hle
  rw [hb, hc] at hle
  have ha : PySem.W.alike (PyData.int j) (.int i) = true := by simp [PySem.W.alike]
  by_cases hij : j < i
  · have ne : PyData.eqv (.int j) (.int i) = false := by
      simp only [PyData.eqv, beq_eq_false_iff_ne]
      omega
    rw [PySem.W.dataLt_tuple, PySem.W.dataLt_cons ha, ne, if_neg Bool.false_ne_true, PySem.W.dataLt_int, decide_eq_true hij] at hle
    cases hle
  · omega
end K53

namespace K53
open PySem PySem.Spec PyProof.Rows L2 Evl
/-! ## Readings that make new objects: what is known of the value and the heap behind them -/
abbrev Pp : Type := V → Hp → Prop
def Mon (P : Pp) : Prop := ∀ v H H', Ex H H' → P v H → P v H'
/-- the tuples stand (lists may have changed) -/
def ExT (H H' : Hp) : Prop := ∀ a xs, H a = some (.tup xs) → H' a = some (.tup xs)
theorem exT {H H' : Hp} (e : Ex H H') : ExT H H' := fun a xs h => e a _ h
theorem ExT.refl (H : Hp) : ExT H H := fun _ _ h => h
theorem ExT.trans {H H1 H2 : Hp} (a : ExT H H1) (b : ExT H1 H2) : ExT H H2 := fun c xs h => b c xs (a c xs h)
theorem ExT.lst {H : Hp} {D : Addr} {xs ys : List V} (h : H D = some (.lst xs)) : ExT H (upd H D (.lst ys)) := fun a zs e => by
  rw [upd_ne (ne_of e h (by intro q; cases q))]
  exact e
def MonT (P : Pp) : Prop := ∀ v H H', ExT H H' → P v H → P v H'
theorem MonT.mon {P : Pp} (h : MonT P) : Mon P := fun v H H' e p => h v H H' (exT e) p
def EvP (te : TE) (σ : L2.St) (H : Hp) (P : Pp) : Prop := ∀ H1, Ex H H1 → ∀ Q : VK, (∀ v H2, Ex H1 H2 → P v H2 → Q v H2) → te σ H1 Q
def EvAP (ta : TA) (σ : L2.St) (H : Hp) (R : List V → Hp → Prop) : Prop := ∀ H1, Ex H H1 → ∀ Q : List V → Hp → Prop, (∀ vs H2, Ex H1 H2 → R vs H2 → Q vs H2) → ta σ H1 Q
def Is (x : V) : Pp := fun v _ => v = x
theorem is_monT {x : V} : MonT (Is x) := fun _ _ _ _ h => h
theorem is_mon {x : V} : Mon (Is x) := fun _ _ _ _ h => h

/-- a list, a tuple whose items stand for those of l -/
abbrev Each {α : Type} (P : α → Pp) (l : List α) (ys : List V) (H : Hp) : Prop := Paired (fun a y => P a y H) l ys
def Lst {α : Type} (P : α → Pp) (l : List α) : Pp := fun v H => ∃ p ys, v = .ref p ∧ H p = some (.lst ys) ∧ Each P l ys H
def Tpl {α : Type} (P : α → Pp) (l : List α) : Pp := fun v H => ∃ p ys, v = .ref p ∧ H p = some (.tup ys) ∧ Each P l ys H
abbrev nums (l : List Nat) : List V := l.map fun k : Nat => V.int (k : Int)
/-- a tuple of nums -/
def IntsT (r : List Nat) : Pp := fun v H => ∃ p, v = .ref p ∧ H p = some (.tup (nums r))
/-- a tournament -/
def Tour (n : Nat) (b : Nat → Nat → Bool) : Pp := Tpl IntsT (tab n b)

section
variable {α : Type} {P : α → Pp} {l : List α} {ys : List V} {H H' : Hp} {v : V}
theorem Each.mono (hP : ∀ a, MonT (P a)) (e : ExT H H') (h : Each P l ys H) : Each P l ys H' := Paired.mapP h fun a y q => hP a y H H' e q
theorem lst_mon (hP : ∀ a, MonT (P a)) : Mon (Lst P l) := fun v H H' e ⟨p, ys, ev, h, r⟩ => ⟨p, ys, ev, e _ _ h, r.mono hP (exT e)⟩
theorem tpl_monT (hP : ∀ a, MonT (P a)) : MonT (Tpl P l) := fun v H H' e ⟨p, ys, ev, h, r⟩ => ⟨p, ys, ev, e _ _ h, r.mono hP e⟩
theorem intsT_monT (r : List Nat) : MonT (IntsT r) := fun v H H' e ⟨p, ev, h⟩ => ⟨p, ev, e _ _ h⟩
theorem tour_monT {n : Nat} {b : Nat → Nat → Bool} : MonT (Tour n b) := tpl_monT intsT_monT
theorem Paired.getL {β γ : Type} {F : β → γ → Prop} : ∀ {xs : List β} {zs : List γ} {i : Nat} {x : β}, Paired F xs zs → xs[i]? = some x → ∃ z, zs[i]? = some z ∧ F x z
  | _, _, _, _, .nil, e => by simp at e
  | _, _, 0, _, .cons r _, e => by
    simp at e
    subst e
    exact ⟨_, rfl, r⟩
  | _, _, i + 1, x, .cons _ t, e => by
    obtain ⟨z, h1, h2⟩ := Paired.getL (i := i) (x := x) t (by simpa using e)
    exact ⟨z, by simpa using h1, h2⟩
theorem Paired.getR {β γ : Type} {F : β → γ → Prop} : ∀ {xs : List β} {zs : List γ} {i : Nat} {z : γ}, Paired F xs zs → zs[i]? = some z → ∃ x, xs[i]? = some x ∧ F x z
  | _, _, _, _, .nil, e => by simp at e
  | _, _, 0, _, .cons r _, e => by
    simp at e
    subst e
    exact ⟨_, rfl, r⟩
  | _, _, i + 1, x, .cons _ t, e => by
    obtain ⟨z, h1, h2⟩ := Paired.getR (i := i) (z := x) t (by simpa using e)
    exact ⟨z, by simpa using h1, h2⟩
theorem each_map {β : Type} {f : α → β} {Q : β → Pp} : ∀ {l : List α} {ys : List V}, Each (fun a => Q (f a)) l ys H → Each Q (l.map f) ys H
  | _, _, .nil => .nil
  | _, _, .cons h t => .cons h (each_map t)
theorem each_is {f : α → V} : ∀ {l : List α} {ys : List V}, Each (fun a => Is (f a)) l ys H → ys = l.map f
  | _, _, .nil => rfl
  | _, _, .cons h t => by
    have e := each_is t
    rw [e, show _ = _ from h]
    rfl
theorem is_each {f : α → V} : ∀ (l : List α), Each (fun a => Is (f a)) l (l.map f) H
  | [] => .nil
  | _ :: l => .cons rfl (is_each l)
theorem Lst.nums {f : α → V} (h : Lst (fun a => Is (f a)) l v H) : ∃ p, v = .ref p ∧ H p = some (.lst (l.map f)) := by
  obtain ⟨p, ys, rfl, h1, h2⟩ := h
  rw [each_is h2] at h1
  exact ⟨p, rfl, h1⟩
end

section
variable {K : PySem.W.Frag} {σ : L2.St} {H H' : Hp} {ta tb te tl : TE} {t u : TT} {x y z v : V} {P P' : Pp}
theorem EvP.mono (e : Ex H H') (h : EvP te σ H P) : EvP te σ H' P := fun H1 a Q q => h H1 (e.trans a) Q q
theorem EvP.imp (h : EvP te σ H P) (k : ∀ v H1, Ex H H1 → P v H1 → P' v H1) : EvP te σ H P' := fun H1 a Q q => h H1 a Q fun v H2 e p => q v H2 e (k v H2 (a.trans e) p)
theorem ep_ev (h : Ev te σ H v) : EvP te σ H (Is v) := fun H1 a Q q => h H1 a Q fun H2 e => q v H2 e rfl
theorem ev_ep (h : EvP te σ H (Is v)) : Ev te σ H v := fun H1 a Q q => h H1 a Q fun x H2 e p => by
  have p' : x = v := p
  rw [p']
  exact q H2 e
/-- a variable of which something is known -/
theorem ep_var {i : Nat} (hP : Mon P) (h : σ[i]? = some (some v)) (p : P v H) : EvP (tVar i) σ H P := fun H1 e Q q => ⟨v, h, q v H1 (Ex.refl H1) (hP v H H1 e p)⟩
theorem eap_nil : EvAP tNil σ H (fun vs _ => vs = []) := fun H1 _ Q q => q [] H1 (Ex.refl H1) rfl
theorem eap_cons {tr : TA} {R : List V → Hp → Prop} (hP : Mon P) (h : EvP te σ H P) (hr : EvAP tr σ H R) : EvAP (tCons te tr) σ H (fun vs H1 => ∃ v ws, vs = v :: ws ∧ P v H1 ∧ R ws H1) := fun H1 e Q q =>
  h H1 e _ fun v H2 e2 p => hr H2 (e.trans e2) _ fun ws H3 e3 r => q _ H3 (e2.trans e3) ⟨v, ws, rfl, hP v H2 H3 e3 p, r⟩
theorem ep_tup {tr : TA} {R : List V → Hp → Prop} (hR : ∀ vs H H', Ex H H' → R vs H → R vs H') (hl : ∀ vs H, R vs H → vs.length ≤ 1000) (h : EvAP tr σ H R) : EvP (tTup tr) σ H (fun v H1 => ∃ p vs, v = .ref p ∧ H1 p = some (.tup vs) ∧ R vs H1) := fun H1 e Q q =>
  h H1 e _ fun vs H2 e2 r => ⟨sz_of (Nat.le_trans (hl vs H2 r) (by decide)), fun p hp => q _ _ (e2.trans (Ex.new hp)) ⟨p, vs, rfl, upd_same, hR vs H2 _ (Ex.new hp) r⟩⟩
theorem ep_cb {r : List V → Hp → VK → Prop} {tr : TA} {vs : List V} (h : EvA tr σ H vs) (hr : ∀ H1, Ex H H1 → ∀ Q : VK, (∀ z H2, Ex H1 H2 → P z H2 → Q z H2) → r vs H1 Q) : EvP (tCB r tr) σ H P := fun H1 e Q q =>
  h H1 e _ fun H2 e2 => hr H2 (e.trans e2) Q fun z H3 e3 p => q z H3 (e2.trans e3) p
theorem ep_cb1 {r : List V → Hp → VK → Prop} (h : EvP te σ H P) (hr : ∀ v H1, Ex H H1 → P v H1 → ∀ Q : VK, (∀ z H2, Ex H1 H2 → P' z H2 → Q z H2) → r [v] H1 Q) : EvP (tCB r (tCons te tNil)) σ H P' := fun H1 e Q q =>
  h H1 e _ fun v H2 e2 p => hr v H2 (e.trans e2) p Q fun z H3 e3 p' => q z H3 (e2.trans e3) p'
theorem ev_cb1 {r : List V → Hp → VK → Prop} (h : EvP te σ H P) (hr : ∀ v H1, Ex H H1 → P v H1 → ∀ Q : VK, (∀ H2, Ex H1 H2 → Q z H2) → r [v] H1 Q) : Ev (tCB r (tCons te tNil)) σ H z := fun H1 e Q q =>
  h H1 e _ fun v H2 e2 p => hr v H2 (e.trans e2) p Q fun H3 e3 => q H3 (e2.trans e3)
/-- an operation, the second part behind the first -/
theorem ep_op {r : R2} {P1 P2 : Pp} (ha : EvP ta σ H P1) (hb : ∀ x H1, Ex H H1 → P1 x H1 → EvP tb σ H1 P2) (hm : Mon P1) (hr : ∀ x y H1, Ex H H1 → P1 x H1 → P2 y H1 → ∀ Q : VK, (∀ z H2, Ex H1 H2 → P z H2 → Q z H2) → r x y H1 Q) : EvP (tOp r ta tb) σ H P := fun H1 e Q q =>
  ha H1 e _ fun x H2 e2 p => hb x H2 (e.trans e2) p H2 (Ex.refl H2) _ fun y H3 e3 p2 => hr x y H3 ((e.trans e2).trans e3) (hm x H2 H3 e3 p) p2 Q fun z H4 e4 p4 => q z H4 ((e2.trans e3).trans e4) p4
theorem ev_opP {r : R2} {P1 P2 : Pp} (ha : EvP ta σ H P1) (hb : ∀ x H1, Ex H H1 → P1 x H1 → EvP tb σ H1 P2) (hm : Mon P1) (hr : ∀ x y H1, Ex H H1 → P1 x H1 → P2 y H1 → ∀ Q : VK, (∀ H2, Ex H1 H2 → Q z H2) → r x y H1 Q) : Ev (tOp r ta tb) σ H z :=
  ev_ep (ep_op ha hb hm fun x y H1 e p1 p2 Q q => hr x y H1 e p1 p2 Q fun H2 e2 => q z H2 e2 rfl)
/-- an item of a tuple | a list -/
theorem ep_itT {α : Type} {S : α → Pp} {xs : List α} {i : Nat} {a : α} (hS : ∀ a, MonT (S a)) (ha : EvP ta σ H (Tpl S xs)) (hb : Ev tb σ H (.int (i : Int))) (hi : xs[i]? = some a) : EvP (tOp (rIxT K) ta tb) σ H (S a) :=
  ep_op ha (fun _ _ e _ => ep_ev (hb.mono e)) (tpl_monT hS).mon fun x y H1 e ⟨p, ys, ex, h1, h2⟩ ey Q q => by
    have ey : y = .int (i : Int) := ey
    subst ex ey
    obtain ⟨w, hw, pw⟩ := Paired.getL h2 hi
    exact ⟨p, ys, (i : Int), w, rfl, rfl, SqT.of h1, atI_nat hw, q w H1 (Ex.refl H1) pw⟩
theorem ep_itL {α : Type} {S : α → Pp} {xs : List α} {i : Nat} {a : α} (hS : ∀ a, MonT (S a)) (ha : EvP ta σ H (Lst S xs)) (hb : Ev tb σ H (.int (i : Int))) (hi : xs[i]? = some a) : EvP (tOp (rIxL K) ta tb) σ H (S a) :=
  ep_op ha (fun _ _ e _ => ep_ev (hb.mono e)) (lst_mon hS) fun x y H1 e ⟨p, ys, ex, h1, h2⟩ ey Q q => by
    have ey : y = .int (i : Int) := ey
    subst ex ey
    obtain ⟨w, hw, pw⟩ := Paired.getL h2 hi
    exact ⟨p, ys, (i : Int), w, rfl, rfl, SqL.of h1, atI_nat hw, q w H1 (Ex.refl H1) pw⟩
/-- x in a tuple of nums -/
theorem inV_ints {k : Nat} {l : List Nat} : inV (.int (k : Int)) (nums l) = decide (k ∈ l) := by
  unfold inV nums
  rw [List.any_map, Bool.eq_iff_iff, List.any_eq_true, decide_eq_true_iff]
  constructor
  · rintro ⟨j, hj, h⟩
    have h' : ((j : Int) == (k : Int)) = true := h
    have e : j = k := by
      have := eq_of_beq h'
      omega
    rw [← e]
    exact hj
  · intro h
    exact ⟨k, h, show ((k : Int) == (k : Int)) = true from beq_self_eq_true _⟩
theorem flat_ints (l : List Nat) : (nums l).all flatV = true := by
  unfold nums
  rw [List.all_map, List.all_eq_true]
  exact fun _ _ => rfl
theorem ev_inI {k : Nat} {l : List Nat} (ha : Ev ta σ H (.int (k : Int))) (hb : EvP tb σ H (IntsT l)) : Ev (tOp (rIn K false) ta tb) σ H (.bl (decide (k ∈ l))) :=
  ev_opP (ep_ev ha) (fun _ _ e _ => hb.mono e) is_mon fun x y H1 e ex ⟨p, ey, h1⟩ Q q => by
    have ex : x = .int (k : Int) := ex
    subst ex ey
    refine ⟨p, _, rfl, .inr (SqT.of h1), rfl, flat_ints l, ?_⟩
    rw [if_neg Bool.false_ne_true, inV_ints]
    exact q H1 (Ex.refl H1)
theorem ev_niI {k : Nat} {l : List Nat} (ha : Ev ta σ H (.int (k : Int))) (hb : EvP tb σ H (IntsT l)) : Ev (tOp (rIn K true) ta tb) σ H (.bl (!decide (k ∈ l))) :=
  ev_opP (ep_ev ha) (fun _ _ e _ => hb.mono e) is_mon fun x y H1 e ex ⟨p, ey, h1⟩ Q q => by
    have ex : x = .int (k : Int) := ex
    subst ex ey
    refine ⟨p, _, rfl, .inr (SqT.of h1), rfl, flat_ints l, ?_⟩
    rw [if_pos rfl, inV_ints]
    exact q H1 (Ex.refl H1)
/-- tuple(a list) -/
def rTupOf (K : PySem.W.Frag) : List V → Hp → VK → Prop := fun xs H Q => ∃ p ys, xs = [.ref p] ∧ ((SqL K H p ys ∧ ∀ l, H l = none → Q (.ref l) (upd H l (.tup ys))) ∨ (SqT K H p ys ∧ Q (.ref p) H))
theorem ep_tuple {α : Type} {S : α → Pp} {l : List α} (hS : ∀ a, MonT (S a)) (h : EvP te σ H (Lst S l)) : EvP (tCB (rTupOf K) (tCons te tNil)) σ H (Tpl S l) :=
  ep_cb1 h fun v H1 e ⟨p, ys, ev, h1, h2⟩ Q q => by
    subst ev
    exact ⟨p, ys, rfl, .inl ⟨SqL.of h1, fun c hc => q _ _ (Ex.new hc) ⟨c, ys, rfl, upd_same, h2.mono hS (exT (Ex.new hc))⟩⟩⟩
/-- len(x) -/
theorem ev_lenT {α : Type} {S : α → Pp} {l : List α} (h : EvP te σ H (Tpl S l)) : Ev (tCB (rLenS K) (tCons te tNil)) σ H (.int (l.length : Int)) :=
  ev_cb1 h fun v H1 e ⟨p, ys, ev, h1, h2⟩ Q q => by
    subst ev
    refine ⟨p, ys, rfl, .inr (SqT.of h1), ?_⟩
    rw [← Paired.length h2]
    exact q H1 (Ex.refl H1)
theorem ev_lenL {α : Type} {S : α → Pp} {l : List α} (h : EvP te σ H (Lst S l)) : Ev (tCB (rLenS K) (tCons te tNil)) σ H (.int (l.length : Int)) :=
  ev_cb1 h fun v H1 e ⟨p, ys, ev, h1, h2⟩ Q q => by
    subst ev
    refine ⟨p, ys, rfl, .inl (SqL.of h1), ?_⟩
    rw [← Paired.length h2]
    exact q H1 (Ex.refl H1)
theorem ev_all {α : Type} {f : α → Bool} {l : List α} (h : EvP te σ H (Lst (fun a => Is (.bl (f a))) l)) : Ev (tCB (rAll K) (tCons te tNil)) σ H (.bl (l.all f)) :=
  ev_cb1 h fun v H1 e p Q q => by
    obtain ⟨c, rfl, h1⟩ := Lst.nums p
    refine ⟨c, l.map f, rfl, SqL.of (by rw [List.map_map]; exact h1), ?_⟩
    rw [List.all_map]
    exact q H1 (Ex.refl H1)
theorem ev_any {α : Type} {f : α → Bool} {l : List α} (h : EvP te σ H (Lst (fun a => Is (.bl (f a))) l)) : Ev (tCB (rAny K) (tCons te tNil)) σ H (.bl (l.any f)) :=
  ev_cb1 h fun v H1 e p Q q => by
    obtain ⟨c, rfl, h1⟩ := Lst.nums p
    refine ⟨c, l.map f, rfl, SqL.of (by rw [List.map_map]; exact h1), ?_⟩
    rw [List.any_map]
    exact q H1 (Ex.refl H1)
/-- calls of a def -/
theorem ep_call {sp : Sp} {dvs vs : List V} {E : XK} {tr : TA} (h : EvA tr σ H vs) (hs : ∀ H1, Ex H H1 → ∀ Q : VK, (∀ z H2, Ex H1 H2 → P z H2 → Q z H2) → sp (vs ++ dvs) H1 Q E) : EvP (tCall sp dvs E tr) σ H P := fun H1 e Q q =>
  h H1 e _ fun H2 e2 => hs H2 (e.trans e2) Q fun z H3 e3 p => q z H3 (e2.trans e3) p
theorem ep_call1 {sp : Sp} {dvs : List V} {E : XK} (h : EvP te σ H P) (hs : ∀ v H1, Ex H H1 → P v H1 → ∀ Q : VK, (∀ z H2, Ex H1 H2 → P' z H2 → Q z H2) → sp ([v] ++ dvs) H1 Q E) : EvP (tCall sp dvs E (tCons te tNil)) σ H P' := fun H1 e Q q =>
  h H1 e _ fun v H2 e2 p => hs v H2 (e.trans e2) p Q fun z H3 e3 p' => q z H3 (e2.trans e3) p'

/-! ### comprehensions -/
/-- behind i turns -/
def CwP {α : Type} (P : α → Pp) (f : α → Bool) (xs : List α) (H : Hp) (D : Addr) (i : Nat) (H' : Hp) : Prop := H D = none ∧ Ex H H' ∧ ∃ ys, H' D = some (.lst ys) ∧ Each P ((xs.take i).filter f) ys H'
theorem cwp_start {α : Type} {P : α → Pp} {f : α → Bool} {xs : List α} {D : Addr} (h : H D = none) : CwP P f xs H D 0 (upd H D (.lst [])) := ⟨h, Ex.new h, [], upd_same, .nil⟩
theorem cwp_turn {α : Type} {P : α → Pp} {f : α → Bool} {xs : List α} {D : Addr} {i : Nat} {a : α} {σ2 : L2.St} (hP : ∀ a, MonT (P a)) (p : CwP P f xs H D i H') (ha : xs[i]? = some a) (hz : xs.length ≤ 100000)
    (ht : EvT t σ2 H (f a)) (he : f a = true → EvP te σ2 H (P a)) :
    t σ2 H' fun b H3 => if b = true then te σ2 H3 fun y H4 => ∃ acc, H4 D = some (.lst acc) ∧ acc.length < sizeLine ∧ CwP P f xs H D (i + 1) (upd H4 D (.lst (acc ++ [y]))) else CwP P f xs H D (i + 1) H3 := by
  obtain ⟨p1, p2, ys, p3, p4⟩ := p
  have et : xs.take (i + 1) = xs.take i ++ [a] := by
    rw [List.take_add_one, ha]
    rfl
  have hi : i < xs.length := (List.getElem?_eq_some_iff.mp ha).1
  refine ht H' p2 _ fun H3 e3 => ?_
  cases hf : f a with
  | true =>
    show te σ2 H3 _
    refine he hf H3 (p2.trans e3) _ fun y H4 e4 py => ⟨ys, e4 D _ (e3 D _ p3), ?_, p1, Ex.mut ((p2.trans e3).trans e4) p1, ys ++ [y], upd_same, ?_⟩
    · rw [← Paired.length p4]
      refine sz_lt (Nat.lt_of_le_of_lt (List.length_filter_le _ _) ?_)
      rw [List.length_take]
      omega
    · rw [et, List.filter_append, List.filter_cons_of_pos hf, List.filter_nil]
      have x4 : ExT H4 (upd H4 D (.lst (ys ++ [y]))) := ExT.lst (e4 D _ (e3 D _ p3))
      exact Paired.snoc ((p4.mono hP (exT (e3.trans e4))).mono hP x4) (hP a y _ _ x4 py)
  | false =>
    show CwP P f xs H D (i + 1) H3
    refine ⟨p1, p2.trans e3, ys, e3 D _ p3, ?_⟩
    rw [et, List.filter_append, List.filter_cons_of_neg (by rw [hf]; decide), List.filter_nil, List.append_nil]
    exact p4.mono hP (exT e3)
/-- the target of a comprehension: it is stored, and the rest knows the slots behind it -/
def Tgt (g : TG) (σ : L2.St) (ws : List Nat) (v : V) (H : Hp) (σ2 : L2.St) : Prop := (∀ H1, Ex H H1 → ∀ k : L2.St → Hp → Prop, k σ2 H1 → g v (wipe σ ws) H1 k) ∧ wipe σ2 ws = wipe σ ws
theorem tgt_name {j : Nat} {ws : List Nat} (h : wipe ((wipe σ ws).set j (some v)) ws = wipe σ ws) : Tgt (gName j) σ ws v H ((wipe σ ws).set j (some v)) := ⟨fun _ _ _ q => q, h⟩
/-- over a tuple: S what its items are, f which are kept, P what comes of them -/
theorem ep_lcT {α : Type} {g : TG} {ws : List Nat} {S P : α → Pp} {f : α → Bool} {xs : List α} (hS : ∀ a, MonT (S a)) (hP : ∀ a, MonT (P a)) (h : EvP tl σ H (Tpl S xs)) (hz : xs.length ≤ 100000)
    (ht : ∀ a v H1, Ex H H1 → a ∈ xs → S a v H1 → ∃ σ2, Tgt g σ ws v H1 σ2 ∧ EvT t σ2 H1 (f a) ∧ (f a = true → EvP te σ2 H1 (P a))) : EvP (tLc (iTup K tl) g t te ws) σ H (Lst P (xs.filter f)) := fun H0 e0 Q q =>
  h H0 e0 _ fun w H1 e1 ⟨p, ys, ew, hp, hy⟩ => ⟨p, ew, ⟨ys, SqT.of hp⟩, fun D hD => by
    refine lc_tup (xs := ys) (CwP P f xs H1 D) (cwp_start hD) (fun i H' _ c => SqT.of (c.2.1 p _ hp)) (fun i x H' hx c => ?_) fun H' c => ?_
    · obtain ⟨a, ha, sa⟩ := Paired.getR hy hx
      obtain ⟨σ2, ⟨g1, g2⟩, h1, h2⟩ := ht a x H1 (e0.trans e1) (List.mem_of_getElem? ha) sa
      exact g1 H' c.2.1 _ ⟨g2, cwp_turn hP c ha hz h1 h2⟩
    · obtain ⟨c1, c2, zs, c3, c4⟩ := c
      rw [← Paired.length hy, List.take_length] at c4
      exact q _ H' (e1.trans c2) ⟨D, zs, rfl, c3, c4⟩⟩
/-- over a list -/
theorem ep_lcL {α : Type} {g : TG} {ws : List Nat} {S P : α → Pp} {f : α → Bool} {xs : List α} (hP : ∀ a, MonT (P a)) (h : EvP tl σ H (Lst S xs)) (hz : xs.length ≤ 100000)
    (ht : ∀ a v H1, Ex H H1 → a ∈ xs → S a v H1 → ∃ σ2, Tgt g σ ws v H1 σ2 ∧ EvT t σ2 H1 (f a) ∧ (f a = true → EvP te σ2 H1 (P a))) : EvP (tLc (iList K tl) g t te ws) σ H (Lst P (xs.filter f)) := fun H0 e0 Q q =>
  h H0 e0 _ fun w H1 e1 ⟨p, ys, ew, hp, hy⟩ => ⟨p, ew, ⟨ys, SqL.of hp⟩, fun D hD => by
    refine lc_list (xs := ys) (CwP P f xs H1 D) (cwp_start hD) (fun i H' _ c => SqL.of (c.2.1 p _ hp)) (fun i x H' hx c => ?_) fun H' c => ?_
    · obtain ⟨a, ha, sa⟩ := Paired.getR hy hx
      obtain ⟨σ2, ⟨g1, g2⟩, h1, h2⟩ := ht a x H1 (e0.trans e1) (List.mem_of_getElem? ha) sa
      exact g1 H' c.2.1 _ ⟨g2, cwp_turn hP c ha hz h1 h2⟩
    · obtain ⟨c1, c2, zs, c3, c4⟩ := c
      rw [← Paired.length hy, List.take_length] at c4
      exact q _ H' (e1.trans c2) ⟨D, zs, rfl, c3, c4⟩⟩
/-- over range(lo, n) -/
theorem ep_lcR2 {tr : TA} {g : TG} {ws : List Nat} {P : Nat → Pp} {f : Nat → Bool} {lo n : Nat} (hP : ∀ a, MonT (P a)) (h : EvA tr σ H [.int (lo : Int), .int (n : Int)]) (hlo : lo ≤ 1000) (hn : n ≤ 1000)
    (ht : ∀ (a : Nat) H1, Ex H H1 → lo ≤ a → a < n → ∃ σ2, Tgt g σ ws (.int (a : Int)) H1 σ2 ∧ EvT t σ2 H1 (f a) ∧ (f a = true → EvP te σ2 H1 (P a))) : EvP (tLc (iRng2 tr) g t te ws) σ H (Lst P ((List.range' lo (n - lo)).filter f)) := fun H0 e0 Q q =>
  h H0 e0 _ fun H1 e1 => ⟨(lo : Int), (n : Int), rfl, ⟨by omega, by omega, by omega, by omega⟩, fun D hD => by
    have en : ((n : Int) - (lo : Int)).toNat = n - lo := by omega
    have hl : (List.range' lo (n - lo)).length = n - lo := List.length_range'
    rw [en]
    refine lc_range (lo := (lo : Int)) (n := n - lo) (CwP P f (List.range' lo (n - lo)) H1 D) (cwp_start hD) (fun i H' hi c => ?_) fun H' c => ?_
    · have ha : (List.range' lo (n - lo))[i]? = some (lo + i) := by rw [List.getElem?_range' hi]; simp
      obtain ⟨σ2, ⟨g1, g2⟩, h1, h2⟩ := ht (lo + i) H1 (e0.trans e1) (by omega) (by omega)
      have ec : (lo : Int) + (i : Int) = ((lo + i : Nat) : Int) := by omega
      rw [ec]
      exact g1 H' c.2.1 _ ⟨g2, cwp_turn hP c ha (by omega) h1 h2⟩
    · obtain ⟨c1, c2, zs, c3, c4⟩ := c
      have et : (List.range' lo (n - lo)).take (n - lo) = List.range' lo (n - lo) := List.take_of_length_le (by omega)
      rw [et] at c4
      exact q _ H' (e1.trans c2) ⟨D, zs, rfl, c3, c4⟩⟩
/-- over range(j), n turns -/
theorem ep_lcR1 {tr : TA} {g : TG} {ws : List Nat} {P : Nat → Pp} {f : Nat → Bool} {n : Nat} {j : Int} (hP : ∀ a, MonT (P a)) (h : EvA tr σ H [.int j]) (hj : j.toNat = n ∧ -1000 ≤ j) (hn : n ≤ 1000)
    (ht : ∀ (a : Nat) H1, Ex H H1 → a < n → ∃ σ2, Tgt g σ ws (.int (a : Int)) H1 σ2 ∧ EvT t σ2 H1 (f a) ∧ (f a = true → EvP te σ2 H1 (P a))) : EvP (tLc (iRng1 tr) g t te ws) σ H (Lst P ((List.range n).filter f)) := fun H0 e0 Q q =>
  h H0 e0 _ fun H1 e1 => ⟨j, rfl, by omega, by omega, fun D hD => by
    have hl : (List.range n).length = n := List.length_range
    show ∃ W : Nat → Nat → Hp → Prop, _
    rw [hj.1]
    refine lc_range (lo := 0) (n := n) (CwP P f (List.range n) H1 D) (cwp_start hD) (fun i H' hi c => ?_) fun H' c => ?_
    · have ha : (List.range n)[i]? = some i := List.getElem?_range hi
      obtain ⟨σ2, ⟨g1, g2⟩, h1, h2⟩ := ht i H1 (e0.trans e1) hi
      have ec : (0 : Int) + (i : Int) = (i : Int) := Int.zero_add _
      rw [ec]
      exact g1 H' c.2.1 _ ⟨g2, cwp_turn hP c ha (by omega) h1 h2⟩
    · obtain ⟨c1, c2, zs, c3, c4⟩ := c
      have et : (List.range n).take n = List.range n := List.take_of_length_le (by omega)
      rw [et] at c4
      exact q _ H' (e1.trans c2) ⟨D, zs, rfl, c3, c4⟩⟩
/-- all are kept -/
theorem ev_yes : EvT tYes σ H true := fun H1 _ Q q => q H1 (Ex.refl H1)
theorem filter_yes {α : Type} (l : List α) : l.filter (fun _ => true) = l := List.filter_eq_self.mpr fun _ _ => rfl

/-! ### statements -/
variable {D : Ends} {tz : TS}
theorem qp_asg {i : Nat} (h : EvP te σ H P) (k : ∀ v H1, Ex H H1 → P v H1 → tz D (σ.set i (some v)) H1) : tSeq (tAsg te (gName i)) tz D σ H := h H (Ex.refl H) _ fun v H1 e p => k v H1 e p
theorem sp_ret (h : EvP te σ H P) (k : ∀ v H1, Ex H H1 → P v H1 → D.rt v H1) : tRet te D σ H := h H (Ex.refl H) _ fun v H1 e p => k v H1 e p
theorem qp_drop (h : EvP te σ H P) (k : ∀ v H1, Ex H H1 → P v H1 → tz D σ H1) : tSeq (tDrop te) tz D σ H := h H (Ex.refl H) _ fun v H1 e p => k v H1 e p
end
end K53

namespace K53
open PySem PySem.Spec PyProof.Rows L2 Evl
/-! ## The text by places -/
def tops (i : Nat) : Stmt := PySem.Challenge.pw_ringbeats_k53_whole_circular_or_without.main.body.getD i (.Pass ⟨0, 0, 0, 0⟩)
abbrev sWhole : Stmt := tops 5
abbrev sClimb : Stmt := tops 7
abbrev sIsT : Stmt := tops 8
abbrev sChk1 : Stmt := tops 9
abbrev sBeats : Stmt := tops 11
abbrev sPlayers : Stmt := tops 12
abbrev sChk2 : Stmt := tops 14
/-- the built-ins are what they were -/
structure Bt (mg : Str → Option Value) : Prop where
  isi : mg "isinstance" = none
  int : mg "int" = none
  bool : mg "bool" = none
  tup : mg "tuple" = none
  all : mg "all" = none
  any : mg "any" = none
  rng : mg "range" = none
  len : mg "len" = none
  srt : mg "sorted" = none
  enu : mg "enumerate" = none
  lst : mg "list" = none
  abs : mg "abs" = none
  min : mg "min" = none

section
variable {K : PySem.W.Frag} {σ : L2.St} {H : Hp} {ta tb tc te : TE} {x : V}
theorem ev_isi {S T : String} {b : Bool} (h : Ev te σ H x) (ty : ∀ H1, Ex H H1 → TyOf K H1 x (.type S)) (kb : kitB S T = some b) : Ev (tCB (rIsi K) (tCons te (tCons (tC (.ty T)) tNil))) σ H (.bl b) := fun H1 e Q q =>
  h H1 e _ fun H2 e2 => ⟨x, .ty T, _, _, b, rfl, .ty T, .base (ty H2 (e.trans e2)), kit_ty kb, q H2 e2⟩
theorem ev_isiT {α : Type} {S : α → Pp} {l : List α} (h : EvP te σ H (Tpl S l)) : Ev (tCB (rIsi K) (tCons te (tCons (tC (.ty "tuple")) tNil))) σ H (.bl true) := fun H1 e Q q =>
  h H1 e _ fun v H2 e2 ⟨p, ys, ev, hp, _⟩ => by
    subst ev
    exact ⟨.ref p, .ty "tuple", .type "tuple", .type "tuple", true, rfl, .ty "tuple", .base (.tup hp), kit_ty (by decide +kernel), q H2 e2⟩
theorem ev_le2 {i j k : Int} (ha : Ev ta σ H (.int i)) (hb : Ev tb σ H (.int j)) (hc : Ev tc σ H (.int k)) (h1 : i ≤ j) (h2 : j ≤ k) :
    Ev (tChain (rI0 fun i j => .bl (decide (i ≤ j))) (rI0 fun i j => .bl (decide (i ≤ j))) ta tb tc) σ H (.bl true) := fun H1 e Q q =>
  ha H1 e _ fun H2 e2 => hb H2 (e.trans e2) _ fun H3 e3 => ⟨i, j, rfl, rfl, true, congrArg V.bl (decide_eq_true h1), hc H3 ((e.trans e2).trans e3) _ fun H4 e4 => ⟨j, k, rfl, rfl, by
    show Q (V.bl (decide (j ≤ k))) H4
    rw [decide_eq_true h2]
    exact q H4 ((e2.trans e3).trans e4)⟩⟩
/-- a built-in class as a value -/
theorem pe_ty {X : Cx} {y : Str} {pos : Pos} (T : String) (hg : Gl X y) (hm : X.mg y = none) (hv : bootBuiltins y = some (.type T)) (hn : y ≠ "__name__" := by decide) (hd : (y == ("__debug__" : Str)) = false := by decide) : PE X (.Name y pos) (tC (.ty T)) := pe_bltn (v := .ty T) hg hm hv (show RelV (.ty T) (.type T) from rfl) hn hd
end

/-! ## The promises -/
def spWhole : Sp := fun vs H Q _ => ∃ v l h : Int, vs = [.int v, .int l, .int h] ∧ l ≤ v ∧ v ≤ h ∧ ∀ H2, Ex H H2 → Q (.bl true) H2
/-- all are ints, from 0 to many less 1, each less than the next -/
def spClimb : Sp := fun vs H Q _ => ∃ (x : V) (l : List Nat) (n : Nat), vs = [x, .int (n : Int)] ∧ Tpl (fun k : Nat => Is (.int (k : Int))) l x H ∧ n ≤ 8 ∧ l.length ≤ 8 ∧ (∀ k ∈ l, k < n) ∧ l.Pairwise (· < ·) ∧ ∀ H2, Ex H H2 → Q (.bl true) H2

section
variable {P : Program} {w : World} {K : PySem.W.Frag} {mg : Str → Option Value} {base : Heap}
theorem scWhole : FnScope ["value", "low", "high"] ["value", "low", "high"] (defScope sWhole) := ⟨rfl, rfl, rfl, by decide +kernel, rfl, by decide +kernel, by decide +kernel⟩
theorem ok_whole {f : Addr} {fd : FuncData} (F : Fun K "is_whole" "is_whole" sWhole f fd) (B : Bt mg) : FnOk P w K mg base CX0 1 f fd ["value", "low", "high"] spWhole := by
  refine F.ok scWhole (fun vs H Q E h => ?_) (fun cdv A outer s H vs Q E hr h => ?_)
  · obtain ⟨v, l, h, rfl, _⟩ := h
    rfl
  · obtain ⟨v, l, h, rfl, h1, h2, q⟩ := h
    refine ⟨_, pss_one (ps_ret (pe_and (pe_callB call_isi (by rfl) B.isi (by decide +kernel) (pa_cons (pv 0) (pa_cons (pe_ty "int" (by rfl) B.int (by decide +kernel)) pa_nil)))
      (pe_and (pe_not (pe_callB call_isi (by rfl) B.isi (by decide +kernel) (pa_cons (pv 0) (pa_cons (pe_ty "bool" (by rfl) B.bool (by decide +kernel)) pa_nil)))) (pe_one (pe_chain op_le op_le (pv 1) (pv 0) (pv 2)))))), ?_⟩
    exact s_ret (ev_andV (ev_isi (b := true) (ev_var rfl) (fun _ _ => .int v) (by decide +kernel)) (fun _ => ev_andV (ev_notV (ev_isi (b := false) (ev_var rfl) (fun _ _ => .int v) (by decide +kernel))) (fun _ => ev_le2 (ev_var rfl) (ev_var rfl) (ev_var rfl) h1 h2))) q
theorem scClimb : FnScope ["value", "many", "one", "at"] ["value", "many"] (defScope sClimb) := ⟨rfl, rfl, rfl, by decide +kernel, rfl, by decide +kernel, by decide +kernel⟩
theorem ok_climb {f fW : Addr} {fd fdW : FuncData} (F : Fun K "is_climbing" "is_climbing" sClimb f fd) (B : Bt mg) (FW : Fun K "is_whole" "is_whole" sWhole fW fdW) (bW : Binds K fdW ["value", "low", "high"] []) (gW : mg "is_whole" = some (.ref fW)) :
    FnOk P w K mg base CX0 2 f fd ["value", "many"] spClimb := by
  have GW : FnOk P w K mg base CX0 1 fW fdW ["value", "low", "high"] spWhole := ok_whole FW B
  refine F.ok scClimb (fun vs H Q E h => ?_) (fun cdv A outer s H vs Q E hr h => ?_)
  · obtain ⟨x, l, n, rfl, _⟩ := h
    rfl
  · obtain ⟨x, l, n, rfl, hx, hn, hl, hlt, hasc, q⟩ := h
    refine ⟨_, pss_cons (ps_if (PW.pt (pw_or (pt_not (pt_val (pe_callB call_isi (by rfl) B.isi (by decide +kernel) (pa_cons (pv 0) (pa_cons (pe_ty "tuple" (by rfl) B.tup (by decide +kernel)) pa_nil)))))
        (pw_or1 (pt_not (pt_val (pe_callB (cr_all rfl) (by rfl) B.all (by decide +kernel) (pa_cons
          (pe_lc (own := [("one", 2)]) (g := gName 2) (tt := tYes) rfl scClimb.nd (pi_tup (pv 0)) (blkOk_by (N := ["value", "many", "one", "at"]) (sc := defScope sClimb) (by decide +kernel)) (fun _ _ _ _ _ => pg_name (i := 2) scClimb.nd rfl (Or.inl rfl)) (fun _ _ _ _ _ => pts_nil)
            (fun _ _ _ _ _ => pe_call GW hr (by rfl) gW FW.kp bW .nil pass0 (pa_cons (pv 2) (pa_cons pe_int (pa_cons (pe_op op_sub (pv 1) pe_int) pa_nil))))) pa_nil)))))))
        (pss_one (ps_ret pe_bl)) pss_nil)
      (pss_one (ps_ret (pe_callB (cr_all rfl) (by rfl) B.all (by decide +kernel) (pa_cons
          (pe_lc (own := [("at", 3)]) (g := gName 3) (tt := tYes) rfl scClimb.nd (pi_range1 (by rfl) B.rng (pa_cons (pe_op op_sub (pe_callB call_len_seq (by rfl) B.len PySem.boot_len (pa_cons (pv 0) pa_nil)) pe_int) pa_nil)) (blkOk_by (N := ["value", "many", "one", "at"]) (sc := defScope sClimb) (by decide +kernel)) (fun _ _ _ _ _ => pg_name (i := 3) scClimb.nd rfl (Or.inl rfl)) (fun _ _ _ _ _ => pts_nil)
            (fun _ _ _ _ _ => pe_cmpR op_lt (pe_ix (r := rIxT K) ix_tup (pv 0) (pv 3) (fun _ _ => rfl)) (pe_ix (r := rIxT K) ix_tup (pv 0) (pe_op op_add (pv 3) pe_int) (fun _ _ => rfl)) (nomark _))) pa_nil)))), ?_⟩
    have mS : ∀ k : Nat, MonT (Is (.int (k : Int))) := fun _ => is_monT
    have hX : ∀ {H1 : Hp} {σ : L2.St}, Ex H H1 → σ[0]? = some (some x) → EvP (tVar 0) σ H1 (Tpl (fun k : Nat => Is (.int (k : Int))) l) := fun e h0 => ep_var (tpl_monT mS).mon h0 (tpl_monT mS _ _ _ (exT e) hx)
    refine q_when (b := false) (et_is (et_or (et_not (et_B (ev_isiT (hX (Ex.refl H) rfl)))) (fun _ => et_not (et_B (ev_all (f := fun _ => true)
      (ep_lcT (P := fun _ => Is (.bl true)) (f := fun _ => true) mS (fun _ => is_monT) (hX (Ex.refl H) rfl) (by omega) fun a v H1 e ha hs => ?_))))) ?_) (fun z => nomatch z) (fun _ H1 e1 => ?_)
    · have hs : v = .int (a : Int) := hs
      subst hs
      have han := hlt a ha
      refine ⟨_, tgt_name rfl, ev_yes, fun _ => ep_ev (ev_call (ea_cons (ev_var rfl) (ea_cons ev_c (ea_cons (ev_op (ev_var rfl) ev_c rv_I0) ea_nil))) fun H2 e2 Q q E => ⟨(a : Int), 0, (n : Int) - 1, rfl, by omega, by omega, q⟩)⟩
    · rw [List.all_eq_true.mpr (fun _ _ => rfl)]
      rfl
    · refine s_ret (v := .bl true) ?_ (fun H2 e2 => q H2 (e1.trans e2))
      have ea : ((List.range (l.length - 1)).filter fun _ => true).all (fun _ => true) = true := List.all_eq_true.mpr fun _ _ => rfl
      rw [← ea]
      refine ev_all (f := fun _ => true) (ep_lcR1 (P := fun _ => Is (.bl true)) (f := fun _ => true) (n := l.length - 1) (fun _ => is_monT) (ea_cons (ev_op (ev_lenT (hX e1 rfl)) ev_c rv_I0) ea_nil) (by omega) (by omega) fun a H2 e2 ha => ?_)
      obtain ⟨u, hu⟩ : ∃ u, l[a]? = some u := ⟨l[a], List.getElem?_eq_getElem (by omega)⟩
      obtain ⟨z, hz⟩ : ∃ z, l[a + 1]? = some z := ⟨l[a + 1], List.getElem?_eq_getElem (by omega)⟩
      have hlt : (u : Int) < (z : Int) := by
        obtain ⟨l1, e1⟩ := List.getElem?_eq_some_iff.mp hu
        obtain ⟨l2, e2⟩ := List.getElem?_eq_some_iff.mp hz
        have := List.pairwise_iff_getElem.mp hasc a (a + 1) l1 l2 (by omega)
        rw [e1, e2] at this
        omega
      refine ⟨_, tgt_name rfl, ev_yes, fun _ => ep_ev ?_⟩
      refine ev_is (ev_op (ev_ep (ep_itT (S := fun k : Nat => Is (.int (k : Int))) mS (hX (e1.trans e2) rfl) (ev_var rfl) hu)) (ev_ep (ep_itT (S := fun k : Nat => Is (.int (k : Int))) mS (hX (e1.trans e2) rfl) (ev_op (ev_var rfl) ev_c rv_I0) hz)) rv_I0) ?_
      exact congrArg V.bl (decide_eq_true hlt)
end
end K53

namespace K53
open PySem PySem.Spec PyProof.Rows L2 Evl
theorem ints_tpl {r : List Nat} {v : V} {H : Hp} (h : IntsT r v H) : Tpl (fun k : Nat => Is (.int (k : Int))) r v H := by
  obtain ⟨p, rfl, h⟩ := h
  exact ⟨p, _, rfl, h, is_each r⟩
theorem isN_monT (k : Nat) : MonT (Is (.int (k : Int))) := is_monT
/-- a tournament as an argument -/
def spIsT : Sp := fun vs H Q _ => ∃ (x : V) (n : Nat) (b : Nat → Nat → Bool), vs = [x] ∧ Tour n b x H ∧ Trn n b ∧ 1 ≤ n ∧ n ≤ 8 ∧ ∀ H2, Ex H H2 → Q (.bl true) H2
def spChk : Sp := fun vs H Q _ => ∃ (x : V) (n : Nat) (b : Nat → Nat → Bool), vs = [x] ∧ Tour n b x H ∧ Trn n b ∧ 1 ≤ n ∧ n ≤ 8 ∧ ∀ H2, Ex H H2 → Q .non H2
def spBeats : Sp := fun vs H Q _ => ∃ (x : V) (n : Nat) (b : Nat → Nat → Bool) (i j : Nat), vs = [x, .int (i : Int), .int (j : Int)] ∧ Tour n b x H ∧ i < n ∧ j < n ∧ ∀ H2, Ex H H2 → Q (.bl (b i j)) H2
def spPlayers : Sp := fun vs H Q _ => ∃ (x : V) (l : List Nat) (n : Nat), vs = [x, .int (n : Int), .int (l.length : Int)] ∧ IntsT l x H ∧ n ≤ 8 ∧ l.length ≤ 8 ∧ (∀ k ∈ l, k < n) ∧ ∀ H2, Ex H H2 → Q (.bl true) H2
section
variable {P : Program} {w : World} {K : PySem.W.Frag} {mg : Str → Option Value} {base : Heap}
theorem tour_ev {n : Nat} {b : Nat → Nat → Bool} {x : V} {H H1 : Hp} {σ : L2.St} {i : Nat} (hx : Tour n b x H) (e : Ex H H1) (h0 : σ[i]? = some (some x)) : EvP (tVar i) σ H1 (Tour n b) := ep_var tour_monT.mon h0 (tour_monT _ _ _ (exT e) hx)
theorem scIsT : FnScope ["value", "one", "row", "other"] ["value"] (defScope sIsT) := ⟨rfl, rfl, rfl, by decide +kernel, rfl, by decide +kernel, by decide +kernel⟩
theorem ok_isT {f fC : Addr} {fd fdC : FuncData} (F : Fun K "is_tournament" "is_tournament" sIsT f fd) (B : Bt mg) (GC : FnOk P w K mg base CX0 2 fC fdC ["value", "many"] spClimb) (kC : PySem.W.keepIn K (.ref fC) = true) (bC : Binds K fdC ["value", "many"] []) (gC : mg "is_climbing" = some (.ref fC))
    {tM : Tok} (gM : mg "MOST_PLAYERS" = some (.int 8 tM)) : FnOk P w K mg base CX0 3 f fd ["value"] spIsT := by
  refine F.ok scIsT (fun vs H Q E h => ?_) (fun cdv A outer s H vs Q E hr h => ?_)
  · obtain ⟨x, n, b, rfl, _⟩ := h
    rfl
  · obtain ⟨x, n, b, rfl, hx, ht, h1, h8, q⟩ := h
    refine ⟨_, pss_cons (ps_if (PW.pt (pw_or (pt_not (pt_val (pe_callB call_isi (by rfl) B.isi (by decide +kernel) (pa_cons (pv 0) (pa_cons (pe_ty "tuple" (by rfl) B.tup (by decide +kernel)) pa_nil)))))
        (pw_or1 (pt_not (pt_chain op_le op_le pe_int (pe_callB (r := rLenS K) call_len_seq (by rfl) B.len PySem.boot_len (pa_cons (pv 0) pa_nil)) (pe_glob (v := .int 8) rfl gM ⟨_, rfl⟩))))))
        (pss_one (ps_ret pe_bl)) pss_nil)
      (pss_cons (ps_if (pt_not (pt_val (pe_callB (cr_all rfl) (by rfl) B.all (by decide +kernel) (pa_cons
          (pe_lc (own := [("row", 2)]) (g := gName 2) (tt := tYes) rfl scIsT.nd (pi_tup (pv 0)) (blkOk_by (N := ["value", "one", "row", "other"]) (sc := defScope sIsT) (by decide +kernel)) (fun _ _ _ _ _ => pg_name (i := 2) scIsT.nd rfl (Or.inl rfl)) (fun _ _ _ _ _ => pts_nil)
            (fun _ _ _ _ _ => pe_call GC hr (by rfl) gC kC bC .nil pass0 (pa_cons (pv 2) (pa_cons (pe_callB (r := rLenS K) call_len_seq (by rfl) B.len PySem.boot_len (pa_cons (pv 0) pa_nil)) pa_nil)))) pa_nil))))
        (pss_one (ps_ret pe_bl)) pss_nil)
      (pss_cons (ps_for PassesOwn.never rfl (pi_range1 (by rfl) B.rng (pa_cons (pe_callB (r := rLenS K) call_len_seq (by rfl) B.len PySem.boot_len (pa_cons (pv 0) pa_nil)) pa_nil)) (pg_name (i := 1) scIsT.nd rfl (Or.inr rfl))
        (pss_one (ps_if (PW.pt (pw_or (pt_cmpR (r := rIn K false) op_in_seq (pv 1) (pe_ix (r := rIxT K) ix_tup (pv 0) (pv 1) (fun _ _ => rfl)) (by rfl))
          (pw_or1 (pt_not (pt_val (pe_callB (cr_all rfl) (by rfl) B.all (by decide +kernel) (pa_cons
            (pe_lc (own := [("other", 3)]) (g := gName 3) (tt := tYes) rfl scIsT.nd (pi_range1 (by rfl) B.rng (pa_cons (pv 1) pa_nil)) (blkOk_by (N := ["value", "one", "row", "other"]) (sc := defScope sIsT) (by decide +kernel)) (fun _ _ _ _ _ => pg_name (i := 3) scIsT.nd rfl (Or.inl rfl)) (fun _ _ _ _ _ => pts_nil)
              (fun _ _ _ _ _ => pe_cmpR op_ne (pe_cmpR (r := rIn K false) op_in_seq (pv 3) (pe_ix (r := rIxT K) ix_tup (pv 0) (pv 1) (fun _ _ => rfl)) (by rfl)) (pe_cmpR (r := rIn K false) op_in_seq (pv 1) (pe_ix (r := rIxT K) ix_tup (pv 0) (pv 3) (fun _ _ => rfl)) (by rfl)) (nomark _))) pa_nil)))))))
          (pss_one (ps_ret pe_bl)) pss_nil)))
      (pss_one (ps_ret pe_bl)))), ?_⟩
    have hn : (tab n b).length = n := tab_len
    refine q_when (b := false) (et_is (et_or (et_not (et_B (ev_isiT (tour_ev hx (Ex.refl H) rfl)))) (fun _ => et_not (et_test (ev_le2 (j := (n : Int)) ev_c (ev_is (ev_lenT (tour_ev hx (Ex.refl H) rfl)) (by rw [hn])) ev_c (by omega) (by omega))))) rfl) (fun z => nomatch z) (fun _ H1 e1 => ?_)
    refine q_when (b := false) (et_is (et_not (et_B (ev_all (f := fun _ => true)
      (ep_lcT (P := fun _ => Is (.bl true)) (f := fun _ => true) intsT_monT (fun _ => is_monT) (tour_ev hx e1 rfl) (by omega) fun r v H2 e2 hr2 hs => ?_)))) ?_) (fun z => nomatch z) (fun _ H2 e2 => ?_)
    · obtain ⟨i, hi, rfl⟩ := mem_tab hr2
      refine ⟨_, tgt_name rfl, ev_yes, fun _ => ep_ev (ev_call (vs := [v, .int (n : Int)]) (ea_cons (ev_var rfl) (ea_cons (ev_is (ev_lenT (tour_ev hx (e1.trans e2) rfl)) (by rw [hn])) ea_nil)) fun H3 e3 Q q E => ?_)⟩
      exact ⟨v, row n b i, n, rfl, tpl_monT isN_monT _ _ _ (exT e3) (ints_tpl hs), h8, Nat.le_trans row_len h8, fun k hk => (mem_row.mp hk).1, row_asc, q⟩
    · rw [List.all_eq_true.mpr (fun _ _ => rfl)]
      rfl
    · refine q_forR1 (n := (n : Int)) (ea_cons (ev_is (ev_lenT (tour_ev hx (e1.trans e2) rfl)) (by rw [hn])) ea_nil) (by omega) (fun i σ' H' => Ex H H' ∧ ∃ y, σ' = [some x, y, none, none]) (fun H3 e3 => ⟨(e1.trans e2).trans e3, _, rfl⟩) (fun i σ' H' hi hp => ?_) (fun σ' H' hp => ?_)
      · obtain ⟨e3, y, rfl⟩ := hp
        have hi : i < n := by omega
        have hf : decide (i ∈ row n b i) = false := by rw [dec_row hi, ht.irr i hi]
        refine s_when (b := false) (et_is (et_or (et_test (ev_inI (ev_var rfl) (ep_itT intsT_monT (tour_ev hx e3 rfl) (ev_var rfl) (tab_get hi)))) (fun _ => et_not (et_B (ev_all (f := fun _ => true)
          (ep_lcR1 (P := fun _ => Is (.bl true)) (f := fun _ => true) (n := i) (fun _ => is_monT) (ea_cons (ev_var rfl) ea_nil) (by omega) (by omega) fun o H4 e4 ho => ?_))))) ?_) (fun z => nomatch z) (fun _ H4 e4 => ⟨e3.trans e4, _, rfl⟩)
        · have hon : o < n := by omega
          refine ⟨_, tgt_name rfl, ev_yes, fun _ => ep_ev (ev_is (ev_op (ev_inI (ev_var rfl) (ep_itT intsT_monT (tour_ev hx (e3.trans e4) rfl) (ev_var rfl) (tab_get hi))) (ev_inI (ev_var rfl) (ep_itT intsT_monT (tour_ev hx (e3.trans e4) rfl) (ev_var rfl) (tab_get hon))) (rv_ne rfl)) ?_)⟩
          rw [dec_row hon, dec_row hi, ht.anti i o hi hon (by omega)]
          cases b o i <;> rfl
        · rw [hf, List.all_eq_true.mpr (fun _ _ => rfl)]
          rfl
      · obtain ⟨e3, y, rfl⟩ := hp
        exact s_ret ev_c fun H4 e4 => q H4 (e3.trans e4)
end
end K53

namespace K53
open PySem PySem.Spec PyProof.Rows L2 Evl
section
variable {P : Program} {w : World} {K : PySem.W.Frag} {mg : Str → Option Value} {base : Heap}
theorem scChk1 : FnScope ["tournament"] ["tournament"] (defScope sChk1) := ⟨rfl, rfl, rfl, by decide +kernel, rfl, by decide +kernel, by decide +kernel⟩
theorem scChk2 : FnScope ["value"] ["value"] (defScope sChk2) := ⟨rfl, rfl, rfl, by decide +kernel, rfl, by decide +kernel, by decide +kernel⟩
theorem ok_chk1 {f fI : Addr} {fd fdI : FuncData} (F : Fun K "check_tournament" "check_tournament" sChk1 f fd) (GI : FnOk P w K mg base CX0 3 fI fdI ["value"] spIsT) (kI : PySem.W.keepIn K (.ref fI) = true) (bI : Binds K fdI ["value"] []) (gI : mg "is_tournament" = some (.ref fI)) :
    FnOk P w K mg base CX0 4 f fd ["tournament"] spChk := by
  refine F.ok scChk1 (fun vs H Q E h => ?_) (fun cdv A outer s H vs Q E hr h => ?_)
  · obtain ⟨x, n, b, rfl, _⟩ := h
    rfl
  · obtain ⟨x, n, b, rfl, hx, ht, h1, h8, q⟩ := h
    refine ⟨_, pss_one (ps_if (pt_not (pt_val (pe_call GI hr (by rfl) gI kI bI .nil pass0 (pa_cons (pv 0) pa_nil)))) (pss_one ps_never) pss_nil), ?_⟩
    exact s_when (b := false) (et_not (a := true) (et_B (ev_call (vs := [x]) (ea_cons (ev_var rfl) ea_nil) fun H1 e1 Q q E => ⟨x, n, b, rfl, tour_monT _ _ _ (exT e1) hx, ht, h1, h8, q⟩))) (fun z => nomatch z) (fun _ H1 e1 => q H1 e1)
theorem ok_chk2 {f fI : Addr} {fd fdI : FuncData} (F : Fun K "check_tournament" "check_tournament" sChk2 f fd) (GI : FnOk P w K mg base CX0 3 fI fdI ["value"] spIsT) (kI : PySem.W.keepIn K (.ref fI) = true) (bI : Binds K fdI ["value"] []) (gI : mg "is_tournament" = some (.ref fI)) :
    FnOk P w K mg base CX0 4 f fd ["value"] spChk := by
  refine F.ok scChk2 (fun vs H Q E h => ?_) (fun cdv A outer s H vs Q E hr h => ?_)
  · obtain ⟨x, n, b, rfl, _⟩ := h
    rfl
  · obtain ⟨x, n, b, rfl, hx, ht, h1, h8, q⟩ := h
    refine ⟨_, pss_one (ps_if (pt_not (pt_val (pe_call GI hr (by rfl) gI kI bI .nil pass0 (pa_cons (pv 0) pa_nil)))) (pss_one ps_never) pss_nil), ?_⟩
    exact s_when (b := false) (et_not (a := true) (et_B (ev_call (vs := [x]) (ea_cons (ev_var rfl) ea_nil) fun H1 e1 Q q E => ⟨x, n, b, rfl, tour_monT _ _ _ (exT e1) hx, ht, h1, h8, q⟩))) (fun z => nomatch z) (fun _ H1 e1 => q H1 e1)
theorem scBeats : FnScope ["tournament", "one", "other"] ["tournament", "one", "other"] (defScope sBeats) := ⟨rfl, rfl, rfl, by decide +kernel, rfl, by decide +kernel, by decide +kernel⟩
theorem ok_beats {f : Addr} {fd : FuncData} (F : Fun K "beats" "beats" sBeats f fd) : FnOk P w K mg base CX0 1 f fd ["tournament", "one", "other"] spBeats := by
  refine F.ok scBeats (fun vs H Q E h => ?_) (fun cdv A outer s H vs Q E hr h => ?_)
  · obtain ⟨x, n, b, i, j, rfl, _⟩ := h
    rfl
  · obtain ⟨x, n, b, i, j, rfl, hx, hi, hj, q⟩ := h
    refine ⟨_, pss_one (ps_ret (pe_cmpR (r := rIn K false) op_in_seq (pv 2) (pe_ix (r := rIxT K) ix_tup (pv 0) (pv 1) (fun _ _ => rfl)) (by rfl))), ?_⟩
    exact s_ret (ev_is (ev_inI (ev_var rfl) (ep_itT intsT_monT (tour_ev hx (Ex.refl H) rfl) (ev_var rfl) (tab_get hi))) (by rw [dec_row hj])) q
theorem scPlayers : FnScope ["value", "many", "size", "one"] ["value", "many", "size"] (defScope sPlayers) := ⟨rfl, rfl, rfl, by decide +kernel, rfl, by decide +kernel, by decide +kernel⟩
theorem ok_players {f fW : Addr} {fd fdW : FuncData} (F : Fun K "is_players" "is_players" sPlayers f fd) (B : Bt mg) (GW : FnOk P w K mg base CX0 1 fW fdW ["value", "low", "high"] spWhole) (kW : PySem.W.keepIn K (.ref fW) = true) (bW : Binds K fdW ["value", "low", "high"] []) (gW : mg "is_whole" = some (.ref fW)) :
    FnOk P w K mg base CX0 2 f fd ["value", "many", "size"] spPlayers := by
  refine F.ok scPlayers (fun vs H Q E h => ?_) (fun cdv A outer s H vs Q E hr h => ?_)
  · obtain ⟨x, l, n, rfl, _⟩ := h
    rfl
  · obtain ⟨x, l, n, rfl, hx, hn, hl, hlt, q⟩ := h
    refine ⟨_, pss_one (ps_ret (pe_and (pe_callB call_isi (by rfl) B.isi (by decide +kernel) (pa_cons (pv 0) (pa_cons (pe_ty "tuple" (by rfl) B.tup (by decide +kernel)) pa_nil)))
      (pe_and (pe_cmpR op_eq (pe_callB (r := rLenS K) call_len_seq (by rfl) B.len PySem.boot_len (pa_cons (pv 0) pa_nil)) (pv 2) (nomark _))
      (pe_one (pe_callB (cr_all rfl) (by rfl) B.all (by decide +kernel) (pa_cons
          (pe_lc (own := [("one", 3)]) (g := gName 3) (tt := tYes) rfl scPlayers.nd (pi_tup (pv 0)) (blkOk_by (N := ["value", "many", "size", "one"]) (sc := defScope sPlayers) (by decide +kernel)) (fun _ _ _ _ _ => pg_name (i := 3) scPlayers.nd rfl (Or.inl rfl)) (fun _ _ _ _ _ => pts_nil)
            (fun _ _ _ _ _ => pe_call GW hr (by rfl) gW kW bW .nil pass0 (pa_cons (pv 3) (pa_cons pe_int (pa_cons (pe_op op_sub (pv 1) pe_int) pa_nil))))) pa_nil)))))), ?_⟩
    have hT := ints_tpl hx
    have hX : ∀ {H1 : Hp} {σ : L2.St}, Ex H H1 → σ[0]? = some (some x) → EvP (tVar 0) σ H1 (Tpl (fun k : Nat => Is (.int (k : Int))) l) := fun e h0 => ep_var (tpl_monT isN_monT).mon h0 (tpl_monT isN_monT _ _ _ (exT e) hT)
    refine s_ret (ev_is (w := .bl true) (ev_andV (a := true) (ev_isiT (hX (Ex.refl H) rfl)) (fun _ => ev_andV (ev_op (ev_lenT (hX (Ex.refl H) rfl)) (ev_var rfl) (rv_eq rfl)) (fun _ => ev_all (f := fun _ => true)
      (ep_lcT (P := fun _ => Is (.bl true)) (f := fun _ => true) isN_monT (fun _ => is_monT) (hX (Ex.refl H) rfl) (by omega) fun a v H1 e ha hs => ?_)))) ?_) q
    · have hs : v = .int (a : Int) := hs
      subst hs
      have han := hlt a ha
      exact ⟨_, tgt_name rfl, ev_yes, fun _ => ep_ev (ev_call (ea_cons (ev_var rfl) (ea_cons ev_c (ea_cons (ev_op (ev_var rfl) ev_c rv_I0) ea_nil))) fun H2 e2 Q q E => ⟨(a : Int), 0, (n : Int) - 1, rfl, by omega, by omega, q⟩)⟩
    · rw [List.all_eq_true.mpr (fun _ _ => rfl), decide_eq_true rfl]
      rfl
end
end K53

namespace K53
open PySem PySem.Spec PyProof.Rows L2 Evl
abbrev sOrders : Stmt := tops 19
abbrev sIndexOf : Stmt := tops 20
/-- a signed player -/
def SgT (e : Nat × Bool) : Pp := fun v H => ∃ p, v = .ref p ∧ H p = some (.tup [.int (e.1 : Int), .bl e.2])
theorem sgT_monT (e : Nat × Bool) : MonT (SgT e) := fun v H H' x ⟨p, ev, h⟩ => ⟨p, ev, x _ _ h⟩
def spOrders : Sp := fun vs H Q _ => ∃ m : Nat, vs = [.int (m : Int)] ∧ m ≤ 100 ∧ ∀ (z : Int) H2, Ex H H2 → Q (.int z) H2
/-- of a told order -/
def spIndexOf : Sp := fun vs H Q _ => ∃ (x : V) (o : List (Nat × Bool)) (n : Nat), vs = [x] ∧ Tpl SgT ((0, true) :: o) x H ∧ 1 ≤ n ∧ n ≤ 8 ∧ (pls o).Perm (List.range' 1 (n - 1)) ∧ ∀ (z : Int) H2, Ex H H2 → Q (.int z) H2
theorem nums_int (r : List Nat) : nums r = (toI r).map V.int := by
  rw [List.map_map]
  rfl
theorem nums_pop (r : List Nat) (j : Nat) : nums (r.eraseIdx j) = ((toI r).eraseIdx j).map V.int := by
  rw [map_pop, nums_int]
/-- t[k:] -/
theorem cut_from (xs : List V) (k : Nat) : cutV xs (some (k : Int)) none = xs.drop k := by
  unfold cutV
  rw [HT.sIx_nat xs.length 0 k, HT.sIx_none]
  by_cases h : k ≤ xs.length
  · rw [Nat.min_eq_left h]
    refine List.take_of_length_le ?_
    rw [List.length_drop]
    exact Nat.le_refl _
  · rw [Nat.min_eq_right (by omega), List.drop_of_length_le (Nat.le_refl _), List.drop_of_length_le (by omega)]
    simp
theorem each_drop {α : Type} {S : α → Pp} {H : Hp} : ∀ {l : List α} {ys : List V} (k : Nat), Each S l ys H → Each S (l.drop k) (ys.drop k) H
  | _, _, 0, h => h
  | _, _, _ + 1, .nil => .nil
  | _, _, k + 1, .cons _ t => each_drop k t
/-- t[k:], k from 1, t not empty -/
theorem ep_from {α : Type} {S : α → Pp} {l : List α} {K : PySem.W.Frag} {σ : L2.St} {H : Hp} {te tl : TE} {k : Nat} (hS : ∀ a, MonT (S a)) (h : EvP te σ H (Tpl S l)) (hk : Ev tl σ H (.int (k : Int))) (h1 : 1 ≤ k) (hl : 1 ≤ l.length) : EvP (tSl (rSlT K) te (tPart tl) tNoPart) σ H (Tpl S (l.drop k)) := fun H1 e Q q =>
  h H1 e _ fun v H2 e2 ⟨p, ys, ev, hp, hy⟩ => by
    subst ev
    refine hk H2 (e.trans e2) _ fun H3 e3 => ⟨(k : Int), rfl, p, ys, rfl, SqT.of (e3 p _ hp), ?_, fun c hc => q _ _ ((e2.trans e3).trans (Ex.new hc)) ⟨c, ys.drop k, rfl, ?_, ?_⟩⟩
    · have := Paired.length hy
      rintro ⟨a, _⟩
      rw [HT.sIx_nat ys.length 0 k] at a
      omega
    · rw [upd_same, cut_from]
    · exact each_drop k (hy.mono hS (exT (e3.trans (Ex.new hc))))
section
variable {P : Program} {w : World} {K : PySem.W.Frag} {mg : Str → Option Value} {base : Heap}
theorem scOrders : FnScope ["left", "found", "number"] ["left"] (defScope sOrders) := ⟨rfl, rfl, rfl, by decide +kernel, rfl, by decide +kernel, by decide +kernel⟩
theorem ok_orders {f : Addr} {fd : FuncData} (F : Fun K "orders_with" "orders_with" sOrders f fd) (B : Bt mg) : FnOk P w K mg base CX0 1 f fd ["left"] spOrders := by
  refine F.ok scOrders (fun vs H Q E h => ?_) (fun cdv A outer s H vs Q E hr h => ?_)
  · obtain ⟨m, rfl, _⟩ := h
    rfl
  · obtain ⟨m, rfl, hm, q⟩ := h
    refine ⟨_, pss_cons (ps_set (i := 1) scOrders.nd rfl (.inl rfl) pe_int)
      (pss_cons (ps_for PassesOwn.never rfl (pi_range2 (by rfl) B.rng (pa_cons pe_int (pa_cons (pe_op op_add (pv 0) pe_int) pa_nil))) (pg_name (i := 2) scOrders.nd rfl (Or.inl rfl))
        (pss_one (ps_set (i := 1) scOrders.nd rfl (.inl rfl) (pe_op op_mul (pe_op op_mul (pv 1) pe_int) (pv 2)))))
      (pss_one (ps_ret (pv 1)))), ?_⟩
    refine q_asg ev_c fun H1 e1 => ?_
    refine q_forR2 (lo := 1) (n := (m : Int) + 1) (ea_cons ev_c (ea_cons (ev_is (ev_op (ev_var rfl) ev_c rv_I0) rfl) ea_nil)) (by omega) (fun i σ' H' => Ex H H' ∧ ∃ (z : Int) (y : Option V), σ' = [some (.int (m : Int)), some (.int z), y]) (fun H2 e2 => ⟨e1.trans e2, 1, none, rfl⟩) (fun i σ' H' hi hp => ?_) (fun σ' H' hp => ?_)
    · obtain ⟨e2, z, y, rfl⟩ := hp
      exact s_asg (ev_op (ev_op (ev_var rfl) ev_c (rv_I (.inr (by decide)))) (ev_var rfl) (rv_I (.inr (by omega)))) fun H3 e3 => ⟨e2.trans e3, _, _, rfl⟩
    · obtain ⟨e2, z, y, rfl⟩ := hp
      exact s_ret (ev_var rfl) fun H3 e3 => q z H3 (e2.trans e3)
theorem scIndexOf : FnScope ["order", "left", "index", "player", "itself", "below"] ["order"] (defScope sIndexOf) := ⟨rfl, rfl, rfl, by decide +kernel, rfl, by decide +kernel, by decide +kernel⟩
theorem rgV_nums {n : Nat} : rgV 1 (n : Int) = nums (List.range' 1 (n - 1)) := by
  unfold rgV
  have e : ((n : Int) - 1).toNat = n - 1 := by omega
  rw [e]
  refine List.ext_getElem? fun i => ?_
  rw [List.getElem?_map, List.getElem?_map]
  by_cases h : i < n - 1
  · rw [List.getElem?_range h, List.getElem?_range' h]
    simp
  · rw [List.getElem?_eq_none (by rw [List.length_range]; omega), List.getElem?_eq_none (by rw [List.length_range']; omega)]
    rfl
theorem ok_indexOf {f fO : Addr} {fd fdO : FuncData} (F : Fun K "index_of" "index_of" sIndexOf f fd) (B : Bt mg) (GO : FnOk P w K mg base CX0 1 fO fdO ["left"] spOrders) (kO : PySem.W.keepIn K (.ref fO) = true) (bO : Binds K fdO ["left"] []) (gO : mg "orders_with" = some (.ref fO)) :
    FnOk P w K mg base CX0 2 f fd ["order"] spIndexOf := by
  refine F.ok scIndexOf (fun vs H Q E h => ?_) (fun cdv A outer s H vs Q E hr h => ?_)
  · obtain ⟨x, o, n, rfl, _⟩ := h
    rfl
  · obtain ⟨x, o, n, rfl, hx, h1, h8, hp, q⟩ := h
    refine ⟨_, pss_cons (ps_set (i := 1) scIndexOf.nd rfl (.inl rfl) (pe_listRg rfl (by rfl) B.lst (prg_2 (by rfl) B.rng pe_int (pe_callB (r := rLenS K) call_len_seq (by rfl) B.len PySem.boot_len (pa_cons (pv 0) pa_nil)))))
      (pss_cons (ps_set (i := 2) scIndexOf.nd rfl (.inl rfl) pe_int)
      (pss_cons (ps_for PassesOwn.never rfl (pi_tup (pe_slice sl_tup (pv 0) (po_some pe_int) po_none)) (pg_tup rfl (pgs_cons (pg_name (i := 3) scIndexOf.nd rfl (.inl rfl)) (pgs_cons (pg_name (i := 4) scIndexOf.nd rfl (.inl rfl)) pgs_nil)))
        (pss_cons (ps_set (i := 5) scIndexOf.nd rfl (.inl rfl) (pe_call GO hr (by rfl) gO kO bO .nil pass0 (pa_cons (pe_op op_sub (pe_callB (r := rLenS K) call_len_seq (by rfl) B.len PySem.boot_len (pa_cons (pv 1) pa_nil)) pe_int) pa_nil)))
        (pss_cons (ps_set (i := 2) scIndexOf.nd rfl (.inl rfl) (pe_op op_add (pv 2) (pe_op op_mul (pe_op op_add (pe_op op_mul pe_int (pe_bm PySem.F.plainAttrs_list PySem.F.slot_list_index PySem.F.type_list_index mt_index (pv 1) (pa_cons (pv 3) pa_nil))) (pe_ifExp (pt_val (pv 4)) pe_int pe_int)) (pv 5))))
        (pss_one (ps_expr (pe_bm PySem.F.plainAttrs_list PySem.F.slot_list_remove PySem.F.type_list_remove mt_remove (pv 1) (pa_cons (pv 3) pa_nil)))))))
      (pss_one (ps_ret (pv 2))))), ?_⟩
    have ho : o.length = n - 1 := by
      have := hp.length_eq
      unfold pls at this
      rw [List.length_map, List.length_range'] at this
      exact this
    have hlen : ((0, true) :: o).length = n := by
      rw [List.length_cons, ho]
      omega
    have hX : ∀ {H1 : Hp} {σ : L2.St}, Ex H H1 → σ[0]? = some (some x) → EvP (tVar 0) σ H1 (Tpl SgT ((0, true) :: o)) := fun e h0 => ep_var (tpl_monT sgT_monT).mon h0 (tpl_monT sgT_monT _ _ _ (exT e) hx)
    have nd : (pls o).Nodup := hp.nodup_iff.mpr List.nodup_range'
    -- left = list(range(1, len(order)))
    refine ev_lenT (K := K) (hX (Ex.refl H) rfl) H (Ex.refl H) _ fun H1 e1 => ⟨1, (n : Int), rfl, by rw [hlen], ⟨by omega, by omega, by omega, by omega, by omega⟩, fun l hl => ?_⟩
    have l0 : H l = none := fresh_back e1 hl
    rw [rgV_nums]
    have e2 : Ex H (upd H1 l (.lst (nums (List.range' 1 (n - 1))))) := e1.trans (Ex.new hl)
    refine q_asg ev_c fun H2 e3 => ?_
    -- the loop
    refine ep_from (K := K) (k := 1) sgT_monT (hX (e2.trans e3) rfl) ev_c (Nat.le_refl _) (by rw [hlen]; exact h1) H2 (Ex.refl H2) _ fun v H3 e4 hv => ?_
    obtain ⟨p, ys, rfl, hp3, hy3⟩ := hv
    have hy3 : Each SgT o ys H3 := hy3
    have hl3 : H3 l = some (.lst (nums (List.range' 1 (n - 1)))) := e4 l _ (e3 l _ upd_same)
    refine ⟨p, rfl, ⟨ys, SqT.of hp3⟩, for_tup (xs := ys) (fun i σ' H' => Ex H H' ∧ ExT H3 H' ∧ ∃ (r : List Nat) (z : Int) (y3 y4 y5 : Option V), σ' = [some x, some (.ref l), some (.int z), y3, y4, y5] ∧ H' l = some (.lst (nums r)) ∧ r.Perm ((pls o).drop i))
      ⟨(e2.trans e3).trans e4, ExT.refl H3, _, 0, none, none, none, rfl, hl3, hp.symm⟩ (fun i σ' H' _ hi => SqT.of (hi.2.1 _ _ hp3)) (fun i y σ' H' hy hi => ?_) (fun σ' H' hi => ?_)⟩
    · obtain ⟨e5, x5, r, z, y3, y4, y5, rfl, hl5, hr5⟩ := hi
      obtain ⟨⟨pl, sg'⟩, ho', c, rfl, hc⟩ := Paired.getR hy3 hy
      have hc5 := x5 _ _ hc
      have hpl : (pls o)[i]? = some pl := by
        unfold pls
        rw [List.getElem?_map, ho']
        rfl
      have hi8 : i < (pls o).length := (List.getElem?_eq_some_iff.mp hpl).1
      have edrop : (pls o).drop i = pl :: (pls o).drop (i + 1) := by
        rw [List.drop_eq_getElem_cons hi8]
        congr 1
        exact Option.some.inj ((List.getElem?_eq_getElem hi8).symm.trans hpl)
      rw [edrop] at hr5
      have hrl : r.length = (pls o).length - i := by
        rw [hr5.length_eq, ← edrop, List.length_drop]
      have hpo : (pls o).length = n - 1 := by rw [hp.length_eq, List.length_range']
      have rnd : r.Nodup := hr5.nodup_iff.mpr (by rw [← edrop]; exact List.Pairwise.drop nd)
      have hmem : pl ∈ r := hr5.mem_iff.mpr List.mem_cons_self
      obtain ⟨j, hj, hjl, hjn⟩ := place_of rnd hmem
      refine ⟨c, [.int (pl : Int), .bl sg'], rfl, SqT.of hc5, rfl, .int (pl : Int), [.bl sg'], rfl, .bl sg', [], rfl, rfl, ?_⟩
      -- below = orders_with(len(left) - 1)
      refine qp_asg (P := fun v _ => ∃ z : Int, v = .int z) (ep_call (vs := [.int ((r.length - 1 : Nat) : Int)]) (ea_cons (ev_is (ev_op (ev_len (p := l) (ev_var rfl) (SqL.of hl5)) ev_c rv_I0) ?_) ea_nil) fun H6 e6 Q' q' => ⟨r.length - 1, rfl, by omega, fun z H7 e7 => q' _ H7 e7 ⟨z, rfl⟩⟩) fun v H6 e6 hv => ?_
      · rw [List.length_map]
        exact congrArg V.int (by omega)
      obtain ⟨bl, rfl⟩ := hv
      have hl6 := e6 l _ hl5
      -- index = ..
      refine q_asg (v := .int (z + (2 * (j : Int) + (if sg' = true then 0 else 1)) * bl)) (ev_op (ev_var rfl) (ev_op (x := .int (2 * (j : Int) + (if sg' = true then 0 else 1))) (ev_op (ev_op (x := .int 2) (y := .int (j : Int)) ev_c ?_ (rv_I (.inl (by decide)))) (y := .int (if sg' = true then 0 else 1)) ?_ rv_I0) (ev_var rfl) (rv_I (.inl ?_))) rv_I0) fun H7 e7 => ?_
      · intro H8 e8 Q' q'
        have hl8 := e8 l _ hl6
        refine ⟨_, rfl, .inl ⟨rfl, _, SqL.of hl8⟩, _, rfl, l, nums r, .int (pl : Int), j, .int (pl : Int), rfl, rfl, SqL.of hl8, rfl, flat_ints r, ?_, ?_, fun m z' hm hz => ?_, q' H8 (Ex.refl H8)⟩
        · rw [List.getElem?_map, hj]
          rfl
        · exact beq_self_eq_true (pl : Int)
        · rw [List.getElem?_map] at hz
          obtain ⟨k, hk, rfl⟩ := Option.map_eq_some_iff.mp hz
          have := hjn m k hm hk
          show ((k : Int) == (pl : Int)) = false
          rw [beq_eq_false_iff_ne]
          omega
      · refine ev_if (b := sg') (et_B (ev_var rfl)) (fun hb => ?_) (fun hb => ?_)
        · rw [if_pos hb]
          exact ev_c
        · rw [if_neg (by rw [hb]; decide)]
          exact ev_c
      · have : (0 : Int) ≤ (if sg' = true then 0 else 1) ∧ (if sg' = true then (0 : Int) else 1) ≤ 1 := by
          split <;> omega
        constructor <;> omega
      -- left.remove(player)
      have hl7 := e7 l _ hl6
      refine ⟨_, rfl, .inl ⟨rfl, _, SqL.of hl7⟩, _, rfl, l, toI r, (pl : Int), j, rfl, rfl, by rw [← nums_int]; exact hl7, ?_, fun m hm hz => ?_, ?_⟩
      · rw [List.getElem?_map, hj]
        rfl
      · rw [List.getElem?_map] at hz
        obtain ⟨k, hk, ek⟩ := Option.map_eq_some_iff.mp hz
        have := hjn m k hm hk
        omega
      · rw [← nums_pop]
        refine ⟨Ex.mut ((e5.trans e6).trans e7) l0, (x5.trans (exT (e6.trans e7))).trans (ExT.lst hl7), r.eraseIdx j, _, _, _, _, rfl, upd_same, ?_⟩
        exact List.Perm.cons_inv ((perm_pop hj).symm.trans hr5)
    · obtain ⟨e5, x5, r, z, y3, y4, y5, rfl, hl5, hr5⟩ := hi
      exact s_ret (ev_var rfl) fun H6 e6 => q z H6 (e5.trans e6)
end
end K53

namespace K53
open PySem PySem.Spec PyProof.Rows L2 Evl
abbrev sTby : Stmt := tops 16
/-! ## Lists of lists that are filled -/
structure RowsAt (H0 H : Hp) (p : Addr) (as : List Addr) (n : Nat) (R : Nat → List Nat) : Prop where
  len : as.length = n
  nd : as.Nodup
  p0 : H0 p = none
  a0 : ∀ a ∈ as, H0 a = none
  np : p ∉ as
  atp : H p = some (.lst (as.map V.ref))
  ata : ∀ (i : Nat) a, as[i]? = some a → H a = some (.lst (nums (R i)))
section
variable {H0 H H' H1 : Hp} {p : Addr} {as : List Addr} {n : Nat} {R : Nat → List Nat}
theorem RowsAt.mono (r : RowsAt H0 H p as n R) (e : Ex H H') : RowsAt H0 H' p as n R := ⟨r.len, r.nd, r.p0, r.a0, r.np, e _ _ r.atp, fun i a h => e _ _ (r.ata i a h)⟩
theorem RowsAt.base (r : RowsAt H1 H p as n R) (e : Ex H0 H1) : RowsAt H0 H p as n R := ⟨r.len, r.nd, fresh_back e r.p0, fun a h => fresh_back e (r.a0 a h), r.np, r.atp, r.ata⟩
theorem RowsAt.get (r : RowsAt H0 H p as n R) {u : Nat} (h : u < n) : ∃ a, as[u]? = some a ∧ H0 a = none ∧ H a = some (.lst (nums (R u))) := by
  have hl : u < as.length := by rw [r.len]; exact h
  have e : as[u]? = some as[u] := List.getElem?_eq_getElem hl
  exact ⟨_, e, r.a0 _ (List.getElem_mem hl), r.ata u _ e⟩
theorem RowsAt.app (r : RowsAt H0 H p as n R) {u v : Nat} {a : Addr} (h : as[u]? = some a) : RowsAt H0 (upd H a (.lst (nums (R u) ++ [V.int (v : Int)]))) p as n (app R u v) := by
  refine ⟨r.len, r.nd, r.p0, r.a0, r.np, ?_, fun i c hc => ?_⟩
  · have ne : p ≠ a := fun e => r.np (e ▸ List.mem_of_getElem? h)
    rw [upd_ne ne]
    exact r.atp
  · by_cases e : c = a
    · subst e
      have ei : i = u := nd_ix r.nd hc h
      subst ei
      rw [upd_same]
      unfold K53.app
      rw [if_pos rfl]
      unfold nums
      rw [List.map_append]
      rfl
    · rw [upd_ne e]
      have ei : i ≠ u := fun q => by
        subst q
        exact e (Option.some.inj (hc.symm.trans h))
      unfold K53.app
      rw [if_neg ei]
      exact r.ata i c hc
end
/-- [[] for x in ..]: behind i turns -/
def Mk (H : Hp) (D : Addr) (i : Nat) (H' : Hp) : Prop := H D = none ∧ Ex H H' ∧ ∃ as : List Addr, H' D = some (.lst (as.map V.ref)) ∧ as.length = i ∧ as.Nodup ∧ D ∉ as ∧ (∀ a ∈ as, H a = none) ∧ ∀ a ∈ as, H' a = some (.lst [])
theorem mk_start {H : Hp} {D : Addr} (h : H D = none) : Mk H D 0 (upd H D (.lst [])) := ⟨h, Ex.new h, [], upd_same, rfl, List.nodup_nil, (by simp), (by simp), (by simp)⟩
theorem mk_turn {H H' : Hp} {D : Addr} {i : Nat} {σ : L2.St} (m : Mk H D i H') (hi : i < 1000) :
    tYes σ H' fun b H3 => if b = true then tLst tNil σ H3 fun y H4 => ∃ acc, H4 D = some (.lst acc) ∧ acc.length < sizeLine ∧ Mk H D (i + 1) (upd H4 D (.lst (acc ++ [y]))) else Mk H D (i + 1) H3 := by
  obtain ⟨m1, m2, as, m3, m4, m5, m6, m7, m8⟩ := m
  show tLst tNil σ H' fun y H4 => ∃ acc, H4 D = some (.lst acc) ∧ acc.length < sizeLine ∧ Mk H D (i + 1) (upd H4 D (.lst (acc ++ [y])))
  refine ⟨Nat.zero_le _, fun c hc => ?_⟩
  have cD : c ≠ D := fun e => by
    rw [e, m3] at hc
    cases hc
  refine ⟨as.map V.ref, ?_, ?_, m1, ?_, as ++ [c], ?_, ?_, ?_, ?_, ?_, ?_⟩
  · rw [upd_ne (Ne.symm cD)]
    exact m3
  · rw [List.length_map, m4]
    exact sz_lt (by omega)
  · exact Ex.mut (m2.trans (Ex.new hc)) m1
  · rw [upd_same, List.map_append]
    rfl
  · rw [List.length_append, m4]
    rfl
  · rw [List.nodup_append]
    refine ⟨m5, by simp, fun a ha b hb e => ?_⟩
    rw [List.mem_singleton] at hb
    subst hb e
    rw [m8 _ ha] at hc
    cases hc
  · rw [List.mem_append, List.mem_singleton]
    rintro (h | h)
    · exact m6 h
    · exact cD h.symm
  · intro a ha
    rcases List.mem_append.mp ha with h | h
    · exact m7 a h
    · rw [List.mem_singleton.mp h]
      exact fresh_back m2 hc
  · intro a ha
    rcases List.mem_append.mp ha with h | h
    · have aD : a ≠ D := fun e => m6 (e ▸ h)
      have ac : a ≠ c := fun e => by
        rw [← e, m8 a h] at hc
        cases hc
      rw [upd_ne aD, upd_ne ac]
      exact m8 a h
    · rw [List.mem_singleton.mp h, upd_ne cD, upd_same]
theorem mk_rows {H H' : Hp} {D : Addr} {n : Nat} (m : Mk H D n H') : ∃ as, RowsAt H H' D as n fun _ => [] := by
  obtain ⟨m1, m2, as, m3, m4, m5, m6, m7, m8⟩ := m
  exact ⟨as, m4, m5, m1, m7, m6, m3, fun i a h => m8 a (List.mem_of_getElem? h)⟩
/-- what such a list is -/
def NewRows (n : Nat) (H : Hp) : Pp := fun v H' => ∃ p as, v = .ref p ∧ RowsAt H H' p as n fun _ => []
section
variable {K : PySem.W.Frag} {σ : L2.St} {H : Hp} {tl te : TE} {ws : List Nat} {j : Nat}
theorem rows_tup {a : Addr} {ys : List V} {Q : VK} (h : H a = some (.tup ys)) (hl : Ev tl σ H (.ref a)) (hz : ys.length ≤ 1000) (hw : ∀ x, wipe ((wipe σ ws).set j (some x)) ws = wipe σ ws) (q : ∀ v H2, Ex H H2 → NewRows ys.length H v H2 → Q v H2) :
    tLc (iTup K tl) (gName j) tYes (tLst tNil) ws σ H Q := hl H (Ex.refl H) _ fun H1 e1 => ⟨a, rfl, ⟨ys, SqT.of (e1 _ _ h)⟩, fun D hD =>
  lc_tup (xs := ys) (Mk H1 D) (mk_start hD) (fun i H' _ m => SqT.of (m.2.1 _ _ (e1 _ _ h))) (fun i x H' hx m => ⟨hw x, mk_turn m (by have := (List.getElem?_eq_some_iff.mp hx).1; omega)⟩) fun H' m => by
    obtain ⟨as, r⟩ := mk_rows m
    exact q _ H' (e1.trans m.2.1) ⟨D, as, rfl, r.base e1⟩⟩
theorem rows_rng {ta : TA} {n : Nat} {Q : VK} (h : EvA ta σ H [.int (n : Int)]) (hn : n ≤ 1000) (hw : ∀ x, wipe ((wipe σ ws).set j (some x)) ws = wipe σ ws) (q : ∀ v H2, Ex H H2 → NewRows n H v H2 → Q v H2) :
    tLc (iRng1 ta) (gName j) tYes (tLst tNil) ws σ H Q := h H (Ex.refl H) _ fun H1 e1 => ⟨(n : Int), rfl, by omega, by omega, fun D hD => by
  rw [Int.toNat_natCast]
  exact lc_range (lo := 0) (n := n) (Mk H1 D) (mk_start hD) (fun i H' hi m => ⟨hw _, mk_turn m (by omega)⟩) fun H' m => by
    obtain ⟨as, r⟩ := mk_rows m
    exact q _ H' (e1.trans m.2.1) ⟨D, as, rfl, r.base e1⟩⟩
theorem q_rowsT {i : Nat} {a : Addr} {ys : List V} {D : Ends} {tz : TS} (h : H a = some (.tup ys)) (hl : Ev tl σ H (.ref a)) (hz : ys.length ≤ 1000) (hw : ∀ x, wipe ((wipe σ ws).set j (some x)) ws = wipe σ ws)
    (k : ∀ v H2, Ex H H2 → NewRows ys.length H v H2 → tz D (σ.set i (some v)) H2) : tSeq (tAsg (tLc (iTup K tl) (gName j) tYes (tLst tNil) ws) (gName i)) tz D σ H := rows_tup h hl hz hw k
theorem q_rowsR {i : Nat} {ta : TA} {n : Nat} {D : Ends} {tz : TS} (h : EvA ta σ H [.int (n : Int)]) (hn : n ≤ 1000) (hw : ∀ x, wipe ((wipe σ ws).set j (some x)) ws = wipe σ ws)
    (k : ∀ v H2, Ex H H2 → NewRows n H v H2 → tz D (σ.set i (some v)) H2) : tSeq (tAsg (tLc (iRng1 ta) (gName j) tYes (tLst tNil) ws) (gName i)) tz D σ H := rows_rng h hn hw k
theorem tpl_ints {r : List Nat} {v : V} {H : Hp} (h : Tpl (fun k : Nat => Is (.int (k : Int))) r v H) : IntsT r v H := by
  obtain ⟨p, ys, rfl, h1, h2⟩ := h
  rw [each_is h2] at h1
  exact ⟨p, rfl, h1⟩
/-- sorted of a list of ints, as the one ascending list -/
theorem ep_sort {l m : List Nat} (h : EvP te σ H (fun v H1 => ∃ a, v = .ref a ∧ H1 a = some (.lst (nums l)))) (hl : l.length < 64) (hp : l.Perm m) (hm : m.Pairwise (· < ·)) : EvP (tCB (rSorted K) (tCons te tNil)) σ H (Lst (fun k : Nat => Is (.int (k : Int))) m) :=
  ep_cb1 h fun v H1 e ⟨a, ev, ha⟩ Q q => by
    subst ev
    refine ⟨a, toI l, rfl, SqL.of (by rw [← nums_int]; exact ha), by rw [List.length_map]; exact hl, fun ns c hn hs hc => ?_⟩
    rw [sorted_eq hn hs hm hp, ← nums_int]
    exact q _ _ (Ex.new hc) ⟨c, _, rfl, upd_same, is_each m⟩
/-- tuple([tuple(sorted(row)) for row in rows]) -/
theorem ep_rowsEnd {H0 : Hp} {p : Addr} {as : List Addr} {n i : Nat} {R : Nat → List Nat} {b : Nat → Nat → Bool} (r : RowsAt H0 H p as n R) (hn : n ≤ 8) (hR : ∀ k, k < n → (R k).Perm (row n b k)) (hv : σ[i]? = some (some (.ref p)))
    (hw : ∀ x, wipe ((wipe σ ws).set j (some x)) ws = wipe σ ws) (hj : ∀ x, ((wipe σ ws).set j (some x))[j]? = some (some x)) :
    EvP (tCB (rTupOf K) (tCons (tLc (iList K (tVar i)) (gName j) tYes (tCB (rTupOf K) (tCons (tCB (rSorted K) (tCons (tVar j) tNil)) tNil)) ws) tNil)) σ H (Tour n b) := by
  have hS : EvP (tVar i) σ H (Lst (fun (k : Nat) v H => ∃ a, v = .ref a ∧ H a = some (.lst (nums (R k)))) (List.range n)) := fun H1 e Q q => by
    refine ⟨_, hv, q _ H1 (Ex.refl H1) ⟨p, as.map V.ref, rfl, e _ _ r.atp, ?_⟩⟩
    have : ∀ (l : List Addr) (m : List Nat), l.length = m.length → (∀ (t : Nat) (a : Addr) (k : Nat), l[t]? = some a → m[t]? = some k → H1 a = some (.lst (nums (R k)))) → Each (fun (k : Nat) v H => ∃ a, v = .ref a ∧ H a = some (.lst (nums (R k)))) m (l.map V.ref) H1 := by
      intro l
      induction l with
      | nil =>
        intro m hl _
        cases m with
        | nil => exact .nil
        | cons _ _ => simp at hl
      | cons a l ih =>
        intro m hl hall
        cases m with
        | nil => simp at hl
        | cons k m => exact .cons ⟨a, rfl, hall 0 a k rfl rfl⟩ (ih m (by simpa using hl) fun t a' k' h1 h2 => hall (t + 1) a' k' (by simpa using h1) (by simpa using h2))
    refine this as (List.range n) (by rw [r.len, List.length_range]) fun t a k h1 h2 => ?_
    have ht : t < n := by
      have := (List.getElem?_eq_some_iff.mp h1).1
      rw [r.len] at this
      exact this
    rw [List.getElem?_range ht] at h2
    have e2 : t = k := Option.some.inj h2
    subst e2
    exact e _ _ (r.ata t a h1)
  have hL := ep_lcL (K := K) (g := gName j) (ws := ws) (t := tYes) (te := tCB (rTupOf K) (tCons (tCB (rSorted K) (tCons (tVar j) tNil)) tNil)) (P := fun k => IntsT (row n b k)) (f := fun _ => true) (fun k => intsT_monT _) hS (by rw [List.length_range]; omega) fun k v H1 e hk hs => by
    obtain ⟨a, rfl, ha⟩ := hs
    have hkn : k < n := List.mem_range.mp hk
    have hlen : (R k).length < 64 := by
      rw [(hR k hkn).length_eq]
      have := row_len (n := n) (b := b) (i := k)
      omega
    refine ⟨_, tgt_name (hw _), ev_yes, fun _ => (ep_tuple isN_monT (ep_sort (fun H2 e2 Q q => ⟨.ref a, hj _, q _ H2 (Ex.refl H2) ⟨a, rfl, e2 _ _ ha⟩⟩) hlen (hR k hkn) row_asc)).imp fun v H2 _ q => tpl_ints q⟩
  rw [filter_yes] at hL
  refine (ep_tuple (fun k => intsT_monT _) hL).imp fun v H1 e q => ?_
  obtain ⟨c, ys, rfl, h1, h2⟩ := q
  exact ⟨c, ys, rfl, h1, each_map h2⟩
end
end K53

namespace K53
open PySem PySem.Spec PyProof.Rows L2 Evl
/-- of a signed order -/
def spTby : Sp := fun vs H Q _ => ∃ (x : V) (o : List (Nat × Bool)) (n : Nat), vs = [x] ∧ Tpl SgT o x H ∧ 1 ≤ n ∧ n ≤ 8 ∧ Ord n o ∧ ∀ v H2, Ex H H2 → Tour n (bo o) v H2 → Q v H2
theorem each_len {α : Type} {S : α → Pp} {l : List α} {ys : List V} {H : Hp} (h : Each S l ys H) : l.length = ys.length := Paired.length h
theorem Ord.fill_end {n : Nat} {o : List (Nat × Bool)} (O : Ord n o) {j : Nat} {R : Nat → List Nat} (F : Fill n (plo o) (deco o) n j R) (k : Nat) (hk : k < n) : (R k).Perm (row n (K53.bo o) k) :=
  F.rows O.sur O.bo (fun _ => bo_irr) hk
/-- the pair (k, j) of a signed order is laid -/
theorem fill_true {n : Nat} {o : List (Nat × Bool)} (O : Ord n o) {k j : Nat} {R : Nat → List Nat} (F : Fill n (plo o) (deco o) k j R) (hk : k < j) (hj : j < n) (hd : deco o k j = true) : Fill n (plo o) (deco o) k (j + 1) (app R (plo o k) (plo o j)) := by
  have q := F.step hk hj O.inj O.ran
  rw [hd, if_pos rfl] at q
  exact q
theorem fill_false {n : Nat} {o : List (Nat × Bool)} (O : Ord n o) {k j : Nat} {R : Nat → List Nat} (F : Fill n (plo o) (deco o) k j R) (hk : k < j) (hj : j < n) (hd : deco o k j = false) : Fill n (plo o) (deco o) k (j + 1) (app R (plo o j) (plo o k)) := by
  have q := F.step hk hj O.inj O.ran
  rw [hd, if_neg Bool.false_ne_true] at q
  exact q
theorem fill_len {n : Nat} {pl : Nat → Nat} {dec : Nat → Nat → Bool} {k j : Nat} {R : Nat → List Nat} (F : Fill n pl dec k j R) (i : Nat) : (R i).length ≤ n := by
  have h := (perm_row (n := n) (f := fun v => decide (v ∈ R i)) (F.nd i) fun v => ⟨fun h => ⟨F.sub i v h, decide_eq_true h⟩, fun h => of_decide_eq_true h.2⟩).length_eq
  have h2 := List.length_filter_le (fun v => decide (v ∈ R i)) (List.range n)
  rw [List.length_range] at h2
  omega
section
variable {P : Program} {w : World} {K : PySem.W.Frag} {mg : Str → Option Value} {base : Heap}
theorem scTby : FnScope ["order", "rows", "at", "player", "itself", "other", "alike", "entry", "row"] ["order"] (defScope sTby) := ⟨rfl, rfl, rfl, by decide +kernel, rfl, by decide +kernel, by decide +kernel⟩
/-- rows[i].append(v) -/
theorem s_rowApp {σ : L2.St} {D : Ends} {H0 H : Hp} {p : Addr} {as : List Addr} {n u v : Nat} {R : Nat → List Nat} {ta tb te : TE} (r : RowsAt H0 H p as n R) (hu : u < n) (hz : (R u).length ≤ 100) (ha : Ev ta σ H (.ref p)) (hb : Ev tb σ H (.int (u : Int))) (hv : Ev te σ H (.int (v : Int)))
    (k : ∀ H1 a, Ex H H1 → H0 a = none → H1 a = some (.lst (nums (R u))) → RowsAt H0 (upd H1 a (.lst (nums (R u) ++ [.int (v : Int)]))) p as n (app R u v) → D.nx σ (upd H1 a (.lst (nums (R u) ++ [.int (v : Int)])))) :
    tDrop (tBM K "list" rAppend (tOp (rIxL K) ta tb) (tCons te tNil)) D σ H := by
  obtain ⟨a, ea, a0, ha1⟩ := r.get hu
  refine s_app ha1 (ev_op ha hb (rv_ixL (SqL.of r.atp) (atI_nat (by rw [List.getElem?_map, ea]; rfl)))) hv (by rw [List.length_map]; omega) fun H1 e1 => ?_
  exact k H1 a e1 a0 (e1 _ _ ha1) ((r.mono e1).app ea)
theorem ok_tby {f : Addr} {fd : FuncData} (F : Fun K "tournament_by" "tournament_by" sTby f fd) (B : Bt mg) : FnOk P w K mg base CX0 1 f fd ["order"] spTby := by
  refine F.ok scTby (fun vs H Q E h => ?_) (fun cdv A outer s H vs Q E hr h => ?_)
  · obtain ⟨x, o, n, rfl, _⟩ := h
    rfl
  · obtain ⟨x, o, n, rfl, hx, h1, h8, O, q⟩ := h
    refine ⟨_, pss_cons (ps_setLc (i := 1) (own := [("entry", 7)]) (g := gName 7) (tt := tYes) rfl scTby.nd rfl rfl (sw_true rfl rfl rfl (by decide +kernel)) (pi_tup (pv 0)) (blkOk_by (N := ["order", "rows", "at", "player", "itself", "other", "alike", "entry", "row"]) (sc := defScope sTby) (by decide +kernel)) (fun _ _ _ _ _ => pg_name (i := 7) scTby.nd rfl (Or.inl rfl)) (fun _ _ _ _ _ => pts_nil) (fun _ _ _ _ _ => pe_lst pa_nil))
      (pss_cons (ps_for PassesOwn.never rfl (pi_enumT (by rfl) B.enu (pa_cons (pv 0) pa_nil)) (pg_tup rfl (pgs_cons (pg_name (i := 2) scTby.nd rfl (.inl rfl)) (pgs_cons (pg_tup rfl (pgs_cons (pg_name (i := 3) scTby.nd rfl (.inl rfl)) (pgs_cons (pg_name (i := 4) scTby.nd rfl (.inl rfl)) pgs_nil))) pgs_nil)))
        (pss_one (ps_for PassesOwn.never rfl (pi_tup (pe_slice sl_tup (pv 0) (po_some (pe_op op_add (pv 2) pe_int)) po_none)) (pg_tup rfl (pgs_cons (pg_name (i := 5) scTby.nd rfl (.inl rfl)) (pgs_cons (pg_name (i := 6) scTby.nd rfl (.inl rfl)) pgs_nil)))
          (pss_one (ps_if (pt_cmpR op_eq (pv 4) (pv 6) (nomark _))
            (pss_one (ps_expr (pe_bm PySem.F.plainAttrs_list PySem.F.slot_list_append PySem.F.type_list_append mt_append (pe_ix (r := rIxL K) ix_list (pv 1) (pv 3) (fun _ _ => rfl)) (pa_cons (pv 5) pa_nil))))
            (pss_one (ps_expr (pe_bm PySem.F.plainAttrs_list PySem.F.slot_list_append PySem.F.type_list_append mt_append (pe_ix (r := rIxL K) ix_list (pv 1) (pv 5) (fun _ _ => rfl)) (pa_cons (pv 3) pa_nil)))))))))
      (pss_one (ps_ret (pe_callTy call_tuple_of (by rfl) B.tup boot_tuple (pa_cons (pe_lc (own := [("row", 8)]) (g := gName 8) (tt := tYes) rfl scTby.nd (pi_list (pv 1)) (blkOk_by (N := ["order", "rows", "at", "player", "itself", "other", "alike", "entry", "row"]) (sc := defScope sTby) (by decide +kernel)) (fun _ _ _ _ _ => pg_name (i := 8) scTby.nd rfl (Or.inl rfl)) (fun _ _ _ _ _ => pts_nil)
        (fun _ _ _ _ _ => pe_callTy (r := rTupOf K) call_tuple_of (by rfl) B.tup boot_tuple (pa_cons (pe_callB (r := rSorted K) cr_sorted (by rfl) B.srt boot_sorted (pa_cons (pv 8) pa_nil)) pa_nil))) pa_nil))))), ?_⟩
    obtain ⟨a, ys, rfl, ha, hy⟩ := hx
    have hyl : ys.length = n := by rw [← each_len hy, O.len]
    refine q_rowsT (K := K) ha (ev_var rfl) (by omega) (fun _ => rfl) fun v H1 e1 hv => ?_
    obtain ⟨p, as, rfl, r⟩ := hv
    rw [hyl] at r
    -- the outer loop
    refine ⟨.ref a, rfl, a, ys, rfl, SqT.of (e1 _ _ ha), for_enumT (xs := ys) (fun k σ' H' => Ex H H' ∧ ∃ (R : Nat → List Nat) (j : Nat) (y2 y3 y4 y5 y6 : Option V), σ' = [some (.ref a), some (.ref p), y2, y3, y4, y5, y6, none, none] ∧ RowsAt H H' p as n R ∧ j ≤ k + 1 ∧ Fill n (plo o) (deco o) k j R)
      ⟨e1, _, 0, none, none, none, none, none, rfl, r, by omega, fill_start⟩ (fun k σ' H' _ hi => SqT.of (hi.1 _ _ ha)) (fun k y T σ' H' hy' hi hT => ?_) (fun σ' H' hi => ?_)⟩
    · obtain ⟨e2, R, j, y2, y3, y4, y5, y6, rfl, r2, hj, F2⟩ := hi
      have F2 := F2.begin hj
      have hk : k < n := by
        have := (List.getElem?_eq_some_iff.mp hy').1
        omega
      obtain ⟨e, he, c, rfl, hc⟩ := Paired.getR hy hy'
      have ee : e = (plo o k, sgo o k) := Option.some.inj (he.symm.trans (O.at hk))
      subst ee
      have eT : Ex H' (upd H' T (.tup [.int (k : Int), .ref c])) := Ex.new hT
      refine ⟨T, [.int (k : Int), .ref c], rfl, SqT.of upd_same, rfl, .int (k : Int), [.ref c], rfl, .ref c, [], rfl, ?_⟩
      refine ⟨c, [.int (plo o k : Int), .bl (sgo o k)], rfl, SqT.of (eT _ _ (e2 _ _ hc)), rfl, .int (plo o k : Int), [.bl (sgo o k)], rfl, .bl (sgo o k), [], rfl, rfl, rfl, ?_⟩
      have e3 := e2.trans eT
      have r3 := r2.mono eT
      -- the inner loop
      have hsl : EvP (tSl (rSlT K) (tVar 0) (tPart (tOp (rI0 fun i j => .int (i + j)) (tVar 2) (tC (.int 1)))) tNoPart) [some (.ref a), some (.ref p), some (.int (k : Int)), some (.int (plo o k : Int)), some (.bl (sgo o k)), y5, y6, none, none] (upd H' T (.tup [.int (k : Int), .ref c])) (Tpl SgT (o.drop (k + 1))) :=
        ep_from (k := k + 1) sgT_monT (ep_var (tpl_monT sgT_monT).mon rfl ⟨a, ys, rfl, e3 _ _ ha, hy.mono sgT_monT (exT e3)⟩) (ev_op (ev_var rfl) ev_c rv_I0) (by omega) (by rw [O.len]; exact h1)
      refine hsl _ (Ex.refl _) _ fun v H4 e4 hv => ?_
      obtain ⟨t, zs, rfl, ht, hz⟩ := hv
      have hzl : zs.length = n - (k + 1) := by rw [← each_len hz, List.length_drop, O.len]
      refine ⟨t, rfl, ⟨zs, SqT.of ht⟩, for_tup (xs := zs) (fun m σ' H'' => Ex H H'' ∧ ExT H4 H'' ∧ ∃ (R : Nat → List Nat) (y5 y6 : Option V), σ' = [some (.ref a), some (.ref p), some (.int (k : Int)), some (.int (plo o k : Int)), some (.bl (sgo o k)), y5, y6, none, none] ∧ RowsAt H H'' p as n R ∧ Fill n (plo o) (deco o) k (k + 1 + m) R)
        ⟨e3.trans e4, ExT.refl H4, R, y5, y6, rfl, r3.mono e4, F2⟩ (fun m σ' H'' _ hi => SqT.of (hi.2.1 _ _ ht)) (fun m z σ' H'' hz' hi => ?_) (fun σ' H'' hi => ?_)⟩
      · obtain ⟨e5, x5, R5, z5, z6, rfl, r5, F5⟩ := hi
        have hm : k + 1 + m < n := by
          have := (List.getElem?_eq_some_iff.mp hz').1
          omega
        obtain ⟨e', he', d, rfl, hd⟩ := Paired.getR hz hz'
        rw [List.getElem?_drop] at he'
        have ee : e' = (plo o (k + 1 + m), sgo o (k + 1 + m)) := Option.some.inj (he'.symm.trans (O.at hm))
        subst ee
        refine ⟨d, [.int (plo o (k + 1 + m) : Int), .bl (sgo o (k + 1 + m))], rfl, SqT.of (x5 _ _ hd), rfl, .int (plo o (k + 1 + m) : Int), [.bl (sgo o (k + 1 + m))], rfl, .bl (sgo o (k + 1 + m)), [], rfl, rfl, ?_⟩
        have len : ∀ i, (R5 i).length ≤ 100 := fun i => Nat.le_trans (fill_len F5 i) (by omega)
        refine s_if (b := deco o k (k + 1 + m)) (et_is (et_test (ev_op (ev_var rfl) (ev_var rfl) (rv_eq rfl))) ?_) (fun hd H6 e6 => ?_) (fun hd H6 e6 => ?_)
        · unfold deco
          rw [dec_bl]
        · refine s_rowApp (K := K) (r5.mono e6) (O.ran k hk) (len _) (ev_var rfl) (ev_var rfl) (ev_var rfl) fun H7 c7 e7 n7 g7 r7 => ?_
          exact ⟨Ex.mut ((e5.trans e6).trans e7) n7, (x5.trans (exT (e6.trans e7))).trans (ExT.lst g7), _, _, _, rfl, r7, fill_true O F5 (show k < k + 1 + m by omega) hm hd⟩
        · refine s_rowApp (K := K) (r5.mono e6) (O.ran _ hm) (len _) (ev_var rfl) (ev_var rfl) (ev_var rfl) fun H7 c7 e7 n7 g7 r7 => ?_
          exact ⟨Ex.mut ((e5.trans e6).trans e7) n7, (x5.trans (exT (e6.trans e7))).trans (ExT.lst g7), _, _, _, rfl, r7, fill_false O F5 (show k < k + 1 + m by omega) hm hd⟩
      · obtain ⟨e5, x5, R5, z5, z6, rfl, r5, F5⟩ := hi
        rw [hzl, show k + 1 + (n - (k + 1)) = n by omega] at F5
        exact ⟨e5, R5, k + 2, _, _, _, _, _, rfl, r5, Nat.le_refl _, F5.turn⟩
    · obtain ⟨e2, R, j, y2, y3, y4, y5, y6, rfl, r2, hj, F2⟩ := hi
      rw [hyl] at F2
      exact sp_ret (ep_rowsEnd r2 h8 (O.fill_end F2) rfl (fun _ => rfl) (fun _ => rfl)) fun v H3 e3 hv => q v H3 (e2.trans e3) hv
end
end K53

namespace K53
open PySem PySem.Spec PyProof.Rows L2 Evl
/-! ## Data of rows and tournaments; sorted lists of things that stand for data -/
def dRow (r : List Nat) : PyData := .tuple (r.map fun k : Nat => .int (k : Int))
def dTab (l : List (List Nat)) : PyData := .tuple (l.map dRow)
theorem eqv_row : ∀ {l m : List Nat}, PyData.eqvAll (l.map fun k : Nat => .int (k : Int)) (m.map fun k : Nat => .int (k : Int)) = true → l = m
  | [], [], _ => rfl
  | [], _ :: _, h => by
    simp [PyData.eqvAll] at h
  | _ :: _, [], h => by
    simp [PyData.eqvAll] at h
  | k :: l, j :: m, h => by
    rw [List.map_cons, List.map_cons, PySem.W.eqv_all_cons, Bool.and_eq_true] at h
    have e : (k : Int) = (j : Int) := by
      have q := h.1
      simp only [PyData.eqv, beq_iff_eq] at q
      exact q
    have e2 : k = j := by omega
    rw [e2, eqv_row h.2]
theorem eqv_tab : ∀ {l m : List (List Nat)}, PyData.eqvAll (l.map dRow) (m.map dRow) = true → l = m
  | [], [], _ => rfl
  | [], _ :: _, h => by
    simp [PyData.eqvAll] at h
  | _ :: _, [], h => by
    simp [PyData.eqvAll] at h
  | k :: l, j :: m, h => by
    rw [List.map_cons, List.map_cons, PySem.W.eqv_all_cons, Bool.and_eq_true] at h
    have q : PyData.eqvAll (k.map fun k : Nat => .int (k : Int)) (j.map fun k : Nat => .int (k : Int)) = true := by
      have q := h.1
      unfold dRow at q
      simpa only [PyData.eqv] using q
    rw [eqv_row q, eqv_tab h.2]
theorem row_eqv : ∀ l : List Nat, PyData.eqvAll (l.map fun k : Nat => .int (k : Int)) (l.map fun k : Nat => .int (k : Int)) = true
  | [] => by simp [PyData.eqvAll]
  | k :: l => by
    rw [List.map_cons, PySem.W.eqv_all_cons, row_eqv l]
    simp [PyData.eqv]
theorem tab_eqv : ∀ l : List (List Nat), PyData.eqvAll (l.map dRow) (l.map dRow) = true
  | [] => by simp [PyData.eqvAll]
  | r :: l => by
    rw [List.map_cons, PySem.W.eqv_all_cons, tab_eqv l]
    have := row_eqv r
    simp only [dRow, PyData.eqv, this, Bool.and_self]
theorem eqv_dTab {l m : List (List Nat)} : PyData.eqv (dTab l) (dTab m) = decide (l = m) := by
  rw [Bool.eq_iff_iff, decide_eq_true_iff]
  constructor
  · intro h
    unfold dTab at h
    simp only [PyData.eqv] at h
    exact eqv_tab h
  · intro h
    subst h
    unfold dTab
    simp only [PyData.eqv]
    exact tab_eqv l
section
variable {K : PySem.W.Frag} {H : Hp}
theorem dp_nums : ∀ r : List Nat, DpAll K H (nums r) (r.map fun k : Nat => .int (k : Int))
  | [] => .nil
  | k :: r => .cons (.int (k : Int)) (dp_nums r)
theorem dp_row {r : List Nat} {v : V} (h : IntsT r v H) : Dp K H v (dRow r) := by
  obtain ⟨p, rfl, h⟩ := h
  exact .tup (SqT.of h) (dp_nums r)
theorem dp_all {α : Type} {S : α → Pp} {dat : α → PyData} (hd : ∀ a v, S a v H → Dp K H v (dat a)) : ∀ {l : List α} {ys : List V}, Each S l ys H → DpAll K H ys (l.map dat)
  | _, _, .nil => .nil
  | _, _, .cons h t => .cons (hd _ _ h) (dp_all hd t)
theorem dp_tab {l : List (List Nat)} {v : V} (h : Tpl IntsT l v H) : Dp K H v (dTab l) := by
  obtain ⟨p, ys, rfl, h, hy⟩ := h
  exact .tup (SqT.of h) (dp_all (fun _ _ q => dp_row q) hy)
end
theorem depth_row (r : List Nat) : PyData.depthAll (r.map fun k : Nat => .int (k : Int)) = 0 := by
  have := PySem.W.depth_ints (toI r)
  rw [List.map_map] at this
  exact this
theorem depth_tab : ∀ l : List (List Nat), PyData.depthAll (l.map dRow) ≤ 1
  | [] => by simp [PyData.depthAll]
  | r :: l => by
    have ih := depth_tab l
    have h : (dRow r).depth = 1 := by
      unfold dRow
      rw [PyData.depth, depth_row]
    rw [List.map_cons, PyData.depthAll, h]
    omega
theorem lay_row : ∀ r : List Nat, PyData.canLayAll0 (r.map fun k : Nat => .int (k : Int)) = true
  | [] => by simp [PyData.canLayAll0]
  | k :: r => by
    rw [List.map_cons, PyData.canLayAll0, lay_row r]
    simp [PyData.canLay0]
theorem lay_tab : ∀ l : List (List Nat), PyData.canLayAll0 (l.map dRow) = true
  | [] => by simp [PyData.canLayAll0]
  | r :: l => by
    rw [List.map_cons, PyData.canLayAll0, lay_tab l]
    simp [dRow, PyData.canLay0, lay_row r]
theorem shaped_tab (l : List (List Nat)) : SeqAt.shaped (dTab l) = true := by
  unfold SeqAt.shaped
  rw [Bool.and_eq_true, decide_eq_true_iff]
  refine ⟨?_, ?_⟩
  · simp [dTab, PyData.canLay0, lay_tab l]
  · have := depth_tab l
    unfold dTab
    rw [PyData.depth]
    omega
theorem each_append {α : Type} {S : α → Pp} {H : Hp} : ∀ {l m : List α} {ys zs : List V}, Each S l ys H → Each S m zs H → Each S (l ++ m) (ys ++ zs) H
  | _, _, _, _, .nil, h => h
  | _, _, _, _, .cons h t, h2 => .cons h (each_append t h2)
theorem zip_each {α : Type} {S : α → Pp} {H : Hp} : ∀ {l : List α} {ys : List V}, Each S l ys H → ∀ z ∈ l.zip ys, S z.1 z.2 H
  | _, _, .nil, z, hz => by simp at hz
  | _, _, .cons h t, z, hz => by
    rw [List.zip_cons_cons] at hz
    rcases List.mem_cons.mp hz with rfl | hz
    · exact h
    · exact zip_each t z hz
theorem each_zip {α : Type} {S : α → Pp} {H : Hp} : ∀ {zs : List (α × V)}, (∀ z ∈ zs, S z.1 z.2 H) → Each S (zs.map Prod.fst) (zs.map Prod.snd) H
  | [], _ => .nil
  | z :: zs, h => .cons (h z List.mem_cons_self) (each_zip fun y hy => h y (List.mem_cons_of_mem _ hy))
section
variable {K : PySem.W.Frag} {σ : L2.St} {H : Hp} {ta tb te : TE}
theorem ep_sortD {α : Type} {S : α → Pp} {dat : α → PyData} {l : List α} (hS : ∀ a, MonT (S a)) (hd : ∀ a v H, S a v H → Dp K H v (dat a)) (hal : ∀ a b, PySem.W.alike (dat a) (dat b) = true) (ht : ∀ a, ∃ x r, dat a = .tuple (x :: r)) (hdep : ∀ a, (dat a).depth ≤ 20) (h : EvP te σ H (Lst S l)) :
    EvP (tCB (rSortD K (β := α × V) Prod.snd fun z => dat z.1) (tCons te tNil)) σ H (fun v H1 => ∃ m : List α, m.Perm l ∧ m.Pairwise (fun a b => PySem.W.dataLe false dat a b = true) ∧ Lst S m v H1) :=
  ep_cb1 h fun v H1 e ⟨p, ys, ev, hp, hy⟩ Q q => by
    subst ev
    have hl := each_len hy
    have e1 : (l.zip ys).map Prod.snd = ys := List.map_snd_zip (by omega)
    have e2 : (l.zip ys).map Prod.fst = l := List.map_fst_zip (by omega)
    have hz := zip_each hy
    refine ⟨p, l.zip ys, rfl, SqL.of (by rw [e1]; exact hp), ⟨fun z hz' => hd _ _ _ (hz z hz'), fun d hd1 d' hd2 => ?_, .inl fun d hd1 => ?_, fun z _ => hdep _⟩, fun cs c hc hw hn => ?_⟩
    · obtain ⟨z, _, rfl⟩ := List.mem_map.mp hd1
      obtain ⟨z', _, rfl⟩ := List.mem_map.mp hd2
      exact hal _ _
    · obtain ⟨z, _, rfl⟩ := List.mem_map.mp hd1
      exact ht _
    · refine q _ _ (Ex.new hn) ⟨cs.map Prod.fst, ?_, ?_, c, cs.map Prod.snd, rfl, upd_same, each_zip fun z hz' => ?_⟩
      · have := hc.map Prod.fst
        rw [e2] at this
        exact this
      · rw [List.pairwise_map]
        exact hw
      · exact hS _ _ _ _ (exT (Ex.new hn)) (hz z (hc.mem_iff.mp hz'))
/-- two tuples joined, the first not empty -/
theorem ep_cat {α : Type} {S : α → Pp} {l m : List α} (hS : ∀ a, MonT (S a)) (ha : EvP ta σ H (Tpl S l)) (hb : ∀ H1, Ex H H1 → EvP tb σ H1 (Tpl S m)) (hl : l ≠ []) (hz : l.length + m.length ≤ 1000) : EvP (tOp (rCatT K) ta tb) σ H (Tpl S (l ++ m)) :=
  ep_op ha (fun _ H1 e _ => hb H1 e) (tpl_monT hS).mon fun x y H1 e ⟨p, ys, ex, hp, hy⟩ ⟨r, zs, ey, hr, hw⟩ Q q => by
    subst ex ey
    have e1 := each_len hy
    have e2 := each_len hw
    refine ⟨p, r, ys, zs, rfl, rfl, SqT.of hp, SqT.of hr, fun h => hl ?_, sz_of (by omega), fun h => ?_, fun h c hc => ?_⟩
    · rw [h] at e1
      exact List.eq_nil_of_length_eq_zero e1
    · subst h
      have em : m = [] := List.eq_nil_of_length_eq_zero e2
      subst em
      exact q _ H1 (Ex.refl H1) ⟨p, ys, rfl, hp, by rw [List.append_nil]; exact hy⟩
    · refine q _ _ (Ex.new hc) ⟨c, ys ++ zs, rfl, upd_same, ?_⟩
      exact each_append (hy.mono hS (exT (Ex.new hc))) (hw.mono hS (exT (Ex.new hc)))
end
end K53

namespace K53
open PySem PySem.Spec PyProof.Rows L2 Evl
abbrev sOrderOf : Stmt := tops 17
abbrev nOrderOf : List Str := ["tournament", "many", "player", "signs", "places", "others", "ahead", "order", "other", "before"]
def datP (n : Nat) (b : Nat → Nat → Bool) (p : Nat) : PyData := .tuple [.int (bf n b p : Int), .int (p : Int)]
def PlT (n : Nat) (b : Nat → Nat → Bool) (p : Nat) : Pp := fun v H => ∃ c, v = .ref c ∧ H c = some (.tup [.int (bf n b p : Int), .int (p : Int)])
theorem plT_monT {n : Nat} {b : Nat → Nat → Bool} (p : Nat) : MonT (PlT n b p) := fun v H H' x ⟨c, e, h⟩ => ⟨c, e, x _ _ h⟩
/-- None, if there is an obstruction; otherwise a told order -/
def OrderV (n : Nat) (b : Nat → Nat → Bool) : Pp := fun v H => (Obs n b ∧ v = .non) ∨ (¬ Obs n b ∧ ∃ L : List Nat, L.Perm (List.range' 1 (n - 1)) ∧ Tpl SgT (toldO b L) v H)
def spOrderOf : Sp := fun vs H Q _ => ∃ (x : V) (n : Nat) (b : Nat → Nat → Bool), vs = [x] ∧ Tour n b x H ∧ Trn n b ∧ 1 ≤ n ∧ n ≤ 8 ∧ ∀ v H2, Ex H H2 → OrderV n b v H2 → Q v H2
section
variable {K : PySem.W.Frag} {σ : L2.St} {H : Hp} {ws : List Nat}
theorem dec_nat {i j : Nat} : decide (V.int (i : Int) = V.int (j : Int)) = decide (i = j) := by
  rw [dec_int, Bool.eq_iff_iff, beq_iff_eq, decide_eq_true_iff]
  omega
theorem dec_nat0 {i : Nat} : decide (V.int (i : Int) = V.int 0) = decide (i = 0) := by
  rw [dec_int, Bool.eq_iff_iff, beq_iff_eq, decide_eq_true_iff]
  omega
theorem tgt_pair {i j : Nat} {c : Addr} {x y : V} (h : H c = some (.tup [x, y])) (hw : wipe (((wipe σ ws).set i (some x)).set j (some y)) ws = wipe σ ws) :
    Tgt (gTup K 2 (gCons (gName i) (gCons (gName j) gNil))) σ ws (.ref c) H (((wipe σ ws).set i (some x)).set j (some y)) :=
  ⟨fun H1 e k q => ⟨c, [x, y], rfl, SqT.of (e _ _ h), rfl, x, [y], rfl, y, [], rfl, rfl, q⟩, hw⟩
end
section
variable {P : Program} {w : World} {K : PySem.W.Frag} {mg : Str → Option Value} {base : Heap}
theorem scOrderOf : FnScope nOrderOf ["tournament"] (defScope sOrderOf) := ⟨rfl, rfl, rfl, by decide +kernel, rfl, by decide +kernel, by decide +kernel⟩
theorem ok_orderOf {f fB fT : Addr} {fd fdB fdT : FuncData} (F : Fun K "order_of" "order_of" sOrderOf f fd) (B : Bt mg)
    (GB : FnOk P w K mg base CX0 1 fB fdB ["tournament", "one", "other"] spBeats) (kB : PySem.W.keepIn K (.ref fB) = true) (bB : Binds K fdB ["tournament", "one", "other"] []) (gB : mg "beats" = some (.ref fB))
    (GT : FnOk P w K mg base CX0 1 fT fdT ["order"] spTby) (kT : PySem.W.keepIn K (.ref fT) = true) (bT : Binds K fdT ["order"] []) (gT : mg "tournament_by" = some (.ref fT)) :
    FnOk P w K mg base CX0 2 f fd ["tournament"] spOrderOf := by
  refine F.ok scOrderOf (fun vs H Q E h => ?_) (fun cdv A outer s H vs Q E hr h => ?_)
  · obtain ⟨x, n, b, rfl, _⟩ := h
    rfl
  · obtain ⟨x, n, b, rfl, hx, ht, h1, h8, q⟩ := h
    refine ⟨_, pss_cons (ps_set (i := 1) scOrderOf.nd rfl (.inl rfl) (pe_callB (r := rLenS K) call_len_seq (by rfl) B.len PySem.boot_len (pa_cons (pv 0) pa_nil)))
      (pss_cons (ps_set (i := 3) scOrderOf.nd rfl (.inr rfl) (pe_lc (own := [("player", 2)]) (g := gName 2) (tt := tYes) rfl scOrderOf.nd (pi_range1 (by rfl) B.rng (pa_cons (pv 1) pa_nil)) (blkOk_by (N := nOrderOf) (sc := defScope sOrderOf) (by decide +kernel)) (fun _ _ _ _ _ => pg_name (i := 2) scOrderOf.nd rfl (Or.inl rfl)) (fun _ _ _ _ _ => pts_nil)
          (fun _ _ _ _ _ => pe_or (pe_cmpR op_eq (pv 2) pe_int (nomark _)) (pe_one (pe_call GB hr (by rfl) gB kB bB .nil pass0 (pa_cons (pv 0) (pa_cons pe_int (pa_cons (pv 2) pa_nil))))))))
      (pss_cons (ps_set (i := 4) scOrderOf.nd rfl (.inl rfl) (pe_lst pa_nil))
      (pss_cons (ps_for PassesOwn.never rfl (pi_range2 (by rfl) B.rng (pa_cons pe_int (pa_cons (pv 1) pa_nil))) (pg_name (i := 2) scOrderOf.nd rfl (Or.inr rfl))
        (pss_cons (ps_setLc (i := 5) (own := [("other", 8)]) (g := gName 8) rfl scOrderOf.nd rfl rfl (sw_true rfl rfl rfl (by decide +kernel)) (pi_range2 (by rfl) B.rng (pa_cons pe_int (pa_cons (pv 1) pa_nil))) (blkOk_by (N := nOrderOf) (sc := defScope sOrderOf) (by decide +kernel)) (fun _ _ _ _ _ => pg_name (i := 8) scOrderOf.nd rfl (Or.inl rfl))
            (fun _ _ _ _ _ => pts_one (pt_cmpR op_ne (pv 8) (pv 2) (nomark _))) (fun _ _ _ _ _ => pv 8))
        (pss_cons (ps_setLc (i := 6) (own := [("other", 8)]) (g := gName 8) rfl scOrderOf.nd rfl rfl (sw_true rfl rfl rfl (by decide +kernel)) (pi_list (pv 5)) (blkOk_by (N := nOrderOf) (sc := defScope sOrderOf) (by decide +kernel)) (fun _ _ _ _ _ => pg_name (i := 8) scOrderOf.nd rfl (Or.inl rfl))
            (fun _ _ _ _ _ => pts_one (pt_cmpR op_eq (pe_call GB hr (by rfl) gB kB bB .nil pass0 (pa_cons (pv 0) (pa_cons (pv 2) (pa_cons (pv 8) pa_nil)))) (pe_cmpR op_eq (pe_ix (r := rIxL K) ix_list (pv 3) (pv 2) (fun _ _ => rfl)) (pe_ix (r := rIxL K) ix_list (pv 3) (pv 8) (fun _ _ => rfl)) (nomark _)) (nomark _))) (fun _ _ _ _ _ => pv 8))
        (pss_one (ps_expr (pe_bm PySem.F.plainAttrs_list PySem.F.slot_list_append PySem.F.type_list_append mt_append (pv 4) (pa_cons (pe_tup (pa_cons (pe_op op_sub (pe_callB (r := rLenS K) call_len_seq (by rfl) B.len PySem.boot_len (pa_cons (pv 5) pa_nil)) (pe_callB (r := rLenS K) call_len_seq (by rfl) B.len PySem.boot_len (pa_cons (pv 6) pa_nil))) (pa_cons (pv 2) pa_nil))) pa_nil)))))))
      (pss_cons (ps_set (i := 7) scOrderOf.nd rfl (.inl rfl) (pe_op (r := rCatT K) op_catT (pe_tup (pa_cons (pe_tup (pa_cons pe_int (pa_cons pe_bl pa_nil))) pa_nil))
          (pe_callTy (r := rTupOf K) call_tuple_of (by rfl) B.tup boot_tuple (pa_cons (pe_lc (own := [("before", 9), ("player", 2)]) (g := gTup K 2 (gCons (gName 9) (gCons (gName 2) gNil))) (tt := tYes) rfl scOrderOf.nd
            (pi_list (pe_callB (r := rSortD K Prod.snd (fun z : Nat × V => datP n b z.1)) (cr_sortD hr.units) (by rfl) B.srt boot_sorted (pa_cons (pv 4) pa_nil))) (blkOk_by (N := nOrderOf) (sc := defScope sOrderOf) (by decide +kernel))
            (fun _ _ _ _ _ => pg_tup rfl (pgs_cons (pg_name (i := 9) scOrderOf.nd rfl (Or.inl rfl)) (pgs_cons (pg_name (i := 2) scOrderOf.nd rfl (Or.inl rfl)) pgs_nil))) (fun _ _ _ _ _ => pts_nil)
            (fun _ _ _ _ _ => pe_tup (pa_cons (pv 2) (pa_cons (pe_ix (r := rIxL K) ix_list (pv 3) (pv 2) (fun _ _ => rfl)) pa_nil)))) pa_nil))))
      (pss_one (ps_ret (pe_ifExp (pt_cmpR (r := rEqD K) (op_eqD hr.units) (pe_call GT (hr.mono (by decide)) (by rfl) gT kT bT .nil pass0 (pa_cons (pv 7) pa_nil)) (pv 0) (nomark _)) (pv 7) pe_non))))))), ?_⟩
    have hn : (tab n b).length = n := tab_len
    refine q_asg (ev_is (ev_lenT (tour_ev hx (Ex.refl H) rfl)) (by rw [hn])) fun H1 e1 => ?_
    -- signs
    have hS := ep_lcR1 (σ := [some x, some (.int (n : Int)), none, none, none, none, none, none, none, none]) (H := H1) (tr := tCons (tVar 1) tNil) (g := gName 2) (ws := [2]) (t := tYes)
      (te := tOrV (tOp rEq (tVar 2) (tC (.int 0))) (tCall spBeats [] E0 (tCons (tVar 0) (tCons (tC (.int 0)) (tCons (tVar 2) tNil))))) (P := fun p => Is (.bl (sn b p))) (f := fun _ => true) (n := n) (j := (n : Int)) (fun _ => is_monT) (ea_cons (ev_var rfl) ea_nil) (by omega) (by omega)
      fun p H2 e2 hp => ⟨_, tgt_name rfl, ev_yes, fun _ => ep_ev (ev_is (ev_orV (a := decide (p = 0)) (b := b 0 p) (ev_is (ev_op (ev_var rfl) ev_c (rv_eq rfl)) (congrArg V.bl dec_nat0)) (fun _ => ev_call (ea_cons (ev_var rfl) (ea_cons ev_c (ea_cons (ev_var rfl) ea_nil))) fun H3 e3 Q q E => ⟨x, n, b, 0, p, rfl, tour_monT _ _ _ (exT ((e1.trans e2).trans e3)) hx, by omega, hp, q⟩)) rfl)⟩
    rw [filter_yes] at hS
    refine qp_asg hS fun sv H2 e2 hsv => ?_
    -- places = []
    refine q_asgL (el_lst ea_nil (Nat.zero_le _)) fun pl H3 hpl e3 h3 => ?_
    have hTour : ∀ {H'' : Hp} {σ : L2.St}, Ex H2 H'' → σ[0]? = some (some x) → EvP (tVar 0) σ H'' (Tour n b) := fun e h0 => tour_ev hx ((e1.trans e2).trans e) h0
    have mS : ∀ p : Nat, MonT (Is (.bl (sn b p))) := fun _ => is_monT
    have hSg : ∀ {H'' : Hp} {σ : L2.St} {p : Nat} {tb : TE}, Ex H2 H'' → σ[3]? = some (some sv) → p < n → Ev tb σ H'' (.int (p : Int)) → Ev (tOp (rIxL K) (tVar 3) tb) σ H'' (.bl (sn b p)) := fun e h0 hp hb =>
      ev_ep (ep_itL (S := fun p => Is (.bl (sn b p))) mS (ep_var (lst_mon mS) h0 (lst_mon mS _ _ _ e hsv)) hb (List.getElem?_range hp))
    refine q_forR2 (lo := 1) (n := (n : Int)) (ea_cons ev_c (ea_cons (ev_var rfl) ea_nil)) (by omega) (fun i σ' H' => Ex H2 H' ∧ ∃ (ps : List V) (y2 y5 y6 : Option V), σ' = [some x, some (.int (n : Int)), y2, some sv, some (.ref pl), y5, y6, none, none, none] ∧ H' pl = some (.lst ps) ∧ Each (PlT n b) ((List.range' 1 (n - 1)).take i) ps H')
      (fun H4 e4 => ⟨e3.trans e4, [], none, none, none, rfl, e4 _ _ h3, .nil⟩) (fun i σ' H' hi hp => ?_) (fun σ' H' hp => ?_)
    · obtain ⟨e4, ps, y2, y5, y6, rfl, h4, hps⟩ := hp
      have hp1 : 1 ≤ 1 + i ∧ 1 + i < n := by omega
      have ec : (1 : Int) + (i : Int) = ((1 + i : Nat) : Int) := by omega
      rw [ec]
      generalize hpe : 1 + i = p at hp1
      -- others
      have hO := ep_lcR2 (σ := [some x, some (.int (n : Int)), some (.int (p : Int)), some sv, some (.ref pl), y5, y6, none, none, none]) (H := H') (tr := tCons (tC (.int 1)) (tCons (tVar 1) tNil)) (g := gName 8) (ws := [8]) (t := tTest (tOp rNe (tVar 8) (tVar 2))) (te := tVar 8)
        (P := fun o => Is (.int (o : Int))) (f := fun o => !decide (o = p)) (lo := 1) (n := n) isN_monT (ea_cons ev_c (ea_cons (ev_var rfl) ea_nil)) (by omega) (by omega)
        fun o H5 e5 ho1 ho2 => ⟨_, tgt_name rfl, et_is (et_test (ev_op (ev_var rfl) (ev_var rfl) (rv_ne rfl))) (congrArg not dec_nat), fun _ => ep_ev (ev_var rfl)⟩
      refine qp_asg hO fun ov H5 e5 hov => ?_
      have hov : Lst (fun o : Nat => Is (.int (o : Int))) (oth n p) ov H5 := hov
      have hothl : (oth n p).length ≤ 8 := by
        have := List.length_filter_le (fun q => !decide (q = p)) (List.range' 1 (n - 1))
        rw [List.length_range'] at this
        exact Nat.le_trans this (by omega)
      -- ahead
      have hA := ep_lcL (K := K) (σ := [some x, some (.int (n : Int)), some (.int (p : Int)), some sv, some (.ref pl), some ov, y6, none, none, none]) (H := H5) (tl := tVar 5) (g := gName 8) (ws := [8])
        (t := tTest (tOp rEq (tCall spBeats [] E0 (tCons (tVar 0) (tCons (tVar 2) (tCons (tVar 8) tNil)))) (tOp rEq (tOp (rIxL K) (tVar 3) (tVar 2)) (tOp (rIxL K) (tVar 3) (tVar 8))))) (te := tVar 8)
        (S := fun o : Nat => Is (.int (o : Int))) (P := fun o : Nat => Is (.int (o : Int))) (f := fun o => al b p o) (xs := oth n p) isN_monT (ep_var (lst_mon isN_monT) rfl hov) (by omega)
        fun o v H6 e6 ho hs => by
          have hs : v = .int (o : Int) := hs
          subst hs
          have ho := (mem_oth.mp ho).1
          have e7 := (e4.trans e5).trans e6
          refine ⟨_, tgt_name rfl, et_is (et_test (ev_op (ev_call (z := .bl (b p o)) (ea_cons (ev_var rfl) (ea_cons (ev_var rfl) (ea_cons (ev_var rfl) ea_nil))) fun H8 e8 Q q E => ⟨x, n, b, p, o, rfl, tour_monT _ _ _ (exT (((e1.trans e2).trans e7).trans e8)) hx, hp1.2, ho.2, q⟩)
            (ev_op (hSg e7 rfl hp1.2 (ev_var rfl)) (hSg e7 rfl ho.2 (ev_var rfl)) (rv_eq rfl)) (rv_eq rfl))) ?_, fun _ => ep_ev (ev_var rfl)⟩
          rw [dec_bl, dec_bl]
          rfl
      refine qp_asg hA fun av H6 e6 hav => ?_
      have hov6 := lst_mon isN_monT _ _ _ e6 hov
      -- places.append(..)
      refine s_appU (xs := ps) (ys := [.int (bf n b p : Int), .int (p : Int)]) (e6 _ _ (e5 _ _ h4)) (ev_var rfl) (eu_tup (ea_cons (ev_is (ev_op (ev_lenL (ep_var (lst_mon isN_monT) rfl hov6)) (ev_lenL (ep_var (lst_mon isN_monT) rfl hav)) rv_I0) ?_) (ea_cons (ev_var rfl) ea_nil)) (by show 2 ≤ 100000; decide)) ?_ fun c H7 hc e7 h7 => ?_
      · refine congrArg V.int ?_
        unfold bf
        have := List.length_filter_le (al b p) (oth n p)
        show ((oth n p).length : Int) - ((List.filter (al b p) (oth n p)).length : Int) = _
        omega
      · rw [← each_len hps, List.length_take]
        have : (List.range' 1 (n - 1)).length = n - 1 := List.length_range'
        omega
      · have e47 := (e5.trans e6).trans e7
        have h7p := e47 _ _ h4
        refine ⟨Ex.mut (e4.trans e47) hpl, ps ++ [.ref c], _, _, _, rfl, upd_same, ?_⟩
        have xt : ExT H' (upd H7 pl (.lst (ps ++ [.ref c]))) := (exT e47).trans (ExT.lst h7p)
        have et : (List.range' 1 (n - 1)).take (i + 1) = (List.range' 1 (n - 1)).take i ++ [p] := by
          rw [List.take_add_one, List.getElem?_range' (by omega)]
          simp [hpe]
        rw [et]
        refine Paired.snoc (hps.mono plT_monT xt) ⟨c, rfl, ?_⟩
        exact ExT.lst h7p _ _ h7
    · obtain ⟨e4, ps, y2, y5, y6, rfl, h4, hps⟩ := hp
      have etk : (List.range' 1 (n - 1)).take ((n : Int) - 1).toNat = List.range' 1 (n - 1) := List.take_of_length_le (by rw [List.length_range']; omega)
      rw [etk] at hps
      have hP4 : Lst (PlT n b) (List.range' 1 (n - 1)) (.ref pl) H' := ⟨pl, ps, rfl, h4, hps⟩
      have hsort := ep_sortD (K := K) (σ := [some x, some (.int (n : Int)), y2, some sv, some (.ref pl), y5, y6, none, none, none]) (H := H') (te := tVar 4) (S := PlT n b) (dat := datP n b) plT_monT
        (fun p v H ⟨c, e, h⟩ => by
          subst e
          exact .tup (SqT.of h) (.cons (.int _) (.cons (.int _) .nil)))
        (fun p p' => by simp [datP, PySem.W.alike, PySem.W.alikeAll]) (fun p => ⟨_, _, rfl⟩) (fun p => by simp [datP, PyData.depth, PyData.depthAll]) (ep_var (lst_mon plT_monT) rfl hP4)
      -- order = ((0, True),) + tuple(..)
      refine qp_asg (P := fun v H => ∃ L : List Nat, L.Perm (List.range' 1 (n - 1)) ∧ L.Pairwise (fun x y => bf n b x ≤ bf n b y) ∧ Tpl SgT (toldO b L) v H) (fun H5 e5 Q' q' => ?_) fun ov H5 e5 hov => ?_
      · -- sorted(places) is not known ahead: what follows is read behind it
        have hleft : EvP (tTup (tCons (tTup (tCons (tC (.int 0)) (tCons (tC (.bl true)) tNil))) tNil)) [some x, some (.int (n : Int)), y2, some sv, some (.ref pl), y5, y6, none, none, none] H5 (Tpl SgT [(0, true)]) := fun H6 e6 Q2 q2 => by
          refine ⟨by show 2 ≤ sizeLine; decide, fun c hc => ⟨by show 1 ≤ sizeLine; decide, fun d hd => ?_⟩⟩
          refine q2 _ _ ((Ex.new hc).trans (Ex.new hd)) ⟨d, [.ref c], rfl, upd_same, .cons ⟨c, rfl, ?_⟩ .nil⟩
          exact Ex.new hd _ _ upd_same
        refine hleft H5 (Ex.refl H5) _ fun lv H6 e6 hlv => ?_
        refine hsort H6 (e5.trans e6) _ fun pv' H7 e7 ⟨L, hL, hw, hLst⟩ => ?_
        have e27 := e4.trans ((e5.trans e6).trans e7)
        obtain ⟨c7, ys7, rfl, hc7, hy7⟩ := hLst
        have hltL : ∀ p ∈ L, 1 ≤ p ∧ p < n := fun p hp => by
          have := hL.mem_iff.mp hp
          rw [List.mem_range'_1] at this
          omega
        have hlen : L.length ≤ 8 := by
          rw [hL.length_eq, List.length_range']
          omega
        have hC := ep_lcL (K := K) (σ := [some x, some (.int (n : Int)), y2, some sv, some (.ref pl), y5, y6, none, none, none]) (H := H7) (tl := fun _ H Q => Q (.ref c7) H) (g := gTup K 2 (gCons (gName 9) (gCons (gName 2) gNil))) (ws := [9, 2]) (t := tYes) (te := tTup (tCons (tVar 2) (tCons (tOp (rIxL K) (tVar 3) (tVar 2)) tNil)))
          (S := PlT n b) (P := fun p => SgT (p, sn b p)) (f := fun _ => true) (xs := L) (fun p => sgT_monT _) (fun H8 e8 Q q => q _ H8 (Ex.refl H8) ⟨c7, ys7, rfl, e8 _ _ hc7, hy7.mono plT_monT (exT e8)⟩) (by omega)
          fun p v H8 e8 hp hs => by
            obtain ⟨c, rfl, hc⟩ := hs
            refine ⟨_, tgt_pair hc rfl, ev_yes, fun _ => ?_⟩
            refine (ep_tup (R := fun vs H => vs = [.int (p : Int), .bl (sn b p)]) (fun vs H H' _ h => h) (fun vs H h => by rw [h]; show 2 ≤ 1000; decide) (fun H9 e9 Q q => ?_)).imp fun v H9 _ hv => ?_
            · refine ea_cons (ev_var rfl) (ea_cons (hSg (e27.trans e8) rfl (hltL p hp).2 (ev_var rfl)) ea_nil) H9 e9 _ fun H10 e10 => q _ H10 e10 rfl
            · obtain ⟨c9, vs9, e9, h9, rfl⟩ := hv
              exact ⟨c9, e9, h9⟩
        rw [filter_yes] at hC
        have hT := ep_tuple (K := K) (fun p => sgT_monT (p, sn b p)) hC
        refine hT H7 (Ex.refl H7) _ fun tv H8 e8 htv => ?_
        have htv : Tpl SgT (L.map fun p => (p, sn b p)) tv H8 := by
          obtain ⟨c8, ys8, e8', h8', hy8⟩ := htv
          exact ⟨c8, ys8, e8', h8', each_map hy8⟩
        -- the join
        have hlv8 := tpl_monT sgT_monT _ _ _ (exT (e7.trans e8)) hlv
        refine ep_cat (K := K) (σ := []) (H := H8) (ta := fun _ H Q => Q lv H) (tb := fun _ H Q => Q tv H) (l := [(0, true)]) (m := L.map fun p => (p, sn b p)) sgT_monT (fun H9 e9 Q q => q _ H9 (Ex.refl H9) (tpl_monT sgT_monT _ _ _ (exT e9) hlv8)) (fun H9 e9 H10 e10 Q q => q _ H10 (Ex.refl H10) (tpl_monT sgT_monT _ _ _ (exT (e9.trans e10)) htv)) (by simp) (by rw [List.length_map]; show 1 + L.length ≤ 1000; omega) H8 (Ex.refl H8) _ fun ov H9 e9 hov => ?_
        refine q' _ H9 (((e6.trans e7).trans e8).trans e9) ⟨L, hL, ?_, hov⟩
        refine List.Pairwise.imp (fun {u v} h => ?_) hw
        have := le_fst (dat := datP n b) rfl rfl h
        omega
      · obtain ⟨L, hL, hw, hov⟩ := hov
        obtain ⟨hl, nd, hm⟩ := told_ok (b := b) h1 hL
        have O : Ord n (toldO b L) := ⟨hl, nd, hm⟩
        have e25 := (e1.trans e2).trans (e4.trans e5)
        -- tournament_by(order) == tournament
        have hcmp : EvT (tTest (tOp (rEqD K) (tCall spTby [] E0 (tCons (tVar 7) tNil)) (tVar 0))) [some x, some (.int (n : Int)), y2, some sv, some (.ref pl), y5, y6, some ov, none, none] H5 (decide (tab n (bo (toldO b L)) = tab n b)) := by
          refine et_test (ev_opP (P1 := Tour n (bo (toldO b L))) (P2 := Tour n b) (ep_call1 (P := Tpl SgT (toldO b L)) (ep_var (tpl_monT sgT_monT).mon rfl hov) fun v H6 e6 hv Q q => ⟨v, toldO b L, n, rfl, hv, h1, h8, O, fun v H7 e7 hv7 => q v H7 e7 hv7⟩)
            (fun _ H6 e6 _ => tour_ev hx (e25.trans e6) rfl) tour_monT.mon fun x1 y1 H6 e6 h1 h2 Q q => ⟨dTab (tab n (bo (toldO b L))), dTab (tab n b), dp_tab h1, dp_tab h2, shaped_tab _, shaped_tab _, ?_⟩)
          rw [eqv_dTab]
          exact q H6 (Ex.refl H6)
        refine hcmp H5 (Ex.refl H5) _ fun H6 e6 => ?_
        by_cases ob : Obs n b
        · have en : decide (tab n (bo (toldO b L)) = tab n b) = false := decide_eq_false fun e => O.clear (ob.congr fun i j hi hj => (tab_inj e i j hi hj).symm)
          rw [en]
          exact q _ H6 (e25.trans e6) (.inl ⟨ob, rfl⟩)
        · have en : decide (tab n (bo (toldO b L)) = tab n b) = true := decide_eq_true (tab_congr (told_bo ht ob h1 hL hw))
          rw [en]
          exact ⟨ov, rfl, q _ H6 (e25.trans e6) (.inr ⟨ob, L, hL, tpl_monT sgT_monT _ _ _ (exT e6) hov⟩)⟩
end
end K53

namespace K53
open PySem PySem.Spec PyProof.Rows L2 Evl
abbrev sIdx : Stmt := tops 21
abbrev sRev : Stmt := tops 23
abbrev sRen : Stmt := tops 24
/-- the scope of the outer comprehension of reversed_results -/
abbrev outRev : Scope := relS { kind := .function, names := [(".0", .local), ("one", .cell), ("tuple", .globalImplicit), ("many", .free), ("tournament", .free)], isGenerator := false, isCoroutine := false } (defScope sRev)
/-- an index, if there is no obstruction -/
def IdxV (n : Nat) (b : Nat → Nat → Bool) (v : V) : Prop := (Obs n b ∧ v = .non) ∨ (¬ Obs n b ∧ ∃ z : Int, v = .int z)
def spIdx : Sp := fun vs H Q _ => ∃ (x : V) (n : Nat) (b : Nat → Nat → Bool), vs = [x] ∧ Tour n b x H ∧ Trn n b ∧ 1 ≤ n ∧ n ≤ 8 ∧ ∀ v H2, Ex H H2 → IdxV n b v → Q v H2
def spRev : Sp := fun vs H Q _ => ∃ (x : V) (n : Nat) (b : Nat → Nat → Bool), vs = [x] ∧ Tour n b x H ∧ Trn n b ∧ 1 ≤ n ∧ n ≤ 8 ∧ ∀ v H2, Ex H H2 → Tour n (fun i j => b j i) v H2 → Q v H2
def spRen : Sp := fun vs H Q _ => ∃ (x y : V) (n : Nat) (b : Nat → Nat → Bool) (p : List Nat), vs = [x, y] ∧ Tour n b x H ∧ IntsT p y H ∧ Trn n b ∧ 1 ≤ n ∧ n ≤ 8 ∧ p.Perm (List.range n) ∧ ∀ v H2, Ex H H2 → Tour n (ren p b) v H2 → Q v H2
theorem rgV_zero {n : Nat} : rgV 0 (n : Int) = nums (List.range n) := by
  unfold rgV
  rw [show ((n : Int) - 0).toNat = n by omega]
  refine List.map_congr_left fun i _ => ?_
  exact congrArg V.int (Int.zero_add _)
section
variable {P : Program} {w : World} {K : PySem.W.Frag} {mg : Str → Option Value} {base : Heap}
theorem scIdx : FnScope ["tournament", "order"] ["tournament"] (defScope sIdx) := ⟨rfl, rfl, rfl, by decide +kernel, rfl, by decide +kernel, by decide +kernel⟩
theorem ok_idx {f fC fO fI : Addr} {fd fdC fdO fdI : FuncData} (F : Fun K "index_of_circular" "index_of_circular" sIdx f fd)
    (GC : FnOk P w K mg base CX0 4 fC fdC ["value"] spChk) (kC : PySem.W.keepIn K (.ref fC) = true) (bC : Binds K fdC ["value"] []) (gC : mg "check_tournament_signed" = some (.ref fC))
    (GO : FnOk P w K mg base CX0 2 fO fdO ["tournament"] spOrderOf) (kO : PySem.W.keepIn K (.ref fO) = true) (bO : Binds K fdO ["tournament"] []) (gO : mg "order_of" = some (.ref fO))
    (GI : FnOk P w K mg base CX0 2 fI fdI ["order"] spIndexOf) (kI : PySem.W.keepIn K (.ref fI) = true) (bI : Binds K fdI ["order"] []) (gI : mg "index_of" = some (.ref fI)) :
    FnOk P w K mg base CX0 5 f fd ["tournament"] spIdx := by
  refine F.ok scIdx (fun vs H Q E h => ?_) (fun cdv A outer s H vs Q E hr h => ?_)
  · obtain ⟨x, n, b, rfl, _⟩ := h
    rfl
  · obtain ⟨x, n, b, rfl, hx, ht, h1, h8, q⟩ := h
    refine ⟨_, pss_cons (ps_expr (pe_call GC hr (by rfl) gC kC bC .nil pass0 (pa_cons (pv 0) pa_nil)))
      (pss_cons (ps_set (i := 1) scIdx.nd rfl (.inl rfl) (pe_call GO (hr.mono (by decide)) (by rfl) gO kO bO .nil pass0 (pa_cons (pv 0) pa_nil)))
      (pss_one (ps_ret (pe_ifExp (pt_cmpR op_isN (pv 1) pe_non (nomark _)) pe_non (pe_call GI (hr.mono (by decide)) (by rfl) gI kI bI .nil pass0 (pa_cons (pv 1) pa_nil)))))), ?_⟩
    refine q_drop (v := .non) (ev_call (vs := [x]) (ea_cons (ev_var rfl) ea_nil) fun H1 e1 Q q E => ⟨x, n, b, rfl, tour_monT _ _ _ (exT e1) hx, ht, h1, h8, q⟩) fun H1 e1 => ?_
    refine qp_asg (ep_call (P := OrderV n b) (vs := [x]) (ea_cons (ev_var rfl) ea_nil) fun H2 e2 Q q => ⟨x, n, b, rfl, tour_monT _ _ _ (exT (e1.trans e2)) hx, ht, h1, h8, q⟩) fun ov H2 e2 hov => ?_
    have e12 := e1.trans e2
    refine ⟨ov, rfl, rfl, decide (ov = .non), rfl, ?_⟩
    rcases hov with ⟨ob, rfl⟩ | ⟨ob, L, hL, hov⟩
    · rw [decide_eq_true rfl]
      exact q _ H2 e12 (.inl ⟨ob, rfl⟩)
    · have ne : ¬ ov = .non := by
        obtain ⟨p, ys, rfl, _⟩ := hov
        exact fun z => nomatch z
      rw [decide_eq_false ne]
      have epls : pls (L.map fun p => (p, sn b p)) = L := by
        unfold pls
        rw [List.map_map]
        exact List.map_id'' (fun _ => rfl) L
      exact ⟨ov, rfl, ov, L.map fun p => (p, sn b p), n, rfl, hov, h1, h8, by rw [epls]; exact hL, fun z H3 e3 => q _ H3 (e12.trans e3) (.inr ⟨ob, z, rfl⟩)⟩
theorem scRev : FnScope ["tournament", "many", "one", "other"] ["tournament"] (defScope sRev) := ⟨rfl, rfl, rfl, by decide +kernel, rfl, by decide +kernel, by decide +kernel⟩
theorem ok_rev {f fC fB : Addr} {fd fdC fdB : FuncData} (F : Fun K "reversed_results" "reversed_results" sRev f fd) (B : Bt mg)
    (GC : FnOk P w K mg base CX0 4 fC fdC ["tournament"] spChk) (kC : PySem.W.keepIn K (.ref fC) = true) (bC : Binds K fdC ["tournament"] []) (gC : mg "check_tournament_tournaments" = some (.ref fC))
    (GB : FnOk P w K mg base CX0 1 fB fdB ["tournament", "one", "other"] spBeats) (kB : PySem.W.keepIn K (.ref fB) = true) (bB : Binds K fdB ["tournament", "one", "other"] []) (gB : mg "beats" = some (.ref fB)) :
    FnOk P w K mg base CX0 5 f fd ["tournament"] spRev := by
  refine F.ok scRev (fun vs H Q E h => ?_) (fun cdv A outer s H vs Q E hr h => ?_)
  · obtain ⟨x, n, b, rfl, _⟩ := h
    rfl
  · obtain ⟨x, n, b, rfl, hx, ht, h1, h8, q⟩ := h
    refine ⟨_, pss_cons (ps_expr (pe_call GC hr (by rfl) gC kC bC .nil pass0 (pa_cons (pv 0) pa_nil)))
      (pss_cons (ps_set (i := 1) scRev.nd rfl (.inr rfl) (pe_listRg rfl (by rfl) B.lst (prg_1 (by rfl) B.rng (pe_callB (r := rLenS K) call_len_seq (by rfl) B.len PySem.boot_len (pa_cons (pv 0) pa_nil)))))
      (pss_one (ps_ret (pe_callTy (r := rTupOf K) call_tuple_of (by rfl) B.tup boot_tuple (pa_cons (pe_lc (own := [("one", 2)]) (g := gName 2) (tt := tYes) rfl scRev.nd (pi_list (pv 1)) (blkOk_by (N := ["tournament", "many", "one", "other"]) (sc := defScope sRev) (by decide +kernel))
        (fun _ _ _ _ _ => pg_name (i := 2) scRev.nd rfl (Or.inr rfl)) (fun _ _ _ _ _ => pts_nil)
        (fun _ _ _ _ _ => pe_callTy (r := rTupOf K) call_tuple_of (by rfl) B.tup boot_tuple (pa_cons (pe_lc (wi := iList K (tVar 1)) (own := [("other", 3)]) (g := gName 3) rfl scRev.nd (pi_list (pv 1)) (blkOk_by (N := ["tournament", "many", "one", "other"]) (sc := outRev) (by decide +kernel))
          (fun _ _ _ _ _ => pg_name (i := 3) scRev.nd rfl (Or.inl rfl)) (fun _ _ _ _ _ => pts_one (pt_val (pe_call GB (hr.mono (by decide)) (by rfl) gB kB bB .nil pass0 (pa_cons (pv 0) (pa_cons (pv 3) (pa_cons (pv 2) pa_nil))))))
          (fun _ _ _ _ _ => pv 3)) pa_nil))) pa_nil))))), ?_⟩
    have hn : (tab n b).length = n := tab_len
    refine q_drop (v := .non) (ev_call (vs := [x]) (ea_cons (ev_var rfl) ea_nil) fun H1 e1 Q q E => ⟨x, n, b, rfl, tour_monT _ _ _ (exT e1) hx, ht, h1, h8, q⟩) fun H1 e1 => ?_
    refine ev_lenT (K := K) (tour_ev hx e1 rfl) H1 (Ex.refl H1) _ fun H2 e2 => ⟨(n : Int), by rw [hn], ⟨by omega, by omega, by omega, by omega, by omega⟩, fun l hl => ?_⟩
    rw [rgV_zero]
    have e3 : Ex H (upd H2 l (.lst (nums (List.range n)))) := (e1.trans e2).trans (Ex.new hl)
    have hM : ∀ {H' : Hp} {σ : L2.St}, Ex (upd H2 l (.lst (nums (List.range n)))) H' → σ[1]? = some (some (.ref l)) → EvP (tVar 1) σ H' (Lst (fun k : Nat => Is (.int (k : Int))) (List.range n)) := fun e h0 => ep_var (lst_mon isN_monT) h0 ⟨l, _, rfl, e _ _ upd_same, is_each _⟩
    have hI := ep_lcL (K := K) (σ := [some x, some (.ref l), none, none]) (H := upd H2 l (.lst (nums (List.range n)))) (tl := tVar 1) (g := gName 2) (ws := [2]) (t := tYes) (te := tCB (rTupOf K) (tCons (tLc (iList K (tVar 1)) (gName 3) (tB (tCall spBeats [] E0 (tCons (tVar 0) (tCons (tVar 3) (tCons (tVar 2) tNil))))) (tVar 3) [3]) tNil))
      (S := fun k : Nat => Is (.int (k : Int))) (P := fun i => IntsT (row n (fun i j => b j i) i)) (f := fun _ => true) (fun i => intsT_monT _) (hM (Ex.refl _) rfl) (by rw [List.length_range]; omega) fun i v H4 e4 hi hs => by
        have hs : v = .int (i : Int) := hs
        subst hs
        have hin : i < n := List.mem_range.mp hi
        refine ⟨_, tgt_name rfl, ev_yes, fun _ => ?_⟩
        have hJ := ep_lcL (K := K) (σ := [some x, some (.ref l), some (.int (i : Int)), none]) (H := H4) (tl := tVar 1) (g := gName 3) (ws := [3]) (t := tB (tCall spBeats [] E0 (tCons (tVar 0) (tCons (tVar 3) (tCons (tVar 2) tNil))))) (te := tVar 3)
          (S := fun k : Nat => Is (.int (k : Int))) (P := fun k : Nat => Is (.int (k : Int))) (f := fun o => b o i) (xs := List.range n) isN_monT (hM e4 rfl) (by rw [List.length_range]; omega) fun o v H5 e5 ho hs => by
            have hs : v = .int (o : Int) := hs
            subst hs
            have hon : o < n := List.mem_range.mp ho
            exact ⟨_, tgt_name rfl, et_B (ev_call (ea_cons (ev_var rfl) (ea_cons (ev_var rfl) (ea_cons (ev_var rfl) ea_nil))) fun H6 e6 Q q E => ⟨x, n, b, o, i, rfl, tour_monT _ _ _ (exT ((e3.trans (e4.trans e5)).trans e6)) hx, hon, hin, q⟩), fun _ => ep_ev (ev_var rfl)⟩
        exact (ep_tuple isN_monT hJ).imp fun v H5 _ q => tpl_ints q
    rw [filter_yes] at hI
    refine sp_ret (ep_tuple (fun i => intsT_monT _) hI) fun v H4 e4 hv => q v H4 (e3.trans e4) ?_
    obtain ⟨c, ys, rfl, h1, h2⟩ := hv
    exact ⟨c, ys, rfl, h1, each_map h2⟩
end
end K53

namespace K53
open PySem PySem.Spec PyProof.Rows L2 Evl

abbrev nRen : List Str := ["tournament", "order", "many", "rows", "one", "other", "player", "row"]
abbrev outRen : Scope := relS { kind := .function, names := [(".0", .local), ("one", .local), ("tuple", .globalImplicit), ("sorted", .globalImplicit), ("order", .free), ("tournament", .free)], isGenerator := false, isCoroutine := false } (defScope sRen)
def datR (r : Nat → List Nat) (i : Nat) : PyData := .tuple [.int (i : Int), dRow (r i)]
def RowP (r : Nat → List Nat) (i : Nat) : Pp := fun v H => ∃ c y, v = .ref c ∧ H c = some (.tup [.int (i : Int), y]) ∧ IntsT (r i) y H
theorem rowP_monT {r : Nat → List Nat} (i : Nat) : MonT (RowP r i) := fun v H H' x ⟨c, y, e, h, h2⟩ => ⟨c, y, e, x _ _ h, intsT_monT _ _ _ _ x h2⟩
theorem alike_ints : ∀ r s : List Nat, PySem.W.alikeAll (r.map fun k : Nat => .int (k : Int)) (s.map fun k : Nat => .int (k : Int)) = true
  | [], [] => by simp [PySem.W.alikeAll]
  | [], _ :: _ => by simp [PySem.W.alikeAll]
  | _ :: _, [] => by simp [PySem.W.alikeAll]
  | k :: r, j :: s => by
    rw [List.map_cons, List.map_cons]
    simp only [PySem.W.alikeAll, alike_ints r s, Bool.and_true]
    simp [PySem.W.alike]
theorem shaped_row (r : List Nat) : SeqAt.shaped (.list (r.map fun k : Nat => .int (k : Int))) = true := by
  unfold SeqAt.shaped
  rw [Bool.and_eq_true, decide_eq_true_iff]
  refine ⟨?_, ?_⟩
  · simp [PyData.canLay0, lay_row r]
  · rw [PyData.depth, depth_row]
    omega
theorem sorted_nat {m l : List Nat} (hp : m.Perm l) (hw : m.Pairwise (· ≤ ·)) (hl : l.Pairwise (· < ·)) : m = l := by
  have h : toI m = toI l := sorted_eq (List.Perm.refl _) (by
    unfold toI
    rw [List.pairwise_map]
    exact hw.imp fun h => by omega) hl hp
  have : ∀ {m l : List Nat}, toI m = toI l → m = l := by
    intro m
    induction m with
    | nil =>
      intro l h
      cases l with
      | nil => rfl
      | cons _ _ => cases h
    | cons a m ih =>
      intro l h
      cases l with
      | nil => cases h
      | cons b l =>
        unfold toI at h
        rw [List.map_cons, List.map_cons, List.cons.injEq] at h
        have h1 : a = b := by have := h.1; omega
        rw [h1, ih h.2]
  exact this h
section
variable {K : PySem.W.Frag} {σ : L2.St} {H : Hp} {te : TE} {ta : TE}
theorem ep_listRg {n : Nat} (h : Ev te σ H (.int (n : Int))) (hn : n ≤ 1000) : EvP (tLstRg (tRg1 te)) σ H (Lst (fun k : Nat => Is (.int (k : Int))) (List.range n)) := fun H1 e Q q =>
  h H1 e _ fun H2 e2 => ⟨(n : Int), rfl, ⟨by omega, by omega, by omega, by omega, by omega⟩, fun l hl => by
    rw [rgV_zero]
    exact q _ _ (e2.trans (Ex.new hl)) ⟨l, _, rfl, upd_same, is_each _⟩⟩
theorem ep_sortTI {l m : List Nat} (h : EvP te σ H (IntsT l)) (hl : l.length < 64) (hp : l.Perm m) (hm : m.Pairwise (· < ·)) : EvP (tCB (rSortTI K) (tCons te tNil)) σ H (Lst (fun k : Nat => Is (.int (k : Int))) m) :=
  ep_cb1 h fun v H1 e ⟨a, ev, ha⟩ Q q => by
    subst ev
    refine ⟨a, toI l, rfl, SqT.of (by rw [← nums_int]; exact ha), by rw [List.length_map]; exact hl, fun ns c hn hs hc => ?_⟩
    rw [sorted_eq hn hs hm hp, ← nums_int]
    exact q _ _ (Ex.new hc) ⟨c, _, rfl, upd_same, is_each m⟩
theorem dp_list {r : List Nat} {v : V} (h : Lst (fun k : Nat => Is (.int (k : Int))) r v H) : Dp K H v (.list (r.map fun k : Nat => .int (k : Int))) := by
  obtain ⟨c, rfl, h1⟩ := Lst.nums h
  exact .lst (SqL.of h1) (dp_nums r)
end
section
variable {P : Program} {w : World} {K : PySem.W.Frag} {mg : Str → Option Value} {base : Heap}
theorem scRen : FnScope nRen ["tournament", "order"] (defScope sRen) := ⟨rfl, rfl, rfl, by decide +kernel, rfl, by decide +kernel, by decide +kernel⟩
theorem ok_ren {f fC fP : Addr} {fd fdC fdP : FuncData} (F : Fun K "renamed" "renamed" sRen f fd) (B : Bt mg)
    (GC : FnOk P w K mg base CX0 4 fC fdC ["tournament"] spChk) (kC : PySem.W.keepIn K (.ref fC) = true) (bC : Binds K fdC ["tournament"] []) (gC : mg "check_tournament_tournaments" = some (.ref fC))
    (GP : FnOk P w K mg base CX0 2 fP fdP ["value", "many", "size"] spPlayers) (kP : PySem.W.keepIn K (.ref fP) = true) (bP : Binds K fdP ["value", "many", "size"] []) (gP : mg "is_players" = some (.ref fP)) :
    FnOk P w K mg base CX0 5 f fd ["tournament", "order"] spRen := by
  refine F.ok scRen (fun vs H Q E h => ?_) (fun cdv A outer s H vs Q E hr h => ?_)
  · obtain ⟨x, y, n, b, p, rfl, _⟩ := h
    rfl
  · obtain ⟨x, y, n, b, p, rfl, hx, hy, ht, h1, h8, hp, q⟩ := h
    refine ⟨_, pss_cons (ps_expr (pe_call GC hr (by rfl) gC kC bC .nil pass0 (pa_cons (pv 0) pa_nil)))
      (pss_cons (ps_set (i := 2) scRen.nd rfl (.inl rfl) (pe_callB (r := rLenS K) call_len_seq (by rfl) B.len PySem.boot_len (pa_cons (pv 0) pa_nil)))
      (pss_cons (ps_if (PW.pt (pw_or (pt_not (pt_val (pe_call GP (hr.mono (by decide)) (by rfl) gP kP bP .nil pass0 (pa_cons (pv 1) (pa_cons (pv 2) (pa_cons (pv 2) pa_nil))))))
          (pw_or1 (pt_cmpR (r := rNeD K) (op_neD hr.units) (pe_callB (r := rSortTI K) cr_sortTI (by rfl) B.srt boot_sorted (pa_cons (pv 1) pa_nil)) (pe_listRg rfl (by rfl) B.lst (prg_1 (by rfl) B.rng (pv 2))) (nomark _)))))
        (pss_one ps_never) pss_nil)
      (pss_cons (ps_setLc (i := 3) (own := [("one", 4)]) (g := gName 4) (tt := tYes) rfl scRen.nd rfl rfl (sw_true rfl rfl rfl (by decide +kernel)) (pi_range1 (by rfl) B.rng (pa_cons (pv 2) pa_nil)) (blkOk_by (N := nRen) (sc := defScope sRen) (by decide +kernel))
        (fun _ _ _ _ _ => pg_name (i := 4) scRen.nd rfl (Or.inl rfl)) (fun _ _ _ _ _ => pts_nil)
        (fun _ _ _ _ _ => pe_tup (pa_cons (pe_ix (r := rIxT K) ix_tup (pv 1) (pv 4) (fun _ _ => rfl)) (pa_cons (pe_callTy (r := rTupOf K) call_tuple_of (by rfl) B.tup boot_tuple (pa_cons (pe_callB (r := rSorted K) cr_sorted (by rfl) B.srt boot_sorted (pa_cons
          (pe_lc (wi := iTup K (tOp (rIxT K) (tVar 0) (tVar 4))) (own := [("other", 5)]) (g := gName 5) (tt := tYes) rfl scRen.nd (pi_tup (pe_ix (r := rIxT K) ix_tup (pv 0) (pv 4) (fun _ _ => rfl))) (blkOk_by (N := nRen) (sc := outRen) (by decide +kernel))
            (fun _ _ _ _ _ => pg_name (i := 5) scRen.nd rfl (Or.inl rfl)) (fun _ _ _ _ _ => pts_nil)
            (fun _ _ _ _ _ => pe_ix (r := rIxT K) ix_tup (pv 1) (pv 5) (fun _ _ => rfl))) pa_nil)) pa_nil)) pa_nil))))
      (pss_one (ps_ret (pe_callTy (r := rTupOf K) call_tuple_of (by rfl) B.tup boot_tuple (pa_cons (pe_lc (own := [("player", 6), ("row", 7)]) (g := gTup K 2 (gCons (gName 6) (gCons (gName 7) gNil))) (tt := tYes) rfl scRen.nd
        (pi_list (pe_callB (r := rSortD K Prod.snd (fun z : Nat × V => datR (row n (ren p b)) z.1)) (cr_sortD hr.units) (by rfl) B.srt boot_sorted (pa_cons (pv 3) pa_nil))) (blkOk_by (N := nRen) (sc := defScope sRen) (by decide +kernel))
        (fun _ _ _ _ _ => pg_tup rfl (pgs_cons (pg_name (i := 6) scRen.nd rfl (Or.inl rfl)) (pgs_cons (pg_name (i := 7) scRen.nd rfl (Or.inl rfl)) pgs_nil))) (fun _ _ _ _ _ => pts_nil)
        (fun _ _ _ _ _ => pv 7)) pa_nil))))))), ?_⟩
    have hn : (tab n b).length = n := tab_len
    have hpl : p.length = n := by rw [hp.length_eq, List.length_range]
    refine q_drop (v := .non) (ev_call (vs := [x]) (ea_cons (ev_var rfl) ea_nil) fun H1 e1 Q q E => ⟨x, n, b, rfl, tour_monT _ _ _ (exT e1) hx, ht, h1, h8, q⟩) fun H1 e1 => ?_
    refine q_asg (ev_is (ev_lenT (tour_ev hx e1 rfl)) (by rw [hn])) fun H2 e2 => ?_
    have e12 := e1.trans e2
    have hY : ∀ {H' : Hp} {σ : L2.St}, Ex H H' → σ[1]? = some (some y) → EvP (tVar 1) σ H' (IntsT p) := fun e h0 => ep_var (intsT_monT _).mon h0 (intsT_monT _ _ _ _ (exT e) hy)
    refine q_when (b := false) (et_is (et_or (et_not (et_B (ev_call (z := .bl true) (vs := [y, .int (n : Int), .int (n : Int)]) (ea_cons (ev_var rfl) (ea_cons (ev_var rfl) (ea_cons (ev_var rfl) ea_nil))) fun H3 e3 Q q E => ⟨y, p, n, by rw [hpl]; rfl, intsT_monT _ _ _ _ (exT (e12.trans e3)) hy, h8, by omega, fun k hk => List.mem_range.mp (hp.mem_iff.mp hk), q⟩)))
      (fun _ => et_test (ev_opP (z := .bl false) (ep_sortTI (hY e12 rfl) (by omega) hp List.pairwise_lt_range) (fun _ H3 e3 _ => ep_listRg (ev_var rfl) (by omega)) (lst_mon isN_monT) fun x1 y1 H3 e3 d1 d2 Q q => ?_))) rfl) (fun z => nomatch z) (fun _ H3 e3 => ?_)
    · refine ⟨_, _, dp_list d1, dp_list d2, shaped_row _, shaped_row _, ?_⟩
      have : PyData.eqv (.list ((List.range n).map fun k : Nat => .int (k : Int))) (.list ((List.range n).map fun k : Nat => .int (k : Int))) = true := by
        simp only [PyData.eqv, row_eqv]
      rw [this]
      exact q H3 (Ex.refl H3)
    · have e13 := e12.trans e3
      have gt : ∀ {k : Nat}, k < n → ∃ i, i < n ∧ p[k]? = some i ∧ p.getD k 0 = i := fun {k} hk => by
        obtain ⟨i, hi, h⟩ := perm_get hp hk
        exact ⟨i, hi, h, by rw [List.getD_eq_getElem?_getD, h]; rfl⟩
      have ep : (List.range n).map (fun k => p.getD k 0) = p := by
        refine List.ext_getElem? fun k => ?_
        rw [List.getElem?_map]
        by_cases hk : k < n
        · obtain ⟨i, _, h, g⟩ := gt hk
          rw [List.getElem?_range hk, h]
          exact congrArg some g
        · rw [List.getElem?_eq_none (by rw [List.length_range]; omega), List.getElem?_eq_none (by omega)]
          rfl
      have hR := ep_lcR1 (σ := [some x, some y, some (.int (n : Int)), none, none, none, none, none]) (H := H3) (tr := tCons (tVar 2) tNil) (g := gName 4) (ws := [4]) (t := tYes)
        (te := tTup (tCons (tOp (rIxT K) (tVar 1) (tVar 4)) (tCons (tCB (rTupOf K) (tCons (tCB (rSorted K) (tCons (tLc (iTup K (tOp (rIxT K) (tVar 0) (tVar 4))) (gName 5) tYes (tOp (rIxT K) (tVar 1) (tVar 5)) [5]) tNil)) tNil)) tNil)))
        (P := fun k => RowP (row n (ren p b)) (p.getD k 0)) (f := fun _ => true) (n := n) (j := (n : Int)) (fun k => rowP_monT _) (ea_cons (ev_var rfl) ea_nil) (by omega) (by omega)
        fun k H4 e4 hk => by
          obtain ⟨i, hi, hpk, g⟩ := gt hk
          refine ⟨_, tgt_name rfl, ev_yes, fun _ => ?_⟩
          have hJ := ep_lcT (K := K) (σ := [some x, some y, some (.int (n : Int)), none, some (.int (k : Int)), none, none, none]) (H := H4) (tl := tOp (rIxT K) (tVar 0) (tVar 4)) (g := gName 5) (ws := [5]) (t := tYes) (te := tOp (rIxT K) (tVar 1) (tVar 5))
            (S := fun k : Nat => Is (.int (k : Int))) (P := fun v : Nat => Is (.int (p.getD v 0 : Int))) (f := fun _ => true) (xs := row n b k) isN_monT (fun _ => is_monT)
            ((ep_itT intsT_monT (tour_ev hx (e13.trans e4) rfl) (ev_var rfl) (tab_get hk)).imp fun v H5 _ q => ints_tpl q) (Nat.le_trans row_len (by omega)) fun o v H5 e5 ho hs => by
              have hs : v = .int (o : Int) := hs
              subst hs
              obtain ⟨j, hj, hpo, go⟩ := gt (mem_row.mp ho).1
              refine ⟨_, tgt_name rfl, ev_yes, fun _ => ?_⟩
              rw [go]
              exact ep_itT (S := fun k : Nat => Is (.int (k : Int))) isN_monT ((hY ((e13.trans e4).trans e5) rfl).imp fun v H6 _ q => ints_tpl q) (ev_var rfl) hpo
          rw [filter_yes] at hJ
          have hS := ep_tuple (K := K) isN_monT (ep_sort (K := K) (l := (row n b k).map fun v => p.getD v 0) (m := row n (ren p b) i) (hJ.imp fun v H5 _ q => by
            obtain ⟨c, ec, hc⟩ := Lst.nums q
            exact ⟨c, ec, by unfold nums; rw [List.map_map]; exact hc⟩) (by
              have := row_len (n := n) (b := b) (i := k)
              rw [List.length_map]
              omega) (ren_row hp hk hpk) row_asc)
          have hA := eap_cons (is_mon (x := .int (i : Int))) (ep_itT (K := K) (σ := [some x, some y, some (.int (n : Int)), none, some (.int (k : Int)), none, none, none]) (ta := tVar 1) (tb := tVar 4) (S := fun k : Nat => Is (.int (k : Int))) isN_monT ((hY (e13.trans e4) rfl).imp fun v H6 _ q => ints_tpl q) (ev_var rfl) hpk)
            (eap_cons (intsT_monT (row n (ren p b) i)).mon (hS.imp fun v H5 _ q => tpl_ints q) eap_nil)
          refine (ep_tup (fun vs H H' e ⟨v, ws, e1, h1, u, zs, e2, h2, e3⟩ => ⟨v, ws, e1, h1, u, zs, e2, intsT_monT _ _ _ _ (exT e) h2, e3⟩) (fun vs H ⟨v, ws, e1, h1, u, zs, e2, h2, e3⟩ => by rw [e1, e2, e3]; show 2 ≤ 1000; decide) hA).imp fun v H5 _ ⟨c, vs, ev, hc, v1, ws, e1, h1, u, zs, e2, h2, e3⟩ => ?_
          have h1 : v1 = .int (i : Int) := h1
          subst e1 e2 e3 h1
          rw [g]
          exact ⟨c, u, ev, hc, h2⟩
      rw [filter_yes] at hR
      refine qp_asg hR fun rv H4 e4 hrv => ?_
      have hrv : Lst (RowP (row n (ren p b))) p rv H4 := by
        obtain ⟨c, ys, ec, hc, hy⟩ := hrv
        have := each_map hy
        rw [ep] at this
        exact ⟨c, ys, ec, hc, this⟩
      have hsort := ep_sortD (K := K) (σ := [some x, some y, some (.int (n : Int)), some rv, none, none, none, none]) (H := H4) (te := tVar 3) (S := RowP (row n (ren p b))) (dat := datR (row n (ren p b))) rowP_monT
        (fun i v H ⟨c, z, e, h, h2⟩ => by
          subst e
          exact .tup (SqT.of h) (.cons (.int _) (.cons (dp_row h2) .nil)))
        (fun i j => by
          have := alike_ints (row n (ren p b) i) (row n (ren p b) j)
          simp [datR, dRow, PySem.W.alike, PySem.W.alikeAll, this]) (fun i => ⟨_, _, rfl⟩) (fun i => by
          have := depth_row (row n (ren p b) i)
          simp [datR, dRow, PyData.depth, PyData.depthAll, this]) (ep_var (lst_mon rowP_monT) rfl hrv)
      have hsort := hsort.imp (P' := Lst (RowP (row n (ren p b))) (List.range n)) fun v H5 _ ⟨m, hm, hw, hL⟩ => by
        have : m = List.range n := sorted_nat (hm.trans hp) (hw.imp fun {i j} h => by
          have := le_fst (dat := datR (row n (ren p b))) rfl rfl h
          omega) List.pairwise_lt_range
        rw [this] at hL
        exact hL
      have hE := ep_lcL (K := K) (σ := [some x, some y, some (.int (n : Int)), some rv, none, none, none, none]) (H := H4) (tl := tCB (rSortD K Prod.snd (fun z : Nat × V => datR (row n (ren p b)) z.1)) (tCons (tVar 3) tNil)) (g := gTup K 2 (gCons (gName 6) (gCons (gName 7) gNil))) (ws := [6, 7]) (t := tYes) (te := tVar 7)
        (S := RowP (row n (ren p b))) (P := fun i => IntsT (row n (ren p b) i)) (f := fun _ => true) (xs := List.range n) (fun i => intsT_monT _) hsort (by rw [List.length_range]; omega) fun i v H5 e5 hi hs => by
          obtain ⟨c, z, rfl, hc, hz⟩ := hs
          exact ⟨_, tgt_pair hc rfl, ev_yes, fun _ => ep_var (intsT_monT _).mon rfl hz⟩
      rw [filter_yes] at hE
      refine sp_ret (ep_tuple (fun i => intsT_monT _) hE) fun v H5 e5 hv => q v H5 ((e13.trans e4).trans e5) ?_
      obtain ⟨c, ys, rfl, h1, h2⟩ := hv
      exact ⟨c, ys, rfl, h1, each_map h2⟩
end
end K53

namespace K53
open PySem PySem.Spec PyProof.Rows L2 Evl
/-! ## The stream: a list that alone is written anew -/
abbrev sStream : Stmt := tops 26
abbrev sNext : Stmt := tops 27
abbrev nNext : List Str := ["_law_stream_here", "_law_many", "_law_k", "_law_cell", "_law_digit"]
/-- the same but at p -/
def Exb (p : Addr) (H H' : Hp) : Prop := ∀ a o, a ≠ p → H a = some o → H' a = some o
theorem Exb.refl {p : Addr} (H : Hp) : Exb p H H := fun _ _ _ h => h
theorem Exb.trans {p : Addr} {H H1 H2 : Hp} (a : Exb p H H1) (b : Exb p H1 H2) : Exb p H H2 := fun x o n h => b x o n (a x o n h)
theorem exb {p : Addr} {H H' : Hp} (e : Ex H H') : Exb p H H' := fun a o _ h => e a o h
theorem Exb.put {p : Addr} {H : Hp} {o : HO} : Exb p H (upd H p o) := fun a u n h => by
  rw [upd_ne n]
  exact h
theorem Exb.mut {p c : Addr} {H H' : Hp} {o : HO} (e : Exb p H H') (h : H c = none) : Exb p H (upd H' c o) := fun a u n ha => by
  have ne : a ≠ c := fun q => by
    rw [q, h] at ha
    cases ha
  rw [upd_ne ne]
  exact e a u n ha
theorem Exb.t {p : Addr} {H H' : Hp} {xs : List V} (h : H p = some (.lst xs)) (e : Exb p H H') : ExT H H' := fun a ys ha => e a _ (fun q => by
  rw [q, h] at ha
  cases ha) ha
def StreamAt (p l : Addr) (H : Hp) : Prop := l ≠ p ∧ ∃ (c : Int) (k : Nat) (xs : List Int), H p = some (.lst [.ref l, .int c, .int (k : Int)]) ∧ H l = some (.lst (xs.map V.int))
section
variable {p l a : Addr} {H H0 H' : Hp} {o : HO}
theorem StreamAt.mono (s : StreamAt p l H) (e : Ex H H') : StreamAt p l H' := by
  obtain ⟨n, c, k, xs, h1, h2⟩ := s
  exact ⟨n, c, k, xs, e _ _ h1, e _ _ h2⟩
theorem StreamAt.exT (s : StreamAt p l H) (e : Exb p H H') : ExT H H' := by
  obtain ⟨n, c, k, xs, h1, h2⟩ := s
  exact Exb.t h1 e
/-- what is new is not the stream -/
theorem StreamAt.new (s : StreamAt p l H) (h : H a = none) : a ≠ p ∧ a ≠ l := by
  obtain ⟨n, c, k, xs, h1, h2⟩ := s
  refine ⟨fun q => ?_, fun q => ?_⟩
  · rw [q, h1] at h
    cases h
  · rw [q, h2] at h
    cases h
/-- a write elsewhere -/
theorem StreamAt.other (s : StreamAt p l H) (ha : a ≠ p ∧ a ≠ l) : StreamAt p l (upd H a o) := by
  obtain ⟨n, c, k, xs, h1, h2⟩ := s
  exact ⟨n, c, k, xs, by rw [upd_ne (Ne.symm ha.1)]; exact h1, by rw [upd_ne (Ne.symm ha.2)]; exact h2⟩
theorem fresh_b (e : Exb p H H') (h : H' a = none) (ne : a ≠ p) : H a = none := by
  cases h0 : H a with
  | none => rfl
  | some o =>
    rw [e a o ne h0] at h
    cases h
end
def spStream (K : PySem.W.Frag) : Sp := fun vs H Q _ => ∃ (a : Addr) (ns : List Int), vs = [.ref a] ∧ SqL K H a (ns.map V.int) ∧ ∀ p l H2, Ex H H2 → H p = none → StreamAt p l H2 → Q (.ref p) H2
def spNext : Sp := fun vs H Q _ => ∃ (p l : Addr) (m : Nat), vs = [.ref p, .int (m : Int)] ∧ StreamAt p l H ∧ 0 < m ∧ m ≤ 100 ∧ ∀ (d : Nat) H2, Exb p H H2 → StreamAt p l H2 → d < m → Q (.int (d : Int)) H2
/-- a call of next -/
theorem nx_call {σ : L2.St} {H : Hp} {p l : Addr} {m : Nat} {tr : TA} {Q : VK} {E : XK} (h : EvA tr σ H [.ref p, .int (m : Int)]) (s : StreamAt p l H) (hm : 0 < m ∧ m ≤ 100) (k : ∀ (d : Nat) H2, Exb p H H2 → StreamAt p l H2 → d < m → Q (.int (d : Int)) H2) : tCall spNext [] E tr σ H Q :=
  h H (Ex.refl H) _ fun H1 e1 => ⟨p, l, m, rfl, s.mono e1, hm.1, hm.2, fun d H2 e2 s2 hd => k d H2 ((exb e1).trans e2) s2 hd⟩
section
variable {P : Program} {w : World} {K : PySem.W.Frag} {mg : Str → Option Value} {base : Heap}
theorem scStream : FnScope ["_law_script"] ["_law_script"] (defScope sStream) := ⟨rfl, rfl, rfl, by decide +kernel, rfl, by decide +kernel, by decide +kernel⟩
theorem ok_stream {f : Addr} {fd : FuncData} (F : Fun K "_law_stream" "_law_stream" sStream f fd) (B : Bt mg) : FnOk P w K mg base CX0 1 f fd ["_law_script"] (spStream K) := by
  refine F.ok scStream (fun vs H Q E h => ?_) (fun cdv A outer s H vs Q E hr h => ?_)
  · obtain ⟨a, ns, rfl, _⟩ := h
    rfl
  · obtain ⟨a, ns, rfl, ha, q⟩ := h
    refine ⟨_, pss_one (ps_ret (pe_lst (pa_cons (pe_callTy (r := rListS K) call_list_of (by rfl) B.lst boot_list (pa_cons (pv 0) pa_nil)) (pa_cons pe_int (pa_cons pe_int pa_nil))))), ?_⟩
    refine el_list (ev_var rfl) ha H (Ex.refl H) _ fun l H1 hl e1 h1 => ⟨by show 3 ≤ sizeLine; decide, fun p hp => ?_⟩
    have ne : l ≠ p := fun q => by
      rw [q, hp] at h1
      cases h1
    exact q p l _ (e1.trans (Ex.new hp)) (fresh_back e1 hp) ⟨ne, 0, 0, ns, upd_same, by rw [upd_ne ne]; exact h1⟩
theorem scNext : FnScope nNext ["_law_stream_here", "_law_many"] (defScope sNext) := ⟨rfl, rfl, rfl, by decide +kernel, rfl, by decide +kernel, by decide +kernel⟩
theorem ok_next {f : Addr} {fd : FuncData} (F : Fun K "_law_next" "_law_next" sNext f fd) (B : Bt mg) : FnOk P w K mg base CX0 1 f fd ["_law_stream_here", "_law_many"] spNext := by
  refine F.ok scNext (fun vs H Q E h => ?_) (fun cdv A outer s H vs Q E hr h => ?_)
  · obtain ⟨p, l, m, rfl, _⟩ := h
    rfl
  · obtain ⟨p, l, m, rfl, hs, hm, hm2, q⟩ := h
    refine ⟨_, pss_cut (ps_if (pt_cmpR op_eq (pe_ix (r := rIxL K) ix_list (pv 0) pe_int (fun _ _ => rfl)) pe_int (nomark _))
        (pss_cons (ps_set (i := 2) scNext.nd rfl (.inl rfl) (pe_ix (r := rIxL K) ix_list (pv 0) pe_int (fun _ _ => rfl)))
        (pss_cons (ps_set (i := 3) scNext.nd rfl (.inl rfl) (pe_op op_add pe_int (pv 2)))
        (pss_cut (ps_if (pt_cmpR op_lt (pv 2) (pe_callB (r := rLenS K) call_len_seq (by rfl) B.len PySem.boot_len (pa_cons (pe_ix (r := rIxL K) ix_list (pv 0) pe_int (fun _ _ => rfl)) pa_nil)) (nomark _))
          (pss_one (ps_set (i := 3) scNext.nd rfl (.inl rfl) (pe_callB call_abs (by rfl) B.abs (by decide +kernel) (pa_cons (pe_ix (r := rIxL K) ix_list (pe_ix (r := rIxL K) ix_list (pv 0) pe_int (fun _ _ => rfl)) (pv 2) (fun _ _ => rfl)) pa_nil)))) pss_nil)
        (pss_cut (ps_if (pt_cmpR op_lt (pv 3) (pe_op op_pow pe_int pe_int) (nomark _))
          (pss_cons (ps_set (i := 3) scNext.nd rfl (.inl rfl) (pe_op op_mod (pe_callTy call_int1 (by rfl) B.int (by decide +kernel) (pa_cons (pe_op op_add (pe_op op_add (pe_op op_mul (pv 3) pe_int) (pe_op op_mul (pv 2) pe_int)) pe_int) pa_nil)) pe_int))
          (pss_one (ps_set (i := 3) scNext.nd rfl (.inl rfl) (pe_op op_add (pe_op op_mul (pe_op op_mod (pe_callTy call_int1 (by rfl) B.int (by decide +kernel) (pa_cons (pe_op op_add (pe_op op_mul (pv 3) pe_int) pe_int) pa_nil)) pe_int) pe_int) (pv 3))))) pss_nil)
        (pss_cons (ps_asg (pv 3) (pg_sub (pv 0) pe_int set_list))
        (pss_one (ps_asg (pe_op op_add (pv 2) pe_int) (pg_sub (pv 0) pe_int set_list)))))))) pss_nil)
      (pss_cons (ps_set (i := 4) scNext.nd rfl (.inl rfl) (pe_op op_mod (pe_callTy call_int1 (by rfl) B.int (by decide +kernel) (pa_cons (pe_ix (r := rIxL K) ix_list (pv 0) pe_int (fun _ _ => rfl)) pa_nil)) (pv 1)))
      (pss_cons (ps_asg (pe_op op_fdivN (pe_ix (r := rIxL K) ix_list (pv 0) pe_int (fun _ _ => rfl)) (pv 1)) (pg_sub (pv 0) pe_int set_list))
      (pss_one (ps_ret (pv 4))))), ?_⟩
    obtain ⟨nlp, c, k, xs, h1, h2⟩ := hs
    have gi : ∀ {H' : Hp} {σ : L2.St} {c : Int} {k : Nat} (i : Nat) {v : V}, H' p = some (.lst [.ref l, .int c, .int (k : Int)]) → σ[0]? = some (some (.ref p)) → ([.ref l, .int c, .int (k : Int)] : List V)[i]? = some v → Ev (tOp (rIxL K) (tVar 0) (tC (.int (i : Int)))) σ H' v := fun {H'} {σ} {c} {k} i {v} hp h0 hv => ev_op (ev_var h0) ev_c (rv_ixL (SqL.of hp) (atI_nat hv))
    refine q_cut (M := fun σ' H' => ∃ y2 y3, σ' = [some (.ref p), some (.int (m : Int)), y2, y3, none] ∧ Exb p H H' ∧ StreamAt p l H') ?_ ?_
    · refine s_when (et_test (ev_op (gi 1 h1 rfl rfl) ev_c (rv_eq rfl))) (fun _ H1 e1 => ?_) (fun _ H1 e1 => ⟨none, none, rfl, exb e1, nlp, c, k, xs, e1 _ _ h1, e1 _ _ h2⟩)
      refine q_asg (gi 2 (e1 _ _ h1) rfl rfl) fun H2 e2 => ?_
      refine q_asg (ev_op ev_c (ev_var rfl) rv_I0) fun H3 e3 => ?_
      have e13 := (e1.trans e2).trans e3
      refine q_cut (M := fun σ' H' => ∃ c' : Int, σ' = [some (.ref p), some (.int (m : Int)), some (.int (k : Int)), some (.int c'), none] ∧ Ex H H') ?_ ?_
      · refine s_when (et_test (ev_op (ev_var rfl) (ev_len (gi 0 (e13 _ _ h1) rfl rfl) (SqL.of (e13 _ _ h2))) rv_I0)) (fun hb H4 e4 => ?_) (fun _ H4 e4 => ⟨_, rfl, e13.trans e4⟩)
        have e14 := e13.trans e4
        have hk : k < xs.length := by
          have := of_decide_eq_true hb
          rw [List.length_map] at this
          omega
        have hx : (xs.map V.int)[k]? = some (.int xs[k]) := by
          rw [List.getElem?_map, List.getElem?_eq_getElem hk]
          rfl
        exact s_asg (ev_cb (ea_cons (ev_op (gi 0 (e14 _ _ h1) rfl rfl) (ev_var rfl) (rv_ixL (SqL.of (e14 _ _ h2)) (atI_nat hx))) ea_nil) fun H5 e5 Q q => ⟨_, rfl, q H5 (Ex.refl H5)⟩) fun H5 e5 => ⟨_, rfl, e14.trans e5⟩
      · rintro σ' H4 ⟨c4, rfl, e4⟩
        refine q_cut (M := fun σ' H' => ∃ c' : Int, σ' = [some (.ref p), some (.int (m : Int)), some (.int (k : Int)), some (.int c'), none] ∧ Ex H H') ?_ ?_
        · refine s_when (et_test (ev_op (ev_var rfl) (ev_op ev_c ev_c (rv_I ⟨by decide, by decide, by decide⟩)) rv_I0)) (fun hb H5 e5 => ?_) (fun _ H5 e5 => ⟨_, rfl, e4.trans e5⟩)
          refine q_asg (ev_op (ev_cb (ea_cons (ev_op (ev_op (ev_op (ev_var rfl) ev_c (rv_I (.inr (by decide)))) (ev_op (ev_var rfl) ev_c (rv_I (.inr (by decide)))) rv_I0) ev_c rv_I0) ea_nil) fun H6 e6 Q q => .inl ⟨_, rfl, q H6 (Ex.refl H6)⟩) ev_c (rv_I (by show (0 : Int) < 2147483647; decide))) fun H6 e6 => ?_
          refine s_asg (ev_op (ev_op (ev_op (ev_cb (ea_cons (ev_op (ev_op (ev_var rfl) ev_c (rv_I (.inr (by decide)))) ev_c rv_I0) ea_nil) fun H7 e7 Q q => .inl ⟨_, rfl, q H7 (Ex.refl H7)⟩) ev_c (rv_I (by show (0 : Int) < 2147483647; decide))) ev_c (rv_I (.inr (by decide)))) (ev_var rfl) rv_I0) fun H7 e7 => ⟨_, rfl, (e4.trans e5).trans (e6.trans e7)⟩
        · rintro σ' H5 ⟨c5, rfl, e5⟩
          refine q_setL (j := 1) (e5 _ _ h1) (ev_var rfl) (ev_var rfl) ev_c (by show 1 < 3; decide) fun H6 e6 => ?_
          refine s_setL (j := 2) upd_same (ev_op (ev_var rfl) ev_c rv_I0) (ev_var rfl) ev_c (by show 2 < 3; decide) fun H7 e7 => ?_
          have x6 : Exb p H (upd H6 p (.lst ([.ref l, .int c5, .int (k : Int)]))) := (exb (e5.trans e6)).trans Exb.put
          refine ⟨_, _, rfl, (x6.trans (exb e7)).trans Exb.put, nlp, c5, k + 1, xs, upd_same, ?_⟩
          rw [upd_ne nlp]
          exact (x6.trans (exb e7)) l _ nlp h2
    · rintro σ' H1 ⟨y2, y3, rfl, x1, n', c', k', xs', g1, g2⟩
      refine q_asg (v := .int (((c' % (m : Int)).toNat : Nat) : Int)) (ev_is (ev_op (ev_cb (ea_cons (ev_op (x := .ref p) (y := .int 1) (z := .int c') (ev_var rfl) ev_c (rv_ixL (SqL.of g1) (atI_nat (j := 1) rfl))) ea_nil) fun H6 e6 Q q => .inl ⟨c', rfl, q H6 (Ex.refl H6)⟩) (ev_var rfl) (rv_I (by show (0 : Int) < (m : Int); omega))) (congrArg V.int (Int.toNat_of_nonneg (Int.emod_nonneg _ (by omega))).symm)) fun H2 e2 => ?_
      refine q_setL (j := 1) (e2 _ _ g1) (ev_op (ev_op (x := .ref p) (y := .int 1) (z := .int c') (ev_var rfl) ev_c (rv_ixL (SqL.of (e2 _ _ g1)) (atI_nat (j := 1) rfl))) (ev_var rfl) (rv_I ⟨by omega, by omega⟩)) (ev_var rfl) ev_c (by show 1 < 3; decide) fun H3 e3 => ?_
      have x3 : Exb p H (upd H3 p (.lst ([.ref l, .int (c'.fdiv (m : Int)), .int (k' : Int)]))) := (x1.trans (exb (e2.trans e3))).trans Exb.put
      refine s_ret (ev_var rfl) fun H4 e4 => q _ H4 (x3.trans (exb e4)) (StreamAt.mono ⟨n', _, k', xs', upd_same, ?_⟩ e4) ?_
      · rw [upd_ne n']
        exact (e2.trans e3) _ _ g2
      · have := Int.emod_lt_of_pos c' (show (0 : Int) < (m : Int) by omega)
        have := Int.emod_nonneg c' (show (m : Int) ≠ 0 by omega)
        omega
end
end K53

namespace K53
open PySem PySem.Spec PyProof.Rows L2 Evl
abbrev sLTour : Stmt := tops 29
abbrev nLTour : List Str := ["_law_stream_here", "_law_least", "_law_most", "_law_many", "_law_rows_here", "_law_one", "_law_other", "_law_player", "_law_row"]
theorem RowsAt.exb {p l q : Addr} {H0 H H' : Hp} {as : List Addr} {n : Nat} {R : Nat → List Nat} (s : StreamAt p l H0) (r : RowsAt H0 H q as n R) (e : Exb p H H') : RowsAt H0 H' q as n R :=
  ⟨r.len, r.nd, r.p0, r.a0, r.np, e _ _ (s.new r.p0).1 r.atp, fun i a h => e _ _ (s.new (r.a0 a (List.mem_of_getElem? h))).1 (r.ata i a h)⟩
def spLTour : Sp := fun vs H Q _ => ∃ (p l : Addr) (lo hi : Nat), vs = [.ref p, .int (lo : Int), .int (hi : Int)] ∧ StreamAt p l H ∧ 1 ≤ lo ∧ lo ≤ hi ∧ hi ≤ 8 ∧
  ∀ v H2 n b, Exb p H H2 → StreamAt p l H2 → Trn n b → 1 ≤ n → n ≤ 8 → Tour n b v H2 → Q v H2
theorem bd_rows {n j : Nat} {dec : Nat → Nat → Bool} {R : Nat → List Nat} (F : Fill n (fun x => x) dec n j R) {k : Nat} (hk : k < n) : (R k).Perm (row n (bd dec) k) :=
  F.rows (fun i hi => ⟨i, hi, rfl⟩) (fun x y h _ => bd_at h) (fun i => bd_irr i) hk
section
variable {P : Program} {w : World} {K : PySem.W.Frag} {mg : Str → Option Value} {base : Heap}
theorem scLTour : FnScope nLTour ["_law_stream_here", "_law_least", "_law_most"] (defScope sLTour) := ⟨rfl, rfl, rfl, by decide +kernel, rfl, by decide +kernel, by decide +kernel⟩
theorem ok_ltour {f fN : Addr} {fd fdN : FuncData} (F : Fun K "_law_tournament" "_law_tournament" sLTour f fd) (B : Bt mg)
    (GN : FnOk P w K mg base CX0 1 fN fdN ["_law_stream_here", "_law_many"] spNext) (kN : PySem.W.keepIn K (.ref fN) = true) (bN : Binds K fdN ["_law_stream_here", "_law_many"] []) (gN : mg "_law_next" = some (.ref fN)) :
    FnOk P w K mg base CX0 2 f fd ["_law_stream_here", "_law_least", "_law_most"] spLTour := by
  refine F.ok scLTour (fun vs H Q E h => ?_) (fun cdv A outer s H vs Q E hr h => ?_)
  · obtain ⟨p, l, lo, hi, rfl, _⟩ := h
    rfl
  · obtain ⟨p, l, lo, hi, rfl, hs, h1, h2, h3, q⟩ := h
    refine ⟨_, pss_cons (ps_set (i := 3) scLTour.nd rfl (.inl rfl) (pe_op op_add (pv 1) (pe_call GN hr (by rfl) gN kN bN .nil pass0 (pa_cons (pv 0) (pa_cons (pe_op op_add (pe_op op_sub (pv 2) (pv 1)) pe_int) pa_nil)))))
      (pss_cons (ps_setLc (i := 4) (own := [("_law_player", 7)]) (g := gName 7) (tt := tYes) rfl scLTour.nd rfl rfl (sw_true rfl rfl rfl (by decide +kernel)) (pi_range1 (by rfl) B.rng (pa_cons (pv 3) pa_nil)) (blkOk_by (N := nLTour) (sc := defScope sLTour) (by decide +kernel)) (fun _ _ _ _ _ => pg_name (i := 7) scLTour.nd rfl (Or.inl rfl)) (fun _ _ _ _ _ => pts_nil) (fun _ _ _ _ _ => pe_lst pa_nil))
      (pss_cons (ps_for PassesOwn.never rfl (pi_range1 (by rfl) B.rng (pa_cons (pv 3) pa_nil)) (pg_name (i := 5) scLTour.nd rfl (.inl rfl))
        (pss_one (ps_for PassesOwn.never rfl (pi_range2 (by rfl) B.rng (pa_cons (pe_op op_add (pv 5) pe_int) (pa_cons (pv 3) pa_nil))) (pg_name (i := 6) scLTour.nd rfl (.inl rfl))
          (pss_one (ps_if (pt_cmpR op_eq (pe_call GN hr (by rfl) gN kN bN .nil pass0 (pa_cons (pv 0) (pa_cons pe_int pa_nil))) pe_int (nomark _))
            (pss_one (ps_expr (pe_bm PySem.F.plainAttrs_list PySem.F.slot_list_append PySem.F.type_list_append mt_append (pe_ix (r := rIxL K) ix_list (pv 4) (pv 5) (fun _ _ => rfl)) (pa_cons (pv 6) pa_nil))))
            (pss_one (ps_expr (pe_bm PySem.F.plainAttrs_list PySem.F.slot_list_append PySem.F.type_list_append mt_append (pe_ix (r := rIxL K) ix_list (pv 4) (pv 6) (fun _ _ => rfl)) (pa_cons (pv 5) pa_nil)))))))))
      (pss_one (ps_ret (pe_callTy call_tuple_of (by rfl) B.tup boot_tuple (pa_cons (pe_lc (own := [("_law_row", 8)]) (g := gName 8) (tt := tYes) rfl scLTour.nd (pi_list (pv 4)) (blkOk_by (N := nLTour) (sc := defScope sLTour) (by decide +kernel)) (fun _ _ _ _ _ => pg_name (i := 8) scLTour.nd rfl (Or.inl rfl)) (fun _ _ _ _ _ => pts_nil)
        (fun _ _ _ _ _ => pe_callTy (r := rTupOf K) call_tuple_of (by rfl) B.tup boot_tuple (pa_cons (pe_callB (r := rSorted K) cr_sorted (by rfl) B.srt boot_sorted (pa_cons (pv 8) pa_nil)) pa_nil))) pa_nil)))))), ?_⟩
    refine ⟨_, rfl, nx_call (m := hi - lo + 1) (ea_cons (ev_var rfl) (ea_cons (ev_is (ev_op (ev_op (ev_var rfl) (ev_var rfl) rv_I0) ev_c rv_I0) (congrArg V.int (by omega))) ea_nil)) hs (by omega) fun d H1 x1 s1 hd => ⟨_, _, rfl, rfl, ?_⟩⟩
    obtain ⟨n, hn⟩ : ∃ n, n = lo + d := ⟨_, rfl⟩
    have en : (lo : Int) + (d : Int) = (n : Int) := by omega
    show gName 3 (V.int ((lo : Int) + (d : Int))) _ _ _
    rw [en]
    have hn1 : 1 ≤ n := by omega
    have hn8 : n ≤ 8 := by omega
    refine q_rowsR (n := n) (ea_cons (ev_var rfl) ea_nil) (by omega) (fun _ => rfl) fun v H2 e2 hv => ?_
    obtain ⟨rp, as, rfl, r2⟩ := hv
    have s2 := s1.mono e2
    refine q_forR1 (n := (n : Int)) (ea_cons (ev_var rfl) ea_nil) (by omega) (fun k σ' H' => Exb p H1 H' ∧ StreamAt p l H' ∧ ∃ (dec : Nat → Nat → Bool) (R : Nat → List Nat) (j : Nat) (y5 y6 : Option V), σ' = [some (.ref p), some (.int (lo : Int)), some (.int (hi : Int)), some (.int (n : Int)), some (.ref rp), y5, y6, none, none] ∧ RowsAt H1 H' rp as n R ∧ j ≤ k + 1 ∧ Fill n (fun x => x) dec k j R)
      (fun H3 e3 => ⟨exb (e2.trans e3), s2.mono e3, fun _ _ => true, _, 0, none, none, rfl, r2.mono e3, by omega, fill_start⟩) (fun k σ' H' hk hi' => ?_) (fun σ' H' hi' => ?_)
    · obtain ⟨x3, s3, dec, R, j, y5, y6, rfl, r3, hj, F3⟩ := hi'
      have hk : k < n := by omega
      have F3 := F3.begin hj
      refine s_forR2 (lo := (k : Int) + 1) (n := (n : Int)) (ea_cons (ev_op (ev_var rfl) ev_c rv_I0) (ea_cons (ev_var rfl) ea_nil)) (by omega) (fun m σ' H' => Exb p H1 H' ∧ StreamAt p l H' ∧ ∃ (dec : Nat → Nat → Bool) (R : Nat → List Nat) (y6 : Option V), σ' = [some (.ref p), some (.int (lo : Int)), some (.int (hi : Int)), some (.int (n : Int)), some (.ref rp), some (.int (k : Int)), y6, none, none] ∧ RowsAt H1 H' rp as n R ∧ Fill n (fun x => x) dec k (k + 1 + m) R)
        (fun H4 e4 => ⟨x3.trans (exb e4), s3.mono e4, dec, R, y6, rfl, r3.mono e4, F3⟩) (fun m σ' H' hm hi'' => ?_) (fun σ' H' hi'' => ?_)
      · obtain ⟨x4, s4, dec, R, y6, rfl, r4, F4⟩ := hi''
        have hmn : k + 1 + m < n := by omega
        have em : (k : Int) + 1 + (m : Int) = ((k + 1 + m : Nat) : Int) := by omega
        rw [em]
        refine nx_call (m := 2) (ea_cons (ev_var rfl) (ea_cons ev_c ea_nil)) s4 (by decide) fun d H5 x5 s5 hd => ⟨rfl, _, rfl, ?_⟩
        rw [dec_nat0]
        have r5 := r4.exb s1 x5
        have F5 := F4.other (decide (d = 0))
        have len : ∀ i, (R i).length ≤ 100 := fun i => Nat.le_trans (fill_len F4 i) (by omega)
        have F6 := F5.step (show k < k + 1 + m by omega) hmn (fun x y _ _ e => e) (fun x h => h)
        rw [put_same] at F6
        refine ite2 (fun e => ?_) (fun e => ?_)
        · rw [if_pos e] at F6
          refine s_rowApp (K := K) r5 hk (len _) (ev_var rfl) (ev_var rfl) (ev_var rfl) fun H7 c7 e7 n7 g7 r7 => ?_
          exact ⟨Exb.mut ((x4.trans x5).trans (exb e7)) n7, (s5.mono e7).other (s1.new n7), _, _, _, rfl, r7, F6⟩
        · rw [if_neg e] at F6
          refine s_rowApp (K := K) r5 hmn (len _) (ev_var rfl) (ev_var rfl) (ev_var rfl) fun H7 c7 e7 n7 g7 r7 => ?_
          exact ⟨Exb.mut ((x4.trans x5).trans (exb e7)) n7, (s5.mono e7).other (s1.new n7), _, _, _, rfl, r7, F6⟩
      · obtain ⟨x4, s4, dec, R, y6, rfl, r4, F4⟩ := hi''
        have em : k + 1 + ((n : Int) - ((k : Int) + 1)).toNat = n := by omega
        rw [em] at F4
        exact ⟨x4, s4, dec, R, k + 2, _, _, rfl, r4, Nat.le_refl _, F4.turn⟩
    · obtain ⟨x3, s3, dec, R, j, y5, y6, rfl, r3, hj, F3⟩ := hi'
      rw [Int.toNat_natCast] at F3
      exact sp_ret (ep_rowsEnd r3 hn8 (fun k hk => bd_rows F3 hk) rfl (fun _ => rfl) (fun _ => rfl)) fun v H4 e4 hv => q v H4 n _ ((x1.trans x3).trans (exb e4)) (s3.mono e4) bd_trn hn1 hn8 hv
end
end K53

namespace K53
open PySem PySem.Spec PyProof.Rows L2 Evl
abbrev sLOrder : Stmt := tops 30
abbrev nLOrder : List Str := ["_law_stream_here", "_law_many", "_law_left", "_law_order_here", "_law_turn"]
def spLOrder : Sp := fun vs H Q _ => ∃ (p l : Addr) (n : Nat), vs = [.ref p, .int (n : Int)] ∧ StreamAt p l H ∧ 1 ≤ n ∧ n ≤ 8 ∧
  ∀ v H2 o, Exb p H H2 → StreamAt p l H2 → Ord n o → Tpl SgT o v H2 → Q v H2
/-- a list's item at a place of the stream is taken out -/
theorem pop_nx {K : PySem.W.Frag} {σ : L2.St} {H : Hp} {p l a : Addr} {r : List Nat} {te : TE} {tr : TA} {Q : VK} {E : XK} (hs : StreamAt p l H) (ha : H a = some (.lst (nums r))) (ne : a ≠ p) (h0 : 0 < r.length) (h1 : r.length ≤ 100)
    (he : Ev te σ H (.ref a)) (hr : EvA tr σ H [.ref p, .int (r.length : Int)])
    (k : ∀ (j v : Nat) H2, Exb p H H2 → StreamAt p l H2 → r[j]? = some v → H2 a = some (.lst (nums r)) → Q (.int (v : Int)) (upd H2 a (.lst (nums (r.eraseIdx j))))) :
    tBM K "list" rPopAt te (tCons (tCall spNext [] E tr) tNil) σ H Q := by
  refine he H (Ex.refl H) _ fun H1 e1 => ⟨.inl ⟨rfl, _, SqL.of (e1 _ _ ha)⟩, nx_call (m := r.length) (hr.mono e1) (hs.mono e1) ⟨h0, h1⟩ fun d H2 x2 s2 hd => ?_⟩
  have hv : r[d]? = some r[d] := List.getElem?_eq_getElem hd
  have hd' : d < (nums r).length := by
    rw [List.length_map]
    exact hd
  have h2 := x2 _ _ ne (e1 _ _ ha)
  refine ⟨a, nums r, (d : Int), d, .int (r[d] : Int), rfl, rfl, h2, by omega, by omega, (ixN_seq (ixN_nat hd')).1, ?_, ?_⟩
  · rw [List.getElem?_map, hv]
    rfl
  · have g := k d r[d] H2 ((exb e1).trans x2) s2 hv h2
    rw [show nums (r.eraseIdx d) = (nums r).eraseIdx d from (map_pop _ _ _).symm] at g
    exact g
theorem cat_raw {α : Type} {S : α → Pp} {K : PySem.W.Frag} {x y : V} {H : Hp} {Q : VK} {l m : List α} (hS : ∀ a, MonT (S a)) (h1 : Tpl S l x H) (h2 : Tpl S m y H) (hl : l ≠ []) (hz : l.length + m.length ≤ 1000) (q : ∀ z H1, Ex H H1 → Tpl S (l ++ m) z H1 → Q z H1) : rCatT K x y H Q :=
  ep_cat (K := K) (σ := []) (H := H) (ta := fun _ H Q => Q x H) (tb := fun _ H Q => Q y H) hS (fun H9 e9 Q q => q _ H9 (Ex.refl H9) (tpl_monT hS _ _ _ (exT e9) h1)) (fun H9 e9 H10 e10 Q q => q _ H10 (Ex.refl H10) (tpl_monT hS _ _ _ (exT (e9.trans e10)) h2)) hl hz H (Ex.refl H) Q q
section
variable {P : Program} {w : World} {K : PySem.W.Frag} {mg : Str → Option Value} {base : Heap}
theorem scLOrder : FnScope nLOrder ["_law_stream_here", "_law_many"] (defScope sLOrder) := ⟨rfl, rfl, rfl, by decide +kernel, rfl, by decide +kernel, by decide +kernel⟩
theorem ok_lorder {f fN : Addr} {fd fdN : FuncData} (F : Fun K "_law_order" "_law_order" sLOrder f fd) (B : Bt mg)
    (GN : FnOk P w K mg base CX0 1 fN fdN ["_law_stream_here", "_law_many"] spNext) (kN : PySem.W.keepIn K (.ref fN) = true) (bN : Binds K fdN ["_law_stream_here", "_law_many"] []) (gN : mg "_law_next" = some (.ref fN)) :
    FnOk P w K mg base CX0 2 f fd ["_law_stream_here", "_law_many"] spLOrder := by
  refine F.ok scLOrder (fun vs H Q E h => ?_) (fun cdv A outer s H vs Q E hr h => ?_)
  · obtain ⟨p, l, n, rfl, _⟩ := h
    rfl
  · obtain ⟨p, l, n, rfl, hs, h1, h8, q⟩ := h
    refine ⟨_, pss_cons (ps_set (i := 2) scLOrder.nd rfl (.inl rfl) (pe_listRg rfl (by rfl) B.lst (prg_2 (by rfl) B.rng pe_int (pv 1))))
      (pss_cons (ps_set (i := 3) scLOrder.nd rfl (.inl rfl) (pe_tup (pa_cons (pe_tup (pa_cons pe_int (pa_cons pe_bl pa_nil))) pa_nil)))
      (pss_cons (ps_for PassesOwn.never rfl (pi_range1 (by rfl) B.rng (pa_cons (pe_op op_sub (pv 1) pe_int) pa_nil)) (pg_name (i := 4) scLOrder.nd rfl (.inl rfl))
        (pss_one (ps_set (i := 3) scLOrder.nd rfl (.inl rfl) (pe_op (r := rCatT K) op_catT (pv 3) (pe_tup (pa_cons (pe_tup (pa_cons
          (pe_bm PySem.F.plainAttrs_list PySem.F.slot_list_pop PySem.F.type_list_pop mt_popAt (pv 2) (pa_cons (pe_call GN hr (by rfl) gN kN bN .nil pass0 (pa_cons (pv 0) (pa_cons (pe_callB (r := rLenS K) call_len_seq (by rfl) B.len PySem.boot_len (pa_cons (pv 2) pa_nil)) pa_nil))) pa_nil))
          (pa_cons (pe_cmpR op_eq (pe_call GN hr (by rfl) gN kN bN .nil pass0 (pa_cons (pv 0) (pa_cons pe_int pa_nil))) pe_int (nomark _)) pa_nil))) pa_nil))))))
      (pss_one (ps_ret (pv 3))))), ?_⟩
    refine ⟨_, rfl, 1, (n : Int), rfl, rfl, ⟨by omega, by omega, by omega, by omega, by omega⟩, fun a ha => ?_⟩
    rw [rgV_nums]
    have hn := hs.new ha
    have hleft : EvP (tTup (tCons (tTup (tCons (tC (.int 0)) (tCons (tC (.bl true)) tNil))) tNil)) [some (.ref p), some (.int (n : Int)), some (.ref a), none, none] (upd H a (.lst (nums (List.range' 1 (n - 1))))) (Tpl SgT [(0, true)]) := fun H6 e6 Q2 q2 => by
      refine ⟨by show 2 ≤ sizeLine; decide, fun c hc => ⟨by show 1 ≤ sizeLine; decide, fun d hd => ?_⟩⟩
      refine q2 _ _ ((Ex.new hc).trans (Ex.new hd)) ⟨d, [.ref c], rfl, upd_same, .cons ⟨c, rfl, ?_⟩ .nil⟩
      exact Ex.new hd _ _ upd_same
    refine qp_asg hleft fun ov H1 e1 hov => ?_
    have st : List.range n = 0 :: List.range' 1 (n - 1) := by
      obtain ⟨m, rfl⟩ : ∃ m, n = m + 1 := ⟨n - 1, by omega⟩
      rw [List.range_eq_range', List.range'_succ]
      rfl
    refine q_forR1 (n := (n : Int) - 1) (ea_cons (ev_op (ev_var rfl) ev_c rv_I0) ea_nil) (by omega) (fun i σ' H' => Exb p H H' ∧ StreamAt p l H' ∧ ∃ (o : List (Nat × Bool)) (r : List Nat) (ov : V) (y4 : Option V), σ' = [some (.ref p), some (.int (n : Int)), some (.ref a), some ov, y4] ∧ H' a = some (.lst (nums r)) ∧ Tpl SgT o ov H' ∧ (pls o ++ r).Perm (List.range n) ∧ o.length = i + 1)
      (fun H2 e2 => ⟨(exb (Ex.new ha)).trans (exb (e1.trans e2)), ((hs.mono (Ex.new ha)).mono e1).mono e2, [(0, true)], List.range' 1 (n - 1), ov, none, rfl, (e1.trans e2) _ _ upd_same, tpl_monT sgT_monT _ _ _ (exT e2) hov, by rw [st]; exact List.Perm.refl _, rfl⟩) (fun i σ' H' hi hI => ?_) (fun σ' H' hI => ?_)
    · obtain ⟨x1, s1, o, r, ov, y4, rfl, hr1, hov, hp, ho⟩ := hI
      have hl := hp.length_eq
      unfold pls at hl
      rw [List.length_append, List.length_map, List.length_range] at hl
      refine ⟨ov, rfl, pop_nx s1 hr1 hn.1 (by omega) (by omega) (ev_var rfl) (ea_cons (ev_var rfl) (ea_cons (ev_is (ev_len (ev_var rfl) (SqL.of hr1)) (by rw [List.length_map])) ea_nil)) fun j v H2 x2 s2 hv h2 => ?_⟩
      have s2' : StreamAt p l (upd H2 a (.lst (nums (r.eraseIdx j)))) := s2.other hn
      refine nx_call (m := 2) (ea_cons (ev_var rfl) (ea_cons ev_c ea_nil)) s2' (by decide) fun d H3 x3 s3 hd => ⟨rfl, by show 2 ≤ sizeLine; decide, fun c hc => ⟨by show 1 ≤ sizeLine; decide, fun e he => ?_⟩⟩
      have t2 : ExT H' (upd H2 a (.lst (nums (r.eraseIdx j)))) := (s1.exT x2).trans (ExT.lst h2)
      have t3 : ExT H' (upd (upd H3 c (.tup [.int (v : Int), .bl (decide (V.int (d : Int) = V.int 0))])) e (.tup [.ref c])) := t2.trans ((s2'.exT x3).trans ((exT (Ex.new hc)).trans (exT (Ex.new he))))
      refine cat_raw (m := [(v, decide (V.int (d : Int) = V.int 0))]) sgT_monT (tpl_monT sgT_monT _ _ _ t3 hov) ⟨e, [.ref c], rfl, upd_same, .cons ⟨c, rfl, Ex.new he _ _ upd_same⟩ .nil⟩ (fun z => by rw [z] at ho; cases ho) (by rw [ho]; show i + 1 + 1 ≤ 1000; omega) fun z H4 e4 hz => ?_
      refine ⟨?_, ((s3.mono (Ex.new hc)).mono (Ex.new he)).mono e4, _, r.eraseIdx j, z, _, rfl, ?_, hz, ?_, by rw [List.length_append, ho]; rfl⟩
      · exact ((Exb.mut (x1.trans x2) ha).trans x3).trans (exb (((Ex.new hc).trans (Ex.new he)).trans e4))
      · exact (((Ex.new hc).trans (Ex.new he)).trans e4) _ _ (x3 _ _ hn.1 upd_same)
      · have e0 : pls (o ++ [(v, decide (V.int (d : Int) = V.int 0))]) = pls o ++ [v] := by
          unfold pls
          rw [List.map_append]
          rfl
        rw [e0, List.append_assoc]
        exact (List.Perm.append_left _ (perm_pop hv).symm).trans hp
    · obtain ⟨x1, s1, o, r, ov, y4, rfl, hr1, hov, hp, ho⟩ := hI
      have ho : o.length = n := by omega
      have hl := hp.length_eq
      unfold pls at hl
      rw [List.length_append, List.length_map, List.length_range] at hl
      have er : r = [] := List.eq_nil_of_length_eq_zero (by omega)
      rw [er, List.append_nil] at hp
      refine s_ret (ev_var rfl) fun H2 e2 => q ov H2 o (x1.trans (exb e2)) (s1.mono e2) ⟨ho, hp.nodup_iff.mpr List.nodup_range, fun i => ?_⟩ (tpl_monT sgT_monT _ _ _ (exT e2) hov)
      rw [hp.mem_iff, List.mem_range]
end
end K53

namespace K53
open PySem PySem.Spec PyProof.Rows L2 Evl
abbrev sLBy : Stmt := tops 31
abbrev nLBy : List Str := ["_law_order_here", "_law_rows_here", "_law_k", "_law_j", "_law_one", "_law_other", "_law_entry", "_law_row"]
abbrev sLSome : Stmt := tops 32
theorem ev_fst {K : PySem.W.Frag} {σ : L2.St} {H : Hp} {ta : TE} {e : Nat × Bool} (h : EvP ta σ H (SgT e)) : Ev (tOp (rIxT K) ta (tC (.int 0))) σ H (.int (e.1 : Int)) := fun H1 a Q q =>
  h H1 a _ fun v H2 e2 ⟨c, ev, hc⟩ => ⟨c, _, 0, _, ev, rfl, SqT.of hc, atI_nat (j := 0) rfl, q H2 e2⟩
theorem ev_snd {K : PySem.W.Frag} {σ : L2.St} {H : Hp} {ta : TE} {e : Nat × Bool} (h : EvP ta σ H (SgT e)) : Ev (tOp (rIxT K) ta (tC (.int 1))) σ H (.bl e.2) := fun H1 a Q q =>
  h H1 a _ fun v H2 e2 ⟨c, ev, hc⟩ => ⟨c, _, 1, _, ev, rfl, SqT.of hc, atI_nat (j := 1) rfl, q H2 e2⟩
theorem q_par {σ : L2.St} {H : Hp} {D : Ends} {tz : TS} {i j : Nat} {ta : TA} {u v : V} (h : EvA ta σ H [u, v]) (k : ∀ H1, Ex H H1 → tz D ((σ.set i (some u)).set j (some v)) H1) : tSeq (tPar i j ta) tz D σ H :=
  h H (Ex.refl H) _ fun H1 e1 => ⟨u, v, rfl, k H1 e1⟩
section
variable {P : Program} {w : World} {K : PySem.W.Frag} {mg : Str → Option Value} {base : Heap}
theorem scLBy : FnScope nLBy ["_law_order_here"] (defScope sLBy) := ⟨rfl, rfl, rfl, by decide +kernel, rfl, by decide +kernel, by decide +kernel⟩
theorem ok_lby {f : Addr} {fd : FuncData} (F : Fun K "_law_by_order" "_law_by_order" sLBy f fd) (B : Bt mg) : FnOk P w K mg base CX0 1 f fd ["_law_order_here"] spTby := by
  refine F.ok scLBy (fun vs H Q E h => ?_) (fun cdv A outer s H vs Q E hr h => ?_)
  · obtain ⟨x, o, n, rfl, _⟩ := h
    rfl
  · obtain ⟨x, o, n, rfl, hx, h1, h8, O, q⟩ := h
    refine ⟨_, pss_cons (ps_setLc (i := 1) (own := [("_law_entry", 6)]) (g := gName 6) (tt := tYes) rfl scLBy.nd rfl rfl (sw_true rfl rfl rfl (by decide +kernel)) (pi_tup (pv 0)) (blkOk_by (N := nLBy) (sc := defScope sLBy) (by decide +kernel)) (fun _ _ _ _ _ => pg_name (i := 6) scLBy.nd rfl (Or.inl rfl)) (fun _ _ _ _ _ => pts_nil) (fun _ _ _ _ _ => pe_lst pa_nil))
      (pss_cons (ps_for PassesOwn.never rfl (pi_range1 (by rfl) B.rng (pa_cons (pe_callB (r := rLenS K) call_len_seq (by rfl) B.len PySem.boot_len (pa_cons (pv 0) pa_nil)) pa_nil)) (pg_name (i := 2) scLBy.nd rfl (.inl rfl))
        (pss_one (ps_for PassesOwn.never rfl (pi_range2 (by rfl) B.rng (pa_cons (pe_op op_add (pv 2) pe_int) (pa_cons (pe_callB (r := rLenS K) call_len_seq (by rfl) B.len PySem.boot_len (pa_cons (pv 0) pa_nil)) pa_nil))) (pg_name (i := 3) scLBy.nd rfl (.inl rfl))
          (pss_cons (ps_par (i := 4) (j := 5) (by rfl) scLBy.nd rfl rfl (by decide) rfl rfl (pa_cons (pe_ix (r := rIxT K) ix_tup (pe_ix (r := rIxT K) ix_tup (pv 0) (pv 2) (fun _ _ => rfl)) pe_int (fun _ _ => rfl)) (pa_cons (pe_ix (r := rIxT K) ix_tup (pe_ix (r := rIxT K) ix_tup (pv 0) (pv 3) (fun _ _ => rfl)) pe_int (fun _ _ => rfl)) pa_nil)) (by rfl))
          (pss_one (ps_if (pt_cmpR op_eq (pe_ix (r := rIxT K) ix_tup (pe_ix (r := rIxT K) ix_tup (pv 0) (pv 2) (fun _ _ => rfl)) pe_int (fun _ _ => rfl)) (pe_ix (r := rIxT K) ix_tup (pe_ix (r := rIxT K) ix_tup (pv 0) (pv 3) (fun _ _ => rfl)) pe_int (fun _ _ => rfl)) (nomark _))
            (pss_one (ps_expr (pe_bm PySem.F.plainAttrs_list PySem.F.slot_list_append PySem.F.type_list_append mt_append (pe_ix (r := rIxL K) ix_list (pv 1) (pv 4) (fun _ _ => rfl)) (pa_cons (pv 5) pa_nil))))
            (pss_one (ps_expr (pe_bm PySem.F.plainAttrs_list PySem.F.slot_list_append PySem.F.type_list_append mt_append (pe_ix (r := rIxL K) ix_list (pv 1) (pv 5) (fun _ _ => rfl)) (pa_cons (pv 4) pa_nil))))))))))
      (pss_one (ps_ret (pe_callTy call_tuple_of (by rfl) B.tup boot_tuple (pa_cons (pe_lc (own := [("_law_row", 7)]) (g := gName 7) (tt := tYes) rfl scLBy.nd (pi_list (pv 1)) (blkOk_by (N := nLBy) (sc := defScope sLBy) (by decide +kernel)) (fun _ _ _ _ _ => pg_name (i := 7) scLBy.nd rfl (Or.inl rfl)) (fun _ _ _ _ _ => pts_nil)
        (fun _ _ _ _ _ => pe_callTy (r := rTupOf K) call_tuple_of (by rfl) B.tup boot_tuple (pa_cons (pe_callB (r := rSorted K) cr_sorted (by rfl) B.srt boot_sorted (pa_cons (pv 7) pa_nil)) pa_nil))) pa_nil))))), ?_⟩
    obtain ⟨a, ys, rfl, ha, hy⟩ := hx
    have hyl : ys.length = n := by rw [← each_len hy, O.len]
    have hX : ∀ {H1 : Hp} {σ : L2.St}, Ex H H1 → σ[0]? = some (some (.ref a)) → EvP (tVar 0) σ H1 (Tpl SgT o) := fun e h0 => ep_var (tpl_monT sgT_monT).mon h0 ⟨a, ys, rfl, e _ _ ha, hy.mono sgT_monT (exT e)⟩
    have hL : ∀ {H1 : Hp} {σ : L2.St}, Ex H H1 → σ[0]? = some (some (.ref a)) → Ev (tCB (rLenS K) (tCons (tVar 0) tNil)) σ H1 (.int (n : Int)) := fun e h0 => ev_is (ev_lenT (hX e h0)) (by rw [O.len])
    refine q_rowsT (K := K) ha (ev_var rfl) (by omega) (fun _ => rfl) fun v H1 e1 hv => ?_
    obtain ⟨p, as, rfl, r⟩ := hv
    rw [hyl] at r
    refine q_forR1 (n := (n : Int)) (ea_cons (hL e1 rfl) ea_nil) (by omega) (fun k σ' H' => Ex H H' ∧ ∃ (R : Nat → List Nat) (j : Nat) (y2 y3 y4 y5 : Option V), σ' = [some (.ref a), some (.ref p), y2, y3, y4, y5, none, none] ∧ RowsAt H H' p as n R ∧ j ≤ k + 1 ∧ Fill n (plo o) (deco o) k j R)
      (fun H2 e2 => ⟨e1.trans e2, _, 0, none, none, none, none, rfl, r.mono e2, by omega, fill_start⟩) (fun k σ' H' hk hi => ?_) (fun σ' H' hi => ?_)
    · obtain ⟨e2, R, j, y2, y3, y4, y5, rfl, r2, hj, F2⟩ := hi
      have F2 := F2.begin hj
      have hk : k < n := by omega
      refine s_forR2 (lo := (k : Int) + 1) (n := (n : Int)) (ea_cons (ev_op (ev_var rfl) ev_c rv_I0) (ea_cons (hL e2 rfl) ea_nil)) (by omega) (fun m σ' H' => Ex H H' ∧ ∃ (R : Nat → List Nat) (y3 y4 y5 : Option V), σ' = [some (.ref a), some (.ref p), some (.int (k : Int)), y3, y4, y5, none, none] ∧ RowsAt H H' p as n R ∧ Fill n (plo o) (deco o) k (k + 1 + m) R)
        (fun H4 e4 => ⟨e2.trans e4, R, y3, y4, y5, rfl, r2.mono e4, F2⟩) (fun m σ' H' hm hi' => ?_) (fun σ' H' hi' => ?_)
      · obtain ⟨e5, R5, z3, z4, z5, rfl, r5, F5⟩ := hi'
        have hm : k + 1 + m < n := by omega
        have em : (k : Int) + 1 + (m : Int) = ((k + 1 + m : Nat) : Int) := by omega
        rw [em]
        have hA : ∀ {H1 : Hp} {σ : L2.St} {i z : Nat}, Ex H H1 → σ[0]? = some (some (.ref a)) → z < n → σ[i]? = some (some (.int (z : Int))) → EvP (tOp (rIxT K) (tVar 0) (tVar i)) σ H1 (SgT (plo o z, sgo o z)) := fun e h0 hz hi => ep_itT sgT_monT (hX e h0) (ev_var hi) (O.at hz)
        have hE : EvA (tCons (tOp (rIxT K) (tOp (rIxT K) (tVar 0) (tVar 2)) (tC (.int 0))) (tCons (tOp (rIxT K) (tOp (rIxT K) (tVar 0) (tVar 3)) (tC (.int 0))) tNil)) [some (.ref a), some (.ref p), some (.int (k : Int)), some (.int ((k + 1 + m : Nat) : Int)), z4, z5, none, none] H' [.int (plo o k : Int), .int (plo o (k + 1 + m) : Int)] :=
          ea_cons (ev_fst (hA e5 rfl hk rfl)) (ea_cons (ev_fst (hA e5 rfl hm rfl)) ea_nil)
        refine q_par hE fun H4 e4 => ?_
        have len : ∀ i, (R5 i).length ≤ 100 := fun i => Nat.le_trans (fill_len F5 i) (by omega)
        have e54 := e5.trans e4
        refine s_if (b := deco o k (k + 1 + m)) (et_is (et_test (ev_op (ev_snd (hA e54 rfl hk rfl)) (ev_snd (hA e54 rfl hm rfl)) (rv_eq rfl))) ?_) (fun hd H6 e6 => ?_) (fun hd H6 e6 => ?_)
        · unfold deco
          rw [dec_bl]
        · refine s_rowApp (K := K) ((r5.mono e4).mono e6) (O.ran k hk) (len _) (ev_var rfl) (ev_var rfl) (ev_var rfl) fun H7 c7 e7 n7 g7 r7 => ?_
          exact ⟨Ex.mut ((e54.trans e6).trans e7) n7, _, _, _, _, rfl, r7, fill_true O F5 (show k < k + 1 + m by omega) hm hd⟩
        · refine s_rowApp (K := K) ((r5.mono e4).mono e6) (O.ran _ hm) (len _) (ev_var rfl) (ev_var rfl) (ev_var rfl) fun H7 c7 e7 n7 g7 r7 => ?_
          exact ⟨Ex.mut ((e54.trans e6).trans e7) n7, _, _, _, _, rfl, r7, fill_false O F5 (show k < k + 1 + m by omega) hm hd⟩
      · obtain ⟨e5, R5, z3, z4, z5, rfl, r5, F5⟩ := hi'
        have em : k + 1 + ((n : Int) - ((k : Int) + 1)).toNat = n := by omega
        rw [em] at F5
        exact ⟨e5, R5, k + 2, _, _, _, _, rfl, r5, Nat.le_refl _, F5.turn⟩
    · obtain ⟨e2, R, j, y2, y3, y4, y5, rfl, r2, hj, F2⟩ := hi
      rw [Int.toNat_natCast] at F2
      exact sp_ret (ep_rowsEnd r2 h8 (O.fill_end F2) rfl (fun _ => rfl) (fun _ => rfl)) fun v H3 e3 hv => q v H3 (e2.trans e3) hv
/-- some tournament -/
theorem scLSome : FnScope ["_law_stream_here", "_law_least", "_law_most"] ["_law_stream_here", "_law_least", "_law_most"] (defScope sLSome) := ⟨rfl, rfl, rfl, by decide +kernel, rfl, by decide +kernel, by decide +kernel⟩
theorem ok_lsome {f fN fT fB fO : Addr} {fd fdN fdT fdB fdO : FuncData} (F : Fun K "_law_some" "_law_some" sLSome f fd)
    (GN : FnOk P w K mg base CX0 1 fN fdN ["_law_stream_here", "_law_many"] spNext) (kN : PySem.W.keepIn K (.ref fN) = true) (bN : Binds K fdN ["_law_stream_here", "_law_many"] []) (gN : mg "_law_next" = some (.ref fN))
    (GT : FnOk P w K mg base CX0 2 fT fdT ["_law_stream_here", "_law_least", "_law_most"] spLTour) (kT : PySem.W.keepIn K (.ref fT) = true) (bT : Binds K fdT ["_law_stream_here", "_law_least", "_law_most"] []) (gT : mg "_law_tournament" = some (.ref fT))
    (GB : FnOk P w K mg base CX0 1 fB fdB ["_law_order_here"] spTby) (kB : PySem.W.keepIn K (.ref fB) = true) (bB : Binds K fdB ["_law_order_here"] []) (gB : mg "_law_by_order" = some (.ref fB))
    (GO : FnOk P w K mg base CX0 2 fO fdO ["_law_stream_here", "_law_many"] spLOrder) (kO : PySem.W.keepIn K (.ref fO) = true) (bO : Binds K fdO ["_law_stream_here", "_law_many"] []) (gO : mg "_law_order" = some (.ref fO)) :
    FnOk P w K mg base CX0 3 f fd ["_law_stream_here", "_law_least", "_law_most"] spLTour := by
  refine F.ok scLSome (fun vs H Q E h => ?_) (fun cdv A outer s H vs Q E hr h => ?_)
  · obtain ⟨p, l, lo, hi, rfl, _⟩ := h
    rfl
  · obtain ⟨p, l, lo, hi, rfl, hs, h1, h2, h3, q⟩ := h
    refine ⟨_, pss_cons (ps_if (pt_cmpR op_eq (pe_call GN (hr.mono (by decide)) (by rfl) gN kN bN .nil pass0 (pa_cons (pv 0) (pa_cons pe_int pa_nil))) pe_int (nomark _))
        (pss_one (ps_ret (pe_call GT hr (by rfl) gT kT bT .nil pass0 (pa_cons (pv 0) (pa_cons (pv 1) (pa_cons (pv 2) pa_nil)))))) pss_nil)
      (pss_one (ps_ret (pe_call GB (hr.mono (by decide)) (by rfl) gB kB bB .nil pass0 (pa_cons (pe_call GO hr (by rfl) gO kO bO .nil pass0 (pa_cons (pv 0) (pa_cons (pe_op op_add (pv 1) (pe_call GN (hr.mono (by decide)) (by rfl) gN kN bN .nil pass0 (pa_cons (pv 0) (pa_cons (pe_op op_add (pe_op op_sub (pv 2) (pv 1)) pe_int) pa_nil)))) pa_nil))) pa_nil)))), ?_⟩
    refine nx_call (m := 2) (ea_cons (ev_var rfl) (ea_cons ev_c ea_nil)) hs (by decide) fun d H1 x1 s1 hd => ⟨rfl, _, rfl, ?_⟩
    refine ite2 (fun e => ?_) (fun e => ?_)
    · exact ⟨_, rfl, _, rfl, _, rfl, p, l, lo, hi, rfl, s1, h1, h2, h3, fun v H2 n b x2 s2 => q v H2 n b (x1.trans x2) s2⟩
    · refine ⟨_, rfl, _, rfl, nx_call (m := hi - lo + 1) (ea_cons (ev_var rfl) (ea_cons (ev_is (ev_op (ev_op (ev_var rfl) (ev_var rfl) rv_I0) ev_c rv_I0) (congrArg V.int (by omega))) ea_nil)) s1 (by omega) fun d2 H2 x2 s2 hd2 => ⟨_, _, rfl, rfl, ?_⟩⟩
      refine ⟨p, l, lo + d2, ?_, s2, by omega, by omega, fun ov H3 o x3 s3 O ho => ?_⟩
      · show [V.ref p, V.int ((lo : Int) + (d2 : Int))] = _
        rw [show (lo : Int) + (d2 : Int) = ((lo + d2 : Nat) : Int) by omega]
      · exact ⟨ov, o, lo + d2, rfl, ho, by omega, by omega, O, fun v H4 e4 hv => q v H4 (lo + d2) _ (((x1.trans x2).trans x3).trans (exb e4)) (s3.mono e4) O.trn (by omega) (by omega) hv⟩
end
end K53

namespace K53
open PySem PySem.Spec PyProof.Rows L2 Evl
abbrev sLRows : Stmt := tops 34
abbrev nLRows : List Str := ["_law_tournament_here", "_law_many", "_law_rows_here", "_law_turn", "_law_longer", "_law_row", "_law_player", "_law_beaten"]
abbrev sLTri : Stmt := tops 35
abbrev nLTri : List Str := ["_law_tournament_here", "_law_found", "_law_row"]
def lv (n : Nat) (b : Nat → Nat → Bool) : Nat → List (List Nat)
  | 0 => one n
  | i + 1 => exts n b (lv n b i)
theorem lv_rows {n : Nat} {b : Nat → Nat → Bool} : ∀ i, ∀ r ∈ lv n b i, r.length = i + 1 ∧ ∃ q u, r = q ++ [u] ∧ u < n
  | 0, r, h => by
    obtain ⟨k, hk, rfl⟩ := List.mem_map.mp h
    exact ⟨rfl, [], k, rfl, List.mem_range.mp hk⟩
  | i + 1, r, h => by
    have h : r ∈ (lv n b i).flatMap (ext n b) := h
    obtain ⟨q, hq, hr⟩ := List.mem_flatMap.mp h
    obtain ⟨v, hv, rfl⟩ := List.mem_map.mp hr
    have ih := (lv_rows i q hq).1
    exact ⟨by rw [List.length_append, ih]; rfl, q, v, rfl, (mem_row.mp (List.mem_filter.mp hv).1).1⟩
theorem lv_len {n : Nat} {b : Nat → Nat → Bool} (h8 : n ≤ 8) : (lv n b 0).length ≤ 8 ∧ (lv n b 1).length ≤ 64 ∧ (lv n b 2).length ≤ 512 := by
  have h0 : (lv n b 0).length = n := by
    show (one n).length = n
    unfold one
    rw [List.length_map, List.length_range]
  have h1 : (lv n b 1).length ≤ (lv n b 0).length * n := exts_len _
  have h2 : (lv n b 2).length ≤ (lv n b 1).length * n := exts_len _
  have a1 : (lv n b 0).length * n ≤ 8 * 8 := Nat.mul_le_mul (by omega) h8
  have a2 : (lv n b 1).length * n ≤ 64 * 8 := Nat.mul_le_mul (by omega) h8
  omega
def spLRows : Sp := fun vs H Q _ => ∃ (x : V) (n : Nat) (b : Nat → Nat → Bool), vs = [x, .int 3] ∧ Tour n b x H ∧ 1 ≤ n ∧ n ≤ 8 ∧ ∀ v H2, Ex H H2 → Lst IntsT (exts n b (exts n b (one n))) v H2 → Q v H2
def spLTri : Sp := fun vs H Q _ => ∃ (x : V) (n : Nat) (b : Nat → Nat → Bool), vs = [x] ∧ Tour n b x H ∧ 1 ≤ n ∧ n ≤ 8 ∧ ∀ v H2 m, Ex H H2 → m.Perm (tris n b) → Lst IntsT m v H2 → Q v H2
section
variable {K : PySem.W.Frag} {σ : L2.St} {H : Hp} {ta tb te : TE} {D : Ends} {P : Pp}
theorem sp_asg {i : Nat} (h : EvP te σ H P) (k : ∀ v H1, Ex H H1 → P v H1 → D.nx (σ.set i (some v)) H1) : tAsg te (gName i) D σ H := h H (Ex.refl H) _ fun v H1 e p => k v H1 e p
theorem ep_catL {α : Type} {S : α → Pp} {l m : List α} (hS : ∀ a, MonT (S a)) (ha : EvP ta σ H (Lst S l)) (hb : ∀ H1, Ex H H1 → EvP tb σ H1 (Lst S m)) (hz : l.length + m.length ≤ 10000) : EvP (tOp rCat ta tb) σ H (Lst S (l ++ m)) :=
  ep_op ha (fun _ H1 e _ => hb H1 e) (lst_mon hS) fun x y H1 e ⟨p, ys, ex, hp, hy⟩ ⟨r, zs, ey, hr, hw⟩ Q q => by
    subst ex ey
    have e1 := each_len hy
    have e2 := each_len hw
    exact ⟨p, r, ys, zs, rfl, rfl, hp, hr, sz_of (by omega), fun c hc => q _ _ (Ex.new hc) ⟨c, ys ++ zs, rfl, upd_same, each_append (hy.mono hS (exT (Ex.new hc))) (hw.mono hS (exT (Ex.new hc)))⟩⟩
theorem ev_last {q : List Nat} {u : Nat} (h : EvP ta σ H (IntsT (q ++ [u]))) : Ev (tOp (rIxT K) ta (tUn (rU fun i => .int (-i)) (tC (.int 1)))) σ H (.int (u : Int)) := fun H1 e Q k =>
  h H1 e _ fun v H2 e2 ⟨c, ev, hc⟩ => ⟨1, rfl, c, nums (q ++ [u]), -1, .int (u : Int), ev, rfl, SqT.of hc, by
    unfold nums
    rw [List.map_append]
    exact atI_last _ _, k H2 e2⟩
theorem ep_tup1 {k : Nat} (h : Ev te σ H (.int (k : Int))) : EvP (tTup (tCons te tNil)) σ H (Tpl (fun k : Nat => Is (.int (k : Int))) [k]) := fun H1 e Q q =>
  eu_tup (ea_cons h ea_nil) (by show 1 ≤ 100000; decide) H1 e Q fun p H2 hp e2 h2 => q _ H2 e2 ⟨p, _, rfl, h2, .cons rfl .nil⟩
theorem ep_sortE {α : Type} {S : α → Pp} {dat : α → PyData} {l : List α} (hS : ∀ a, MonT (S a)) (hd : ∀ a v H, S a v H → Dp K H v (dat a)) (hal : ∀ a b, PySem.W.alike (dat a) (dat b) = true) (ht : ∀ a ∈ l, ∃ x r, dat a = .tuple (x :: r)) (hdep : ∀ a, (dat a).depth ≤ 20) (h : EvP te σ H (Lst S l)) :
    EvP (tCB (rSortD K (β := α × V) Prod.snd fun z => dat z.1) (tCons te tNil)) σ H (fun v H1 => ∃ m : List α, m.Perm l ∧ Lst S m v H1) :=
  ep_cb1 h fun v H1 e ⟨p, ys, ev, hp, hy⟩ Q q => by
    subst ev
    have hl := each_len hy
    have e1 : (l.zip ys).map Prod.snd = ys := List.map_snd_zip (by omega)
    have e2 : (l.zip ys).map Prod.fst = l := List.map_fst_zip (by omega)
    have hz := zip_each hy
    refine ⟨p, l.zip ys, rfl, SqL.of (by rw [e1]; exact hp), ⟨fun z hz' => hd _ _ _ (hz z hz'), fun d hd1 d' hd2 => ?_, .inl fun d hd1 => ?_, fun z _ => hdep _⟩, fun cs c hc hw hn => ?_⟩
    · obtain ⟨z, _, rfl⟩ := List.mem_map.mp hd1
      obtain ⟨z', _, rfl⟩ := List.mem_map.mp hd2
      exact hal _ _
    · obtain ⟨z, hz', rfl⟩ := List.mem_map.mp hd1
      exact ht _ (List.of_mem_zip hz').1
    · refine q _ _ (Ex.new hn) ⟨cs.map Prod.fst, ?_, c, cs.map Prod.snd, rfl, upd_same, each_zip fun z hz' => ?_⟩
      · have := hc.map Prod.fst
        rw [e2] at this
        exact this
      · exact hS _ _ _ _ (exT (Ex.new hn)) (hz z (hc.mem_iff.mp hz'))
end
section
variable {P : Program} {w : World} {K : PySem.W.Frag} {mg : Str → Option Value} {base : Heap}
theorem scLRows : FnScope nLRows ["_law_tournament_here", "_law_many"] (defScope sLRows) := ⟨rfl, rfl, rfl, by decide +kernel, rfl, by decide +kernel, by decide +kernel⟩
theorem ok_lrows {f : Addr} {fd : FuncData} (F : Fun K "_law_rows" "_law_rows" sLRows f fd) (B : Bt mg) : FnOk P w K mg base CX0 1 f fd ["_law_tournament_here", "_law_many"] spLRows := by
  refine F.ok scLRows (fun vs H Q E h => ?_) (fun cdv A outer s H vs Q E hr h => ?_)
  · obtain ⟨x, n, b, rfl, _⟩ := h
    rfl
  · obtain ⟨x, n, b, rfl, hx, h1, h8, q⟩ := h
    refine ⟨_, pss_cons (ps_setLc (i := 2) (own := [("_law_player", 6)]) (g := gName 6) (tt := tYes) rfl scLRows.nd rfl rfl (sw_true rfl rfl rfl (by decide +kernel)) (pi_range1 (by rfl) B.rng (pa_cons (pe_callB (r := rLenS K) call_len_seq (by rfl) B.len PySem.boot_len (pa_cons (pv 0) pa_nil)) pa_nil)) (blkOk_by (N := nLRows) (sc := defScope sLRows) (by decide +kernel)) (fun _ _ _ _ _ => pg_name (i := 6) scLRows.nd rfl (Or.inl rfl)) (fun _ _ _ _ _ => pts_nil) (fun _ _ _ _ _ => pe_tup (pa_cons (pv 6) pa_nil)))
      (pss_cons (ps_for PassesOwn.never rfl (pi_range1 (by rfl) B.rng (pa_cons (pe_op op_sub (pv 1) pe_int) pa_nil)) (pg_name (i := 3) scLRows.nd rfl (.inl rfl))
        (pss_cons (ps_set (i := 4) scLRows.nd rfl (.inl rfl) (pe_lst pa_nil))
        (pss_cons (ps_for PassesOwn.never rfl (pi_list (pv 2)) (pg_name (i := 5) scLRows.nd rfl (.inr rfl))
          (pss_one (ps_set (i := 4) scLRows.nd rfl (.inl rfl) (pe_op op_cat (pv 4) (pe_lc (own := [("_law_beaten", 7)]) (g := gName 7) rfl scLRows.nd (pi_tup (pe_ix (r := rIxT K) ix_tup (pv 0) (pe_ix (r := rIxT K) ix_tup (pv 5) (pe_un un_neg pe_int) (fun _ _ => rfl)) (fun _ _ => rfl))) (blkOk_by (N := nLRows) (sc := defScope sLRows) (by decide +kernel))
            (fun _ _ _ _ _ => pg_name (i := 7) scLRows.nd rfl (Or.inl rfl)) (fun _ _ _ _ _ => pts_one (pt_cmpR (r := rIn K true) op_notIn_seq (pv 7) (pv 5) (by rfl))) (fun _ _ _ _ _ => pe_op (r := rCatT K) op_catT (pv 5) (pe_tup (pa_cons (pv 7) pa_nil))))))))
        (pss_one (ps_set (i := 2) scLRows.nd rfl (.inl rfl) (pv 4))))))
      (pss_one (ps_ret (pv 2)))), ?_⟩
    have hn : (tab n b).length = n := tab_len
    have hR := ep_lcR1 (σ := [some x, some (.int 3), none, none, none, none, none, none]) (H := H) (tr := tCons (tCB (rLenS K) (tCons (tVar 0) tNil)) tNil) (g := gName 6) (ws := [6]) (t := tYes) (te := tTup (tCons (tVar 6) tNil)) (P := fun k => IntsT [k]) (f := fun _ => true) (n := n) (j := (n : Int)) (fun k => intsT_monT _)
      (ea_cons (ev_is (ev_lenT (tour_ev hx (Ex.refl H) rfl)) (by rw [hn])) ea_nil) (by omega) (by omega) fun k H1 e1 hk => ⟨_, tgt_name rfl, ev_yes, fun _ => (ep_tup1 (ev_var rfl)).imp fun v H2 _ q => tpl_ints q⟩
    rw [filter_yes] at hR
    refine qp_asg hR fun rv H1 e1 hrv => ?_
    have hrv : Lst IntsT (lv n b 0) rv H1 := by
      obtain ⟨c, ys, ec, hc, hy⟩ := hrv
      exact ⟨c, ys, ec, hc, each_map hy⟩
    have hl := lv_len (n := n) (b := b) h8
    refine q_forR1 (n := (2 : Int)) (ea_cons (ev_is (ev_op (ev_var rfl) ev_c rv_I0) rfl) ea_nil) (by omega) (fun t σ' H' => Ex H H' ∧ ∃ (rv : V) (y3 y4 y5 : Option V), σ' = [some x, some (.int 3), some rv, y3, y4, y5, none, none] ∧ Lst IntsT (lv n b t) rv H')
      (fun H2 e2 => ⟨e1.trans e2, rv, none, none, none, rfl, lst_mon intsT_monT _ _ _ e2 hrv⟩) (fun t σ' H' ht hI => ?_) (fun σ' H' hI => ?_)
    · obtain ⟨e2, rv, y3, y4, y5, rfl, hrv⟩ := hI
      have hlt : (lv n b t).length ≤ 64 := by
        rcases (show t = 0 ∨ t = 1 by omega) with z | z
        · rw [z]
          omega
        · rw [z]
          exact hl.2.1
      refine q_asgL (el_lst ea_nil (Nat.zero_le _)) fun z0 H3 hz0 e3 h3 => ?_
      have e13 := e2.trans e3
      obtain ⟨rq, ys, rfl, hrq, hys⟩ := lst_mon intsT_monT _ _ _ e3 hrv
      have hyl := each_len hys
      refine q_forLn (K := K) (a := rq) (xs := ys) (ev_var rfl) (SqL.of hrq) (fun i σ' H' => Ex H3 H' ∧ ∃ (v4 : V) (y5 : Option V), σ' = [some x, some (.int 3), some (.ref rq), some (.int (t : Int)), some v4, y5, none, none] ∧ Lst IntsT (exts n b ((lv n b t).take i)) v4 H')
        (fun H4 e4 => ⟨e4, .ref z0, y5, rfl, z0, [], rfl, e4 _ _ h3, .nil⟩) (fun i σ' H' _ hi => SqL.of (hi.1 _ _ hrq)) (fun i y σ' H' hy hi => ?_) (fun σ' H' hi => ?_)
      · obtain ⟨e4, v4, z5, rfl, h4⟩ := hi
        obtain ⟨r, hr', hry⟩ := Paired.getR hys hy
        have hmem : r ∈ lv n b t := List.mem_of_getElem? hr'
        obtain ⟨hrl, q', u, eq', hu⟩ := lv_rows t r hmem
        have egl : r.getLast?.getD 0 = u := by
          rw [eq']
          simp
        have hY : ∀ {H'' : Hp} {σ : L2.St}, Ex H3 H'' → σ[5]? = some (some y) → EvP (tVar 5) σ H'' (IntsT r) := fun e h0 => ep_var (intsT_monT _).mon h0 (intsT_monT _ _ _ _ (exT e) hry)
        have hC := ep_lcT (K := K) (σ := [some x, some (.int 3), some (.ref rq), some (.int (t : Int)), some v4, some y, none, none]) (H := H') (tl := tOp (rIxT K) (tVar 0) (tOp (rIxT K) (tVar 5) (tUn (rU fun i => .int (-i)) (tC (.int 1))))) (g := gName 7) (ws := [7]) (t := tTest (tOp (rIn K true) (tVar 7) (tVar 5))) (te := tOp (rCatT K) (tVar 5) (tTup (tCons (tVar 7) tNil)))
          (S := fun k : Nat => Is (.int (k : Int))) (P := fun v => IntsT (r ++ [v])) (f := fun v => !decide (v ∈ r)) (xs := row n b u) isN_monT (fun v => intsT_monT _)
          ((ep_itT intsT_monT (tour_ev hx (e13.trans e4) rfl) (ev_last (by rw [← eq']; exact hY e4 rfl)) (tab_get hu)).imp fun v H5 _ q => ints_tpl q) (Nat.le_trans row_len (by omega)) fun v vv H5 e5 hv hs => by
            have hs : vv = .int (v : Int) := hs
            subst hs
            refine ⟨_, tgt_name rfl, ?_, fun _ => ?_⟩
            · exact et_test (ev_niI (ev_var rfl) (hY (e4.trans e5) rfl))
            · exact (ep_cat (S := fun k : Nat => Is (.int (k : Int))) isN_monT ((hY (e4.trans e5) rfl).imp fun v H6 _ q => ints_tpl q) (fun H6 e6 => ep_tup1 (ev_var rfl)) (fun z => by rw [z] at hrl; cases hrl) (by rw [hrl]; show t + 1 + 1 ≤ 1000; omega)).imp fun v H6 _ q => tpl_ints q
        have et : exts n b ((lv n b t).take (i + 1)) = exts n b ((lv n b t).take i) ++ ext n b r := by
          rw [List.take_add_one, hr']
          exact exts_snoc _ _
        have hz1 : (exts n b ((lv n b t).take i)).length ≤ 64 * 8 := by
          refine Nat.le_trans (exts_len _) (Nat.mul_le_mul ?_ h8)
          rw [List.length_take]
          omega
        have hz2 : (ext n b r).length ≤ n := ext_len
        have hC' : EvP (tLc (iTup K (tOp (rIxT K) (tVar 0) (tOp (rIxT K) (tVar 5) (tUn (rU fun i => .int (-i)) (tC (.int 1)))))) (gName 7) (tTest (tOp (rIn K true) (tVar 7) (tVar 5))) (tOp (rCatT K) (tVar 5) (tTup (tCons (tVar 7) tNil))) [7]) [some x, some (.int 3), some (.ref rq), some (.int (t : Int)), some v4, some y, none, none] H' (Lst IntsT (ext n b r)) := hC.imp fun v H5 _ ⟨c, zs, ec, hc, hz⟩ => by
          refine ⟨c, zs, ec, hc, ?_⟩
          unfold ext
          rw [egl]
          exact each_map hz
        refine sp_asg (ep_catL intsT_monT (ep_var (lst_mon intsT_monT) rfl h4) (fun H5 e5 => hC'.mono e5) (by omega)) fun v H5 e5 hv => ?_
        rw [← et] at hv
        exact ⟨e4.trans e5, v, _, rfl, hv⟩
      · obtain ⟨e4, v4, z5, rfl, h4⟩ := hi
        rw [← hyl, List.take_length] at h4
        exact s_asg (ev_var rfl) fun H5 e5 => ⟨(e13.trans e4).trans e5, v4, _, _, _, rfl, lst_mon intsT_monT _ _ _ e5 h4⟩
    · obtain ⟨e2, rv, y3, y4, y5, rfl, hrv⟩ := hI
      exact s_ret (ev_var rfl) fun H5 e5 => q rv H5 (e2.trans e5) (lst_mon intsT_monT _ _ _ e5 hrv)
theorem scLTri : FnScope nLTri ["_law_tournament_here"] (defScope sLTri) := ⟨rfl, rfl, rfl, by decide +kernel, rfl, by decide +kernel, by decide +kernel⟩
theorem ok_ltri {f fR : Addr} {fd fdR : FuncData} (F : Fun K "_law_triangles" "_law_triangles" sLTri f fd) (B : Bt mg)
    (GR : FnOk P w K mg base CX0 1 fR fdR ["_law_tournament_here", "_law_many"] spLRows) (kR : PySem.W.keepIn K (.ref fR) = true) (bR : Binds K fdR ["_law_tournament_here", "_law_many"] []) (gR : mg "_law_rows" = some (.ref fR)) :
    FnOk P w K mg base CX0 2 f fd ["_law_tournament_here"] spLTri := by
  refine F.ok scLTri (fun vs H Q E h => ?_) (fun cdv A outer s H vs Q E hr h => ?_)
  · obtain ⟨x, n, b, rfl, _⟩ := h
    rfl
  · obtain ⟨x, n, b, rfl, hx, h1, h8, q⟩ := h
    refine ⟨_, pss_cons (ps_setLc (i := 1) (own := [("_law_row", 2)]) (g := gName 2) rfl scLTri.nd rfl rfl (sw_true rfl rfl rfl (by decide +kernel)) (pi_list (pe_call GR hr (by rfl) gR kR bR .nil pass0 (pa_cons (pv 0) (pa_cons pe_int pa_nil)))) (blkOk_by (N := nLTri) (sc := defScope sLTri) (by decide +kernel)) (fun _ _ _ _ _ => pg_name (i := 2) scLTri.nd rfl (Or.inl rfl))
        (fun _ _ _ _ _ => pts_one (pt_cmpR (r := rIn K false) op_in_seq (pe_ix (r := rIxT K) ix_tup (pv 2) pe_int (fun _ _ => rfl)) (pe_ix (r := rIxT K) ix_tup (pv 0) (pe_ix (r := rIxT K) ix_tup (pv 2) pe_int (fun _ _ => rfl)) (fun _ _ => rfl)) (by rfl))) (fun _ _ _ _ _ => pv 2))
      (pss_one (ps_ret (pe_callB (r := rSortD K Prod.snd (fun z : List Nat × V => dRow z.1)) (cr_sortD hr.units) (by rfl) B.srt boot_sorted (pa_cons (pe_lc (own := [("_law_row", 2)]) (g := gName 2) rfl scLTri.nd (pi_list (pv 1)) (blkOk_by (N := nLTri) (sc := defScope sLTri) (by decide +kernel)) (fun _ _ _ _ _ => pg_name (i := 2) scLTri.nd rfl (Or.inl rfl))
        (fun _ _ _ _ _ => pts_one (pt_cmpR op_eq (pe_ix (r := rIxT K) ix_tup (pv 2) pe_int (fun _ _ => rfl)) (pe_callB (r := rMinT K) (cr_minT rfl hr.units) (by rfl) B.min (by decide +kernel) (pa_cons (pv 2) pa_nil)) (nomark _))) (fun _ _ _ _ _ => pv 2)) pa_nil)))), ?_⟩
    have hF := ep_lcL (K := K) (σ := [some x, none, none]) (H := H) (tl := tCall spLRows [] E0 (tCons (tVar 0) (tCons (tC (.int 3)) tNil))) (g := gName 2) (ws := [2]) (t := tTest (tOp (rIn K false) (tOp (rIxT K) (tVar 2) (tC (.int 0))) (tOp (rIxT K) (tVar 0) (tOp (rIxT K) (tVar 2) (tC (.int 2)))))) (te := tVar 2)
      (S := IntsT) (P := IntsT) (f := isTri b) (xs := exts n b (exts n b (one n))) intsT_monT
      (ep_call (vs := [x, .int 3]) (ea_cons (ev_var rfl) (ea_cons ev_c ea_nil)) fun H1 e1 Q q => ⟨x, n, b, rfl, tour_monT _ _ _ (exT e1) hx, h1, h8, q⟩) (by have := (lv_len (n := n) (b := b) h8).2.2; exact Nat.le_trans this (by decide)) fun r v H1 e1 hr hs => by
        obtain ⟨i, j, k, rfl, hi, hj, hk, _⟩ := mem_three.mp hr
        have hV := ints_tpl hs
        have gv : ∀ {H2 : Hp} {σ : L2.St} (m : Nat) {z : Nat}, Ex H1 H2 → σ[2]? = some (some v) → [i, j, k][m]? = some z → Ev (tOp (rIxT K) (tVar 2) (tC (.int (m : Int)))) σ H2 (.int (z : Int)) := fun {H2} {σ} m {z} e h0 hz => ev_ep (ep_itT (S := fun k : Nat => Is (.int (k : Int))) isN_monT (ep_var (tpl_monT isN_monT).mon h0 (tpl_monT isN_monT _ _ _ (exT e) hV)) ev_c hz)
        refine ⟨_, tgt_name rfl, ?_, fun _ => ep_var (intsT_monT _).mon rfl hs⟩
        refine et_is (et_test (ev_inI (gv 0 (Ex.refl H1) rfl rfl) (ep_itT intsT_monT (tour_ev hx e1 rfl) (gv 2 (Ex.refl H1) rfl rfl) (tab_get hk)))) ?_
        rw [dec_row hi]
        rfl
    refine qp_asg hF fun fv H1 e1 hfv => ?_
    have hG := ep_lcL (K := K) (σ := [some x, some fv, none]) (H := H1) (tl := tVar 1) (g := gName 2) (ws := [2]) (t := tTest (tOp rEq (tOp (rIxT K) (tVar 2) (tC (.int 0))) (tCB (rMinT K) (tCons (tVar 2) tNil)))) (te := tVar 2)
      (S := IntsT) (P := IntsT) (f := least) (xs := (exts n b (exts n b (one n))).filter (isTri b)) intsT_monT (ep_var (lst_mon intsT_monT) rfl hfv) (by have := (lv_len (n := n) (b := b) h8).2.2; exact Nat.le_trans (List.length_filter_le _ _) (Nat.le_trans this (by decide))) fun r v H2 e2 hr hs => by
        obtain ⟨i, j, k, rfl, hi, hj, hk, _⟩ := mem_three.mp (List.mem_filter.mp hr).1
        have hV := ints_tpl hs
        refine ⟨_, tgt_name rfl, ?_, fun _ => ep_var (intsT_monT _).mon rfl hs⟩
        refine et_is (et_test (ev_op (ev_ep (ep_itT (S := fun k : Nat => Is (.int (k : Int))) (i := 0) (a := i) isN_monT (ep_var (tpl_monT isN_monT).mon rfl hV) ev_c rfl)) (ev_cb1 (z := .int ([(j : Int), (k : Int)].foldl min (i : Int))) (ep_var (intsT_monT _).mon rfl hs) fun v3 H3 e3 hp3 Q q => ?_) (rv_eq rfl))) ?_
        · obtain ⟨c, rfl, hc⟩ := hp3
          exact ⟨c, (i : Int), [(j : Int), (k : Int)], rfl, SqT.of hc, q H3 (Ex.refl H3)⟩
        · rw [dec_int]
          show ((i : Int) == min (min (i : Int) (j : Int)) (k : Int)) = (decide (i ≤ j) && decide (i ≤ k))
          rw [Bool.eq_iff_iff, beq_iff_eq, Bool.and_eq_true, decide_eq_true_iff, decide_eq_true_iff]
          omega
    have hS := ep_sortE (K := K) (dat := dRow) intsT_monT (fun r v H h => dp_row h) (fun r s => by
      have := alike_ints r s
      simp [dRow, PySem.W.alike, this]) (fun r hr => by
      obtain ⟨i, j, k, rfl, _⟩ := mem_tris.mp hr
      exact ⟨_, _, rfl⟩) (fun r => by
      have := depth_row r
      simp [dRow, PyData.depth, this]) hG
    exact sp_ret hS fun v H2 e2 ⟨m, hm, hv⟩ => q v H2 m (e1.trans e2) hm hv
end
end K53

namespace K53
open PySem PySem.Spec PyProof.Rows L2 Evl
abbrev sLaw : Stmt := tops 36
abbrev nLaw : List Str := ["_law_script", "_law_stream_here", "_law_tournament_here", "_law_many", "_law_due", "_law_triangle", "_law_player", "_law_other", "_law_beats", "_law_left", "_law_order_here"]
def rNon : R2 := fun x y H Q => y = .non ∧ Q (.bl (decide (x = .non))) H
def spLaw (K : PySem.W.Frag) : Sp := fun vs H Q _ => ∃ (a : Addr) (ns : List Int), vs = [.ref a] ∧ SqL K H a (ns.map V.int) ∧ ns.length ≤ 63 ∧ ∀ H', Q (.bl true) H'
theorem due_snoc {n : Nat} {b : Nat → Nat → Bool} (rs : List (List Nat)) (r : List Nat) : due n b (rs ++ [r]) = (due n b rs || (List.range n).any fun p => hit b p r) := by
  unfold due
  rw [List.any_append]
  simp
theorem any_snoc (f : Nat → Bool) (k : Nat) : (List.range (k + 1)).any f = ((List.range k).any f || f k) := by
  rw [List.range_succ, List.any_append]
  simp
section
variable {K : PySem.W.Frag} {σ : L2.St} {H : Hp} {te : TE}
/-- (index_of_circular(t) is None) != due, where due is told rightly -/
theorem et_idx {n : Nat} {b : Nat → Nat → Bool} {i : Nat} {d : Bool} (hT : EvP te σ H (Tour n b)) (ht : Trn n b) (h1 : 1 ≤ n) (h8 : n ≤ 8) (hd : σ[i]? = some (some (.bl d))) (ho : d = true ↔ Obs n b) :
    EvT (tTest (tOp rNe (tOp rNon (tCall spIdx [] E0 (tCons te tNil)) (tC .non)) (tVar i))) σ H false := by
  have hI : EvP (tCall spIdx [] E0 (tCons te tNil)) σ H (fun v _ => IdxV n b v) := ep_call1 hT fun v H1 e1 hv Q q => ⟨v, n, b, rfl, hv, ht, h1, h8, fun z H2 e2 hz => q z H2 e2 hz⟩
  have hN : Ev (tOp rNon (tCall spIdx [] E0 (tCons te tNil)) (tC .non)) σ H (.bl d) := ev_opP hI (fun _ _ _ _ => ep_ev ev_c) (fun _ _ _ _ h => h) fun x y H1 e1 hx hy Q q => by
    have hy : y = .non := hy
    subst hy
    refine ⟨rfl, ?_⟩
    have e : decide (x = .non) = d := by
      rcases hx with ⟨o, rfl⟩ | ⟨o, z, rfl⟩
      · rw [ho.mpr o]
        rfl
      · cases d with
        | true => exact absurd (ho.mp rfl) o
        | false => exact decide_eq_false fun h => nomatch h
    rw [e]
    exact q H1 (Ex.refl H1)
  refine et_is (et_test (ev_op hN (ev_var hd) (rv_ne rfl))) ?_
  rw [decide_eq_true rfl]
  rfl
end
section
variable {P : Program} {w : World} {K : PySem.W.Frag} {mg : Str → Option Value} {base : Heap}
theorem scLaw : FnScope nLaw ["_law_script"] (defScope sLaw) := ⟨rfl, rfl, rfl, by decide +kernel, rfl, by decide +kernel, by decide +kernel⟩
theorem ok_law {f fS fM fT fI fN fR fV : Addr} {fd fdS fdM fdT fdI fdN fdR fdV : FuncData} (F : Fun K "law" "law" sLaw f fd) (B : Bt mg)
    (GS : FnOk P w K mg base CX0 1 fS fdS ["_law_script"] (spStream K)) (kS : PySem.W.keepIn K (.ref fS) = true) (bS : Binds K fdS ["_law_script"] []) (gS : mg "_law_stream" = some (.ref fS))
    (GM : FnOk P w K mg base CX0 3 fM fdM ["_law_stream_here", "_law_least", "_law_most"] spLTour) (kM : PySem.W.keepIn K (.ref fM) = true) (bM : Binds K fdM ["_law_stream_here", "_law_least", "_law_most"] []) (gM : mg "_law_some" = some (.ref fM))
    (GT : FnOk P w K mg base CX0 2 fT fdT ["_law_tournament_here"] spLTri) (kT : PySem.W.keepIn K (.ref fT) = true) (bT : Binds K fdT ["_law_tournament_here"] []) (gT : mg "_law_triangles" = some (.ref fT))
    (GI : FnOk P w K mg base CX0 5 fI fdI ["tournament"] spIdx) (kI : PySem.W.keepIn K (.ref fI) = true) (bI : Binds K fdI ["tournament"] []) (gI : mg "index_of_circular" = some (.ref fI))
    (GN : FnOk P w K mg base CX0 1 fN fdN ["_law_stream_here", "_law_many"] spNext) (kN : PySem.W.keepIn K (.ref fN) = true) (bN : Binds K fdN ["_law_stream_here", "_law_many"] []) (gN : mg "_law_next" = some (.ref fN))
    (GR : FnOk P w K mg base CX0 5 fR fdR ["tournament", "order"] spRen) (kR : PySem.W.keepIn K (.ref fR) = true) (bR : Binds K fdR ["tournament", "order"] []) (gR : mg "renamed" = some (.ref fR))
    (GV : FnOk P w K mg base CX0 5 fV fdV ["tournament"] spRev) (kV : PySem.W.keepIn K (.ref fV) = true) (bV : Binds K fdV ["tournament"] []) (gV : mg "reversed_results" = some (.ref fV)) :
    FnOk P w K mg base CX0 6 f fd ["_law_script"] (spLaw K) := by
  refine F.ok scLaw (fun vs H Q E h => ?_) (fun cdv A outer s H vs Q E hr h => ?_)
  · obtain ⟨a, ns, rfl, _⟩ := h
    rfl
  · obtain ⟨sa, ns, rfl, hS, hlen, q⟩ := h
    refine ⟨_, pss_cons (ps_set (i := 1) scLaw.nd rfl (.inr rfl) (pe_call GS (hr.mono (by decide)) (by rfl) gS kS bS .nil pass0 (pa_cons (pv 0) pa_nil)))
      (pss_cons (ps_set (i := 2) scLaw.nd rfl (.inr rfl) (pe_call GM (hr.mono (by decide)) (by rfl) gM kM bM .nil pass0 (pa_cons (pv 1) (pa_cons pe_int (pa_cons pe_int pa_nil)))))
      (pss_cons (ps_set (i := 3) scLaw.nd rfl (.inl rfl) (pe_callB (r := rLenS K) call_len_seq (by rfl) B.len PySem.boot_len (pa_cons (pv 2) pa_nil)))
      (pss_cons (ps_set (i := 4) scLaw.nd rfl (.inl rfl) pe_bl)
      (pss_cons (ps_for PassesOwn.never rfl (pi_list (pe_call GT (hr.mono (by decide)) (by rfl) gT kT bT .nil pass0 (pa_cons (pv 2) pa_nil))) (pg_name (i := 5) scLaw.nd rfl (.inl rfl))
        (pss_one (ps_for PassesOwn.never rfl (pi_range1 (by rfl) B.rng (pa_cons (pv 3) pa_nil)) (pg_name (i := 6) scLaw.nd rfl (.inr rfl))
          (pss_one (ps_if (pt_cmpR (r := rIn K true) op_notIn_seq (pv 6) (pv 5) (by rfl))
            (pss_cons (ps_setLc (i := 8) (own := [("_law_other", 7)]) (g := gName 7) (tt := tYes) rfl scLaw.nd rfl rfl (sw_true rfl rfl rfl (by decide +kernel)) (pi_tup (pv 5)) (blkOk_by (N := nLaw) (sc := defScope sLaw) (by decide +kernel)) (fun _ _ _ _ _ => pg_name (i := 7) scLaw.nd rfl (Or.inl rfl)) (fun _ _ _ _ _ => pts_nil)
              (fun _ _ _ _ _ => pe_cmpR (r := rIn K false) op_in_seq (pv 7) (pe_ix (r := rIxT K) ix_tup (pv 2) (pv 6) (fun _ _ => rfl)) (by rfl)))
            (pss_one (ps_if (PW.pt (pw_or (pt_val (pe_callB (cr_all rfl) (by rfl) B.all (by decide +kernel) (pa_cons (pv 8) pa_nil))) (pw_or1 (pt_not (pt_val (pe_callB (cr_any rfl) (by rfl) B.any (by decide +kernel) (pa_cons (pv 8) pa_nil)))))))
              (pss_one (ps_set (i := 4) scLaw.nd rfl (.inl rfl) pe_bl)) pss_nil))) pss_nil)))))
      (pss_cons (ps_if (pt_cmpR op_ne (pe_cmpR (r := rNon) op_isN (pe_call GI hr (by rfl) gI kI bI .nil pass0 (pa_cons (pv 2) pa_nil)) pe_non (nomark _)) (pv 4) (nomark _)) (pss_one (ps_ret pe_bl)) pss_nil)
      (pss_cons (ps_set (i := 9) scLaw.nd rfl (.inr rfl) (pe_listRg rfl (by rfl) B.lst (prg_1 (by rfl) B.rng (pv 3))))
      (pss_cons (ps_set (i := 10) scLaw.nd rfl (.inl rfl) (pe_callTy (r := rTupOf K) call_tuple_of (by rfl) B.tup boot_tuple (pa_cons (pe_lc (te := tBM K "list" rPopAt (tVar 9) (tCons (tCall spNext [] E0 (tCons (tVar 1) (tCons (tCB (rLenS K) (tCons (tVar 9) tNil)) tNil))) tNil)) (own := [("_law_player", 6)]) (g := gName 6) (tt := tYes) rfl scLaw.nd (pi_range1 (by rfl) B.rng (pa_cons (pv 3) pa_nil)) (blkOk_by (N := nLaw) (sc := defScope sLaw) (by decide +kernel)) (fun _ _ _ _ _ => pg_name (i := 6) scLaw.nd rfl (Or.inl rfl)) (fun _ _ _ _ _ => pts_nil)
          (fun _ _ _ _ _ => pe_bm PySem.F.plainAttrs_list PySem.F.slot_list_pop PySem.F.type_list_pop mt_popAt (pv 9) (pa_cons (pe_call GN (hr.mono (by decide)) (by rfl) gN kN bN .nil pass0 (pa_cons (pv 1) (pa_cons (pe_callB (r := rLenS K) call_len_seq (by rfl) B.len PySem.boot_len (pa_cons (pv 9) pa_nil)) pa_nil))) pa_nil))) pa_nil)))
      (pss_cons (ps_for PassesOwn.never rfl (pi_list (pe_lst (pa_cons (pe_call GR hr (by rfl) gR kR bR .nil pass0 (pa_cons (pv 2) (pa_cons (pv 10) pa_nil))) (pa_cons (pe_call GV hr (by rfl) gV kV bV .nil pass0 (pa_cons (pv 2) pa_nil)) pa_nil)))) (pg_name (i := 7) scLaw.nd rfl (.inl rfl))
        (pss_one (ps_if (pt_cmpR op_ne (pe_cmpR (r := rNon) op_isN (pe_call GI hr (by rfl) gI kI bI .nil pass0 (pa_cons (pv 7) pa_nil)) pe_non (nomark _)) (pv 4) (nomark _)) (pss_one (ps_ret pe_bl)) pss_nil)))
      (pss_one (ps_ret pe_bl)))))))))), ?_⟩
    refine ⟨_, rfl, sa, ns, rfl, hS, fun p l H1 e1 hp s1 => ?_⟩
    refine ⟨_, rfl, p, l, 1, 6, rfl, s1, by decide, by decide, by decide, fun tv H2 n b x2 s2 ht h1 h8 hT => ?_⟩
    have hn : (tab n b).length = n := tab_len
    have hTe : ∀ {H' : Hp} {σ : L2.St}, Ex H2 H' → σ[2]? = some (some tv) → EvP (tVar 2) σ H' (Tour n b) := fun e h0 => tour_ev hT e h0
    refine q_asg (v := .int (n : Int)) (ev_is (ev_lenT (hTe (Ex.refl H2) rfl)) (by rw [hn])) fun H3 e3 => ?_
    refine q_asg ev_c fun H4 e4 => ?_
    have e24 := e3.trans e4
    -- what is due
    have hTri : EvP (tCall spLTri [] E0 (tCons (tVar 2) tNil)) [some (.ref sa), some (.ref p), some tv, some (.int (n : Int)), some (.bl false), none, none, none, none, none, none] H4 (fun v H => ∃ m : List (List Nat), m.Perm (tris n b) ∧ Lst IntsT m v H) :=
      ep_call1 (hTe e24 rfl) fun v H5 e5 hv Q q => ⟨v, n, b, rfl, hv, h1, h8, fun z H6 m e6 hm hz => q z H6 e6 ⟨m, hm, hz⟩⟩
    refine hTri H4 (Ex.refl H4) _ fun w5 H5 e5 ⟨m, hm, hm5⟩ => ?_
    obtain ⟨tq, ys, rfl, htq, hys⟩ := hm5
    have hyl := each_len hys
    have e25 := e24.trans e5
    refine ⟨tq, rfl, ⟨ys, SqL.of htq⟩, for_list (xs := ys) (fun i σ' H' => Ex H5 H' ∧ ∃ (y5 y6 y8 : Option V), σ' = [some (.ref sa), some (.ref p), some tv, some (.int (n : Int)), some (.bl (due n b (m.take i))), y5, y6, none, y8, none, none])
      ⟨Ex.refl H5, none, none, none, rfl⟩ (fun i σ' H' _ hi => SqL.of (hi.1 _ _ htq)) (fun i y σ' H' hy hi => ?_) (fun σ' H' hi => ?_)⟩
    · obtain ⟨e6, y5, y6, y8, rfl⟩ := hi
      obtain ⟨r, hr', hry⟩ := Paired.getR hys hy
      have hmem : r ∈ tris n b := hm.mem_iff.mp (List.mem_of_getElem? hr')
      have hrn : r.length = 3 ∧ ∀ v ∈ r, v < n := by
        obtain ⟨x, y, z, rfl, hx, hy, hz, _⟩ := mem_tris.mp hmem
        refine ⟨rfl, fun v hv => ?_⟩
        rcases List.mem_cons.mp hv with rfl | hv
        · exact hx
        · rcases List.mem_cons.mp hv with rfl | hv
          · exact hy
          · rw [List.mem_singleton.mp hv]
            exact hz
      have et : m.take (i + 1) = m.take i ++ [r] := by
        rw [List.take_add_one, hr']
        rfl
      have hY : ∀ {H'' : Hp} {σ : L2.St}, Ex H5 H'' → σ[5]? = some (some y) → EvP (tVar 5) σ H'' (IntsT r) := fun e h0 => ep_var (intsT_monT _).mon h0 (intsT_monT _ _ _ _ (exT e) hry)
      refine s_forR1 (n := (n : Int)) (ea_cons (ev_var rfl) ea_nil) (by omega) (fun k σ' H' => Ex H5 H' ∧ ∃ (y6 y8 : Option V), σ' = [some (.ref sa), some (.ref p), some tv, some (.int (n : Int)), some (.bl (due n b (m.take i) || (List.range k).any fun q => hit b q r)), some y, y6, none, y8, none, none])
        (fun H7 e7 => ⟨e6.trans e7, y6, y8, by simp⟩) (fun k σ' H' hk hi => ?_) (fun σ' H' hi => ?_)
      · obtain ⟨e7, y6, y8, rfl⟩ := hi
        have hk : k < n := by omega
        refine s_when (et_test (ev_niI (ev_var rfl) (hY e7 rfl))) (fun hb H8 e8 => ?_) (fun hb H8 e8 => ⟨e7.trans e8, some (.int (k : Int)), y8, ?_⟩)
        · have e58 := e7.trans e8
          have hC := ep_lcT (K := K) (σ := [some (.ref sa), some (.ref p), some tv, some (.int (n : Int)), some (.bl (due n b (m.take i) || (List.range k).any fun q => hit b q r)), some y, some (.int (k : Int)), none, y8, none, none]) (H := H8) (tl := tVar 5) (g := gName 7) (ws := [7]) (t := tYes) (te := tOp (rIn K false) (tVar 7) (tOp (rIxT K) (tVar 2) (tVar 6)))
            (S := fun k : Nat => Is (.int (k : Int))) (P := fun v => Is (.bl (b k v))) (f := fun _ => true) (xs := r) isN_monT (fun v => is_monT) ((hY e58 rfl).imp fun v H9 _ q => ints_tpl q) (by omega) fun v vv H9 e9 hv hs => by
              have hs : vv = .int (v : Int) := hs
              subst hs
              refine ⟨_, tgt_name rfl, ev_yes, fun _ => ep_ev (ev_is (ev_inI (ev_var rfl) (ep_itT intsT_monT (hTe (e25.trans (e58.trans e9)) rfl) (ev_var rfl) (tab_get hk))) ?_)⟩
              rw [dec_row (hrn.2 v hv)]
          rw [filter_yes] at hC
          refine qp_asg hC fun bv H9 e9 hbv => ?_
          have hB : ∀ {H'' : Hp} {σ : L2.St}, Ex H9 H'' → σ[8]? = some (some bv) → EvP (tVar 8) σ H'' (Lst (fun v => Is (.bl (b k v))) r) := fun e h0 => ep_var (lst_mon fun v => is_monT) h0 (lst_mon (fun v => is_monT) _ _ _ e hbv)
          have hh : hit b k r = (r.all (fun v => b k v) || !r.any fun v => b k v) := by
            unfold hit
            rw [hb, Bool.true_and]
          refine s_when (et_or (et_B (ev_all (hB (Ex.refl H9) rfl))) (fun _ => et_not (et_B (ev_any (hB (Ex.refl H9) rfl))))) (fun hd H10 e10 => ?_) (fun hd H10 e10 => ⟨(e58.trans e9).trans e10, some (.int (k : Int)), some bv, ?_⟩)
          · refine s_asg ev_c fun H11 e11 => ⟨((e58.trans e9).trans e10).trans e11, some (.int (k : Int)), some bv, ?_⟩
            rw [any_snoc, hh, hd, Bool.or_true, Bool.or_true]
            rfl
          · rw [any_snoc, hh, hd, Bool.or_false]
            rfl
        · have hh : hit b k r = false := by
            unfold hit
            rw [hb, Bool.false_and]
          rw [any_snoc, hh, Bool.or_false]
          rfl
      · obtain ⟨e7, y6, y8, rfl⟩ := hi
        rw [Int.toNat_natCast]
        exact ⟨e7, _, _, _, by rw [et, due_snoc]⟩
    · obtain ⟨e6, y5, y6, y8, rfl⟩ := hi
      rw [← hyl, List.take_length, due_perm hm]
      have ho : due n b (tris n b) = true ↔ Obs n b := due_obs ht
      generalize due n b (tris n b) = d at ho ⊢
      have e26 := e25.trans e6
      refine q_when (b := false) (et_idx (hTe e26 rfl) ht h1 h8 rfl ho) (fun z => nomatch z) (fun _ H7 e7 => ?_)
      have e27 := e26.trans e7
      have s7 := s2.mono e27
      -- the order of the renaming
      refine ⟨_, rfl, (n : Int), rfl, ⟨by omega, by omega, by omega, by omega, by omega⟩, fun a ha => ?_⟩
      rw [rgV_zero]
      have s8 := s7.mono (Ex.new (o := .lst (nums (List.range n))) ha)
      have na := s7.new ha
      refine ⟨_, rfl, (n : Int), rfl, by omega, by omega, fun D hD => ?_⟩
      have hD7 : H7 D = none := fresh_back (Ex.new ha) hD
      have nD := s7.new hD7
      have Da : D ≠ a := fun z => by
        rw [z, upd_same] at hD
        cases hD
      show ∃ W : Nat → Nat → Hp → Prop, _
      rw [Int.toNat_natCast]
      refine lc_range (lo := 0) (n := n) (fun i H' => ∃ acc r : List Nat, H' D = some (.lst (nums acc)) ∧ H' a = some (.lst (nums r)) ∧ (acc ++ r).Perm (List.range n) ∧ acc.length = i ∧ Exb p H7 H' ∧ StreamAt p l H') ?_ (fun i H' hi hI => ⟨rfl, ?_⟩) fun H' hI => ?_
      · exact ⟨[], List.range n, upd_same, by rw [upd_ne (Ne.symm Da)]; exact upd_same, List.Perm.refl _, rfl, (exb (Ex.new ha)).trans (exb (Ex.new hD)), s8.mono (Ex.new hD)⟩
      · obtain ⟨acc, r, hDi, hai, hpi, hli, xi, si⟩ := hI
        have hlen := hpi.length_eq
        rw [List.length_append, List.length_range] at hlen
        show tBM K "list" rPopAt (tVar 9) (tCons (tCall spNext [] E0 (tCons (tVar 1) (tCons (tCB (rLenS K) (tCons (tVar 9) tNil)) tNil))) tNil) _ H' _
        refine pop_nx si hai na.1 (by omega) (by omega) (ev_var rfl) (ea_cons (ev_var rfl) (ea_cons (ev_is (ev_len (ev_var rfl) (SqL.of hai)) (by rw [List.length_map])) ea_nil)) fun j v H9 x9 s9 hv h9 => ?_
        refine ⟨nums acc, by rw [upd_ne Da]; exact x9 _ _ nD.1 hDi, by rw [List.length_map]; exact sz_lt (by omega), acc ++ [v], r.eraseIdx j, ?_, by rw [upd_ne (Ne.symm Da)]; exact upd_same, ?_, by rw [List.length_append, hli]; rfl, Exb.mut (Exb.mut (xi.trans x9) ha) hD7, (s9.other na).other nD⟩
        · rw [upd_same]
          unfold nums
          rw [List.map_append]
          rfl
        · rw [List.append_assoc]
          exact (List.Perm.append_left _ (perm_pop hv).symm).trans hpi
      · obtain ⟨acc, r, hDi, hai, hpi, hli, xi, si⟩ := hI
        have hlen := hpi.length_eq
        rw [List.length_append, List.length_range] at hlen
        have er : r = [] := List.eq_nil_of_length_eq_zero (by omega)
        rw [er, List.append_nil] at hpi
        refine ⟨D, nums acc, rfl, .inl ⟨SqL.of hDi, fun c hc => ?_⟩⟩
        have hT10 : Tour n b tv (upd H' c (.tup (nums acc))) := tour_monT _ _ _ (((exT e27).trans (s7.exT xi)).trans (exT (Ex.new hc))) hT
        -- the last loop
        refine ⟨_, rfl, _, rfl, tv, .ref c, n, b, acc, rfl, hT10, ⟨c, rfl, upd_same⟩, ht, h1, h8, hpi, fun v1 H11 e11 hv1 => ?_⟩
        refine ⟨_, rfl, tv, n, b, rfl, tour_monT _ _ _ (exT e11) hT10, ht, h1, h8, fun v2 H12 e12 hv2 => ⟨by show 2 ≤ sizeLine; decide, fun g hg => ?_⟩⟩
        have e13 : Ex H12 (upd H12 g (.lst [v1, v2])) := Ex.new hg
        refine ⟨g, rfl, ⟨[v1, v2], SqL.of upd_same⟩, for_list (xs := [v1, v2]) (fun i σ' H' => Ex (upd H12 g (.lst [v1, v2])) H' ∧ ∃ y7 : Option V, σ' = [some (.ref sa), some (.ref p), some tv, some (.int (n : Int)), some (.bl d), y5, y6, y7, y8, some (.ref a), some (.ref c)])
          ⟨Ex.refl _, none, rfl⟩ (fun i σ' H' _ hi => SqL.of (hi.1 _ _ upd_same)) (fun i y σ' H' hy hi => ?_) (fun σ' H' hi => ?_)⟩
        · obtain ⟨e14, y7, rfl⟩ := hi
          obtain ⟨b2, hb2, t2, o2⟩ : ∃ b2 : Nat → Nat → Bool, Tour n b2 y (upd H12 g (.lst [v1, v2])) ∧ Trn n b2 ∧ (d = true ↔ Obs n b2) := by
            match i, hy with
            | 0, hy =>
              have ey : v1 = y := Option.some.inj hy
              exact ⟨ren acc b, ey ▸ tour_monT _ _ _ (exT (e12.trans e13)) hv1, ren_trn hpi ht, ho.trans (ren_obs hpi).symm⟩
            | 1, hy =>
              have ey : v2 = y := Option.some.inj hy
              exact ⟨fun i j => b j i, ey ▸ tour_monT _ _ _ (exT e13) hv2, rev_trn ht, ho.trans rev_obs.symm⟩
            | i + 2, hy => cases hy
          exact s_when (b := false) (et_idx (tour_ev hb2 e14 rfl) t2 h1 h8 rfl o2) (fun z => nomatch z) (fun _ H15 e15 => ⟨e14.trans e15, _, rfl⟩)
        · obtain ⟨e14, y7, rfl⟩ := hi
          exact q H'
end
end K53

namespace K53
open PySem PySem.Spec PyProof.Rows L2
/-! ## What the top has written; the law's own head -/
theorem all_mk {l : PySem.W.OpenLaw} {w : World} {K : PySem.W.Frag} {h : Heap} {mg : Str → Option Value} {fa : Addr} (X : K.In h) (G : h.Ns mainGlobals mg) (hfa : mg "law" = some (.ref fa))
    {fWh fCl fIt fCt fBe fPl fCs fTb fOo fOw fIo fIc fRv fRn fLs fLn fLt fLo fLb fLm fLr fLg fLa : Addr} {odWh anWh odCl anCl odIt anIt odCt anCt odBe anBe odPl anPl odCs anCs odTb anTb odOo anOo odOw anOw odIo anIo odIc anIc odRv anRv odRn anRn odLs anLs odLn anLn odLt anLt odLo anLo odLb anLb odLm anLm odLr anLr odLg anLg odLa anLa : Option Addr} {slWh slCl slIt slCt slBe slPl slCs slTb slOo slOw slIo slIc slRv slRn slLs slLn slLt slLo slLb slLm slLr slLg slLa : Array (Option Value)}
    {ocWh kVWh dcWh pmWh cdWh ctWh ocCl kVCl dcCl pmCl cdCl ctCl ocIt kVIt dcIt pmIt cdIt ctIt ocCt kVCt dcCt pmCt cdCt ctCt ocBe kVBe dcBe pmBe cdBe ctBe ocPl kVPl dcPl pmPl cdPl ctPl ocCs kVCs dcCs pmCs cdCs ctCs ocTb kVTb dcTb pmTb cdTb ctTb ocOo kVOo dcOo pmOo cdOo ctOo ocOw kVOw dcOw pmOw cdOw ctOw ocIo kVIo dcIo pmIo cdIo ctIo ocIc kVIc dcIc pmIc cdIc ctIc ocRv kVRv dcRv pmRv cdRv ctRv ocRn kVRn dcRn pmRn cdRn ctRn ocLs kVLs dcLs pmLs cdLs ctLs ocLn kVLn dcLn pmLn cdLn ctLn ocLt kVLt dcLt pmLt cdLt ctLt ocLo kVLo dcLo pmLo cdLo ctLo ocLb kVLb dcLb pmLb cdLb ctLb ocLm kVLm dcLm pmLm cdLm ctLm ocLr kVLr dcLr pmLr cdLr ctLr ocLg kVLg dcLg pmLg cdLg ctLg ocLa kVLa dcLa pmLa cdLa ctLa : Value} {tM : Tok}
    (aWh : PySem.W.nsIn K mainGlobals "is_whole" = some (some (.ref fWh)))
    (lWh : K.lookup fWh = some ⟨ocWh, odWh, .func (PySem.W.fnOf "is_whole" "is_whole" (defArgs sWhole) (defBody sWhole) (defScope sWhole) .none kVWh dcWh pmWh anWh cdWh ctWh), slWh⟩)
    (cWh : PySem.W.codeIn K cdWh "is_whole" = true) (kWh : PySem.W.keepIn K (.ref fWh) = true)
    (aCl : PySem.W.nsIn K mainGlobals "is_climbing" = some (some (.ref fCl)))
    (lCl : K.lookup fCl = some ⟨ocCl, odCl, .func (PySem.W.fnOf "is_climbing" "is_climbing" (defArgs sClimb) (defBody sClimb) (defScope sClimb) .none kVCl dcCl pmCl anCl cdCl ctCl), slCl⟩)
    (cCl : PySem.W.codeIn K cdCl "is_climbing" = true) (kCl : PySem.W.keepIn K (.ref fCl) = true)
    (aIt : PySem.W.nsIn K mainGlobals "is_tournament" = some (some (.ref fIt)))
    (lIt : K.lookup fIt = some ⟨ocIt, odIt, .func (PySem.W.fnOf "is_tournament" "is_tournament" (defArgs sIsT) (defBody sIsT) (defScope sIsT) .none kVIt dcIt pmIt anIt cdIt ctIt), slIt⟩)
    (cIt : PySem.W.codeIn K cdIt "is_tournament" = true) (kIt : PySem.W.keepIn K (.ref fIt) = true)
    (aCt : PySem.W.nsIn K mainGlobals "check_tournament_tournaments" = some (some (.ref fCt)))
    (lCt : K.lookup fCt = some ⟨ocCt, odCt, .func (PySem.W.fnOf "check_tournament" "check_tournament" (defArgs sChk1) (defBody sChk1) (defScope sChk1) .none kVCt dcCt pmCt anCt cdCt ctCt), slCt⟩)
    (cCt : PySem.W.codeIn K cdCt "check_tournament" = true) (kCt : PySem.W.keepIn K (.ref fCt) = true)
    (aBe : PySem.W.nsIn K mainGlobals "beats" = some (some (.ref fBe)))
    (lBe : K.lookup fBe = some ⟨ocBe, odBe, .func (PySem.W.fnOf "beats" "beats" (defArgs sBeats) (defBody sBeats) (defScope sBeats) .none kVBe dcBe pmBe anBe cdBe ctBe), slBe⟩)
    (cBe : PySem.W.codeIn K cdBe "beats" = true) (kBe : PySem.W.keepIn K (.ref fBe) = true)
    (aPl : PySem.W.nsIn K mainGlobals "is_players" = some (some (.ref fPl)))
    (lPl : K.lookup fPl = some ⟨ocPl, odPl, .func (PySem.W.fnOf "is_players" "is_players" (defArgs sPlayers) (defBody sPlayers) (defScope sPlayers) .none kVPl dcPl pmPl anPl cdPl ctPl), slPl⟩)
    (cPl : PySem.W.codeIn K cdPl "is_players" = true) (kPl : PySem.W.keepIn K (.ref fPl) = true)
    (aCs : PySem.W.nsIn K mainGlobals "check_tournament_signed" = some (some (.ref fCs)))
    (lCs : K.lookup fCs = some ⟨ocCs, odCs, .func (PySem.W.fnOf "check_tournament" "check_tournament" (defArgs sChk2) (defBody sChk2) (defScope sChk2) .none kVCs dcCs pmCs anCs cdCs ctCs), slCs⟩)
    (cCs : PySem.W.codeIn K cdCs "check_tournament" = true) (kCs : PySem.W.keepIn K (.ref fCs) = true)
    (aTb : PySem.W.nsIn K mainGlobals "tournament_by" = some (some (.ref fTb)))
    (lTb : K.lookup fTb = some ⟨ocTb, odTb, .func (PySem.W.fnOf "tournament_by" "tournament_by" (defArgs sTby) (defBody sTby) (defScope sTby) .none kVTb dcTb pmTb anTb cdTb ctTb), slTb⟩)
    (cTb : PySem.W.codeIn K cdTb "tournament_by" = true) (kTb : PySem.W.keepIn K (.ref fTb) = true)
    (aOo : PySem.W.nsIn K mainGlobals "order_of" = some (some (.ref fOo)))
    (lOo : K.lookup fOo = some ⟨ocOo, odOo, .func (PySem.W.fnOf "order_of" "order_of" (defArgs sOrderOf) (defBody sOrderOf) (defScope sOrderOf) .none kVOo dcOo pmOo anOo cdOo ctOo), slOo⟩)
    (cOo : PySem.W.codeIn K cdOo "order_of" = true) (kOo : PySem.W.keepIn K (.ref fOo) = true)
    (aOw : PySem.W.nsIn K mainGlobals "orders_with" = some (some (.ref fOw)))
    (lOw : K.lookup fOw = some ⟨ocOw, odOw, .func (PySem.W.fnOf "orders_with" "orders_with" (defArgs sOrders) (defBody sOrders) (defScope sOrders) .none kVOw dcOw pmOw anOw cdOw ctOw), slOw⟩)
    (cOw : PySem.W.codeIn K cdOw "orders_with" = true) (kOw : PySem.W.keepIn K (.ref fOw) = true)
    (aIo : PySem.W.nsIn K mainGlobals "index_of" = some (some (.ref fIo)))
    (lIo : K.lookup fIo = some ⟨ocIo, odIo, .func (PySem.W.fnOf "index_of" "index_of" (defArgs sIndexOf) (defBody sIndexOf) (defScope sIndexOf) .none kVIo dcIo pmIo anIo cdIo ctIo), slIo⟩)
    (cIo : PySem.W.codeIn K cdIo "index_of" = true) (kIo : PySem.W.keepIn K (.ref fIo) = true)
    (aIc : PySem.W.nsIn K mainGlobals "index_of_circular" = some (some (.ref fIc)))
    (lIc : K.lookup fIc = some ⟨ocIc, odIc, .func (PySem.W.fnOf "index_of_circular" "index_of_circular" (defArgs sIdx) (defBody sIdx) (defScope sIdx) .none kVIc dcIc pmIc anIc cdIc ctIc), slIc⟩)
    (cIc : PySem.W.codeIn K cdIc "index_of_circular" = true) (kIc : PySem.W.keepIn K (.ref fIc) = true)
    (aRv : PySem.W.nsIn K mainGlobals "reversed_results" = some (some (.ref fRv)))
    (lRv : K.lookup fRv = some ⟨ocRv, odRv, .func (PySem.W.fnOf "reversed_results" "reversed_results" (defArgs sRev) (defBody sRev) (defScope sRev) .none kVRv dcRv pmRv anRv cdRv ctRv), slRv⟩)
    (cRv : PySem.W.codeIn K cdRv "reversed_results" = true) (kRv : PySem.W.keepIn K (.ref fRv) = true)
    (aRn : PySem.W.nsIn K mainGlobals "renamed" = some (some (.ref fRn)))
    (lRn : K.lookup fRn = some ⟨ocRn, odRn, .func (PySem.W.fnOf "renamed" "renamed" (defArgs sRen) (defBody sRen) (defScope sRen) .none kVRn dcRn pmRn anRn cdRn ctRn), slRn⟩)
    (cRn : PySem.W.codeIn K cdRn "renamed" = true) (kRn : PySem.W.keepIn K (.ref fRn) = true)
    (aLs : PySem.W.nsIn K mainGlobals "_law_stream" = some (some (.ref fLs)))
    (lLs : K.lookup fLs = some ⟨ocLs, odLs, .func (PySem.W.fnOf "_law_stream" "_law_stream" (defArgs sStream) (defBody sStream) (defScope sStream) .none kVLs dcLs pmLs anLs cdLs ctLs), slLs⟩)
    (cLs : PySem.W.codeIn K cdLs "_law_stream" = true) (kLs : PySem.W.keepIn K (.ref fLs) = true)
    (aLn : PySem.W.nsIn K mainGlobals "_law_next" = some (some (.ref fLn)))
    (lLn : K.lookup fLn = some ⟨ocLn, odLn, .func (PySem.W.fnOf "_law_next" "_law_next" (defArgs sNext) (defBody sNext) (defScope sNext) .none kVLn dcLn pmLn anLn cdLn ctLn), slLn⟩)
    (cLn : PySem.W.codeIn K cdLn "_law_next" = true) (kLn : PySem.W.keepIn K (.ref fLn) = true)
    (aLt : PySem.W.nsIn K mainGlobals "_law_tournament" = some (some (.ref fLt)))
    (lLt : K.lookup fLt = some ⟨ocLt, odLt, .func (PySem.W.fnOf "_law_tournament" "_law_tournament" (defArgs sLTour) (defBody sLTour) (defScope sLTour) .none kVLt dcLt pmLt anLt cdLt ctLt), slLt⟩)
    (cLt : PySem.W.codeIn K cdLt "_law_tournament" = true) (kLt : PySem.W.keepIn K (.ref fLt) = true)
    (aLo : PySem.W.nsIn K mainGlobals "_law_order" = some (some (.ref fLo)))
    (lLo : K.lookup fLo = some ⟨ocLo, odLo, .func (PySem.W.fnOf "_law_order" "_law_order" (defArgs sLOrder) (defBody sLOrder) (defScope sLOrder) .none kVLo dcLo pmLo anLo cdLo ctLo), slLo⟩)
    (cLo : PySem.W.codeIn K cdLo "_law_order" = true) (kLo : PySem.W.keepIn K (.ref fLo) = true)
    (aLb : PySem.W.nsIn K mainGlobals "_law_by_order" = some (some (.ref fLb)))
    (lLb : K.lookup fLb = some ⟨ocLb, odLb, .func (PySem.W.fnOf "_law_by_order" "_law_by_order" (defArgs sLBy) (defBody sLBy) (defScope sLBy) .none kVLb dcLb pmLb anLb cdLb ctLb), slLb⟩)
    (cLb : PySem.W.codeIn K cdLb "_law_by_order" = true) (kLb : PySem.W.keepIn K (.ref fLb) = true)
    (aLm : PySem.W.nsIn K mainGlobals "_law_some" = some (some (.ref fLm)))
    (lLm : K.lookup fLm = some ⟨ocLm, odLm, .func (PySem.W.fnOf "_law_some" "_law_some" (defArgs sLSome) (defBody sLSome) (defScope sLSome) .none kVLm dcLm pmLm anLm cdLm ctLm), slLm⟩)
    (cLm : PySem.W.codeIn K cdLm "_law_some" = true) (kLm : PySem.W.keepIn K (.ref fLm) = true)
    (aLr : PySem.W.nsIn K mainGlobals "_law_rows" = some (some (.ref fLr)))
    (lLr : K.lookup fLr = some ⟨ocLr, odLr, .func (PySem.W.fnOf "_law_rows" "_law_rows" (defArgs sLRows) (defBody sLRows) (defScope sLRows) .none kVLr dcLr pmLr anLr cdLr ctLr), slLr⟩)
    (cLr : PySem.W.codeIn K cdLr "_law_rows" = true) (kLr : PySem.W.keepIn K (.ref fLr) = true)
    (aLg : PySem.W.nsIn K mainGlobals "_law_triangles" = some (some (.ref fLg)))
    (lLg : K.lookup fLg = some ⟨ocLg, odLg, .func (PySem.W.fnOf "_law_triangles" "_law_triangles" (defArgs sLTri) (defBody sLTri) (defScope sLTri) .none kVLg dcLg pmLg anLg cdLg ctLg), slLg⟩)
    (cLg : PySem.W.codeIn K cdLg "_law_triangles" = true) (kLg : PySem.W.keepIn K (.ref fLg) = true)
    (aLa : PySem.W.nsIn K mainGlobals "law" = some (some (.ref fLa)))
    (lLa : K.lookup fLa = some ⟨ocLa, odLa, .func (PySem.W.fnOf "law" "law" (defArgs sLaw) (defBody sLaw) (defScope sLaw) .none kVLa dcLa pmLa anLa cdLa ctLa), slLa⟩)
    (cLa : PySem.W.codeIn K cdLa "law" = true) (kLa : PySem.W.keepIn K (.ref fLa) = true)
    (aM : PySem.W.nsIn K mainGlobals "MOST_PLAYERS" = some (some (.int 8 tM)))
    (zisi : PySem.W.nsIn K mainGlobals "isinstance" = some none)
    (zint : PySem.W.nsIn K mainGlobals "int" = some none)
    (zbool : PySem.W.nsIn K mainGlobals "bool" = some none)
    (ztup : PySem.W.nsIn K mainGlobals "tuple" = some none)
    (zall : PySem.W.nsIn K mainGlobals "all" = some none)
    (zany : PySem.W.nsIn K mainGlobals "any" = some none)
    (zrng : PySem.W.nsIn K mainGlobals "range" = some none)
    (zlen : PySem.W.nsIn K mainGlobals "len" = some none)
    (zsrt : PySem.W.nsIn K mainGlobals "sorted" = some none)
    (zenu : PySem.W.nsIn K mainGlobals "enumerate" = some none)
    (zlst : PySem.W.nsIn K mainGlobals "list" = some none)
    (zabs : PySem.W.nsIn K mainGlobals "abs" = some none)
    (zmin : PySem.W.nsIn K mainGlobals "min" = some none)
    : ∃ fd : FuncData, (∀ (s : Shared) (v : Value), BindsTo s fd ⟨[v], []⟩ [("_law_script", v)]) ∧ ∀ base : Heap, K.In base → base.Ns mainGlobals mg → FnOk l.prog w K mg base CX0 6 fa fd ["_law_script"] (spLaw K) := by
  have e := hfa.symm.trans (PySem.W.mg_of X G aLa)
  cases e
  have B : Bt mg := ⟨PySem.W.mg_none_of X G zisi, PySem.W.mg_none_of X G zint, PySem.W.mg_none_of X G zbool, PySem.W.mg_none_of X G ztup, PySem.W.mg_none_of X G zall, PySem.W.mg_none_of X G zany, PySem.W.mg_none_of X G zrng, PySem.W.mg_none_of X G zlen, PySem.W.mg_none_of X G zsrt, PySem.W.mg_none_of X G zenu, PySem.W.mg_none_of X G zlst, PySem.W.mg_none_of X G zabs, PySem.W.mg_none_of X G zmin⟩
  have FWh := fun_mk (st := sWhole) lWh cWh kWh
  have bWh := FWh.binds (ps := ["value", "low", "high"]) fun _ _ _ _ _ _ us hl => match us, hl with | [_, _, _], _ => rfl
  have gWh := PySem.W.mg_of X G aWh
  have FCl := fun_mk (st := sClimb) lCl cCl kCl
  have bCl := FCl.binds (ps := ["value", "many"]) fun _ _ _ _ _ _ us hl => match us, hl with | [_, _], _ => rfl
  have gCl := PySem.W.mg_of X G aCl
  have FIt := fun_mk (st := sIsT) lIt cIt kIt
  have bIt := FIt.binds (ps := ["value"]) fun _ _ _ _ _ _ us hl => match us, hl with | [_], _ => rfl
  have gIt := PySem.W.mg_of X G aIt
  have FCt := fun_mk (st := sChk1) lCt cCt kCt
  have bCt := FCt.binds (ps := ["tournament"]) fun _ _ _ _ _ _ us hl => match us, hl with | [_], _ => rfl
  have gCt := PySem.W.mg_of X G aCt
  have FBe := fun_mk (st := sBeats) lBe cBe kBe
  have bBe := FBe.binds (ps := ["tournament", "one", "other"]) fun _ _ _ _ _ _ us hl => match us, hl with | [_, _, _], _ => rfl
  have gBe := PySem.W.mg_of X G aBe
  have FPl := fun_mk (st := sPlayers) lPl cPl kPl
  have bPl := FPl.binds (ps := ["value", "many", "size"]) fun _ _ _ _ _ _ us hl => match us, hl with | [_, _, _], _ => rfl
  have gPl := PySem.W.mg_of X G aPl
  have FCs := fun_mk (st := sChk2) lCs cCs kCs
  have bCs := FCs.binds (ps := ["value"]) fun _ _ _ _ _ _ us hl => match us, hl with | [_], _ => rfl
  have gCs := PySem.W.mg_of X G aCs
  have FTb := fun_mk (st := sTby) lTb cTb kTb
  have bTb := FTb.binds (ps := ["order"]) fun _ _ _ _ _ _ us hl => match us, hl with | [_], _ => rfl
  have gTb := PySem.W.mg_of X G aTb
  have FOo := fun_mk (st := sOrderOf) lOo cOo kOo
  have bOo := FOo.binds (ps := ["tournament"]) fun _ _ _ _ _ _ us hl => match us, hl with | [_], _ => rfl
  have gOo := PySem.W.mg_of X G aOo
  have FOw := fun_mk (st := sOrders) lOw cOw kOw
  have bOw := FOw.binds (ps := ["left"]) fun _ _ _ _ _ _ us hl => match us, hl with | [_], _ => rfl
  have gOw := PySem.W.mg_of X G aOw
  have FIo := fun_mk (st := sIndexOf) lIo cIo kIo
  have bIo := FIo.binds (ps := ["order"]) fun _ _ _ _ _ _ us hl => match us, hl with | [_], _ => rfl
  have gIo := PySem.W.mg_of X G aIo
  have FIc := fun_mk (st := sIdx) lIc cIc kIc
  have bIc := FIc.binds (ps := ["tournament"]) fun _ _ _ _ _ _ us hl => match us, hl with | [_], _ => rfl
  have gIc := PySem.W.mg_of X G aIc
  have FRv := fun_mk (st := sRev) lRv cRv kRv
  have bRv := FRv.binds (ps := ["tournament"]) fun _ _ _ _ _ _ us hl => match us, hl with | [_], _ => rfl
  have gRv := PySem.W.mg_of X G aRv
  have FRn := fun_mk (st := sRen) lRn cRn kRn
  have bRn := FRn.binds (ps := ["tournament", "order"]) fun _ _ _ _ _ _ us hl => match us, hl with | [_, _], _ => rfl
  have gRn := PySem.W.mg_of X G aRn
  have FLs := fun_mk (st := sStream) lLs cLs kLs
  have bLs := FLs.binds (ps := ["_law_script"]) fun _ _ _ _ _ _ us hl => match us, hl with | [_], _ => rfl
  have gLs := PySem.W.mg_of X G aLs
  have FLn := fun_mk (st := sNext) lLn cLn kLn
  have bLn := FLn.binds (ps := ["_law_stream_here", "_law_many"]) fun _ _ _ _ _ _ us hl => match us, hl with | [_, _], _ => rfl
  have gLn := PySem.W.mg_of X G aLn
  have FLt := fun_mk (st := sLTour) lLt cLt kLt
  have bLt := FLt.binds (ps := ["_law_stream_here", "_law_least", "_law_most"]) fun _ _ _ _ _ _ us hl => match us, hl with | [_, _, _], _ => rfl
  have gLt := PySem.W.mg_of X G aLt
  have FLo := fun_mk (st := sLOrder) lLo cLo kLo
  have bLo := FLo.binds (ps := ["_law_stream_here", "_law_many"]) fun _ _ _ _ _ _ us hl => match us, hl with | [_, _], _ => rfl
  have gLo := PySem.W.mg_of X G aLo
  have FLb := fun_mk (st := sLBy) lLb cLb kLb
  have bLb := FLb.binds (ps := ["_law_order_here"]) fun _ _ _ _ _ _ us hl => match us, hl with | [_], _ => rfl
  have gLb := PySem.W.mg_of X G aLb
  have FLm := fun_mk (st := sLSome) lLm cLm kLm
  have bLm := FLm.binds (ps := ["_law_stream_here", "_law_least", "_law_most"]) fun _ _ _ _ _ _ us hl => match us, hl with | [_, _, _], _ => rfl
  have gLm := PySem.W.mg_of X G aLm
  have FLr := fun_mk (st := sLRows) lLr cLr kLr
  have bLr := FLr.binds (ps := ["_law_tournament_here", "_law_many"]) fun _ _ _ _ _ _ us hl => match us, hl with | [_, _], _ => rfl
  have gLr := PySem.W.mg_of X G aLr
  have FLg := fun_mk (st := sLTri) lLg cLg kLg
  have bLg := FLg.binds (ps := ["_law_tournament_here"]) fun _ _ _ _ _ _ us hl => match us, hl with | [_], _ => rfl
  have gLg := PySem.W.mg_of X G aLg
  have FLa := fun_mk (st := sLaw) lLa cLa kLa
  refine ⟨PySem.W.fnOf "law" "law" (defArgs sLaw) (defBody sLaw) (defScope sLaw) .none kVLa dcLa pmLa anLa cdLa ctLa, fun s v => .of_eq rfl, fun base _ _ => ?_⟩
  have GWh := ok_whole (P := l.prog) (w := w) (mg := mg) (base := base) FWh B
  have GCl := ok_climb (P := l.prog) (w := w) (mg := mg) (base := base) FCl B FWh bWh gWh
  have GIt := ok_isT (P := l.prog) (w := w) (mg := mg) (base := base) FIt B GCl kCl bCl gCl (PySem.W.mg_of X G aM)
  have GCt := ok_chk1 (P := l.prog) (w := w) (mg := mg) (base := base) FCt GIt kIt bIt gIt
  have GBe := ok_beats (P := l.prog) (w := w) (mg := mg) (base := base) FBe
  have GPl := ok_players (P := l.prog) (w := w) (mg := mg) (base := base) FPl B GWh kWh bWh gWh
  have GCs := ok_chk2 (P := l.prog) (w := w) (mg := mg) (base := base) FCs GIt kIt bIt gIt
  have GTb := ok_tby (P := l.prog) (w := w) (mg := mg) (base := base) FTb B
  have GOo := ok_orderOf (P := l.prog) (w := w) (mg := mg) (base := base) FOo B GBe kBe bBe gBe GTb kTb bTb gTb
  have GOw := ok_orders (P := l.prog) (w := w) (mg := mg) (base := base) FOw B
  have GIo := ok_indexOf (P := l.prog) (w := w) (mg := mg) (base := base) FIo B GOw kOw bOw gOw
  have GIc := ok_idx (P := l.prog) (w := w) (mg := mg) (base := base) FIc GCs kCs bCs gCs GOo kOo bOo gOo GIo kIo bIo gIo
  have GRv := ok_rev (P := l.prog) (w := w) (mg := mg) (base := base) FRv B GCt kCt bCt gCt GBe kBe bBe gBe
  have GRn := ok_ren (P := l.prog) (w := w) (mg := mg) (base := base) FRn B GCt kCt bCt gCt GPl kPl bPl gPl
  have GLs := ok_stream (P := l.prog) (w := w) (mg := mg) (base := base) FLs B
  have GLn := ok_next (P := l.prog) (w := w) (mg := mg) (base := base) FLn B
  have GLt := ok_ltour (P := l.prog) (w := w) (mg := mg) (base := base) FLt B GLn kLn bLn gLn
  have GLo := ok_lorder (P := l.prog) (w := w) (mg := mg) (base := base) FLo B GLn kLn bLn gLn
  have GLb := ok_lby (P := l.prog) (w := w) (mg := mg) (base := base) FLb B
  have GLm := ok_lsome (P := l.prog) (w := w) (mg := mg) (base := base) FLm GLn kLn bLn gLn GLt kLt bLt gLt GLb kLb bLb gLb GLo kLo bLo gLo
  have GLr := ok_lrows (P := l.prog) (w := w) (mg := mg) (base := base) FLr B
  have GLg := ok_ltri (P := l.prog) (w := w) (mg := mg) (base := base) FLg B GLr kLr bLr gLr
  exact ok_law FLa B GLs kLs bLs gLs GLm kLm bLm gLm GLg kLg bLg gLg GIc kIc bIc gIc GLn kLn bLn gLn GRn kRn bRn gRn GRv kRv bRv gRv
end K53
open PySem PySem.W PyProof.Rows
set_option maxHeartbeats 0 in
theorem PySem.Challenge.cw_ringbeats_k53_whole_circular_or_without_holds : PySem.Challenge.rw_ringbeats_k53_whole_circular_or_without.Holds := by
  w_on; o_law; k_head; (case hw => w_witness2)
  k_fill
  refine L2.walk_of (l := PySem.Challenge.rw_ringbeats_k53_whole_circular_or_without) (n := 63) (k := 6) (x := "_law_script") (CX := fun _ => L2.CX0) (sp := fun w => K53.spLaw _) rfl (by decide) rfl ⟨rfl, by decide, by decide⟩ (fun w h Y => PySem.W.kIn_of Y) ?F (fun _ _ a ns hl _ hS => ⟨a, ns, rfl, hS, hl, fun _ => rfl⟩) (fun _ _ _ _ _ h => h)
  case F =>
    intro w mg fa h KX G hmg
    refine' K53.all_mk KX G hmg ?aWh ?lWh ?cWh ?kWh ?aCl ?lCl ?cCl ?kCl ?aIt ?lIt ?cIt ?kIt ?aCt ?lCt ?cCt ?kCt ?aBe ?lBe ?cBe ?kBe ?aPl ?lPl ?cPl ?kPl ?aCs ?lCs ?cCs ?kCs ?aTb ?lTb ?cTb ?kTb ?aOo ?lOo ?cOo ?kOo ?aOw ?lOw ?cOw ?kOw ?aIo ?lIo ?cIo ?kIo ?aIc ?lIc ?cIc ?kIc ?aRv ?lRv ?cRv ?kRv ?aRn ?lRn ?cRn ?kRn ?aLs ?lLs ?cLs ?kLs ?aLn ?lLn ?cLn ?kLn ?aLt ?lLt ?cLt ?kLt ?aLo ?lLo ?cLo ?kLo ?aLb ?lLb ?cLb ?kLb ?aLm ?lLm ?cLm ?kLm ?aLr ?lLr ?cLr ?kLr ?aLg ?lLg ?cLg ?kLg ?aLa ?lLa ?cLa ?kLa ?aM ?zisi ?zint ?zbool ?ztup ?zall ?zany ?zrng ?zlen ?zsrt ?zenu ?zlst ?zabs ?zmin
    (case aWh => k_is)
    (case lWh => k_is)
    (case cWh => k_is)
    (case kWh => k_is)
    (case aCl => k_is)
    (case lCl => k_is)
    (case cCl => k_is)
    (case kCl => k_is)
    (case aIt => k_is)
    (case lIt => k_is)
    (case cIt => k_is)
    (case kIt => k_is)
    (case aCt => k_is)
    (case lCt => k_is)
    (case cCt => k_is)
    (case kCt => k_is)
    (case aBe => k_is)
    (case lBe => k_is)
    (case cBe => k_is)
    (case kBe => k_is)
    (case aPl => k_is)
    (case lPl => k_is)
    (case cPl => k_is)
    (case kPl => k_is)
    (case aCs => k_is)
    (case lCs => k_is)
    (case cCs => k_is)
    (case kCs => k_is)
    (case aTb => k_is)
    (case lTb => k_is)
    (case cTb => k_is)
    (case kTb => k_is)
    (case aOo => k_is)
    (case lOo => k_is)
    (case cOo => k_is)
    (case kOo => k_is)
    (case aOw => k_is)
    (case lOw => k_is)
    (case cOw => k_is)
    (case kOw => k_is)
    (case aIo => k_is)
    (case lIo => k_is)
    (case cIo => k_is)
    (case kIo => k_is)
    (case aIc => k_is)
    (case lIc => k_is)
    (case cIc => k_is)
    (case kIc => k_is)
    (case aRv => k_is)
    (case lRv => k_is)
    (case cRv => k_is)
    (case kRv => k_is)
    (case aRn => k_is)
    (case lRn => k_is)
    (case cRn => k_is)
    (case kRn => k_is)
    (case aLs => k_is)
    (case lLs => k_is)
    (case cLs => k_is)
    (case kLs => k_is)
    (case aLn => k_is)
    (case lLn => k_is)
    (case cLn => k_is)
    (case kLn => k_is)
    (case aLt => k_is)
    (case lLt => k_is)
    (case cLt => k_is)
    (case kLt => k_is)
    (case aLo => k_is)
    (case lLo => k_is)
    (case cLo => k_is)
    (case kLo => k_is)
    (case aLb => k_is)
    (case lLb => k_is)
    (case cLb => k_is)
    (case kLb => k_is)
    (case aLm => k_is)
    (case lLm => k_is)
    (case cLm => k_is)
    (case kLm => k_is)
    (case aLr => k_is)
    (case lLr => k_is)
    (case cLr => k_is)
    (case kLr => k_is)
    (case aLg => k_is)
    (case lLg => k_is)
    (case cLg => k_is)
    (case kLg => k_is)
    (case aLa => k_is)
    (case lLa => k_is)
    (case cLa => k_is)
    (case kLa => k_is)
    (case aM => k_is)
    (case zisi => k_is)
    (case zint => k_is)
    (case zbool => k_is)
    (case ztup => k_is)
    (case zall => k_is)
    (case zany => k_is)
    (case zrng => k_is)
    (case zlen => k_is)
    (case zsrt => k_is)
    (case zenu => k_is)
    (case zlst => k_is)
    (case zabs => k_is)
    (case zmin => k_is)
