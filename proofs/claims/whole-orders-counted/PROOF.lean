import PyProof.Rows.All
import Wide.All
import OpenK.AllK
import Wide.FinOn
import HandS.ForMost
import HandS.Exc
import HandS.TryOnly
import HandS.ExcOwn
import HandS.WordsExc
import HandS.Conv
import HandS.Rev
import HandS.Zip
import HandS.SortRule
import HandS.IsInst
import HandS.Property
import HandS.ClsMeth
import HandS.DictComp
import HandS.WrittenGet
import HandS.Defaults
import HandS.TupLe
import HandS.Wide
import HandS.Flow
import HandS.GenList
import HandS.ExcInit
import HandS.HeadHook4
import KE.KDictKeyed
import KE.KDictCopyH
import KE.KDictWalk
import HandS.Steps
import HandS.ExcField
import HandS.ExcIs
import KE.KExcIs
import HandS.GenOver
import HandS.GenCall
import HandS.TupLen
import KE.DataCmp
import KE.KStateDown
import HandS.Head0
import HandS.Head1
import HandS.Head2
import HandS.HeadEnd
import PySem.Challenge.RW_searchrules_k54_whole_orders_counted
section
set_option autoImplicit false
namespace SR

structure Mach where
  rows : List (List Nat)
  flags : List Bool
  deriving DecidableEq

def Mach.nx (M : Mach) (s l : Nat) : Nat := (M.rows.getD s []).getD l 0
def Mach.fl (M : Mach) (s : Nat) : Bool := M.flags.getD s false

abbrev Stt := Nat → Nat → Nat

def better (M : Mach) (left : List Nat) (st : Stt) (v : Nat) : List Nat := left.filter fun o => decide (o ≠ v) && M.fl (st v o)
def free (M : Mach) (left : List Nat) (st : Stt) : List Nat := left.filter fun v => (better M left st v).isEmpty
def bhL (left : List Nat) (v : Nat) : List Nat := left.filter fun o => decide (o ≠ v)
def mk (near : List (List Nat)) (v x : Nat) : Nat := if x ∈ near.getD v [] then 1 else 0
def bhS (M : Mach) (near : List (List Nat)) (st : Stt) (v : Nat) : Stt := fun a b => M.nx (st a b) (mk near v a + 2 * mk near v b)

/-- all orders that go on, rising -/
def ords (M : Mach) (near : List (List Nat)) : Nat → List Nat → Stt → List (List Nat)
  | 0, _, _ => [[]]
  | k + 1, left, st => (free M left st).flatMap fun v => (ords M near k (bhL left v) (bhS M near st v)).map (v :: ·)
def cnt (M : Mach) (near : List (List Nat)) (left : List Nat) (st : Stt) : Nat := (ords M near left.length left st).length

/-- two knowledges that agree where it matters -/
def Agr (left : List Nat) (st st' : Stt) : Prop := ∀ a ∈ left, ∀ b ∈ left, a ≠ b → st a b = st' a b

section
variable {M : Mach} {near : List (List Nat)} {left : List Nat} {st st' : Stt}

theorem mem_bhL {v x : Nat} : x ∈ bhL left v ↔ x ∈ left ∧ x ≠ v := by
  unfold bhL; rw [List.mem_filter, decide_eq_true_iff]
theorem mem_free {v : Nat} : v ∈ free M left st ↔ v ∈ left ∧ better M left st v = [] := by
  unfold free; rw [List.mem_filter, List.isEmpty_iff]
theorem better_nil {v : Nat} : better M left st v = [] ↔ ∀ o ∈ left, o ≠ v → M.fl (st v o) = false := by
  unfold better
  rw [List.filter_eq_nil_iff]
  constructor
  · intro h o ho hn
    have := h o ho
    cases e : M.fl (st v o) with
    | false => rfl
    | true => simp [hn, e] at this
  · intro h o ho q
    rw [Bool.and_eq_true, decide_eq_true_iff] at q
    rw [h o ho q.1] at q
    exact absurd q.2 Bool.false_ne_true
theorem Agr.better (h : Agr left st st') {v : Nat} (hv : v ∈ left) : better M left st v = better M left st' v := by
  unfold SR.better
  apply List.filter_congr
  intro o ho
  by_cases e : o = v
  · simp [e]
  · rw [h v hv o ho (Ne.symm e)]
theorem Agr.free (h : Agr left st st') : free M left st = free M left st' := by
  unfold SR.free
  apply List.filter_congr
  intro v hv
  rw [h.better hv]
theorem Agr.bh (h : Agr left st st') (v : Nat) : Agr (bhL left v) (bhS M near st v) (bhS M near st' v) := by
  intro a ha b hb n
  unfold bhS
  rw [h a (mem_bhL.mp ha).1 b (mem_bhL.mp hb).1 n]
theorem Agr.ords : ∀ (k : Nat) {left : List Nat} {st st' : Stt}, Agr left st st' → ords M near k left st = ords M near k left st'
  | 0, _, _, _, _ => rfl
  | k + 1, left, st, st', h => by
    unfold SR.ords
    rw [h.free]
    have e : ∀ v ∈ SR.free M left st', (SR.ords M near k (bhL left v) (bhS M near st v)).map (v :: ·) = (SR.ords M near k (bhL left v) (bhS M near st' v)).map (v :: ·) := fun v _ => by
      rw [Agr.ords k (h.bh v)]
    rw [List.flatMap_def, List.flatMap_def, List.map_congr_left e]
theorem Agr.cnt (h : Agr left st st') : cnt M near left st = cnt M near left st' := by
  unfold SR.cnt; rw [h.ords]

theorem bhL_nodup {v : Nat} (h : left.Nodup) : (bhL left v).Nodup := h.filter _
theorem bhL_not_mem {v : Nat} (h : v ∉ left) : bhL left v = left := by
  unfold bhL
  rw [List.filter_eq_self]
  intro a ha
  exact decide_eq_true fun e => h (e ▸ ha)
theorem bhL_length : ∀ {left : List Nat} {v : Nat}, left.Nodup → v ∈ left → (bhL left v).length + 1 = left.length
  | [], _, _, h => nomatch h
  | a :: r, v, hn, h => by
    rw [List.nodup_cons] at hn
    by_cases e : a = v
    · subst e
      have : bhL (a :: r) a = bhL r a := by unfold bhL; simp
      rw [this, bhL_not_mem hn.1, List.length_cons]
    · have hv : v ∈ r := by
        rcases List.mem_cons.mp h with q | q
        · exact absurd q.symm e
        · exact q
      have : bhL (a :: r) v = a :: bhL r v := by unfold bhL; simp [e]
      rw [this, List.length_cons, List.length_cons, bhL_length hn.2 hv]
theorem free_sub {v : Nat} (h : v ∈ free M left st) : v ∈ left := (mem_free.mp h).1

theorem cnt_nil : cnt M near [] st = 1 := rfl
/-- the number, by what may be next -/
theorem cnt_step (hn : left.Nodup) (h0 : left ≠ []) : cnt M near left st = ((free M left st).map fun v => cnt M near (bhL left v) (bhS M near st v)).sum := by
  obtain ⟨k, hk⟩ : ∃ k, left.length = k + 1 := ⟨left.length - 1, by
    have : 0 < left.length := List.length_pos_iff.mpr h0
    omega⟩
  unfold cnt
  rw [hk]
  show ((free M left st).flatMap fun v => (ords M near k (bhL left v) (bhS M near st v)).map (v :: ·)).length = _
  rw [List.length_flatMap]
  congr 1
  apply List.map_congr_left
  intro v hv
  have := bhL_length hn (free_sub hv)
  rw [List.length_map, show (bhL left v).length = k by omega]

/-- the order with a rank, by what is first -/
theorem flat_get {α : Type} (f : Nat → List α) : ∀ (l : List Nat) (r : Nat), r < (l.flatMap f).length → ∃ i v, ∃ s : Nat, l[i]? = some v ∧ ((l.take i).map fun u => (f u).length).sum + s = r ∧ s < (f v).length ∧ (l.flatMap f)[r]? = (f v)[s]?
  | [], r, h => by simp at h
  | a :: l, r, h => by
    rw [List.flatMap_cons, List.length_append] at h
    by_cases c : r < (f a).length
    · exact ⟨0, a, r, rfl, by simp, c, by rw [List.flatMap_cons, List.getElem?_append_left c]⟩
    · obtain ⟨i, v, s, e1, e2, e3, e4⟩ := flat_get f l (r - (f a).length) (by omega)
      refine ⟨i + 1, v, s, by simpa using e1, ?_, e3, ?_⟩
      · rw [List.take_succ_cons, List.map_cons, List.sum_cons]; omega
      · rw [List.flatMap_cons, List.getElem?_append_right (by omega)]; exact e4
/-- .. and back: a turn and a rest give the rank -/
theorem flat_at {α : Type} (f : Nat → List α) : ∀ (l : List Nat) (i v s : Nat), l[i]? = some v → s < (f v).length → (l.flatMap f)[((l.take i).map fun u => (f u).length).sum + s]? = (f v)[s]?
  | [], i, v, s, h, _ => by simp at h
  | a :: l, 0, v, s, h, hs => by
    have e : a = v := Option.some.inj h
    subst e
    rw [List.flatMap_cons, List.take_zero, List.map_nil, List.sum_nil, Nat.zero_add, List.getElem?_append_left hs]
  | a :: l, i + 1, v, s, h, hs => by
    rw [List.flatMap_cons, List.take_succ_cons, List.map_cons, List.sum_cons, List.getElem?_append_right (by omega)]
    rw [show (f a).length + ((l.take i).map fun u => (f u).length).sum + s - (f a).length = ((l.take i).map fun u => (f u).length).sum + s by omega]
    exact flat_at f l i v s (by simpa using h) hs
end

/-! ### rising lists -/
theorem filter_lt_take : ∀ (l : List Nat) (i v : Nat), l.Pairwise (· < ·) → l[i]? = some v → l.filter (fun u => decide (u < v)) = l.take i
  | [], i, v, _, h => by simp at h
  | a :: l, 0, v, hp, h => by
    have e : a = v := Option.some.inj h
    subst e
    rw [List.take_zero, List.filter_eq_nil_iff]
    intro u hu q
    have q' : u < a := of_decide_eq_true q
    rcases List.mem_cons.mp hu with e | hu
    · omega
    · have := List.rel_of_pairwise_cons hp hu
      omega
  | a :: l, i + 1, v, hp, h => by
    have hv : l[i]? = some v := by simpa using h
    have hlt : a < v := List.rel_of_pairwise_cons hp (List.mem_of_getElem? hv)
    rw [List.take_succ_cons, List.filter_cons, if_pos (decide_eq_true hlt), filter_lt_take l i v (List.Pairwise.of_cons hp) hv]
theorem free_rising {M : Mach} {left : List Nat} {st : Stt} (h : left.Pairwise (· < ·)) : (free M left st).Pairwise (· < ·) := h.filter _
theorem bhL_rising {left : List Nat} {v : Nat} (h : left.Pairwise (· < ·)) : (bhL left v).Pairwise (· < ·) := h.filter _
theorem rising_nodup {l : List Nat} (h : l.Pairwise (· < ·)) : l.Nodup := h.imp fun h => Nat.ne_of_lt h

/-! ### the orders are rising as lists -/
def lexLt : List Nat → List Nat → Prop
  | [], [] => False
  | [], _ :: _ => True
  | _ :: _, [] => False
  | a :: r, b :: s => a < b ∨ (a = b ∧ lexLt r s)
theorem ords_rising (M : Mach) (near : List (List Nat)) : ∀ (k : Nat) (left : List Nat) (st : Stt), left.Pairwise (· < ·) → (ords M near k left st).Pairwise lexLt
  | 0, _, _, _ => by
    unfold ords; exact List.pairwise_singleton _ _
  | k + 1, left, st, h => by
    unfold ords
    rw [List.flatMap_def, List.pairwise_flatten]
    constructor
    · intro l hl
      obtain ⟨v, hv, rfl⟩ := List.mem_map.mp hl
      rw [List.pairwise_map]
      exact (ords_rising M near k _ _ (bhL_rising h)).imp fun q => .inr ⟨rfl, q⟩
    · rw [List.pairwise_map]
      refine (free_rising h).imp ?_
      intro a b hab x hx y hy
      obtain ⟨x', _, rfl⟩ := List.mem_map.mp hx
      obtain ⟨y', _, rfl⟩ := List.mem_map.mp hy
      exact .inl hab


/-! ### what an order by the rule is; its rank -/
def By (M : Mach) (near : List (List Nat)) : List Nat → List Nat → Stt → Prop
  | [], left, _ => left = []
  | v :: r, left, st => v ∈ free M left st ∧ By M near r (bhL left v) (bhS M near st v)
def rk (M : Mach) (near : List (List Nat)) : List Nat → List Nat → Stt → Nat
  | [], _, _ => 0
  | v :: r, left, st => (((free M left st).filter fun u => decide (u < v)).map fun u => cnt M near (bhL left u) (bhS M near st u)).sum + rk M near r (bhL left v) (bhS M near st v)

section
variable {M : Mach} {near : List (List Nat)}
/-- one step down to the order with a rank -/
theorem ords_get {left : List Nat} {st : Stt} (hn : left.Nodup) (h0 : left ≠ []) {r : Nat} (hr : r < cnt M near left st) :
    ∃ i v, ∃ s : Nat, (free M left st)[i]? = some v ∧ (((free M left st).take i).map fun u => cnt M near (bhL left u) (bhS M near st u)).sum + s = r ∧ s < cnt M near (bhL left v) (bhS M near st v) ∧
      (ords M near left.length left st)[r]? = ((ords M near (bhL left v).length (bhL left v) (bhS M near st v))[s]?).map (v :: ·) := by
  obtain ⟨k, hk⟩ : ∃ k, left.length = k + 1 := ⟨left.length - 1, by
    have : 0 < left.length := List.length_pos_iff.mpr h0
    omega⟩
  unfold cnt at hr
  rw [hk] at hr ⊢
  obtain ⟨i, v, s, e1, e2, e3, e4⟩ := flat_get (fun v => (ords M near k (bhL left v) (bhS M near st v)).map (v :: ·)) (free M left st) r hr
  have hl : ∀ u ∈ free M left st, (bhL left u).length = k := fun u hu => by
    have := bhL_length hn (free_sub hu)
    omega
  have hv : v ∈ free M left st := List.mem_of_getElem? e1
  refine ⟨i, v, s, e1, ?_, ?_, ?_⟩
  · rw [← e2]
    congr 2
    apply List.map_congr_left
    intro u hu
    unfold cnt
    rw [List.length_map, hl u (List.mem_of_mem_take hu)]
  · unfold cnt
    rw [hl v hv]
    rw [List.length_map] at e3
    exact e3
  · rw [hl v hv]
    show ((free M left st).flatMap fun v => (ords M near k (bhL left v) (bhS M near st v)).map (v :: ·))[r]? = _
    rw [e4, List.getElem?_map]
theorem ords_by : ∀ (k : Nat) (left : List Nat) (st : Stt), left.length = k → left.Pairwise (· < ·) → ∀ (r : Nat) (o : List Nat), (ords M near k left st)[r]? = some o → By M near o left st ∧ rk M near o left st = r
  | 0, left, st, hk, _, r, o, h => by
    have e0 : left = [] := List.length_eq_zero_iff.mp hk
    subst e0
    unfold ords at h
    cases r with
    | zero =>
      have e : ([] : List Nat) = o := Option.some.inj h
      subst e
      exact ⟨rfl, rfl⟩
    | succ r => simp at h
  | k + 1, left, st, hk, hp, r, o, h => by
    have hn := rising_nodup hp
    have h0 : left ≠ [] := fun e => by rw [e] at hk; simp at hk
    have hr : r < cnt M near left st := by
      unfold cnt
      rw [hk]
      exact (List.getElem?_eq_some_iff.mp h).1
    obtain ⟨i, v, s, e1, e2, e3, e4⟩ := ords_get hn h0 hr
    rw [hk, h] at e4
    have hv : v ∈ free M left st := List.mem_of_getElem? e1
    have hl : (bhL left v).length = k := by
      have := bhL_length hn (free_sub hv)
      omega
    rw [hl] at e4
    cases q : (ords M near k (bhL left v) (bhS M near st v))[s]? with
    | none => rw [q] at e4; cases e4
    | some o' =>
      rw [q] at e4
      have e : o = v :: o' := Option.some.inj e4
      subst e
      obtain ⟨i1, i2⟩ := ords_by k (bhL left v) (bhS M near st v) hl (bhL_rising hp) s o' q
      refine ⟨⟨hv, i1⟩, ?_⟩
      show (((free M left st).filter fun u => decide (u < v)).map _).sum + _ = r
      rw [filter_lt_take _ i v (free_rising hp) e1, i2, e2]
theorem By.perm : ∀ (o left : List Nat) (st : Stt), left.Nodup → By M near o left st → o.Perm left
  | [], left, _, _, h => by
    have e : left = [] := h
    rw [e]
  | v :: r, left, st, hn, h => by
    have ih := By.perm r _ _ (bhL_nodup hn) h.2
    refine (List.Perm.cons v ih).trans ?_
    apply (List.perm_ext_iff_of_nodup ?_ hn).mpr
    · intro a
      rw [List.mem_cons, mem_bhL]
      constructor
      · rintro (rfl | q)
        · exact free_sub h.1
        · exact q.1
      · intro q
        by_cases e : a = v
        · exact .inl e
        · exact .inr ⟨q, e⟩
    · rw [List.nodup_cons]
      exact ⟨fun q => (mem_bhL.mp q).2 rfl, bhL_nodup hn⟩
end

/-! ### there is always one that may be next -/
/-- what pairs and triples of states a machine can be in -/
structure Sound (M : Mach) (P : List (Nat × Nat)) (T : List (Nat × Nat × Nat)) : Prop where
  p0 : (0, 0) ∈ P
  ps : ∀ p ∈ P, ∀ i ∈ [0, 1], ∀ j ∈ [0, 1], (M.nx p.1 (i + 2 * j), M.nx p.2 (j + 2 * i)) ∈ P
  pf : ∀ p ∈ P, ¬ (M.fl p.1 = true ∧ M.fl p.2 = true)
  t0 : (0, 0, 0) ∈ T
  ts : ∀ t ∈ T, ∀ i ∈ [0, 1], ∀ j ∈ [0, 1], ∀ k ∈ [0, 1], (M.nx t.1 (i + 2 * j), M.nx t.2.1 (j + 2 * k), M.nx t.2.2 (i + 2 * k)) ∈ T
  tf : ∀ t ∈ T, M.fl t.1 = true → M.fl t.2.1 = true → M.fl t.2.2 = true
instance (M : Mach) (P : List (Nat × Nat)) (T : List (Nat × Nat × Nat)) : Decidable (Sound M P T) :=
  decidable_of_iff ((0, 0) ∈ P ∧ (∀ p ∈ P, ∀ i ∈ [0, 1], ∀ j ∈ [0, 1], (M.nx p.1 (i + 2 * j), M.nx p.2 (j + 2 * i)) ∈ P) ∧ (∀ p ∈ P, ¬ (M.fl p.1 = true ∧ M.fl p.2 = true)) ∧ (0, 0, 0) ∈ T ∧
    (∀ t ∈ T, ∀ i ∈ [0, 1], ∀ j ∈ [0, 1], ∀ k ∈ [0, 1], (M.nx t.1 (i + 2 * j), M.nx t.2.1 (j + 2 * k), M.nx t.2.2 (i + 2 * k)) ∈ T) ∧ (∀ t ∈ T, M.fl t.1 = true → M.fl t.2.1 = true → M.fl t.2.2 = true))
    ⟨fun ⟨a, b, c, d, e, f⟩ => ⟨a, b, c, d, e, f⟩, fun ⟨a, b, c, d, e, f⟩ => ⟨a, b, c, d, e, f⟩⟩
/-- the knowledge is one that the machine can have -/
structure Lawful (P : List (Nat × Nat)) (T : List (Nat × Nat × Nat)) (left : List Nat) (st : Stt) : Prop where
  two : ∀ a ∈ left, ∀ b ∈ left, a ≠ b → (st a b, st b a) ∈ P
  three : ∀ a ∈ left, ∀ b ∈ left, ∀ c ∈ left, a ≠ b → b ≠ c → a ≠ c → (st a b, st b c, st a c) ∈ T
theorem mk_bit (near : List (List Nat)) (v x : Nat) : mk near v x ∈ [0, 1] := by
  unfold mk; split <;> simp
theorem Lawful.start {M : Mach} {P : List (Nat × Nat)} {T : List (Nat × Nat × Nat)} (S : Sound M P T) (left : List Nat) : Lawful P T left (fun _ _ => 0) :=
  ⟨fun _ _ _ _ _ => S.p0, fun _ _ _ _ _ _ _ _ _ => S.t0⟩
theorem Lawful.next {M : Mach} {P : List (Nat × Nat)} {T : List (Nat × Nat × Nat)} (S : Sound M P T) {left : List Nat} {st : Stt} (L : Lawful P T left st) (near : List (List Nat)) (v : Nat) : Lawful P T (bhL left v) (bhS M near st v) :=
  ⟨fun a ha b hb n => S.ps _ (L.two a (mem_bhL.mp ha).1 b (mem_bhL.mp hb).1 n) _ (mk_bit near v a) _ (mk_bit near v b),
   fun a ha b hb c hc n1 n2 n3 => S.ts _ (L.three a (mem_bhL.mp ha).1 b (mem_bhL.mp hb).1 c (mem_bhL.mp hc).1 n1 n2 n3) _ (mk_bit near v a) _ (mk_bit near v b) _ (mk_bit near v c)⟩
theorem best {M : Mach} {P : List (Nat × Nat)} {T : List (Nat × Nat × Nat)} (S : Sound M P T) {left : List Nat} {st : Stt} (L : Lawful P T left st) :
    ∀ l : List Nat, l ≠ [] → (∀ x ∈ l, x ∈ left) → ∃ v ∈ l, ∀ o ∈ l, o ≠ v → M.fl (st v o) = false
  | [], h, _ => absurd rfl h
  | [x], _, _ => ⟨x, List.mem_singleton.mpr rfl, fun o ho n => absurd (List.mem_singleton.mp ho) n⟩
  | x :: y :: r, _, hs => by
    obtain ⟨m, hm, hb⟩ := best S L (y :: r) (by simp) (fun z hz => hs z (List.mem_cons_of_mem _ hz))
    have hx : x ∈ left := hs x List.mem_cons_self
    have hm' : m ∈ left := hs m (List.mem_cons_of_mem _ hm)
    by_cases e : x = m
    · refine ⟨m, List.mem_cons_of_mem _ hm, fun o ho n => ?_⟩
      rcases List.mem_cons.mp ho with q | q
      · exact absurd (q.trans e) n
      · exact hb o q n
    · cases f : M.fl (st m x) with
      | false =>
        refine ⟨m, List.mem_cons_of_mem _ hm, fun o ho n => ?_⟩
        rcases List.mem_cons.mp ho with q | q
        · rw [q]; exact f
        · exact hb o q n
      | true =>
        refine ⟨x, List.mem_cons_self, fun o ho n => ?_⟩
        rcases List.mem_cons.mp ho with q | q
        · exact absurd q n
        · cases g : M.fl (st x o) with
          | false => rfl
          | true =>
            have ho' : o ∈ left := hs o ho
            by_cases eo : o = m
            · subst eo
              exact absurd ⟨f, g⟩ (S.pf _ (L.two o hm' x hx (Ne.symm e)))
            · have := S.tf _ (L.three m hm' x hx o ho' (Ne.symm e) (Ne.symm n) (Ne.symm eo)) f g
              rw [hb o q eo] at this
              cases this
theorem free_ne {M : Mach} {P : List (Nat × Nat)} {T : List (Nat × Nat × Nat)} (S : Sound M P T) {left : List Nat} {st : Stt} (L : Lawful P T left st) (h0 : left ≠ []) : free M left st ≠ [] := by
  obtain ⟨v, hv, hb⟩ := best S L left h0 fun _ h => h
  exact List.ne_nil_of_mem (mem_free.mpr ⟨hv, better_nil.mpr hb⟩)
theorem cnt_pos {M : Mach} {P : List (Nat × Nat)} {T : List (Nat × Nat × Nat)} (S : Sound M P T) (near : List (List Nat)) : ∀ (k : Nat) (left : List Nat) (st : Stt), left.length = k → left.Nodup → Lawful P T left st → 0 < cnt M near left st
  | 0, left, st, hk, _, _ => by
    have e0 : left = [] := List.length_eq_zero_iff.mp hk
    subst e0
    exact Nat.one_pos
  | k + 1, left, st, hk, hn, L => by
    have h0 : left ≠ [] := fun e => by rw [e] at hk; simp at hk
    rw [cnt_step hn h0]
    obtain ⟨v, r, e⟩ := List.exists_cons_of_ne_nil (free_ne S L h0)
    have hv : v ∈ free M left st := by rw [e]; exact List.mem_cons_self
    have hl : (bhL left v).length = k := by
      have := bhL_length hn (free_sub hv)
      omega
    have := cnt_pos S near k (bhL left v) (bhS M near st v) hl (bhL_nodup hn) (L.next S near v)
    rw [e, List.map_cons, List.sum_cons]
    omega

def mAny : Mach := ⟨[[0, 0, 0, 0]], [false]⟩
def mSome : Mach := ⟨[[0, 1, 2, 1], [1, 1, 1, 1], [2, 1, 2, 1]], [false, false, true]⟩
def mFirst : Mach := ⟨[[0, 1, 2, 1], [1, 1, 1, 1], [2, 2, 2, 2]], [false, false, true]⟩
def mLast : Mach := ⟨[[0, 0, 1, 0], [1, 0, 1, 0]], [false, true]⟩
def mEarly : Mach := ⟨[[0, 1, 2, 0], [1, 1, 1, 1], [2, 2, 2, 2]], [false, false, true]⟩
def mLate : Mach := ⟨[[0, 0, 1, 0], [1, 0, 1, 1]], [false, true]⟩
def six : List Mach := [mSome, mAny, mFirst, mLast, mEarly, mLate]
/-- all pairs, all triples that are reached -/
def grow {α : Type} [DecidableEq α] (f : α → List α) : Nat → List α → List α
  | 0, l => l
  | k + 1, l => grow f k ((l ++ l.flatMap f).eraseDups)
def Ps (M : Mach) : List (Nat × Nat) := grow (fun p => [0, 1].flatMap fun i => [0, 1].map fun j => (M.nx p.1 (i + 2 * j), M.nx p.2 (j + 2 * i))) 4 [(0, 0)]
def Ts (M : Mach) : List (Nat × Nat × Nat) := grow (fun t => [0, 1].flatMap fun i => [0, 1].flatMap fun j => [0, 1].map fun k => (M.nx t.1 (i + 2 * j), M.nx t.2.1 (j + 2 * k), M.nx t.2.2 (i + 2 * k))) 4 [(0, 0, 0)]
theorem six_sound : ∀ M ∈ six, Sound M (Ps M) (Ts M) := by decide +kernel

/-! ### all twins: as many orders as the product -/
def fact : Nat → Nat
  | 0 => 1
  | n + 1 => (n + 1) * fact n
theorem sum_const {α : Type} (l : List α) (f : α → Nat) (c : Nat) (h : ∀ x ∈ l, f x = c) : (l.map f).sum = l.length * c := by
  induction l with
  | nil => simp
  | cons a l ih =>
    rw [List.map_cons, List.sum_cons, h a List.mem_cons_self, ih (fun x hx => h x (List.mem_cons_of_mem _ hx)), List.length_cons, Nat.succ_mul]
    omega
/-- S: states that are no one's worse and lead to such only -/
theorem twins {M : Mach} {near : List (List Nat)} {S : List Nat} (hS : ∀ s ∈ S, M.fl s = false) : ∀ (k : Nat) (left : List Nat) (st : Stt), left.length = k → left.Nodup →
    (∀ v ∈ left, ∀ a ∈ left, ∀ b ∈ left, v ≠ a → v ≠ b → a ≠ b → ∀ s ∈ S, M.nx s (mk near v a + 2 * mk near v b) ∈ S) → (∀ a ∈ left, ∀ b ∈ left, a ≠ b → st a b ∈ S) → cnt M near left st = fact k
  | 0, left, st, hk, _, _, _ => by
    have e0 : left = [] := List.length_eq_zero_iff.mp hk
    subst e0; rfl
  | k + 1, left, st, hk, hn, hstep, hst => by
    have h0 : left ≠ [] := fun e => by rw [e] at hk; simp at hk
    have hf : free M left st = left := by
      unfold free
      rw [List.filter_eq_self]
      intro v hv
      rw [List.isEmpty_iff, better_nil]
      intro o ho n
      exact hS _ (hst v hv o ho (Ne.symm n))
    rw [cnt_step hn h0, hf, sum_const left _ (fact k), hk]
    · rfl
    · intro v hv
      refine twins hS k (bhL left v) (bhS M near st v) ?_ (bhL_nodup hn) ?_ ?_
      · have := bhL_length hn hv
        omega
      · intro x hx a ha b hb
        exact hstep x (mem_bhL.mp hx).1 a (mem_bhL.mp ha).1 b (mem_bhL.mp hb).1
      · intro a ha b hb n
        have ha' := mem_bhL.mp ha
        have hb' := mem_bhL.mp hb
        exact hstep v hv a ha'.1 b hb'.1 (Ne.symm ha'.2) (Ne.symm hb'.2) n _ (hst a ha'.1 b hb'.1 n)

/-! ### another naming of the nodes: as many orders -/
theorem sum_perm {l l' : List Nat} (h : l.Perm l') : l.sum = l'.sum := by
  induction h with
  | nil => rfl
  | cons x _ ih => rw [List.sum_cons, List.sum_cons, ih]
  | swap x y l => rw [List.sum_cons, List.sum_cons, List.sum_cons, List.sum_cons]; omega
  | trans _ _ a b => exact a.trans b
theorem nodup_map_on {f : Nat → Nat} : ∀ {l : List Nat}, l.Nodup → (∀ a ∈ l, ∀ b ∈ l, f a = f b → a = b) → (l.map f).Nodup
  | [], _, _ => List.nodup_nil
  | a :: l, h, hi => by
    rw [List.nodup_cons] at h
    rw [List.map_cons, List.nodup_cons]
    refine ⟨fun q => ?_, nodup_map_on h.2 fun x hx y hy => hi x (List.mem_cons_of_mem _ hx) y (List.mem_cons_of_mem _ hy)⟩
    obtain ⟨b, hb, e⟩ := List.mem_map.mp q
    have := hi b (List.mem_cons_of_mem _ hb) a List.mem_cons_self e
    subst this
    exact h.1 hb
theorem cnt_iso {M : Mach} {near near' : List (List Nat)} {f : Nat → Nat} : ∀ (k : Nat) (left left' : List Nat) (st st' : Stt), left.length = k → left.Nodup → left'.Nodup → (∀ x, x ∈ left' ↔ ∃ a ∈ left, f a = x) →
    (∀ a ∈ left, ∀ b ∈ left, f a = f b → a = b) → (∀ v ∈ left, ∀ a ∈ left, v ≠ a → mk near' (f v) (f a) = mk near v a) → (∀ a ∈ left, ∀ b ∈ left, a ≠ b → st' (f a) (f b) = st a b) → cnt M near' left' st' = cnt M near left st
  | 0, left, left', st, st', hk, _, _, hm, _, _, _ => by
    have e0 : left = [] := List.length_eq_zero_iff.mp hk
    subst e0
    have e1 : left' = [] := by
      cases left' with
      | nil => rfl
      | cons x r =>
        obtain ⟨a, ha, _⟩ := (hm x).mp List.mem_cons_self
        cases ha
    subst e1
    rfl
  | k + 1, left, left', st, st', hk, hn, hn', hm, hi, hnear, hst => by
    have h0 : left ≠ [] := fun e => by rw [e] at hk; simp at hk
    have h0' : left' ≠ [] := by
      obtain ⟨a, r, e⟩ := List.exists_cons_of_ne_nil h0
      exact List.ne_nil_of_mem ((hm (f a)).mpr ⟨a, by rw [e]; exact List.mem_cons_self, rfl⟩)
    rw [cnt_step hn h0, cnt_step hn' h0']
    have hfree : ∀ v ∈ left, (f v ∈ free M left' st' ↔ v ∈ free M left st) := by
      intro v hv
      rw [mem_free, mem_free, better_nil, better_nil]
      constructor
      · intro ⟨_, h⟩
        refine ⟨hv, fun o ho n => ?_⟩
        rw [← hst v hv o ho (Ne.symm n)]
        exact h (f o) ((hm _).mpr ⟨o, ho, rfl⟩) fun e => n (hi o ho v hv e)
      · intro ⟨_, h⟩
        refine ⟨(hm _).mpr ⟨v, hv, rfl⟩, fun o ho n => ?_⟩
        obtain ⟨b, hb, rfl⟩ := (hm o).mp ho
        have nb : b ≠ v := fun e => n (by rw [e])
        rw [hst v hv b hb (Ne.symm nb)]
        exact h b hb nb
    have hp : (free M left' st').Perm ((free M left st).map f) := by
      apply (List.perm_ext_iff_of_nodup (hn'.filter _) (nodup_map_on (hn.filter _) ?_)).mpr
      · intro x
        rw [List.mem_map]
        constructor
        · intro h
          obtain ⟨a, ha, rfl⟩ := (hm x).mp (free_sub h)
          exact ⟨a, (hfree a ha).mp h, rfl⟩
        · rintro ⟨a, ha, rfl⟩
          exact (hfree a (free_sub ha)).mpr ha
      · intro a ha b hb
        exact hi a (List.mem_filter.mp ha).1 b (List.mem_filter.mp hb).1
    rw [sum_perm (hp.map fun v => cnt M near' (bhL left' v) (bhS M near' st' v)), List.map_map]
    congr 1
    apply List.map_congr_left
    intro v hv
    have hv' : v ∈ left := free_sub hv
    refine cnt_iso (f := f) k (bhL left v) (bhL left' (f v)) (bhS M near st v) (bhS M near' st' (f v)) ?_ (bhL_nodup hn) (bhL_nodup hn') ?_ ?_ ?_ ?_
    · have := bhL_length hn hv'
      omega
    · intro x
      rw [mem_bhL]
      constructor
      · rintro ⟨h, n⟩
        obtain ⟨a, ha, rfl⟩ := (hm x).mp h
        exact ⟨a, mem_bhL.mpr ⟨ha, fun e => n (by rw [e])⟩, rfl⟩
      · rintro ⟨a, ha, rfl⟩
        have := mem_bhL.mp ha
        exact ⟨(hm _).mpr ⟨a, this.1, rfl⟩, fun e => this.2 (hi a this.1 v hv' e)⟩
    · intro a ha b hb
      exact hi a (mem_bhL.mp ha).1 b (mem_bhL.mp hb).1
    · intro u hu a ha
      exact hnear u (mem_bhL.mp hu).1 a (mem_bhL.mp ha).1
    · intro a ha b hb n
      have ha' := mem_bhL.mp ha
      have hb' := mem_bhL.mp hb
      show M.nx (st' (f a) (f b)) (mk near' (f v) (f a) + 2 * mk near' (f v) (f b)) = M.nx (st a b) (mk near v a + 2 * mk near v b)
      rw [hst a ha'.1 b hb'.1 n, hnear v hv' a ha'.1 (Ne.symm ha'.2), hnear v hv' b hb'.1 (Ne.symm hb'.2)]

/-! ### neighbours by ties -/
abbrev Tie := Nat × Nat
def part (v : Nat) (t : Tie) : Option Nat := if t.1 = v then some t.2 else if t.2 = v then some t.1 else none
def nb (E : List Tie) (v : Nat) : List Nat := E.filterMap (part v)
def nears (n : Nat) (E : List Tie) : List (List Nat) := (List.range n).map (nb E)
def up (a b : Nat) : Tie := (min a b, max a b)
theorem nears_get {n : Nat} {E : List Tie} {v : Nat} (h : v < n) : (nears n E).getD v [] = nb E v := by
  unfold nears
  rw [List.getD_eq_getElem?_getD, List.getElem?_map, List.getElem?_range h]
  rfl
theorem mem_nb {E : List Tie} {v x : Nat} : x ∈ nb E v ↔ (v, x) ∈ E ∨ (x, v) ∈ E := by
  unfold nb
  rw [List.mem_filterMap]
  constructor
  · rintro ⟨⟨a, b⟩, ht, h⟩
    unfold part at h
    by_cases e : a = v
    · rw [if_pos e] at h
      have : b = x := Option.some.inj h
      subst e; subst this
      exact .inl ht
    · rw [if_neg e] at h
      by_cases e2 : b = v
      · rw [if_pos e2] at h
        have : a = x := Option.some.inj h
        subst e2; subst this
        exact .inr ht
      · rw [if_neg e2] at h
        cases h
  · rintro (h | h)
    · exact ⟨_, h, by unfold part; rw [if_pos rfl]⟩
    · refine ⟨_, h, ?_⟩
      unfold part
      by_cases e : x = v
      · subst e; rw [if_pos rfl]
      · rw [if_neg e, if_pos rfl]
theorem part_up {a b v : Nat} (h : a ≠ b) : part v (up a b) = part v (a, b) := by
  unfold part up
  by_cases c : a ≤ b
  · rw [Nat.min_eq_left c, Nat.max_eq_right c]
  · have c' : b ≤ a := by omega
    rw [Nat.min_eq_right c', Nat.max_eq_left c']
    show (if b = v then some a else if a = v then some b else none) = if a = v then some b else if b = v then some a else none
    by_cases e : a = v
    · have : b ≠ v := fun q => h (e.trans q.symm)
      simp [e, this]
    · simp [e]
theorem nb_up {f : Nat → Nat} : ∀ {L : List Tie}, (∀ t ∈ L, f t.1 ≠ f t.2) → ∀ v, nb (L.map fun t => up (f t.1) (f t.2)) v = nb (L.map fun t => (f t.1, f t.2)) v := fun {L} h v => by
  unfold nb
  induction L with
  | nil => rfl
  | cons t L ih =>
    rw [List.map_cons, List.map_cons, List.filterMap_cons, List.filterMap_cons, part_up (h t List.mem_cons_self), ih fun t ht => h t (List.mem_cons_of_mem _ ht)]
theorem nb_perm {E E' : List Tie} (h : E.Perm E') (v : Nat) : (nb E v).Perm (nb E' v) := h.filterMap _
theorem mk_nears {n : Nat} {E : List Tie} {v x : Nat} (h : v < n) : mk (nears n E) v x = if (v, x) ∈ E ∨ (x, v) ∈ E then 1 else 0 := by
  unfold mk
  rw [nears_get h]
  by_cases c : (v, x) ∈ E ∨ (x, v) ∈ E
  · rw [if_pos c, if_pos (mem_nb.mpr c)]
  · rw [if_neg c, if_neg fun q => c (mem_nb.mp q)]
theorem mk_perm {n : Nat} {E E' : List Tie} (h : E.Perm E') {v x : Nat} (hv : v < n) : mk (nears n E) v x = mk (nears n E') v x := by
  rw [mk_nears hv, mk_nears hv]
  simp only [h.mem_iff]
/-- only who is whose neighbour counts -/
theorem cnt_near {M : Mach} {near near' : List (List Nat)} {left : List Nat} {st : Stt} (hn : left.Nodup) (h : ∀ v ∈ left, ∀ a ∈ left, mk near' v a = mk near v a) : cnt M near' left st = cnt M near left st :=
  cnt_iso (f := id) left.length left left st st rfl hn hn (fun x => ⟨fun h => ⟨x, h, rfl⟩, fun ⟨_, h, e⟩ => e ▸ h⟩) (fun _ _ _ _ e => e) (fun v hv a ha _ => h v hv a ha) fun _ _ _ _ _ => rfl

def zero : Stt := fun _ _ => 0
def total (M : Mach) (n : Nat) (E : List Tie) : Nat := cnt M (nears n E) (List.range n) zero
theorem total_perm {M : Mach} {n : Nat} {E E' : List Tie} (h : E.Perm E') : total M n E = total M n E' :=
  cnt_near List.nodup_range fun _ hv _ _ => mk_perm h (List.mem_range.mp hv)
/-- the ties turned by places p -/
def turned (p : List Nat) (L : List Tie) : List Tie := L.map fun t => up (p.getD t.1 0) (p.getD t.2 0)
theorem perm_inj {p : List Nat} {n : Nat} (hp : p.Perm (List.range n)) {a b : Nat} (ha : a < n) (hb : b < n) (e : p.getD a 0 = p.getD b 0) : a = b := by
  have hl : p.length = n := by rw [hp.length_eq, List.length_range]
  have hn : p.Nodup := hp.nodup_iff.mpr List.nodup_range
  rw [List.getD_eq_getElem?_getD, List.getD_eq_getElem?_getD, List.getElem?_eq_getElem (by omega), List.getElem?_eq_getElem (by omega)] at e
  exact (List.getElem_inj hn).mp e
theorem perm_mem {p : List Nat} {n : Nat} (hp : p.Perm (List.range n)) {a : Nat} (ha : a < n) : p.getD a 0 < n := by
  have hl : p.length = n := by rw [hp.length_eq, List.length_range]
  rw [List.getD_eq_getElem?_getD, List.getElem?_eq_getElem (by omega)]
  exact List.mem_range.mp (hp.mem_iff.mp (List.getElem_mem (by omega)))
theorem total_turned {M : Mach} {n : Nat} {L : List Tie} {p : List Nat} (hp : p.Perm (List.range n)) (hL : ∀ t ∈ L, t.1 < n ∧ t.2 < n ∧ t.1 ≠ t.2) : total M n (turned p L) = total M n L := by
  have hl : p.length = n := by rw [hp.length_eq, List.length_range]
  unfold total
  refine cnt_iso (f := fun a => p.getD a 0) n (List.range n) (List.range n) zero zero List.length_range List.nodup_range List.nodup_range ?_ ?_ ?_ fun _ _ _ _ _ => rfl
  · intro x
    rw [← hp.mem_iff]
    constructor
    · intro h
      obtain ⟨a, ha, e⟩ := List.getElem_of_mem h
      exact ⟨a, List.mem_range.mpr (by omega), by rw [List.getD_eq_getElem?_getD, List.getElem?_eq_getElem ha]; exact e⟩
    · rintro ⟨a, ha, rfl⟩
      exact hp.mem_iff.mpr (List.mem_range.mpr (perm_mem hp (List.mem_range.mp ha)))
  · intro a ha b hb e
    exact perm_inj hp (List.mem_range.mp ha) (List.mem_range.mp hb) e
  · intro v hv a ha n1
    have hv := List.mem_range.mp hv
    have ha := List.mem_range.mp ha
    rw [mk_nears (perm_mem hp hv), mk_nears hv]
    have key : ∀ x y, x < n → y < n → ((p.getD x 0, p.getD y 0) ∈ turned p L ∨ (p.getD y 0, p.getD x 0) ∈ turned p L ↔ (x, y) ∈ L ∨ (y, x) ∈ L) := by
      intro x y hx hy
      have one : ∀ x y, x < n → y < n → (p.getD x 0, p.getD y 0) ∈ turned p L → (x, y) ∈ L ∨ (y, x) ∈ L := by
        intro x y hx hy h
        obtain ⟨⟨a, b⟩, ht, e⟩ := List.mem_map.mp h
        obtain ⟨h1, h2, h3⟩ := hL _ ht
        unfold up at e
        by_cases c : p.getD a 0 ≤ p.getD b 0
        · simp only [Nat.min_eq_left c, Nat.max_eq_right c, Prod.mk.injEq] at e
          rw [← perm_inj hp h1 hx e.1, ← perm_inj hp h2 hy e.2]
          exact .inl ht
        · have c' : p.getD b 0 ≤ p.getD a 0 := by omega
          simp only [Nat.min_eq_right c', Nat.max_eq_left c', Prod.mk.injEq] at e
          rw [← perm_inj hp h2 hx e.1, ← perm_inj hp h1 hy e.2]
          exact .inr ht
      have two : ∀ x y, (x, y) ∈ L → (p.getD x 0, p.getD y 0) ∈ turned p L ∨ (p.getD y 0, p.getD x 0) ∈ turned p L := by
        intro x y h
        have h' : up (p.getD x 0) (p.getD y 0) ∈ turned p L := List.mem_map.mpr ⟨_, h, rfl⟩
        unfold up at h'
        by_cases c : p.getD x 0 ≤ p.getD y 0
        · rw [Nat.min_eq_left c, Nat.max_eq_right c] at h'
          exact .inl h'
        · have c' : p.getD y 0 ≤ p.getD x 0 := by omega
          rw [Nat.min_eq_right c', Nat.max_eq_left c'] at h'
          exact .inr h'
      constructor
      · rintro (h | h)
        · exact one x y hx hy h
        · exact (one y x hy hx h).symm
      · rintro (h | h)
        · exact two x y h
        · exact (two y x h).symm
    simp only [key v a hv ha]

/-! ### the path -/
def pathL (n : Nat) : List Tie := (List.range (n - 1)).map fun k => (k, k + 1)
theorem path6 : total mSome 6 (pathL 6) = 32 := by decide +kernel
theorem path7 : total mSome 7 (pathL 7) = 64 := by decide +kernel

/-! ### hanging nodes: sizes, products -/
def chd (f : Nat → List Nat) (v : Nat) (a : Int) : List Nat := (f v).filter fun o => decide ((o : Int) ≠ a)
/-- the nodes that hang on v, seen from a -/
def nds (f : Nat → List Nat) : Nat → Nat → Int → List Nat
  | 0, _, _ => []
  | k + 1, v, a => v :: (chd f v a).flatMap fun o => nds f k o v
/-- it ends -/
def Fin (f : Nat → List Nat) : Nat → Nat → Int → Prop
  | 0, _, _ => False
  | k + 1, v, a => ∀ o ∈ chd f v a, Fin f k o v
/-- the sizes of all that hangs, as the law reckons them -/
def szs (f : Nat → List Nat) : Nat → Nat → Int → List Nat
  | 0, _, _ => []
  | k + 1, v, a => (f v).foldl (fun (found : List Nat) (o : Nat) => if (o : Int) ≠ a then (found.headD 0 + (szs f k o v).headD 0) :: (found.tail ++ szs f k o v) else found) [1]
def prod (l : List Nat) : Nat := l.foldl (· * ·) 1
theorem foldl_mul (l : List Nat) (a : Nat) : l.foldl (· * ·) a = a * prod l := by
  unfold prod
  induction l generalizing a with
  | nil => simp
  | cons x l ih =>
    rw [List.foldl_cons, List.foldl_cons, ih (a * x), ih (1 * x), Nat.one_mul, Nat.mul_assoc]
theorem prod_nil : prod [] = 1 := rfl
theorem prod_cons (a : Nat) (l : List Nat) : prod (a :: l) = a * prod l := by
  show (a :: l).foldl (· * ·) 1 = _
  rw [List.foldl_cons, foldl_mul, Nat.one_mul]
theorem prod_append (l m : List Nat) : prod (l ++ m) = prod l * prod m := by
  induction l with
  | nil => rw [List.nil_append, prod_nil, Nat.one_mul]
  | cons a l ih => rw [List.cons_append, prod_cons, prod_cons, ih, Nat.mul_assoc]
theorem prod_perm {l m : List Nat} (h : l.Perm m) : prod l = prod m := by
  induction h with
  | nil => rfl
  | cons x _ ih => rw [prod_cons, prod_cons, ih]
  | swap x y l => rw [prod_cons, prod_cons, prod_cons, prod_cons]; exact Nat.mul_left_comm _ _ _
  | trans _ _ a b => exact a.trans b
theorem szs_fold (f : Nat → List Nat) (g : Nat → List Nat) (a : Int) : ∀ (l : List Nat) (h : Nat) (t : List Nat),
    l.foldl (fun (found : List Nat) (o : Nat) => if (o : Int) ≠ a then (found.headD 0 + (g o).headD 0) :: (found.tail ++ g o) else found) (h :: t) =
      (h + ((l.filter fun (o : Nat) => decide ((o : Int) ≠ a)).map fun o => (g o).headD 0).sum) :: (t ++ (l.filter fun (o : Nat) => decide ((o : Int) ≠ a)).flatMap g)
  | [], h, t => by simp
  | o :: l, h, t => by
    rw [List.foldl_cons]
    by_cases c : (o : Int) ≠ a
    · rw [if_pos c, szs_fold f g a l, List.filter_cons, if_pos (decide_eq_true c), List.map_cons, List.sum_cons, List.flatMap_cons]
      show (h + (g o).headD 0 + _) :: _ = _
      rw [Nat.add_assoc, List.append_assoc]
      rfl
    · rw [if_neg c, szs_fold f g a l, List.filter_cons, if_neg (by simpa using c)]
theorem szs_eq (f : Nat → List Nat) (k v : Nat) (a : Int) : szs f (k + 1) v a = (1 + ((chd f v a).map fun o => (szs f k o v).headD 0).sum) :: (chd f v a).flatMap fun o => szs f k o v := by
  show (f v).foldl _ [1] = _
  rw [szs_fold f (fun o => szs f k o v) a (f v) 1 []]
  rfl
theorem szs_head (f : Nat → List Nat) : ∀ (k v : Nat) (a : Int), (szs f k v a).headD 0 = (nds f k v a).length
  | 0, _, _ => rfl
  | k + 1, v, a => by
    rw [szs_eq]
    show 1 + _ = ((chd f v a).flatMap fun o => nds f k o v).length + 1
    rw [List.length_flatMap, Nat.add_comm]
    congr 2
    apply List.map_congr_left
    intro o _
    exact szs_head f k o v
def pr (f : Nat → List Nat) (k v : Nat) (a : Int) : Nat := prod (szs f k v a)
theorem prod_flatMap (l : List Nat) (g : Nat → List Nat) : prod (l.flatMap g) = prod (l.map fun o => prod (g o)) := by
  induction l with
  | nil => rfl
  | cons a l ih => rw [List.flatMap_cons, prod_append, List.map_cons, prod_cons, ih]
theorem pr_eq (f : Nat → List Nat) (k v : Nat) (a : Int) : pr f (k + 1) v a = (nds f (k + 1) v a).length * prod ((chd f v a).map fun o => pr f k o v) := by
  have h := szs_head f (k + 1) v a
  unfold pr
  rw [szs_eq] at h ⊢
  rw [prod_cons, prod_flatMap, ← h]
  rfl
theorem Fin.more {f : Nat → List Nat} : ∀ {k v : Nat} {a : Int}, Fin f k v a → Fin f (k + 1) v a ∧ nds f (k + 1) v a = nds f k v a ∧ szs f (k + 1) v a = szs f k v a
  | 0, _, _, h => h.elim
  | k + 1, v, a, h => by
    refine ⟨fun o ho => (Fin.more (h o ho)).1, ?_, ?_⟩
    · show v :: _ = v :: _
      rw [List.flatMap_def, List.flatMap_def, List.map_congr_left fun o ho => (Fin.more (h o ho)).2.1]
    · rw [szs_eq, szs_eq, List.flatMap_def, List.flatMap_def, List.map_congr_left fun o ho => (Fin.more (h o ho)).2.2]
      congr 3
      apply List.map_congr_left
      intro o ho
      rw [(Fin.more (h o ho)).2.2]
theorem Fin.le {f : Nat → List Nat} {k m v : Nat} {a : Int} (h : Fin f k v a) (hm : k ≤ m) : Fin f m v a ∧ nds f m v a = nds f k v a ∧ szs f m v a = szs f k v a := by
  obtain ⟨d, rfl⟩ : ∃ d, m = k + d := ⟨m - k, by omega⟩
  clear hm
  induction d with
  | zero => exact ⟨h, rfl, rfl⟩
  | succ d ih =>
    obtain ⟨a1, a2, a3⟩ := ih
    obtain ⟨b1, b2, b3⟩ := a1.more
    exact ⟨b1, b2.trans a2, b3.trans a3⟩
theorem Fin.pos {f : Nat → List Nat} {k v : Nat} {a : Int} (h : Fin f k v a) : ∃ j, k = j + 1 := by
  cases k with
  | zero => exact h.elim
  | succ j => exact ⟨j, rfl⟩

/-! ### growing orders of a forest -/
def code (a b : Bool) : Nat := if a then 1 else if b then 2 else 0
theorem code_next (a b : Bool) (i j : Nat) (hi : i ∈ [0, 1]) (hj : j ∈ [0, 1]) : mSome.nx (code a b) (i + 2 * j) = code (a || decide (i = 1)) (b || decide (j = 1)) := by
  simp only [List.mem_cons, List.not_mem_nil, or_false] at hi hj
  rcases hi with rfl | rfl <;> rcases hj with rfl | rfl <;> cases a <;> cases b <;> rfl
theorem code_fl (a b : Bool) : mSome.fl (code a b) = (!a && b) := by
  cases a <;> cases b <;> rfl
/-- who is next by some, told by who has a visited neighbour -/
theorem free_some {left : List Nat} {st : Stt} {e : Nat → Bool} (h : ∀ a ∈ left, ∀ b ∈ left, a ≠ b → st a b = code (e a) (e b)) {r : Nat} (hr : r ∈ left) (her : e r = true) {v : Nat} : v ∈ free mSome left st ↔ v ∈ left ∧ e v = true := by
  rw [mem_free, better_nil]
  constructor
  · rintro ⟨hv, hb⟩
    refine ⟨hv, ?_⟩
    by_cases q : r = v
    · rw [← q]; exact her
    · have := hb r hr q
      rw [h v hv r hr (Ne.symm q), code_fl, her] at this
      cases e' : e v with
      | true => rfl
      | false => rw [e'] at this; cases this
  · rintro ⟨hv, hv'⟩
    refine ⟨hv, fun o ho n => ?_⟩
    rw [h v hv o ho (Ne.symm n), code_fl, hv']
    rfl
theorem free_none {left : List Nat} {st : Stt} (h : ∀ a ∈ left, ∀ b ∈ left, a ≠ b → st a b = 0) : free mSome left st = left := by
  unfold free
  rw [List.filter_eq_self]
  intro v hv
  rw [List.isEmpty_iff, better_nil]
  intro o ho n
  rw [h v hv o ho (Ne.symm n)]
  rfl
theorem sum_mul_right (l : List Nat) (g : Nat → Nat) (c : Nat) : (l.map g).sum * c = (l.map fun x => g x * c).sum := by
  induction l with
  | nil => simp
  | cons a l ih => rw [List.map_cons, List.map_cons, List.sum_cons, List.sum_cons, Nat.add_mul, ih]
theorem sum_mul_left (l : List Nat) (g : Nat → Nat) (c : Nat) : (l.map fun x => c * g x).sum = c * (l.map g).sum := by
  induction l with
  | nil => simp
  | cons a l ih => rw [List.map_cons, List.map_cons, List.sum_cons, List.sum_cons, Nat.mul_add, ih]

/-- THE COUNT: a forest whose roots are the ones with a visited neighbour -/
theorem forest {near : List (List Nat)} {f : Nat → List Nat} : ∀ (k : Nat) (left : List Nat) (st : Stt) (e : Nat → Bool) (fr : List (Nat × Int)) (K : Nat), left.length = k → left.Nodup →
    (∀ v ∈ left, ∀ x ∈ left, mk near v x = if x ∈ f v then 1 else 0) → (∀ r ∈ fr, Fin f K r.1 r.2) → (fr.flatMap fun r => nds f K r.1 r.2).Nodup → (∀ x, x ∈ left ↔ x ∈ fr.flatMap fun r => nds f K r.1 r.2) →
    (∀ r ∈ fr, ∀ x ∈ left, (x : Int) ≠ r.2) → (∀ x ∈ left, e x = decide (x ∈ fr.map (·.1))) → (∀ a ∈ left, ∀ b ∈ left, a ≠ b → st a b = code (e a) (e b)) →
    cnt mSome near left st * prod (fr.map fun r => pr f K r.1 r.2) = fact k
  | 0, left, st, e, fr, K, hk, _, _, hfin, _, hm, _, _, _ => by
    have e0 : left = [] := List.length_eq_zero_iff.mp hk
    subst e0
    have e1 : fr = [] := by
      cases fr with
      | nil => rfl
      | cons r fr =>
        obtain ⟨j, hj⟩ := (hfin r List.mem_cons_self).pos
        have : r.1 ∈ ([] : List Nat) := (hm r.1).mpr (by
          rw [List.flatMap_cons, hj]
          exact List.mem_append_left _ List.mem_cons_self)
        cases this
    subst e1
    rfl
  | k + 1, left, st, e, fr, K, hk, hn, hnear, hfin, hnd, hm, hab, he, hst => by
    have h0 : left ≠ [] := fun e => by rw [e] at hk; simp at hk
    have hroot : ∀ r ∈ fr, r.1 ∈ nds f K r.1 r.2 := fun r hr => by
      obtain ⟨j, hj⟩ := (hfin r hr).pos
      rw [hj]
      exact List.mem_cons_self
    have hrl : ∀ r ∈ fr, r.1 ∈ left := fun r hr => (hm r.1).mpr (List.mem_flatMap.mpr ⟨r, hr, hroot r hr⟩)
    have hre : ∀ r ∈ fr, e r.1 = true := fun r hr => by
      rw [he _ (hrl r hr)]
      exact decide_eq_true (List.mem_map.mpr ⟨r, hr, rfl⟩)
    -- some root
    obtain ⟨r0, hr0⟩ : ∃ r, r ∈ fr := by
      cases fr with
      | nil =>
        obtain ⟨a, r, q⟩ := List.exists_cons_of_ne_nil h0
        have : a ∈ ([] : List (Nat × Int)).flatMap fun r => nds f K r.1 r.2 := (hm a).mp (by rw [q]; exact List.mem_cons_self)
        cases this
      | cons r fr => exact ⟨r, List.mem_cons_self⟩
    -- the roots are different
    have hrn : (fr.map (·.1)).Nodup := by
      clear hm hab he hst hre hrl hr0 r0
      induction fr with
      | nil => exact List.nodup_nil
      | cons r fr ih =>
        rw [List.flatMap_cons, List.nodup_append] at hnd
        rw [List.map_cons, List.nodup_cons]
        refine ⟨fun q => ?_, ih (fun r hr => hfin r (List.mem_cons_of_mem _ hr)) hnd.2.1 fun r hr => hroot r (List.mem_cons_of_mem _ hr)⟩
        obtain ⟨s, hs, es⟩ := List.mem_map.mp q
        have h1 := hroot r List.mem_cons_self
        have h2 := hroot s (List.mem_cons_of_mem _ hs)
        rw [es] at h2
        exact hnd.2.2 _ h1 _ (List.mem_flatMap.mpr ⟨s, hs, by rw [es]; exact h2⟩) rfl
    have hfree : (free mSome left st).Perm (fr.map (·.1)) := by
      apply (List.perm_ext_iff_of_nodup (hn.filter _) hrn).mpr
      intro v
      show v ∈ free mSome left st ↔ _
      rw [free_some hst (hrl r0 hr0) (hre r0 hr0)]
      constructor
      · rintro ⟨hv, q⟩
        rw [he v hv] at q
        exact of_decide_eq_true q
      · intro q
        obtain ⟨r, hr, rfl⟩ := List.mem_map.mp q
        exact ⟨hrl r hr, hre r hr⟩
    rw [cnt_step hn h0, sum_perm (hfree.map _), List.map_map]
    -- one root visited
    have one : ∀ r ∈ fr, cnt mSome near (bhL left r.1) (bhS mSome near st r.1) * prod (fr.map fun r => pr f K r.1 r.2) = fact k * (nds f K r.1 r.2).length := by
      intro r hr
      obtain ⟨pre, post, q⟩ := List.append_of_mem hr
      obtain ⟨v, a⟩ := r
      obtain ⟨K', hK⟩ := (hfin _ hr).pos
      subst hK
      have hfv : ∀ o ∈ chd f v a, Fin f K' o v := hfin _ hr
      have hv : v ∈ left := hrl _ hr
      -- what hangs on v, and its children
      have ev : nds f (K' + 1) v a = v :: (chd f v a).flatMap fun o => nds f K' o v := rfl
      have ec : (((chd f v a).map fun o => (o, (v : Int))).flatMap fun r => nds f (K' + 1) r.1 r.2) = (chd f v a).flatMap fun o => nds f K' o v := by
        rw [List.flatMap_map, List.flatMap_def, List.flatMap_def]
        congr 1
        apply List.map_congr_left
        intro o ho
        exact (hfv o ho).more.2.1
      let fr' := pre ++ ((chd f v a).map fun o => (o, (v : Int))) ++ post
      have hmem' : ∀ x, x ∈ fr'.flatMap (fun r => nds f (K' + 1) r.1 r.2) ↔ x ∈ left ∧ x ≠ v := by
        intro x
        have hx := hm x
        have nd : (pre.flatMap (fun r => nds f (K' + 1) r.1 r.2) ++ (v :: (chd f v a).flatMap (fun o => nds f K' o v) ++ post.flatMap (fun r => nds f (K' + 1) r.1 r.2))).Nodup := by
          have z := hnd
          rw [q, List.flatMap_append, List.flatMap_cons, ev] at z
          exact z
        rw [q, List.flatMap_append, List.flatMap_cons, ev] at hx
        show x ∈ (pre ++ ((chd f v a).map fun o => (o, (v : Int))) ++ post).flatMap _ ↔ _
        rw [List.flatMap_append, List.flatMap_append, ec, hx]
        have n1 : v ∉ pre.flatMap (fun r => nds f (K' + 1) r.1 r.2) := fun z => (List.nodup_append.mp nd).2.2 _ z _ (List.mem_append_left _ List.mem_cons_self) rfl
        have nd2 := (List.nodup_append.mp nd).2.1
        rw [List.cons_append, List.nodup_cons] at nd2
        have n2 := nd2.1
        simp only [List.mem_append, List.mem_cons]
        constructor
        · rintro ((h | h) | h)
          · exact ⟨.inl h, fun z => n1 (z ▸ h)⟩
          · exact ⟨.inr (.inl (.inr h)), fun z => n2 (List.mem_append_left _ (z ▸ h))⟩
          · exact ⟨.inr (.inr h), fun z => n2 (List.mem_append_right _ (z ▸ h))⟩
        · rintro ⟨h | (h | h) | h, n⟩
          · exact .inl (.inl h)
          · exact absurd h n
          · exact .inl (.inr h)
          · exact .inr h
      have hnd' : (fr'.flatMap fun r => nds f (K' + 1) r.1 r.2).Nodup := by
        show ((pre ++ ((chd f v a).map fun o => (o, (v : Int))) ++ post).flatMap _).Nodup
        rw [List.flatMap_append, List.flatMap_append, ec]
        have z := hnd
        rw [q, List.flatMap_append, List.flatMap_cons, ev] at z
        refine List.Nodup.sublist ?_ z
        rw [List.append_assoc]
        exact List.Sublist.append (List.Sublist.refl _) (List.Sublist.append (List.sublist_cons_self _ _) (List.Sublist.refl _))
      have ih := forest k (bhL left v) (bhS mSome near st v) (fun x => e x || decide (x ∈ f v)) fr' (K' + 1) (by have := bhL_length hn hv; omega) (bhL_nodup hn)
        (fun x hx y hy => hnear x (mem_bhL.mp hx).1 y (mem_bhL.mp hy).1)
        (fun s hs => by
          rcases List.mem_append.mp hs with hs | hs
          · rcases List.mem_append.mp hs with hs | hs
            · exact hfin s (by rw [q]; exact List.mem_append_left _ hs)
            · obtain ⟨o, ho, rfl⟩ := List.mem_map.mp hs
              exact (hfv o ho).more.1
          · exact hfin s (by rw [q]; exact List.mem_append_right _ (List.mem_cons_of_mem _ hs)))
        hnd' (fun x => by rw [mem_bhL, hmem' x])
        (fun s hs x hx => by
          have hx' := mem_bhL.mp hx
          rcases List.mem_append.mp hs with hs | hs
          · rcases List.mem_append.mp hs with hs | hs
            · exact hab s (by rw [q]; exact List.mem_append_left _ hs) x hx'.1
            · obtain ⟨o, ho, rfl⟩ := List.mem_map.mp hs
              intro z
              exact hx'.2 (Int.ofNat.inj z)
          · exact hab s (by rw [q]; exact List.mem_append_right _ (List.mem_cons_of_mem _ hs)) x hx'.1)
        (fun x hx => by
          have hx' := mem_bhL.mp hx
          have hxa : (x : Int) ≠ a := hab _ hr x hx'.1
          have e1 : (x ∈ fr.map (·.1)) ↔ x ∈ pre.map (·.1) ∨ x = v ∨ x ∈ post.map (·.1) := by
            rw [q, List.map_append, List.map_cons, List.mem_append, List.mem_cons]
          have e2 : (x ∈ fr'.map (·.1)) ↔ (x ∈ pre.map (·.1) ∨ x ∈ chd f v a) ∨ x ∈ post.map (·.1) := by
            show x ∈ (pre ++ ((chd f v a).map fun o => (o, (v : Int))) ++ post).map (·.1) ↔ _
            rw [List.map_append, List.map_append, List.mem_append, List.mem_append, List.map_map]
            have : ((chd f v a).map ((·.1) ∘ fun o => (o, (v : Int)))) = chd f v a := List.map_id _
            rw [this]
          have e3 : x ∈ chd f v a ↔ x ∈ f v := by
            unfold chd
            rw [List.mem_filter, decide_eq_true_iff]
            exact ⟨fun z => z.1, fun z => ⟨z, hxa⟩⟩
          show (e x || decide (x ∈ f v)) = _
          rw [he x hx'.1, Bool.eq_iff_iff, Bool.or_eq_true, decide_eq_true_iff, decide_eq_true_iff, decide_eq_true_iff, e1, e2, e3]
          constructor
          · rintro ((h | h | h) | h)
            · exact .inl (.inl h)
            · exact absurd h hx'.2
            · exact .inr h
            · exact .inl (.inr h)
          · rintro ((h | h) | h)
            · exact .inl (.inl h)
            · exact .inr h
            · exact .inl (.inr (.inr h)))
        (fun x hx y hy n => by
          have hx' := mem_bhL.mp hx
          have hy' := mem_bhL.mp hy
          show mSome.nx (st x y) (mk near v x + 2 * mk near v y) = _
          rw [hst x hx'.1 y hy'.1 n, code_next _ _ _ _ (mk_bit near v x) (mk_bit near v y), hnear v hv x hx'.1, hnear v hv y hy'.1]
          congr 2
          · by_cases c : x ∈ f v <;> simp [c]
          · by_cases c : y ∈ f v <;> simp [c])
      have ep : prod (fr.map fun r => pr f (K' + 1) r.1 r.2) = prod (fr'.map fun r => pr f (K' + 1) r.1 r.2) * (nds f (K' + 1) v a).length := by
        show _ = prod ((pre ++ ((chd f v a).map fun o => (o, (v : Int))) ++ post).map _) * _
        rw [q, List.map_append, List.map_cons, prod_append, prod_cons, List.map_append, List.map_append, prod_append, prod_append, List.map_map]
        have e1 : pr f (K' + 1) v a = (nds f (K' + 1) v a).length * prod ((chd f v a).map ((fun r : Nat × Int => pr f (K' + 1) r.1 r.2) ∘ fun o => (o, (v : Int)))) := by
          rw [pr_eq]
          congr 2
          apply List.map_congr_left
          intro o ho
          show pr f K' o v = pr f (K' + 1) o v
          unfold pr
          rw [(hfv o ho).more.2.2]
        show prod (pre.map fun r => pr f (K' + 1) r.1 r.2) * (pr f (K' + 1) v a * prod (post.map fun r => pr f (K' + 1) r.1 r.2)) = _
        rw [e1]
        simp only [Nat.mul_assoc, Nat.mul_comm, Nat.mul_left_comm]
      rw [ep, ← Nat.mul_assoc, ih]
    have tot : (fr.map fun r => (nds f K r.1 r.2).length).sum = k + 1 := by
      rw [← List.length_flatMap, ← hk]
      exact (((List.perm_ext_iff_of_nodup hn hnd).mpr hm).length_eq).symm
    have sm : ∀ l : List (Nat × Int), (∀ r ∈ l, r ∈ fr) → (l.map fun r => cnt mSome near (bhL left r.1) (bhS mSome near st r.1)).sum * prod (fr.map fun r => pr f K r.1 r.2) = fact k * (l.map fun r => (nds f K r.1 r.2).length).sum := by
      intro l
      induction l with
      | nil => intro _; simp
      | cons r l ih =>
        intro hl
        rw [List.map_cons, List.sum_cons, Nat.add_mul, ih fun r hr => hl r (List.mem_cons_of_mem _ hr), one r (hl r List.mem_cons_self), List.map_cons, List.sum_cons, Nat.mul_add]
    have := sm fr fun _ h => h
    rw [tot] at this
    rw [show fact (k + 1) = fact k * (k + 1) from Nat.mul_comm _ _]
    exact this

/-! ### trees: a node and leaves -/
inductive Grown : List Nat → List Tie → Prop where
  | one (r : Nat) : Grown [r] []
  | leaf {ns : List Nat} {E : List Tie} {u l : Nat} (g : Grown ns E) (hu : u ∈ ns) (hl : l ∉ ns) : Grown (l :: ns) ((u, l) :: E)
theorem Grown.nodup {ns : List Nat} {E : List Tie} (g : Grown ns E) : ns.Nodup := by
  induction g with
  | one r => simp
  | leaf g hu hl ih => exact List.nodup_cons.mpr ⟨hl, ih⟩
theorem Grown.sub {ns : List Nat} {E : List Tie} (g : Grown ns E) : ∀ t ∈ E, t.1 ∈ ns ∧ t.2 ∈ ns ∧ t.1 ≠ t.2 := by
  induction g with
  | one r => intro t h; cases h
  | @leaf ns E u l g hu hl ih =>
    intro t h
    rcases List.mem_cons.mp h with rfl | h
    · exact ⟨List.mem_cons_of_mem _ hu, List.mem_cons_self, fun e => hl (by rw [← show u = l from e]; exact hu)⟩
    · exact ⟨List.mem_cons_of_mem _ (ih t h).1, List.mem_cons_of_mem _ (ih t h).2.1, (ih t h).2.2⟩
theorem nb_out {E : List Tie} {ns : List Nat} (g : Grown ns E) {l : Nat} (hl : l ∉ ns) : nb E l = [] := by
  rw [List.eq_nil_iff_forall_not_mem]
  intro x hx
  rcases mem_nb.mp hx with h | h
  · exact hl (g.sub _ h).1
  · exact hl (g.sub _ h).2.1
theorem nb_in {E : List Tie} {ns : List Nat} (g : Grown ns E) {v x : Nat} (h : x ∈ nb E v) : x ∈ ns := by
  rcases mem_nb.mp h with h | h
  · exact (g.sub _ h).2.1
  · exact (g.sub _ h).1
theorem nb_leaf {E : List Tie} {ns : List Nat} {u l : Nat} (g : Grown ns E) (hu : u ∈ ns) (hl : l ∉ ns) (v : Nat) : nb ((u, l) :: E) v = if v = u then l :: nb E v else if v = l then [u] else nb E v := by
  have nul : u ≠ l := fun e => hl (e ▸ hu)
  have eu : nb ((u, l) :: E) v = match part v (u, l) with
      | none => nb E v
      | some b => b :: nb E v := by
    unfold nb
    rw [List.filterMap_cons]
    cases part v (u, l) <;> rfl
  rw [eu]
  unfold part
  by_cases e : v = u
  · subst e
    simp
  · rw [if_neg e]
    by_cases e2 : v = l
    · subst e2
      have := nb_out g hl
      simp [nul, this]
    · simp [Ne.symm e, Ne.symm e2, e2]
theorem count_flatMap (x : Nat) (l : List Nat) (g : Nat → List Nat) : (l.flatMap g).count x = (l.map fun o => (g o).count x).sum := by
  induction l with
  | nil => rfl
  | cons a l ih => rw [List.flatMap_cons, List.count_append, List.map_cons, List.sum_cons, ih]
theorem chd_perm {f f' : Nat → List Nat} {v : Nat} {a : Int} (h : (f v).Perm (f' v)) : (chd f v a).Perm (chd f' v a) := h.filter _
/-- behind a leaf: what hangs is what hung, and the leaf where its neighbour hangs -/
theorem leaf_hang {E : List Tie} {ns : List Nat} {u l : Nat} (g : Grown ns E) (hu : u ∈ ns) (hl : l ∉ ns) {f' : Nat → List Nat} (hf : ∀ v, (f' v).Perm (nb ((u, l) :: E) v)) :
    ∀ (k v : Nat) (a : Int), v ≠ l → (l : Int) ≠ a → Fin (nb E) k v a → Fin f' (k + 1) v a ∧ ∀ x, (nds f' (k + 1) v a).count x = (nds (nb E) k v a).count x + if x = l then (nds (nb E) k v a).count u else 0
  | 0, _, _, _, _, h => h.elim
  | k + 1, v, a, hv, ha, h => by
    have hch : (chd f' v a).Perm (if v = u then l :: chd (nb E) v a else chd (nb E) v a) := by
      refine (chd_perm (f' := nb ((u, l) :: E)) (hf v)).trans ?_
      unfold chd
      rw [nb_leaf g hu hl v]
      by_cases e : v = u
      · rw [if_pos e, if_pos e, List.filter_cons, if_pos (decide_eq_true ha)]
      · rw [if_neg e, if_neg e, if_neg hv]
    have hlf : Fin f' (k + 1) l u ∧ nds f' (k + 1) l u = [l] := by
      have e0 : chd f' l u = [] := by
        have : (chd f' l u).Perm (chd (nb ((u, l) :: E)) l u) := chd_perm (hf l)
        have e1 : chd (nb ((u, l) :: E)) l u = [] := by
          unfold chd
          rw [nb_leaf g hu hl l, if_neg (fun e : l = u => hl (e ▸ hu)), if_pos rfl]
          simp
        rw [e1] at this
        exact this.eq_nil
      refine ⟨fun o ho => ?_, ?_⟩
      · rw [e0] at ho; cases ho
      · show l :: (chd f' l u).flatMap _ = [l]
        rw [e0]; rfl
    have kids : ∀ o ∈ chd (nb E) v a, o ≠ l ∧ (l : Int) ≠ (v : Int) := fun o ho => by
      refine ⟨fun e => hl ?_, fun e => hv (Int.ofNat.inj e).symm⟩
      rw [← e]
      exact nb_in g (List.mem_filter.mp ho).1
    have ih := fun o (ho : o ∈ chd (nb E) v a) => leaf_hang g hu hl hf k o v (kids o ho).1 (kids o ho).2 (h o ho)
    refine ⟨fun o ho => ?_, fun x => ?_⟩
    · have ho' := hch.mem_iff.mp ho
      by_cases e : v = u
      · rw [if_pos e] at ho'
        rcases List.mem_cons.mp ho' with q | q
        · rw [q, e]; exact hlf.1
        · exact (ih o q).1
      · rw [if_neg e] at ho'
        exact (ih o ho').1
    · show (v :: (chd f' v a).flatMap fun o => nds f' (k + 1) o v).count x = (v :: (chd (nb E) v a).flatMap fun o => nds (nb E) k o v).count x + if x = l then (v :: (chd (nb E) v a).flatMap fun o => nds (nb E) k o v).count u else 0
      rw [List.count_cons, List.count_cons, List.count_cons, count_flatMap, count_flatMap, count_flatMap, sum_perm (hch.map _)]
      have s : ((chd (nb E) v a).map fun o => (nds f' (k + 1) o v).count x).sum = ((chd (nb E) v a).map fun o => (nds (nb E) k o v).count x).sum + if x = l then ((chd (nb E) v a).map fun o => (nds (nb E) k o v).count u).sum else 0 := by
        generalize chd (nb E) v a = c at ih
        induction c with
        | nil => simp
        | cons o c ih2 =>
          have h1 := (ih o List.mem_cons_self).2 x
          have h2 := ih2 fun o ho => ih o (List.mem_cons_of_mem _ ho)
          rw [List.map_cons, List.map_cons, List.map_cons, List.sum_cons, List.sum_cons, List.sum_cons, h1, h2]
          by_cases e : x = l
          · rw [if_pos e, if_pos e, if_pos e]; omega
          · rw [if_neg e, if_neg e, if_neg e]; omega
      by_cases e : v = u
      · subst e
        rw [if_pos rfl, List.map_cons, List.sum_cons, s, hlf.2, List.count_singleton]
        by_cases e2 : x = l
        · subst e2
          simp
          omega
        · have : ¬ l = x := fun q => e2 q.symm
          simp [e2, this]
      · rw [if_neg e, s]
        by_cases e2 : x = l
        · subst e2
          simp [e]
          omega
        · simp [e2]
/-- seen from each of its nodes a tree ends, and all its nodes hang there once -/
theorem Grown.hangs {ns : List Nat} {E : List Tie} (g : Grown ns E) : ∀ f : Nat → List Nat, (∀ v, (f v).Perm (nb E v)) → ∀ r ∈ ns, Fin f (2 * ns.length) r (-1) ∧ (nds f (2 * ns.length) r (-1)).Perm ns := by
  induction g with
  | one r0 =>
    intro f hf r hr
    have e : r = r0 := List.mem_singleton.mp hr
    subst e
    have e0 : chd f r (-1) = [] := by
      have : f r = [] := (hf r).eq_nil
      unfold chd
      rw [this]; rfl
    refine ⟨fun o ho => ?_, ?_⟩
    · rw [e0] at ho; cases ho
    · show (r :: (chd f r (-1)).flatMap _).Perm [r]
      rw [e0]
      exact List.Perm.refl _
  | @leaf ns E u l g hu hl ih =>
    intro f hf r hr
    have ih' := ih (nb E) fun _ => List.Perm.refl _
    have neg : ∀ x : Nat, (x : Int) ≠ -1 := fun x => by omega
    have cu : ns.count u = 1 := by rw [List.Nodup.count g.nodup, if_pos hu]
    rw [List.length_cons]
    by_cases e : r = l
    · subst e
      obtain ⟨h1, h2⟩ := ih' u hu
      obtain ⟨m, hm⟩ := h1.pos
      rw [hm] at h1 h2
      -- from u, seen from the leaf: as from nowhere, without the leaf
      have hcu : (chd f u r).Perm (chd (nb E) u (-1)) := by
        refine (chd_perm (f' := nb ((u, r) :: E)) (hf u)).trans ?_
        unfold chd
        rw [nb_leaf g hu hl u, if_pos rfl, List.filter_cons, if_neg (by simp)]
        have : ∀ o ∈ nb E u, decide ((o : Int) ≠ r) = decide ((o : Int) ≠ -1) := fun o ho => by
          rw [decide_eq_true (neg o), decide_eq_true]
          intro q
          apply hl
          rw [← Int.ofNat.inj q]
          exact nb_in g ho
        rw [List.filter_congr this]
      have hcr : chd f r (-1) = [u] := by
        have : (f r).Perm [u] := by
          have := hf r
          rw [nb_leaf g hu hl r, if_neg (fun e : r = u => hl (e ▸ hu)), if_pos rfl] at this
          exact this
        unfold chd
        rw [this.eq_singleton, List.filter_cons, if_pos (decide_eq_true (neg u))]
        rfl
      have kids : ∀ o ∈ chd (nb E) u (-1), Fin f (m + 1) o u ∧ ∀ x, (nds f (m + 1) o u).count x = (nds (nb E) m o u).count x + if x = r then (nds (nb E) m o u).count u else 0 := fun o ho =>
        leaf_hang g hu hl hf m o u (fun e => hl (e ▸ nb_in g (List.mem_filter.mp ho).1)) (fun q => hl (by rw [Int.ofNat.inj q]; exact hu)) (h1 o ho)
      have fu : Fin f (m + 2) u r := fun o ho => (kids o (hcu.mem_iff.mp ho)).1
      have nu : ∀ x, (nds f (m + 2) u r).count x = ns.count x := by
        intro x
        rw [← h2.count_eq x]
        have hc : ∀ y, ((chd (nb E) u (-1)).map fun o => (nds (nb E) m o u).count y).sum + (if u = y then 1 else 0) = ns.count y := by
          intro y
          rw [← h2.count_eq y]
          show _ = (u :: (chd (nb E) u (-1)).flatMap fun o => nds (nb E) m o u).count y
          rw [List.count_cons, count_flatMap]
          simp
        have hu0 : ((chd (nb E) u (-1)).map fun o => (nds (nb E) m o u).count u).sum = 0 := by
          have := hc u
          rw [if_pos rfl, cu] at this
          omega
        show (u :: (chd f u r).flatMap fun o => nds f (m + 1) o u).count x = (u :: (chd (nb E) u (-1)).flatMap fun o => nds (nb E) m o u).count x
        rw [List.count_cons, List.count_cons, count_flatMap, count_flatMap, sum_perm (hcu.map _)]
        congr 1
        have s : ((chd (nb E) u (-1)).map fun o => (nds f (m + 1) o u).count x).sum = ((chd (nb E) u (-1)).map fun o => (nds (nb E) m o u).count x).sum + if x = r then ((chd (nb E) u (-1)).map fun o => (nds (nb E) m o u).count u).sum else 0 := by
          clear hu0 hc
          generalize chd (nb E) u (-1) = c at kids
          induction c with
          | nil => simp
          | cons o c ih2 =>
            have h1 := (kids o List.mem_cons_self).2 x
            have h2 := ih2 fun o ho => kids o (List.mem_cons_of_mem _ ho)
            rw [List.map_cons, List.map_cons, List.map_cons, List.sum_cons, List.sum_cons, List.sum_cons, h1, h2]
            by_cases e : x = r
            · rw [if_pos e, if_pos e, if_pos e]; omega
            · rw [if_neg e, if_neg e, if_neg e]; omega
        rw [s, hu0]
        simp
      have hm2 : 2 * (ns.length + 1) = m + 3 := by omega
      rw [hm2]
      refine ⟨fun o ho => ?_, ?_⟩
      · rw [hcr] at ho
        rw [List.mem_singleton.mp ho]
        exact fu
      · show (r :: (chd f r (-1)).flatMap fun o => nds f (m + 2) o r).Perm (r :: ns)
        rw [hcr]
        refine List.Perm.cons r ?_
        rw [List.flatMap_cons, List.flatMap_nil, List.append_nil]
        exact List.perm_iff_count.mpr nu
    · have hr' : r ∈ ns := by
        rcases List.mem_cons.mp hr with q | q
        · exact absurd q e
        · exact q
      obtain ⟨h1, h2⟩ := ih' r hr'
      obtain ⟨a1, a2⟩ := leaf_hang g hu hl hf _ r (-1) e (neg l) h1
      obtain ⟨b1, b2, _⟩ := a1.more
      refine ⟨b1, ?_⟩
      show (nds f (2 * ns.length + 1 + 1) r (-1)).Perm (l :: ns)
      rw [b2]
      refine List.perm_iff_count.mpr fun x => ?_
      rw [a2 x, h2.count_eq x, h2.count_eq u, cu, List.count_cons]
      by_cases e2 : x = l
      · subst e2; simp
      · have : ¬ l = x := fun q => e2 q.symm
        simp [e2, this]

/-! ### the count of a tree's growing orders -/
def grown (n : Nat) (f : Nat → List Nat) (K : Nat) : Nat := ((List.range n).map fun r => fact n / pr f K r (-1)).sum
theorem prod_pos {l : List Nat} (h : ∀ x ∈ l, 0 < x) : 0 < prod l := by
  induction l with
  | nil => exact Nat.one_pos
  | cons a l ih =>
    rw [prod_cons]
    exact Nat.mul_pos (h a List.mem_cons_self) (ih fun x hx => h x (List.mem_cons_of_mem _ hx))
theorem fact_pos : ∀ n, 0 < fact n
  | 0 => Nat.one_pos
  | n + 1 => Nat.mul_pos (Nat.succ_pos n) (fact_pos n)
theorem tree_count {n : Nat} {E T : List Tie} {ns : List Nat} (g : Grown ns E) (hns : ns.Perm (List.range n)) (hT : ∀ v, (nb T v).Perm (nb E v)) :
    total mSome n T = grown n (nb T) (2 * n) ∧ ∀ r < n, Fin (nb T) (2 * n) r (-1) ∧ pr (nb T) (2 * n) r (-1) ∣ fact n ∧ 0 < pr (nb T) (2 * n) r (-1) := by
  have hlen : ns.length = n := by rw [hns.length_eq, List.length_range]
  have hang := fun r (hr : r < n) => g.hangs (nb T) hT r (hns.mem_iff.mpr (List.mem_range.mpr hr))
  rw [hlen] at hang
  have n0 : n ≠ 0 := fun e => by
    subst e
    cases g <;> simp at hlen
  obtain ⟨m, rfl⟩ : ∃ m, n = m + 1 := ⟨n - 1, by omega⟩
  have neg : ∀ x : Nat, (x : Int) ≠ -1 := fun x => by omega
  have first : ∀ r < m + 1, cnt mSome (nears (m + 1) T) (bhL (List.range (m + 1)) r) (bhS mSome (nears (m + 1) T) zero r) * prod ((chd (nb T) r (-1)).map fun o => pr (nb T) (2 * m + 1) o r) = fact m := by
    intro r hr
    obtain ⟨h1, h2⟩ := hang r hr
    have h1' : ∀ o ∈ chd (nb T) r (-1), Fin (nb T) (2 * m + 1) o r := h1
    have h2' : (r :: (chd (nb T) r (-1)).flatMap fun o => nds (nb T) (2 * m + 1) o r).Perm ns := h2
    have hnd : (r :: (chd (nb T) r (-1)).flatMap fun o => nds (nb T) (2 * m + 1) o r).Nodup := h2'.nodup_iff.mpr g.nodup
    rw [List.nodup_cons] at hnd
    have ec : (((chd (nb T) r (-1)).map fun o => (o, (r : Int))).flatMap fun s => nds (nb T) (2 * m + 1) s.1 s.2) = (chd (nb T) r (-1)).flatMap fun o => nds (nb T) (2 * m + 1) o r := by
      rw [List.flatMap_map]
    have := forest (near := nears (m + 1) T) (f := nb T) m (bhL (List.range (m + 1)) r) (bhS mSome (nears (m + 1) T) zero r) (fun x => decide (x ∈ nb T r)) ((chd (nb T) r (-1)).map fun o => (o, (r : Int))) (2 * m + 1)
      (by have := bhL_length List.nodup_range (List.mem_range.mpr hr); rw [List.length_range] at this; omega) (bhL_nodup List.nodup_range)
      (fun v hv x _ => by
        have hv' := List.mem_range.mp (mem_bhL.mp hv).1
        unfold mk
        rw [nears_get hv'])
      (fun s hs => by
        obtain ⟨o, ho, rfl⟩ := List.mem_map.mp hs
        exact h1' o ho)
      (by rw [ec]; exact hnd.2)
      (fun x => by
        rw [ec, mem_bhL, ← hns.mem_iff, ← h2'.mem_iff, List.mem_cons]
        constructor
        · rintro ⟨h | h, n⟩
          · exact absurd h n
          · exact h
        · intro h
          exact ⟨.inr h, fun e => hnd.1 (e ▸ h)⟩)
      (fun s hs x hx => by
        obtain ⟨o, ho, rfl⟩ := List.mem_map.mp hs
        exact fun q => (mem_bhL.mp hx).2 (Int.ofNat.inj q))
      (fun x hx => by
        have : ((chd (nb T) r (-1)).map fun o => (o, (r : Int))).map (·.1) = chd (nb T) r (-1) := by
          rw [List.map_map]
          exact List.map_id _
        rw [this]
        have e3 : x ∈ chd (nb T) r (-1) ↔ x ∈ nb T r := by
          unfold chd
          rw [List.mem_filter, decide_eq_true_iff]
          exact ⟨fun z => z.1, fun z => ⟨z, neg x⟩⟩
        simp only [e3])
      (fun a ha b hb n => by
        show mSome.nx 0 (mk (nears (m + 1) T) r a + 2 * mk (nears (m + 1) T) r b) = _
        have := code_next false false _ _ (mk_bit (nears (m + 1) T) r a) (mk_bit (nears (m + 1) T) r b)
        rw [show (0 : Nat) = code false false from rfl, this]
        unfold mk
        rw [nears_get hr]
        congr 1
        · by_cases c : a ∈ nb T r <;> simp [c]
        · by_cases c : b ∈ nb T r <;> simp [c])
    rw [List.map_map] at this
    exact this
  have each : ∀ r < m + 1, pr (nb T) (2 * (m + 1)) r (-1) = (m + 1) * prod ((chd (nb T) r (-1)).map fun o => pr (nb T) (2 * m + 1) o r) := by
    intro r hr
    show pr (nb T) (2 * m + 1 + 1) r (-1) = _
    have hl : (nds (nb T) (2 * m + 1 + 1) r (-1)).length = m + 1 := ((hang r hr).2.length_eq).trans hlen
    rw [pr_eq, hl]
  have pos : ∀ r < m + 1, 0 < prod ((chd (nb T) r (-1)).map fun o => pr (nb T) (2 * m + 1) o r) := by
    intro r hr
    have := first r hr
    have h := fact_pos m
    rw [← this] at h
    exact Nat.pos_of_mul_pos_left h
  refine ⟨?_, fun r hr => ⟨(hang r hr).1, ?_, ?_⟩⟩
  · unfold total grown
    rw [cnt_step List.nodup_range (by rw [Ne, List.range_eq_nil]; omega), free_none (st := zero) fun _ _ _ _ _ => rfl]
    congr 1
    apply List.map_congr_left
    intro r hr
    have hr' := List.mem_range.mp hr
    rw [each r hr', show fact (m + 1) = (m + 1) * fact m from rfl, ← first r hr', Nat.mul_div_mul_left _ _ (Nat.succ_pos m), Nat.mul_div_cancel _ (pos r hr')]
  · rw [each r hr, show fact (m + 1) = (m + 1) * fact m from rfl, ← first r hr]
    exact Nat.mul_dvd_mul_left _ (Nat.dvd_mul_left _ _)
  · rw [each r hr]
    exact Nat.mul_pos (Nat.succ_pos m) (pos r hr)
/-- the law's trees: each node but the first tied to one ahead of it, turned, in any order -/
theorem grown_links {p : List Nat} {n : Nat} (hp : p.Perm (List.range n)) (q : Nat → Nat) : ∀ m, m + 1 ≤ n → (∀ o, 1 ≤ o → o ≤ m → q o < o) →
    Grown (((List.range (m + 1)).reverse).map fun a => p.getD a 0) ((((List.range m).reverse).map fun k => (p.getD (q (k + 1)) 0, p.getD (k + 1) 0)))
  | 0, _, _ => Grown.one _
  | m + 1, hm, hq => by
    have ih := grown_links hp q m (by omega) fun o h1 h2 => hq o h1 (by omega)
    have e1 : (List.range (m + 1 + 1)).reverse = (m + 1) :: (List.range (m + 1)).reverse := by
      rw [List.range_succ, List.reverse_append]; rfl
    have e2 : (List.range (m + 1)).reverse = m :: (List.range m).reverse := by
      rw [List.range_succ, List.reverse_append]; rfl
    rw [e1, List.map_cons]
    conv => arg 2; rw [e2, List.map_cons]
    refine Grown.leaf ih ?_ ?_
    · exact List.mem_map.mpr ⟨q (m + 1), by rw [List.mem_reverse, List.mem_range]; exact hq (m + 1) (by omega) (by omega), rfl⟩
    · intro z
      obtain ⟨a, ha, e⟩ := List.mem_map.mp z
      rw [List.mem_reverse, List.mem_range] at ha
      have := perm_inj hp (by omega) (by omega) e
      omega
end SR
end
section
set_option Elab.async false
set_option linter.all false
namespace SR
/-! ### bounds -/
theorem cnt_le {M : Mach} {near : List (List Nat)} : ∀ (k : Nat) (left : List Nat) (st : Stt), left.length = k → left.Nodup → cnt M near left st ≤ fact k
  | 0, left, st, hk, _ => by
    have e0 : left = [] := List.length_eq_zero_iff.mp hk
    subst e0
    exact Nat.le_refl _
  | k + 1, left, st, hk, hn => by
    have h0 : left ≠ [] := fun e => by rw [e] at hk; simp at hk
    rw [cnt_step hn h0]
    have hsum : ∀ l : List Nat, (∀ v ∈ l, cnt M near (bhL left v) (bhS M near st v) ≤ fact k) → (l.map fun v => cnt M near (bhL left v) (bhS M near st v)).sum ≤ l.length * fact k := by
      intro l
      induction l with
      | nil => intro _; simp
      | cons a l ih =>
        intro h
        rw [List.map_cons, List.sum_cons, List.length_cons, Nat.succ_mul]
        have h1 := h a List.mem_cons_self
        have h2 := ih fun v hv => h v (List.mem_cons_of_mem _ hv)
        omega
    have h1 := hsum (free M left st) fun v hv => cnt_le k _ _ (by have := bhL_length hn (free_sub hv); omega) (bhL_nodup hn)
    have h2 : (free M left st).length ≤ k + 1 := by rw [← hk]; exact List.length_filter_le _ _
    exact Nat.le_trans h1 (Nat.mul_le_mul_right _ h2)
theorem six_pos {M : Mach} (h : M ∈ six) (near : List (List Nat)) (n : Nat) : 0 < cnt M near (List.range n) zero :=
  cnt_pos (six_sound M h) near n _ _ List.length_range List.nodup_range (Lawful.start (six_sound M h) _)
/-! ### all nodes alike -/
theorem mk_nil (n v x : Nat) (h : v < n) : mk (nears n []) v x = 0 := by
  rw [mk_nears h, if_neg]
  intro z
  rcases z with z | z <;> cases z
theorem total_nil {M : Mach} (h : M ∈ six) (n : Nat) : total M n [] = fact n := by
  have h0 : ∀ M ∈ six, M.fl 0 = false ∧ M.nx 0 0 = 0 := by decide +kernel
  obtain ⟨h1, h2⟩ := h0 M h
  refine twins (S := [0]) (fun s hs => by rw [List.mem_singleton.mp hs]; exact h1) n _ _ List.length_range List.nodup_range (fun v hv a _ b _ _ _ _ s hs => ?_) (fun _ _ _ _ _ => List.mem_singleton.mpr rfl)
  rw [List.mem_singleton.mp hs, mk_nil n v a (List.mem_range.mp hv), mk_nil n v b (List.mem_range.mp hv)]
  exact List.mem_singleton.mpr h2
theorem total_any (n : Nat) (E : List Tie) : total mAny n E = fact n := by
  refine twins (S := [0]) (fun s hs => by rw [List.mem_singleton.mp hs]; rfl) n _ _ List.length_range List.nodup_range (fun v hv a _ b _ _ _ _ s hs => ?_) (fun _ _ _ _ _ => List.mem_singleton.mpr rfl)
  rw [List.mem_singleton.mp hs]
  have h1 := mk_bit (nears n E) v a
  have h2 := mk_bit (nears n E) v b
  have : ∀ i ∈ [0, 1], ∀ j ∈ [0, 1], mAny.nx 0 (i + 2 * j) ∈ [0] := by decide
  exact this _ h1 _ h2
/-- all ties, as the law lists them -/
def every (n : Nat) : List Tie := (List.range n).flatMap fun a => (List.range (n - (a + 1))).map fun k => (a, a + 1 + k)
theorem mem_every {n : Nat} {t : Tie} : t ∈ every n ↔ t.1 < t.2 ∧ t.2 < n := by
  unfold every
  rw [List.mem_flatMap]
  constructor
  · rintro ⟨a, ha, h⟩
    obtain ⟨k, hk, rfl⟩ := List.mem_map.mp h
    rw [List.mem_range] at ha hk
    exact ⟨by show a < a + 1 + k; omega, by show a + 1 + k < n; omega⟩
  · rintro ⟨h1, h2⟩
    refine ⟨t.1, List.mem_range.mpr (by omega), List.mem_map.mpr ⟨t.2 - (t.1 + 1), List.mem_range.mpr (by omega), ?_⟩⟩
    exact Prod.ext rfl (by show t.1 + 1 + (t.2 - (t.1 + 1)) = t.2; omega)
theorem every_nodup : ∀ n ∈ [6, 7], (every n).Nodup ∧ (every n).length ≤ 100 := by decide +kernel
theorem total_every {M : Mach} (h : M ∈ six) (n : Nat) : total M n (every n) = fact n := by
  have h0 : ∀ M ∈ six, ∃ S ∈ [[0], [0, 1]], 0 ∈ S ∧ (∀ s ∈ S, M.fl s = false) ∧ ∀ s ∈ S, M.nx s 3 ∈ S := by decide +kernel
  obtain ⟨S, _, hz, h1, h2⟩ := h0 M h
  have one : ∀ v < n, ∀ a < n, v ≠ a → mk (nears n (every n)) v a = 1 := fun v hv a ha ne => by
    rw [mk_nears hv, if_pos]
    by_cases c : v < a
    · exact .inl (mem_every.mpr ⟨c, ha⟩)
    · exact .inr (mem_every.mpr ⟨by show a < v; omega, hv⟩)
  refine twins (S := S) h1 n _ _ List.length_range List.nodup_range (fun v hv a ha b hb na nb _ s hs => ?_) (fun _ _ _ _ _ => hz)
  rw [List.mem_range] at hv ha hb
  rw [one v hv a ha na, one v hv b hb nb]
  exact h2 s hs
/-! ### the law's trees -/
def treeL (n : Nat) (q : Nat → Nat) : List Tie := (List.range (n - 1)).map fun k => (q (k + 1), k + 1)
theorem path_tree (n : Nat) : pathL n = treeL n fun o => o - 1 := rfl
def Qok (n : Nat) (q : Nat → Nat) : Prop := ∀ o, 1 ≤ o → o < n → q o < o
theorem tree_link {n : Nat} {q : Nat → Nat} (h : Qok n q) : ∀ t ∈ treeL n q, t.1 < t.2 ∧ t.2 < n := by
  intro t ht
  obtain ⟨k, hk, rfl⟩ := List.mem_map.mp ht
  rw [List.mem_range] at hk
  exact ⟨h (k + 1) (by omega) (by omega), by show k + 1 < n; omega⟩
theorem up_eq {a b c d : Nat} (h : up a b = up c d) : (a = c ∧ b = d) ∨ (a = d ∧ b = c) := by
  unfold up at h
  injection h with h1 h2
  omega
theorem nodup_mapG {α β : Type} {f : α → β} : ∀ {l : List α}, l.Nodup → (∀ a ∈ l, ∀ b ∈ l, f a = f b → a = b) → (l.map f).Nodup
  | [], _, _ => List.nodup_nil
  | a :: l, h, hi => by
    rw [List.nodup_cons] at h
    rw [List.map_cons, List.nodup_cons]
    refine ⟨fun m => ?_, nodup_mapG h.2 fun x hx y hy => hi x (List.mem_cons_of_mem _ hx) y (List.mem_cons_of_mem _ hy)⟩
    obtain ⟨b, hb, e⟩ := List.mem_map.mp m
    exact h.1 (hi b (List.mem_cons_of_mem _ hb) a List.mem_cons_self e ▸ hb)
theorem turned_ok {n : Nat} {p : List Nat} {q : Nat → Nat} (hp : p.Perm (List.range n)) (h : Qok n q) {us : List Tie} (hu : us.Perm (turned p (treeL n q))) : (∀ t ∈ us, t.1 < t.2 ∧ t.2 < n) ∧ us.Nodup ∧ us.length = n - 1 := by
  refine ⟨fun t ht => ?_, ?_, ?_⟩
  · obtain ⟨s, hs, rfl⟩ := List.mem_map.mp (hu.mem_iff.mp ht)
    obtain ⟨h1, h2⟩ := tree_link h s hs
    have hne : p.getD s.1 0 ≠ p.getD s.2 0 := fun e => by have := perm_inj hp (by omega) h2 e; omega
    have m1 := perm_mem hp (show s.1 < n by omega)
    have m2 := perm_mem hp h2
    exact ⟨by show min _ _ < max _ _; omega, by show max _ _ < n; omega⟩
  · rw [hu.nodup_iff]
    unfold turned treeL
    rw [List.map_map]
    refine nodup_mapG List.nodup_range fun a ha b hb e => ?_
    rw [List.mem_range] at ha hb
    have ha' := h (a + 1) (by omega) (by omega)
    have hb' := h (b + 1) (by omega) (by omega)
    rcases up_eq e with ⟨_, e2⟩ | ⟨e1, e2⟩
    · have := perm_inj hp (show a + 1 < n by omega) (show b + 1 < n by omega) e2
      omega
    · have h1 := perm_inj hp (show q (a + 1) < n by omega) (show b + 1 < n by omega) e1
      have h2 := perm_inj hp (show a + 1 < n by omega) (show q (b + 1) < n by omega) e2
      omega
  · rw [hu.length_eq]
    unfold turned treeL
    rw [List.length_map, List.length_map, List.length_range]
theorem total_path {n : Nat} {p : List Nat} (hp : p.Perm (List.range n)) {us : List Tie} (hu : us.Perm (turned p (pathL n))) : total mSome n us = total mSome n (pathL n) := by
  rw [total_perm hu]
  refine total_turned hp fun t ht => ?_
  obtain ⟨h1, h2⟩ := tree_link (q := fun o => o - 1) (fun o h1 _ => by show o - 1 < o; omega) t ht
  exact ⟨by omega, h2, by omega⟩
theorem szs_len (f : Nat → List Nat) : ∀ (k v : Nat) (a : Int), (szs f k v a).length = (nds f k v a).length
  | 0, _, _ => rfl
  | k + 1, v, a => by
    rw [szs_eq]
    show ((chd f v a).flatMap fun o => szs f k o v).length + 1 = ((chd f v a).flatMap fun o => nds f k o v).length + 1
    rw [List.length_flatMap, List.length_flatMap]
    congr 2
    apply List.map_congr_left
    intro o _
    exact szs_len f k o v
theorem total_tree {n : Nat} {p : List Nat} {q : Nat → Nat} (h1 : 1 ≤ n) (hp : p.Perm (List.range n)) (h : Qok n q) {us : List Tie} (hu : us.Perm (turned p (treeL n q))) :
    total mSome n us = grown n (nb us) (2 * n) ∧ ∀ r < n, Fin (nb us) (2 * n) r (-1) ∧ (szs (nb us) (2 * n) r (-1)).length ≤ n ∧ pr (nb us) (2 * n) r (-1) ∣ fact n ∧ 0 < pr (nb us) (2 * n) r (-1) := by
  obtain ⟨m, rfl⟩ : ∃ m, n = m + 1 := ⟨n - 1, by omega⟩
  have g := grown_links hp q m (Nat.le_refl _) fun o h1 h2 => h o h1 (by omega)
  have hns : (((List.range (m + 1)).reverse).map fun a => p.getD a 0).Perm (List.range (m + 1)) := by
    have e : (List.range (m + 1)).map (fun a => p.getD a 0) = p := by
      apply List.ext_getElem
      · rw [List.length_map, List.length_range, hp.length_eq, List.length_range]
      · intro i h1 h2
        rw [List.getElem_map, List.getElem_range, List.getD_eq_getElem?_getD, List.getElem?_eq_getElem h2]
        rfl
    rw [List.map_reverse, e]
    exact (List.reverse_perm p).trans hp
  have hT : ∀ v, (nb us v).Perm (nb (((List.range m).reverse).map fun k => (p.getD (q (k + 1)) 0, p.getD (k + 1) 0)) v) := fun v => by
    have hne : ∀ t ∈ treeL (m + 1) q, p.getD t.1 0 ≠ p.getD t.2 0 := fun t ht e => by
      obtain ⟨h1, h2⟩ := tree_link h t ht
      have := perm_inj hp (by omega) h2 e
      omega
    refine (nb_perm hu v).trans ?_
    unfold turned
    rw [nb_up (f := fun a => p.getD a 0) hne v]
    refine nb_perm ?_ v
    unfold treeL
    rw [List.map_map, List.map_reverse]
    exact (List.reverse_perm _).symm
  obtain ⟨h1, h2⟩ := tree_count g hns hT
  refine ⟨h1, fun r hr => ⟨(h2 r hr).1, ?_, (h2 r hr).2.1, (h2 r hr).2.2⟩⟩
  have hang := g.hangs (nb us) hT r (hns.mem_iff.mpr (List.mem_range.mpr hr))
  have hl : (((List.range (m + 1)).reverse).map fun a => p.getD a 0).length = m + 1 := by rw [hns.length_eq, List.length_range]
  rw [hl] at hang
  rw [szs_len, hang.2.length_eq, hl]
  exact Nat.le_refl _
end SR
end
section
set_option Elab.async false
set_option linter.all false
set_option maxRecDepth 100000
set_option maxHeartbeats 4000000
namespace W
open PySem PySem.Spec PyProof.Rows L2
/-! ### the text by places -/
def topS (i : Nat) : Stmt := PySem.Challenge.pw_searchrules_k54_whole_orders_counted.main.body.getD i (.Pass ⟨0, 0, 0, 0⟩)

/-! ### heaps -/
theorem same_upd {H : Hp} {p : Addr} {o : HO} (h : H p = none) : Same H (upd H p o) := fun b x e => by
  rw [upd_ne (ne_of_none e h)]
  exact e
/-- a new object, its heap by a letter -/
theorem new_as {H0 H : Hp} {p : Addr} {o : HO} (s : Same H0 H) (h : H p = none) : ∃ H', H' = upd H p o ∧ Same H0 H' ∧ Same H H' ∧ H' p = some o ∧ H0 p = none :=
  ⟨_, rfl, s.trans (same_upd h), same_upd h, upd_same, s.free h⟩
/-- all but the one at l is as it was -/
def SameX (l : Addr) (H H' : Hp) : Prop := ∀ b o, b ≠ l → H b = some o → H' b = some o
theorem SameX.same {l : Addr} {H H' : Hp} (s : SameX l H H') (h : H l = none) : Same H H' := fun b o e => s b o (ne_of_none e h) e
theorem Same.x {l : Addr} {H H' : Hp} (s : Same H H') : SameX l H H' := fun b o _ e => s b o e
theorem SameX.trans {l : Addr} {H H1 H2 : Hp} (a : SameX l H H1) (b : SameX l H1 H2) : SameX l H H2 := fun c o n h => b c o n (a c o n h)
/-- an object changed -/
theorem put_as {H0 H : Hp} {l : Addr} {o : HO} (s : Same H0 H) (h : H0 l = none) : ∃ H', H' = upd H l o ∧ Same H0 H' ∧ SameX l H H' ∧ H' l = some o :=
  ⟨_, rfl, fun b x e => by rw [upd_ne (ne_of_none e h)]; exact s b x e, fun b x n e => by rw [upd_ne n]; exact e, upd_same⟩
theorem Same.fr {H H' : Hp} (s : Same H H') {a : Addr} {o : HO} (h : H a = some o) : H' a = some o := s a o h

def nl (l : List Nat) : List V := l.map fun n : Nat => V.int (n : Int)
theorem nl_length (l : List Nat) : (nl l).length = l.length := by unfold nl; rw [List.length_map]
theorem nl_get {l : List Nat} {i : Nat} {x : V} (h : (nl l)[i]? = some x) : ∃ n, l[i]? = some n ∧ x = .int (n : Int) := by
  unfold nl at h
  rw [List.getElem?_map] at h
  cases e : l[i]? with
  | none => rw [e] at h; cases h
  | some n => rw [e] at h; exact ⟨n, rfl, (Option.some.inj h).symm⟩
theorem nl_at {l : List Nat} {i n : Nat} (h : l[i]? = some n) : (nl l)[i]? = some (.int (n : Int)) := by
  unfold nl
  rw [List.getElem?_map, h]
  rfl
theorem nl_append (l m : List Nat) : nl (l ++ m) = nl l ++ nl m := by unfold nl; rw [List.map_append]
theorem line_le {n : Nat} (h : n ≤ 10000) : n ≤ sizeLine := Nat.le_trans h (by decide)
theorem line_lt {n : Nat} (h : n ≤ 10000) : n < sizeLine := Nat.lt_of_le_of_lt h (by decide)

/-! ### a def by its name -/
section
variable (P : Program) (w : World) (K : PySem.W.Frag) (mg : Str → Option Value) (base : Heap)
structure FnB (CX : CXT) (k : Nat) (x : Str) (ps : List Str) (dvs : List V) (sp : Sp) : Prop where
  ex : ∃ (f : Addr) (fd : FuncData) (ds : List Value), FnOk P w K mg base CX k f fd ps sp ∧ mg x = some (.ref f) ∧ PySem.W.keepIn K (.ref f) = true ∧ Binds K fd ps ds ∧ Vals dvs ds
structure MeB (CX : CXT) (k : Nat) (C : Addr) (m : Str) (ps : List Str) (sp : Sp) : Prop where
  cl : Cls K C
  ex : ∃ (f : Addr) (fd : FuncData), FnOk P w K mg base CX k f fd ps sp ∧ Meth K C m f ∧ Binds K fd ps []
structure MkB (CX : CXT) (k : Nat) (x : Str) (C : Addr) (ps : List Str) (sp : Sp) : Prop where
  ex : ∃ (f : Addr) (fd : FuncData), Mk K C f ∧ FnOk P w K mg base CX k f fd ps sp ∧ mg x = some (.ref C) ∧ Binds K fd ps []
end
section
variable {X : Cx} {CX : CXT} {k : Nat} {x m : Str} {C : Addr} {ps : List Str} {dvs : List V} {sp : Sp} {E : XK} {p pos apos : Pos} {e o : Expr} {es : List Expr} {ta : TE} {t : TA}
theorem pe_fn (F : FnB X.prog X.w X.K X.mg X.base CX k x ps dvs sp) (hr : Room k X.A) (hx : Passes CX X E) (ha : PA X (e :: es) t) (hg : Gl X x := by rfl) (hdb : (x == ("__debug__" : Str)) = false := by decide) (he : starEach (e :: es) X.env = (false, eval e X.env) :: starEach es X.env := by rfl)
    (hpl : (backTo pos (starEach es X.env)).any (·.1) = false := by rfl) : PE X (.Call (.Name x p) (e :: es) [] pos) (tCall sp dvs E t) := by
  obtain ⟨f, fd, ds, F, hm, hk, hb, hd⟩ := F.ex
  exact pe_call F hr hg hm hk hb hd hx ha hdb he hpl
theorem pe_mk (F : MkB X.prog X.w X.K X.mg X.base CX k x C ps sp) (hr : Room (k + 1) X.A) (hx : Passes CX X E) (ha : PA X (e :: es) t) (hg : Gl X x := by rfl) (hdb : (x == ("__debug__" : Str)) = false := by decide) (he : starEach (e :: es) X.env = (false, eval e X.env) :: starEach es X.env := by rfl)
    (hpl : (backTo pos (starEach es X.env)).any (·.1) = false := by rfl) : PE X (.Call (.Name x p) (e :: es) [] pos) (tMake C sp [] E t) := by
  obtain ⟨f, fd, M, F, hm, hb⟩ := F.ex
  exact pe_make M F hr hg hm hb .nil hx ha hdb he hpl
theorem pe_me {pl : Sem Bool} (he : PE X o ta) (F : MeB X.prog X.w X.K X.mg X.base CX k C m ps sp) (hr : Room k X.A) (hx : Passes CX X E) (ha : PA X (e :: es) t)
    (hst : starEach (e :: es) X.env = (false, eval e X.env) :: starEach es X.env := by rfl) (hpl : (backTo pos (starEach es X.env)).any (·.1) = false := by rfl)
    (ht : eval (.Call (.Attribute o m apos) (e :: es) [] pos) X.env = (do
      let ov ← eval o X.env
      standAt apos.atName
      let (f, first) ← holding [ov] (getMethod ov m pl)
      callWith pos f first (backTo pos (starEach (e :: es) X.env)) (backToKw pos (keywordEach [] X.env))) := by rfl) : PE X (.Call (.Attribute o m apos) (e :: es) [] pos) (tMeth C m sp [] E ta t) := by
  obtain ⟨f, fd, F', hm, hb⟩ := F.ex
  exact pe_meth (pl := pl) he F.cl hm F' hr hb .nil hx ha hst hpl ht
theorem pe_me0 {pl : Sem Bool} (he : PE X o ta) (F : MeB X.prog X.w X.K X.mg X.base CX k C m ps sp) (hr : Room k X.A) (hx : Passes CX X E)
    (ht : eval (.Call (.Attribute o m apos) [] [] pos) X.env = (do
      let ov ← eval o X.env
      standAt apos.atName
      let (f, first) ← holding [ov] (getMethod ov m pl)
      callWith pos f first (backTo pos (starEach [] X.env)) (backToKw pos (keywordEach [] X.env))) := by rfl) : PE X (.Call (.Attribute o m apos) [] [] pos) (tMeth C m sp [] E ta tNil) := by
  obtain ⟨f, fd, F', hm, hb⟩ := F.ex
  exact pe_meth0 (pl := pl) he F.cl hm F' hr hb .nil hx ht
end
/-- a def of the text: its function object -/
abbrev FnP (K : PySem.W.Frag) (x qual : Str) (st : Stmt) (f : Addr) (fd : FuncData) : Prop := FunD K x qual (defArgs st) (defBody st) (defScope st) [] [] f fd
/-- .. behind the module's name x -/
structure Df (K : PySem.W.Frag) (mg : Str → Option Value) (x : Str) (st : Stmt) : Prop where
  ex : ∃ f fd, FnP K x x st f fd ∧ mg x = some (.ref f)
section
variable {P : Program} {w : World} {K : PySem.W.Frag} {mg : Str → Option Value} {base : Heap} {CX : CXT} {x : Str} {st : Stmt} {N ps : List Str} {k : Nat} {sp : Sp}
/-- THE RULE for a def of the module -/
theorem Df.ok (D : Df K mg x st) (S : FnScope N ps (defScope st)) (len : ∀ vs H Q E, sp vs H Q E → vs.length = ps.length)
    (hbind : ∀ (kV doc pm : Value) (an : Option Addr) (cdv ct : Value) (us : List Value), us.length = ps.length → bindArgs (PySem.W.fnOf x x (defArgs st) (defBody st) (defScope st) .none kV doc pm an cdv ct) ⟨us, []⟩ = pure (ps.zip us))
    (hbody : ∀ (f : Addr) (cdv : Value) (A : Around) (outer : List Env) (s : Shared) (H : Hp) (vs : List V) (Q : VK) (E : XK), Room k (A.deeper (envOfC x (defScope st) s.heap.objs.size f cdv)) → sp vs H Q E →
      ∃ t, PSs (cxOf CX0 P w K mg base N x (defScope st) f cdv A outer s H E).nox (defBody st) t ∧ t { nx := fun _ H' => Q .non H', rt := Q } (start N vs) H) : FnB P w K mg base CX0 (k + 1) x ps [] sp := by
  obtain ⟨f, fd, F, hm⟩ := D.ex
  refine ⟨f, fd, [], F.ok S len fun cdv A outer s H vs Q E hr hsp => ?_, hm, F.kp, F.bindsN hbind, .nil⟩
  obtain ⟨t, h, q⟩ := hbody f cdv A outer s H vs Q E hr hsp
  exact ⟨t, h.nox, q⟩
end
theorem FnB.mono {P : Program} {w : World} {K : PySem.W.Frag} {mg : Str → Option Value} {base : Heap} {CX : CXT} {x : Str} {ps : List Str} {dvs : List V} {sp : Sp} {j k : Nat} (F : FnB P w K mg base CX j x ps dvs sp) (h : j ≤ k) : FnB P w K mg base CX k x ps dvs sp := by
  obtain ⟨f, fd, ds, F, r⟩ := F.ex
  exact ⟨f, fd, ds, F.mono h, r⟩
end W
end
section
set_option Elab.async false
set_option linter.all false
set_option maxRecDepth 100000
set_option maxHeartbeats 4000000
namespace W
open PySem PySem.Spec PyProof.Rows L2
/-! ### the built-in names that the text leaves as they are -/
structure Bl (mg : Str → Option Value) : Prop where
  b_isinstance : mg "isinstance" = none
  b_int : mg "int" = none
  b_bool : mg "bool" = none
  b_tuple : mg "tuple" = none
  b_list : mg "list" = none
  b_str : mg "str" = none
  b_len : mg "len" = none
  b_range : mg "range" = none
  b_enumerate : mg "enumerate" = none
  b_zip : mg "zip" = none
  b_reversed : mg "reversed" = none
  b_sorted : mg "sorted" = none
  b_sum : mg "sum" = none
  b_set : mg "set" = none
  b_min : mg "min" = none
  b_max : mg "max" = none
  b_abs : mg "abs" = none
abbrev N_is_whole : List Str := ["thing"]
theorem sc_is_whole : FnScope N_is_whole ["thing"] (defScope (topS 14)) := ⟨rfl, rfl, rfl, by decide +kernel, rfl, by decide +kernel, by decide +kernel⟩
abbrev N_is_node : List Str := ["size", "thing"]
theorem sc_is_node : FnScope N_is_node ["size", "thing"] (defScope (topS 15)) := ⟨rfl, rfl, rfl, by decide +kernel, rfl, by decide +kernel, by decide +kernel⟩
abbrev N_is_tie : List Str := ["size", "thing", "one", "other"]
theorem sc_is_tie : FnScope N_is_tie ["size", "thing"] (defScope (topS 16)) := ⟨rfl, rfl, rfl, by decide +kernel, rfl, by decide +kernel, by decide +kernel⟩
/-- an int is a whole number -/
def spWhole : Sp := fun vs H Q _ => ∃ i : Int, vs = [.int i] ∧ Q (.bl true) H
def spNode : Sp := fun vs H Q _ => ∃ n i : Int, vs = [.int n, .int i] ∧ Q (.bl (decide (0 ≤ i) && decide (i < n))) H
/-- a tie of the nodes -/
def spTie : Sp := fun vs H Q _ => ∃ (n : Int) (t : Addr) (a b : Int), vs = [.int n, .ref t] ∧ H t = some (.tup [.int a, .int b]) ∧ 0 ≤ a ∧ a < b ∧ b < n ∧ Q (.bl true) H
section
variable {P : Program} {w : World} {K : PySem.W.Frag} {mg : Str → Option Value} {base : Heap}
theorem ok_is_whole (T : Bl mg) (D : Df K mg "is_whole" (topS 14)) : FnB P w K mg base CX0 1 "is_whole" ["thing"] [] spWhole := by
  refine D.ok sc_is_whole (fun vs H Q E h => ?_) (fun _ _ _ _ _ _ us hl => match us, hl with | [_], _ => rfl) (fun f cdv A outer s H vs Q E hr h => ?_)
  · obtain ⟨i, rfl, _⟩ := h
    rfl
  · obtain ⟨i, rfl, q⟩ := h
    refine ⟨_, (pss_one (ps_ret (pe_and (pe_callB call_isi (by rfl) T.b_isinstance (by decide +kernel) (pa_cons (pv 0) (pa_cons (pe_bltn (v := .ty "int") (u := .type "int") (by rfl) T.b_int (by decide +kernel) rfl) pa_nil))) (pe_one (pe_not (pe_callB call_isi (by rfl) T.b_isinstance (by decide +kernel) (pa_cons (pv 0) (pa_cons (pe_bltn (v := .ty "bool") (u := .type "bool") (by rfl) T.b_bool (by decide +kernel) rfl) pa_nil)))))))), ?_⟩
    refine ⟨_, rfl, ?_⟩
    refine ⟨_, _, _, _, true, rfl, .ty "int", .base (.int i), kit_ty (by decide +kernel), ?_⟩
    refine ⟨true, rfl, ?_⟩
    refine ⟨_, rfl, _, _, _, _, false, rfl, .ty "bool", .base (.int i), kit_ty (by decide +kernel), ?_⟩
    exact ⟨false, rfl, q⟩
theorem ok_is_node (D : Df K mg "is_node" (topS 15)) (FW : FnB P w K mg base CX0 1 "is_whole" ["thing"] [] spWhole) : FnB P w K mg base CX0 2 "is_node" ["size", "thing"] [] spNode := by
  refine D.ok sc_is_node (fun vs H Q E h => ?_) (fun _ _ _ _ _ _ us hl => match us, hl with | [_, _], _ => rfl) (fun f cdv A outer s H vs Q E hr h => ?_)
  · obtain ⟨n, i, rfl, _⟩ := h
    rfl
  · obtain ⟨n, i, rfl, q⟩ := h
    refine ⟨_, (pss_one (ps_ret (pe_and (pe_fn FW hr pass0 (pa_cons (pv 1) pa_nil)) (pe_one (pe_chain op_le op_lt pe_int (pv 1) (pv 0)))))), ?_⟩
    refine ⟨_, rfl, _, rfl, true, rfl, iteT ?_⟩
    refine ⟨_, rfl, _, _, rfl, rfl, _, rfl, ?_⟩
    by_cases c : 0 ≤ i
    · rw [decide_eq_true c]
      refine iteT ⟨_, rfl, _, _, rfl, rfl, ?_⟩
      rw [decide_eq_true c, Bool.true_and] at q
      exact q
    · rw [decide_eq_false c]
      rw [decide_eq_false c, Bool.false_and] at q
      exact iteF q
theorem ok_is_tie (T : Bl mg) (D : Df K mg "is_tie" (topS 16)) (FN : FnB P w K mg base CX0 2 "is_node" ["size", "thing"] [] spNode) : FnB P w K mg base CX0 3 "is_tie" ["size", "thing"] [] spTie := by
  refine D.ok sc_is_tie (fun vs H Q E h => ?_) (fun _ _ _ _ _ _ us hl => match us, hl with | [_, _], _ => rfl) (fun f cdv A outer s H vs Q E hr h => ?_)
  · obtain ⟨n, t, a, b, rfl, _⟩ := h
    rfl
  · obtain ⟨n, t, a, b, rfl, ht, h0, h1, h2, q⟩ := h
    refine ⟨_, (pss_cons (ps_if (PW.pt (pw_or (pt_not (pt_val (pe_callB call_isi (by rfl) T.b_isinstance (by decide +kernel) (pa_cons (pv 1) (pa_cons (pe_bltn (v := .ty "tuple") (u := .type "tuple") (by rfl) T.b_tuple (by decide +kernel) rfl) pa_nil))))) (pw_or1 (pt_cmpR op_ne (pe_callB call_len_seq (by rfl) T.b_len PySem.boot_len (pa_cons (pv 1) pa_nil)) pe_int (nomark _))))) (pss_one (ps_ret pe_bl)) pss_nil) (pss_cons (ps_asg (pv 1) (pg_tup rfl (pgs_cons (pg_name (i := 2) sc_is_tie.nd rfl (Or.inl rfl)) (pgs_cons (pg_name (i := 3) sc_is_tie.nd rfl (Or.inl rfl)) pgs_nil)))) (pss_one (ps_ret (pe_and (pe_fn FN hr pass0 (pa_cons (pv 0) (pa_cons (pv 2) pa_nil))) (pe_and (pe_fn FN hr pass0 (pa_cons (pv 0) (pa_cons (pv 3) pa_nil))) (pe_one (pe_cmpR op_lt (pv 2) (pv 3) (nomark _))))))))), ?_⟩
    refine ⟨_, rfl, _, _, _, _, true, rfl, .ty "tuple", .base (.tup ht), kit_ty (by decide +kernel), true, rfl, iteF ?_⟩
    refine ⟨_, rfl, t, _, rfl, .inr (SqT.of ht), rfl, _, rfl, iteF ?_⟩
    refine ⟨_, rfl, t, _, rfl, SqT.of ht, rfl, _, _, rfl, _, _, rfl, rfl, ?_⟩
    refine ⟨_, rfl, _, rfl, n, a, rfl, ?_⟩
    rw [decide_eq_true h0, decide_eq_true (show a < n by omega)]
    refine ⟨true, rfl, iteT ⟨_, rfl, _, rfl, n, b, rfl, ?_⟩⟩
    rw [decide_eq_true (show 0 ≤ b by omega), decide_eq_true h2]
    refine ⟨true, rfl, iteT ⟨_, rfl, _, rfl, a, b, rfl, rfl, ?_⟩⟩
    show Q (.bl (decide (a < b))) H
    rw [decide_eq_true h1]
    exact q
end
end W
end
section
set_option Elab.async false
set_option linter.all false
set_option maxRecDepth 100000
set_option maxHeartbeats 4000000
namespace W
open PySem PySem.Spec PyProof.Rows L2
open SR (Tie)
/-- over enumerate of a list -/
theorem for_enum {K : PySem.W.Frag} {a : Addr} {xs : List V} {g : TG} {tb : TS} {D : Ends} {σ : L2.St} {H : Hp} (Pv : Nat → L2.St → Hp → Prop) (h0 : Pv 0 σ H) (hq : ∀ i σ H, Pv i σ H → SqL K H a xs)
    (hs : ∀ (i : Nat) (x : V) (T : Addr) (σ : L2.St) (H : Hp), xs[i]? = some x → Pv i σ H → H T = none → g (.ref T) σ (upd H T (.tup [.int (i : Nat), x])) fun σ2 H2 => tb { D with nx := Pv (i + 1), ct := Pv (i + 1), bk := D.nx } σ2 H2) (hd : ∀ σ H, Pv xs.length σ H → D.nx σ H) :
    ∃ W : Nat → Nat → L2.St → Hp → Prop, (∃ m, W 0 m σ H) ∧ ∀ i m σ H, W i m σ H →
      ((Ite K a).stop i H ∧ D.nx σ H) ∨ ((Ite K a).go i H ∧ ∃ N : L2.St → Hp → Prop, (∀ σ' H', N σ' H' → ∃ m', m' < m ∧ W (i + 1) m' σ' H') ∧ ∀ v H', (Ite K a).yld i H v H' → g v σ H' fun σ2 H2 => tb { D with nx := N, ct := N, bk := D.nx } σ2 H2) := by
  refine ⟨fun i m σ H => m = xs.length - i ∧ i ≤ xs.length ∧ Pv i σ H, ⟨xs.length, rfl, Nat.zero_le _, h0⟩, ?_⟩
  rintro i m σ H ⟨rfl, hi, p⟩
  have qx := hq i σ H p
  by_cases hlt : i < xs.length
  · have hx : xs[i]? = some xs[i] := List.getElem?_eq_getElem hlt
    refine .inr ⟨⟨xs, _, qx, hx⟩, Pv (i + 1), fun σ' H' p' => ⟨xs.length - (i + 1), by omega, rfl, hlt, p'⟩, fun v H' y => ?_⟩
    obtain ⟨T, x', rfl, hT, rfl, f1⟩ := y
    exact hs i x' T σ H (f1 xs qx) p hT
  · have e : i = xs.length := by omega
    subst e
    exact .inl ⟨⟨xs, qx, Nat.le_refl _⟩, hd σ H p⟩
theorem Paired.get {α β : Type} {R : α → β → Prop} : ∀ {l : List α} {m : List β} {i : Nat} {x : α}, Paired R l m → l[i]? = some x → ∃ y, m[i]? = some y ∧ R x y
  | _, _, _, _, .nil, h => by simp at h
  | _, _, 0, _, .cons r _, h => by
    simp at h
    subst h
    exact ⟨_, rfl, r⟩
  | _, _, i + 1, _, .cons _ t, h => by
    obtain ⟨y, h1, h2⟩ := Paired.get (i := i) t (by simpa using h)
    exact ⟨y, by simpa using h1, h2⟩
theorem Paired.imp {α β : Type} {R S : α → β → Prop} (f : ∀ a b, R a b → S a b) : ∀ {l : List α} {m : List β}, Paired R l m → Paired S l m
  | _, _, .nil => .nil
  | _, _, .cons r t => .cons (f _ _ r) (Paired.imp f t)

/-! ### ties -/
def TieAt (H : Hp) (a : Addr) (t : Tie) : Prop := H a = some (.tup [.int (t.1 : Int), .int (t.2 : Int)])
def TiesAt (H : Hp) (as : List Addr) (ts : List Tie) : Prop := Paired (TieAt H) as ts
theorem TiesAt.same {H H' : Hp} (s : Same H H') {as : List Addr} {ts : List Tie} (h : TiesAt H as ts) : TiesAt H' as ts := Paired.imp (fun _ _ e => s _ _ e) h
def refs (as : List Addr) : List V := as.map V.ref
theorem refs_get {as : List Addr} {i : Nat} {x : V} (h : (refs as)[i]? = some x) : ∃ a, as[i]? = some a ∧ x = .ref a := by
  unfold refs at h
  rw [List.getElem?_map] at h
  cases e : as[i]? with
  | none => rw [e] at h; cases h
  | some n => rw [e] at h; exact ⟨n, rfl, (Option.some.inj h).symm⟩
def tieKey (t : Tie) : List Key := [.inl (t.1 : Int), .inl (t.2 : Int)]
theorem tieKey_inj {t u : Tie} (h : tieKey t = tieKey u) : t = u := by
  unfold tieKey at h
  simp only [List.cons.injEq, Sum.inl.injEq, and_true] at h
  obtain ⟨h1, h2⟩ := h
  exact Prod.ext (Int.ofNat.inj h1) (Int.ofNat.inj h2)
def tieKvs (ts : List Tie) : List (List Key × V) := ts.map fun t => (tieKey t, .bl true)
theorem tieKvs_none : ∀ {ts : List Tie} {t : Tie}, t ∉ ts → valV (tieKvs ts) (tieKey t) = none
  | [], _, _ => valV_nil
  | u :: ts, t, h => by
    show valV ((tieKey u, V.bl true) :: tieKvs ts) (tieKey t) = none
    rw [valV_neg (p := (tieKey u, V.bl true)) fun e => h (by rw [tieKey_inj e]; exact List.mem_cons_self)]
    exact tieKvs_none fun q => h (List.mem_cons_of_mem _ q)
def tieOf (H : Hp) : V → Int × Int
  | .ref a => match H a with
    | some (.tup [.int x, .int y]) => (x, y)
    | _ => (0, 0)
  | _ => (0, 0)
theorem tieOf_at {H : Hp} {a : Addr} {t : Tie} (h : TieAt H a t) : tieOf H (.ref a) = ((t.1 : Int), (t.2 : Int)) := by
  have h' : H a = some (.tup [.int (t.1 : Int), .int (t.2 : Int)]) := h
  show (match H a with
    | some (.tup [.int x, .int y]) => (x, y)
    | _ => (0, 0)) = _
  rw [h']
theorem take_get {α : Type} {l : List α} {i : Nat} {x : α} (h : l[i]? = some x) : l.take (i + 1) = l.take i ++ [x] := by
  rw [List.take_add_one, h]
  rfl
theorem not_mem_take {α : Type} : ∀ {l : List α} {i : Nat} {x : α}, l.Nodup → l[i]? = some x → x ∉ l.take i
  | [], _, _, _, h => by simp at h
  | a :: l, 0, _, _, _ => by simp
  | a :: l, i + 1, x, hn, h => by
    rw [List.nodup_cons] at hn
    rw [List.take_succ_cons, List.mem_cons, not_or]
    have h' : l[i]? = some x := by simpa using h
    exact ⟨fun e => hn.1 (e ▸ List.mem_of_getElem? h'), not_mem_take hn.2 h'⟩
theorem isKeys_ties {H : Hp} : ∀ {ts : List Tie} {bs : List Addr}, IsKeys H (tieKvs ts) bs → TiesAt H bs ts
  | [], _, h => by
    cases h
    exact .nil
  | t :: ts, _, h => by
    cases h with
    | cons h1 h2 => exact .cons h1 (isKeys_ties h2)
theorem ties_perm {H : Hp} : ∀ {bs : List Addr} {ts : List Tie} {ys : List V}, TiesAt H bs ts → ys.Perm (refs bs) → ∃ cs us, ys = refs cs ∧ TiesAt H cs us ∧ us.Perm ts := by
  intro bs ts ys h hp
  have fw : ∀ {xs ys : List V}, xs.Perm ys → ∀ bs ts, xs = refs bs → TiesAt H bs ts → ∃ cs us, ys = refs cs ∧ TiesAt H cs us ∧ us.Perm ts := by
    intro xs ys hp
    induction hp with
    | nil =>
      intro bs ts e h
      exact ⟨bs, ts, e, h, .refl _⟩
    | @cons x l l' hp ih =>
      intro bs ts e h
      cases h with
      | nil => cases e
      | @cons b t bs ts h1 h2 =>
        have e' : x :: l = V.ref b :: refs bs := e
        injection e' with e1 e2
        obtain ⟨cs, us, e3, h3, h4⟩ := ih bs ts e2 h2
        exact ⟨b :: cs, t :: us, by rw [e1, e3]; rfl, .cons h1 h3, h4.cons _⟩
    | @swap x y l =>
      intro bs ts e h
      cases h with
      | nil => cases e
      | @cons b t bs ts h1 h2 =>
        cases h2 with
        | nil => injection e with _ e2; cases e2
        | @cons b2 t2 bs ts h3 h4 =>
          have e' : y :: x :: l = V.ref b :: V.ref b2 :: refs bs := e
          injection e' with e1 e2
          injection e2 with e2 e3
          exact ⟨b2 :: b :: bs, t2 :: t :: ts, by rw [e1, e2, e3]; rfl, .cons h3 (.cons h1 h4), .swap _ _ _⟩
    | trans _ _ ih1 ih2 =>
      intro bs ts e h
      obtain ⟨cs, us, e3, h3, h4⟩ := ih1 bs ts e h
      obtain ⟨ds, vs, e5, h5, h6⟩ := ih2 cs us e3 h3
      exact ⟨ds, vs, e5, h5, h6.trans h4⟩
  exact fw hp.symm bs ts rfl h
abbrev N_checked_ties : List Str := ["size", "ties", "found", "place", "thing"]
theorem sc_checked_ties : FnScope N_checked_ties ["size", "ties"] (defScope (topS 17)) := ⟨rfl, rfl, rfl, by decide +kernel, rfl, by decide +kernel, by decide +kernel⟩
/-- ties of n nodes -/
def TiesOk (n : Nat) (ts : List Tie) : Prop := (∀ t ∈ ts, t.1 < t.2 ∧ t.2 < n) ∧ ts.Nodup ∧ ts.length ≤ 100
def spTies : Sp := fun vs H Q _ => ∃ (n : Nat) (l : Addr) (as : List Addr) (ts : List Tie), vs = [.int n, .ref l] ∧ 1 ≤ n ∧ n ≤ 60 ∧ H l = some (.lst (refs as)) ∧ TiesAt H as ts ∧ TiesOk n ts ∧
  ∀ (H' : Hp) (r : Addr) (bs : List Addr) (us : List Tie), Same H H' → H r = none → H' r = some (.lst (refs bs)) → TiesAt H' bs us → us.Perm ts → Q (.ref r) H'
section
variable {P : Program} {w : World} {K : PySem.W.Frag} {mg : Str → Option Value} {base : Heap}
theorem ok_checked_ties (T : Bl mg) {tk : Tok} (mN : mg "MOST_NODES" = some (.int 60 tk)) (D : Df K mg "checked_ties" (topS 17)) (FW : FnB P w K mg base CX0 1 "is_whole" ["thing"] [] spWhole) (FT : FnB P w K mg base CX0 3 "is_tie" ["size", "thing"] [] spTie) :
    FnB P w K mg base CX0 4 "checked_ties" ["size", "ties"] [] spTies := by
  refine D.ok sc_checked_ties (fun vs H Q E h => ?_) (fun _ _ _ _ _ _ us hl => match us, hl with | [_, _], _ => rfl) (fun f cdv A outer s H vs Q E hr h => ?_)
  · obtain ⟨n, l, as, ts, rfl, _⟩ := h
    rfl
  · obtain ⟨n, l, as, ts, rfl, h1, h60, hl, hT, ⟨hlt, hnd, hlen⟩, q⟩ := h
    refine ⟨_, (pss_cons (ps_if (PW.pt (pw_or (pt_not (pt_val (pe_fn FW (hr.mono (by decide)) pass0 (pa_cons (pv 0) pa_nil)))) (pw_or (pt_not (pt_chain op_le op_le pe_int (pv 0) (pe_glob (v := .int 60) (by rfl) mN ⟨_, rfl⟩))) (pw_or1 (pt_not (pt_val (pe_callB call_isi (by rfl) T.b_isinstance (by decide +kernel) (pa_cons (pv 1) (pa_cons (pe_bltn (v := .ty "list") (u := .type "list") (by rfl) T.b_list (by decide +kernel) rfl) pa_nil))))))))) (pss_one ps_never) pss_nil) (pss_cons (ps_set (i := 2) sc_checked_ties.nd rfl (Or.inl rfl) pe_dnewT) (pss_cons (ps_for PassesOwn.never rfl (pi_enum (by rfl) T.b_enumerate (pa_cons (pv 1) pa_nil)) (pg_tup rfl (pgs_cons (pg_name (i := 3) sc_checked_ties.nd rfl (Or.inl rfl)) (pgs_cons (pg_name (i := 4) sc_checked_ties.nd rfl (Or.inl rfl)) pgs_nil))) (pss_cons (ps_if (PW.pt (pw_or (pt_not (pt_val (pe_fn FT hr pass0 (pa_cons (pv 0) (pa_cons (pv 4) pa_nil))))) (pw_or1 (pt_cmp (pc_din (hu_of hr) (pv 4) (pv 2)) rfl)))) (pss_one ps_never) pss_nil) (pss_one (ps_dput (hu_of hr) (pv 2) (pv 4) pe_bl rfl)))) (pss_one (ps_ret (pe_callB cr_sortedPO (by rfl) T.b_sorted (by decide +kernel) (pa_cons (pe_callTy (call_list_dT rfl) (by rfl) T.b_list (by decide +kernel) (pa_cons (pv 2) pa_nil)) pa_nil))))))), ?_⟩
    refine ⟨_, rfl, (n : Int), rfl, true, rfl, iteF ?_⟩
    refine ⟨_, rfl, _, _, rfl, rfl, _, rfl, ?_⟩
    rw [decide_eq_true (show (1 : Int) ≤ n by omega)]
    refine iteT ⟨_, _, rfl, rfl, ?_⟩
    refine ⟨_, rfl, ?_⟩
    rw [decide_eq_true (show (n : Int) ≤ 60 by omega)]
    refine iteF ?_
    refine ⟨_, rfl, _, _, _, _, true, rfl, .ty "list", .base (.lst hl), kit_ty (by decide +kernel), true, rfl, iteF ?_⟩
    -- found = {}
    intro d nd
    obtain ⟨H1, e1, s1, _, hd, hd0⟩ := new_as (o := .dT []) (Same.refl H) nd
    rw [← e1]
    clear e1
    refine ⟨_, rfl, l, refs as, rfl, SqL.of (s1 _ _ hl), for_enum (K := K) (a := l) (xs := refs as) (fun i σ H2 => ∃ v3 v4, σ = [some (.int n), some (.ref l), some (.ref d), v3, v4] ∧ Same H H2 ∧ H2 d = some (.dT (tieKvs (ts.take i))))
      ⟨none, none, rfl, s1, hd⟩ (fun i σ H2 ⟨_, _, _, s2, _⟩ => SqL.of (s2 _ _ hl)) ?_ ?_⟩
    · rintro i x t σ H2 hx ⟨v3, v4, rfl, s2, hd2⟩ nt
      obtain ⟨a, ha, rfl⟩ := refs_get hx
      obtain ⟨u, hu, hau⟩ := Paired.get hT ha
      obtain ⟨hu1, hu2⟩ := hlt u (List.mem_of_getElem? hu)
      obtain ⟨H3, e3, s3, s23, ht3, _⟩ := new_as (o := .tup [.int (i : Nat), .ref a]) s2 nt
      rw [← e3]
      clear e3
      have ha3 : TieAt H3 a u := s3 _ _ hau
      have hd3 : H3 d = some (.dT (tieKvs (ts.take i))) := s23 _ _ hd2
      refine ⟨t, _, rfl, SqT.of ht3, rfl, _, _, rfl, _, _, rfl, rfl, ?_⟩
      refine ⟨_, rfl, _, rfl, (n : Int), a, u.1, u.2, rfl, ha3, by omega, by omega, by omega, true, rfl, iteF ?_⟩
      refine ⟨_, rfl, _, rfl, d, _, rfl, DGet.t (k := tieKey u) hd3 ha3, _, rfl, ?_⟩
      rw [tieKvs_none (not_mem_take hnd hu)]
      refine iteF ?_
      have hz : (tieKvs (ts.take i)).length < sizeLine := by
        unfold tieKvs
        rw [List.length_map]
        exact line_lt (by rw [List.length_take]; omega)
      refine ⟨_, rfl, _, rfl, d, _, rfl, DPut.t (k := tieKey u) hd3 ha3 hz, ?_⟩
      refine ⟨_, _, rfl, fun b o e => ?_, ?_⟩
      · rw [upd_ne (ne_of_none e hd0)]
        exact s3 _ _ e
      · rw [upd_same, putK_new _ (tieKvs_none (not_mem_take hnd hu)), take_get hu]
        unfold tieKvs
        rw [List.map_append]
        rfl
    · rintro σ H2 ⟨v3, v4, rfl, s2, hd2⟩
      have hl2 : (refs as).length = ts.length := by
        unfold refs
        rw [List.length_map]
        exact Paired.length hT
      rw [hl2, List.take_length] at hd2
      refine ⟨_, rfl, d, _, rfl, .inl hd2, fun p bs np hk => ?_⟩
      obtain ⟨H3, e3, s3, s23, hp3, hp0⟩ := new_as (o := .lst (bs.map V.ref)) s2 np
      rw [← e3]
      clear e3
      have hb := (isKeys_ties hk).same s23
      refine ⟨p, refs bs, tieOf H3, rfl, SqL.of hp3, fun x hx => ?_, fun ys r _ hst nr => ?_⟩
      · obtain ⟨b, hb1, rfl⟩ := List.mem_map.mp hx
        obtain ⟨j, hj⟩ := List.getElem?_of_mem hb1
        obtain ⟨u, _, hu⟩ := Paired.get hb hj
        exact ⟨b, rfl, by rw [tieOf_at hu]; exact hu⟩
      · obtain ⟨cs, us, rfl, hc, hp⟩ := ties_perm hb hst.perm
        obtain ⟨H4, e4, s4, s34, hr4, hr0⟩ := new_as (o := .lst (refs cs)) s3 nr
        rw [← e4]
        exact q H4 r cs us s4 hr0 hr4 (hc.same s34) hp
end
end W
end
section
set_option Elab.async false
set_option linter.all false
set_option maxRecDepth 100000
set_option maxHeartbeats 4000000
namespace W
open PySem PySem.Spec PyProof.Rows L2
open SR (Tie nb nears)
/-! ### methods, properties, classes by their names -/
theorem FnP.ok {P : Program} {w : World} {K : PySem.W.Frag} {mg : Str → Option Value} {base : Heap} {x q : Str} {st : Stmt} {f : Addr} {fd : FuncData} {N ps : List Str} {k : Nat} {sp : Sp} (F : FnP K x q st f fd) (S : FnScope N ps (defScope st)) (len : ∀ vs H Q E, sp vs H Q E → vs.length = ps.length)
    (hbody : ∀ (cdv : Value) (A : Around) (outer : List Env) (s : Shared) (H : Hp) (vs : List V) (Q : VK) (E : XK), Room k (A.deeper (envOfC q (defScope st) s.heap.objs.size f cdv)) → sp vs H Q E →
      ∃ t, PSs (cxOf CX0 P w K mg base N q (defScope st) f cdv A outer s H E).nox (defBody st) t ∧ t { nx := fun _ H' => Q .non H', rt := Q } (start N vs) H) : FnOk P w K mg base CX0 (k + 1) f fd ps sp :=
  FunD.ok F S len fun cdv A outer s H vs Q E hr hsp => by
    obtain ⟨t, h, q⟩ := hbody cdv A outer s H vs Q E hr hsp
    exact ⟨t, h.nox, q⟩
abbrev BindsOk (x q : Str) (st : Stmt) (ps : List Str) : Prop := ∀ (kV doc pm : Value) (an : Option Addr) (cdv ct : Value) (us : List Value), us.length = ps.length →
  bindArgs (PySem.W.fnOf x q (defArgs st) (defBody st) (defScope st) .none kV doc pm an cdv ct) ⟨us, []⟩ = pure (ps.zip us)
structure Dm (K : PySem.W.Frag) (C : Addr) (m q : Str) (st : Stmt) : Prop where
  cl : Cls K C
  ex : ∃ f fd, FnP K m q st f fd ∧ Meth K C m f
structure Di (K : PySem.W.Frag) (mg : Str → Option Value) (x : Str) (C : Addr) (q : Str) (st : Stmt) : Prop where
  ex : ∃ f fd, FnP K "__init__" q st f fd ∧ Mk K C f ∧ mg x = some (.ref C)
structure Dp (K : PySem.W.Frag) (C : Addr) (m q : Str) (st : Stmt) : Prop where
  cl : Cls K C
  ex : ∃ p f fd, FnP K m q st f fd ∧ PropOf K C m p f
section
variable (P : Program) (w : World) (K : PySem.W.Frag) (mg : Str → Option Value) (base : Heap)
structure PrB (CX : CXT) (k : Nat) (C : Addr) (m : Str) (sp : Sp) : Prop where
  cl : Cls K C
  ex : ∃ (p f : Addr) (fd : FuncData), FnOk P w K mg base CX k f fd ["self"] sp ∧ PropOf K C m p f ∧ Binds K fd ["self"] []
end
theorem pe_pr {X : Cx} {CX : CXT} {k : Nat} {C : Addr} {m : Str} {sp : Sp} {E : XK} {pos : Pos} {o : Expr} {ta : TE} (he : PE X o ta) (F : PrB X.prog X.w X.K X.mg X.base CX k C m sp) (hr : Room (k + 1) X.A) (hx : Passes CX X.nox E)
    (hab : attributeBase o m X.env (eval o X.env) = eval o X.env) : PE X (.Attribute o m pos) (tProp C sp [] E ta) := by
  obtain ⟨p, f, fd, F', hp, hb⟩ := F.ex
  exact pe_prop he F.cl hp F' hr hb .nil hx hab
section
variable {P : Program} {w : World} {K : PySem.W.Frag} {mg : Str → Option Value} {base : Heap} {x m q : Str} {C : Addr} {st : Stmt} {N ps : List Str} {k : Nat} {sp : Sp}
theorem Dm.ok (D : Dm K C m q st) (S : FnScope N ps (defScope st)) (len : ∀ vs H Q E, sp vs H Q E → vs.length = ps.length) (hbind : BindsOk m q st ps)
    (hbody : ∀ (f : Addr) (cdv : Value) (A : Around) (outer : List Env) (s : Shared) (H : Hp) (vs : List V) (Q : VK) (E : XK), Room k (A.deeper (envOfC q (defScope st) s.heap.objs.size f cdv)) → sp vs H Q E →
      ∃ t, PSs (cxOf CX0 P w K mg base N q (defScope st) f cdv A outer s H E).nox (defBody st) t ∧ t { nx := fun _ H' => Q .non H', rt := Q } (start N vs) H) : MeB P w K mg base CX0 (k + 1) C m ps sp := by
  obtain ⟨f, fd, F, hm⟩ := D.ex
  exact ⟨D.cl, f, fd, FnP.ok F S len (hbody f), hm, F.bindsN hbind⟩
theorem Di.ok (D : Di K mg x C q st) (S : FnScope N ps (defScope st)) (len : ∀ vs H Q E, sp vs H Q E → vs.length = ps.length) (hbind : BindsOk "__init__" q st ps)
    (hbody : ∀ (f : Addr) (cdv : Value) (A : Around) (outer : List Env) (s : Shared) (H : Hp) (vs : List V) (Q : VK) (E : XK), Room k (A.deeper (envOfC q (defScope st) s.heap.objs.size f cdv)) → sp vs H Q E →
      ∃ t, PSs (cxOf CX0 P w K mg base N q (defScope st) f cdv A outer s H E).nox (defBody st) t ∧ t { nx := fun _ H' => Q .non H', rt := Q } (start N vs) H) : MkB P w K mg base CX0 (k + 1) x C ps sp := by
  obtain ⟨f, fd, F, hm, hg⟩ := D.ex
  exact ⟨f, fd, hm, FnP.ok F S len (hbody f), hg, F.bindsN hbind⟩
theorem Dp.ok (D : Dp K C m q st) (S : FnScope N ["self"] (defScope st)) (len : ∀ vs H Q E, sp vs H Q E → vs.length = 1) (hbind : BindsOk m q st ["self"])
    (hbody : ∀ (f : Addr) (cdv : Value) (A : Around) (outer : List Env) (s : Shared) (H : Hp) (vs : List V) (Q : VK) (E : XK), Room k (A.deeper (envOfC q (defScope st) s.heap.objs.size f cdv)) → sp vs H Q E →
      ∃ t, PSs (cxOf CX0 P w K mg base N q (defScope st) f cdv A outer s H E).nox (defBody st) t ∧ t { nx := fun _ H' => Q .non H', rt := Q } (start N vs) H) : PrB P w K mg base CX0 (k + 1) C m sp := by
  obtain ⟨p, f, fd, F, hm⟩ := D.ex
  exact ⟨D.cl, p, f, fd, FnP.ok F S len (hbody f), hm, F.bindsN hbind⟩
end

/-! ### orders looked at -/
abbrev N_begun_order : List Str := ["size", "visited", "found", "index", "thing"]
theorem sc_begun_order : FnScope N_begun_order ["size", "visited"] (defScope (topS 18)) := ⟨rfl, rfl, rfl, by decide +kernel, rfl, by decide +kernel, by decide +kernel⟩
abbrev N_checked_order : List Str := ["graph", "order", "found"]
theorem sc_checked_order : FnScope N_checked_order ["graph", "order"] (defScope (topS 19)) := ⟨rfl, rfl, rfl, by decide +kernel, rfl, by decide +kernel, by decide +kernel⟩
abbrev N_Graph_size : List Str := ["self"]
theorem sc_Graph_size : FnScope N_Graph_size ["self"] (defScope (inClass (topS 20) 1)) := ⟨rfl, rfl, rfl, by decide +kernel, rfl, by decide +kernel, by decide +kernel⟩
abbrev N_Graph___init__ : List Str := ["self", "size", "ties", "node", "one", "other"]
theorem sc_Graph___init__ : FnScope N_Graph___init__ ["self", "size", "ties"] (defScope (inClass (topS 20) 0)) := ⟨rfl, rfl, rfl, by decide +kernel, rfl, by decide +kernel, by decide +kernel⟩
def natKvs (o : List Nat) : List (Key × V) := o.map fun v : Nat => (Sum.inl (v : Int), .bl true)
theorem natKvs_none : ∀ {o : List Nat} {v : Nat}, v ∉ o → valV (natKvs o) (Sum.inl (v : Int)) = none
  | [], _, _ => valV_nil
  | u :: o, v, h => by
    show valV ((Sum.inl (u : Int), V.bl true) :: natKvs o) (Sum.inl (v : Int)) = none
    rw [valV_neg (p := ((Sum.inl (u : Int) : Key), V.bl true)) fun e => h (by
      have e1 : (Sum.inl (u : Int) : Key) = Sum.inl (v : Int) := e
      rw [Int.ofNat.inj (Sum.inl.inj e1)]
      exact List.mem_cons_self)]
    exact natKvs_none fun q => h (List.mem_cons_of_mem _ q)
def spBegun : Sp := fun vs H Q _ => ∃ (n : Nat) (l : Addr) (o : List Nat), vs = [.int n, .ref l] ∧ H l = some (.lst (nl o)) ∧ o.Nodup ∧ (∀ v ∈ o, v < n) ∧ o.length ≤ 100 ∧
  ∀ (H' : Hp) (r : Addr), Same H H' → H r = none → H' r = some (.lst (nl o)) → Q (.ref r) H'
/-! ### a graph in the heap -/
def gf (tl nr : Addr) : List (Str × V) := [("tie_list", .ref tl), ("near", .ref nr)]
theorem gf_near {tl nr : Addr} : (gf tl nr).lookup ("near" : Str) = some (.ref nr) := by rfl
def ListsAt (H : Hp) (as : List Addr) (ls : List (List Nat)) : Prop := Paired (fun a l => H a = some (.lst (nl l))) as ls
theorem ListsAt.same {H H' : Hp} (s : Same H H') {as : List Addr} {ls : List (List Nat)} (h : ListsAt H as ls) : ListsAt H' as ls := Paired.imp (fun _ _ e => s _ _ e) h
/-- an instance of the class at C: the neighbours -/
def GraphAt (C : Addr) (H : Hp) (g : Addr) (near : List (List Nat)) : Prop :=
  ∃ (dx tl nr : Addr) (as : List Addr), H g = some (.ins C dx (gf tl nr)) ∧ H nr = some (.lst (refs as)) ∧ ListsAt H as near
theorem GraphAt.same {C : Addr} {H H' : Hp} (s : Same H H') {g : Addr} {near : List (List Nat)} (h : GraphAt C H g near) : GraphAt C H' g near := by
  obtain ⟨dx, tl, nr, as, h1, h2, h3⟩ := h
  exact ⟨dx, tl, nr, as, s _ _ h1, s _ _ h2, h3.same s⟩
/-- a graph whose lists of neighbours are newer than H0 -/
def GraphNew (C : Addr) (H0 H : Hp) (g : Addr) (near : List (List Nat)) : Prop :=
  ∃ (dx tl nr : Addr) (as : List Addr), H g = some (.ins C dx (gf tl nr)) ∧ H nr = some (.lst (refs as)) ∧ ListsAt H as near ∧ ∀ b ∈ as, H0 b = none
theorem GraphNew.at {C : Addr} {H0 H : Hp} {g : Addr} {near : List (List Nat)} (h : GraphNew C H0 H g near) : GraphAt C H g near := by
  obtain ⟨dx, tl, nr, as, h1, h2, h3, _⟩ := h
  exact ⟨dx, tl, nr, as, h1, h2, h3⟩
/-- .. whose lists of neighbours are not the list at a -/
def GraphOff (C a : Addr) (H : Hp) (g : Addr) (near : List (List Nat)) : Prop :=
  ∃ (dx tl nr : Addr) (as : List Addr), H g = some (.ins C dx (gf tl nr)) ∧ H nr = some (.lst (refs as)) ∧ ListsAt H as near ∧ a ∉ as
theorem GraphOff.at {C a : Addr} {H : Hp} {g : Addr} {near : List (List Nat)} (h : GraphOff C a H g near) : GraphAt C H g near := by
  obtain ⟨dx, tl, nr, as, h1, h2, h3, _⟩ := h
  exact ⟨dx, tl, nr, as, h1, h2, h3⟩
theorem GraphNew.off {C : Addr} {H0 H : Hp} {g : Addr} {near : List (List Nat)} (h : GraphNew C H0 H g near) {a : Addr} {o : HO} (e : H0 a = some o) : GraphOff C a H g near := by
  obtain ⟨dx, tl, nr, as, h1, h2, h3, h4⟩ := h
  exact ⟨dx, tl, nr, as, h1, h2, h3, fun m => by rw [h4 a m] at e; cases e⟩
theorem GraphOff.same {C a : Addr} {H H' : Hp} {g : Addr} {near : List (List Nat)} (s : Same H H') (h : GraphOff C a H g near) : GraphOff C a H' g near := by
  obtain ⟨dx, tl, nr, as, h1, h2, h3, h4⟩ := h
  exact ⟨dx, tl, nr, as, s _ _ h1, s _ _ h2, h3.same s, h4⟩
theorem GraphOff.x {C a : Addr} {H H' : Hp} {g : Addr} {near : List (List Nat)} (s : SameX a H H') {i : Int} {l : List V} (e : H a = some (.lst (.int i :: l))) (h : GraphOff C a H g near) : GraphOff C a H' g near := by
  obtain ⟨dx, tl, nr, as, h1, h2, h3, h4⟩ := h
  refine ⟨dx, tl, nr, as, s _ _ (ne_of h1 e (fun z => nomatch z)) h1, s _ _ (ne_of h2 e (fun z => ?_)) h2, ?_, h4⟩
  · cases as with
    | nil => cases z
    | cons b as => cases z
  · clear h2
    induction h3 with
    | nil => exact .nil
    | cons r _ ih =>
      rw [List.mem_cons, not_or] at h4
      exact .cons (s _ _ (fun z => h4.1 z.symm) r) (ih h4.2)
theorem refs_length (as : List Addr) : (refs as).length = as.length := by unfold refs; rw [List.length_map]
/-- the class -/
structure GraphC (K : PySem.W.Frag) (C : Addr) : Prop where
  cl : Cls K C
  nT : NoAttr K C "tie_list"
  nN : NoAttr K C "near"
def spSize (C : Addr) : Sp := fun vs H Q _ => ∃ (g : Addr) (near : List (List Nat)), vs = [.ref g] ∧ GraphAt C H g near ∧ Q (.int near.length) H
def spChecked (C : Addr) : Sp := fun vs H Q _ => ∃ (g l : Addr) (near : List (List Nat)) (o : List Nat), vs = [.ref g, .ref l] ∧ GraphAt C H g near ∧ H l = some (.lst (nl o)) ∧ o.Perm (List.range near.length) ∧ near.length ≤ 60 ∧
  ∀ (H' : Hp) (r : Addr), Same H H' → H r = none → H' r = some (.lst (nl o)) → Q (.ref r) H'
/-- Graph(n, ties): nobody else is touched, the neighbours are those of some arrangement of the ties -/
def spGraph (C : Addr) : Sp := fun vs H Q _ => ∃ (x dx : Addr) (n : Nat) (l : Addr) (as : List Addr) (ts : List Tie), vs = [.ref x, .int n, .ref l] ∧ H x = some (.ins C dx []) ∧ H dx = some (.own x) ∧ 1 ≤ n ∧ n ≤ 60 ∧ H l = some (.lst (refs as)) ∧ TiesAt H as ts ∧ TiesOk n ts ∧
  ∀ (H' : Hp) (us : List Tie), SameX x H H' → us.Perm ts → GraphNew C H H' x (nears n us) → Q .non H'
section
variable {P : Program} {w : World} {K : PySem.W.Frag} {mg : Str → Option Value} {base : Heap} {C : Addr}
theorem ok_begun_order (T : Bl mg) (D : Df K mg "begun_order" (topS 18)) (FN : FnB P w K mg base CX0 2 "is_node" ["size", "thing"] [] spNode) :
    FnB P w K mg base CX0 3 "begun_order" ["size", "visited"] [] spBegun := by
  refine D.ok sc_begun_order (fun vs H Q E h => ?_) (fun _ _ _ _ _ _ us hl => match us, hl with | [_, _], _ => rfl) (fun f cdv A outer s H vs Q E hr h => ?_)
  · obtain ⟨n, l, o, rfl, _⟩ := h
    rfl
  · obtain ⟨n, l, o, rfl, hl, hnd, hlt, hlen, q⟩ := h
    refine ⟨_, (pss_cons (ps_if (pt_not (pt_val (pe_callB call_isi (by rfl) T.b_isinstance (by decide +kernel) (pa_cons (pv 1) (pa_cons (pe_bltn (v := .ty "list") (u := .type "list") (by rfl) T.b_list (by decide +kernel) rfl) pa_nil))))) (pss_one ps_never) pss_nil) (pss_cons (ps_set (i := 2) sc_begun_order.nd rfl (Or.inl rfl) pe_dnewK) (pss_cons (ps_for PassesOwn.never rfl (pi_enum (by rfl) T.b_enumerate (pa_cons (pv 1) pa_nil)) (pg_tup rfl (pgs_cons (pg_name (i := 3) sc_begun_order.nd rfl (Or.inl rfl)) (pgs_cons (pg_name (i := 4) sc_begun_order.nd rfl (Or.inl rfl)) pgs_nil))) (pss_cons (ps_if (PW.pt (pw_or (pt_not (pt_val (pe_fn FN hr pass0 (pa_cons (pv 0) (pa_cons (pv 4) pa_nil))))) (pw_or1 (pt_cmp (pc_din (hu_of hr) (pv 4) (pv 2)) rfl)))) (pss_one ps_never) pss_nil) (pss_one (ps_dput (hu_of hr) (pv 2) (pv 4) pe_bl rfl)))) (pss_one (ps_ret (pe_callTy (call_list_dK rfl) (by rfl) T.b_list (by decide +kernel) (pa_cons (pv 2) pa_nil))))))), ?_⟩
    refine ⟨_, rfl, _, _, _, _, true, rfl, .ty "list", .base (.lst hl), kit_ty (by decide +kernel), true, rfl, iteF ?_⟩
    intro d nd
    obtain ⟨H1, e1, s1, _, hd, hd0⟩ := new_as (o := .dK []) (Same.refl H) nd
    rw [← e1]
    clear e1
    refine ⟨_, rfl, l, nl o, rfl, SqL.of (s1 _ _ hl), for_enum (K := K) (a := l) (xs := nl o) (fun i σ H2 => ∃ v3 v4, σ = [some (.int n), some (.ref l), some (.ref d), v3, v4] ∧ Same H H2 ∧ H2 d = some (.dK (natKvs (o.take i))))
      ⟨none, none, rfl, s1, hd⟩ (fun i σ H2 ⟨_, _, _, s2, _⟩ => SqL.of (s2 _ _ hl)) ?_ ?_⟩
    · rintro i x t σ H2 hx ⟨v3, v4, rfl, s2, hd2⟩ nt
      obtain ⟨v, hv, rfl⟩ := nl_get hx
      have hvn := hlt v (List.mem_of_getElem? hv)
      obtain ⟨H3, e3, s3, s23, ht3, _⟩ := new_as (o := .tup [.int (i : Nat), .int (v : Int)]) s2 nt
      rw [← e3]
      clear e3
      have hd3 : H3 d = some (.dK (natKvs (o.take i))) := s23 _ _ hd2
      refine ⟨t, _, rfl, SqT.of ht3, rfl, _, _, rfl, _, _, rfl, rfl, ?_⟩
      refine ⟨_, rfl, _, rfl, (n : Int), (v : Int), rfl, ?_⟩
      rw [decide_eq_true (show (0 : Int) ≤ v by omega), decide_eq_true (show (v : Int) < n by omega)]
      refine ⟨true, rfl, iteF ?_⟩
      refine ⟨_, rfl, _, rfl, d, _, rfl, DGet.k (k := Sum.inl (v : Int)) hd3, _, rfl, ?_⟩
      rw [natKvs_none (not_mem_take hnd hv)]
      refine iteF ?_
      have hz : (natKvs (o.take i)).length < sizeLine := by
        unfold natKvs
        rw [List.length_map]
        exact line_lt (by rw [List.length_take]; omega)
      refine ⟨_, rfl, _, rfl, d, _, rfl, DPut.k (k := Sum.inl (v : Int)) hd3 hz, ?_⟩
      refine ⟨_, _, rfl, fun b o e => ?_, ?_⟩
      · rw [upd_ne (ne_of_none e hd0)]
        exact s3 _ _ e
      · rw [upd_same, putK_new _ (natKvs_none (not_mem_take hnd hv)), take_get hv]
        unfold natKvs
        rw [List.map_append]
        rfl
    · rintro σ H2 ⟨v3, v4, rfl, s2, hd2⟩
      rw [nl_length, List.take_length] at hd2
      refine ⟨_, rfl, d, _, rfl, hd2, fun p np => ?_⟩
      have ek : (natKvs o).map (fun kv => kV kv.1) = nl o := by
        unfold natKvs nl
        rw [List.map_map]
        rfl
      rw [ek]
      obtain ⟨H3, e3, s3, s23, hp3, hp0⟩ := new_as (o := .lst (nl o)) s2 np
      rw [← e3]
      exact q H3 p s3 hp0 hp3
theorem ok_size (T : Bl mg) (G : GraphC K C) (D : Dp K C "size" "Graph.size" (inClass (topS 20) 1)) : PrB P w K mg base CX0 1 C "size" (spSize C) := by
  refine D.ok sc_Graph_size (fun vs H Q E h => ?_) (fun _ _ _ _ _ _ us hl => match us, hl with | [_], _ => rfl) (fun f cdv A outer s H vs Q E hr h => ?_)
  · obtain ⟨g, near, rfl, _⟩ := h
    rfl
  · obtain ⟨g, near, rfl, ⟨dx, tl, nr, as, hg, hn, hls⟩, q⟩ := h
    refine ⟨_, (pss_one (ps_ret (pe_callB call_len_seq (by rfl) T.b_len PySem.boot_len (pa_cons (pe_fld (pv 0) rfl) pa_nil)))), ?_⟩
    refine ⟨_, rfl, g, C, dx, _, _, rfl, hg, G.cl, G.nN, gf_near, nr, _, rfl, .inl (SqL.of hn), ?_⟩
    rw [refs_length, Paired.length hls]
    exact q
theorem ok_checked_order (T : Bl mg) (D : Df K mg "checked_order" (topS 19)) (FB : FnB P w K mg base CX0 3 "begun_order" ["size", "visited"] [] spBegun) (FS : PrB P w K mg base CX0 1 C "size" (spSize C)) :
    FnB P w K mg base CX0 4 "checked_order" ["graph", "order"] [] (spChecked C) := by
  refine D.ok sc_checked_order (fun vs H Q E h => ?_) (fun _ _ _ _ _ _ us hl => match us, hl with | [_, _], _ => rfl) (fun f cdv A outer s H vs Q E hr h => ?_)
  · obtain ⟨g, l, near, o, rfl, _⟩ := h
    rfl
  · obtain ⟨g, l, near, o, rfl, hg, hl, hp, h60, q⟩ := h
    refine ⟨_, (pss_cons (ps_set (i := 2) sc_checked_order.nd rfl (Or.inl rfl) (pe_fn FB (hr.mono (by decide)) pass0 (pa_cons (pe_pr (pv 0) FS (hr.mono (by decide)) pass0 rfl) (pa_cons (pv 1) pa_nil)))) (pss_cons (ps_if (pt_cmpR op_lt (pe_callB call_len_seq (by rfl) T.b_len PySem.boot_len (pa_cons (pv 2) pa_nil)) (pe_pr (pv 0) FS (hr.mono (by decide)) pass0 rfl) (nomark _)) (pss_one ps_never) pss_nil) (pss_one (ps_ret (pv 2))))), ?_⟩
    obtain ⟨dx, tl, nr, as, hg1, _⟩ := id hg
    have hol : o.length = near.length := by rw [hp.length_eq, List.length_range]
    refine ⟨_, rfl, g, dx, _, rfl, hg1, g, near, rfl, hg, _, rfl, near.length, l, o, rfl, hl, hp.nodup_iff.mpr List.nodup_range, fun v hv => List.mem_range.mp (hp.mem_iff.mp hv), by omega, fun H1 r s1 hr0 hr1 => ?_⟩
    refine ⟨_, rfl, r, _, rfl, .inl (SqL.of hr1), _, rfl, g, dx, _, rfl, s1 _ _ hg1, g, near, rfl, hg.same s1, _, _, rfl, rfl, _, rfl, ?_⟩
    rw [nl_length, hol, decide_eq_false (Int.lt_irrefl _)]
    refine iteF ⟨_, rfl, ?_⟩
    exact q H1 r s1 hr0 hr1
theorem tl_near : ¬ (("tie_list" : Str) = "near") := by decide +kernel
theorem putF_near {tl nr : Addr} : putF "near" (.ref nr) (putF "tie_list" (.ref tl) []) = gf tl nr := by
  show (if ("tie_list" : Str) = "near" then [(("tie_list" : Str), V.ref nr)] else (("tie_list" : Str), V.ref tl) :: putF "near" (V.ref nr) []) = gf tl nr
  rw [if_neg tl_near]
  rfl
theorem gf_tl {tl nr : Addr} : (gf tl nr).lookup ("tie_list" : Str) = some (.ref tl) := by rfl
theorem lists_set {H : Hp} {l : List Nat} : ∀ {as : List Addr} {ls : List (List Nat)} {j : Nat} {a : Addr}, ListsAt H as ls → as.Nodup → as[j]? = some a → ListsAt (upd H a (.lst (nl l))) as (ls.set j l)
  | [], _, _, _, _, _, h => by simp at h
  | b :: as, _, 0, a, hL, hn, h => by
    cases hL with
    | cons h1 h2 =>
      have e : b = a := Option.some.inj h
      subst e
      rw [List.nodup_cons] at hn
      refine .cons upd_same ?_
      have out : ∀ {cs : List Addr} {ms : List (List Nat)}, b ∉ cs → ListsAt H cs ms → ListsAt (upd H b (.lst (nl l))) cs ms := by
        intro cs ms hb hm
        induction hm with
        | nil => exact .nil
        | cons r _ ih =>
          rw [List.mem_cons, not_or] at hb
          exact .cons (by rw [upd_ne (Ne.symm hb.1)]; exact r) (ih hb.2)
      exact out hn.1 h2
  | b :: as, _, j + 1, a, hL, hn, h => by
    cases hL with
    | cons h1 h2 =>
      rw [List.nodup_cons] at hn
      have h' : as[j]? = some a := by simpa using h
      have ne : b ≠ a := fun e => hn.1 (e ▸ List.mem_of_getElem? h')
      exact .cons (by rw [upd_ne ne]; exact h1) (lists_set h2 hn.2 h')
theorem nears_at {n : Nat} {E : List Tie} {v : Nat} (h : v < n) : (nears n E)[v]? = some (nb E v) := by
  unfold nears
  rw [List.getElem?_map, List.getElem?_range h]
  rfl
theorem nears_length {n : Nat} {E : List Tie} : (nears n E).length = n := by
  unfold nears
  rw [List.length_map, List.length_range]
theorem nb_snoc (E : List Tie) (t : Tie) (v : Nat) : nb (E ++ [t]) v = nb E v ++ (if t.1 = v then [t.2] else if t.2 = v then [t.1] else []) := by
  unfold nb
  rw [List.filterMap_append]
  congr 1
  rw [List.filterMap_cons, List.filterMap_nil]
  unfold SR.part
  by_cases e : t.1 = v
  · simp [e]
  · by_cases e2 : t.2 = v
    · simp [e, e2]
    · simp [e, e2]
theorem nears_step {n : Nat} {E : List Tie} {t : Tie} (h1 : t.1 < n) (h2 : t.2 < n) (ne : t.1 ≠ t.2) : ((nears n E).set t.1 (nb E t.1 ++ [t.2])).set t.2 (nb E t.2 ++ [t.1]) = nears n (E ++ [t]) := by
  apply List.ext_getElem?
  intro v
  by_cases hv : v < n
  · rw [nears_at hv, nb_snoc]
    by_cases e2 : t.2 = v
    · subst e2
      rw [List.getElem?_set_self (by rw [List.length_set, nears_length]; exact hv), if_neg ne, if_pos rfl]
    · rw [List.getElem?_set_ne e2]
      by_cases e1 : t.1 = v
      · subst e1
        rw [List.getElem?_set_self (by rw [nears_length]; exact hv), if_pos rfl]
      · rw [List.getElem?_set_ne e1, nears_at hv, if_neg e1, if_neg e2, List.append_nil]
  · rw [List.getElem?_eq_none (by rw [List.length_set, List.length_set, nears_length]; omega), List.getElem?_eq_none (by rw [nears_length]; omega)]
theorem nears_nil (n : Nat) : nears n [] = List.replicate n [] := by
  unfold nears nb
  rw [List.eq_replicate_iff]
  refine ⟨by rw [List.length_map, List.length_range], fun b hb => ?_⟩
  obtain ⟨v, _, rfl⟩ := List.mem_map.mp hb
  rfl
theorem paired_snoc {α β : Type} {R : α → β → Prop} {x : α} {y : β} (r : R x y) : ∀ {l : List α} {m : List β}, Paired R l m → Paired R (l ++ [x]) (m ++ [y])
  | _, _, .nil => .cons r .nil
  | _, _, .cons a t => .cons a (paired_snoc r t)
theorem ok_Graph (T : Bl mg) (G : GraphC K C) (D : Di K mg "Graph" C "Graph.__init__" (inClass (topS 20) 0)) (FT : FnB P w K mg base CX0 4 "checked_ties" ["size", "ties"] [] spTies) :
    MkB P w K mg base CX0 5 "Graph" C ["self", "size", "ties"] (spGraph C) := by
  refine D.ok sc_Graph___init__ (fun vs H Q E h => ?_) (fun _ _ _ _ _ _ us hl => match us, hl with | [_, _, _], _ => rfl) (fun f cdv A outer s H vs Q E hr h => ?_)
  · obtain ⟨x, dx, n, l, as, ts, rfl, _⟩ := h
    rfl
  · obtain ⟨x, dx, n, l, ps, ts, rfl, hx, hdx, h1, h60, hl, hT, hok, q⟩ := h
    obtain ⟨hlt, hnd, hlen⟩ := id hok
    refine ⟨_, (pss_cons (ps_fld (pv 0) (pe_fn FT hr pass0 (pa_cons (pv 1) (pa_cons (pv 2) pa_nil))) rfl) (pss_cons (ps_fld (pv 0) (pe_lc (own := [("node", 3)]) rfl sc_Graph___init__.nd (pi_range1 (by rfl) T.b_range (pa_cons (pv 1) pa_nil)) (blkOk_by (own := [("node", 3)]) (N := N_Graph___init__) (sc := defScope (inClass (topS 20) 0)) (by decide +kernel)) (fun _ _ _ _ _ => (pg_name (i := 3) sc_Graph___init__.nd rfl (Or.inl rfl))) (fun _ _ _ _ _ => pts_nil) (fun _ _ _ _ _ => (pe_lst pa_nil))) rfl) (pss_one (ps_for PassesOwn.never rfl (pi_list (pe_fld (pv 0) rfl)) (pg_tup rfl (pgs_cons (pg_name (i := 4) sc_Graph___init__.nd rfl (Or.inl rfl)) (pgs_cons (pg_name (i := 5) sc_Graph___init__.nd rfl (Or.inl rfl)) pgs_nil))) (pss_cons (ps_expr (pe_bm PySem.F.plainAttrs_list PySem.F.slot_list_append PySem.F.type_list_append mt_append (pe_ix ix_list (pe_fld (pv 0) rfl) (pv 4) (fun _ _ => rfl)) (pa_cons (pv 5) pa_nil))) (pss_one (ps_expr (pe_bm PySem.F.plainAttrs_list PySem.F.slot_list_append PySem.F.type_list_append mt_append (pe_ix ix_list (pe_fld (pv 0) rfl) (pv 5) (fun _ _ => rfl)) (pa_cons (pv 4) pa_nil))))))))), ?_⟩
    -- self.tie_list = checked_ties(size, ties)
    refine ⟨_, rfl, _, rfl, n, l, ps, ts, rfl, h1, h60, hl, hT, hok, fun H1 tl bs us s1 tl0 htl hB hp => ?_⟩
    have hx1 := s1 _ _ hx
    refine ⟨_, rfl, x, C, dx, [], rfl, hx1, G.cl, G.nT, by show 0 < 1000; decide, ?_⟩
    have ntx : tl ≠ x := fun e => by rw [e, hx] at tl0; cases tl0
    obtain ⟨H2, e2, hx2, s2⟩ : ∃ H2, H2 = upd H1 x (.ins C dx (putF "tie_list" (.ref tl) [])) ∧ H2 x = some (.ins C dx (putF "tie_list" (.ref tl) [])) ∧ SameX x H1 H2 := ⟨_, rfl, upd_same, fun b o n e => by rw [upd_ne n]; exact e⟩
    rw [← e2]
    clear e2
    have hlt' : ∀ t ∈ us, t.1 < t.2 ∧ t.2 < n := fun t ht => hlt t (hp.mem_iff.mp ht)
    -- self.near = [[] for node in range(size)]
    refine ⟨_, rfl, (n : Int), rfl, by omega, by omega, ?_⟩
    intro D nD
    obtain ⟨H3, e3, s3, _, hD3, _⟩ := new_as (o := .lst []) (Same.refl H2) nD
    refine lc_range (lo := 0) (n := ((n : Nat) : Int).toNat) (H1 := H2) (D := D) (fun i H4 => ∃ as : List Addr, as.length = i ∧ as.Nodup ∧ (∀ a ∈ as, H2 a = none ∧ a ≠ D) ∧ Same H2 H4 ∧ H4 D = some (.lst (refs as)) ∧ ListsAt H4 as (List.replicate i [])) ?_ ?_ ?_
    · rw [← e3]
      exact ⟨[], rfl, List.nodup_nil, fun a h => (by cases h), s3, hD3, .nil⟩
    · rintro i H4 hi ⟨as, hal, hand, hout, s4, hD4, hL4⟩
      refine ⟨rfl, ?_⟩
      refine ⟨Nat.zero_le _, fun a na => ?_⟩
      obtain ⟨H5, e5, s5, s45, ha5, ha2⟩ := new_as (o := .lst []) s4 na
      rw [← e5]
      clear e5
      have nDa : a ≠ D := fun e => by rw [e, hD4] at na; cases na
      refine ⟨refs as, s45 _ _ hD4, by rw [refs_length, hal]; exact line_lt (by omega), ?_⟩
      refine ⟨as ++ [a], by rw [List.length_append, hal]; rfl, ?_, fun b hb => ?_, fun b o e => ?_, ?_, ?_⟩
      · rw [List.nodup_append]
        refine ⟨hand, by simp, fun b hb c hc e => ?_⟩
        rw [List.mem_singleton.mp hc] at e
        subst e
        obtain ⟨j, hj⟩ := List.getElem?_of_mem hb
        obtain ⟨_, _, hz⟩ := Paired.get hL4 hj
        rw [na] at hz
        cases hz
      · rcases List.mem_append.mp hb with hb | hb
        · exact hout b hb
        · rw [List.mem_singleton.mp hb]
          exact ⟨ha2, nDa⟩
      · rw [upd_ne (ne_of_none e nD)]
        exact s5 _ _ e
      · rw [upd_same]
        unfold refs
        rw [List.map_append]
        rfl
      · rw [List.replicate_succ']
        refine paired_snoc (by rw [upd_ne nDa]; exact ha5) ?_
        have : ∀ {cs : List Addr} {ms : List (List Nat)}, (∀ a ∈ cs, a ≠ D) → ListsAt H4 cs ms → ListsAt (upd H5 D (.lst (refs as ++ [V.ref a]))) cs ms := by
          intro cs ms hc hm
          induction hm with
          | nil => exact .nil
          | cons r _ ih => exact .cons (by rw [upd_ne (hc _ List.mem_cons_self)]; exact s45 _ _ r) (ih fun a ha => hc a (List.mem_cons_of_mem _ ha))
        exact this (fun a ha => (hout a ha).2) hL4
    · rintro H4 ⟨as, hal, hand, hout, s4, hD4, hL4⟩
      have hal : as.length = n := hal
      refine ⟨_, rfl, x, C, dx, _, rfl, s4 _ _ hx2, G.cl, G.nN, by show 1 < 1000; decide, ?_⟩
      rw [putF_near]
      obtain ⟨H5, e5, hx5, s5⟩ : ∃ H5, H5 = upd H4 x (.ins C dx (gf tl D)) ∧ H5 x = some (.ins C dx (gf tl D)) ∧ SameX x H4 H5 := ⟨_, rfl, upd_same, fun b o n e => by rw [upd_ne n]; exact e⟩
      rw [← e5]
      clear e5
      have nDx : D ≠ x := fun e => by rw [e, hx2] at nD; cases nD
      have htl5 : H5 tl = some (.lst (refs bs)) := s5 _ _ ntx (s4 _ _ (s2 _ _ ntx htl))
      have sx : SameX x H H5 := fun b o n e => s5 _ _ n (s4 _ _ (s2 _ _ n (s1 _ _ e)))
      have nx : ∀ a ∈ as, a ≠ x := fun a ha e => by
        have := (hout a ha).1
        rw [e, hx2] at this
        cases this
      have ntl : ∀ a ∈ as, a ≠ tl := fun a ha e => by
        have := (hout a ha).1
        rw [e, s2 _ _ ntx htl] at this
        cases this
      have hfree : ∀ a ∈ as, H a = none := fun a ha => by
        cases z : H a with
        | none => rfl
        | some o =>
          have := s2 _ _ (nx a ha) (s1 _ _ z)
          rw [(hout a ha).1] at this
          cases this
      have hL5 : ListsAt H5 as (List.replicate n []) := by
        have hL4' : ListsAt H4 as (List.replicate n []) := hL4
        have : ∀ {cs : List Addr} {ms : List (List Nat)}, (∀ a ∈ cs, a ≠ x) → ListsAt H4 cs ms → ListsAt H5 cs ms := by
          intro cs ms hc hm
          induction hm with
          | nil => exact .nil
          | cons r _ ih => exact .cons (s5 _ _ (hc _ List.mem_cons_self) r) (ih fun a ha => hc a (List.mem_cons_of_mem _ ha))
        exact this nx hL4'
      have hB5 : TiesAt H5 bs us := by
        refine Paired.imp (fun a t e => ?_) hB
        have e' : H1 a = some (.tup [.int (t.1 : Int), .int (t.2 : Int)]) := e
        have na : a ≠ x := ne_of e' hx1 (by intro z; cases z)
        exact s5 _ _ na (s4 _ _ (s2 _ _ na e'))
      -- the ties, one by one
      refine ⟨_, rfl, x, C, dx, _, _, rfl, hx5, G.cl, G.nT, gf_tl, tl, rfl, ⟨_, SqL.of htl5⟩, for_list (K := K) (a := tl) (xs := refs bs) (fun i σ H6 => ∃ v3 v4 v5, σ = [some (.ref x), some (.int n), some (.ref l), v3, v4, v5] ∧ SameX x H H6 ∧ H6 x = some (.ins C dx (gf tl D)) ∧
          H6 tl = some (.lst (refs bs)) ∧ H6 D = some (.lst (refs as)) ∧ TiesAt H6 bs us ∧ ListsAt H6 as (nears n (us.take i))) ⟨_, _, _, rfl, sx, hx5, htl5, s5 _ _ nDx hD4, hB5, by rw [List.take_zero, nears_nil]; exact hL5⟩
        (fun i σ H6 _ ⟨_, _, _, _, _, _, h6, _⟩ => SqL.of h6) ?_ ?_⟩
      · rintro i y σ H6 hy ⟨v3, v4, v5, rfl, sx6, hx6, htl6, hD6, hB6, hL6⟩
        obtain ⟨b, hb, rfl⟩ := refs_get hy
        obtain ⟨t, ht, hbt⟩ := Paired.get hB6 hb
        have hbt' : H6 b = some (.tup [.int (t.1 : Int), .int (t.2 : Int)]) := hbt
        obtain ⟨ht1, ht2⟩ := hlt' t (List.mem_of_getElem? ht)
        have g1 : as[t.1]? = some as[t.1] := List.getElem?_eq_getElem (by omega)
        have g2 : as[t.2]? = some as[t.2] := List.getElem?_eq_getElem (by omega)
        generalize as[t.1] = a1 at g1
        generalize as[t.2] = a2 at g2
        have m1 := List.mem_of_getElem? g1
        have m2 := List.mem_of_getElem? g2
        have n12 : a1 ≠ a2 := fun e => by
          subst e
          have h1' := (List.getElem?_eq_some_iff.mp g1)
          have h2' := (List.getElem?_eq_some_iff.mp g2)
          obtain ⟨p1, q1⟩ := h1'
          obtain ⟨p2, q2⟩ := h2'
          have := (List.getElem_inj hand).mp (q1.trans q2.symm)
          omega
        have ra : ∀ {j : Nat} {a : Addr}, as[j]? = some a → (refs as)[j]? = some (V.ref a) := fun {j a} h => by
          unfold refs
          rw [List.getElem?_map, h]
          rfl
        obtain ⟨l1, hl1, ha1⟩ := Paired.get hL6 g1
        obtain ⟨l2, hl2, ha2⟩ := Paired.get hL6 g2
        rw [nears_at (show t.1 < n by omega)] at hl1
        rw [nears_at (show t.2 < n by omega)] at hl2
        cases hl1
        cases hl2
        have len : ∀ v, (nb (us.take i) v).length < sizeLine := fun v => by
          refine line_lt ?_
          unfold nb
          have h1 := List.length_filterMap_le (SR.part v) (us.take i)
          have h2 := hp.length_eq
          rw [List.length_take] at h1
          omega
        refine ⟨b, _, rfl, SqT.of hbt', rfl, _, _, rfl, _, _, rfl, rfl, ?_⟩
        -- self.near[one].append(other)
        refine ⟨_, rfl, x, C, dx, _, _, rfl, hx6, G.cl, G.nN, gf_near, _, rfl, D, _, _, _, rfl, rfl, SqL.of hD6, atI_nat (ra g1), .inl ⟨rfl, _, SqL.of ha1⟩, _, rfl, a1, _, _, rfl, rfl, ha1, by rw [nl_length]; exact len _, ?_⟩
        obtain ⟨H7, e7, ha7, s7⟩ : ∃ H7, H7 = upd H6 a1 (.lst (nl (nb (us.take i) t.1 ++ [t.2]))) ∧ H7 a1 = some (.lst (nl (nb (us.take i) t.1 ++ [t.2]))) ∧ SameX a1 H6 H7 := ⟨_, rfl, upd_same, fun b o n e => by rw [upd_ne n]; exact e⟩
        have hL7 : ListsAt H7 as ((nears n (us.take i)).set t.1 (nb (us.take i) t.1 ++ [t.2])) := by
          rw [e7]
          exact lists_set hL6 hand g1
        rw [show nl (nb (us.take i) t.1) ++ [V.int (t.2 : Int)] = nl (nb (us.take i) t.1 ++ [t.2]) from (nl_append _ [t.2]).symm, ← e7]
        have hx7 : H7 x = _ := s7 _ _ (Ne.symm (nx _ m1)) hx6
        have nDa : ∀ a ∈ as, D ≠ a := fun a ha e => (hout a ha).2 e.symm
        have hD7 : H7 D = _ := s7 _ _ (nDa _ m1) hD6
        have ha27 : H7 a2 = _ := s7 _ _ (Ne.symm n12) ha2
        refine ⟨_, rfl, x, C, dx, _, _, rfl, hx7, G.cl, G.nN, gf_near, _, rfl, D, _, _, _, rfl, rfl, SqL.of hD7, atI_nat (ra g2), .inl ⟨rfl, _, SqL.of ha27⟩, _, rfl, a2, _, _, rfl, rfl, ha27, by rw [nl_length]; exact len _, ?_⟩
        rw [show nl (nb (us.take i) t.2) ++ [V.int (t.1 : Int)] = nl (nb (us.take i) t.2 ++ [t.1]) from (nl_append _ [t.1]).symm]
        have nb2 : ∀ c u, TieAt H6 c u → c ≠ a1 ∧ c ≠ a2 := fun c u hc => ⟨ne_of hc ha1 (by intro z; cases z), ne_of hc ha2 (by intro z; cases z)⟩
        refine ⟨_, _, _, rfl, fun c o n e => ?_, ?_, ?_, ?_, ?_, ?_⟩
        · rw [upd_ne (ne_of_none e (hfree _ m2))]
          exact s7 _ _ (ne_of_none e (hfree _ m1)) (sx6 _ _ n e)
        · rw [upd_ne (Ne.symm (nx _ m2))]
          exact hx7
        · rw [upd_ne (Ne.symm (ntl _ m2))]
          exact s7 _ _ (Ne.symm (ntl _ m1)) htl6
        · rw [upd_ne (nDa _ m2)]
          exact hD7
        · refine Paired.imp (fun c u hc => ?_) hB6
          obtain ⟨k1, k2⟩ := nb2 c u hc
          show upd H7 a2 _ c = _
          rw [upd_ne k2]
          exact s7 _ _ k1 hc
        · have := lists_set (l := nb (us.take i) t.2 ++ [t.1]) hL7 hand g2
          rw [nears_step (by omega) (by omega) (by omega)] at this
          rw [take_get ht]
          exact this
      · rintro σ H6 ⟨v3, v4, v5, rfl, sx6, hx6, htl6, hD6, hB6, hL6⟩
        have e : (refs bs).length = us.length := by
          rw [refs_length]
          exact Paired.length hB6
        rw [e, List.take_length] at hL6
        exact q H6 us sx6 hp ⟨dx, tl, D, as, hx6, hD6, hL6, hfree⟩
end
end W
end
section
set_option Elab.async false
set_option linter.all false
set_option maxRecDepth 100000
set_option maxHeartbeats 4000000
namespace W
open PySem PySem.Spec PyProof.Rows L2
/-! ### list(d.values()) -/
def rValsL : V → Hp → VK → Prop := fun x H Q => ∃ d : Addr, x = .ref d ∧ ((∃ kvs : List (List Key × V), H d = some (.dT kvs) ∧ ∀ p, H p = none → Q (.ref p) (upd H p (.lst (kvs.map (·.2))))) ∨
  ∃ kvs : List (Key × V), H d = some (.dK kvs) ∧ ∀ p, H p = none → Q (.ref p) (upd H p (.lst (kvs.map (·.2)))))
def tListVals (te : TE) : TE := fun σ H Q => te σ H fun x H1 => rValsL x H1 Q
theorem vals_of_get : ∀ {xs : List V} {us : List Value}, xs.length = us.length → (∀ (i : Nat) x u, xs[i]? = some x → us[i]? = some u → RelV x u) → Vals xs us
  | [], [], _, _ => .nil
  | [], _ :: _, h, _ => by cases h
  | _ :: _, [], h, _ => by cases h
  | x :: xs, u :: us, h, g => .cons (g 0 x u rfl rfl) (vals_of_get (Nat.succ.inj h) fun i y v h1 h2 => g (i + 1) y v h1 h2)
section
variable {X : Cx} {e : Expr} {te : TE} {p apos cpos pos : Pos}
theorem pe_listVals (hc : X.calm = true) (he : PE X e te) (hg : Gl X "list") (hm : X.mg "list" = none) (hv : bootBuiltins "list" = some (.type "list") := by decide +kernel) (hbase : attributeBase e "values" X.env (eval e X.env) = eval e X.env := by rfl) (hline : (apos.endLine == cpos.line) = true := by rfl)
    (hs : starEach [.Call (.Attribute e "values" apos) [] [] cpos] X.env = (false, eval (.Call (.Attribute e "values" apos) [] [] cpos) X.env) :: starEach [] X.env := by rfl) :
    PE X (.Call (.Name "list" p) [.Call (.Attribute e "values" apos) [] [] cpos] [] pos) (tListVals te) := by
  refine ⟨fun pins s σ H Q I hq => ?_⟩
  refine wpAny_Call_Name_kw (ld_blt I hg hm hv ?_)
  refine PyProof.Rows.callWith_type1 ?_ hs rfl
  rw [hs]
  show wpAny _ _ (spliced ((false, eval (.Call (.Attribute e "values" apos) [] [] cpos) X.env) :: backTo pos (starEach [] X.env))) _ _ s
  refine Calls.spliced_cons ?_
  refine wpAny_Call_method (T := "dict") (id := "dict.values") hbase rfl hline F.plainAttrs_dict F.slot_dict_values F.type_dict_values (thn (he.run pins s σ H _ I hq) fun u s1 ⟨x, H1, I1, rx, d, ex, q⟩ => ?_)
  subst ex
  obtain rfl : u = Value.ref d := rx
  -- the dict, raw, and its values
  have raw : ∃ (vs : List V) (es : Array DictEntry) (ep : Nat), (d == sysModules) = false ∧ s1.heap.DictRaw d es ep ∧ es.size = vs.length ∧ vs.length ≤ sizeLine ∧ (∀ (i : Nat) (hi : i < es.size) v, vs[i]? = some v → RelV v es[i].val) ∧ ∀ p, H1 p = none → Q (.ref p) (upd H1 p (.lst vs)) := by
    rcases q with ⟨kvs, hd, q⟩ | ⟨kvs, hd, q⟩
    · obtain ⟨z, y, xs, r, o, es, ep, h1, h2, h3, h4, h5⟩ := (show ObjOk X.prog X.w H1 s1.heap d (.dT kvs) from I1.hok d _ hd)
      have hl : es.size = xs.length := size_of_entries h4
      have hl2 : kvs.length = xs.length := Paired.length r
      refine ⟨kvs.map (·.2), es, ep, y, ⟨o, h1, h2, h3⟩, by rw [List.length_map]; omega, by rw [List.length_map]; exact z, fun i hi v hv => ?_, q⟩
      rw [List.getElem?_map] at hv
      obtain ⟨kv, e1, e2⟩ := Option.map_eq_some_iff.mp hv
      have : ∀ {l : List (List Key × V)} {m : List (List Key × Addr × Value)} {i : Nat} {x : List Key × V}, Paired (fun (p : List Key × V) (q : List Key × Addr × Value) => p.1 = q.1 ∧ H1 q.2.1 = some (.tup (p.1.map kV)) ∧ RelV p.2 q.2.2) l m → l[i]? = some x → ∃ y, m[i]? = some y ∧ RelV x.2 y.2.2 := by
        intro l m i x hp
        induction hp generalizing i with
        | nil => intro h; simp at h
        | cons r _ ih =>
          intro h
          cases i with
          | zero =>
            simp at h
            subst h
            exact ⟨_, rfl, r.2.2⟩
          | succ i =>
            obtain ⟨y, h1, h2⟩ := ih (i := i) (by simpa using h)
            exact ⟨y, by simpa using h1, h2⟩
      obtain ⟨y', g1, g2⟩ := this r e1
      have en := entry_at h4 i
      rw [Array.getElem?_eq_getElem hi, g1, Option.map_some] at en
      rw [Option.some.inj en, ← e2]
      exact g2
    · obtain ⟨z, y, vs, kv, hdo⟩ := I1.hok d _ hd
      obtain ⟨es, ep, hr, hl, hv⟩ := hdo.raw
      have lk : kvs.length = vs.length := Paired.length kv
      refine ⟨kvs.map (·.2), es, ep, y, hr, by rw [List.length_map]; omega, by rw [List.length_map]; exact z, fun i hi v hv' => ?_, q⟩
      rw [List.getElem?_map] at hv'
      obtain ⟨p, e1, e2⟩ := Option.map_eq_some_iff.mp hv'
      have : ∀ {l : List (Key × V)} {m : List (Key × Value)} {i : Nat} {x : Key × V}, KV l m → l[i]? = some x → ∃ y, m[i]? = some y ∧ RelV x.2 y.2 := by
        intro l m i x hp
        induction hp generalizing i with
        | nil => intro h; simp at h
        | cons r _ ih =>
          intro h
          cases i with
          | zero =>
            simp at h
            subst h
            exact ⟨_, rfl, r.2⟩
          | succ i =>
            obtain ⟨y, h1, h2⟩ := ih (i := i) (by simpa using h)
            exact ⟨y, by simpa using h1, h2⟩
      obtain ⟨y', g1, g2⟩ := this kv e1
      have := (hv i hi y'.1 y'.2 g1).2
      rw [this, ← e2]
      exact g2
  obtain ⟨vs, es, ep, y, hr, hl, hz, hv, q⟩ := raw
  have I2 : Inv X pins σ H1 { s1 with heap := s1.heap.push { cls := .type "dict_values", data := .fields #[.ref d] } } := I1.kept (t' := s1.toks) fun b ob q => Heap.get?_push_of_some _ q
  have hnd : ∀ b, Value.ref d = .ref b → ∃ ob, s1.heap.get? b = some ob ∧ ob.dict = none := fun b q => by
    cases q
    obtain ⟨o, h1, h2, _⟩ := hr
    exact ⟨o, h1, h2.2.1⟩
  refine ⟨hr.typeIs, hnd, ?_⟩
  show wpAny _ _ (callWith cpos (.builtin "dict.values") [.ref d] [] []) _ X.xe s1
  refine method_meetsIn F.slot_dict_values F.entry_dict_values rfl (PySem.evalArgs_none ⟨rfl, hr.typeIs, F.args_dict_values_1 _, _, meets_dict_values_raw d y, ⟨⟨es, ep, hr⟩, ?_⟩⟩)
  refine Calls.spliced_nil ?_
  refine PySem.W.kdl_call (PySem.KdlSrc.rawValues (d := d) (es := es) (ep := ep)) (I1.ok.hd hc) ⟨⟨_, Heap.get?_push_size _ rfl, rfl, rfl⟩, hr.push _⟩ (by rw [hl]; exact hz) fun h' tk acc c hk hS hacc => ?_
  refine ⟨.ref _, _, I2.laid (o := .lst vs) (t' := tk) hk (Nat.le_refl _) ⟨hz, acc.toList, c, vals_of_get (show vs.length = acc.toList.length by
    have h1 := hacc.1
    have h2 : acc.toList.length = acc.size := by simp
    omega) (fun i x u hx hu => ?_), by rw [Array.toArray_toList]; exact hS⟩, rfl, q _ (I2.hok.fresh (Nat.le_refl _))⟩
  have hu' : acc[i]? = some u := by rw [← Array.getElem?_toList]; exact hu
  obtain ⟨hi, rfl⟩ := hacc.2 i u hu'
  exact hv i hi x hx
end

/-! ### dicts whose keys are tuples of tuples -/
abbrev nums (xs : List Int) : List NestedKey := xs.map NestedKey.num
/-- the tuple at b is the key k -/
inductive KAt (H : Hp) (b : Addr) : NestedKey → Prop where
  | two {t u : Addr} {xs ys : List Int} (e : H b = some (.tup [.ref t, .ref u])) (et : H t = some (.tup (xs.map V.int))) (eu : H u = some (.tup (ys.map V.int))) : KAt H b (.tup [.tup (nums xs), .tup (nums ys)])
  | one {i : Int} {u : Addr} {ys : List Int} (e : H b = some (.tup [.int i, .ref u])) (eu : H u = some (.tup (ys.map V.int))) : KAt H b (.tup [.num i, .tup (nums ys)])
theorem KAt.mono {H H' : Hp} {b : Addr} {k : NestedKey} (h : KAt H b k) (s : ∀ c xs, H c = some (.tup xs) → H' c = some (.tup xs)) : KAt H' b k := by
  cases h with
  | two e et eu => exact .two (s _ _ e) (s _ _ et) (s _ _ eu)
  | one e eu => exact .one (s _ _ e) (s _ _ eu)
theorem depth_nums : ∀ xs : List Int, NestedKey.depthAll (nums xs) = 0
  | [] => by rw [show nums [] = [] from rfl, NestedKey.depthAll]
  | x :: xs => by
    rw [show nums (x :: xs) = NestedKey.num x :: nums xs from rfl, NestedKey.depthAll, NestedKey.depth, depth_nums xs]
    rfl
theorem all_nums {h : Heap} : ∀ {xs : List Int} {us : List Value}, Vals (xs.map V.int) us → NestedAll h (nums xs) us
  | [], _, .nil => .nil
  | x :: xs, _, .cons r t => by
    obtain ⟨tk, rfl⟩ := r
    exact .cons (.int _ _) (all_nums t)
theorem KAt.is {P : Program} {w : World} {H : Hp} {h : Heap} {b : Addr} {k : NestedKey} (ok : HOk P w H h) (x : KAt H b k) : (nestedKind P w).is h k b := by
  have tupOf : ∀ {a : Addr} {xs : List V}, H a = some (.tup xs) → ∃ (o : Obj) (its : List Value) (n : Nat), h.get? a = some o ∧ o.cls = .type "tuple" ∧ o.data = .seq its.toArray n ∧ Vals xs its := fun {a xs} e => by
    obtain ⟨_, its, r, o, h1, h2, n, h3⟩ := (show ObjOk P w H h a (.tup xs) from ok a _ e)
    exact ⟨o, its, n, h1, h2, h3, r⟩
  have isNums : ∀ {a : Addr} {xs : List Int}, H a = some (.tup (xs.map V.int)) → NestedIs h (.tup (nums xs)) (.ref a) := fun {a xs} e => by
    obtain ⟨o, its, n, h1, h2, h3, r⟩ := tupOf e
    exact .tup h1 h2 h3 (by simpa using all_nums r)
  cases x with
  | @two t u xs ys e et eu =>
    obtain ⟨o, its, n, h1, h2, h3, r⟩ := tupOf e
    refine ⟨.tup h1 h2 h3 ?_, ?_⟩
    · cases r with
      | cons r1 r =>
        cases r with
        | cons r2 r =>
          cases r
          obtain rfl := r1
          obtain rfl := r2
          exact .cons (isNums et) (.cons (isNums eu) .nil)
    · show NestedKey.depth (.tup [.tup (nums xs), .tup (nums ys)]) ≤ 8
      rw [NestedKey.depth, NestedKey.depthAll, NestedKey.depthAll, NestedKey.depthAll, NestedKey.depth, NestedKey.depth, depth_nums, depth_nums]
      decide
  | @one i u ys e eu =>
    obtain ⟨o, its, n, h1, h2, h3, r⟩ := tupOf e
    refine ⟨.tup h1 h2 h3 ?_, ?_⟩
    · cases r with
      | cons r1 r =>
        cases r with
        | cons r2 r =>
          cases r
          obtain ⟨tk, rfl⟩ := r1
          obtain rfl := r2
          exact .cons (.int _ _) (.cons (isNums eu) .nil)
    · show NestedKey.depth (.tup [.num i, .tup (nums ys)]) ≤ 8
      rw [NestedKey.depth, NestedKey.depthAll, NestedKey.depthAll, NestedKey.depthAll, NestedKey.depth, NestedKey.depth, depth_nums]
      decide
/-- the dict's own object -/
def NObj (P : Program) (w : World) (a : Addr) (xs : List (NestedKey × Addr × Value)) : HO :=
  .ext fun h => ∃ o es ep, h.get? a = some o ∧ o.ExactDict ∧ o.data = .dict es ep ∧ es.toList = xs.map (entryOfKey (nestedKind P w))
/-- at a stands a dict with the keys and values kvs -/
structure NDat (P : Program) (w : World) (H : Hp) (a : Addr) (kvs : List (NestedKey × V)) : Prop where
  len : kvs.length ≤ sizeLine
  ex : ∃ xs : List (NestedKey × Addr × Value), Paired (fun (p : NestedKey × V) (q : NestedKey × Addr × Value) => p.1 = q.1 ∧ KAt H q.2.1 p.1 ∧ RelV p.2 q.2.2) kvs xs ∧ (xs.map (·.1)).Nodup ∧ (a == sysModules) = false ∧ H a = some (NObj P w a xs)
theorem NDat.same {P : Program} {w : World} {H H' : Hp} {a : Addr} {kvs : List (NestedKey × V)} (h : NDat P w H a kvs) (s : Same H H') : NDat P w H' a kvs := by
  obtain ⟨l, xs, r, n, y, e⟩ := h
  exact ⟨l, xs, Paired.mapP r fun p q z => ⟨z.1, z.2.1.mono fun c ys hc => s _ _ hc, z.2.2⟩, n, y, s _ _ e⟩
abbrev KN (H : Hp) : List (NestedKey × V) → List (NestedKey × Addr × Value) → Prop := Paired fun p q => p.1 = q.1 ∧ KAt H q.2.1 p.1 ∧ RelV p.2 q.2.2
theorem KN.val {H : Hp} {kvs : List (NestedKey × V)} {xs : List (NestedKey × Addr × Value)} (r : KN H kvs xs) (k : NestedKey) : RelO (valV kvs k) ((atKey xs k).map (·.2)) := by
  induction r with
  | nil => exact True.intro
  | @cons p q ps qs h t ih =>
    obtain ⟨h1, _, h2⟩ := h
    by_cases e : p.1 = k
    · have e' : q.1 = k := h1.symm.trans e
      have b : atKey (q :: qs) k = some q.2 := by simp [atKey, List.find?_cons, e']
      rw [valV_pos e, b]; exact h2
    · have e' : ¬ q.1 = k := fun z => e (h1.trans z)
      have b : atKey (q :: qs) k = atKey qs k := by simp [atKey, List.find?_cons, e']
      rw [valV_neg e, b]; exact ih
theorem KN.repl {H : Hp} {kvs : List (NestedKey × V)} {xs : List (NestedKey × Addr × Value)} (r : KN H kvs xs) (k : NestedKey) {y : V} {u : Value} (ry : RelV y u) :
    KN H (kvs.map fun kv => if kv.1 = k then (kv.1, y) else kv) (xs.map (putAt k u)) := by
  induction r with
  | nil => exact .nil
  | @cons p q ps qs h t ih =>
    rw [List.map_cons, List.map_cons]
    refine .cons ?_ ih
    obtain ⟨h1, h2, h3⟩ := h
    unfold putAt
    by_cases e : p.1 = k
    · rw [if_pos e, if_pos (h1.symm.trans e)]; exact ⟨h1, h2, ry⟩
    · rw [if_neg e, if_neg (fun z => e (h1.trans z))]; exact ⟨h1, h2, h3⟩
theorem KN.put {H : Hp} {kvs : List (NestedKey × V)} {xs : List (NestedKey × Addr × Value)} (r : KN H kvs xs) (k : NestedKey) {b : Addr} {y : V} {u : Value} (hb : KAt H b k) (ry : RelV y u) :
    KN H (putK kvs k y) (storedH xs k b u) := by
  have e : (kvs.any fun kv => decide (kv.1 = k)) = (atKey xs k).isSome := by
    rw [valV_any, (r.val k).isSome_eq, Option.isSome_map]
  unfold putK storedH
  rw [e]
  by_cases q : (atKey xs k).isSome = true
  · rw [if_pos q, if_pos q]; exact r.repl k ry
  · rw [if_neg q, if_neg q]; exact Paired.snoc r ⟨rfl, hb, ry⟩
theorem NDat.dictOf {P : Program} {w : World} {H : Hp} {h : Heap} {a : Addr} {kvs : List (NestedKey × V)} {xs : List (NestedKey × Addr × Value)} (ok : HOk P w H h) (r : KN H kvs xs) (n : (xs.map (·.1)).Nodup) (e : H a = some (NObj P w a xs)) : h.DictOfH (nestedKind P w) a xs := by
  obtain ⟨⟨o, es, ep, h1, h2, h3, h4⟩, _⟩ := (show ObjOk P w H h a (NObj P w a xs) from ok a _ e)
  refine ⟨o, es, ep, h1, h2, h3, h4, fun x hx => ?_, n⟩
  have all : ∀ {l : List (NestedKey × V)} {m : List (NestedKey × Addr × Value)}, KN H l m → ∀ x ∈ m, (nestedKind P w).is h x.1 x.2.1 := by
    intro l m q
    induction q with
    | nil => intro x hx; exact nomatch hx
    | @cons p q ps qs hq t ih =>
      intro x hx
      rcases List.mem_cons.mp hx with e | hx
      · subst e
        have := hq.2.1
        rw [hq.1] at this
        exact this.is ok
      · exact ih x hx
  exact all r x hx
theorem nroom {A : Around} {P : Program} {w : World} (hu : A.units + 64 < cLine) : (nestedKind P w).room A.in1 := by
  show A.units + 1 + 8 < cLine
  omega
/-- what the dict at a holds at the key at b -/
def NGet (P : Program) (w : World) (H : Hp) (a : Addr) (y : V) (r : Option V) : Prop := ∃ b k kvs, y = .ref b ∧ KAt H b k ∧ NDat P w H a kvs ∧ r = valV kvs k
section
variable {X : Cx} {pins : List (Addr × Obj)} {σ : L2.St} {H : Hp} {s : Shared} {a : Addr} {y v : V} {u r : Value} {o : Option V} {A : Around} {E : Value → Shared → Prop}
theorem n_getItem {Q : Value → Shared → Prop} (hu : A.units + 64 < cLine) (I : Inv X pins σ H s) (g : NGet X.prog X.w H a y (some v)) (ry : RelV y u) (h : ∀ w' s', Inv X pins σ H s' → RelV v w' → Q w' s') :
    wpAny (model X.prog X.w) A (getItem (.ref a) u) Q E s := by
  obtain ⟨b, k, kvs, rfl, kb, ⟨z, xs, rel, n, yy, e⟩, l⟩ := g
  cases (show u = Value.ref b from ry)
  obtain ⟨w', hw, rw'⟩ := RelO.some_of (v := v) (o := (atKey xs k).map (·.2)) (by rw [l]; exact KN.val rel k)
  obtain ⟨p, hp, hp2⟩ := Option.map_eq_some_iff.mp hw
  refine wpAny_getItem_heap (nroom hu) (kb.is I.hok) (NDat.dictOf I.hok rel n e) hp ?_
  rw [hp2]
  exact h w' _ (I.tok _) rw'
theorem n_in {Q : Value → Shared → Prop} (hu : A.units + 64 < cLine) (I : Inv X pins σ H s) (g : NGet X.prog X.w H a y o) (ry : RelV y u) (h : ∀ s', Inv X pins σ H s' → Q (.bool o.isSome) s') :
    wpAny (model X.prog X.w) A (compareOp .In u (.ref a)) Q E s := by
  obtain ⟨b, k, kvs, rfl, kb, ⟨z, xs, rel, n, yy, e⟩, l⟩ := g
  cases (show u = Value.ref b from ry)
  refine wpAny_in_heap (nroom hu) (kb.is I.hok) yy (NDat.dictOf I.hok rel n e) ?_
  have q := (KN.val rel k).isSome_eq
  rw [Option.isSome_map] at q
  rw [← q, ← l]
  exact h _ (I.tok _)
theorem n_notIn {Q : Value → Shared → Prop} (hu : A.units + 64 < cLine) (I : Inv X pins σ H s) (g : NGet X.prog X.w H a y o) (ry : RelV y u) (h : ∀ s', Inv X pins σ H s' → Q (.bool (!o.isSome)) s') :
    wpAny (model X.prog X.w) A (compareOp .NotIn u (.ref a)) Q E s := by
  obtain ⟨b, k, kvs, rfl, kb, ⟨z, xs, rel, n, yy, e⟩, l⟩ := g
  cases (show u = Value.ref b from ry)
  refine wpAny_notIn_heap (nroom hu) (kb.is I.hok) yy (NDat.dictOf I.hok rel n e) ?_
  have q := (KN.val rel k).isSome_eq
  rw [Option.isSome_map] at q
  rw [← q, ← l]
  exact h _ (I.tok _)
/-- d[k] = v: the heap behind it -/
def NPut (P : Program) (w : World) (H : Hp) (a : Addr) (y v : V) (R : Hp → Prop) : Prop := ∃ b k kvs, y = .ref b ∧ KAt H b k ∧ NDat P w H a kvs ∧ kvs.length < sizeLine ∧ ∀ H', SameX a H H' → (∀ c, H c = none → c ≠ a → H' c = none) → NDat P w H' a (putK kvs k v) → R H'
theorem n_setItem {R : Hp → Prop} {Q : Unit → Shared → Prop} (hu : A.units + 64 < cLine) (I : Inv X pins σ H s) (g : NPut X.prog X.w H a y v R) (ry : RelV y u) (rv : RelV v r) (h : ∀ H' s', Inv X pins σ H' s' → R H' → Q () s') :
    wpAny (model X.prog X.w) A (setItem (.ref a) u r) Q E s := by
  obtain ⟨b, k, kvs, rfl, kb, ⟨z, xs, rel, n, yy, e⟩, l, hR⟩ := g
  cases (show u = Value.ref b from ry)
  have dd := NDat.dictOf I.hok rel n e
  have hz : xs.length ≤ sizeLine := by rw [← Paired.length rel]; exact z
  have hl : (putK kvs k v).length ≤ sizeLine := by have := length_putK kvs k v; omega
  have ne : ∀ c ys, H c = some (.tup ys) → c ≠ a := fun c ys hc => ne_of hc e (fun q => nomatch q)
  refine wpAny_setItem_heap (hsz := hz) (nroom hu) (kb.is I.hok) dd fun h' dd' hs => ?_
  obtain ⟨q, es, ep, hq, h2, h3, h4, _, h5⟩ := dd'
  have nd : NDat X.prog X.w (upd H a (NObj X.prog X.w a (storedH xs k b r))) a (putK kvs k v) := by
    refine ⟨hl, storedH xs k b r, ?_, h5, yy, upd_same⟩
    exact Paired.mapP (KN.put rel k kb rv) fun p q z => ⟨z.1, z.2.1.mono fun c ys hc => by rw [upd_ne (ne c ys hc)]; exact hc, z.2.2⟩
  refine h _ _ (I.write (x := a) (e := a) (o := NObj X.prog X.w a (storedH xs k b r)) (by rw [e]; exact True.intro) (.inl rfl) (fun b q hb z => (hs.2 b hb).trans z) ⟨q, hq⟩ ⟨⟨q, es, ep, hq, h2, h3, h4⟩, ⟨q, hq⟩, ?_⟩) (hR _ (fun c o nc hc => by rw [upd_ne nc]; exact hc) (fun c hc nc => by rw [upd_ne nc]; exact hc) nd)
  rintro h1 h2 ⟨o, es, ep, k1, k2, k3, k4⟩ st
  exact ⟨o, es, ep, st _ k1, k2, k3, k4⟩
end
/-! ### as rules -/
def tNNew (P : Program) (w : World) : TE := fun _ H Q => ∀ p H', H p = none → H' p ≠ none → Same H H' → (∀ c, H c = none → c ≠ p → H' c = none) → NDat P w H' p [] → Q (.ref p) H'
def tNGet (P : Program) (w : World) (td ty : TE) : TE := fun σ H Q => td σ H fun x H1 => ty σ H1 fun y H2 => ∃ a v, x = .ref a ∧ NGet P w H2 a y (some v) ∧ Q v H2
def tNIn (P : Program) (w : World) (ty td : TE) : TE := fun σ H Q => ty σ H fun y H1 => td σ H1 fun x H2 => ∃ a o, x = .ref a ∧ NGet P w H2 a y o ∧ Q (.bl o.isSome) H2
def tNNotIn (P : Program) (w : World) (ty td : TE) : TE := fun σ H Q => ty σ H fun y H1 => td σ H1 fun x H2 => ∃ a o, x = .ref a ∧ NGet P w H2 a y o ∧ Q (.bl (!o.isSome)) H2
def sNPut (P : Program) (w : World) (td ty tv : TE) : TS := fun D σ H => tv σ H fun v H1 => td σ H1 fun x H2 => ty σ H2 fun y H3 => ∃ a, x = .ref a ∧ NPut P w H3 a y v (D.nx σ)
section
variable {X : Cx} {o i value : Expr} {td ty tv : TE} {pos pos' : Pos}
theorem pe_nnew : PE X (.Dict [] [] pos) (tNNew X.prog X.w) := by
  refine ⟨fun pins s σ H Q I h => ?_⟩
  refine wpAny_Dict_empty ?_
  have hn : H s.heap.objs.size = none := I.hok.fresh (Nat.le_refl _)
  have big := I.big
  have yy : (s.heap.objs.size == sysModules) = false := by
    have : s.heap.objs.size ≠ sysModules := Nat.ne_of_gt big
    exact beq_eq_false_iff_ne.mpr this
  refine ⟨.ref s.heap.objs.size, upd H s.heap.objs.size (NObj X.prog X.w s.heap.objs.size []), I.laid (t' := s.toks) (fun b u e => Heap.get?_push_of_some _ e) (Nat.le_refl _) ⟨⟨_, #[], 0, Heap.get?_push_size _ rfl, ⟨rfl, rfl, rfl⟩, rfl, rfl⟩, ⟨_, Heap.get?_push_size _ rfl⟩, ?_⟩, rfl,
    h _ _ hn (by rw [upd_same]; simp) (same_upd hn) (fun c hc nc => by rw [upd_ne nc]; exact hc) ⟨Nat.zero_le _, [], .nil, List.nodup_nil, yy, upd_same⟩⟩
  rintro h1 h2 ⟨o, es, ep, k1, k2, k3, k4⟩ st
  exact ⟨o, es, ep, st _ k1, k2, k3, k4⟩
theorem ngTypeIs {pins : List (Addr × Obj)} {σ : L2.St} {H : Hp} {s : Shared} {a : Addr} {y : V} {r : Option V} (I : Inv X pins σ H s) (g : NGet X.prog X.w H a y r) : s.TypeIs (.ref a) "dict" := by
  obtain ⟨b, k, kvs, _, _, ⟨_, xs, rel, n, _, e⟩, _⟩ := g
  exact (NDat.dictOf I.hok rel n e).typeIs
theorem pe_nget (hu : X.A.units + 64 < cLine) (ho : PE X o td) (hi : PE X i ty) (hs : NoSl i) : PE X (.Subscript o i pos) (tNGet X.prog X.w td ty) := by
  refine ⟨fun pins s σ H Q I h => ?_⟩
  refine subD_of (T := "dict") (id := "dict.__getitem__") PySem.F.slot_dict_getitem.lookup hs (thn (ho.run pins s σ H _ I h) fun u s1 ⟨x, H1, I1, rx, q1⟩ => thn (hi.run pins s1 σ H1 _ I1 q1) fun iv s2 ⟨y, H2, I2, ry, a, v, ex, g, q2⟩ => ?_)
  subst ex
  obtain rfl : u = Value.ref a := rx
  exact ⟨ngTypeIs I2 g, n_getItem hu I2 g ry fun w' s3 I3 rv => ⟨v, H2, I3, rv, q2⟩⟩
theorem pc_nin (hu : X.A.units + 64 < cLine) (hi : PE X i ty) (ho : PE X o td) : PC X .In i o (tNIn X.prog X.w ty td) := by
  refine ⟨fun pins s σ H Q I h => ?_⟩
  refine thn (hi.run pins s σ H _ I h) fun iv s1 ⟨y, H1, I1, ry, q1⟩ => thn (ho.run pins s1 σ H1 _ I1 q1) fun u s2 ⟨x, H2, I2, rx, a, ov, ex, g, q2⟩ => ?_
  subst ex
  obtain rfl : u = Value.ref a := rx
  exact n_in hu I2 g ry fun s3 I3 => ⟨.bl ov.isSome, H2, I3, rfl, q2⟩
theorem pc_nnotin (hu : X.A.units + 64 < cLine) (hi : PE X i ty) (ho : PE X o td) : PC X .NotIn i o (tNNotIn X.prog X.w ty td) := by
  refine ⟨fun pins s σ H Q I h => ?_⟩
  refine thn (hi.run pins s σ H _ I h) fun iv s1 ⟨y, H1, I1, ry, q1⟩ => thn (ho.run pins s1 σ H1 _ I1 q1) fun u s2 ⟨x, H2, I2, rx, a, ov, ex, g, q2⟩ => ?_
  subst ex
  obtain rfl : u = Value.ref a := rx
  exact n_notIn hu I2 g ry fun s3 I3 => ⟨.bl (!ov.isSome), H2, I3, rfl, q2⟩
theorem ps_nput (hu : X.A.units + 64 < cLine) (ho : PE X o td) (hi : PE X i ty) (hv : PE X value tv) (hs : swapsWith value (some (.Subscript o i pos')) pos.line X.env = pure false) :
    PS X (.Assign [.Subscript o i pos'] value pos) (sNPut X.prog X.w td ty tv) := by
  refine ⟨fun pins s σ H D I h => ?_⟩
  refine wpAny_Assign_Subscript (thn (hv.run pins s σ H _ I h) fun r s1 ⟨v, H1, I1, rv, q1⟩ => thn (ho.run pins s1 σ H1 _ I1 q1) fun u s2 ⟨x, H2, I2, rx, q2⟩ => thn (hi.run pins s2 σ H2 _ I2 q2) fun iv s3 ⟨y, H3, I3, ry, a, ex, g⟩ => ?_) hs
  subst ex
  obtain rfl : u = Value.ref a := rx
  exact n_setItem hu I3 g ry rv fun H4 s4 I4 q3 => ⟨σ, H4, I4, q3⟩
end
end W
end
section
set_option Elab.async false
set_option linter.all false
set_option maxRecDepth 100000
set_option maxHeartbeats 4000000
namespace W
open PySem PySem.Spec PyProof.Rows L2
open SR (Tie Mach Stt)
abbrev N_Progress___init__ : List Str := ["self", "graph", "rule", "left", "pairs"]
theorem sc_Progress___init__ : FnScope N_Progress___init__ ["self", "graph", "rule", "left", "pairs"] (defScope (inClass (topS 22) 0)) := ⟨rfl, rfl, rfl, by decide +kernel, rfl, by decide +kernel, by decide +kernel⟩
abbrev N_Progress_better : List Str := ["self", "node", "flags", "other"]
theorem sc_Progress_better : FnScope N_Progress_better ["self", "node"] (defScope (inClass (topS 22) 1)) := ⟨rfl, rfl, rfl, by decide +kernel, rfl, by decide +kernel, by decide +kernel⟩
abbrev N_Progress_free : List Str := ["self", "node"]
theorem sc_Progress_free : FnScope N_Progress_free ["self"] (defScope (inClass (topS 22) 2)) := ⟨rfl, rfl, rfl, by decide +kernel, rfl, by decide +kernel, by decide +kernel⟩
abbrev N_Progress_behind : List Str := ["self", "node", "near", "left", "other", "marks", "rows", "pairs", "one", "mark", "sign"]
theorem sc_Progress_behind : FnScope N_Progress_behind ["self", "node"] (defScope (inClass (topS 22) 3)) := ⟨rfl, rfl, rfl, by decide +kernel, rfl, by decide +kernel, by decide +kernel⟩
abbrev N_Progress_key : List Str := ["self"]
theorem sc_Progress_key : FnScope N_Progress_key ["self"] (defScope (inClass (topS 22) 4)) := ⟨rfl, rfl, rfl, by decide +kernel, rfl, by decide +kernel, by decide +kernel⟩
abbrev N_started : List Str := ["graph", "rule", "left", "pairs", "one", "other"]
theorem sc_started : FnScope N_started ["graph", "rule"] (defScope (topS 23)) := ⟨rfl, rfl, rfl, by decide +kernel, rfl, by decide +kernel, by decide +kernel⟩
/-! the rules with K by a letter, for what stands inside a comprehension -/
theorem pe_fldK (K : PySem.W.Frag) {X : Cx} {e : Expr} {f : Str} {ta : TE} {pos : Pos} (he : PE X e ta) (hb : attributeBase e f X.env (eval e X.env) = eval e X.env := by rfl) (hK : X.K = K := by rfl) : PE X (.Attribute e f pos) (tFld K ta f) := by
  subst hK
  exact pe_fld he hb
theorem pe_ixLK (K : PySem.W.Frag) {X : Cx} {a b : Expr} {ta tb : TE} {pos : Pos} (ha : PE X a ta) (hb : PE X b tb) (hs : PlainIx b := by exact fun _ _ => rfl) (hK : X.K = K := by rfl) : PE X (.Subscript a b pos) (tOp (rIxL K) ta tb) := by
  subst hK
  exact pe_ix ix_list ha hb hs
theorem pe_ixTK (K : PySem.W.Frag) {X : Cx} {a b : Expr} {ta tb : TE} {pos : Pos} (ha : PE X a ta) (hb : PE X b tb) (hs : PlainIx b := by exact fun _ _ => rfl) (hK : X.K = K := by rfl) : PE X (.Subscript a b pos) (tOp (rIxT K) ta tb) := by
  subst hK
  exact pe_ix ix_tup ha hb hs
theorem pt_truthK (K : PySem.W.Frag) {X : Cx} {a : Expr} {ta : TE} (ha : PE X a ta) (he : ∀ whole, isTrue a X.env whole = (do let v ← whole; standAt a.pos; holding [v] (truthy v)) := by intro _; rfl) (hK : X.K = K := by rfl) : PT X a (tTru K ta) := by
  subst hK
  exact pt_truth ha he
theorem op_inK (K : PySem.W.Frag) {X : Cx} (hK : X.K = K := by rfl) : OpR X (compareOp .In) (rIn K false) := by
  subst hK
  exact op_in_seq
theorem pe_dgetA {X : Cx} {k : Nat} {A : Around} {o i : Expr} {td ty : TE} {pos : Pos} (hr : Room k A) (ho : PE X o td) (hi : PE X i ty) (hs : NoSl i := by exact fun _ _ => rfl) (hA : X.A = A := by rfl) : PE X (.Subscript o i pos) (tDGet td ty) := by
  subst hA
  exact pe_dget (hu_of hr) ho hi hs
/-! ### a rule in the heap -/
def rf (rl fl : Addr) : List (Str × V) := [("row_list", .ref rl), ("flags", .ref fl)]
theorem rf_rows {rl fl : Addr} : (rf rl fl).lookup ("row_list" : Str) = some (.ref rl) := by rfl
theorem rf_flags {rl fl : Addr} : (rf rl fl).lookup ("flags" : Str) = some (.ref fl) := by rfl
def TupsAt (H : Hp) (as : List Addr) (ls : List (List Nat)) : Prop := Paired (fun a l => H a = some (.tup (nl l))) as ls
def bls (l : List Bool) : List V := l.map V.bl
def RuleAt (C : Addr) (H : Hp) (r : Addr) (M : Mach) : Prop :=
  ∃ (dx rl fl : Addr) (as : List Addr), H r = some (.ins C dx (rf rl fl)) ∧ H rl = some (.lst (refs as)) ∧ TupsAt H as M.rows ∧ H fl = some (.lst (bls M.flags))
theorem RuleAt.same {C : Addr} {H H' : Hp} (s : Same H H') {r : Addr} {M : Mach} (h : RuleAt C H r M) : RuleAt C H' r M := by
  obtain ⟨dx, rl, fl, as, h1, h2, h3, h4⟩ := h
  exact ⟨dx, rl, fl, as, s _ _ h1, s _ _ h2, Paired.imp (fun _ _ e => s _ _ e) h3, s _ _ h4⟩
structure RuleC (K : PySem.W.Frag) (C : Addr) : Prop where
  cl : Cls K C
  nR : NoAttr K C "row_list"
  nF : NoAttr K C "flags"
/-- a machine as it should be -/
structure MOk (M : Mach) : Prop where
  fl : M.flags.length = M.rows.length
  four : ∀ row ∈ M.rows, row.length = 4 ∧ ∀ s ∈ row, s < M.rows.length
  pos : 0 < M.rows.length
  few : M.rows.length ≤ 100
theorem MOk.nx_lt {M : Mach} (h : MOk M) {s l : Nat} (hs : s < M.rows.length) (hl : l < 4) : M.nx s l < M.rows.length := by
  unfold Mach.nx
  have e0 : M.rows.getD s [] = M.rows[s] := by rw [List.getD_eq_getElem?_getD, List.getElem?_eq_getElem hs]; rfl
  rw [e0]
  obtain ⟨h4, hr⟩ := h.four _ (List.getElem_mem hs)
  rw [List.getD_eq_getElem?_getD, List.getElem?_eq_getElem (by omega)]
  exact hr _ (List.getElem_mem (by omega))
/-- all states are states -/
def Fits (M : Mach) (left : List Nat) (st : Stt) : Prop := ∀ a ∈ left, ∀ b ∈ left, a ≠ b → st a b < M.rows.length
theorem mk_le (near : List (List Nat)) (v x : Nat) : SR.mk near v x ≤ 1 := by unfold SR.mk; split <;> omega
theorem Fits.next {M : Mach} (h : MOk M) {left : List Nat} {st : Stt} (f : Fits M left st) (near : List (List Nat)) (v : Nat) : Fits M (SR.bhL left v) (SR.bhS M near st v) := fun a ha b hb n =>
  h.nx_lt (f a (SR.mem_bhL.mp ha).1 b (SR.mem_bhL.mp hb).1 n) (by have := mk_le near v a; have := mk_le near v b; omega)

/-! ### what is known of each two nodes -/
def pk (a b : Nat) : List Key := [.inl (a : Int), .inl (b : Int)]
theorem pk_inj {a b c d : Nat} (h : pk a b = pk c d) : a = c ∧ b = d := by
  unfold pk at h
  simp only [List.cons.injEq, Sum.inl.injEq, and_true] at h
  exact ⟨Int.ofNat.inj h.1, Int.ofNat.inj h.2⟩
theorem pk_map (a b : Nat) : (pk a b).map kV = [V.int (a : Int), V.int (b : Int)] := rfl
def prow (l : List Nat) (st : Stt) (a : Nat) : List (List Key × V) := (l.filter fun b => decide (b ≠ a)).map fun b : Nat => (pk a b, V.int (st a b : Int))
def pkv (l : List Nat) (st : Stt) : List (List Key × V) := l.flatMap (prow l st)
theorem valV_mem {κ : Type} [DecidableEq κ] {k : κ} {v : V} : ∀ {kvs : List (κ × V)}, (∃ p ∈ kvs, p.1 = k) → (∀ p ∈ kvs, p.1 = k → p.2 = v) → valV kvs k = some v
  | [], ⟨_, h, _⟩, _ => nomatch h
  | p :: r, h, g => by
    by_cases e : p.1 = k
    · rw [valV_pos e, g p List.mem_cons_self e]
    · rw [valV_neg e]
      refine valV_mem ?_ fun q hq => g q (List.mem_cons_of_mem _ hq)
      obtain ⟨q, hq, eq⟩ := h
      rcases List.mem_cons.mp hq with z | z
      · rw [z] at eq
        exact absurd eq e
      · exact ⟨q, z, eq⟩
theorem valV_out {κ : Type} [DecidableEq κ] {k : κ} : ∀ {kvs : List (κ × V)}, (∀ p ∈ kvs, p.1 ≠ k) → valV kvs k = none
  | [], _ => valV_nil
  | p :: r, h => by
    rw [valV_neg (h p List.mem_cons_self)]
    exact valV_out fun q hq => h q (List.mem_cons_of_mem _ hq)
theorem mem_prow {l : List Nat} {st : Stt} {a : Nat} {p : List Key × V} : p ∈ prow l st a ↔ ∃ b ∈ l, b ≠ a ∧ p = (pk a b, V.int (st a b : Int)) := by
  unfold prow
  rw [List.mem_map]
  constructor
  · rintro ⟨b, hb, rfl⟩
    rw [List.mem_filter, decide_eq_true_iff] at hb
    exact ⟨b, hb.1, hb.2, rfl⟩
  · rintro ⟨b, hb, n, rfl⟩
    exact ⟨b, List.mem_filter.mpr ⟨hb, decide_eq_true n⟩, rfl⟩
theorem pkv_get {l : List Nat} {st : Stt} {a b : Nat} (ha : a ∈ l) (hb : b ∈ l) (n : a ≠ b) : valV (pkv l st) (pk a b) = some (.int (st a b : Int)) := by
  refine valV_mem ⟨(pk a b, V.int (st a b : Int)), List.mem_flatMap.mpr ⟨a, ha, mem_prow.mpr ⟨b, hb, Ne.symm n, rfl⟩⟩, rfl⟩ fun p hp e => ?_
  obtain ⟨c, _, hc⟩ := List.mem_flatMap.mp hp
  obtain ⟨d, _, _, rfl⟩ := mem_prow.mp hc
  obtain ⟨rfl, rfl⟩ := pk_inj e
  rfl
theorem pkv_len {l : List Nat} {st : Stt} (h : l.length ≤ 60) : (pkv l st).length ≤ 3600 := by
  unfold pkv
  rw [List.length_flatMap]
  have : ∀ m : List Nat, (m.map fun a => (prow l st a).length).sum ≤ m.length * 60 := by
    intro m
    induction m with
    | nil => simp
    | cons a m ih =>
      rw [List.map_cons, List.sum_cons, List.length_cons]
      have : (prow l st a).length ≤ 60 := by
        unfold prow
        rw [List.length_map]
        exact Nat.le_trans (List.length_filter_le _ _) h
      omega
  have := this l
  omega
/-! ### a progress in the heap -/
def pf (g r l d : Addr) : List (Str × V) := [("graph", .ref g), ("rule", .ref r), ("left", .ref l), ("pairs", .ref d)]
theorem pf_graph {g r l d : Addr} : (pf g r l d).lookup ("graph" : Str) = some (.ref g) := by rfl
theorem pf_rule {g r l d : Addr} : (pf g r l d).lookup ("rule" : Str) = some (.ref r) := by rfl
theorem pf_left {g r l d : Addr} : (pf g r l d).lookup ("left" : Str) = some (.ref l) := by rfl
theorem pf_pairs {g r l d : Addr} : (pf g r l d).lookup ("pairs" : Str) = some (.ref d) := by rfl
theorem pf_no {g r l d : Addr} {m : Str} (h : ((["graph", "rule", "left", "pairs"] : List Str).contains m) = false := by decide +kernel) : (pf g r l d).lookup m = none := by
  have h' : ¬ m ∈ (["graph", "rule", "left", "pairs"] : List Str) := by
    intro q
    rw [List.contains_iff_mem.mpr q] at h
    cases h
  simp only [List.mem_cons, not_or] at h'
  unfold pf
  rw [List.lookup_cons, beq_eq_false_iff_ne.mpr h'.1]
  show List.lookup m [(("rule" : Str), V.ref r), ("left", .ref l), ("pairs", .ref d)] = none
  rw [List.lookup_cons, beq_eq_false_iff_ne.mpr h'.2.1]
  show List.lookup m [(("left" : Str), V.ref l), ("pairs", .ref d)] = none
  rw [List.lookup_cons, beq_eq_false_iff_ne.mpr h'.2.2.1]
  show List.lookup m [(("pairs" : Str), V.ref d)] = none
  rw [List.lookup_cons, beq_eq_false_iff_ne.mpr h'.2.2.2.1]
  rfl
def ProgAt (C : Addr) (H : Hp) (p g r : Addr) (left : List Nat) (st : Stt) : Prop :=
  ∃ (dx l d : Addr), H p = some (.ins C dx (pf g r l d)) ∧ H l = some (.lst (nl left)) ∧ H d = some (.dT (pkv left st))
theorem ProgAt.same {C : Addr} {H H' : Hp} (s : Same H H') {p g r : Addr} {left : List Nat} {st : Stt} (h : ProgAt C H p g r left st) : ProgAt C H' p g r left st := by
  obtain ⟨dx, l, d, h1, h2, h3⟩ := h
  exact ⟨dx, l, d, s _ _ h1, s _ _ h2, s _ _ h3⟩
structure ProgC (K : PySem.W.Frag) (C : Addr) : Prop where
  cl : Cls K C
  nG : NoAttr K C "graph"
  nR : NoAttr K C "rule"
  nL : NoAttr K C "left"
  nP : NoAttr K C "pairs"
/-- a new instance -/
theorem made_as {H0 H : Hp} {x dx C : Addr} (s : Same H0 H) (hx : H x = none) (hd : H dx = none) (n : dx ≠ x) : ∃ H', H' = upd (upd H dx (.own x)) x (.ins C dx []) ∧ Same H0 H' ∧ Same H H' ∧ H' x = some (.ins C dx []) ∧ H' dx = some (.own x) ∧ H0 x = none := by
  have s1 : Same H (upd (upd H dx (.own x)) x (.ins C dx [])) := fun b o e => by
    rw [upd_ne (ne_of_none e hx), upd_ne (ne_of_none e hd)]
    exact e
  exact ⟨_, rfl, s.trans s1, s1, upd_same, by rw [upd_ne n, upd_same], s.free hx⟩
def spPInit (C : Addr) : Sp := fun vs H Q _ => ∃ x dx g r l d : Addr, vs = [.ref x, .ref g, .ref r, .ref l, .ref d] ∧ H x = some (.ins C dx []) ∧ ∀ H' : Hp, SameX x H H' → H' x = some (.ins C dx (pf g r l d)) → Q .non H'
/-- the classes: of graphs, of rules, of progresses -/
structure Ad where
  G : Addr
  R : Addr
  P : Addr
def spBetter (C : Ad) : Sp := fun vs H Q _ => ∃ (p g r : Addr) (v : Nat) (M : Mach) (left : List Nat) (st : Stt), vs = [.ref p, .int v] ∧ ProgAt C.P H p g r left st ∧ RuleAt C.R H r M ∧ MOk M ∧ Fits M left st ∧ v ∈ left ∧ left.length ≤ 60 ∧
  ∀ (H' : Hp) (l : Addr), Same H H' → H l = none → H' l = some (.lst (nl (SR.better M left st v))) → Q (.ref l) H'
def spFree (C : Ad) : Sp := fun vs H Q _ => ∃ (p g r : Addr) (M : Mach) (left : List Nat) (st : Stt), vs = [.ref p] ∧ ProgAt C.P H p g r left st ∧ RuleAt C.R H r M ∧ MOk M ∧ Fits M left st ∧ left.length ≤ 60 ∧
  ∀ (H' : Hp) (l : Addr), Same H H' → H l = none → H' l = some (.lst (nl (SR.free M left st))) → Q (.ref l) H'
def spBehind (C : Ad) : Sp := fun vs H Q _ => ∃ (p g r : Addr) (v : Nat) (M : Mach) (near : List (List Nat)) (left : List Nat) (st : Stt), vs = [.ref p, .int v] ∧ ProgAt C.P H p g r left st ∧ RuleAt C.R H r M ∧ GraphAt C.G H g near ∧ MOk M ∧ Fits M left st ∧ v < near.length ∧ left.Nodup ∧ left.length ≤ 60 ∧
  ∀ (H' : Hp) (q : Addr), Same H H' → H q = none → (ProgAt C.P H' q g r (SR.bhL left v) (SR.bhS M near st v) ∧ ∀ dx l d, H' q = some (.ins C.P dx (pf g r l d)) → H l = none) → Q (.ref q) H'
/-- the values of what is known -/
def pvs (left : List Nat) (st : Stt) : List Int := left.flatMap fun a => (left.filter fun b => decide (b ≠ a)).map fun b => (st a b : Int)
theorem pvs_eq (left : List Nat) (st : Stt) : (pkv left st).map (·.2) = (pvs left st).map V.int := by
  unfold pkv pvs prow
  rw [List.map_flatMap, List.map_flatMap]
  simp only [List.map_map]
  rfl
def pkey (left : List Nat) (st : Stt) : NestedKey := .tup [.tup (nums (left.map fun a : Nat => (a : Int))), .tup (nums (pvs left st))]
def spKey (C : Ad) : Sp := fun vs H Q _ => ∃ (p g r : Addr) (left : List Nat) (st : Stt), vs = [.ref p] ∧ ProgAt C.P H p g r left st ∧ ∀ (H' : Hp) (k : Addr), Same H H' → H k = none → KAt H' k (pkey left st) → Q (.ref k) H'
def spStarted (C : Ad) : Sp := fun vs H Q _ => ∃ (g r : Addr) (near : List (List Nat)), vs = [.ref g, .ref r] ∧ GraphAt C.G H g near ∧ near.length ≤ 60 ∧
  ∀ (H' : Hp) (p : Addr), Same H H' → H p = none → ProgAt C.P H' p g r (List.range near.length) SR.zero → Q (.ref p) H'
section
variable {P : Program} {w : World} {K : PySem.W.Frag} {mg : Str → Option Value} {base : Heap} {C : Ad}
theorem ok_PInit (G : ProgC K C.P) (D : Di K mg "Progress" C.P "Progress.__init__" (inClass (topS 22) 0)) : MkB P w K mg base CX0 1 "Progress" C.P ["self", "graph", "rule", "left", "pairs"] (spPInit C.P) := by
  refine D.ok sc_Progress___init__ (fun vs H Q E h => ?_) (fun _ _ _ _ _ _ us hl => match us, hl with | [_, _, _, _, _], _ => rfl) (fun f cdv A outer s H vs Q E hr h => ?_)
  · obtain ⟨x, dx, g, r, l, d, rfl, _⟩ := h
    rfl
  · obtain ⟨x, dx, g, r, l, d, rfl, hx, q⟩ := h
    refine ⟨_, (pss_cons (ps_fld (pv 0) (pv 1) rfl) (pss_cons (ps_fld (pv 0) (pv 2) rfl) (pss_cons (ps_fld (pv 0) (pv 3) rfl) (pss_one (ps_fld (pv 0) (pv 4) rfl))))), ?_⟩
    refine ⟨_, rfl, _, rfl, x, C.P, dx, [], rfl, hx, G.cl, G.nG, by show 0 < 1000; decide, ?_⟩
    refine ⟨_, rfl, _, rfl, x, C.P, dx, _, rfl, upd_same, G.cl, G.nR, by show 1 < 1000; decide, ?_⟩
    refine ⟨_, rfl, _, rfl, x, C.P, dx, _, rfl, upd_same, G.cl, G.nL, by show 2 < 1000; decide, ?_⟩
    refine ⟨_, rfl, _, rfl, x, C.P, dx, _, rfl, upd_same, G.cl, G.nP, by show 3 < 1000; decide, ?_⟩
    exact q _ (fun b o n e => by rw [upd_ne n, upd_ne n, upd_ne n, upd_ne n]; exact e) upd_same
theorem nl_in {a : Nat} {l : List Nat} : inV (.int (a : Int)) (nl l) = decide (a ∈ l) := by
  unfold inV nl
  induction l with
  | nil => rfl
  | cons b l ih =>
    rw [List.map_cons, List.any_cons, ih]
    have e : eqV (V.int (b : Int)) (V.int (a : Int)) = decide (a = b) := by
      show ((b : Int) == (a : Int)) = _
      by_cases q : a = b
      · subst q; simp
      · rw [decide_eq_false q]
        exact beq_eq_false_iff_ne.mpr fun z => q (Int.ofNat.inj z).symm
    rw [e]
    by_cases q : a = b
    · subst q; simp
    · simp [q]
theorem nl_flat (l : List Nat) : (nl l).all flatV = true := by
  unfold nl
  rw [List.all_eq_true]
  intro x hx
  obtain ⟨n, _, rfl⟩ := List.mem_map.mp hx
  rfl
theorem ne_nat {o v : Nat} : (!decide (V.int (o : Int) = V.int (v : Int))) = decide (o ≠ v) := by
  by_cases c : o = v
  · subst c; simp
  · rw [decide_eq_true c]
    have : ¬ V.int (o : Int) = V.int (v : Int) := fun z => c (Int.ofNat.inj (V.int.inj z))
    rw [decide_eq_false this]
    rfl
theorem ok_better (RC : RuleC K C.R) (G : ProgC K C.P) (D : Dm K C.P "better" "Progress.better" (inClass (topS 22) 1)) : MeB P w K mg base CX0 1 C.P "better" ["self", "node"] (spBetter C) := by
  refine D.ok sc_Progress_better (fun vs H Q E h => ?_) (fun _ _ _ _ _ _ us hl => match us, hl with | [_, _], _ => rfl) (fun f cdv A outer s H vs Q E hr h => ?_)
  · obtain ⟨p, g, r, v, M, left, st, rfl, _⟩ := h
    rfl
  · obtain ⟨p, g, r, v, M, left, st, rfl, ⟨dx, l, d, hp, hl, hd⟩, ⟨rx, rl, fl, as, h1, h2, h3, h4⟩, hM, hF, hv, h60, q⟩ := h
    refine ⟨_, (pss_cons (ps_set (i := 2) sc_Progress_better.nd rfl (Or.inr rfl) (pe_fld (pe_fld (pv 0) rfl) rfl)) (pss_one (ps_ret (pe_lc (own := [("other", 3)]) rfl sc_Progress_better.nd (pi_list (pe_fld (pv 0) rfl)) (blkOk_by (own := [("other", 3)]) (N := N_Progress_better) (sc := defScope (inClass (topS 22) 1)) (by decide +kernel)) (fun _ _ _ _ _ => (pg_name (i := 3) sc_Progress_better.nd rfl (Or.inl rfl))) (fun _ _ _ _ _ => (pts_one (PW.pt (pw_and (pt_cmpR op_ne (pv 3) (pv 1) (nomark _)) (pw_and1 (pt_val (pe_ixLK K (pv 2) (pe_dgetA hr (pe_fldK K (pv 0)) (pe_tup (pa_cons (pv 1) (pa_cons (pv 3) pa_nil))))))))))) (fun _ _ _ _ _ => (pv 3)))))), ?_⟩
    refine ⟨_, rfl, p, C.P, dx, _, _, rfl, hp, G.cl, G.nR, pf_rule, r, C.R, rx, _, _, rfl, h1, RC.cl, RC.nF, rf_flags, ?_⟩
    refine ⟨_, rfl, p, C.P, dx, _, _, rfl, hp, G.cl, G.nL, pf_left, l, rfl, ⟨_, SqL.of hl⟩, fun D nD => ?_⟩
    refine lc_list (K := K) (a := l) (xs := nl left) (fun i H1 => Same H H1 ∧ H1 D = some (.lst (nl (SR.better M (left.take i) st v)))) ⟨same_upd nD, upd_same⟩ (fun i H1 _ ⟨s1, _⟩ => SqL.of (s1 _ _ hl)) ?_ ?_
    · rintro i x H1 hx ⟨s1, hD⟩
      obtain ⟨o, ho, rfl⟩ := nl_get hx
      have hol := List.mem_of_getElem? ho
      have eb : ∀ c : Bool, SR.better M (left.take (i + 1)) st v = SR.better M (left.take i) st v ++ (if (decide (o ≠ v) && M.fl (st v o)) = true then [o] else []) := fun _ => by
        unfold SR.better
        rw [take_get ho, List.filter_append, List.filter_cons, List.filter_nil]
      have eb := eb true
      refine ⟨rfl, ?_⟩
      refine ⟨_, rfl, _, rfl, rfl, _, rfl, ?_⟩
      rw [ne_nat]
      by_cases c : o = v
      · rw [decide_eq_false (fun z => z c)]
        refine iteF (iteF ⟨s1, ?_⟩)
        rw [eb, decide_eq_false (fun z => z c)]
        simpa using hD
      · rw [decide_eq_true c]
        refine iteT ⟨_, rfl, _, rfl, p, C.P, dx, _, _, rfl, s1 _ _ hp, G.cl, G.nP, pf_pairs, _, rfl, _, rfl, by show 2 ≤ sizeLine; decide, fun t nt => ?_⟩
        obtain ⟨H2, e2, s2, s12, ht, _⟩ := new_as (o := .tup [.int (v : Int), .int (o : Int)]) s1 nt
        rw [← e2]
        clear e2
        have hlt : st v o < M.rows.length := hF v hv o hol (Ne.symm c)
        have hfl : (bls M.flags)[st v o]? = some (.bl (M.fl (st v o))) := by
          unfold bls Mach.fl
          have : st v o < M.flags.length := by rw [hM.fl]; exact hlt
          rw [List.getElem?_map, List.getD_eq_getElem?_getD, List.getElem?_eq_getElem this]
          rfl
        refine ⟨d, .int (st v o : Int), rfl, ?_, fl, _, _, .bl (M.fl (st v o)), rfl, rfl, SqL.of (s2 _ _ h4), atI_nat hfl, _, rfl, ?_⟩
        · rw [← pkv_get (st := st) hv hol (Ne.symm c)]
          exact DGet.t (k := pk v o) (s2 _ _ hd) ht
        · cases hb : M.fl (st v o) with
          | false =>
            refine iteF ⟨s2, ?_⟩
            rw [eb, hb, decide_eq_true c]
            simpa using s12 _ _ hD
          | true =>
            refine iteT ⟨_, rfl, _, s12 _ _ hD, ?_, ?_, ?_⟩
            · rw [nl_length]
              refine line_lt ?_
              have := List.length_filter_le (fun o => decide (o ≠ v) && M.fl (st v o)) (left.take i)
              have h6 : (left.take i).length ≤ left.length := by rw [List.length_take]; exact Nat.min_le_right _ _
              show (SR.better M (left.take i) st v).length ≤ 10000
              unfold SR.better
              omega
            · intro b ob e
              rw [upd_ne (ne_of_none e nD)]
              exact s2 _ _ e
            · rw [upd_same, eb, hb, decide_eq_true c, Bool.true_and, if_pos rfl, nl_append]
              rfl
    · rintro H1 ⟨s1, hD⟩
      rw [nl_length, List.take_length] at hD
      exact q H1 D s1 nD hD
theorem tru_nl {K : PySem.W.Frag} {H : Hp} {a : Addr} {l : List Nat} (h : H a = some (.lst (nl l))) : TruV K (.ref a) H (!l.isEmpty) :=
  .inl ⟨nl l, SqL.of h, by cases l <;> rfl⟩
theorem ok_free (G : ProgC K C.P) (D : Dm K C.P "free" "Progress.free" (inClass (topS 22) 2)) (FB : MeB P w K mg base CX0 1 C.P "better" ["self", "node"] (spBetter C)) : MeB P w K mg base CX0 2 C.P "free" ["self"] (spFree C) := by
  refine D.ok sc_Progress_free (fun vs H Q E h => ?_) (fun _ _ _ _ _ _ us hl => match us, hl with | [_], _ => rfl) (fun f cdv A outer s H vs Q E hr h => ?_)
  · obtain ⟨p, g, r, M, left, st, rfl, _⟩ := h
    rfl
  · obtain ⟨p, g, r, M, left, st, rfl, hP, hR, hM, hF, h60, q⟩ := h
    obtain ⟨dx, l, d, hp, hl, hd⟩ := id hP
    refine ⟨_, (pss_one (ps_ret (pe_lc (own := [("node", 1)]) rfl sc_Progress_free.nd (pi_list (pe_fld (pv 0) rfl)) (blkOk_by (own := [("node", 1)]) (N := N_Progress_free) (sc := defScope (inClass (topS 22) 2)) (by decide +kernel)) (fun _ _ _ _ _ => (pg_name (i := 1) sc_Progress_free.nd rfl (Or.inl rfl))) (fun _ _ _ _ _ => (pts_one (pt_not (pt_truthK K (pe_me (pv 0) FB hr pass0 (pa_cons (pv 1) pa_nil)))))) (fun _ _ _ _ _ => (pv 1))))), ?_⟩
    refine ⟨_, rfl, p, C.P, dx, _, _, rfl, hp, G.cl, G.nL, pf_left, l, rfl, ⟨_, SqL.of hl⟩, fun D nD => ?_⟩
    refine lc_list (K := K) (a := l) (xs := nl left) (fun i H1 => Same H H1 ∧ H1 D = some (.lst (nl ((left.take i).filter fun v => (SR.better M left st v).isEmpty)))) ⟨same_upd nD, upd_same⟩ (fun i H1 _ ⟨s1, _⟩ => SqL.of (s1 _ _ hl)) ?_ ?_
    · rintro i x H1 hx ⟨s1, hD⟩
      obtain ⟨o, ho, rfl⟩ := nl_get hx
      have hol := List.mem_of_getElem? ho
      have eb : (left.take (i + 1)).filter (fun v => (SR.better M left st v).isEmpty) = (left.take i).filter (fun v => (SR.better M left st v).isEmpty) ++ (if (SR.better M left st o).isEmpty = true then [o] else []) := by
        rw [take_get ho, List.filter_append, List.filter_cons, List.filter_nil]
      refine ⟨rfl, ?_⟩
      refine ⟨_, rfl, p, dx, _, rfl, s1 _ _ hp, pf_no, _, rfl, p, g, r, o, M, left, st, rfl, hP.same s1, hR.same s1, hM, hF, hol, h60, fun H2 b s12 nb hb => ?_⟩
      refine ⟨_, tru_nl hb, ?_⟩
      have s2 := s1.trans s12
      cases c : (SR.better M left st o).isEmpty with
      | false =>
        refine iteF ⟨s2, ?_⟩
        rw [eb, c]
        simpa using s12 _ _ hD
      | true =>
        refine iteT ⟨_, rfl, _, s12 _ _ hD, ?_, ?_, ?_⟩
        · rw [nl_length]
          refine line_lt ?_
          have := List.length_filter_le (fun v => (SR.better M left st v).isEmpty) (left.take i)
          have h6 : (left.take i).length ≤ left.length := by rw [List.length_take]; exact Nat.min_le_right _ _
          omega
        · intro b ob e
          rw [upd_ne (ne_of_none e nD)]
          exact s2 _ _ e
        · rw [upd_same, eb, c, if_pos rfl, nl_append]
          rfl
    · rintro H1 ⟨s1, hD⟩
      rw [nl_length, List.take_length] at hD
      exact q H1 D s1 nD hD
/-! ### the two loops that lay the pairs -/
theorem flat_step {l bl : List Nat} {st : Stt} {i a : Nat} (h : l[i]? = some a) : (l.take (i + 1)).flatMap (prow bl st) = (l.take i).flatMap (prow bl st) ++ prow bl st a := by
  rw [take_get h, List.flatMap_append]
  simp
theorem prow_step {l : List Nat} {st : Stt} {a j b : Nat} (h : l[j]? = some b) : prow (l.take (j + 1)) st a = prow (l.take j) st a ++ (if b ≠ a then [(pk a b, V.int (st a b : Int))] else []) := by
  unfold prow
  rw [take_get h, List.filter_append, List.map_append, List.filter_cons, List.filter_nil]
  by_cases e : b = a
  · rw [if_neg (by simp [e]), if_neg (fun z => z e)]
    rfl
  · rw [if_pos (by simp [e]), if_pos e]
    rfl
theorem not_take {l : List Nat} {i a : Nat} (nd : l.Nodup) (h : l[i]? = some a) : a ∉ l.take i := not_mem_take nd h
theorem pkv_fresh {l : List Nat} {st : Stt} {i j a b : Nat} (nd : l.Nodup) (ha : l[i]? = some a) (hb : l[j]? = some b) : valV ((l.take i).flatMap (prow l st) ++ prow (l.take j) st a) (pk a b) = none := by
  refine valV_out fun p hp e => ?_
  rcases List.mem_append.mp hp with hp | hp
  · obtain ⟨c, hc, hp⟩ := List.mem_flatMap.mp hp
    obtain ⟨d, _, _, rfl⟩ := mem_prow.mp hp
    obtain ⟨rfl, _⟩ := pk_inj e
    exact not_take nd ha hc
  · obtain ⟨d, hd, _, rfl⟩ := mem_prow.mp hp
    obtain ⟨_, rfl⟩ := pk_inj e
    exact not_take nd hb hd
theorem pkv_part {l : List Nat} {st : Stt} {i j a : Nat} (h : l.length ≤ 60) : ((l.take i).flatMap (prow l st) ++ prow (l.take j) st a).length < sizeLine := by
  refine line_lt ?_
  have hr : ∀ m : List Nat, m.length ≤ 60 → ∀ a, (prow m st a).length ≤ 60 := fun m hm a => by
    unfold prow
    rw [List.length_map]
    exact Nat.le_trans (List.length_filter_le _ _) hm
  have : ∀ m : List Nat, (m.flatMap (prow l st)).length ≤ m.length * 60 := by
    intro m
    induction m with
    | nil => simp
    | cons a m ih =>
      rw [List.flatMap_cons, List.length_append, List.length_cons]
      have := hr l h a
      omega
  have h1 := this (l.take i)
  have h2 : (l.take i).length ≤ l.length := by rw [List.length_take]; exact Nat.min_le_right _ _
  have h3 := hr (l.take j) (by rw [List.length_take]; have := Nat.min_le_right j l.length; omega) a
  rw [List.length_append]
  omega
theorem rgV_nl (n : Nat) : rgV 0 (n : Int) = nl (List.range n) := by
  unfold rgV nl
  rw [show ((n : Int) - 0).toNat = n by omega]
  refine List.map_congr_left fun i _ => ?_
  rw [Int.zero_add]
theorem ok_started (T : Bl mg) (D : Df K mg "started" (topS 23)) (FS : PrB P w K mg base CX0 1 C.G "size" (spSize C.G)) (FI : MkB P w K mg base CX0 1 "Progress" C.P ["self", "graph", "rule", "left", "pairs"] (spPInit C.P)) :
    FnB P w K mg base CX0 3 "started" ["graph", "rule"] [] (spStarted C) := by
  refine D.ok sc_started (fun vs H Q E h => ?_) (fun _ _ _ _ _ _ us hl => match us, hl with | [_, _], _ => rfl) (fun f cdv A outer s H vs Q E hr h => ?_)
  · obtain ⟨g, r, near, rfl, _⟩ := h
    rfl
  · obtain ⟨g, r, near, rfl, hg, h60, q⟩ := h
    refine ⟨_, (pss_cons (ps_set (i := 2) sc_started.nd rfl (Or.inl rfl) (pe_listRg rfl (by rfl) T.b_list (prg_1 (by rfl) T.b_range (pe_pr (pv 0) FS (hr.mono (by decide)) pass0 rfl)))) (pss_cons (ps_set (i := 3) sc_started.nd rfl (Or.inl rfl) pe_dnewT) (pss_cons (ps_for PassesOwn.never rfl (pi_list (pv 2)) (pg_name (i := 4) sc_started.nd rfl (Or.inl rfl)) (pss_one (ps_for PassesOwn.never rfl (pi_list (pv 2)) (pg_name (i := 5) sc_started.nd rfl (Or.inl rfl)) (pss_one (ps_if (pt_cmpR op_ne (pv 4) (pv 5) (nomark _)) (pss_one (ps_dput (hu_of hr) (pv 3) (pe_tup (pa_cons (pv 4) (pa_cons (pv 5) pa_nil))) pe_int rfl)) pss_nil))))) (pss_one (ps_ret (pe_mk FI hr pass0 (pa_cons (pv 0) (pa_cons (pv 1) (pa_cons (pv 2) (pa_cons (pv 3) pa_nil)))))))))), ?_⟩
    obtain ⟨dx, tl, nr, as, hg1, _⟩ := id hg
    refine ⟨_, rfl, g, dx, _, rfl, hg1, g, near, rfl, hg, near.length, rfl, .of_le (Int.le_refl _) (by omega) (by omega) (by omega), fun l nl0 => ?_⟩
    obtain ⟨H1, e1, _, s1, hl1, _⟩ := new_as (o := .lst (rgV 0 (near.length : Int))) (Same.refl H) nl0
    rw [← e1]
    clear e1
    rw [rgV_nl] at hl1
    generalize hL : List.range near.length = L at hl1 q
    have ndL : L.Nodup := by rw [← hL]; exact List.nodup_range
    have hLl : L.length ≤ 60 := by rw [← hL, List.length_range]; exact h60
    intro d nd
    obtain ⟨H2, e2, s2, s12, hd2, ndH⟩ := new_as (o := .dT []) s1 nd
    rw [← e2]
    clear e2
    refine ⟨_, rfl, l, rfl, ⟨_, SqL.of (s12 _ _ hl1)⟩, for_list (K := K) (a := l) (xs := nl L) (fun i σ H3 => ∃ v4 v5, σ = [some (.ref g), some (.ref r), some (.ref l), some (.ref d), v4, v5] ∧ Same H1 H3 ∧ H3 d = some (.dT ((L.take i).flatMap (prow L SR.zero)))) ⟨_, _, rfl, s12, hd2⟩
      (fun i σ H3 _ ⟨_, _, _, h3, _⟩ => SqL.of (h3 _ _ hl1)) ?_ ?_⟩
    · rintro i x σ H3 hx ⟨v4, v5, rfl, s3, hd3⟩
      obtain ⟨a, ha, rfl⟩ := nl_get hx
      refine ⟨_, rfl, l, rfl, ⟨_, SqL.of (s3 _ _ hl1)⟩, for_list (K := K) (a := l) (xs := nl L) (fun j σ H4 => ∃ v5, σ = [some (.ref g), some (.ref r), some (.ref l), some (.ref d), some (.int (a : Int)), v5] ∧ Same H1 H4 ∧ H4 d = some (.dT ((L.take i).flatMap (prow L SR.zero) ++ prow (L.take j) SR.zero a))) ⟨_, rfl, s3, by rw [hd3]; simp [prow]⟩
        (fun i σ H3 _ ⟨_, _, h3, _⟩ => SqL.of (h3 _ _ hl1)) ?_ ?_⟩
      · rintro j y σ H4 hy ⟨v5, rfl, s4, hd4⟩
        obtain ⟨b, hb, rfl⟩ := nl_get hy
        refine ⟨_, rfl, _, rfl, rfl, _, rfl, ?_⟩
        have nn : (!decide (V.int (a : Int) = V.int (b : Int))) = decide (a ≠ b) := ne_nat
        rw [nn]
        by_cases c : a = b
        · subst c
          rw [decide_eq_false (fun z => z rfl)]
          refine iteF ⟨_, rfl, s4, ?_⟩
          rw [hd4, prow_step hb, if_neg (fun z => z rfl), List.append_nil]
        · rw [decide_eq_true c]
          refine iteT ⟨_, rfl, _, rfl, _, rfl, by show 2 ≤ sizeLine; decide, fun t nt => ?_⟩
          obtain ⟨H5, e5, s5, s45, ht, _⟩ := new_as (o := .tup [.int (a : Int), .int (b : Int)]) s4 nt
          rw [← e5]
          clear e5
          refine ⟨d, _, rfl, DPut.t (k := pk a b) (s45 _ _ hd4) ht (pkv_part hLl), _, rfl, ?_, ?_⟩
          · intro z o e
            rw [upd_ne (ne_of_none e (s1.free nd |> fun _ => nd))]
            exact s5 _ _ e
          · rw [upd_same, putK_new _ (pkv_fresh ndL ha hb), prow_step hb, if_pos (Ne.symm c), List.append_assoc]
            rfl
      · rintro σ H4 ⟨v5, rfl, s4, hd4⟩
        refine ⟨_, _, rfl, s4, ?_⟩
        rw [hd4, flat_step ha, nl_length, List.take_length]
    · rintro σ H3 ⟨v4, v5, rfl, s3, hd3⟩
      rw [nl_length, List.take_length] at hd3
      refine ⟨_, rfl, _, rfl, _, rfl, _, rfl, fun x dx hx hdx n => ?_⟩
      obtain ⟨H4, e4, s4, s34, hx4, hdx4, x0⟩ := made_as (C := C.P) (s1.trans s3) hx hdx n
      rw [← e4]
      clear e4
      refine ⟨x, dx, g, r, l, d, rfl, hx4, fun H5 s5 hx5 => ⟨rfl, ?_⟩⟩
      refine q H5 x ?_ x0 ⟨dx, l, d, hx5, s5 _ _ (ne_of_none (s3 _ _ hl1) hx) (s34 _ _ (s3 _ _ hl1)), s5 _ _ (ne_of_none hd3 hx) (s34 _ _ hd3)⟩
      exact fun b o e => s5 _ _ (ne_of_none e x0) (s4 _ _ e)
theorem ok_key (T : Bl mg) (G : ProgC K C.P) (D : Dm K C.P "key" "Progress.key" (inClass (topS 22) 4)) : MeB P w K mg base CX0 1 C.P "key" ["self"] (spKey C) := by
  refine D.ok sc_Progress_key (fun vs H Q E h => ?_) (fun _ _ _ _ _ _ us hl => match us, hl with | [_], _ => rfl) (fun f cdv A outer s H vs Q E hr h => ?_)
  · obtain ⟨p, g, r, left, st, rfl, _⟩ := h
    rfl
  · obtain ⟨p, g, r, left, st, rfl, ⟨dx, l, d, hp, hl, hd⟩, q⟩ := h
    refine ⟨_, (pss_one (ps_ret (pe_tup (pa_cons (pe_callTy call_tuple_of (by rfl) T.b_tuple (by decide +kernel) (pa_cons (pe_fld (pv 0) rfl) pa_nil)) (pa_cons (pe_callTy call_tuple_of (by rfl) T.b_tuple (by decide +kernel) (pa_cons (pe_listVals rfl (pe_fld (pv 0) rfl) (by rfl) T.b_list) pa_nil)) pa_nil))))), ?_⟩
    refine ⟨_, rfl, p, C.P, dx, _, _, rfl, hp, G.cl, G.nL, pf_left, l, _, rfl, .inl ⟨SqL.of hl, fun t nt => ?_⟩⟩
    obtain ⟨H1, e1, _, s1, ht, _⟩ := new_as (o := .tup (nl left)) (Same.refl H) nt
    rw [← e1]
    clear e1
    refine ⟨_, rfl, p, C.P, dx, _, _, rfl, s1 _ _ hp, G.cl, G.nP, pf_pairs, d, rfl, .inl ⟨_, s1 _ _ hd, fun m nm => ?_⟩⟩
    obtain ⟨H2, e2, s2, s12, hm, _⟩ := new_as (o := .lst ((pkv left st).map (·.2))) s1 nm
    rw [← e2]
    clear e2
    refine ⟨m, _, rfl, .inl ⟨SqL.of hm, fun u nu => ?_⟩⟩
    obtain ⟨H3, e3, s3, s23, hu, _⟩ := new_as (o := .tup ((pkv left st).map (·.2))) s2 nu
    rw [← e3]
    clear e3
    refine ⟨by show 2 ≤ sizeLine; decide, fun k nk => ?_⟩
    obtain ⟨H4, e4, s4, s34, hk, k0⟩ := new_as (o := .tup [.ref t, .ref u]) s3 nk
    rw [← e4]
    clear e4
    rw [pvs_eq] at hu
    refine q H4 k s4 k0 (.two hk ?_ (s34 _ _ hu))
    have := s34 _ _ (s23 _ _ (s12 _ _ ht))
    rw [this]
    unfold nl
    rw [List.map_map]
    rfl
theorem ok_behind (T : Bl mg) (GC : GraphC K C.G) (RC : RuleC K C.R) (G : ProgC K C.P) (D : Dm K C.P "behind" "Progress.behind" (inClass (topS 22) 3)) (FI : MkB P w K mg base CX0 1 "Progress" C.P ["self", "graph", "rule", "left", "pairs"] (spPInit C.P)) :
    MeB P w K mg base CX0 3 C.P "behind" ["self", "node"] (spBehind C) := by
  refine D.ok sc_Progress_behind (fun vs H Q E h => ?_) (fun _ _ _ _ _ _ us hl => match us, hl with | [_, _], _ => rfl) (fun f cdv A outer s H vs Q E hr h => ?_)
  · obtain ⟨p, g, r, v, M, near, left, st, rfl, _⟩ := h
    rfl
  · obtain ⟨p, g, r, v, M, near, left, st, rfl, hP, hR, hG, hM, hF, hv, ndl, h60, q⟩ := h
    obtain ⟨dx, l, d0, hp, hl, hd0⟩ := id hP
    obtain ⟨rx, rl, fl, ras, hr1, hr2, hr3, hr4⟩ := id hR
    obtain ⟨gx, tl, nr, as, hg1, hg2, hg3⟩ := id hG
    refine ⟨_, (pss_cons (ps_set (i := 2) sc_Progress_behind.nd rfl (Or.inr rfl) (pe_ix ix_list (pe_fld (pe_fld (pv 0) rfl) rfl) (pv 1) (fun _ _ => rfl))) (pss_cons (ps_setLc (i := 3) (own := [("other", 4)]) rfl sc_Progress_behind.nd rfl rfl (sw_true rfl rfl rfl (by decide +kernel)) (pi_list (pe_fld (pv 0) rfl)) (blkOk_by (own := [("other", 4)]) (N := N_Progress_behind) (sc := defScope (inClass (topS 22) 3)) (by decide +kernel)) (fun _ _ _ _ _ => (pg_name (i := 4) sc_Progress_behind.nd rfl (Or.inl rfl))) (fun _ _ _ _ _ => (pts_one (pt_cmpR op_ne (pv 4) (pv 1) (nomark _)))) (fun _ _ _ _ _ => (pv 4))) (pss_cons (ps_setLc (i := 5) (own := [("other", 4)]) rfl sc_Progress_behind.nd rfl rfl (sw_true rfl rfl rfl (by decide +kernel)) (pi_list (pv 3)) (blkOk_by (own := [("other", 4)]) (N := N_Progress_behind) (sc := defScope (inClass (topS 22) 3)) (by decide +kernel)) (fun _ _ _ _ _ => (pg_name (i := 4) sc_Progress_behind.nd rfl (Or.inl rfl))) (fun _ _ _ _ _ => pts_nil) (fun _ _ _ _ _ => (pe_callTy call_int1 (by rfl) T.b_int (by decide +kernel) (pa_cons (pe_cmpR (op_inK K) (pv 4) (pv 2) rfl) pa_nil)))) (pss_cons (ps_set (i := 6) sc_Progress_behind.nd rfl (Or.inl rfl) (pe_fld (pe_fld (pv 0) rfl) rfl)) (pss_cons (ps_set (i := 7) sc_Progress_behind.nd rfl (Or.inl rfl) pe_dnewT) (pss_cons (ps_for PassesOwn.never rfl (pi_zip (by rfl) T.b_zip (pa_cons (pv 3) (pa_cons (pv 5) pa_nil))) (pg_tup rfl (pgs_cons (pg_name (i := 8) sc_Progress_behind.nd rfl (Or.inl rfl)) (pgs_cons (pg_name (i := 9) sc_Progress_behind.nd rfl (Or.inl rfl)) pgs_nil))) (pss_one (ps_for PassesOwn.never rfl (pi_zip (by rfl) T.b_zip (pa_cons (pv 3) (pa_cons (pv 5) pa_nil))) (pg_tup rfl (pgs_cons (pg_name (i := 4) sc_Progress_behind.nd rfl (Or.inl rfl)) (pgs_cons (pg_name (i := 10) sc_Progress_behind.nd rfl (Or.inl rfl)) pgs_nil))) (pss_one (ps_if (pt_cmpR op_ne (pv 8) (pv 4) (nomark _)) (pss_one (ps_dput (hu_of hr) (pv 7) (pe_tup (pa_cons (pv 8) (pa_cons (pv 4) pa_nil))) (pe_ix ix_tup (pe_ix ix_list (pv 6) (pe_dgetA hr (pe_fld (pv 0) rfl) (pe_tup (pa_cons (pv 8) (pa_cons (pv 4) pa_nil)))) (fun _ _ => rfl)) (pe_op op_add (pv 9) (pe_op op_mul pe_int (pv 10))) (fun _ _ => rfl)) rfl)) pss_nil))))) (pss_one (ps_ret (pe_mk FI hr pass0 (pa_cons (pe_fld (pv 0) rfl) (pa_cons (pe_fld (pv 0) rfl) (pa_cons (pv 3) (pa_cons (pv 7) pa_nil))))))))))))), ?_⟩
    -- near
    obtain ⟨an, han⟩ : ∃ an, as[v]? = some an := ⟨as[v]'(by have := Paired.length hg3; omega), List.getElem?_eq_getElem _⟩
    obtain ⟨nv, hnv, hnl⟩ := Paired.get hg3 han
    have enear : near.getD v [] = nv := by rw [List.getD_eq_getElem?_getD, hnv]; rfl
    refine ⟨_, rfl, p, C.P, dx, _, _, rfl, hp, G.cl, G.nG, pf_graph, g, C.G, gx, _, _, rfl, hg1, GC.cl, GC.nN, gf_near, _, rfl, nr, _, _, .ref an, rfl, rfl, SqL.of hg2, atI_nat (by unfold refs; rw [List.getElem?_map, han]; rfl), ?_⟩
    have hnl : H an = some (.lst (nl nv)) := hnl
    -- left
    refine ⟨_, rfl, p, C.P, dx, _, _, rfl, hp, G.cl, G.nL, pf_left, l, rfl, ⟨_, SqL.of hl⟩, fun l2 nl2 => ?_⟩
    refine lc_list (K := K) (a := l) (xs := nl left) (fun i H1 => Same H H1 ∧ H1 l2 = some (.lst (nl (SR.bhL (left.take i) v)))) ⟨same_upd nl2, upd_same⟩ (fun i H1 _ ⟨s1, _⟩ => SqL.of (s1 _ _ hl)) ?_ ?_
    · rintro i x H1 hx ⟨s1, hD⟩
      obtain ⟨o, ho, rfl⟩ := nl_get hx
      have eb : SR.bhL (left.take (i + 1)) v = SR.bhL (left.take i) v ++ (if decide (o ≠ v) = true then [o] else []) := by
        unfold SR.bhL
        rw [take_get ho, List.filter_append, List.filter_cons, List.filter_nil]
      refine ⟨rfl, ?_⟩
      refine ⟨_, rfl, _, rfl, rfl, _, rfl, ?_⟩
      rw [ne_nat]
      by_cases c : o = v
      · rw [decide_eq_false (fun z => z c)]
        refine iteF ⟨s1, ?_⟩
        rw [eb, decide_eq_false (fun z => z c)]
        simpa using hD
      · rw [decide_eq_true c]
        refine iteT ⟨_, rfl, _, hD, ?_, ?_, ?_⟩
        · rw [nl_length]
          refine line_lt ?_
          have := List.length_filter_le (fun o => decide (o ≠ v)) (left.take i)
          have h6 : (left.take i).length ≤ left.length := by rw [List.length_take]; exact Nat.min_le_right _ _
          show (SR.bhL (left.take i) v).length ≤ 10000
          unfold SR.bhL
          omega
        · intro b ob e
          rw [upd_ne (ne_of_none e nl2)]
          exact s1 _ _ e
        · rw [upd_same, eb, decide_eq_true c, if_pos rfl, nl_append]
          rfl
    rintro H1 ⟨s1, hl2⟩
    rw [nl_length, List.take_length] at hl2
    generalize hL : SR.bhL left v = L at hl2 q
    have ndL : L.Nodup := by rw [← hL]; exact ndl.filter _
    have hLl : L.length ≤ 60 := by rw [← hL]; exact Nat.le_trans (List.length_filter_le _ _) h60
    have hLin : ∀ a ∈ L, a ∈ left := fun a ha => by rw [← hL] at ha; exact (SR.mem_bhL.mp ha).1
    -- marks
    refine ⟨_, rfl, l2, rfl, ⟨_, SqL.of hl2⟩, fun ml nml => ?_⟩
    refine lc_list (K := K) (a := l2) (xs := nl L) (fun i H2 => Same H1 H2 ∧ H2 ml = some (.lst (nl ((L.take i).map (SR.mk near v))))) ⟨same_upd nml, upd_same⟩ (fun i H2 _ ⟨s2, _⟩ => SqL.of (s2 _ _ hl2)) ?_ ?_
    · rintro i x H2 hx ⟨s2, hD⟩
      obtain ⟨o, ho, rfl⟩ := nl_get hx
      refine ⟨rfl, ?_⟩
      refine ⟨_, rfl, _, rfl, an, _, rfl, .inl (SqL.of (s2 _ _ (s1 _ _ hnl))), rfl, nl_flat _, ?_⟩
      rw [if_neg (by decide), nl_in]
      refine .inr ⟨_, rfl, _, hD, ?_, ?_, ?_⟩
      · rw [nl_length, List.length_map, List.length_take]
        exact line_lt (by omega)
      · intro b ob e
        rw [upd_ne (ne_of_none e nml)]
        exact s2 _ _ e
      · rw [upd_same, take_get ho, List.map_append, nl_append]
        have : V.int (if decide (o ∈ nv) = true then 1 else 0) = V.int ((SR.mk near v o : Nat) : Int) := by
          unfold SR.mk
          rw [enear]
          by_cases c : o ∈ nv
          · rw [decide_eq_true c, if_pos c]; rfl
          · rw [decide_eq_false c, if_neg c]; rfl
        rw [show nl ([o].map (SR.mk near v)) = [V.int (if decide (o ∈ nv) = true then 1 else 0)] by rw [this]; rfl]
    rintro H2 ⟨s2, hml⟩
    rw [nl_length, List.take_length] at hml
    have hl22 := s2 _ _ hl2
    have s2' := s1.trans s2
    -- rows, pairs
    refine ⟨_, rfl, p, C.P, dx, _, _, rfl, s2' _ _ hp, G.cl, G.nR, pf_rule, r, C.R, rx, _, _, rfl, s2' _ _ hr1, RC.cl, RC.nR, rf_rows, ?_⟩
    intro d nd
    obtain ⟨H3, e3, s3, s23, hd3, ndH⟩ := new_as (o := .dT []) s2' nd
    rw [← e3]
    clear e3
    have hl23 := s23 _ _ hl22
    have hml3 := s23 _ _ hml
    generalize hS : SR.bhS M near st v = S at q
    have len2 : (nl L).length = (nl (L.map (SR.mk near v))).length := by rw [nl_length, nl_length, List.length_map]
    have mat : ∀ {i : Nat} {x a : Nat} {y : V}, L[i]? = some a → (nl (L.map (SR.mk near v)))[i]? = some y → y = .int (SR.mk near v a : Int) := fun {i x a y} h1 h2 => by
      obtain ⟨m, h3, rfl⟩ := nl_get h2
      rw [List.getElem?_map, h1] at h3
      rw [← Option.some.inj h3]
    refine ⟨_, rfl, _, rfl, l2, ml, _, _, rfl, SqL.of hl23, SqL.of hml3, RZ.for_zipL (K := K) (a := l2) (b := ml) len2 (fun i σ H4 => ∃ v4 v8 v9 v10, σ = [some (.ref p), some (.int (v : Int)), some (.ref an), some (.ref l2), v4, some (.ref ml), some (.ref rl), some (.ref d), v8, v9, v10] ∧ Same H2 H4 ∧
      H4 d = some (.dT ((L.take i).flatMap (prow L S)))) ⟨_, _, _, _, rfl, s23, hd3⟩ (fun i σ H4 ⟨_, _, _, _, _, h4, _⟩ => ⟨SqL.of (h4 _ _ hl22), SqL.of (h4 _ _ hml)⟩) ?_ ?_⟩
    · rintro i x y t σ H4 hx hy ⟨v4, v8, v9, v10, rfl, s4, hd4⟩ nt
      obtain ⟨a, ha, rfl⟩ := nl_get hx
      obtain rfl := mat (x := 0) ha hy
      obtain ⟨H5, e5, s5, s45, ht, _⟩ := new_as (o := .tup [.int (a : Int), .int (SR.mk near v a : Int)]) s4 nt
      rw [← e5]
      clear e5
      have hd5 := s45 _ _ hd4
      refine ⟨t, _, rfl, SqT.of ht, rfl, _, _, rfl, _, _, rfl, rfl, ?_⟩
      refine ⟨_, rfl, _, rfl, l2, ml, _, _, rfl, SqL.of (s5 _ _ hl22), SqL.of (s5 _ _ hml), RZ.for_zipL (K := K) (a := l2) (b := ml) len2 (fun j σ H6 => ∃ v4 v10, σ = [some (.ref p), some (.int (v : Int)), some (.ref an), some (.ref l2), v4, some (.ref ml), some (.ref rl), some (.ref d), some (.int (a : Int)), some (.int (SR.mk near v a : Int)), v10] ∧ Same H2 H6 ∧
        H6 d = some (.dT ((L.take i).flatMap (prow L S) ++ prow (L.take j) S a))) ⟨_, _, rfl, s5, by rw [hd5]; simp [prow]⟩ (fun i σ H4 ⟨_, _, _, h4, _⟩ => ⟨SqL.of (h4 _ _ hl22), SqL.of (h4 _ _ hml)⟩) ?_ ?_⟩
      · rintro j x y u σ H6 hx hy ⟨v4, v10, rfl, s6, hd6⟩ nu
        obtain ⟨b, hb, rfl⟩ := nl_get hx
        obtain rfl := mat (x := 0) hb hy
        obtain ⟨H7, e7, s7, s67, hu, _⟩ := new_as (o := .tup [.int (b : Int), .int (SR.mk near v b : Int)]) s6 nu
        rw [← e7]
        clear e7
        have hd7 := s67 _ _ hd6
        refine ⟨u, _, rfl, SqT.of hu, rfl, _, _, rfl, _, _, rfl, rfl, ?_⟩
        refine ⟨_, rfl, _, rfl, rfl, _, rfl, ?_⟩
        have nn : (!decide (V.int (a : Int) = V.int (b : Int))) = decide (a ≠ b) := ne_nat
        rw [nn]
        by_cases c : a = b
        · subst c
          rw [decide_eq_false (fun z => z rfl)]
          refine iteF ⟨_, _, rfl, s7, ?_⟩
          rw [hd7, prow_step hb, if_neg (fun z => z rfl), List.append_nil]
        · rw [decide_eq_true c]
          have S7 : Same H H7 := s2'.trans s7
          have haL := hLin _ (List.mem_of_getElem? ha)
          have hbL := hLin _ (List.mem_of_getElem? hb)
          refine iteT ⟨_, rfl, _, rfl, p, C.P, dx, _, _, rfl, S7 _ _ hp, G.cl, G.nP, pf_pairs, _, rfl, _, rfl, by show 2 ≤ sizeLine; decide, fun t2 nt2 => ?_⟩
          obtain ⟨H8, e8, s8, s78, ht2, _⟩ := new_as (o := .tup [.int (a : Int), .int (b : Int)]) S7 nt2
          rw [← e8]
          clear e8
          have hst := hF a haL b hbL c
          obtain ⟨ra, hra⟩ : ∃ ra, ras[st a b]? = some ra := ⟨ras[st a b]'(by have := Paired.length hr3; omega), List.getElem?_eq_getElem _⟩
          obtain ⟨row, hrow, hrat⟩ := Paired.get hr3 hra
          have hrat : H ra = some (.tup (nl row)) := hrat
          obtain ⟨r4, rlt⟩ := hM.four _ (List.mem_of_getElem? hrow)
          have ma := mk_le near v a
          have mb := mk_le near v b
          have hS' : S a b = row.getD (SR.mk near v a + 2 * SR.mk near v b) 0 := by
            rw [← hS]
            unfold SR.bhS Mach.nx
            have e0 : M.rows.getD (st a b) [] = row := by rw [List.getD_eq_getElem?_getD, hrow]; rfl
            rw [e0]
          have hat : (nl row)[SR.mk near v a + 2 * SR.mk near v b]? = some (.int (S a b : Int)) := by
            refine nl_at ?_
            rw [hS', List.getD_eq_getElem?_getD, List.getElem?_eq_getElem (by omega)]
            rfl
          refine ⟨d0, .int (st a b : Int), rfl, ?_, rl, _, _, .ref ra, rfl, rfl, SqL.of (s8 _ _ hr2), atI_nat (by unfold refs; rw [List.getElem?_map, hra]; rfl), ?_⟩
          · rw [← pkv_get (st := st) haL hbL c]
            exact DGet.t (k := pk a b) (s8 _ _ hd0) ht2
          refine ⟨_, rfl, _, rfl, _, _, rfl, rfl, .inl ⟨by decide, by decide⟩, _, _, rfl, rfl, ra, _, _, .int (S a b : Int), rfl, rfl, SqT.of (s8 _ _ hrat), atI_nat (j := SR.mk near v a + 2 * SR.mk near v b) hat, ?_⟩
          refine ⟨_, rfl, _, rfl, _, rfl, by show 2 ≤ sizeLine; decide, fun t3 nt3 => ?_⟩
          obtain ⟨H9, e9, s9, s89, ht3, _⟩ := new_as (o := .tup [.int (a : Int), .int (b : Int)]) (s7.trans s78) nt3
          rw [← e9]
          clear e9
          refine ⟨d, _, rfl, DPut.t (k := pk a b) (s89 _ _ (s78 _ _ hd7)) ht3 (pkv_part hLl), _, _, rfl, ?_, ?_⟩
          · intro z o e
            rw [upd_ne (ne_of_none e nd)]
            exact s9 _ _ e
          · rw [upd_same, putK_new _ (pkv_fresh ndL ha hb), prow_step hb, if_pos (Ne.symm c), List.append_assoc]
      · rintro σ H6 ⟨v4, v10, rfl, s6, hd6⟩
        refine ⟨_, _, _, _, rfl, s6, ?_⟩
        rw [hd6, flat_step ha, nl_length, List.take_length]
    · rintro σ H4 ⟨v4, v8, v9, v10, rfl, s4, hd4⟩
      rw [nl_length, List.take_length] at hd4
      have S4 : Same H H4 := s2'.trans s4
      refine ⟨_, rfl, p, C.P, dx, _, _, rfl, S4 _ _ hp, G.cl, G.nG, pf_graph, _, rfl, p, C.P, dx, _, _, rfl, S4 _ _ hp, G.cl, G.nR, pf_rule, _, rfl, _, rfl, fun x dx2 hx hdx n => ?_⟩
      obtain ⟨H5, e5, s5, s45, hx5, hdx5, x0⟩ := made_as (C := C.P) S4 hx hdx n
      rw [← e5]
      clear e5
      refine ⟨x, dx2, g, r, l2, d, rfl, hx5, fun H6 s6 hx6 => ⟨rfl, ?_⟩⟩
      refine q H6 x ?_ x0 ⟨⟨dx2, l2, d, hx6, s6 _ _ (ne_of_none (s4 _ _ hl22) hx) (s45 _ _ (s4 _ _ hl22)), s6 _ _ (ne_of_none hd4 hx) (s45 _ _ hd4)⟩, fun dx' l' d' e => ?_⟩
      · exact fun b o e => s6 _ _ (ne_of_none e x0) (s5 _ _ e)
      · rw [hx6] at e
        have e' : l2 = l' := by
          have := congrArg (fun z : List (Str × V) => z.lookup ("left" : Str)) (HO.ins.inj (Option.some.inj e)).2.2
          rw [pf_left, pf_left] at this
          exact V.ref.inj (Option.some.inj this)
        rw [← e']
        exact nl2
end
end W
end
section
set_option Elab.async false
set_option linter.all false
set_option maxRecDepth 100000
set_option maxHeartbeats 4000000
namespace W
open PySem PySem.Spec PyProof.Rows L2
open SR (Tie Mach Stt)
abbrev N_check_few : List Str := ["graph"]
theorem sc_check_few : FnScope N_check_few ["graph"] (defScope (topS 66)) := ⟨rfl, rfl, rfl, by decide +kernel, rfl, by decide +kernel, by decide +kernel⟩
abbrev N_begun_with : List Str := ["graph", "rule", "begun", "nodes", "progress", "node"]
theorem sc_begun_with : FnScope N_begun_with ["graph", "rule", "begun"] (defScope (topS 68)) := ⟨rfl, rfl, rfl, by decide +kernel, rfl, by decide +kernel, by decide +kernel⟩
abbrev N_counted : List Str := ["progress", "known", "key", "node"]
theorem sc_counted : FnScope N_counted ["progress", "known"] (defScope (topS 67)) := ⟨rfl, rfl, rfl, by decide +kernel, rfl, by decide +kernel, by decide +kernel⟩
def spFalse : Sp := fun _ _ _ _ => False
/-! ### what stands in the heap -/
structure At (C : Ad) (H : Hp) (p g r : Addr) (M : Mach) (near : List (List Nat)) (left : List Nat) (st : Stt) : Prop where
  prog : ProgAt C.P H p g r left st
  rule : RuleAt C.R H r M
  graph : GraphAt C.G H g near
theorem At.same {C : Ad} {H H' : Hp} {p g r : Addr} {M : Mach} {near : List (List Nat)} {left : List Nat} {st : Stt} (h : At C H p g r M near left st) (s : Same H H') : At C H' p g r M near left st := ⟨h.prog.same s, h.rule.same s, h.graph.same s⟩
/-- a step's data -/
structure Okk (M : Mach) (near : List (List Nat)) (left : List Nat) (st : Stt) : Prop where
  m : MOk M
  fits : Fits M left st
  nd : left.Nodup
  lt : ∀ v ∈ left, v < near.length
  few : left.length ≤ 7
theorem Okk.next {M : Mach} {near : List (List Nat)} {left : List Nat} {st : Stt} (h : Okk M near left st) (v : Nat) : Okk M near (SR.bhL left v) (SR.bhS M near st v) :=
  ⟨h.m, h.fits.next h.m near v, h.nd.filter _, fun x hx => h.lt x (SR.mem_bhL.mp hx).1, Nat.le_trans (List.length_filter_le _ _) h.few⟩
theorem Okk.start {M : Mach} {near : List (List Nat)} (h : MOk M) (hl : near.length ≤ 7) : Okk M near (List.range near.length) SR.zero :=
  ⟨h, fun _ _ _ _ _ => h.pos, List.nodup_range, fun v hv => List.mem_range.mp hv, by rw [List.length_range]; exact hl⟩
/-- all but the free-form objects stay -/
def SameY (H H' : Hp) : Prop := ∀ b o, (∀ f, o ≠ .ext f) → H b = some o → H' b = some o
theorem NDat.at {P : Program} {w : World} {H : Hp} {d : Addr} {kvs : List (NestedKey × V)} (n : NDat P w H d kvs) : ∃ f, H d = some (.ext f) := by
  obtain ⟨_, xs, _, _, _, e⟩ := n
  exact ⟨_, e⟩
theorem SameX.y {d : Addr} {H H' : Hp} {f : Heap → Prop} (s : SameX d H H') (n : H d = some (.ext f)) : SameY H H' := fun b o h e => s b o (fun z => by subst z; rw [n] at e; exact h _ (Option.some.inj e).symm) e
theorem Same.y {H H' : Hp} (s : Same H H') : SameY H H' := fun b o _ e => s b o e
theorem SameY.trans {H H1 H2 : Hp} (a : SameY H H1) (b : SameY H1 H2) : SameY H H2 := fun c o n e => b c o n (a c o n e)
theorem SameY.tup {H H' : Hp} (s : SameY H H') {a : Addr} {l : List V} (e : H a = some (.tup l)) : H' a = some (.tup l) := s _ _ (fun _ z => nomatch z) e
theorem SameY.lst {H H' : Hp} (s : SameY H H') {a : Addr} {l : List V} (e : H a = some (.lst l)) : H' a = some (.lst l) := s _ _ (fun _ z => nomatch z) e
theorem SameY.ins {H H' : Hp} (s : SameY H H') {a C dx : Addr} {l : List (Str × V)} (e : H a = some (.ins C dx l)) : H' a = some (.ins C dx l) := s _ _ (fun _ z => nomatch z) e
theorem SameY.dK {H H' : Hp} (s : SameY H H') {a : Addr} {l : List (Key × V)} (e : H a = some (.dK l)) : H' a = some (.dK l) := s _ _ (fun _ z => nomatch z) e
theorem Paired.keep {α β : Type} {R S : α → β → Prop} {l : List α} {m : List β} (h : Paired R l m) (k : ∀ a b, R a b → S a b) : Paired S l m := Paired.imp k h
theorem ProgAt.y {C : Addr} {H H' : Hp} (s : SameY H H') {p g r : Addr} {left : List Nat} {st : Stt} (h : ProgAt C H p g r left st) : ProgAt C H' p g r left st := by
  obtain ⟨dx, l, d, h1, h2, h3⟩ := h
  exact ⟨dx, l, d, s _ _ (fun _ z => nomatch z) h1, s _ _ (fun _ z => nomatch z) h2, s _ _ (fun _ z => nomatch z) h3⟩
theorem RuleAt.y {C : Addr} {H H' : Hp} (s : SameY H H') {r : Addr} {M : Mach} (h : RuleAt C H r M) : RuleAt C H' r M := by
  obtain ⟨dx, rl, fl, as, h1, h2, h3, h4⟩ := h
  exact ⟨dx, rl, fl, as, s _ _ (fun _ z => nomatch z) h1, s.lst h2, Paired.imp (fun _ _ e => s.tup e) h3, s.lst h4⟩
theorem GraphAt.y {C : Addr} {H H' : Hp} (s : SameY H H') {g : Addr} {near : List (List Nat)} (h : GraphAt C H g near) : GraphAt C H' g near := by
  obtain ⟨dx, tl, nr, as, h1, h2, h3⟩ := h
  exact ⟨dx, tl, nr, as, s _ _ (fun _ z => nomatch z) h1, s.lst h2, Paired.imp (fun _ _ e => s.lst e) h3⟩
theorem At.y {C : Ad} {H H' : Hp} {p g r : Addr} {M : Mach} {near : List (List Nat)} {left : List Nat} {st : Stt} (h : At C H p g r M near left st) (s : SameY H H') : At C H' p g r M near left st := ⟨h.prog.y s, h.rule.y s, h.graph.y s⟩
theorem KAt.y {H H' : Hp} {b : Addr} {k : NestedKey} (h : KAt H b k) (s : SameY H H') : KAt H' b k := h.mono fun c xs e => s _ _ (fun _ z => nomatch z) e
theorem NDat.upd {P : Program} {w : World} {H : Hp} {d D : Addr} {o : HO} {kvs : List (NestedKey × V)} (h : NDat P w H d kvs) (n : D ≠ d) (nt : ∀ xs, H D ≠ some (.tup xs)) : NDat P w (L2.upd H D o) d kvs := by
  obtain ⟨z, xs, rel, nn, yy, e⟩ := h
  refine ⟨z, xs, Paired.mapP rel fun p q z => ⟨z.1, z.2.1.mono fun c ys hc => ?_, z.2.2⟩, nn, yy, ?_⟩
  · rw [upd_ne (fun z => nt ys (by rw [← z]; exact hc))]
    exact hc
  · rw [upd_ne (Ne.symm n)]
    exact e
/-! ### the memo -/
def prs (l : List Nat) : List (Nat × Nat) := l.flatMap fun a => (l.filter fun b => decide (b ≠ a)).map fun b => (a, b)
theorem pvs_prs (l : List Nat) (st : Stt) : pvs l st = (prs l).map fun p => (st p.1 p.2 : Int) := by
  unfold pvs prs
  rw [List.map_flatMap]
  simp only [List.map_map]
  rfl
theorem pvs_inj {l : List Nat} {st st' : Stt} (h : pvs l st = pvs l st') : SR.Agr l st st' := by
  rw [pvs_prs, pvs_prs] at h
  intro a ha b hb n
  have := (List.map_inj_left.mp h) (a, b) (List.mem_flatMap.mpr ⟨a, ha, List.mem_map.mpr ⟨b, List.mem_filter.mpr ⟨hb, decide_eq_true (Ne.symm n)⟩, rfl⟩⟩)
  exact Int.ofNat.inj this
theorem nums_inj {xs ys : List Int} (h : nums xs = nums ys) : xs = ys := (List.map_inj_right fun _ _ e => NestedKey.num.inj e).mp h
theorem casts_inj {l m : List Nat} (h : (l.map fun a : Nat => (a : Int)) = (m.map fun a : Nat => (a : Int))) : l = m := (List.map_inj_right fun _ _ e => Int.ofNat.inj e).mp h
theorem pkey_inj {l l' : List Nat} {st st' : Stt} (h : pkey l st = pkey l' st') : l = l' ∧ SR.Agr l st st' := by
  unfold pkey at h
  have h0 := NestedKey.tup.inj h
  obtain ⟨h1, h2⟩ := List.cons.inj h0
  obtain ⟨h2, _⟩ := List.cons.inj h2
  have e := casts_inj (nums_inj (NestedKey.tup.inj h1))
  subst e
  exact ⟨rfl, pvs_inj (nums_inj (NestedKey.tup.inj h2))⟩
/-- what is stored is right -/
def Good (M : Mach) (near : List (List Nat)) (kvs : List (NestedKey × V)) : Prop := ∀ (left : List Nat) (st : Stt) (v : V), valV kvs (pkey left st) = some v → v = .int (SR.cnt M near left st : Int)
theorem Good.put {M : Mach} {near : List (List Nat)} {kvs : List (NestedKey × V)} (h : Good M near kvs) (left : List Nat) (st : Stt) : Good M near (putK kvs (pkey left st) (.int (SR.cnt M near left st : Int))) := by
  intro l s v e
  rw [valV_put] at e
  by_cases c : pkey l s = pkey left st
  · rw [if_pos c] at e
    obtain ⟨rfl, a⟩ := pkey_inj c
    rw [← Option.some.inj e, a.cnt]
  · rw [if_neg c] at e
    exact h l s v e
theorem line_lt2 {n : Nat} (h : n ≤ 10000000) : n < sizeLine := Nat.lt_of_le_of_lt h (by rw [sizeLine_eq]; decide)
def Tm : Nat → Nat
  | 0 => 0
  | m + 1 => 1 + (m + 1) * Tm m
def spFew (C : Ad) : Sp := fun vs H Q _ => ∃ (g : Addr) (near : List (List Nat)), vs = [.ref g] ∧ GraphAt C.G H g near ∧ near.length ≤ 7 ∧ Q .non H
def spBegunW (C : Ad) : Sp := fun vs H Q _ => ∃ (g r : Addr) (near : List (List Nat)), vs = [.ref g, .ref r, .non] ∧ GraphAt C.G H g near ∧ near.length ≤ 7 ∧
  ∀ (H' : Hp) (t l p : Addr), Same H H' → H t = none → H' t = some (.tup [.ref l, .ref p]) → H' l = some (.lst []) → H l = none → ProgAt C.P H' p g r (List.range near.length) SR.zero → Q (.ref t) H'
def spCounted (P : Program) (w : World) (C : Ad) (m : Nat) : Sp := fun vs H Q _ => ∃ (p g r d : Addr) (M : Mach) (near : List (List Nat)) (left : List Nat) (st : Stt) (kvs : List (NestedKey × V)), vs = [.ref p, .ref d] ∧ At C H p g r M near left st ∧ Okk M near left st ∧ left.length = m ∧
  NDat P w H d kvs ∧ Good M near kvs ∧ kvs.length + Tm m ≤ 1000000 ∧ ∀ (H' : Hp) (kvs' : List (NestedKey × V)), SameX d H H' → NDat P w H' d kvs' → Good M near kvs' → kvs'.length ≤ kvs.length + Tm m → Q (.int (SR.cnt M near left st : Int)) H'
def spCount (C : Ad) : Sp := fun vs H Q _ => ∃ (g r : Addr) (M : Mach) (near : List (List Nat)), vs = [.ref g, .ref r, .non] ∧ GraphAt C.G H g near ∧ RuleAt C.R H r M ∧ MOk M ∧ near.length ≤ 7 ∧ ∀ H' : Hp, Same H H' → Q (.int (SR.cnt M near (List.range near.length) SR.zero : Int)) H'
/-- a def whose parameters behind the star have defaults -/
structure Dk (K : PySem.W.Frag) (mg : Str → Option Value) (x : Str) (st : Stmt) (kws : List (Str × V)) : Prop where
  ex : ∃ f fd, FunD K x x (defArgs st) (defBody st) (defScope st) [] kws f fd ∧ mg x = some (.ref f)
section
variable {P : Program} {w : World} {K : PySem.W.Frag} {mg : Str → Option Value} {base : Heap} {C : Ad}
theorem ok_check_few (T : Bl mg) {tk : Tok} (mL : mg "MOST_LISTED" = some (.int 7 tk)) (D : Df K mg "check_few" (topS 66)) (FS : PrB P w K mg base CX0 1 C.G "size" (spSize C.G)) : FnB P w K mg base CX0 3 "check_few" ["graph"] [] (spFew C) := by
  refine D.ok sc_check_few (fun vs H Q E h => ?_) (fun _ _ _ _ _ _ us hl => match us, hl with | [_], _ => rfl) (fun f cdv A outer s H vs Q E hr h => ?_)
  · obtain ⟨g, near, rfl, _⟩ := h
    rfl
  · obtain ⟨g, near, rfl, hg, h7, q⟩ := h
    refine ⟨_, (pss_one (ps_if (pt_cmpR op_gt (pe_pr (pv 0) FS hr pass0 rfl) (pe_glob (v := .int 7) (by rfl) mL ⟨_, rfl⟩) (nomark _)) (pss_one ps_never) pss_nil)), ?_⟩
    obtain ⟨dx, tl, nr, as, hg1, _⟩ := id hg
    refine ⟨_, rfl, g, dx, _, rfl, hg1, g, near, rfl, hg, _, _, rfl, rfl, _, rfl, ?_⟩
    rw [decide_eq_false (by omega)]
    exact iteF q
theorem ok_begun_with (T : Bl mg) (G : ProgC K C.P) (D : Df K mg "begun_with" (topS 68)) (FS : PrB P w K mg base CX0 1 C.G "size" (spSize C.G)) (FBo : FnB P w K mg base CX0 3 "begun_order" ["size", "visited"] [] spBegun) (FF : FnB P w K mg base CX0 3 "check_few" ["graph"] [] (spFew C))
    (FSt : FnB P w K mg base CX0 3 "started" ["graph", "rule"] [] (spStarted C)) (FFr : MeB P w K mg base CX0 2 C.P "free" ["self"] (spFree C)) (FBh : MeB P w K mg base CX0 3 C.P "behind" ["self", "node"] (spBehind C)) : FnB P w K mg base CX0 4 "begun_with" ["graph", "rule", "begun"] [] (spBegunW C) := by
  refine D.ok sc_begun_with (fun vs H Q E h => ?_) (fun _ _ _ _ _ _ us hl => match us, hl with | [_, _, _], _ => rfl) (fun f cdv A outer s H vs Q E hr h => ?_)
  · obtain ⟨g, r, near, rfl, _⟩ := h
    rfl
  · obtain ⟨g, r, near, rfl, hg, h7, q⟩ := h
    refine ⟨_, (pss_cons (ps_set (i := 3) sc_begun_with.nd rfl (Or.inl rfl) (pe_ifExp (pt_cmp (pc_isN (pv 2)) rfl) (pe_lst pa_nil) (pe_fn FBo (hr.mono (by decide)) pass0 (pa_cons (pe_pr (pv 0) FS (hr.mono (by decide)) pass0 rfl) (pa_cons (pv 2) pa_nil))))) (pss_cons (ps_expr (pe_fn FF (hr.mono (by decide)) pass0 (pa_cons (pv 0) pa_nil))) (pss_cons (ps_set (i := 4) sc_begun_with.nd rfl (Or.inl rfl) (pe_fn FSt (hr.mono (by decide)) pass0 (pa_cons (pv 0) (pa_cons (pv 1) pa_nil)))) (pss_cons (ps_for PassesOwn.never rfl (pi_list (pv 3)) (pg_name (i := 5) sc_begun_with.nd rfl (Or.inl rfl)) (pss_cons (ps_if (pt_cmpR op_notIn_seq (pv 5) (pe_me0 (pv 4) FFr (hr.mono (by decide)) pass0) rfl) (pss_one (ps_ret (pe_tup (pa_cons (pv 3) (pa_cons pe_non pa_nil))))) pss_nil) (pss_one (ps_set (i := 4) sc_begun_with.nd rfl (Or.inl rfl) (pe_me (pv 4) FBh (hr.mono (by decide)) pass0 (pa_cons (pv 5) pa_nil)))))) (pss_one (ps_ret (pe_tup (pa_cons (pv 3) (pa_cons (pv 4) pa_nil))))))))), ?_⟩
    refine ⟨_, rfl, true, rfl, ?_⟩
    refine iteT ⟨Nat.zero_le _, fun l nl0 => ?_⟩
    obtain ⟨H1, e1, s1, _, hl1, l0⟩ := new_as (o := .lst []) (Same.refl H) nl0
    rw [← e1]
    clear e1
    refine ⟨_, rfl, g, near, rfl, hg.same s1, h7, ?_⟩
    refine ⟨_, rfl, _, rfl, g, r, near, rfl, hg.same s1, by omega, fun H2 p s12 p0 hP => ?_⟩
    have hl2 := s12 _ _ hl1
    refine ⟨_, rfl, l, rfl, ⟨_, SqL.of hl2⟩, for_list (K := K) (a := l) (xs := []) (fun i σ H3 => σ = [some (.ref g), some (.ref r), some .non, some (.ref l), some (.ref p), none] ∧ H3 = H2) ⟨rfl, rfl⟩ (fun i σ H3 _ ⟨_, e⟩ => by rw [e]; exact SqL.of hl2) (fun i x σ H3 hx => by simp at hx) ?_⟩
    rintro σ H3 ⟨rfl, rfl⟩
    refine ⟨_, rfl, _, rfl, by show 2 ≤ sizeLine; decide, fun t nt => ?_⟩
    obtain ⟨H4, e4, s4, s34, ht, t0⟩ := new_as (o := .tup [.ref l, .ref p]) (s1.trans s12) nt
    rw [← e4]
    clear e4
    exact q H4 t l p s4 t0 ht (s34 _ _ hl2) l0 (hP.same s34)
theorem counted_body (T : Bl mg) (G : ProgC K C.P) (FK : MeB P w K mg base CX0 1 C.P "key" ["self"] (spKey C)) (FFr : MeB P w K mg base CX0 2 C.P "free" ["self"] (spFree C)) (FBh : MeB P w K mg base CX0 3 C.P "behind" ["self", "node"] (spBehind C))
    (k m : Nat) (hk : 4 ≤ k) {sp : Sp} (FC : FnB P w K mg base CX0 k "counted" ["progress", "known"] [] sp) (hm : m = 0 ∨ ∃ j, m = j + 1 ∧ sp = spCounted P w C j)
    (f : Addr) (cdv : Value) (A : Around) (outer : List Env) (s : Shared) (H : Hp) (vs : List V) (Q : VK) (E : XK) (hr : Room k (A.deeper (envOfC "counted" (defScope (topS 67)) s.heap.objs.size f cdv))) (h : spCounted P w C m vs H Q E) :
    ∃ t, PSs (cxOf CX0 P w K mg base N_counted "counted" (defScope (topS 67)) f cdv A outer s H E).nox (defBody (topS 67)) t ∧ t { nx := fun _ H' => Q .non H', rt := Q } (start N_counted vs) H := by
  · obtain ⟨p, g, r, d, M, near, left, st, kvs, rfl, hA, hO, hlen, hN, hG, hB, q⟩ := h
    refine ⟨_, (pss_cons (ps_if (pt_not (pt_truth (pe_fld (pv 0) rfl) (by intro _; rfl))) (pss_one (ps_ret pe_int)) pss_nil) (pss_cons (ps_set (i := 2) sc_counted.nd rfl (Or.inl rfl) (pe_me0 (pv 0) FK (hr.mono (by omega)) pass0)) (pss_cons (ps_if (pt_cmp (pc_nnotin hr.units (pv 2) (pv 1)) rfl) (pss_one (ps_nput hr.units (pv 1) (pv 2) (pe_callB (cr_sum rfl) (by rfl) T.b_sum (by decide +kernel) (pa_cons (pe_lc (own := [("node", 3)]) rfl sc_counted.nd (pi_list (pe_me0 (pv 0) FFr (hr.mono (by omega)) pass0)) (blkOk_by (own := [("node", 3)]) (N := N_counted) (sc := defScope (topS 67)) (by decide +kernel)) (fun _ _ _ _ _ => (pg_name (i := 3) sc_counted.nd rfl (Or.inl rfl))) (fun _ _ _ _ _ => pts_nil) (fun _ _ _ _ _ => (pe_fn FC hr pass0 (pa_cons (pe_me (pv 0) FBh (hr.mono (by omega)) pass0 (pa_cons (pv 3) pa_nil)) (pa_cons (pv 1) pa_nil))))) pa_nil)) rfl)) pss_nil) (pss_one (ps_ret (pe_nget hr.units (pv 1) (pv 2) (fun _ _ => rfl))))))), ?_⟩
    obtain ⟨dx, l, d0, hp, hl, hd0⟩ := id hA.prog
    refine ⟨_, rfl, p, C.P, dx, _, _, rfl, hp, G.cl, G.nL, pf_left, _, tru_nl hl, ?_⟩
    by_cases c : left = []
    · subst c
      refine iteT ?_
      exact q H kvs (fun b o _ e => e) hN hG (by omega)
    have hte : (!left.isEmpty) = true := by cases left <;> simp_all
    rw [hte]
    refine iteF ?_
    refine ⟨_, rfl, p, dx, _, rfl, hp, pf_no, p, g, r, left, st, rfl, hA.prog, fun H1 kk s1 _ hkk => ?_⟩
    refine ⟨_, rfl, _, rfl, d, _, rfl, ⟨kk, _, kvs, rfl, hkk, hN.same s1, rfl⟩, _, rfl, ?_⟩
    obtain ⟨fd0, hfd⟩ := hN.at
    cases hv : valV kvs (pkey left st) with
    | some v =>
      obtain rfl := hG _ _ _ hv
      refine iteF ⟨_, rfl, _, rfl, d, _, rfl, ⟨kk, _, kvs, rfl, hkk, hN.same s1, hv.symm⟩, ?_⟩
      exact q H1 kvs (Same.x s1) (hN.same s1) hG (by omega)
    | none =>
      obtain ⟨j, rfl, rfl⟩ : ∃ j, m = j + 1 ∧ sp = spCounted P w C j := by
        rcases hm with e | h
        · subst e
          exact absurd (List.eq_nil_of_length_eq_zero hlen) c
        · exact h
      refine iteT ?_
      have hA1 := hA.same s1
      refine ⟨_, rfl, p, dx, _, rfl, s1 _ _ hp, pf_no, p, g, r, M, left, st, rfl, hA1.prog, hA1.rule, hO.m, hO.fits, Nat.le_trans hO.few (by decide), fun H2 fl s12 fl0 hfl => ?_⟩
      have s2 := s1.trans s12
      refine ⟨fl, rfl, ⟨_, SqL.of hfl⟩, fun D nD => ?_⟩
      have hd2 : H2 d = some (.ext fd0) := s2 _ _ hfd
      generalize hF : SR.free M left st = F at hfl
      have hFs : ∀ v ∈ F, v ∈ left := fun v hv => by rw [← hF] at hv; exact SR.free_sub hv
      have hFl : F.length ≤ j + 1 := by rw [← hF, ← hlen]; exact List.length_filter_le _ _
      have hj : j + 1 ≤ 7 := by rw [← hlen]; exact hO.few
      have hT : Tm j ≤ 8660 := by
        have : ∀ j ≤ 7, Tm j ≤ 8660 := by decide
        exact this j (by omega)
      have nDd : D ≠ d := fun e => by rw [e, hd2] at nD; cases nD
      refine lc_list (K := K) (a := fl) (xs := nl F) (fun i H3 => SameX d H2 H3 ∧ H3 D = some (.lst (nl ((F.take i).map fun v => SR.cnt M near (SR.bhL left v) (SR.bhS M near st v)))) ∧ ∃ kvs' : List (NestedKey × V), NDat P w H3 d kvs' ∧ Good M near kvs' ∧ kvs'.length ≤ kvs.length + i * Tm j)
        ⟨Same.x (same_upd nD), upd_same, kvs, (hN.same s2).same (same_upd nD), hG, by omega⟩ (fun i H3 _ ⟨s3, _⟩ => SqL.of ((s3.y hd2).lst hfl)) ?_ ?_
      · rintro i x H3 hx ⟨s3, hD, kvs', hN', hG', hB'⟩
        obtain ⟨v, hv, rfl⟩ := nl_get hx
        have hvF := List.mem_of_getElem? hv
        have hvl := hFs v hvF
        have hA3 := (hA.same s2).y (s3.y hd2)
        have hi : i < F.length := (List.getElem?_eq_some_iff.mp hv).1
        have hbd : (i + 1) * Tm j ≤ (j + 1) * Tm j := Nat.mul_le_mul_right _ (by omega)
        have hB0 : kvs.length + (1 + (j + 1) * Tm j) ≤ 1000000 := hB
        rw [Nat.succ_mul] at hbd
        refine ⟨rfl, ?_⟩
        refine ⟨_, rfl, p, dx, _, rfl, (s3.y hd2).ins (s2 _ _ hp), pf_no, _, rfl, p, g, r, v, M, near, left, st, rfl, hA3.prog, hA3.rule, hA3.graph, hO.m, hO.fits, hO.lt v hvl, hO.nd, Nat.le_trans hO.few (by decide), fun H4 q4 s34 q0 ⟨hP4, _⟩ => ?_⟩
        refine ⟨_, rfl, ?_⟩
        have hl4 : (SR.bhL left v).length = j := by have := SR.bhL_length hO.nd hvl; omega
        refine ⟨q4, g, r, d, M, near, _, _, kvs', rfl, ⟨hP4, hA3.rule.same s34, hA3.graph.same s34⟩, hO.next v, hl4, hN'.same s34, hG', by omega, fun H5 kvs5 s45 hN5 hG5 hB5 => ?_⟩
        obtain ⟨f4, hf4⟩ := (hN'.same s34).at
        have hD5 := (s45.y hf4).lst (s34 _ _ hD)
        refine ⟨_, hD5, ?_, ?_, ?_, kvs5, ?_, hG5, ?_⟩
        · rw [nl_length, List.length_map, List.length_take]
          exact line_lt (by omega)
        · intro b o nb e
          rw [upd_ne (ne_of_none e nD)]
          exact s45 _ _ nb (s34 _ _ (s3 _ _ nb e))
        · rw [upd_same, take_get hv, List.map_append, nl_append]
          rfl
        · obtain ⟨z, xs, rel, nn, yy, e⟩ := hN5
          refine ⟨z, xs, Paired.mapP rel fun p q z => ⟨z.1, z.2.1.mono fun c ys hc => ?_, z.2.2⟩, nn, yy, ?_⟩
          · rw [upd_ne (ne_of hc hD5 (fun z => nomatch z))]
            exact hc
          · rw [upd_ne (Ne.symm nDd)]
            exact e
        · rw [Nat.succ_mul]
          omega
      · rintro H3 ⟨s3, hD, kvs', hN', hG', hB'⟩
        rw [nl_length, List.take_length] at hD
        rw [nl_length] at hB'
        have hbd : F.length * Tm j ≤ (j + 1) * Tm j := Nat.mul_le_mul_right _ hFl
        have hbd2 : (j + 1) * Tm j ≤ 7 * 8660 := Nat.mul_le_mul hj hT
        generalize hns : (F.map fun v => SR.cnt M near (SR.bhL left v) (SR.bhS M near st v)) = ns at hD
        have hsum : ns.sum = SR.cnt M near left st := by rw [← hns, ← hF, ← SR.cnt_step hO.nd c]
        refine ⟨D, ns.map fun n : Nat => (n : Int), rfl, ?_, ?_⟩
        · refine SqL.of ?_
          rw [hD]
          unfold nl
          rw [List.map_map]
          rfl
        have hsi : (ns.map fun n : Nat => (n : Int)).sum = (SR.cnt M near left st : Int) := by
          rw [← hsum]
          clear hsum hns hD
          induction ns with
          | nil => rfl
          | cons n ns ih => rw [List.map_cons, List.sum_cons, ih, List.sum_cons]; omega
        rw [hsi]
        obtain ⟨f3, hf3⟩ := hN'.at
        have hk3 : KAt H3 kk (pkey left st) := (hkk.y (Same.y s12)).y (s3.y hd2)
        refine ⟨_, rfl, _, rfl, d, rfl, kk, _, kvs', rfl, hk3, hN', line_lt2 (by omega), fun H4 s34 _ hN4 => ?_⟩
        refine ⟨_, rfl, _, rfl, d, .int (SR.cnt M near left st : Int), rfl, ⟨kk, _, _, rfl, hk3.y (s34.y hf3), hN4, ?_⟩, ?_⟩
        · rw [valV_put, if_pos rfl]
        refine q H4 _ (fun b o nb e => s34 _ _ nb (s3 _ _ nb (s2 _ _ e))) hN4 (hG'.put left st) ?_
        have := length_putK kvs' (pkey left st) (.int (SR.cnt M near left st : Int))
        show _ ≤ kvs.length + (1 + (j + 1) * Tm j)
        omega
theorem counted_F0 (D : Df K mg "counted" (topS 67)) : FnB P w K mg base CX0 5 "counted" ["progress", "known"] [] spFalse :=
  D.ok (k := 4) sc_counted (fun vs H Q E h => h.elim) (fun _ _ _ _ _ _ us hl => match us, hl with | [_, _], _ => rfl) (fun f cdv A outer s H vs Q E hr h => h.elim)
theorem ok_countedM (T : Bl mg) (G : ProgC K C.P) (D : Df K mg "counted" (topS 67)) (FK : MeB P w K mg base CX0 1 C.P "key" ["self"] (spKey C)) (FFr : MeB P w K mg base CX0 2 C.P "free" ["self"] (spFree C)) (FBh : MeB P w K mg base CX0 3 C.P "behind" ["self", "node"] (spBehind C)) :
    ∀ m, FnB P w K mg base CX0 (6 + m) "counted" ["progress", "known"] [] (spCounted P w C m)
  | 0 => D.ok sc_counted (fun vs H Q E ⟨p, g, r, d, M, near, left, st, kvs, e, _⟩ => by rw [e]; rfl) (fun _ _ _ _ _ _ us hl => match us, hl with | [_, _], _ => rfl) (counted_body T G FK FFr FBh 5 0 (by decide) (counted_F0 D) (.inl rfl))
  | m + 1 => D.ok sc_counted (fun vs H Q E ⟨p, g, r, d, M, near, left, st, kvs, e, _⟩ => by rw [e]; rfl) (fun _ _ _ _ _ _ us hl => match us, hl with | [_, _], _ => rfl) (counted_body T G FK FFr FBh (6 + m) (m + 1) (by omega) (ok_countedM T G D FK FFr FBh m) (.inr ⟨m, rfl, rfl⟩))
/-- counted, whatever is left -/
def spCtd (P : Program) (w : World) (C : Ad) : Sp := fun vs H Q E => ∃ m, m ≤ 7 ∧ spCounted P w C m vs H Q E
theorem ok_counted (T : Bl mg) (G : ProgC K C.P) (D : Df K mg "counted" (topS 67)) (FK : MeB P w K mg base CX0 1 C.P "key" ["self"] (spKey C)) (FFr : MeB P w K mg base CX0 2 C.P "free" ["self"] (spFree C)) (FBh : MeB P w K mg base CX0 3 C.P "behind" ["self", "node"] (spBehind C)) :
    FnB P w K mg base CX0 13 "counted" ["progress", "known"] [] (spCtd P w C) := by
  refine D.ok sc_counted (fun vs H Q E ⟨m, _, p, g, r, d, M, near, left, st, kvs, e, _⟩ => by rw [e]; rfl) (fun _ _ _ _ _ _ us hl => match us, hl with | [_, _], _ => rfl) (fun f cdv A outer s H vs Q E hr ⟨m, h7, h⟩ => ?_)
  cases m with
  | zero => exact counted_body T G FK FFr FBh 12 0 (by decide) ((counted_F0 D).mono (by decide)) (.inl rfl) f cdv A outer s H vs Q E hr h
  | succ m => exact counted_body T G FK FFr FBh 12 (m + 1) (by decide) ((ok_countedM T G D FK FFr FBh m).mono (by omega)) (.inr ⟨m, rfl, rfl⟩) f cdv A outer s H vs Q E hr h
end
end W
end
section
set_option Elab.async false
set_option linter.all false
set_option maxRecDepth 100000
set_option maxHeartbeats 4000000
namespace W
open PySem PySem.Spec PyProof.Rows L2
open SR (Tie Mach Stt)
abbrev N_count_orders : List Str := ["graph", "rule", "begun", "nodes", "progress"]
theorem sc_count_orders : FnScope N_count_orders ["graph", "rule", "begun"] (defScope (topS 70)) := ⟨rfl, rfl, rfl, by decide +kernel, rfl, by decide +kernel, by decide +kernel⟩
abbrev N_rank_of : List Str := ["graph", "rule", "order", "known", "progress", "found", "node", "free", "one"]
theorem sc_rank_of : FnScope N_rank_of ["graph", "rule", "order"] (defScope (topS 72)) := ⟨rfl, rfl, rfl, by decide +kernel, rfl, by decide +kernel, by decide +kernel⟩
abbrev N_bad_step : List Str := ["graph", "rule", "order", "progress", "step", "node", "better"]
theorem sc_bad_step : FnScope N_bad_step ["graph", "rule", "order"] (defScope (topS 65)) := ⟨rfl, rfl, rfl, by decide +kernel, rfl, by decide +kernel, by decide +kernel⟩
/-- a def with keyword-only defaults, called without them -/
theorem Dk.ok {P : Program} {w : World} {K : PySem.W.Frag} {mg : Str → Option Value} {base : Heap} {x : Str} {st : Stmt} {kws : List (Str × V)} {N ps : List Str} {k : Nat} {sp : Sp} (D : Dk K mg x st kws) (S : FnScope N ps (defScope st)) (n : Nat) (hkw : kws ≠ []) (hn : n + kws.length = ps.length) (len : ∀ vs H Q E, sp vs H Q E → vs.length = ps.length)
    (hbind : ∀ (D : Addr) (doc pm : Value) (an : Option Addr) (cdv ct : Value) (us ks : List Value), us.length = n → ks.length = kws.length →
      KwChain D ((kws.map (·.1)).zip ks) (bindArgs (PySem.W.fnOf x x (defArgs st) (defBody st) (defScope st) .none (.ref D) doc pm an cdv ct) ⟨us, []⟩) (ps.zip (us ++ ks)))
    (hbody : ∀ (f : Addr) (cdv : Value) (A : Around) (outer : List Env) (s : Shared) (H : Hp) (vs : List V) (Q : VK) (E : XK), Room k (A.deeper (envOfC x (defScope st) s.heap.objs.size f cdv)) → sp vs H Q E →
      ∃ t, PSs (cxOf CX0 P w K mg base N x (defScope st) f cdv A outer s H E).nox (defBody st) t ∧ t { nx := fun _ H' => Q .non H', rt := Q } (start N vs) H) : FnB P w K mg base CX0 (k + 1) x ps (kws.map (·.2)) sp := by
  obtain ⟨f, fd, F, hm⟩ := D.ex
  obtain ⟨ds, hv, hb⟩ := F.binds0 n hkw hn hbind
  refine ⟨f, fd, ds, F.ok S len fun cdv A outer s H vs Q E hr hsp => ?_, hm, F.kp, hb, hv⟩
  obtain ⟨t, h, q⟩ := hbody f cdv A outer s H vs Q E hr hsp
  exact ⟨t, h.nox, q⟩
theorem cast_sum (ns : List Nat) : (ns.map fun n : Nat => (n : Int)).sum = ((ns.sum : Nat) : Int) := by
  induction ns with
  | nil => rfl
  | cons n ns ih => rw [List.map_cons, List.sum_cons, ih, List.sum_cons]; omega
def spRank (C : Ad) : Sp := fun vs H Q _ => ∃ (g r l : Addr) (M : Mach) (near : List (List Nat)) (o : List Nat), vs = [.ref g, .ref r, .ref l] ∧ GraphAt C.G H g near ∧ RuleAt C.R H r M ∧ MOk M ∧ near.length ≤ 7 ∧ H l = some (.lst (nl o)) ∧ SR.By M near o (List.range near.length) SR.zero ∧
  ∀ H' : Hp, Same H H' → Q (.int (SR.rk M near o (List.range near.length) SR.zero : Int)) H'
def spBad (C : Ad) : Sp := fun vs H Q _ => ∃ (g r l : Addr) (M : Mach) (near : List (List Nat)) (o : List Nat), vs = [.ref g, .ref r, .ref l] ∧ GraphAt C.G H g near ∧ RuleAt C.R H r M ∧ MOk M ∧ near.length ≤ 7 ∧ H l = some (.lst (nl o)) ∧ SR.By M near o (List.range near.length) SR.zero ∧
  ∀ H' : Hp, Same H H' → Q .non H'
section
variable {P : Program} {w : World} {K : PySem.W.Frag} {mg : Str → Option Value} {base : Heap} {C : Ad}
theorem ok_count_orders (T : Bl mg) (D : Dk K mg "count_orders" (topS 70) [("begun", .non)]) (FBw : FnB P w K mg base CX0 4 "begun_with" ["graph", "rule", "begun"] [] (spBegunW C)) (FC : FnB P w K mg base CX0 13 "counted" ["progress", "known"] [] (spCtd P w C)) :
    FnB P w K mg base CX0 14 "count_orders" ["graph", "rule", "begun"] [.non] (spCount C) := by
  refine D.ok sc_count_orders 2 (by decide) rfl (fun vs H Q E h => ?_) (fun D doc pm an cdv ct us ks h1 h2 => ?_) (fun f cdv A outer s H vs Q E hr h => ?_)
  · obtain ⟨g, r, M, near, rfl, _⟩ := h
    rfl
  · match us, h1, ks, h2 with
    | [a, b], _, [c], _ => exact ⟨_, _, _, _, _, _, rfl, rfl, rfl⟩
  · obtain ⟨g, r, M, near, rfl, hg, hr', hM, h7, q⟩ := h
    refine ⟨_, (pss_cons (ps_asg (pe_fn FBw (hr.mono (by decide)) pass0 (pa_cons (pv 0) (pa_cons (pv 1) (pa_cons (pv 2) pa_nil)))) (pg_tup rfl (pgs_cons (pg_name (i := 3) sc_count_orders.nd rfl (Or.inl rfl)) (pgs_cons (pg_name (i := 4) sc_count_orders.nd rfl (Or.inl rfl)) pgs_nil)))) (pss_cons (ps_if (pt_cmp (pc_isN (pv 4)) rfl) (pss_one (ps_ret pe_int)) pss_nil) (pss_one (ps_ret (pe_fn FC (hr.mono (by decide)) pass0 (pa_cons (pv 4) (pa_cons pe_nnew pa_nil))))))), ?_⟩
    refine ⟨_, rfl, _, rfl, _, rfl, g, r, near, rfl, hg, h7, fun H1 t l p s1 t0 ht hl l0 hP => ?_⟩
    refine ⟨t, _, rfl, SqT.of ht, rfl, _, _, rfl, _, _, rfl, rfl, ?_⟩
    refine ⟨_, rfl, false, rfl, iteF ?_⟩
    refine ⟨_, rfl, ?_⟩
    intro d H2 d0 d2 s12 fr hN
    refine ⟨_, h7, p, g, r, d, M, near, _, _, [], rfl, ⟨hP.same s12, hr'.same (s1.trans s12), hg.same (s1.trans s12)⟩, .start hM h7, List.length_range, hN, fun _ _ _ e => (nomatch e), ?_, fun H3 kvs s23 _ _ _ => ?_⟩
    · have : ∀ j ≤ 7, Tm j ≤ 8660 := by decide
      have := this _ h7
      show 0 + _ ≤ _
      omega
    · exact q H3 fun b o e => s23 _ _ (ne_of_none (s1 _ _ e) d0) (s12 _ _ (s1 _ _ e))
theorem ok_bad_step (T : Bl mg) (G : ProgC K C.P) (D : Df K mg "bad_step" (topS 65)) (FCo : FnB P w K mg base CX0 4 "checked_order" ["graph", "order"] [] (spChecked C.G)) (FSt : FnB P w K mg base CX0 3 "started" ["graph", "rule"] [] (spStarted C))
    (FBe : MeB P w K mg base CX0 1 C.P "better" ["self", "node"] (spBetter C)) (FBh : MeB P w K mg base CX0 3 C.P "behind" ["self", "node"] (spBehind C)) : FnB P w K mg base CX0 5 "bad_step" ["graph", "rule", "order"] [] (spBad C) := by
  refine D.ok sc_bad_step (fun vs H Q E h => ?_) (fun _ _ _ _ _ _ us hl => match us, hl with | [_, _, _], _ => rfl) (fun f cdv A outer s H vs Q E hr h => ?_)
  · obtain ⟨g, r, l, M, near, o, rfl, _⟩ := h
    rfl
  · obtain ⟨g, r, l, M, near, o, rfl, hg, hr', hM, h7, hl, hby, q⟩ := h
    refine ⟨_, (pss_cons (ps_set (i := 3) sc_bad_step.nd rfl (Or.inl rfl) (pe_fn FSt (hr.mono (by decide)) pass0 (pa_cons (pv 0) (pa_cons (pv 1) pa_nil)))) (pss_cons (ps_for PassesOwn.never rfl (pi_enum (by rfl) T.b_enumerate (pa_cons (pe_fn FCo (hr.mono (by decide)) pass0 (pa_cons (pv 0) (pa_cons (pv 2) pa_nil))) pa_nil)) (pg_tup rfl (pgs_cons (pg_name (i := 4) sc_bad_step.nd rfl (Or.inl rfl)) (pgs_cons (pg_name (i := 5) sc_bad_step.nd rfl (Or.inl rfl)) pgs_nil))) (pss_cons (ps_set (i := 6) sc_bad_step.nd rfl (Or.inl rfl) (pe_me (pv 3) FBe (hr.mono (by decide)) pass0 (pa_cons (pv 5) pa_nil))) (pss_cons (ps_if (pt_truth (pv 6) (by intro _; rfl)) (pss_one (ps_ret (pe_tup (pa_cons (pv 4) (pa_cons (pe_ix ix_list (pv 6) pe_int (fun _ _ => rfl)) pa_nil))))) pss_nil) (pss_one (ps_set (i := 3) sc_bad_step.nd rfl (Or.inl rfl) (pe_me (pv 3) FBh (hr.mono (by decide)) pass0 (pa_cons (pv 5) pa_nil))))))) (pss_one (ps_ret pe_non)))), ?_⟩
    have hperm := SR.By.perm o _ _ List.nodup_range hby
    refine ⟨_, rfl, _, rfl, g, r, near, rfl, hg, by omega, fun H1 p s1 p0 hP => ?_⟩
    refine ⟨_, rfl, _, rfl, g, l, near, o, rfl, hg.same s1, s1 _ _ hl, hperm, by omega, fun H2 lo s12 lo0 hlo => ?_⟩
    have s2 := s1.trans s12
    have hol : o.length = near.length := by rw [hperm.length_eq, List.length_range]
    refine ⟨lo, nl o, rfl, SqL.of hlo, for_enum (K := K) (a := lo) (xs := nl o) (fun i σ H3 => ∃ p left st v4 v5 v6, σ = [some (.ref g), some (.ref r), some (.ref l), some (.ref p), v4, v5, v6] ∧ Same H H3 ∧ H3 lo = some (.lst (nl o)) ∧ ProgAt C.P H3 p g r left st ∧ Okk M near left st ∧ SR.By M near (o.drop i) left st)
      ⟨p, _, _, none, none, none, rfl, s2, hlo, hP.same s12, .start hM h7, hby⟩ (fun i σ H3 ⟨_, _, _, _, _, _, _, _, h, _⟩ => SqL.of h) ?_ ?_⟩
    · rintro i x t σ H3 hx ⟨p, left, st, v4, v5, v6, rfl, s3, hlo3, hP3, hO, hb⟩ nt
      obtain ⟨v, hv, rfl⟩ := nl_get hx
      obtain ⟨H4, e4, s4, s34, ht4, _⟩ := new_as (o := .tup [.int (i : Nat), .int (v : Int)]) s3 nt
      rw [← e4]
      clear e4
      have ed : o.drop i = v :: o.drop (i + 1) := by
        rw [List.drop_eq_getElem_cons (List.getElem?_eq_some_iff.mp hv).1, (List.getElem?_eq_some_iff.mp hv).2]
      rw [ed] at hb
      obtain ⟨hvf, hb⟩ := hb
      have hvl := SR.free_sub hvf
      have hP4 := hP3.same s34
      obtain ⟨dx, _, _, hp4, _⟩ := id hP4
      refine ⟨t, _, rfl, SqT.of ht4, rfl, _, _, rfl, _, _, rfl, rfl, ?_⟩
      refine ⟨_, rfl, p, dx, _, rfl, hp4, pf_no, _, rfl, p, g, r, v, M, left, st, rfl, hP4, hr'.same s4, hM, hO.fits, hvl, Nat.le_trans hO.few (by decide), fun H5 b s45 b0 hb5 => ?_⟩
      rw [(SR.mem_free.mp hvf).2] at hb5
      refine ⟨_, rfl, _, tru_nl hb5, ?_⟩
      refine iteF ?_
      have s5 := s4.trans s45
      refine ⟨_, rfl, p, dx, _, rfl, s45 _ _ hp4, pf_no, _, rfl, p, g, r, v, M, near, left, st, rfl, hP4.same s45, hr'.same s5, hg.same s5, hM, hO.fits, hO.lt v hvl, hO.nd, Nat.le_trans hO.few (by decide), fun H6 q6 s56 q0 ⟨hP6, _⟩ => ?_⟩
      exact ⟨q6, _, _, _, _, _, rfl, s5.trans s56, s56 _ _ (s45 _ _ (s34 _ _ hlo3)), hP6, hO.next v, hb⟩
    · rintro σ H3 ⟨p, left, st, v4, v5, v6, rfl, s3, _⟩
      exact q H3 s3
theorem ok_rank_of (T : Bl mg) (G : ProgC K C.P) (D : Df K mg "rank_of" (topS 72)) (FCo : FnB P w K mg base CX0 4 "checked_order" ["graph", "order"] [] (spChecked C.G)) (FF : FnB P w K mg base CX0 3 "check_few" ["graph"] [] (spFew C)) (FSt : FnB P w K mg base CX0 3 "started" ["graph", "rule"] [] (spStarted C))
    (FFr : MeB P w K mg base CX0 2 C.P "free" ["self"] (spFree C)) (FBh : MeB P w K mg base CX0 3 C.P "behind" ["self", "node"] (spBehind C)) (FC : FnB P w K mg base CX0 13 "counted" ["progress", "known"] [] (spCtd P w C)) :
    FnB P w K mg base CX0 14 "rank_of" ["graph", "rule", "order"] [] (spRank C) := by
  refine D.ok sc_rank_of (fun vs H Q E h => ?_) (fun _ _ _ _ _ _ us hl => match us, hl with | [_, _, _], _ => rfl) (fun f cdv A outer s H vs Q E hr h => ?_)
  · obtain ⟨g, r, l, M, near, o, rfl, _⟩ := h
    rfl
  · obtain ⟨g, r, l, M, near, o, rfl, hg, hr', hM, h7, hl, hby, q⟩ := h
    refine ⟨_, (pss_cons (ps_set (i := 2) sc_rank_of.nd rfl (Or.inl rfl) (pe_fn FCo (hr.mono (by decide)) pass0 (pa_cons (pv 0) (pa_cons (pv 2) pa_nil)))) (pss_cons (ps_expr (pe_fn FF (hr.mono (by decide)) pass0 (pa_cons (pv 0) pa_nil))) (pss_cons (ps_set (i := 3) sc_rank_of.nd rfl (Or.inr rfl) pe_nnew) (pss_cons (ps_set (i := 4) sc_rank_of.nd rfl (Or.inr rfl) (pe_fn FSt (hr.mono (by decide)) pass0 (pa_cons (pv 0) (pa_cons (pv 1) pa_nil)))) (pss_cons (ps_set (i := 5) sc_rank_of.nd rfl (Or.inl rfl) pe_int) (pss_cons (ps_for PassesOwn.never rfl (pi_list (pv 2)) (pg_name (i := 6) sc_rank_of.nd rfl (Or.inr rfl)) (pss_cons (ps_set (i := 7) sc_rank_of.nd rfl (Or.inl rfl) (pe_me0 (pv 4) FFr (hr.mono (by decide)) pass0)) (pss_cons (ps_if (pt_cmpR op_notIn_seq (pv 6) (pv 7) rfl) (pss_one (ps_ret pe_non)) pss_nil) (pss_cons (ps_aug (i := 5) sc_rank_of.nd rfl (Or.inl rfl) (pe_callB (cr_sum rfl) (by rfl) T.b_sum (by decide +kernel) (pa_cons (pe_lc (own := [("one", 8)]) rfl sc_rank_of.nd (pi_list (pv 7)) (blkOk_by (own := [("one", 8)]) (N := N_rank_of) (sc := defScope (topS 72)) (by decide +kernel)) (fun _ _ _ _ _ => (pg_name (i := 8) sc_rank_of.nd rfl (Or.inl rfl))) (fun _ _ _ _ _ => (pts_one (pt_cmpR op_lt (pv 8) (pv 6) (nomark _)))) (fun _ _ _ _ _ => (pe_fn FC (hr.mono (by decide)) pass0 (pa_cons (pe_me (pv 4) FBh (hr.mono (by decide)) pass0 (pa_cons (pv 8) pa_nil)) (pa_cons (pv 3) pa_nil))))) pa_nil)) ip_add) (pss_one (ps_set (i := 4) sc_rank_of.nd rfl (Or.inr rfl) (pe_me (pv 4) FBh (hr.mono (by decide)) pass0 (pa_cons (pv 6) pa_nil)))))))) (pss_one (ps_ret (pv 5))))))))), ?_⟩
    have hperm := SR.By.perm o _ _ List.nodup_range hby
    have hol : o.length = near.length := by rw [hperm.length_eq, List.length_range]
    have hT : ∀ j ≤ 7, Tm j ≤ 8660 := by decide
    refine ⟨_, rfl, _, rfl, g, l, near, o, rfl, hg, hl, hperm, by omega, fun H1 lo s1 lo0 hlo => ?_⟩
    refine ⟨_, rfl, g, near, rfl, hg.same s1, h7, ?_⟩
    intro d H2 d0 d2 s12 fr hN
    have s2 := s1.trans s12
    have dH : H d = none := s1.free d0
    refine ⟨_, rfl, _, rfl, g, r, near, rfl, hg.same s2, by omega, fun H3 p s23 p0 hP => ?_⟩
    refine ⟨_, rfl, lo, rfl, ⟨_, SqL.of (s23 _ _ (s12 _ _ hlo))⟩, for_list (K := K) (a := lo) (xs := nl o) (fun i σ H4 => ∃ p left st f v7 v8 v9, ∃ kvs, σ = [some (.ref g), some (.ref r), some (.ref lo), some (.ref d), some (.ref p), some (.int ((f : Nat) : Int)), v7, v8, v9] ∧ Same H H4 ∧ H4 lo = some (.lst (nl o)) ∧ ProgAt C.P H4 p g r left st ∧
        Okk M near left st ∧ SR.By M near (o.drop i) left st ∧ f + SR.rk M near (o.drop i) left st = SR.rk M near o (List.range near.length) SR.zero ∧ NDat P w H4 d kvs ∧ Good M near kvs ∧ kvs.length ≤ i * 70000)
      ⟨p, _, _, 0, none, none, none, [], rfl, s2.trans s23, s23 _ _ (s12 _ _ hlo), hP, .start hM h7, hby, Nat.zero_add _, hN.same s23, fun _ _ _ e => (nomatch e), by decide⟩ (fun i σ H4 _ ⟨_, _, _, _, _, _, _, _, _, _, h, _⟩ => SqL.of h) ?_ ?_⟩
    · rintro i x σ H4 hx ⟨p, left, st, f, v7, v8, v9, kvs, rfl, s4, hlo4, hP4, hO, hb, hf, hN4, hG4, hB4⟩
      obtain ⟨v, hv, rfl⟩ := nl_get hx
      have hi : i < o.length := (List.getElem?_eq_some_iff.mp hv).1
      have ed : o.drop i = v :: o.drop (i + 1) := by
        rw [List.drop_eq_getElem_cons hi, (List.getElem?_eq_some_iff.mp hv).2]
      rw [ed] at hb hf
      obtain ⟨hvf, hb⟩ := hb
      have hvl := SR.free_sub hvf
      obtain ⟨dx, _, _, hp4, _⟩ := id hP4
      refine ⟨_, rfl, p, dx, _, rfl, hp4, pf_no, p, g, r, M, left, st, rfl, hP4, hr'.same s4, hM, hO.fits, Nat.le_trans hO.few (by decide), fun H5 fl s45 fl0 hfl => ?_⟩
      have s5 := s4.trans s45
      refine ⟨_, rfl, _, rfl, fl, _, rfl, .inl (SqL.of hfl), rfl, nl_flat _, _, rfl, ?_⟩
      rw [if_pos rfl, nl_in, decide_eq_true hvf]
      refine iteF ?_
      -- found += ..
      have hfl5 := hfl
      refine ⟨_, rfl, _, rfl, fl, rfl, ⟨_, SqL.of hfl⟩, fun D nD => ?_⟩
      obtain ⟨fd0, hfd⟩ := (hN4.same s45).at
      have nDd : D ≠ d := fun e => by rw [e, hfd] at nD; cases nD
      generalize hF : SR.free M left st = F at hfl
      have hFs : ∀ v ∈ F, v ∈ left := fun v hv => by rw [← hF] at hv; exact SR.free_sub hv
      have hFl : F.length ≤ 7 := by rw [← hF]; exact Nat.le_trans (List.length_filter_le _ _) hO.few
      have hi7 : i < 7 := by omega
      have hP5 := hP4.same s45
      have hp5 := s45 _ _ hp4
      refine lc_list (K := K) (a := fl) (xs := nl F) (fun j H6 => SameX d H5 H6 ∧ H6 D = some (.lst (nl (((F.take j).filter fun u => decide (u < v)).map fun u => SR.cnt M near (SR.bhL left u) (SR.bhS M near st u)))) ∧ ∃ kvs' : List (NestedKey × V), NDat P w H6 d kvs' ∧ Good M near kvs' ∧ kvs'.length ≤ kvs.length + j * 8660)
        ⟨Same.x (same_upd nD), upd_same, kvs, (hN4.same s45).same (same_upd nD), hG4, by omega⟩ (fun j H6 _ ⟨s6, _⟩ => SqL.of ((s6.y hfd).lst hfl)) ?_ ?_
      · rintro j x H6 hx ⟨s6, hD, kvs', hN', hG', hB'⟩
        obtain ⟨u, hu, rfl⟩ := nl_get hx
        have huF := List.mem_of_getElem? hu
        have hul := hFs u huF
        have hj : j < F.length := (List.getElem?_eq_some_iff.mp hu).1
        have Y := s6.y hfd
        refine ⟨rfl, ?_⟩
        refine ⟨_, rfl, _, rfl, _, _, rfl, rfl, _, rfl, ?_⟩
        have eb : (F.take (j + 1)).filter (fun u => decide (u < v)) = (F.take j).filter (fun u => decide (u < v)) ++ (if decide (u < v) = true then [u] else []) := by
          rw [take_get hu, List.filter_append, List.filter_cons, List.filter_nil]
        by_cases c : u < v
        · rw [decide_eq_true (show (u : Int) < v by omega)]
          have hP6 := hP5.y Y
          have hR6 := (hr'.same s5).y Y
          have hg6 := (hg.same s5).y Y
          refine iteT ⟨_, rfl, p, dx, _, rfl, Y.ins hp5, pf_no, _, rfl, p, g, r, u, M, near, left, st, rfl, hP6, hR6, hg6, hM, hO.fits, hO.lt u hul, hO.nd, Nat.le_trans hO.few (by decide), fun H7 q7 s67 q0 ⟨hP7, _⟩ => ?_⟩
          refine ⟨_, rfl, ?_⟩
          have hl7 := (hO.next u).few
          have hTm := hT _ hl7
          refine ⟨_, hl7, q7, g, r, d, M, near, _, _, kvs', rfl, ⟨hP7, hR6.same s67, hg6.same s67⟩, hO.next u, rfl, hN'.same s67, hG', by omega, fun H8 kvs8 s78 hN8 hG8 hB8 => ?_⟩
          obtain ⟨f7, hf7⟩ := (hN'.same s67).at
          have hD8 := (s78.y hf7).lst (s67 _ _ hD)
          refine ⟨_, hD8, ?_, ?_, ?_, kvs8, ?_, hG8, ?_⟩
          · rw [nl_length, List.length_map]
            have := List.length_filter_le (fun u => decide (u < v)) (F.take j)
            rw [List.length_take] at this
            exact line_lt (by omega)
          · intro b o nb e
            rw [upd_ne (ne_of_none e nD)]
            exact s78 _ _ nb (s67 _ _ (s6 _ _ nb e))
          · rw [upd_same, eb, decide_eq_true c, if_pos rfl, List.map_append, nl_append]
            rfl
          · exact hN8.upd (ne_of hD8 hN8.at.choose_spec (fun z => nomatch z)) (fun _ z => by rw [hD8] at z; cases z)
          · rw [Nat.succ_mul]
            omega
        · rw [decide_eq_false (show ¬ (u : Int) < v by omega)]
          refine iteF ⟨s6, ?_, kvs', hN', hG', by rw [Nat.succ_mul]; omega⟩
          rw [eb, decide_eq_false c, if_neg (by decide), List.append_nil]
          exact hD
      · rintro H6 ⟨s6, hD, kvs', hN', hG', hB'⟩
        rw [nl_length, List.take_length] at hD
        rw [nl_length] at hB'
        generalize hns : ((F.filter fun u => decide (u < v)).map fun u => SR.cnt M near (SR.bhL left u) (SR.bhS M near st u)) = ns at hD
        refine ⟨D, ns.map fun n : Nat => (n : Int), rfl, ?_, ?_⟩
        · refine SqL.of ?_
          rw [hD]
          unfold nl
          rw [List.map_map]
          rfl
        rw [cast_sum]
        refine ⟨_, _, rfl, rfl, ?_⟩
        obtain ⟨f6, hf6⟩ := hN'.at
        have Y := s6.y hfd
        have hP6 := hP5.y Y
        have S6 : Same H H6 := fun b o e => s6 _ _ (fun z => by rw [z, dH] at e; cases e) (s5 _ _ e)
        refine ⟨_, rfl, p, dx, _, rfl, Y.ins hp5, pf_no, _, rfl, p, g, r, v, M, near, left, st, rfl, hP6, hr'.same S6, hg.same S6, hM, hO.fits, hO.lt v hvl, hO.nd, Nat.le_trans hO.few (by decide), fun H7 q7 s67 q0 ⟨hP7, _⟩ => ?_⟩
        refine ⟨q7, _, _, f + ns.sum, _, _, _, kvs', rfl, S6.trans s67, s67 _ _ (Y.lst (s45 _ _ hlo4)), hP7, hO.next v, hb, ?_, hN'.same s67, hG', ?_⟩
        · have e : f + ((((SR.free M left st).filter fun u => decide (u < v)).map fun u => SR.cnt M near (SR.bhL left u) (SR.bhS M near st u)).sum + SR.rk M near (o.drop (i + 1)) (SR.bhL left v) (SR.bhS M near st v)) = SR.rk M near o (List.range near.length) SR.zero := hf
          rw [hF, hns] at e
          omega
        · rw [Nat.succ_mul]
          omega
    · rintro σ H4 ⟨p, left, st, f, v7, v8, v9, kvs, rfl, s4, hlo4, hP4, hO, hb, hf, hN4, hG4, hB4⟩
      rw [nl_length, List.drop_length] at hf
      rw [show SR.rk M near [] left st = 0 from rfl] at hf
      refine ⟨_, rfl, ?_⟩
      have := q H4 s4
      rw [← hf] at this
      exact this
end
end W
end
section
set_option Elab.async false
set_option linter.all false
set_option maxRecDepth 100000
set_option maxHeartbeats 4000000
namespace W
open PySem PySem.Spec PyProof.Rows L2
/-! ### SearchError.__init__(self, ..) -/
theorem pe_seinit {X : Cx} {SE : Addr} {mc : Value} {p1 p2 pos : Pos} {e : Expr} {es : List Expr} {ta : TA} {pl : Sem Bool} (hg : Gl X "SearchError") (hm : X.mg "SearchError" = some (.ref SE)) (r : ClX.CRead X.K SE mc)
    (vV : PySem.W.findCls X.K (.ref SE) mc "__init__" = some (.val (.builtin "ValueError.__init__"))) (ha : PA X (e :: es) ta)
    (hc : eval (.Call (.Attribute (.Name "SearchError" p1) "__init__" p2) (e :: es) [] pos) X.env = (do
      let ov ← eval (.Name "SearchError" p1) X.env
      standAt p2.atName
      let (f, first) ← holding [ov] (getMethod ov "__init__" pl)
      callWith pos f first (backTo pos (starEach (e :: es) X.env)) (backToKw pos (keywordEach [] X.env))) := by rfl)
    (he : starEach (e :: es) X.env = (false, eval e X.env) :: starEach es X.env := by rfl) (hpl : (backTo pos (starEach es X.env)).any (·.1) = false := by rfl) :
    PE X (.Call (.Attribute (.Name "SearchError" p1) "__init__" p2) (e :: es) [] pos) (tVeI X.K ta) := by
  refine ⟨fun pins s σ H Q I h => ?_⟩
  refine PySem.W.methodCall_KW (ld_glob I hg hm ?_ (by decide)) hc
  refine PySem.W.method_cls (I.kIn) r.ga (PySem.W.cls_value I.kIn r.rd vV (by decide +kernel) ?_)
  show wpAny _ _ (callWith pos (Value.builtin "ValueError.__init__") [] (backTo pos (starEach (e :: es) X.env)) []) _ _ _
  refine PyProof.Rows.callWith_method1 (thn (ha.run pos pins _ σ H _ (I.tok _) h) fun us s1 ⟨vs, H1, I1, r1, a, C, ws, ev, hl, T, ea, q⟩ => ?_) he hpl
  subst ev
  cases r1 with
  | @cons _ u0 _ ur ra rw' =>
    obtain rfl : u0 = Value.ref a := ra
    have hlen : ur.length ≤ sizeLine := by
      rw [← Paired.length rw', sizeLine_eq]
      omega
    exact oinit_ok T I1 ea hlen fun s' J => ⟨.non, H1, J, rfl, q⟩
/-! ### an exception that is held on to -/
/-- at a: an exception of the class cls, its dict at d -/
def Exk (cls : Value) (d : Option Addr) (a : Addr) : HO := .ext fun h => ∃ (oe : Obj) (vs : Array Value), h.get? a = some oe ∧ Zc cls d oe ∧ oe.data = .fields vs
theorem exk_ok {P : Program} {w : World} {H : Hp} {h : Heap} {a : Addr} {cls : Value} {d : Option Addr} {oe : Obj} {vs : Array Value} (e : h.get? a = some oe) (z : Zc cls d oe) (hd : oe.data = .fields vs) : ObjOk P w H h a (Exk cls d a) :=
  ⟨⟨oe, vs, e, z, hd⟩, ⟨oe, e⟩, fun _ _ ⟨o, v, q, r⟩ k => ⟨o, v, k o q, r⟩⟩
section
variable {X : Cx} {pins : List (Addr × Obj)} {σ : L2.St} {H : Hp} {s : Shared}
theorem Inv_track {a : Addr} {oe : Obj} {vs : Array Value} {cls : Value} {d : Option Addr} (I : Inv X pins σ H s) (ha : s.heap.get? a = some oe) (hz : Zc cls d oe) (hd : oe.data = .fields vs) (na : H a = none) (n0 : X.s_0.heap.get? a = none) (np : ∀ p ∈ X.pn ++ pins, p.1 ≠ a)
    (nL : a ≠ X.env.locals) : Inv X pins σ (upd H a (Exk cls d a)) s := by
  have ne0 : ∀ b o, X.s_0.heap.get? b = some o → b ≠ a := fun b o e z => by rw [z, n0] at e; cases e
  have up : ∀ {b o}, H b = some o → upd H a (Exk cls d a) b = some o := fun {b o} e => by rw [upd_ne (ne_of_none e na)]; exact e
  refine ⟨I.ok, I.os, I.bare, ⟨I.base.keep, I.base.slot, fun b o e n hb => ?_, I.base.there, fun b xs e => up (I.base.tups b xs e), fun b o u e => up (I.base.frzs b o u e), fun b ps e => ?_⟩, I.loc, I.cell, ?_, fun x c e => ?_, fun p hp => ?_, fun b ob e => ?_, I.len⟩
  · rw [upd_ne (ne0 b o e)]
    exact I.base.free b o e n hb
  · obtain ⟨m, z⟩ := I.base.tbls b ps e
    exact ⟨m, up z⟩
  · rw [upd_ne (Ne.symm nL)]
    exact I.free
  · have : c ≠ a := fun z => by
      obtain ⟨v, o, ho, hdc⟩ := I.cell x c e
      rw [z, ha] at ho
      cases ho
      rw [hd] at hdc
      cases hdc
    rw [upd_ne this]
    exact I.freeC x c e
  · obtain ⟨e1, e2, e3⟩ := I.pin p hp
    exact ⟨e1, by rw [upd_ne (np p hp)]; exact e2, e3⟩
  · by_cases hb : b = a
    · subst hb
      rw [upd_same] at e
      cases e
      exact exk_ok ha hz hd
    · rw [upd_ne hb] at e
      exact (I.hok b ob e).stay (fun c v _ q => q) (fun c q => up q) fun c xs q => up q
end
/-- what 'except x as n' wishes, the exception held on to behind the suite -/
def wKeep (K : PySem.W.Frag) (c : Value) (i : Nat) (ts : Addr → Value → Option Addr → TS) (D : Ends) : WX := fun cls d σ H =>
  PySem.W.exmOne K cls c = some true ∧ ∀ a, H a = none → ts a cls d { nx := fun σ' H' => H' a = none → D.nx (σ'.set i none) (upd H' a (Exk cls d a)), rt := fun _ _ => False, bk := fun _ _ => False, ct := fun _ _ => False } (σ.set i (some (.ref a))) H
section
variable {X : Cx} {x n : Str} {c : Value} {i : Nat} {body suite : List Stmt} {b₀ : Stmt} {np pos pos' : Pos} {tb : WX → TS} {ts : Addr → Value → Option Addr → TS}
theorem ps_try_keep (hex : X.ex = []) (hs : X.stack = X.env :: X.outer) (hf : X.env.frame = some X.env.locals) (hN : X.N.Nodup) (hi : X.N[i]? = some n) (hln : X.env.kindOf n = some .local) (hc : Names X x c)
    (hb : ∀ (W : WX) (pn : List (Addr × Obj)) (xe : Value → Shared → Prop), Takes (X.tr pn xe) W → PassesOwn (model X.prog X.w) X.A X.env xe → PSs (X.tr pn xe) body (tb W))
    (hsu : ∀ (a : Addr) (oe : Obj) (cls : Value) (d : Option Addr) (pn : List (Addr × Obj)), Zc cls d oe → (∃ vs, oe.data = .fields vs) → PSs (X.suite a ((a, oe) :: pn)) (b₀ :: suite) (ts a cls d)) :
    PS X (.Try body [.ExceptHandler (some (.Name x np)) (some n) (b₀ :: suite) pos'] [] [] pos) (fun D σ H => tb (wKeep X.K c i ts D) D σ H) := by
  refine ⟨fun pins s σ H D I h => ?_⟩
  have ok := I.ok
  have hfr : X.A.frames = some (X.env :: X.outer) := by rw [ok.frames, hs]
  refine wpAny_Try_except ?_
  refine wpAny_mono ((hb (wKeep X.K c i ts D) (X.pn ++ pins) (fun e s₁ => wpAny (model X.prog X.w) X.A (noteFrame e X.env) (fun _ s₂ => wpAny (model X.prog X.w) X.A (setFlight e none) (fun _ s₃ =>
    wpAny (model X.prog X.w) X.A (handleBy e X.env [.ExceptHandler (some (.Name x np)) (some n) (b₀ :: suite) pos']) (SP X pins D) X.xe s₃) X.xe s₂) X.xe s₁) (fun u s' xx => ?_) PassesOwn.looking).run [] s σ H D (I.toTry _) h) (fun f s1 hsp => ?_) (fun e s1 he => he)
  · obtain ⟨a, B, sI, pins', σ', H', cls, d, rfl, J', nb, up, sky, na, os, ag, hb1, hyes⟩ := xx
    have J : Inv X pins σ' H' sI := J'.ofTry ok
    have sky' : Sky B (X.env :: X.outer) a (Zc cls d) X.env.locals s'.heap := by rw [← hs]; exact sky
    show wpAny (model X.prog X.w) X.A (noteFrame (.ref a) X.env) _ _ _
    refine Sky.land Zc.steady hfr hf sky' fun h3 fl3 up3 => ?_
    have J3 : Inv X pins σ' H' { s' with heap := h3 } := J.landed nb fl3.1 (up.trans up3) os ag
    obtain ⟨oe3, vs3, he3, hz3, hd3⟩ := fl3.there
    have nfr : a ∉ frs (X.env :: X.outer) := fun hm => by
      obtain ⟨_, o', e', hnf⟩ := fl3.2.2.1.mem hm
      rw [he3] at e'; cases e'
      exact hnf _ hd3
    have nL : a ≠ X.env.locals := fun z => nfr (List.mem_filterMap.mpr ⟨X.env, List.mem_cons_self, by rw [hf, z]⟩)
    have nF : a ∉ X.fs := fun hm => by
      obtain ⟨e, he, q⟩ := List.mem_filterMap.mp hm
      exact nfr (List.mem_filterMap.mpr ⟨e, List.mem_cons_of_mem _ he, q⟩)
    -- it is new
    have nI : ∀ b o, sI.heap.get? b = some o → b ≠ a := fun b o e z => by
      subst z
      have := nb b o e (by rw [hs]; exact nfr)
      rw [fl3.2.1] at this
      cases this
    have n0 : X.s_0.heap.get? a = none := by
      cases e : X.s_0.heap.get? a with
      | none => rfl
      | some o =>
        obtain ⟨o', e'⟩ := J.base.there a o e (by rw [hex]; exact fun z => nomatch z)
        exact absurd rfl (nI a o' e')
    have npp : ∀ p ∈ X.pn ++ pins, p.1 ≠ a := fun p hp => nI _ _ (J.pin p hp).1
    have S3 := J3.suite he3 hd3 na nL nF
    refine wpAny_handleBy_cons (codeAny_handlers_test ?_) (by intro q; cases q)
    have LT : PySem.W.Looks (model X.prog X.w) h3 (typeOf (.ref a)) cls := fun A Q E s k q => wpAny_typeOf_ref (k _ _ he3) (by rw [hz3.1]; exact q)
    have LM := PySem.W.exm_one (M := model X.prog X.w) (J3.kIn) LT hb1
    have test : ∀ {Q : Value → Shared → Prop} {E : Value → Shared → Prop}, Q c { s' with heap := h3 } → wpAny (model X.prog X.w) (X.A.mark (some (.ref a))) (eval (.Name x np) X.env) Q E { s' with heap := h3 } := fun {Q E} q => by
      obtain ⟨hg, hdbg, hm | ⟨hm, hv, hnn⟩⟩ := hc
      · exact ld_glob (X := X.suite a ((a, oe3) :: (X.pn ++ pins))) S3 hg hm q hdbg
      · exact ld_blt (X := X.suite a ((a, oe3) :: (X.pn ++ pins))) S3 hg hm hv q hnn hdbg
    refine test (LM.here ?_)
    refine codeAny_handlers_suite_as ?_
    refine HandSPX.lands_againZ fl3 fun h4 fl4 up4 => ?_
    have J4 : Inv X pins σ' H' { s' with heap := h4 } := J.landed nb fl4.1 ((up.trans up3).trans up4) os ag
    obtain ⟨oe4, vs4, he4, hz4, hd4⟩ := fl4.there
    have S4 := J4.suite he4 hd4 na nL nF
    refine store_ok (X := X.suite a ((a, oe4) :: (X.pn ++ pins))) (v := .ref a) S4 hN hi (.inl hln) rfl (fun s5 S5 => ?_) (.inr hln)
    refine wpAny_mono ((hsu a oe4 cls d (X.pn ++ pins) hz4 ⟨_, hd4⟩).run [] s5 _ H' _ S5 (hyes a na)) (fun f s6 hsp => ?_) (fun _ _ z => False.elim z)
    cases f with
    | next =>
      obtain ⟨σ6, H6, S6, q6⟩ := hsp
      have S6' : Inv X ((a, oe4) :: pins) σ6 H6 s6 := ⟨ok, S6.os, S6.bare, S6.base, S6.loc, S6.cell, S6.free, S6.freeC, fun p hp => S6.pin p (List.mem_append_left _ (by
        rcases List.mem_append.mp hp with hp | hp
        · exact List.mem_cons_of_mem _ (List.mem_append_left _ hp)
        · rcases List.mem_cons.mp hp with e | hp
          · rw [e]; exact List.mem_cons_self
          · exact List.mem_cons_of_mem _ (List.mem_append_right _ hp))), S6.hok, S6.len⟩
      refine gone_ok S6' hN hi hln fun s7 J7 => ?_
      have e7 := ClX.pin_at J7
      have n7 := ClX.pin_un J7
      exact ⟨_, _, Inv_track (ClX.unpin J7) e7 hz4 hd4 n7 n0 npp nL, q6 n7⟩
    | brk => exact hsp.elim fun _ z => z.elim fun _ z => z.2.elim
    | cont => exact hsp.elim fun _ z => z.elim fun _ z => z.2.elim
    | ret u => exact hsp.elim fun _ z => z.elim fun _ z => z.elim fun _ z => z.2.2.elim
  · cases f with
    | next =>
      obtain ⟨σ', H', J', q⟩ := hsp
      exact wpAny_execs_nil ⟨σ', H', J'.ofTry ok, q⟩
    | brk =>
      obtain ⟨σ', H', J', q⟩ := hsp
      exact ⟨σ', H', J'.ofTry ok, q⟩
    | cont =>
      obtain ⟨σ', H', J', q⟩ := hsp
      exact ⟨σ', H', J'.ofTry ok, q⟩
    | ret u =>
      obtain ⟨v, σ', H', J', r, q⟩ := hsp
      exact ⟨v, σ', H', J'.ofTry ok, r, q⟩
end
theorem held_at {X : Cx} {pins : List (Addr × Obj)} {σ : L2.St} {H : Hp} {s : Shared} {a D dd : Addr} {fs : List (Str × V)} (I : Inv X pins σ H s) (ha : H a = some (Exk (.ref D) (some dd) a)) (hd : H dd = some (.xd fs)) :
    ∃ (oe od : Obj) (mA : Str → Option Value), PySem.W.InstAt s.heap a oe D (some od) ∧ (∀ n, PySem.W.lookIn n od = some (mA n)) ∧ ∀ n, RelO (fs.lookup n) (mA n) := by
  obtain ⟨⟨oe, vs, he, hz, hv⟩, _, _⟩ := (show ObjOk X.prog X.w H s.heap a (.ext fun h => ∃ (oe : Obj) (vs : Array Value), h.get? a = some oe ∧ Zc (.ref D) (some dd) oe ∧ oe.data = .fields vs) from I.hok a _ ha)
  obtain ⟨mA, hns, hr⟩ := (show ObjOk X.prog X.w H s.heap dd (.xd fs) from I.hok dd _ hd)
  obtain ⟨od, ho, hl⟩ := lookIn_ns hns
  exact ⟨oe, od, mA, ⟨he, hz.1, by unfold PySem.W.notCls; rw [hv] <;> rfl, by rw [hz.2]; exact ho⟩, hl, hr⟩
/-- isinstance(e, c), e a held exception -/
def rIsHeld (K : PySem.W.Frag) : List V → Hp → VK → Prop := fun xs H Q => ∃ (a D dd : Addr) (fs : List (Str × V)) (c : V) (cv : Value) (b : Bool), xs = [.ref a, c] ∧ H a = some (Exk (.ref D) (some dd) a) ∧ H dd = some (.xd fs) ∧ ExcC K D ∧ (∀ u, RelV c u → u = cv) ∧
  PySem.W.kitOne K (.ref D) cv = some b ∧ Q (.bl b) H
theorem call_isHeld {X : Cx} : CallR X (.builtin "isinstance") (rIsHeld X.K) := by
  intro pins s σ H xs us Q I r h
  obtain ⟨a, D, dd, fs, c, cv, b, rfl, ha, hd, C, hcv, e, q⟩ := h
  cases r with
  | cons rx rr =>
    cases rr with
    | cons rt rr =>
      cases rr
      cases rx
      have ec := hcv _ rt
      subst ec
      obtain ⟨oe, od, mA, J, _, _⟩ := held_at I ha hd
      have hcl : (PySem.W.clsIn X.K D).isSome = true := by
        obtain ⟨cd, hc, _⟩ := PySem.W.any_some C.hd
        rw [hc]
        rfl
      exact PySem.W.kia_one (PySem.W.kitx_exc hcl C.hg C.hk C.hs C.ha C.hn C.ht C.hm) I.kIn J e (fun z => nomatch z) fun tk => ⟨.bl b, H, I.kept (t' := tk) fun _ _ z => z, rfl, q⟩
/-- e.f, e a held exception -/
def tHeld (K : PySem.W.Frag) (f : Str) (te : TE) : TE := fun σ H Q => te σ H fun x H1 => ∃ (a D dd : Addr) (fs : List (Str × V)) (v : V), x = .ref a ∧ H1 a = some (Exk (.ref D) (some dd) a) ∧ H1 dd = some (.xd fs) ∧ XfC K D ∧ PySem.W.findIn K (.ref D) f = some none ∧ fs.lookup f = some v ∧ Q v H1
theorem pe_held {X : Cx} {e : Expr} {te : TE} {pos : Pos} {f : Str} (he : PE X e te) (hb : attributeBase e f X.env (eval e X.env) = eval e X.env := by rfl) : PE X (.Attribute e f pos) (tHeld X.K f te) := by
  refine ⟨fun pins s σ H Q I h => ?_⟩
  refine attr_of hb (thn (he.run pins s σ H _ I h) fun u s1 ⟨x, H1, I1, rx, a, D, dd, fs, v, ex, ha, hd, T, hno, l, q⟩ => ?_)
  subst ex
  obtain rfl : u = Value.ref a := rx
  obtain ⟨oe, od, mA, J, hl, hr⟩ := held_at I1 ha hd
  obtain ⟨u, hu, ru⟩ := RelO.some_of (v := v) (o := mA f) (by rw [← l]; exact hr f)
  exact HandSPX.exc_get I1.kIn J T.ga T.gg T.exC (PySem.W.findObj_own T.hdC hno rfl (by rw [hl, hu])) (handed_of ru) ⟨v, H1, I1.tok _, ru, q⟩
end W
end
section
set_option Elab.async false
set_option linter.all false
set_option maxRecDepth 100000
set_option maxHeartbeats 4000000
namespace SR
theorem ords_pick {M : Mach} {near : List (List Nat)} {left : List Nat} {st : Stt} (hn : left.Nodup) {i v s : Nat} (hv : (free M left st)[i]? = some v) (hs : s < cnt M near (bhL left v) (bhS M near st v)) :
    (ords M near left.length left st)[(((free M left st).take i).map fun u => cnt M near (bhL left u) (bhS M near st u)).sum + s]? = ((ords M near (bhL left v).length (bhL left v) (bhS M near st v))[s]?).map (v :: ·) := by
  have hvl := free_sub (List.mem_of_getElem? hv)
  obtain ⟨k, hk⟩ : ∃ k, left.length = k + 1 := ⟨left.length - 1, by
    have : 0 < left.length := List.length_pos_iff.mpr (fun e => by rw [e] at hvl; cases hvl)
    omega⟩
  have hl : ∀ u ∈ free M left st, (bhL left u).length = k := fun u hu => by
    have := bhL_length hn (free_sub hu)
    omega
  rw [hk, hl v (List.mem_of_getElem? hv)]
  have e := flat_at (fun v => (ords M near k (bhL left v) (bhS M near st v)).map (v :: ·)) (free M left st) i v s hv (by
    rw [List.length_map]
    unfold cnt at hs
    rw [hl v (List.mem_of_getElem? hv)] at hs
    exact hs)
  have e2 : (((free M left st).take i).map fun u => cnt M near (bhL left u) (bhS M near st u)) = ((free M left st).take i).map fun u => ((ords M near k (bhL left u) (bhS M near st u)).map (u :: ·)).length := by
    apply List.map_congr_left
    intro u hu
    unfold cnt
    rw [List.length_map, hl u (List.mem_of_mem_take hu)]
  rw [e2]
  show ((free M left st).flatMap fun v => (ords M near k (bhL left v) (bhS M near st v)).map (v :: ·))[_]? = _
  rw [e, List.getElem?_map]
end SR
namespace W
open PySem PySem.Spec PyProof.Rows L2
open SR (Tie Mach Stt)
abbrev N_InvalidNumber___init__ : List Str := ["self", "number"]
theorem sc_InvalidNumber___init__ : FnScope N_InvalidNumber___init__ ["self", "number"] (defScope (inClass (topS 9) 0)) := ⟨rfl, rfl, rfl, by decide +kernel, rfl, by decide +kernel, by decide +kernel⟩
abbrev N_order_at : List Str := ["graph", "rule", "rank", "known", "progress", "found", "left", "node", "later", "many"]
theorem sc_order_at : FnScope N_order_at ["graph", "rule", "rank"] (defScope (topS 71)) := ⟨rfl, rfl, rfl, by decide +kernel, rfl, by decide +kernel, by decide +kernel⟩
/-- the exceptions' classes: IN InvalidNumber, SE SearchError -/
structure ErC (K : PySem.W.Frag) (mg : Str → Option Value) (IN SE : Addr) : Prop where
  mIN : mg "InvalidNumber" = some (.ref IN)
  mSE : mg "SearchError" = some (.ref SE)
  ox : OexC K IN
  rSE : ClX.CRead K SE (.type "type")
  iSE : PySem.W.findCls K (.ref SE) (.type "type") "__init__" = some (.val (.builtin "ValueError.__init__"))
  no : PySem.W.findIn K (.ref IN) "number" = some none
  init : ∃ fI fd, FnP K "__init__" "InvalidNumber.__init__" (inClass (topS 9) 0) fI fd ∧ PySem.W.findIn K (.ref IN) "__init__" = some (some (.ref fI)) ∧ PySem.W.typeIn K (.ref fI) = some (.type "function")
def spIN (K : PySem.W.Frag) (IN : Addr) : Sp := fun vs H Q _ => ∃ (a : Addr) (r : Int), vs = [.ref a, .int r] ∧ H a = some (exo a IN none) ∧ ∀ d, H d = none → d ≠ a → Q .non (upd (upd H d (exd d [("number", .int r)])) a (exo a IN (some d)))
def spOrder (C : Ad) (IN : Addr) : Sp := fun vs H Q E => ∃ (g r : Addr) (M : Mach) (near : List (List Nat)) (rank : Nat), vs = [.ref g, .ref r, .int rank] ∧ GraphAt C.G H g near ∧ RuleAt C.R H r M ∧ MOk M ∧ near.length ≤ 7 ∧
  (∀ (H' : Hp) (l : Addr) (o : List Nat), (SR.ords M near near.length (List.range near.length) SR.zero)[rank]? = some o → Same H H' → H l = none → H' l = some (.lst (nl o)) → Q (.ref l) H') ∧
  (SR.cnt M near (List.range near.length) SR.zero ≤ rank → ∀ (H' : Hp) (d : Addr), Same H H' → H' d = some (.xd [("number", .int rank)]) → E (.ref IN) (some d) H')
section
variable {P : Program} {w : World} {K : PySem.W.Frag} {mg : Str → Option Value} {base : Heap} {C : Ad} {IN SE : Addr}
/-- as Df.ok, for a def that may raise -/
theorem Df.okX {x : Str} {st : Stmt} {N ps : List Str} {k : Nat} {sp : Sp} (D : Df K mg x st) (S : FnScope N ps (defScope st)) (len : ∀ vs H Q E, sp vs H Q E → vs.length = ps.length)
    (hbind : ∀ (kV doc pm : Value) (an : Option Addr) (cdv ct : Value) (us : List Value), us.length = ps.length → bindArgs (PySem.W.fnOf x x (defArgs st) (defBody st) (defScope st) .none kV doc pm an cdv ct) ⟨us, []⟩ = pure (ps.zip us))
    (hbody : ∀ (f : Addr) (cdv : Value) (A : Around) (outer : List Env) (s : Shared) (H : Hp) (vs : List V) (Q : VK) (E : XK), Room k (A.deeper (envOfC x (defScope st) s.heap.objs.size f cdv)) → sp vs H Q E →
      ∃ t, PSs (cxOf (L2.CX P w) P w K mg base N x (defScope st) f cdv A outer s H E) (defBody st) t ∧ t { nx := fun _ H' => Q .non H', rt := Q } (start N vs) H) : FnB P w K mg base (L2.CX P w) (k + 1) x ps [] sp := by
  obtain ⟨f, fd, F, hm⟩ := D.ex
  exact ⟨f, fd, [], FunD.ok F S len fun cdv A outer s H vs Q E hr hsp => hbody f cdv A outer s H vs Q E hr hsp, hm, F.kp, F.bindsN hbind, .nil⟩
theorem ok_IN (Z : ErC K mg IN SE) : ∃ fI fd, FnOk P w K mg base CX0 1 fI fd ["self", "number"] (spIN K IN) ∧ PySem.W.findIn K (.ref IN) "__init__" = some (some (.ref fI)) ∧ PySem.W.typeIn K (.ref fI) = some (.type "function") ∧ Binds K fd ["self", "number"] [] := by
  obtain ⟨fI, fd, F, h1, h2⟩ := Z.init
  refine ⟨fI, fd, F.ok sc_InvalidNumber___init__ (fun vs H Q E h => ?_) fun cdv A outer s H vs Q E hr h => ?_, h1, h2, F.bindsN (fun _ _ _ _ _ _ us hl => match us, hl with | [_, _], _ => rfl)⟩
  · obtain ⟨a, r, rfl, _⟩ := h
    rfl
  · obtain ⟨a, r, rfl, ha, q⟩ := h
    have B : PSs (cxOf CX0 P w K mg base N_InvalidNumber___init__ "InvalidNumber.__init__" (defScope (inClass (topS 9) 0)) fI cdv A outer s H E).nox (defBody (inClass (topS 9) 0)) _ := (pss_cons (ps_expr (pe_seinit (by rfl) Z.mSE Z.rSE Z.iSE (pa_cons (pv 0) (pa_cons pe_str pa_nil)))) (pss_one (ps_ost (pv 0) (pv 1))))
    refine ⟨_, B, ?_⟩
    refine ⟨_, rfl, a, IN, _, rfl, by decide, Z.ox, ha, ?_⟩
    refine ⟨_, rfl, _, rfl, a, IN, rfl, Z.ox, Z.no, .inl ⟨ha, fun d hd n => ?_⟩⟩
    exact q d hd n
/-- a progress whose list is not the one at fo -/
def ProgX (C fo : Addr) (H : Hp) (p g r : Addr) (left : List Nat) (st : Stt) : Prop := ∃ dx l d, H p = some (.ins C dx (pf g r l d)) ∧ H l = some (.lst (nl left)) ∧ H d = some (.dT (pkv left st)) ∧ l ≠ fo
theorem ProgX.at {C fo : Addr} {H : Hp} {p g r : Addr} {left : List Nat} {st : Stt} (h : ProgX C fo H p g r left st) : ProgAt C H p g r left st := by
  obtain ⟨dx, l, d, h1, h2, h3, _⟩ := h
  exact ⟨dx, l, d, h1, h2, h3⟩
theorem ProgX.of {C fo : Addr} {H H0 : Hp} {p g r : Addr} {left : List Nat} {st : Stt} {u : HO} (h : ProgAt C H p g r left st) (k : ∀ dx l d, H p = some (.ins C dx (pf g r l d)) → H0 l = none) (e : H0 fo = some u) : ProgX C fo H p g r left st := by
  obtain ⟨dx, l, d, h1, h2, h3⟩ := h
  exact ⟨dx, l, d, h1, h2, h3, fun z => by have := k _ _ _ h1; rw [z, e] at this; cases this⟩
theorem ProgX.y {C fo : Addr} {H H' : Hp} (s : SameY H H') {p g r : Addr} {left : List Nat} {st : Stt} (h : ProgX C fo H p g r left st) : ProgX C fo H' p g r left st := by
  obtain ⟨dx, l, d, h1, h2, h3, n⟩ := h
  exact ⟨dx, l, d, s.ins h1, s.lst h2, s _ _ (fun _ z => nomatch z) h3, n⟩
theorem ProgX.put {C fo : Addr} {H : Hp} {p g r : Addr} {left : List Nat} {st : Stt} {xs ys : List V} (h : ProgX C fo H p g r left st) (e : H fo = some (.lst xs)) : ProgX C fo (upd H fo (.lst ys)) p g r left st := by
  obtain ⟨dx, l, d, h1, h2, h3, n⟩ := h
  refine ⟨dx, l, d, ?_, ?_, ?_, n⟩
  · rw [upd_ne (ne_of h1 e (fun z => nomatch z))]; exact h1
  · rw [upd_ne n]; exact h2
  · rw [upd_ne (ne_of h3 e (fun z => nomatch z))]; exact h3
/-- the while loop of order_at: what is left counts down -/
def OrdW (P : Program) (w : World) (C : Ad) (M : Mach) (near : List (List Nat)) (H : Hp) (g r : Addr) (rank : Nat) (d fo : Addr) (m : Nat) (σ : L2.St) (H6 : Hp) : Prop :=
  ∃ (p : Addr) (left : List Nat) (st : Stt) (found : List Nat) (lr : Nat) (kvs : List (NestedKey × V)) (v7 v8 v9 : Option V), m = left.length ∧ σ = [some (.ref g), some (.ref r), some (.int rank), some (.ref d), some (.ref p), some (.ref fo), some (.int ((lr : Nat) : Int)), v7, v8, v9] ∧ Same H H6 ∧ H6 fo = some (.lst (nl found)) ∧
    ProgX C.P fo H6 p g r left st ∧ Okk M near left st ∧ lr < SR.cnt M near left st ∧ (∀ o, (SR.ords M near left.length left st)[lr]? = some o → (SR.ords M near near.length (List.range near.length) SR.zero)[rank]? = some (found ++ o)) ∧ found.length + left.length = near.length ∧
    NDat P w H6 d kvs ∧ Good M near kvs ∧ kvs.length + left.length * 70000 ≤ 500000
theorem ok_order_at (T : Bl mg) (Z : ErC K mg IN SE) (G : ProgC K C.P) (D : Df K mg "order_at" (topS 71)) (FW : FnB P w K mg base CX0 1 "is_whole" ["thing"] [] spWhole) (FF : FnB P w K mg base CX0 3 "check_few" ["graph"] [] (spFew C)) (FSt : FnB P w K mg base CX0 3 "started" ["graph", "rule"] [] (spStarted C))
    (FFr : MeB P w K mg base CX0 2 C.P "free" ["self"] (spFree C)) (FBh : MeB P w K mg base CX0 3 C.P "behind" ["self", "node"] (spBehind C)) (FC : FnB P w K mg base CX0 13 "counted" ["progress", "known"] [] (spCtd P w C)) :
    FnB P w K mg base (L2.CX P w) 14 "order_at" ["graph", "rule", "rank"] [] (spOrder C IN) := by
  obtain ⟨fI, fdI, FI, iC, tI, hbI⟩ := ok_IN (P := P) (w := w) (base := base) Z
  refine D.okX sc_order_at (fun vs H Q E h => ?_) (fun _ _ _ _ _ _ us hl => match us, hl with | [_, _, _], _ => rfl) (fun f cdv A outer s H vs Q E hr h => ?_)
  · obtain ⟨g, r, M, near, rank, rfl, _⟩ := h
    rfl
  · obtain ⟨g, r, M, near, rank, rfl, hg, hr', hM, h7, qok, qno⟩ := h
    refine ⟨_, (pss_cons (ps_if (PW.pt (pw_or (pt_not (pt_val (pe_fn FW (hr.mono (by decide)) pass0 (pa_cons (pv 2) pa_nil)))) (pw_or1 (pt_cmpR op_lt (pv 2) pe_int (nomark _))))) (pss_one (ps_raise rfl (takes_of rfl rfl rfl rfl) (pmk_oex Z.ox iC tI FI (hr.mono (by decide)) hbI .nil pass0 (by rfl) Z.mIN (pa_cons (pv 2) pa_nil)))) pss_nil) (pss_cons (ps_expr (pe_fn FF (hr.mono (by decide)) pass0 (pa_cons (pv 0) pa_nil))) (pss_cons (ps_set (i := 3) sc_order_at.nd rfl (Or.inl rfl) pe_nnew) (pss_cons (ps_set (i := 4) sc_order_at.nd rfl (Or.inl rfl) (pe_fn FSt (hr.mono (by decide)) pass0 (pa_cons (pv 0) (pa_cons (pv 1) pa_nil)))) (pss_cons (ps_if (pt_cmpR op_ge (pv 2) (pe_fn FC (hr.mono (by decide)) pass0 (pa_cons (pv 4) (pa_cons (pv 3) pa_nil))) (nomark _)) (pss_one (ps_raise rfl (takes_of rfl rfl rfl rfl) (pmk_oex Z.ox iC tI FI (hr.mono (by decide)) hbI .nil pass0 (by rfl) Z.mIN (pa_cons (pv 2) pa_nil)))) pss_nil) (pss_cons (ps_set (i := 5) sc_order_at.nd rfl (Or.inl rfl) (pe_lst pa_nil)) (pss_cons (ps_set (i := 6) sc_order_at.nd rfl (Or.inl rfl) (pv 2)) (pss_cons (ps_while (passes_of rfl) (pt_truth (pe_fld (pv 4) rfl) (by intro _; rfl)) (pss_cons (ps_for (passes_of rfl) rfl (pi_list (pe_me0 (pv 4) FFr (hr.mono (by decide)) pass0)) (pg_name (i := 7) sc_order_at.nd rfl (Or.inl rfl)) (pss_cons (ps_set (i := 8) sc_order_at.nd rfl (Or.inl rfl) (pe_me (pv 4) FBh (hr.mono (by decide)) pass0 (pa_cons (pv 7) pa_nil))) (pss_cons (ps_set (i := 9) sc_order_at.nd rfl (Or.inl rfl) (pe_fn FC (hr.mono (by decide)) pass0 (pa_cons (pv 8) (pa_cons (pv 3) pa_nil)))) (pss_cons (ps_if (pt_cmpR op_lt (pv 6) (pv 9) (nomark _)) (pss_one ps_break) pss_nil) (pss_one (ps_aug (i := 6) sc_order_at.nd rfl (Or.inl rfl) (pv 9) ip_sub)))))) (pss_cons (ps_expr (pe_bm PySem.F.plainAttrs_list PySem.F.slot_list_append PySem.F.type_list_append mt_append (pv 5) (pa_cons (pv 7) pa_nil))) (pss_one (ps_set (i := 4) sc_order_at.nd rfl (Or.inl rfl) (pv 8)))))) (pss_one (ps_ret (pv 5))))))))))), ?_⟩
    have hT : ∀ j ≤ 7, Tm j ≤ 8660 := by decide
    refine ⟨_, rfl, (rank : Int), rfl, true, rfl, iteF ?_⟩
    refine ⟨_, rfl, _, _, rfl, rfl, _, rfl, ?_⟩
    rw [decide_eq_false (show ¬ (rank : Int) < 0 by omega)]
    refine iteF ?_
    refine ⟨_, rfl, g, near, rfl, hg, h7, ?_⟩
    intro d H2 d0 d2 s2 fr hN
    refine ⟨_, rfl, _, rfl, g, r, near, rfl, hg.same s2, by omega, fun H3 p s23 p0 hP => ?_⟩
    have s3 := s2.trans s23
    refine ⟨_, rfl, _, rfl, _, rfl, ?_⟩
    have hT0 := hT _ h7
    refine ⟨_, h7, p, g, r, d, M, near, _, _, [], rfl, ⟨hP, hr'.same s3, hg.same s3⟩, .start hM h7, List.length_range, hN.same s23, fun _ _ _ e => (nomatch e), by show 0 + _ ≤ _; omega, fun H4 kvs s34 hN4 hG4 hB4 => ?_⟩
    obtain ⟨fd0, hfd⟩ := (hN.same s23).at
    have s4 : Same H H4 := fun b o e => s34 _ _ (ne_of_none e d0) (s3 _ _ e)
    have hP4 := hP.y (s34.y hfd)
    refine ⟨_, _, rfl, rfl, _, rfl, ?_⟩
    by_cases hlt : SR.cnt M near (List.range near.length) SR.zero ≤ rank
    · rw [decide_eq_true (show ((SR.cnt M near (List.range near.length) SR.zero : Nat) : Int) ≤ (rank : Int) by omega)]
      refine iteT ⟨_, rfl, by show 1 ≤ 1000; decide, fun a na => ⟨a, (rank : Int), rfl, upd_same, fun dd hdd ndd => ⟨rfl, dd, [("number", .int (rank : Int))], upd_same, ?_, ?_, ?_⟩⟩⟩
      · rw [upd_ne ndd, upd_same]
      · rw [upd_ne ndd] at hdd
        exact hdd
      · rw [upd_ne ndd] at hdd
        refine qno hlt _ dd (fun b o e => ?_) upd_same
        have e4 := s4 _ _ e
        rw [upd_ne (ne_of_none e4 hdd), del_ne (ne_of_none e4 na), upd_ne (ne_of_none e4 na), upd_ne (ne_of_none e4 hdd), upd_ne (ne_of_none e4 na)]
        exact e4
    rw [decide_eq_false (show ¬ ((SR.cnt M near (List.range near.length) SR.zero : Nat) : Int) ≤ (rank : Int) by omega)]
    refine iteF ?_
    refine ⟨Nat.zero_le _, fun fo nfo => ?_⟩
    obtain ⟨H5, e5, s5, s45, hfo, fo0⟩ := new_as (o := .lst []) s4 nfo
    rw [← e5]
    clear e5
    have dH : H d = none := d0
    refine ⟨_, rfl, ?_⟩
    refine ⟨OrdW P w C M near H g r rank d fo,
      ⟨_, p, _, _, [], rank, kvs, none, none, none, rfl, rfl, s5, hfo, ?_, .start hM h7, by omega, ?_, ?_, hN4.same s45, hG4, ?_⟩, ?_⟩
    · obtain ⟨dx, l, dd, h1, h2, h3⟩ := hP4
      exact ⟨dx, l, dd, s45 _ _ h1, s45 _ _ h2, s45 _ _ h3, fun z => by rw [z, nfo] at h2; cases h2⟩
    · intro o ho
      rw [List.length_range] at ho
      exact ho
    · rw [List.length_range]; exact Nat.zero_add _
    · have : kvs.length ≤ 0 + Tm near.length := hB4
      rw [List.length_range]
      omega
    rintro m σ H6 ⟨p, left, st, found, lr, kvs, v7, v8, v9, rfl, rfl, s6, hfo6, hP6, hO, hlr, hrk, hfl, hN6, hG6, hB6⟩
    obtain ⟨dx, l, dd, hp6, hl6, hd6, nl6⟩ := id hP6
    refine ⟨_, rfl, p, C.P, dx, _, _, rfl, hp6, G.cl, G.nL, pf_left, _, tru_nl hl6, ?_⟩
    by_cases c : left = []
    · subst c
      refine iteF ⟨_, rfl, ?_⟩
      have h0 : lr = 0 := by
        have : SR.cnt M near [] st = 1 := SR.cnt_nil
        omega
      subst h0
      have := hrk [] rfl
      rw [List.append_nil] at this
      exact qok H6 fo found this s6 fo0 hfo6
    have hte : (!left.isEmpty) = true := by cases left <;> simp_all
    rw [hte]
    refine iteT ⟨fun σ' H' => ∃ m', m' < left.length ∧ OrdW P w C M near H g r rank d fo m' σ' H', fun σ' H' h => h, ?_⟩
    refine ⟨_, rfl, p, dx, _, rfl, hp6, pf_no, p, g, r, M, left, st, rfl, hP6.at, hr'.same s6, hM, hO.fits, Nat.le_trans hO.few (by decide), fun H7 fl s67 fl0 hfl7 => ?_⟩
    have s7 := s6.trans s67
    have nfl : fl ≠ fo := fun z => by rw [z, hfo6] at fl0; cases fl0
    generalize hF : SR.free M left st = F at hfl7
    have hFs : ∀ v ∈ F, v ∈ left := fun v hv => by rw [← hF] at hv; exact SR.free_sub hv
    have hFl : F.length ≤ 7 := by rw [← hF]; exact Nat.le_trans (List.length_filter_le _ _) hO.few
    have hsum := SR.cnt_step (M := M) (near := near) (st := st) hO.nd c
    rw [hF] at hsum
    obtain ⟨gd, hgd⟩ := (hN6.same s67).at
    have dne : ∀ {b o}, H b = some o → b ≠ d := fun {b o} e => ne_of_none e dH
    refine ⟨fl, rfl, ⟨_, SqL.of hfl7⟩, for_list (K := K) (a := fl) (xs := nl F) (fun i σ H8 => ∃ (lr' : Nat) (kvs' : List (NestedKey × V)) (v7 v8 v9 : Option V), σ = [some (.ref g), some (.ref r), some (.int rank), some (.ref d), some (.ref p), some (.ref fo), some (.int ((lr' : Nat) : Int)), v7, v8, v9] ∧ SameX d H7 H8 ∧
        lr' + ((F.take i).map fun u => SR.cnt M near (SR.bhL left u) (SR.bhS M near st u)).sum = lr ∧ NDat P w H8 d kvs' ∧ Good M near kvs' ∧ kvs'.length ≤ kvs.length + i * 8660)
      ⟨lr, kvs, v7, v8, v9, rfl, fun b o _ e => e, rfl, hN6.same s67, hG6, by omega⟩ (fun i σ H8 _ ⟨_, _, _, _, _, _, s8, _⟩ => SqL.of ((s8.y hgd).lst hfl7)) ?_ ?_⟩
    · rintro i x σ H8 hx ⟨lr', kvs', v7, v8, v9, rfl, s78, hlr', hN8, hG8, hB8⟩
      obtain ⟨v, hv, rfl⟩ := nl_get hx
      have hvF := List.mem_of_getElem? hv
      have hvl := hFs v hvF
      have hi : i < F.length := (List.getElem?_eq_some_iff.mp hv).1
      have Y := s78.y hgd
      have s8 : Same H H8 := fun b o e => s78 _ _ (dne e) (s7 _ _ e)
      have hP8 := (hP6.y (Same.y s67)).y Y
      refine ⟨_, rfl, p, dx, _, rfl, Y.ins (s67 _ _ hp6), pf_no, _, rfl, p, g, r, v, M, near, left, st, rfl, hP8.at, hr'.same s8, hg.same s8, hM, hO.fits, hO.lt v hvl, hO.nd, Nat.le_trans hO.few (by decide), fun H9 q9 s89 q0 ⟨hP9, hnew⟩ => ?_⟩
      have hPX9 := ProgX.of hP9 hnew (Y.lst (s67 _ _ hfo6))
      have s9 := s8.trans s89
      have hl7 := (hO.next v).few
      have hTm := hT _ hl7
      refine ⟨_, rfl, _, rfl, ?_⟩
      refine ⟨_, hl7, q9, g, r, d, M, near, _, _, kvs', rfl, ⟨hP9, hr'.same s9, hg.same s9⟩, hO.next v, rfl, hN8.same s89, hG8, by omega, fun H10 kvs10 s910 hN10 hG10 hB10 => ?_⟩
      obtain ⟨ge, hge⟩ := (hN8.same s89).at
      have Y10 := s910.y hge
      have s10 : Same H H10 := fun b o e => s910 _ _ (dne e) (s9 _ _ e)
      refine ⟨_, rfl, _, rfl, _, _, rfl, rfl, _, rfl, ?_⟩
      by_cases hb : lr' < SR.cnt M near (SR.bhL left v) (SR.bhS M near st v)
      · rw [decide_eq_true (show ((lr' : Nat) : Int) < (SR.cnt M near (SR.bhL left v) (SR.bhS M near st v) : Int) by omega)]
        refine iteT ?_
        have hfo10 := Y10.lst (s89 _ _ (Y.lst (s67 _ _ hfo6)))
        refine ⟨_, rfl, .inl ⟨rfl, _, SqL.of hfo10⟩, _, rfl, fo, _, _, rfl, rfl, hfo10, ?_, ?_⟩
        · rw [nl_length]
          exact line_lt (by omega)
        have hPX10 := (hPX9.y Y10).put (ys := nl found ++ [V.int (v : Int)]) hfo10
        refine ⟨_, rfl, _, ?_, q9, _, _, found ++ [v], lr', kvs10, _, _, _, rfl, rfl, ?_, ?_, hPX10, hO.next v, hb, ?_, ?_, ?_, hG10, ?_⟩
        · have := SR.bhL_length hO.nd hvl
          omega
        · intro b o e
          rw [upd_ne (ne_of_none e fo0)]
          exact s10 _ _ e
        · rw [upd_same, nl_append]
          rfl
        · intro o ho
          have := SR.ords_pick (near := near) hO.nd (by rw [hF]; exact hv) hb
          rw [hF, ho, Nat.add_comm, hlr'] at this
          rw [hrk _ this, List.append_assoc]
          rfl
        · rw [List.length_append]
          have := SR.bhL_length hO.nd hvl
          show found.length + 1 + _ = _
          omega
        · exact hN10.upd (ne_of hfo10 hN10.at.choose_spec (fun z => nomatch z)) (fun _ z => by rw [hfo10] at z; cases z)
        · have := SR.bhL_length hO.nd hvl
          have e : left.length * 70000 = (SR.bhL left v).length * 70000 + 70000 := by rw [← this, Nat.succ_mul]
          omega
      · rw [decide_eq_false (show ¬ ((lr' : Nat) : Int) < (SR.cnt M near (SR.bhL left v) (SR.bhS M near st v) : Int) by omega)]
        refine iteF ⟨_, rfl, _, rfl, _, _, rfl, rfl, lr' - SR.cnt M near (SR.bhL left v) (SR.bhS M near st v), kvs10, some (.int (v : Int)), some (.ref q9), some (.int (SR.cnt M near (SR.bhL left v) (SR.bhS M near st v) : Int)), ?_, ?_, ?_, hN10, hG10, ?_⟩
        · rw [Int.ofNat_sub (Nat.le_of_not_lt hb)]
          rfl
        · exact fun b o nb e => s910 _ _ nb (s89 _ _ (s78 _ _ nb e))
        · rw [take_get hv, List.map_append, List.sum_append, List.map_cons, List.map_nil, List.sum_cons, List.sum_nil]
          omega
        · rw [Nat.succ_mul]
          omega
    · rintro σ H8 ⟨lr', kvs', v7, v8, v9, rfl, s78, hlr', _⟩
      rw [nl_length, List.take_length, ← hsum] at hlr'
      omega
end
end W
end
section
set_option Elab.async false
set_option linter.all false
set_option maxRecDepth 100000
set_option maxHeartbeats 4000000
/-! A generator under a loop of its caller: the heap at each waking is the ground of the next stretch. -/
namespace W
open PySem PySem.Spec PyProof.Rows L2 GenW
/-- an object gone -/
def gone (o : Obj) : Obj := { o with data := .freed }
/-- the state, its heap cut back to what stands in the heap h -/
def tr (h : Heap) (s : Shared) : Shared := { s with heap := { s.heap with objs := (s.heap.objs.extract 0 h.objs.size).mapIdx fun i o => if (h.get? i).isSome then o else gone o } }
theorem tr_raw (h : Heap) (s : Shared) (b : Nat) : (tr h s).heap.objs[b]? = if b < h.objs.size then (s.heap.objs[b]?).map (fun o => if (h.get? b).isSome then o else gone o) else none := by
  unfold tr
  dsimp only
  rw [Array.getElem?_mapIdx, Array.getElem?_extract]
  by_cases c : b < h.objs.size
  · rw [if_pos c]
    by_cases q : b < s.heap.objs.size
    · rw [if_pos (by omega), Nat.zero_add]
    · rw [if_neg (by omega), Array.getElem?_eq_none (by omega)]
  · rw [if_neg c, if_neg (by omega)]
    rfl
theorem tr_lt {h : Heap} {s : Shared} {b : Nat} {u : Obj} (hb : h.get? b = some u) : (tr h s).heap.get? b = s.heap.get? b := by
  have c : b < h.objs.size := Heap.lt_size hb
  have e := tr_raw h s b
  rw [if_pos c] at e
  have e2 : (s.heap.objs[b]?).map (fun o => if (h.get? b).isSome then o else gone o) = s.heap.objs[b]? := by
    rw [hb]
    cases s.heap.objs[b]? <;> rfl
  rw [e2] at e
  show (match (tr h s).heap.objs[b]? with | some ⟨_, _, .freed, _⟩ => none | o => o) = (match s.heap.objs[b]? with | some ⟨_, _, .freed, _⟩ => none | o => o)
  rw [e]
theorem tr_ge {h : Heap} {s : Shared} {b : Nat} {o : Obj} (e : (tr h s).heap.get? b = some o) : (∃ u, h.get? b = some u) ∧ s.heap.get? b = some o := by
  cases hb : h.get? b with
  | some u => exact ⟨⟨u, rfl⟩, by rw [← tr_lt hb]; exact e⟩
  | none =>
    exfalso
    have e1 := tr_raw h s b
    rw [hb] at e1
    have e' : (match (tr h s).heap.objs[b]? with | some ⟨_, _, .freed, _⟩ => none | o => o) = some o := e
    rw [e1] at e'
    by_cases c : b < h.objs.size
    · rw [if_pos c] at e'
      cases q : s.heap.objs[b]? with
      | none => rw [q] at e'; cases e'
      | some v => rw [q] at e'; cases e'
    · rw [if_neg c] at e'
      cases e'
theorem tr_size {h : Heap} {s : Shared} (q : h.objs.size ≤ s.heap.objs.size) : (tr h s).heap.objs.size = h.objs.size := by
  show ((s.heap.objs.extract 0 h.objs.size).mapIdx _).size = h.objs.size
  rw [Array.size_mapIdx, Array.size_extract]
  omega
/-- the caller, the call: state and heap; the generator's object -/
structure Gv where
  P : Program
  w : World
  K : PySem.W.Frag
  mg : Str → Option Value
  base : Heap
  stack : List Env
  sc : Shared
  Hc : Hp
  ag : Addr
  go : Obj
  f : Addr
  cdv : Value
  A : Around
abbrev Gv.cx (G : Gv) (N : List Str) (qual : Str) (scope : Scope) (s₀ : Shared) : Cx :=
  { cxOf CX0 G.P G.w G.K G.mg G.base N qual scope G.f G.cdv G.A G.stack G.sc G.Hc E0 with s_0 := tr G.sc.heap s₀, pn := [(G.ag, G.go)], xe := fun _ _ => False }
abbrev Gv.env (G : Gv) (qual : Str) (scope : Scope) : Env := envOfC qual scope G.sc.heap.objs.size G.f G.cdv
/-- what comes out, the end, what the caller may change -/
structure GPr where
  out : Nat → V → Hp → Prop
  fin : Nat → Hp → Prop
  chg : Nat → Hp → Hp → Prop
  N0 : Nat
section
variable (G : Gv) (N : List Str) (qual : Str) (scope : Scope) (T : GPr)
def GYp : Protocol := fun n s₀ v s kap => ∃ k x σ H, n + 1 + k = T.N0 ∧ RelV x v ∧ Inv (G.cx N qual scope s₀) [] σ H s ∧ T.out k x H ∧ ∀ s' H', T.chg k H H' → Inv (G.cx N qual scope s') [] σ H' s' → kap (.send .none) s'
def GRp : GenEnd := fun n s₀ r s => ∃ k σ H, n + k = T.N0 ∧ r = .ok (.ret .none) ∧ Inv (G.cx N qual scope s₀) [] σ H s ∧ T.fin k H
abbrev GD := Nat → L2.St → Hp → Prop
abbrev GT := GD → Nat → L2.St → Hp → Prop
structure GCd (A : Around) (c : Code) (fs : List Frame) (gd : Bool → Bool) : Prop where
  over : A.over c fs = G.A.deeper (G.env qual scope)
  split : splitAtGen fs = none
  guard : fs.any Frame.guarded = false
  gd : gd false = false
structure GSt (st : Stmt) (t : GT) : Prop where
  run : ∀ (A : Around) (n k : Nat) (s₀ : Shared) (c : Code) (fs : List Frame) (K : Flow → Sem PySem.Fin) (J : Value → Sem PySem.Fin) (gd : Bool → Bool) (lv : List Value → List Value) (s : Shared) (σ : L2.St) (H : Hp) (D : GD),
    GCd G qual scope A c fs gd → n + k = T.N0 → (∀ n k s₀ s σ H, n + k = T.N0 → Inv (G.cx N qual scope s₀) [] σ H s → D k σ H → Seg (model G.P G.w) A (GRp G N qual scope T) (GYp G N qual scope T) n s₀ c (K .next) fs s) →
    Inv (G.cx N qual scope s₀) [] σ H s → t D k σ H → Seg (model G.P G.w) A (GRp G N qual scope T) (GYp G N qual scope T) n s₀ c ((exec st (G.env qual scope)).wrap K J gd lv) fs s
structure GSs (st : List Stmt) (t : GT) : Prop where
  run : ∀ (A : Around) (n k : Nat) (s₀ : Shared) (c : Code) (fs : List Frame) (K : Flow → Sem PySem.Fin) (J : Value → Sem PySem.Fin) (gd : Bool → Bool) (lv : List Value → List Value) (s : Shared) (σ : L2.St) (H : Hp) (D : GD),
    GCd G qual scope A c fs gd → n + k = T.N0 → (∀ n k s₀ s σ H, n + k = T.N0 → Inv (G.cx N qual scope s₀) [] σ H s → D k σ H → Seg (model G.P G.w) A (GRp G N qual scope T) (GYp G N qual scope T) n s₀ c (K .next) fs s) →
    Inv (G.cx N qual scope s₀) [] σ H s → t D k σ H → Seg (model G.P G.w) A (GRp G N qual scope T) (GYp G N qual scope T) n s₀ c ((execs st (G.env qual scope)).wrap K J gd lv) fs s
end
section
variable {G : Gv} {N : List Str} {qual : Str} {scope : Scope} {T : GPr} {st : Stmt} {rest : List Stmt}
theorem g_ps {t : TS} (h : ∀ s₀, PS (G.cx N qual scope s₀) st t) : GSt G N qual scope T st (fun D k σ H => t { nx := D k, rt := fun _ _ => False } σ H) := by
  refine ⟨fun A n k s₀ c fs K J gd lv s σ H D g hn hk I ht => ?_⟩
  refine seg_wrap ?_
  rw [g.over]
  refine wpAny_mono ((h s₀).run [] s σ H _ I ht) (fun f s' hs => ?_) fun x s' hx => hx.elim
  cases f with
  | next =>
    obtain ⟨σ', H', I', q⟩ := hs
    exact hk n k s₀ s' σ' H' hn I' q
  | brk => obtain ⟨_, _, _, q⟩ := hs; exact q.elim
  | cont => obtain ⟨_, _, _, q⟩ := hs; exact q.elim
  | ret u => obtain ⟨_, _, _, _, _, q⟩ := hs; exact q.elim
theorem g_nil : GSs G N qual scope T [] (fun D k σ H => D k σ H) := by
  refine ⟨fun A n k s₀ c fs K J gd lv s σ H D g hn hk I ht => ?_⟩
  exact seg_execs_nil (hk n k s₀ s σ H hn I ht)
theorem g_cons {t u : GT} (a : GSt G N qual scope T st t) (b : GSs G N qual scope T rest u) : GSs G N qual scope T (st :: rest) (fun D => t (u D)) := by
  refine ⟨fun A n k s₀ c fs K J gd lv s σ H D g hn hk I ht => ?_⟩
  refine seg_execs_cons ?_
  exact a.run A n k s₀ c fs _ J gd lv s σ H (u D) g hn (fun n' k' s₀' s' σ' H' hn' I' q => b.run A n' k' s₀' c fs K J gd lv s' σ' H' D g hn' hk I' q) I ht
theorem g_if {test : Expr} {body orelse : List Stmt} {pos : Pos} {tc : TT} {ta tb : GT} (hc : ∀ s₀, PT (G.cx N qual scope s₀) test tc) (ha : GSs G N qual scope T body ta) (hb : GSs G N qual scope T orelse tb) :
    GSt G N qual scope T (.If test body orelse pos) (fun D k σ H => tc σ H fun b H' => if b = true then ta D k σ H' else tb D k σ H') := by
  refine ⟨fun A n k s₀ c fs K J gd lv s σ H D g hn hk I ht => ?_⟩
  rw [exec_If]
  refine seg_bind_wrap (wpAny_standAt (seg_bind_wrap ?_))
  rw [g.over]
  refine wpAny_mono ((hc s₀).run [] s σ H _ I ht) (fun b s' hs => ?_) fun x s' hx => hx.elim
  obtain ⟨H', I', q⟩ := hs
  cases b with
  | true =>
    rw [if_pos rfl] at q ⊢
    exact ha.run A n k s₀ c fs K J gd lv s' σ H' D g hn hk I' q
  | false =>
    rw [if_neg Bool.false_ne_true] at q ⊢
    exact hb.run A n k s₀ c fs K J gd lv s' σ H' D g hn hk I' q
theorem g_yield {e : Expr} {yp pos : Pos} {te : TE} (he : ∀ s₀, PE (G.cx N qual scope s₀) e te) (hco : (G.env qual scope).scope.isCoroutine = false := by rfl) (hi : interactive (G.env qual scope) = false := by rfl) :
    GSt G N qual scope T (.Expr (.Yield (some e) yp) pos) (fun D k σ H => k < T.N0 ∧ te σ H fun x H1 => T.out k x H1 ∧ ∀ H', T.chg k H1 H' → D (k + 1) σ H') := by
  refine ⟨fun A n k s₀ c fs K J gd lv s σ H D g hn hk I ht => ?_⟩
  obtain ⟨hlt, ht⟩ := ht
  cases n with
  | zero =>
    exact absurd hlt (by omega)
  | succ n =>
    refine seg_Expr_Yield g.split g.gd g.guard ?_ hco hi
    rw [g.over]
    refine wpAny_mono ((he s₀).run [] s σ H _ I ht) (fun v s' hv => ?_) fun x s' hx => hx.elim
    obtain ⟨x, H1, I1, rv, ho, q⟩ := hv
    intro kap hkap
    exact ⟨k, x, σ, H1, hn, rv, I1, ho, fun s'' H'' hc I'' => hkap .none s'' (hk n (k + 1) s'' s'' σ H'' (by omega) I'' (q H'' hc))⟩
theorem gcd_loop {A : Around} {c c' : Code} {fs : List Frame} {gd : Bool → Bool} {k : Result → Sem PySem.Fin} {l kp : List Value} {p : Pos} (g : GCd G qual scope A c fs gd) (hw : c'.weight = 0) (hu : c'.cUnits = 0) :
    GCd G qual scope A c' (.ret k none (gd false) l c p kp :: fs) id where
  over := (over_loop hw hu).trans g.over
  split := by
    show (splitAtGen fs).map _ = none
    rw [g.split]; rfl
  guard := by
    show (gd false || fs.any Frame.guarded) = false
    rw [g.gd, g.guard]; rfl
  gd := rfl
theorem g_while {test : Expr} {body : List Stmt} {pos : Pos} {tc : TT} {tb : GT} (hc : ∀ s₀, PT (G.cx N qual scope s₀) test tc) (hb : GSs G N qual scope T body tb) :
    GSt G N qual scope T (.While test body [] pos) (fun D k σ H => ∃ W : Nat → Nat → L2.St → Hp → Prop, (∃ m, W m k σ H) ∧ ∀ m k σ H, W m k σ H → tc σ H fun b H1 => if b = true then tb (fun k' σ' H' => ∃ m', m' < m ∧ W m' k' σ' H') k σ H1 else D k σ H1) := by
  refine ⟨fun A n k s₀ c fs K J gd lv s σ H D g hn hk I ht => ?_⟩
  obtain ⟨W, ⟨m0, w0⟩, turn⟩ := ht
  refine seg_While fun p => ?_
  have gl := fun (kk : Result → Sem PySem.Fin) => gcd_loop (k := kk) (c' := .whileLoop test body [] (G.env qual scope)) (l := lv []) (kp := []) (p := p) g rfl rfl
  have loop : ∀ (m n k : Nat) (s₀ s : Shared) (σ : L2.St) (H : Hp), n + k = T.N0 → W m k σ H → Inv (G.cx N qual scope s₀) [] σ H s →
      Seg (model G.P G.w) A (GRp G N qual scope T) (GYp G N qual scope T) n s₀ (.whileLoop test body [] (G.env qual scope)) ((model G.P G.w).den (.whileLoop test body [] (G.env qual scope)))
        (.ret (fun r => ((match r with | .ok f => (.pure f : Sem Flow) | .error e => .raise e).onRaise (cameBack (G.env qual scope))).wrap K J gd lv) none (gd false) (lv []) c p [] :: fs) s := by
    intro m
    induction m using Nat.strongRecOn with
    | ind m ih =>
      intro n k s₀ s σ H hn w I
      refine seg_whileLoop ?_
      rw [(gl _).over]
      refine wpAny_mono ((hc s₀).run [] s σ H _ I (turn m k σ H w)) (fun b s' hb' => ?_) fun x s' hx => hx.elim
      obtain ⟨H2, I2, q2⟩ := hb'
      cases b with
      | true =>
        rw [if_pos rfl] at q2
        rw [if_pos rfl]
        refine hb.run A n k s₀ _ _ _ _ id id s' σ H2 _ (gl _) hn (fun n' k' s₀' s3 σ3 H3 hn' I3 n3 => ?_) I2 q2
        obtain ⟨m', hm, w3⟩ := n3
        exact seg_again rfl (ih m' hm n' k' s₀' s3 σ3 H3 hn' w3 I3)
      | false =>
        rw [if_neg Bool.false_ne_true] at q2
        rw [if_neg Bool.false_ne_true]
        refine seg_execs_nil ?_
        exact seg_leaf (.ok .next) (hk n k s₀ s' σ H2 hn I2 q2)
  exact loop m0 n k s₀ s σ H hn w0 I
end
/-! the same, the reading first found at the call's own state -/
section
variable {G : Gv} {N : List Str} {qual : Str} {scope : Scope} {T : GPr} {st : Stmt} {rest : List Stmt}
theorem g_ps2 {t : TS} (_ : PS (G.cx N qual scope G.sc) st t) (h : ∀ s₀, PS (G.cx N qual scope s₀) st t) : GSt G N qual scope T st (fun D k σ H => t { nx := D k, rt := fun _ _ => False } σ H) := g_ps h
theorem g_if2 {test : Expr} {body orelse : List Stmt} {pos : Pos} {tc : TT} {ta tb : GT} (_ : PT (G.cx N qual scope G.sc) test tc) (hc : ∀ s₀, PT (G.cx N qual scope s₀) test tc) (ha : GSs G N qual scope T body ta) (hb : GSs G N qual scope T orelse tb) :
    GSt G N qual scope T (.If test body orelse pos) (fun D k σ H => tc σ H fun b H' => if b = true then ta D k σ H' else tb D k σ H') := g_if hc ha hb
theorem g_while2 {test : Expr} {body : List Stmt} {pos : Pos} {tc : TT} {tb : GT} (_ : PT (G.cx N qual scope G.sc) test tc) (hc : ∀ s₀, PT (G.cx N qual scope s₀) test tc) (hb : GSs G N qual scope T body tb) :
    GSt G N qual scope T (.While test body [] pos) (fun D k σ H => ∃ W : Nat → Nat → L2.St → Hp → Prop, (∃ m, W m k σ H) ∧ ∀ m k σ H, W m k σ H → tc σ H fun b H1 => if b = true then tb (fun k' σ' H' => ∃ m', m' < m ∧ W m' k' σ' H') k σ H1 else D k σ H1) := g_while hc hb
theorem g_yield2 {e : Expr} {yp pos : Pos} {te : TE} (_ : PE (G.cx N qual scope G.sc) e te) (he : ∀ s₀, PE (G.cx N qual scope s₀) e te) (hco : (G.env qual scope).scope.isCoroutine = false := by rfl) (hi : interactive (G.env qual scope) = false := by rfl) :
    GSt G N qual scope T (.Expr (.Yield (some e) yp) pos) (fun D k σ H => k < T.N0 ∧ te σ H fun x H1 => T.out k x H1 ∧ ∀ H', T.chg k H1 H' → D (k + 1) σ H') := g_yield he hco hi
end
/-! ### waking, and back -/
theorem funFrames_on {h h' base : Heap} : ∀ {l : List Env}, h.FunFrames base l → (∀ b ∈ frs l, ∀ o, h.get? b = some o → h'.get? b = some o) → h'.FunFrames base l
  | [], _, _ => trivial
  | env :: l, ⟨hk, ⟨L, o, hf, hn, ho, hd⟩, hr⟩, k => ⟨hk, ⟨L, o, hf, hn, k L (List.mem_filterMap.mpr ⟨env, List.mem_cons_self, hf⟩) o ho, hd⟩, funFrames_on hr fun b hb => k b (by
      obtain ⟨e, he, q⟩ := List.mem_filterMap.mp hb
      exact List.mem_filterMap.mpr ⟨e, List.mem_cons_of_mem _ he, q⟩)⟩
/-- the call: from the caller's context -/
abbrev Gv.of (X : Cx) (sc : Shared) (Hc : Hp) (ag : Addr) (go : Obj) (f : Addr) (cdv : Value) (A : Around) : Gv := ⟨X.prog, X.w, X.K, X.mg, X.base, X.stack, sc, Hc, ag, go, f, cdv, A⟩
/-- what the tracked heap may do between the call and a waking -/
structure Since (sc : Shared) (Hc H : Hp) : Prop where
  free : ∀ b o, sc.heap.get? b = some o → Hc b = none → H b = none
  tups : ∀ b xs, Hc b = some (.tup xs) → H b = some (.tup xs)
  frzs : ∀ b o u, Hc b = some (.frz o u) → H b = some (.frz o u)
  tbls : ∀ b ps, Hc b = some (.tbl ps) → ∃ more, H b = some (.tbl (ps ++ more))
/-- the gate of a generator's frame -/
structure GSc (N : List Str) (scope : Scope) : Prop where
  kind : scope.kind = .function
  nc : ∀ L, cellsFrom L scope.names [] = []
  loc : ∀ x k, scope.names.lookup x = some k → k ≠ .cell ∧ k ≠ .free
section
variable {X : Cx} {sc : Shared} {Hc : Hp} {ag : Addr} {go : Obj} {f : Addr} {cdv : Value} {A : Around} {N : List Str} {qual : Str} {scope : Scope}
theorem g_loc {env : Env} (S : GSc N scope) (he : env.scope = scope) {h h' : Heap} {m : Str → Option Value} {x : Str} {u : Value} (q : Look env h m x u) (hk : env.kindOf x = env.scope.names.lookup x) : Look env h' m x u := by
  rcases q with q | ⟨k, _⟩
  · exact .inl q
  · exfalso
    rw [hk, he] at k
    rcases k with k | k
    · exact (S.loc _ _ k).1 rfl
    · exact (S.loc _ _ k).2 rfl
theorem wake {pins : List (Addr × Obj)} {σr σ : L2.St} {H' : Hp} {s' : Shared} (Ic : Inv X pins σr Hc sc) {σ2 : L2.St} {pins2 : List (Addr × Obj)} (Ir : Inv X pins2 σ2 H' s') (S : GSc N scope) (hA : A.frames = some X.stack) (hd : A.handled = none) (hs : Since sc Hc H')
    (loc : ∃ m, s'.heap.Ns sc.heap.objs.size m ∧ ∀ (i : Nat) (x : Str) (v : V), N[i]? = some x → σ[i]? = some (some v) → Vis scope x → ∃ u, RelV v u ∧ Look (envOfC qual scope sc.heap.objs.size f cdv) s'.heap m x u) (hL : H' sc.heap.objs.size = none) (len : σ.length = N.length)
    (pg : s'.heap.get? ag = some go ∧ H' ag = none) (h1 : ag ≠ sc.heap.objs.size) (h2 : ag ∉ frs X.stack) (h3 : ∀ v, go.data ≠ .cell v) : Inv ((Gv.of X sc Hc ag go f cdv A).cx N qual scope s') [] σ H' s' := by
  have lt0 : sc.heap.objs.size < s'.heap.objs.size := loc.choose_spec.1.lt
  have szt : (tr sc.heap s').heap.objs.size = sc.heap.objs.size := tr_size (Nat.le_of_lt lt0)
  have nc : ∀ x c, ((Gv.of X sc Hc ag go f cdv A).cx N qual scope s').env.cells.lookup x ≠ some c := fun x c e => by
    have e' : (cellsFrom (sc.heap.objs.size + 1) scope.names []).lookup x = some c := e
    rw [S.nc] at e'
    cases e'
  have oldF : ∀ b ∈ frs X.stack, ∃ o, sc.heap.get? b = some o := fun b hb => by
    obtain ⟨_, o, e, _⟩ := Ic.stack.mem hb
    exact ⟨o, e⟩
  refine ⟨⟨Ir.ok.mod, S.kind, rfl, rfl, ?_, fun x y c h => absurd h (nc x c), fun x hx => ?_, fun x c _ h => absurd h (nc x c), fun _ => hd, Around.frames_deeper hA, .inr ⟨rfl, rfl⟩, fun b z => (nomatch z), fun b o e => ?_, ?_, fun b _ _ z => (nomatch z), fun b z => (nomatch z), ?_, fun b hb => ?_⟩,
    rfl, Ir.bare, ⟨fun b o e _ _ _ => (tr_ge e).2, fun b o e _ _ _ => ⟨o.slots, (tr_ge e).2⟩, fun b o e n _ => hs.free b _ (tr_ge e).1.choose_spec n, fun b o e _ => ⟨o, (tr_ge e).2⟩, hs.tups, hs.frzs, hs.tbls⟩, loc, fun x c h => absurd h (nc x c), hL, fun x c h => absurd h (nc x c), fun p hp => ?_, Ir.hok, len⟩
  · show (tr sc.heap s').heap.objs.size ≤ sc.heap.objs.size
    rw [szt]
    exact Nat.le_refl _
  · exfalso
    have hx' : scope.names.lookup x = some .cell ∨ scope.names.lookup x = some .free := hx
    rcases hx' with k | k
    · exact (S.loc _ _ k).1 rfl
    · exact (S.loc _ _ k).2 rfl
  · refine ⟨?_, (Ic.bs b o e).2⟩
    show (tr sc.heap s').heap.get? b = some o
    rw [tr_lt (Ic.bk b o e)]
    exact Ir.bk b o e
  · show X.base.objs.size ≤ (tr sc.heap s').heap.objs.size
    rw [szt]
    exact Nat.le_trans Ic.ok.bsz Ic.sz
  · refine funFrames_on Ir.stack fun b hb o e => ?_
    show (tr sc.heap s').heap.get? b = some o
    rw [tr_lt (oldF b hb).choose_spec]
    exact e
  · exact Ic.stkFree b hb
  · have hp' : p ∈ [(ag, go)] := by rw [List.append_nil] at hp; exact hp
    rw [List.mem_singleton.mp hp']
    exact ⟨pg.1, pg.2, h1, h2, h3⟩
/-- the caller again, behind a stretch of the generator -/
theorem back {pins : List (Addr × Obj)} {σr σ σ2 : L2.St} {Hr H : Hp} {sr s s2 : Shared} (Ic : Inv X pins σr Hc sc) (Ir : Inv X pins σ2 Hr sr) (Ig : Inv ((Gv.of X sc Hc ag go f cdv A).cx N qual scope sr) [] σ H s) (he : s2.heap = s.heap) (ho : s2.os = s.os) (hb : AllBare s2.gens) :
    Inv X pins σ2 H s2 := by
  have g : ∀ {b : Nat} {o u : Obj}, sc.heap.get? b = some u → sr.heap.get? b = some o → (tr sc.heap sr).heap.get? b = some o := fun {b o u} h e => by rw [tr_lt h]; exact e
  have nox : ∀ b : Addr, b ∉ ([] : List Addr) := fun b z => nomatch z
  have oldc : ∀ {b o}, X.s_0.heap.get? b = some o → b ∉ X.ex → ∃ u, sc.heap.get? b = some u := fun {b o} e hx => by
    obtain ⟨o', e'⟩ := Ic.base.there b o e hx
    exact ⟨o', e'⟩
  have keep : ∀ {b : Nat} {o : Obj}, (∃ u, sc.heap.get? b = some u) → Hc b = none → b ∉ frs X.stack → sr.heap.get? b = some o → s.heap.get? b = some o := fun {b o} h n hf e => Ig.base.keep b o (g h.choose_spec e) n hf (nox b)
  have slot : ∀ {b : Nat} {o : Obj}, (∃ u, sc.heap.get? b = some u) → Hc b = none → b ∈ frs X.stack → sr.heap.get? b = some o → ∃ sl, s.heap.get? b = some { o with slots := sl } := fun {b o} h n hf e => Ig.base.slot b o (g h.choose_spec e) n hf (nox b)
  have any : ∀ {b : Nat} {o : Obj}, (∃ u, sc.heap.get? b = some u) → Hc b = none → sr.heap.get? b = some o → ∃ sl, s.heap.get? b = some { o with slots := sl } := fun {b o} h n e => by
    by_cases hf : b ∈ frs X.stack
    · exact slot h n hf e
    · exact ⟨o.slots, keep h n hf e⟩
  have fsS : ∀ b ∈ X.fs, ∃ o, X.s_0.heap.get? b = some o := fun b hb => by
    obtain ⟨_, o, e, _⟩ := Ic.ok.funs.mem hb
    exact ⟨o, e⟩
  have ltL : ∃ u, sc.heap.get? X.env.locals = some u := by
    obtain ⟨m, ⟨o, es, ep, ho, r⟩, _⟩ := Ic.loc
    exact ⟨o, ho⟩
  have cellO : ∀ x c, X.env.cells.lookup x = some c → (∃ u, sc.heap.get? c = some u) ∧ Hc c = none := fun x c e => by
    obtain ⟨v, o, e', _⟩ := Ic.cell x c e
    exact ⟨⟨o, e'⟩, Ic.freeC x c e⟩
  obtain ⟨hh, gg, dd, tt, oo⟩ := s2
  dsimp only at he ho hb
  subst he ho
  refine ⟨Ir.ok, ?_, hb, ⟨fun b o e n hb hx => ?_, fun b o e n hb hx => ?_, fun b o e n hx => ?_, fun b o e hx => ?_, fun b xs e => ?_, fun b o u e => ?_, fun b ps e => ?_⟩, ?_, fun x c e => ?_, ?_, fun x c e => ?_, fun p hp => ?_, Ig.hok, Ir.len⟩
  · show s.os = X.s_0.os
    rw [Ig.os]
    exact Ir.os
  · have hc := Ic.base.free b o e n hx
    have er := Ir.base.keep b o e n hb hx
    obtain ⟨sl, q⟩ := any (oldc e hx) hc er
    by_cases hf : b ∈ frs X.stack
    · rcases List.mem_cons.mp (Ic.stkSub b hf) with z | z
      · have h1 := Heap.lt_size e
        exact absurd (Nat.lt_of_lt_of_le h1 (by rw [z]; exact Ic.ok.above)) (Nat.lt_irrefl _)
      · exact absurd z hb
    · exact keep (oldc e hx) hc hf er
  · have hc := Ic.base.free b o e n hx
    obtain ⟨sl, er⟩ := Ir.base.slot b o e n hb hx
    obtain ⟨sl2, q⟩ := any (oldc e hx) hc er
    exact ⟨sl2, q⟩
  · have hc := Ic.base.free b o e n hx
    obtain ⟨o', er⟩ := Ir.base.there b o e hx
    exact Ig.base.free b o' (g (oldc e hx).choose_spec er) hc (nox b)
  · obtain ⟨o', er⟩ := Ir.base.there b o e hx
    exact Ig.base.there b o' (g (oldc e hx).choose_spec er) (nox b)
  · exact Ig.base.tups b xs (Ic.base.tups b xs e)
  · exact Ig.base.frzs b o u (Ic.base.frzs b o u e)
  · obtain ⟨m1, e1⟩ := Ic.base.tbls b ps e
    obtain ⟨m2, e2⟩ := Ig.base.tbls b _ e1
    exact ⟨m1 ++ m2, by rw [← Array.append_assoc]; exact e2⟩
  · obtain ⟨m, ⟨o, es, ep, ho, r⟩, hl⟩ := Ir.loc
    obtain ⟨sl, q⟩ := any ltL Ic.free ho
    refine ⟨m, ⟨_, es, ep, q, r⟩, fun i x v e1 e2 e3 => ?_⟩
    obtain ⟨u, ru, z⟩ := hl i x v e1 e2 e3
    refine ⟨u, ru, ?_⟩
    rcases z with z | ⟨k, c, ec, oc, hoc, hdc⟩
    · exact .inl z
    · obtain ⟨l1, l2⟩ := cellO x c ec
      obtain ⟨sl, q⟩ := any l1 l2 hoc
      exact .inr ⟨k, c, ec, _, q, hdc⟩
  · obtain ⟨v, oc, hoc, hdc⟩ := Ir.cell x c e
    obtain ⟨l1, l2⟩ := cellO x c e
    obtain ⟨sl, q⟩ := any l1 l2 hoc
    exact ⟨v, _, q, hdc⟩
  · obtain ⟨m, ⟨o, es, ep, ho, r⟩, hl⟩ := Ir.loc
    exact Ig.base.free _ o (g ltL.choose_spec ho) Ic.free (nox _)
  · obtain ⟨v, oc, hoc, hdc⟩ := Ir.cell x c e
    obtain ⟨l1, l2⟩ := cellO x c e
    exact Ig.base.free _ oc (g l1.choose_spec hoc) l2 (nox _)
  · obtain ⟨e1, e2, e3, e4, e5⟩ := Ir.pin p hp
    obtain ⟨c1, c2, _, _, _⟩ := Ic.pin p hp
    have hlt : ∃ u, sc.heap.get? p.1 = some u := ⟨_, c1⟩
    have hf : p.1 ∉ frs X.stack := fun z => by
      rcases List.mem_cons.mp (Ic.stkSub _ z) with z | z
      · exact e3 z
      · exact e4 z
    exact ⟨keep hlt c2 hf e1, Ig.base.free _ _ (g hlt.choose_spec e1) c2 (nox _), e3, e4, e5⟩
end
end W
end
section
set_option Elab.async false
set_option linter.all false
set_option maxRecDepth 100000
set_option maxHeartbeats 4000000
namespace W
open PySem PySem.Spec PyProof.Rows L2 GenW
open SR (Tie Mach Stt)
abbrev N_orders : List Str := ["graph", "rule", "begun", "nodes", "progress", "pile", "found", "node"]
abbrev sc_o : Scope := defScope (topS 69)
theorem sc_ordG : GSc N_orders sc_o := ⟨rfl, fun _ => rfl, by
  have h : ∀ y ∈ sc_o.names, y.2 ≠ .cell ∧ y.2 ≠ .free := by decide +kernel
  exact fun x k e => h (x, k) (PySem.mem_of_lookup e)⟩
structure NdH (N : List Str) : Prop where
  nd : N.Nodup
theorem sc_orders : NdH N_orders := ⟨by decide +kernel⟩
/-- all orders -/
abbrev ORD (M : Mach) (near : List (List Nat)) : List (List Nat) := SR.ords M near near.length (List.range near.length) SR.zero
/-- the caller's list at fo holds what came out; the rest is as at the call -/
def FInv (fo : Addr) (Hc : Hp) (O : List (List Nat)) (k : Nat) (H : Hp) : Prop := ∃ ls : List Addr, H fo = some (.lst (refs ls)) ∧ ListsAt H ls (O.take k) ∧ SameX fo Hc H
def TO (fo : Addr) (Hc : Hp) (O : List (List Nat)) : GPr where
  out := fun k x H => FInv fo Hc O k H ∧ ∃ l o, x = .ref l ∧ O[k]? = some o ∧ H l = some (.lst (nl o))
  fin := fun k H => FInv fo Hc O k H ∧ k = O.length
  chg := fun k H H' => SameX fo H H' ∧ FInv fo Hc O (k + 1) H'
  N0 := O.length + 1
/-- one entry of the pile -/
def ItemAt (C : Ad) (fo pl g r : Addr) (H : Hp) (t : Addr) (i : List Nat × List Nat × Stt) : Prop :=
  ∃ fl p dx l d : Addr, H t = some (.tup [.ref fl, .ref p]) ∧ H fl = some (.lst (nl i.1)) ∧ H p = some (.ins C.P dx (pf g r l d)) ∧ H l = some (.lst (nl i.2.1)) ∧ H d = some (.dT (pkv i.2.1 i.2.2)) ∧ fl ≠ fo ∧ fl ≠ pl ∧ l ≠ fo ∧ l ≠ pl
/-- what the pile will still give -/
def remO (M : Mach) (near : List (List Nat)) (its : List (List Nat × List Nat × Stt)) : List (List Nat) := its.reverse.flatMap fun i => (SR.ords M near i.2.1.length i.2.1 i.2.2).map (i.1 ++ ·)
def wt : Nat → Nat
  | 0 => 1
  | m + 1 => 1 + (m + 1) * (wt m + 1)
def GW (C : Ad) (fo : Addr) (Hb Hc : Hp) (M : Mach) (near : List (List Nat)) (g r pl : Addr) (m k : Nat) (σ : L2.St) (H : Hp) : Prop :=
  ∃ (ts : List Addr) (its : List (List Nat × List Nat × Stt)) (don : List (List Nat)) (v3 v4 v6 v7 : Option V), σ = [some (.ref g), some (.ref r), some .non, v3, v4, some (.ref pl), v6, v7] ∧ H pl = some (.lst (refs ts)) ∧ pl ≠ fo ∧ Hc pl = none ∧ Paired (ItemAt C fo pl g r H) ts its ∧
    (∀ i ∈ its, Okk M near i.2.1 i.2.2 ∧ i.1.length + i.2.1.length = near.length) ∧ ORD M near = don ++ remO M near its ∧ don.length = k ∧ FInv fo Hc (ORD M near) k H ∧ Same Hb H ∧ m = (its.map fun i => wt i.2.1.length).sum ∧ its.length + m ≤ 100000
theorem ItemAt.keep {C : Ad} {fo pl g r : Addr} {H H' : Hp} {xs ys : List V} (efo : H fo = some (.lst xs)) (epl : H pl = some (.lst ys)) (k : ∀ b o, b ≠ fo → b ≠ pl → H b = some o → H' b = some o) {t : Addr} {i : List Nat × List Nat × Stt} (h : ItemAt C fo pl g r H t i) : ItemAt C fo pl g r H' t i := by
  obtain ⟨fl, p, dx, l, d, h1, h2, h3, h4, h5, a, b, c, e⟩ := h
  have no : ∀ {b : Addr} {o : HO}, H b = some o → (∀ zs, o ≠ .lst zs) → H' b = some o := fun {b o} hb hn => k b o (ne_of hb efo (hn _)) (ne_of hb epl (hn _)) hb
  exact ⟨fl, p, dx, l, d, no h1 (fun _ z => nomatch z), k _ _ a b h2, no h3 (fun _ z => nomatch z), k _ _ c e h4, no h5 (fun _ z => nomatch z), a, b, c, e⟩
theorem ords_len {M : Mach} {near : List (List Nat)} : ∀ (k : Nat) (left : List Nat) (st : Stt) (o : List Nat), o ∈ SR.ords M near k left st → o.length = k
  | 0, _, _, o, h => by
    rw [show SR.ords M near 0 _ _ = [[]] from rfl] at h
    rw [List.mem_singleton.mp h]
    rfl
  | k + 1, left, st, o, h => by
    obtain ⟨v, _, h⟩ := List.mem_flatMap.mp h
    obtain ⟨o', ho', rfl⟩ := List.mem_map.mp h
    rw [List.length_cons, ords_len k _ _ o' ho']
theorem paired_unsnoc {α β : Type} {R : α → β → Prop} : ∀ {l : List α} {x : α} {m : List β}, Paired R (l ++ [x]) m → ∃ m' y, m = m' ++ [y] ∧ Paired R l m' ∧ R x y
  | [], x, _, .cons r .nil => ⟨[], _, rfl, .nil, r⟩
  | a :: l, x, _, .cons r t => by
    obtain ⟨m', y, rfl, h1, h2⟩ := paired_unsnoc t
    exact ⟨_ :: m', y, rfl, .cons r h1, h2⟩
theorem nl_ne_refs {o : List Nat} {ts : List Addr} (h : 0 < o.length) : nl o ≠ refs ts := fun e => by
  cases o with
  | nil => cases h
  | cons a o =>
    cases ts with
    | nil => cases e
    | cons t ts =>
      have := (List.cons.inj (show V.int (a : Int) :: nl o = V.ref t :: refs ts from e)).1
      cases this
theorem FInv.put {fo pl : Addr} {Hc H : Hp} {O : List (List Nat)} {k : Nat} {ts : List Addr} {x : HO} (h : FInv fo Hc O k H) (n : pl ≠ fo) (hc : Hc pl = none) (e : H pl = some (.lst (refs ts))) (hO : ∀ o ∈ O, 0 < o.length) : FInv fo Hc O k (upd H pl x) := by
  obtain ⟨ls, h1, h2, h3⟩ := h
  refine ⟨ls, by rw [upd_ne (Ne.symm n)]; exact h1, ?_, fun b o nb eb => ?_⟩
  · have : ∀ {as : List Addr} {os : List (List Nat)}, (∀ o ∈ os, 0 < o.length) → ListsAt H as os → ListsAt (upd H pl x) as os := by
      intro as os ho hl
      induction hl with
      | nil => exact .nil
      | @cons a o as os r _ ih =>
        refine .cons ?_ (ih fun o h => ho o (List.mem_cons_of_mem _ h))
        have r' : H a = some (.lst (nl o)) := r
        have : a ≠ pl := fun z => by
          rw [z, e] at r'
          exact nl_ne_refs (ho o List.mem_cons_self) (HO.lst.inj (Option.some.inj r')).symm
        rw [upd_ne this]
        exact r'
    exact this (fun o h => hO o (List.mem_of_mem_take h)) h2
  · rw [upd_ne (ne_of_none eb hc)]
    exact h3 _ _ nb eb
theorem FInv.same {fo : Addr} {Hc H H' : Hp} {O : List (List Nat)} {k : Nat} (h : FInv fo Hc O k H) (s : Same H H') : FInv fo Hc O k H' := by
  obtain ⟨ls, h1, h2, h3⟩ := h
  exact ⟨ls, s _ _ h1, h2.same s, fun b o nb eb => s _ _ (h3 _ _ nb eb)⟩
def rLst (K : PySem.W.Frag) : List V → Hp → VK → Prop := fun xs H Q => ∃ p ys, xs = [V.ref p] ∧ (SqL K H p ys ∨ SqT K H p ys) ∧ ∀ l : Addr, H l = none → Q (V.ref l) (upd H l (.lst ys))
/-- the loop that puts the next ones on the pile -/
def tForO (K : PySem.W.Frag) (C : Ad) : TS := tFor (iRev K (tCons (tCB (rLst K) (tCons (tMeth C.P "free" (spFree C) [] E0 (tVar 4) tNil) tNil)) tNil)) (gName 7)
  (tDrop (tBM K "list" rAppend (tVar 5) (tCons (tTup (tCons (tOp rCat (tVar 6) (tLst (tCons (tVar 7) tNil))) (tCons (tMeth C.P "behind" (spBehind C) [] E0 (tVar 4) (tCons (tVar 7) tNil)) tNil))) tNil)))
/-- what is put on for one entry -/
def nextI (M : Mach) (near : List (List Nat)) (found left : List Nat) (st : Stt) (v : Nat) : List Nat × List Nat × Stt := (found ++ [v], SR.bhL left v, SR.bhS M near st v)
theorem forO_ok {K : PySem.W.Frag} {C : Ad} (T0 : True) (PC : ProgC K C.P) {fo pl g r fl p : Addr} {Hb Hc H6 : Hp} {M : Mach} {near : List (List Nat)} {O : List (List Nat)} (hg : GraphAt C.G Hb g near) (hr' : RuleAt C.R Hb r M) (hM : MOk M) (nplfo : pl ≠ fo) (pl0 : Hc pl = none) (hbc : Same Hb Hc)
    {found left : List Nat} {st : Stt} (hO : Okk M near left st) (hfl : found.length ≤ 7) {ts' : List Addr} {its' : List (List Nat × List Nat × Stt)} {k : Nat} {v3 v7 : Option V} {D : Ends} (hOp : ∀ o ∈ O, 0 < o.length) (hsz : its'.length ≤ 100000)
    (hIt : ∃ dx l d : Addr, H6 fl = some (.lst (nl found)) ∧ H6 p = some (.ins C.P dx (pf g r l d)) ∧ H6 l = some (.lst (nl left)) ∧ H6 d = some (.dT (pkv left st)) ∧ fl ≠ fo ∧ fl ≠ pl ∧ l ≠ fo ∧ l ≠ pl) (hI : Paired (ItemAt C fo pl g r H6) ts' its') (hpl : H6 pl = some (.lst (refs ts'))) (hF : FInv fo Hc O k H6) (hb6 : Same Hb H6)
    (hD : ∀ (v7' : Option V) (ts : List Addr) (H9 : Hp), H9 pl = some (.lst (refs ts)) → Paired (ItemAt C fo pl g r H9) ts (its' ++ (SR.free M left st).reverse.map (nextI M near found left st)) → FInv fo Hc O k H9 → Same Hb H9 →
      D.nx [some (.ref g), some (.ref r), some .non, v3, some (.ref p), some (.ref pl), some (.ref fl), v7'] H9) :
    tForO K C D [some (.ref g), some (.ref r), some .non, v3, some (.ref p), some (.ref pl), some (.ref fl), v7] H6 := by
  obtain ⟨dx, l, d, q2, q3, q4, q5, a1, a2, a3, a4⟩ := id hIt
  have hP6 : ProgAt C.P H6 p g r left st := ⟨dx, l, d, q3, q4, q5⟩
  refine ⟨_, rfl, p, dx, _, rfl, q3, pf_no, p, g, r, M, left, st, rfl, hP6, hr'.same hb6, hM, hO.fits, Nat.le_trans hO.few (by decide), fun H7 f7 s67 f70 hf7 => ?_⟩
  generalize hFr : SR.free M left st = F at hf7 hD
  have hFs : ∀ v ∈ F, v ∈ left := fun v hv => by rw [← hFr] at hv; exact SR.free_sub hv
  have hFl : F.length ≤ 7 := by rw [← hFr]; exact Nat.le_trans (List.length_filter_le _ _) hO.few
  refine ⟨f7, _, rfl, .inl (SqL.of hf7), fun cp ncp => ?_⟩
  obtain ⟨H8, e8, s8, s78, hcp, cp6⟩ := new_as (o := .lst (nl F)) s67 ncp
  rw [← e8]
  clear e8
  have hpl8 := s8 _ _ hpl
  have ncppl : cp ≠ pl := Ne.symm (ne_of_none hpl cp6)
  obtain ⟨xfo, hfo6⟩ : ∃ xs, H6 fo = some (.lst xs) := ⟨_, hF.choose_spec.1⟩
  refine ⟨cp, nl F, rfl, SqL.of hcp, RT.for_Itv (K := K) (a := cp) (xs := nl F) (fun i σ H => ∃ (v7' : Option V) (ts : List Addr), σ = [some (.ref g), some (.ref r), some .non, v3, some (.ref p), some (.ref pl), some (.ref fl), v7'] ∧ SameX pl H8 H ∧ H pl = some (.lst (refs ts)) ∧ Paired (ItemAt C fo pl g r H) ts (its' ++ (F.reverse.take i).map (nextI M near found left st)) ∧ FInv fo Hc O k H)
    ⟨v7, ts', rfl, fun b o _ e => e, hpl8, ?_, hF.same s8⟩ (fun i σ H ⟨_, _, _, sx, _⟩ => SqL.of (sx _ _ ncppl hcp)) ?_ ?_⟩
  · rw [List.take_zero, List.map_nil, List.append_nil]
    exact Paired.imp (fun _ _ h => h.keep hfo6 hpl fun b o _ _ e => s8 _ _ e) hI
  · rintro i x σ H hi hx ⟨v7', ts, rfl, sx, hplH, hIH, hFH⟩
    rw [nl_length] at hi hx
    obtain ⟨v, hv, rfl⟩ := nl_get hx
    have hvr : F.reverse[i]? = some v := by rw [List.getElem?_reverse hi]; exact hv
    have hvl := hFs v (List.mem_of_getElem? hv)
    -- what stood before stands
    have k8 : ∀ {b o}, b ≠ pl → H6 b = some o → H b = some o := fun {b o} nb e => sx _ _ nb (s8 _ _ e)
    have npp : p ≠ pl := ne_of q3 hpl (fun z => nomatch z)
    have npd : d ≠ pl := ne_of q5 hpl (fun z => nomatch z)
    have hP : ProgAt C.P H p g r left st := ⟨dx, l, d, k8 npp q3, k8 a4 q4, k8 npd q5⟩
    have hfoH : H fo = some (.lst xfo) := k8 (Ne.symm nplfo) hfo6
    have hbH : Same Hb H := fun b o e => k8 (ne_of_none (hbc _ _ e) pl0) (hb6 _ _ e)
    have hbl : Hb pl = none := by
      cases z : Hb pl with
      | none => rfl
      | some o => rw [hbc _ _ z] at pl0; cases pl0
    refine ⟨_, rfl, .inl ⟨rfl, _, SqL.of hplH⟩, _, rfl, _, rfl, by show 1 ≤ sizeLine; decide, fun sl nsl => ?_⟩
    obtain ⟨H10, e10, _, s10, hsl, _⟩ := new_as (o := .lst [.int (v : Int)]) (Same.refl H) nsl
    rw [← e10]
    clear e10
    refine ⟨fl, sl, _, _, rfl, rfl, s10 _ _ (k8 a2 q2), hsl, ?_, fun fn nfn => ?_⟩
    · rw [nl_length]
      exact Nat.le_of_lt (line_lt (by show found.length + 1 ≤ 10000; omega))
    obtain ⟨H11, e11, s11, _, hfn, fnH⟩ := new_as (o := .lst (nl found ++ [.int (v : Int)])) s10 nfn
    rw [← e11]
    clear e11
    refine ⟨_, rfl, p, dx, _, rfl, s11 _ _ (k8 npp q3), pf_no, _, rfl, p, g, r, v, M, near, left, st, rfl, hP.same s11, hr'.same (hbH.trans s11), hg.same (hbH.trans s11), hM, hO.fits, hO.lt v hvl, hO.nd, Nat.le_trans hO.few (by decide), fun H12 q12 s12 q0 ⟨hP12, hnew⟩ => ?_⟩
    have s12' := s11.trans s12
    refine ⟨by show 2 ≤ sizeLine; decide, fun t2 nt2 => ?_⟩
    obtain ⟨H13, e13, s13, s1213, ht2, t20⟩ := new_as (o := .tup [.ref fn, .ref q12]) s12' nt2
    rw [← e13]
    clear e13
    have hpl13 := s13 _ _ hplH
    refine ⟨pl, _, _, rfl, rfl, hpl13, ?_, ?_⟩
    · have hle := Paired.length hIH
      rw [List.length_append, List.length_map, List.length_take, List.length_reverse] at hle
      unfold refs
      rw [List.length_map]
      exact line_lt2 (by omega)
    obtain ⟨dq, lq, ddq, b1, b2, b3⟩ := id hP12
    have nfnfo : fn ≠ fo := fun z => by rw [z, hfoH] at fnH; cases fnH
    have nfnpl : fn ≠ pl := fun z => by rw [z, hplH] at fnH; cases fnH
    have hlq := hnew _ _ _ b1
    have nlqfo : lq ≠ fo := fun z => by rw [z, s11 _ _ hfoH] at hlq; cases hlq
    have nlqpl : lq ≠ pl := fun z => by rw [z, s11 _ _ hplH] at hlq; cases hlq
    have kp : ∀ b o, b ≠ pl → H13 b = some o → upd H13 pl (.lst (refs ts ++ [V.ref t2])) b = some o := fun b o nb e => by rw [upd_ne nb]; exact e
    refine ⟨_, ts ++ [t2], rfl, fun b o nb e => kp _ _ nb (s13 _ _ (sx _ _ nb e)), ?_, ?_, ?_⟩
    · rw [upd_same]
      unfold refs
      rw [List.map_append]
      rfl
    · rw [take_get hvr, List.map_append, ← List.append_assoc]
      refine paired_snoc ?_ ?_
      · have it13 : ItemAt C fo pl g r H13 t2 (nextI M near found left st v) := by
          refine ⟨fn, q12, dq, lq, ddq, ht2, ?_, s1213 _ _ b1, s1213 _ _ b2, s1213 _ _ b3, nfnfo, nfnpl, nlqfo, nlqpl⟩
          rw [s1213 _ _ (s12 _ _ hfn)]
          show _ = some (HO.lst (nl (found ++ [v])))
          rw [nl_append]
          rfl
        exact it13.keep (s13 _ _ hfoH) hpl13 fun b o _ nb e => kp b o nb e
      · exact Paired.imp (fun _ _ h => h.keep hfoH hplH fun b o _ nb e => kp _ _ nb (s13 _ _ e)) hIH
    · exact (hFH.same s13).put nplfo pl0 hpl13 hOp
  · rintro σ H ⟨v7', ts, rfl, sx, hplH, hIH, hFH⟩
    rw [nl_length, List.take_of_length_le (by rw [List.length_reverse]; exact Nat.le_refl _)] at hIH
    exact hD v7' ts H hplH hIH hFH fun b o e => sx _ _ (ne_of_none (hbc _ _ e) pl0) (s8 _ _ (hb6 _ _ e))
theorem remO_next {M : Mach} {near : List (List Nat)} (its' : List (List Nat × List Nat × Stt)) (found left : List Nat) (st : Stt) (F : List Nat) :
    remO M near (its' ++ F.reverse.map (nextI M near found left st)) = (F.flatMap fun v => (SR.ords M near (SR.bhL left v).length (SR.bhL left v) (SR.bhS M near st v)).map ((found ++ [v]) ++ ·)) ++ remO M near its' := by
  unfold remO
  rw [List.reverse_append, ← List.map_reverse, List.reverse_reverse, List.flatMap_append, List.flatMap_map]
  rfl
theorem ords_next {M : Mach} {near : List (List Nat)} {found left : List Nat} {st : Stt} (nd : left.Nodup) (c : left ≠ []) :
    (SR.ords M near left.length left st).map (found ++ ·) = (SR.free M left st).flatMap fun v => (SR.ords M near (SR.bhL left v).length (SR.bhL left v) (SR.bhS M near st v)).map ((found ++ [v]) ++ ·) := by
  obtain ⟨k, hk⟩ : ∃ k, left.length = k + 1 := ⟨left.length - 1, by
    have : 0 < left.length := List.length_pos_iff.mpr c
    omega⟩
  rw [hk]
  show ((SR.free M left st).flatMap fun v => (SR.ords M near k (SR.bhL left v) (SR.bhS M near st v)).map (v :: ·)).map (found ++ ·) = _
  rw [List.map_flatMap]
  have : ∀ {F : List Nat}, (∀ v ∈ F, v ∈ left) → (F.flatMap fun v => ((SR.ords M near k (SR.bhL left v) (SR.bhS M near st v)).map (v :: ·)).map (found ++ ·)) = F.flatMap fun v => (SR.ords M near (SR.bhL left v).length (SR.bhL left v) (SR.bhS M near st v)).map ((found ++ [v]) ++ ·) := by
    intro F
    induction F with
    | nil => intro _; rfl
    | cons v F ih =>
      intro hF
      have hv := SR.bhL_length nd (hF v List.mem_cons_self)
      have e : (SR.bhL left v).length = k := by omega
      rw [List.flatMap_cons, List.flatMap_cons, ih fun u hu => hF u (List.mem_cons_of_mem _ hu), e, List.map_map]
      congr 1
      refine List.map_congr_left fun o _ => ?_
      show found ++ (v :: o) = (found ++ [v]) ++ o
      rw [List.append_assoc]
      rfl
  exact this fun v hv => SR.free_sub hv
section
variable {G : Gv} {C : Ad}
theorem orders_run (T : Bl G.mg) (PC : ProgC G.K C.P) (FBw : FnB G.P G.w G.K G.mg G.base CX0 4 "begun_with" ["graph", "rule", "begun"] [] (spBegunW C)) (FFr : MeB G.P G.w G.K G.mg G.base CX0 2 C.P "free" ["self"] (spFree C)) (FBh : MeB G.P G.w G.K G.mg G.base CX0 3 C.P "behind" ["self", "node"] (spBehind C))
    (hr : Room 4 (G.A.deeper (G.env "orders" sc_o))) {fo g r : Addr} {Hb : Hp} {M : Mach} {near : List (List Nat)} (hg : GraphAt C.G Hb g near) (hr' : RuleAt C.R Hb r M) (hM : MOk M) (h7 : near.length ≤ 7) (hb : Same Hb G.Hc) (hpos : 0 < near.length) (hbf : Hb fo = none) (hcf : G.Hc fo = some (.lst [])) :
    ∃ t, GSs G N_orders "orders" sc_o (TO fo G.Hc (ORD M near)) (defBody (topS 69)) t ∧ t (fun k _ H => (TO fo G.Hc (ORD M near)).fin k H) 0 (start N_orders [.ref g, .ref r, .non]) G.Hc := by
  apply Exists.intro
  apply And.intro
  · apply g_cons
    · exact g_ps2 (ps_asg (pe_fn FBw hr pass0 (pa_cons (pv 0) (pa_cons (pv 1) (pa_cons (pv 2) pa_nil)))) (pg_tup rfl (pgs_cons (pg_name (i := 3) sc_orders.nd rfl (Or.inl rfl)) (pgs_cons (pg_name (i := 4) sc_orders.nd rfl (Or.inl rfl)) pgs_nil)))) fun _ => (ps_asg (pe_fn FBw hr pass0 (pa_cons (pv 0) (pa_cons (pv 1) (pa_cons (pv 2) pa_nil)))) (pg_tup rfl (pgs_cons (pg_name (i := 3) sc_orders.nd rfl (Or.inl rfl)) (pgs_cons (pg_name (i := 4) sc_orders.nd rfl (Or.inl rfl)) pgs_nil))))
    apply g_cons
    · exact g_ps2 (ps_set (i := 5) sc_orders.nd rfl (Or.inl rfl) (pe_ifExp (pt_cmp (pc_isN (pv 4)) rfl) (pe_lst pa_nil) (pe_lst (pa_cons (pe_tup (pa_cons (pv 3) (pa_cons (pv 4) pa_nil))) pa_nil)))) fun _ => (ps_set (i := 5) sc_orders.nd rfl (Or.inl rfl) (pe_ifExp (pt_cmp (pc_isN (pv 4)) rfl) (pe_lst pa_nil) (pe_lst (pa_cons (pe_tup (pa_cons (pv 3) (pa_cons (pv 4) pa_nil))) pa_nil))))
    apply g_cons
    · apply g_while2 (pt_truth (pv 5) (by intro _; rfl)) (fun _ => (pt_truth (pv 5) (by intro _; rfl)))
      apply g_cons
      · exact g_ps2 (ps_asg (pe_bm0 PySem.F.plainAttrs_list PySem.F.slot_list_pop PySem.F.type_list_pop mt_pop (pv 5)) (pg_tup rfl (pgs_cons (pg_name (i := 6) sc_orders.nd rfl (Or.inl rfl)) (pgs_cons (pg_name (i := 4) sc_orders.nd rfl (Or.inl rfl)) pgs_nil)))) fun _ => (ps_asg (pe_bm0 PySem.F.plainAttrs_list PySem.F.slot_list_pop PySem.F.type_list_pop mt_pop (pv 5)) (pg_tup rfl (pgs_cons (pg_name (i := 6) sc_orders.nd rfl (Or.inl rfl)) (pgs_cons (pg_name (i := 4) sc_orders.nd rfl (Or.inl rfl)) pgs_nil))))
      apply g_cons
      · apply g_if2 (pt_not (pt_truth (pe_fld (pv 4) rfl) (by intro _; rfl))) (fun _ => (pt_not (pt_truth (pe_fld (pv 4) rfl) (by intro _; rfl))))
        · apply g_cons
          · exact g_yield2 (pe_callTy call_list_of (by rfl) T.b_list (by decide +kernel) (pa_cons (pv 6) pa_nil)) fun _ => (pe_callTy call_list_of (by rfl) T.b_list (by decide +kernel) (pa_cons (pv 6) pa_nil))
          · exact g_nil
        · exact g_nil
      apply g_cons
      · exact g_ps2 (ps_for PassesOwn.never rfl (pi_reversed (by rfl) T.b_reversed (pa_cons (pe_callTy call_list_of (by rfl) T.b_list (by decide +kernel) (pa_cons (pe_me0 (pv 4) FFr (hr.mono (by decide)) pass0) pa_nil)) pa_nil)) (pg_name (i := 7) sc_orders.nd rfl (Or.inl rfl)) (pss_one (ps_expr (pe_bm PySem.F.plainAttrs_list PySem.F.slot_list_append PySem.F.type_list_append mt_append (pv 5) (pa_cons (pe_tup (pa_cons (pe_op op_cat (pv 6) (pe_lst (pa_cons (pv 7) pa_nil))) (pa_cons (pe_me (pv 4) FBh (hr.mono (by decide)) pass0 (pa_cons (pv 7) pa_nil)) pa_nil))) pa_nil))))) fun _ => (ps_for PassesOwn.never rfl (pi_reversed (by rfl) T.b_reversed (pa_cons (pe_callTy call_list_of (by rfl) T.b_list (by decide +kernel) (pa_cons (pe_me0 (pv 4) FFr (hr.mono (by decide)) pass0) pa_nil)) pa_nil)) (pg_name (i := 7) sc_orders.nd rfl (Or.inl rfl)) (pss_one (ps_expr (pe_bm PySem.F.plainAttrs_list PySem.F.slot_list_append PySem.F.type_list_append mt_append (pv 5) (pa_cons (pe_tup (pa_cons (pe_op op_cat (pv 6) (pe_lst (pa_cons (pv 7) pa_nil))) (pa_cons (pe_me (pv 4) FBh (hr.mono (by decide)) pass0 (pa_cons (pv 7) pa_nil)) pa_nil))) pa_nil)))))
      · exact g_nil
    · exact g_nil
  · refine ⟨_, rfl, _, rfl, _, rfl, g, r, near, rfl, hg.same hb, h7, fun H1 t l p s1 t0 ht hl l0 hP => ?_⟩
    refine ⟨t, _, rfl, SqT.of ht, rfl, _, _, rfl, _, _, rfl, rfl, ?_⟩
    refine ⟨_, rfl, false, rfl, iteF ?_⟩
    refine ⟨_, rfl, _, rfl, by show 2 ≤ sizeLine; decide, fun t1 nt1 => ⟨by show 1 ≤ sizeLine; decide, fun pl npl => ?_⟩⟩
    obtain ⟨H2, e2, s2, s12, ht1, _⟩ := new_as (o := .tup [.ref l, .ref p]) s1 nt1
    rw [← e2] at npl ⊢
    clear e2
    obtain ⟨H3, e3, s3, s23, hpl, pl0⟩ := new_as (o := .lst [.ref t1]) s2 npl
    rw [← e3]
    clear e3
    have fo3 := s3 _ _ hcf
    have nplfo : pl ≠ fo := fun z => by rw [z, hcf] at pl0; cases pl0
    have nlfo : l ≠ fo := fun z => by rw [z, hcf] at l0; cases l0
    have nlpl : l ≠ pl := ne_of_none (s12 _ _ hl) npl
    obtain ⟨dx, pl0', d, hp1, hl1, hd1⟩ := hP
    have hn0 : nl (List.range near.length) ≠ [] := fun z => by
      have := congrArg List.length z
      rw [nl_length, List.length_range] at this
      exact absurd this (Nat.ne_of_gt hpos)
    have n1 : pl0' ≠ fo := fun z => by
      have e1 := s1 _ _ hcf
      rw [z, e1] at hl1
      have := HO.lst.inj (Option.some.inj hl1)
      exact hn0 this.symm
    have n2 : pl0' ≠ pl := ne_of_none (s12 _ _ hl1) npl
    refine ⟨fun m k σ H => GW C fo Hb G.Hc M near g r pl m k σ H, ⟨wt near.length, [t1], [([], List.range near.length, SR.zero)], [], _, _, _, _, rfl, hpl, nplfo, pl0, .cons ⟨l, p, dx, pl0', d, s23 _ _ ht1, s23 _ _ (s12 _ _ hl), s23 _ _ (s12 _ _ hp1), s23 _ _ (s12 _ _ hl1), s23 _ _ (s12 _ _ hd1), nlfo, nlpl, n1, n2⟩ .nil, ?_, ?_, rfl, ⟨[], fo3, .nil, Same.x s3⟩, hb.trans s3, ?_, ?_⟩, ?_⟩
    · intro i hi
      rw [List.mem_singleton.mp hi]
      exact ⟨.start hM h7, by show 0 + (List.range near.length).length = _; rw [List.length_range, Nat.zero_add]⟩
    · unfold remO
      simp
    · simp
    · have hw : ∀ n ≤ 7, wt n ≤ 30000 := by decide
      have hw7 := hw _ h7
      exact Nat.le_trans (Nat.add_le_add_left hw7 1) (by decide)
    rintro m k σ H4 ⟨ts, its, don, v3, v4, v6, v7, rfl, hpl4, _, _, hI4, hok4, hord, hk, hF4, hb4, hm, hsz⟩
    have hOpos : ∀ o ∈ ORD M near, 0 < o.length := fun o ho => by rw [ords_len _ _ _ o ho]; exact hpos
    have hn7 : ∀ o ∈ ORD M near, o.length = near.length := fun o ho => ords_len _ _ _ o ho
    have hfo4 : ∃ xs, H4 fo = some (.lst xs) := ⟨_, hF4.choose_spec.1⟩
    obtain ⟨xfo, hfo4⟩ := hfo4
    refine ⟨_, rfl, !(refs ts).isEmpty, .inl ⟨refs ts, SqL.of hpl4, rfl⟩, ?_⟩
    rcases List.eq_nil_or_concat ts with rfl | ⟨ts', tt, ets⟩
    · cases hI4
      refine iteF ?_
      refine ⟨hF4, ?_⟩
      rw [hord, ← hk]
      show don.length = (don ++ []).length
      rw [List.append_nil]
    rw [List.concat_eq_append] at ets
    subst ets
    obtain ⟨its', ⟨found, left, st⟩, rfl, hI4', hIt⟩ := paired_unsnoc hI4
    have hne : (!(refs (ts' ++ [tt])).isEmpty) = true := by
      unfold refs
      rw [List.map_append]
      cases ts'.map V.ref <;> rfl
    rw [hne]
    refine iteT ?_
    have hrefs : refs (ts' ++ [tt]) = refs ts' ++ [V.ref tt] := by unfold refs; rw [List.map_append]; rfl
    obtain ⟨H5, e5, hpl5, s5⟩ : ∃ H5, H5 = upd H4 pl (.lst (refs ts')) ∧ H5 pl = some (.lst (refs ts')) ∧ SameX pl H4 H5 := ⟨_, rfl, upd_same, fun b o n e => by rw [upd_ne n]; exact e⟩
    refine ⟨_, rfl, .inl ⟨rfl, _, SqL.of hpl4⟩, pl, _, .ref tt, rfl, rfl, hpl4, by rw [hrefs]; simp, ?_⟩
    rw [hrefs, List.dropLast_concat, ← e5]
    have hF5 : FInv fo G.Hc (ORD M near) k H5 := by rw [e5]; exact hF4.put nplfo pl0 hpl4 hOpos
    have kp5 : ∀ b o, b ≠ fo → b ≠ pl → H4 b = some o → H5 b = some o := fun b o _ n e => s5 _ _ n e
    have hI5' : Paired (ItemAt C fo pl g r H5) ts' its' := Paired.imp (fun _ _ h => h.keep hfo4 hpl4 kp5) hI4'
    have hIt5 := hIt.keep hfo4 hpl4 kp5
    have hb5 : Same Hb H5 := fun b o e => s5 _ _ (ne_of_none (hb _ _ e) pl0) (hb4 _ _ e)
    have hfo5 := s5 _ _ (Ne.symm nplfo) hfo4
    clear e5
    obtain ⟨fl, p, dx, l, d, q1, q2, q3, q4, q5, a1, a2, a3, a4⟩ := id hIt5
    have hO : Okk M near left st := (hok4 _ (List.mem_append_right _ List.mem_cons_self)).1
    have hlen : found.length + left.length = near.length := (hok4 _ (List.mem_append_right _ List.mem_cons_self)).2
    have hok' : ∀ i ∈ its', Okk M near i.2.1 i.2.2 ∧ i.1.length + i.2.1.length = near.length := fun i hi => hok4 i (List.mem_append_left _ hi)
    refine ⟨tt, _, rfl, SqT.of q1, rfl, _, _, rfl, _, _, rfl, rfl, ?_⟩
    refine ⟨_, rfl, p, C.P, dx, _, _, rfl, q3, PC.cl, PC.nL, pf_left, _, tru_nl q4, ?_⟩
    by_cases c : left = []
    · subst c
      refine iteT ?_
      have hord' : ORD M near = (don ++ [found]) ++ remO M near its' := by
        rw [hord]
        unfold remO
        rw [List.reverse_append, List.reverse_singleton, List.singleton_append, List.flatMap_cons]
        show don ++ ((SR.ords M near 0 [] st).map (found ++ ·) ++ _) = _
        rw [show SR.ords M near 0 [] st = [[]] from rfl, List.map_cons, List.map_nil, List.append_nil, List.append_assoc]
      have hkk : (ORD M near)[k]? = some found := by
        rw [hord', ← hk, List.append_assoc, List.getElem?_append_right (Nat.le_refl _), Nat.sub_self]
        rfl
      refine ⟨?_, ?_⟩
      · show k < (ORD M near).length + 1
        exact Nat.lt_succ_of_lt (List.getElem?_eq_some_iff.mp hkk).1
      refine ⟨_, rfl, fl, _, rfl, .inl (SqL.of q2), fun z nz => ?_⟩
      have hPz : Same H5 (upd H5 z (.lst (nl found))) := same_upd nz
      refine ⟨⟨hF5.same hPz, z, found, rfl, hkk, upd_same⟩, fun H' hch => ?_⟩
      obtain ⟨sx, hF'⟩ := hch
      have kf : ∀ {b o}, b ≠ fo → H5 b = some o → H' b = some o := fun {b o} nb e => sx _ _ nb (hPz _ _ e)
      have ins' : ∀ {b C' dx' xs}, H5 b = some (.ins C' dx' xs) → H' b = some (.ins C' dx' xs) := fun {b C' dx' xs} e => kf (ne_of e hfo5 (fun z => nomatch z)) e
      have dT' : ∀ {b xs}, H5 b = some (.dT xs) → H' b = some (.dT xs) := fun {b xs} e => kf (ne_of e hfo5 (fun z => nomatch z)) e
      show tForO G.K C _ _ _
      refine forO_ok True.intro PC hg hr' hM nplfo pl0 hb hO (by show found.length ≤ 7; have : found.length + 0 = near.length := hlen; omega) (k := k + 1) hOpos ?_ ⟨dx, l, d, kf a1 q2, ins' q3, kf a3 q4, dT' q5, a1, a2, a3, a4⟩ (ts' := ts') (its' := its') ?_ (kf nplfo hpl5) hF' ?_ ?_
      · have : (its' ++ [(found, ([] : List Nat), st)]).length = its'.length + 1 := by rw [List.length_append]; rfl
        omega
      · refine Paired.imp (fun _ _ h => h.keep hfo5 hpl5 fun b o n _ e => kf n e) hI5'
      · exact fun b o e => kf (fun z => by rw [z, hbf] at e; cases e) (hb5 _ _ e)
      · intro v7' ts'' H9 hpl9 hI9 hF9 hb9
        have hfr : SR.free M [] st = [] := rfl
        rw [hfr, List.reverse_nil, List.map_nil, List.append_nil] at hI9
        refine ⟨_, ?_, ts'', its', don ++ [found], _, _, _, _, rfl, hpl9, nplfo, pl0, hI9, hok', hord', by rw [List.length_append, hk]; rfl, hF9, hb9, rfl, ?_⟩
        · rw [hm, List.map_append, List.sum_append]
          show _ < _ + (wt 0 + 0)
          show _ < _ + 1
          omega
        · rw [hm, List.map_append, List.sum_append, List.length_append] at hsz
          have : ([(found, ([] : List Nat), st)].map fun i => wt i.2.1.length).sum = 1 := rfl
          rw [this] at hsz
          have : [(found, ([] : List Nat), st)].length = 1 := rfl
          omega
    · have hte : (!left.isEmpty) = true := by cases left <;> simp_all
      rw [hte]
      refine iteF ?_
      show tForO G.K C _ _ _
      have hl7 := hO.few
      have hfd : found.length ≤ 7 := by
        have : found.length + left.length = near.length := hlen
        omega
      refine forO_ok True.intro PC hg hr' hM nplfo pl0 hb hO hfd (k := k) hOpos ?_ ⟨dx, l, d, q2, q3, q4, q5, a1, a2, a3, a4⟩ (ts' := ts') (its' := its') hI5' hpl5 hF5 hb5 ?_
      · have : (its' ++ [(found, left, st)]).length = its'.length + 1 := by rw [List.length_append]; rfl
        omega
      · intro v7' ts'' H9 hpl9 hI9 hF9 hb9
        have hFr : (SR.free M left st).length ≤ left.length := List.length_filter_le _ _
        obtain ⟨j, hj⟩ : ∃ j, left.length = j + 1 := ⟨left.length - 1, by
          have : 0 < left.length := List.length_pos_iff.mpr c
          omega⟩
        have hws : (((SR.free M left st).reverse.map (nextI M near found left st)).map fun i => wt i.2.1.length).sum = (SR.free M left st).length * wt j := by
          rw [List.map_map]
          have := SR.sum_const (SR.free M left st).reverse ((fun i : List Nat × List Nat × Stt => wt i.2.1.length) ∘ nextI M near found left st) (wt j) (fun v hv => by
            show wt (SR.bhL left v).length = wt j
            have := SR.bhL_length hO.nd (SR.free_sub (List.mem_reverse.mp hv))
            have e : (SR.bhL left v).length = j := by omega
            rw [e])
          rw [this, List.length_reverse]
        have hbig : (SR.free M left st).length * (wt j + 1) ≤ (j + 1) * (wt j + 1) := Nat.mul_le_mul_right _ (by omega)
        rw [Nat.mul_add, Nat.mul_one] at hbig
        have hwl : ([(found, left, st)].map fun i : List Nat × List Nat × Stt => wt i.2.1.length).sum = 1 + (j + 1) * (wt j + 1) := by
          show wt left.length + 0 = _
          rw [hj]
          rfl
        rw [hm, List.map_append, List.sum_append, List.length_append, hwl] at hsz
        have h1l : [(found, left, st)].length = 1 := rfl
        refine ⟨_, ?_, ts'', _, don, _, _, _, _, rfl, hpl9, nplfo, pl0, hI9, fun i hi => ?_, ?_, hk, hF9, hb9, rfl, ?_⟩
        · rw [hm, List.map_append, List.sum_append, List.map_append, List.sum_append, hws, hwl]
          omega
        · rcases List.mem_append.mp hi with hi | hi
          · exact hok' i hi
          · obtain ⟨v, hv, rfl⟩ := List.mem_map.mp hi
            refine ⟨hO.next v, ?_⟩
            have := SR.bhL_length hO.nd (SR.free_sub (List.mem_reverse.mp hv))
            have h2 : found.length + left.length = near.length := hlen
            show (found ++ [v]).length + (SR.bhL left v).length = near.length
            rw [List.length_append]
            show found.length + 1 + _ = _
            omega
        · rw [remO_next, ← ords_next hO.nd c, hord]
          unfold remO
          rw [List.reverse_append, List.reverse_singleton, List.singleton_append, List.flatMap_cons]
        · rw [List.map_append, List.sum_append, hws, List.length_append, List.length_map, List.length_reverse]
          omega
end
end W
end
section
set_option Elab.async false
set_option linter.all false
set_option maxRecDepth 100000
set_option maxHeartbeats 4000000
namespace W
open PySem PySem.Spec PyProof.Rows L2 GenW
open SR (Tie Mach Stt)
/-! ### steps of the caller that leave the generators alone -/
section
variable {X : Cx} {pins : List (Addr × Obj)} {σ : L2.St} {H : Hp} {s : Shared} {A : Around} {E : Value → Shared → Prop}
theorem kg_var {i : Nat} {x : Str} {v : V} {pos : Pos} (I : Inv X pins σ H s) (hN : X.N[i]? = some x) (hl : X.env.kindOf x = some .local) (e : σ[i]? = some (some v)) (hd : (x == ("__debug__" : Str)) = false := by decide) :
    ∃ u, RelV v u ∧ ∀ (A : Around) (Q : Value → Shared → Prop) (E : Value → Shared → Prop), Q u s → wpAny (model X.prog X.w) A (eval (.Name x pos) X.env) Q E s := by
  obtain ⟨m, hn, h⟩ := I.loc
  obtain ⟨u, r, l⟩ := h i x v hN e (.inl hl)
  rcases l with ⟨hk, hm⟩ | ⟨hk, _⟩
  · exact ⟨u, r, fun A Q E q => wpAny_Name (wpAny_loadName_local I.ok.kind hk hn hm q) hd⟩
  · rw [hl] at hk
    rcases hk with hk | hk <;> cases hk
theorem kg_store {i : Nat} {x : Str} {v : V} {u : Value} {Q : Unit → Shared → Prop} (I : Inv X pins σ H s) (hN : X.N.Nodup) (hi : X.N[i]? = some x) (hl : X.env.kindOf x = some .local) (r : RelV v u)
    (h : ∀ s', Inv X pins (σ.set i (some v)) H s' → s'.gens = s.gens → Q () s') : wpAny (model X.prog X.w) A (storeName X.env x u) Q E s := by
  obtain ⟨m, hn, hlk⟩ := id I.loc
  have hcls : (X.env.scope.kind == .class || (X.env.scope.kind == .module && X.env.locals != X.env.globals)) = false := by rw [I.ok.kind]; rfl
  have hiσ : i < σ.length := by rw [I.len]; exact (List.getElem?_eq_some_iff.mp hi).1
  refine wpAny_storeName_local hl hn (fun h' hn' hs => h _ ?_ rfl) hcls
  have neL : ∀ b o, X.s_0.heap.get? b = some o → b ≠ X.env.locals := fun b o e => Nat.ne_of_lt (Nat.lt_of_lt_of_le (Heap.lt_size e) I.ok.above)
  refine ⟨I.ok, I.os, I.bare, ⟨fun b o e n hb hx => ?_, fun b o e n hb hx => ?_, I.base.free, fun b o e hx => ?_, I.base.tups, I.base.frzs, I.base.tbls⟩, ⟨_, hn', fun j y v' e1 e2 e3 => ?_⟩, fun y c e => ?_, I.free, I.freeC, fun p hp => ?_, fun b ob e => ?_, by simpa using I.len⟩
  · exact (hs.2 b (neL b o e)).trans (I.base.keep b o e n hb hx)
  · obtain ⟨sl, e1⟩ := I.base.slot b o e n hb hx
    exact ⟨sl, (hs.2 b (neL b o e)).trans e1⟩
  · obtain ⟨o', e1⟩ := I.base.there b o e hx
    exact ⟨o', (hs.2 b (neL b o e)).trans e1⟩
  · by_cases hj : j = i
    · subst hj
      rw [hi] at e1
      cases e1
      rw [List.getElem?_set_self hiσ] at e2
      cases e2
      exact ⟨u, r, .inl ⟨hl, by simp⟩⟩
    · rw [List.getElem?_set_ne (Ne.symm hj)] at e2
      obtain ⟨u', r', q⟩ := hlk j y v' e1 e2 e3
      refine ⟨u', r', ?_⟩
      rcases q with ⟨k, e⟩ | ⟨k, c, e, z⟩
      · have ny : y ≠ x := fun e => hj (nodup_ix hN e1 (e ▸ hi))
        exact .inl ⟨k, by simp [ny, e]⟩
      · exact .inr ⟨k, c, e, z.sameBut hs (I.cne y c e)⟩
  · obtain ⟨w', z⟩ := I.cell y c e
    exact ⟨w', z.sameBut hs (I.cne y c e)⟩
  · obtain ⟨e, n, ne, nf, d⟩ := I.pin p hp
    exact ⟨(hs.2 p.1 ne).trans e, n, ne, nf, d⟩
  · refine (I.hok b ob e).stay (fun c w' hc q => (hs.2 c ?_).trans q) (fun _ q => q) fun _ _ q => q
    intro z
    subst z
    rcases hc with hc | hc
    · rw [← hc, I.free] at e; cases e
    · rw [I.free] at hc; cases hc
/-- first.append(order) -/
theorem kg_append {i j : Nat} {x y : Str} {v : V} {l : Addr} {xs : List V} {p1 p2 apos cpos pos : Pos} {Q : Flow → Shared → Prop} (I : Inv X pins σ H s) (hx : X.N[i]? = some x) (hxl : X.env.kindOf x = some .local) (ex : σ[i]? = some (some (.ref l))) (hy : X.N[j]? = some y) (hyl : X.env.kindOf y = some .local) (ey : σ[j]? = some (some v))
    (hH : H l = some (.lst xs)) (hz : xs.length < sizeLine) (h : ∀ s', Inv X pins σ (upd H l (.lst (xs ++ [v]))) s' → s'.gens = s.gens → Q .next s')
    (hbase : attributeBase (.Name x p1) "append" X.env (eval (.Name x p1) X.env) = eval (.Name x p1) X.env := by rfl)
    (hfew : ((backTo cpos (starEach [.Name y p2] X.env)).all (fun x => !x.1) && (backToKw cpos (keywordEach [] X.env)).all (fun x => x.1.isSome)
      && decide (([.Name y p2] : List Expr).length + ([] : List Keyword).length + (if ([] : List Keyword).isEmpty then 0 else 1) < 30)) = true := by rfl)
    (hline : (apos.endLine == cpos.line) = true := by rfl) (hs : starEach [.Name y p2] X.env = (false, eval (.Name y p2) X.env) :: starEach [] X.env := by rfl)
    (hsw : swapsWith (.Call (.Attribute (.Name x p1) "append" apos) [.Name y p2] [] cpos) none pos.line X.env = pure false := by rfl) (hd : (x == ("__debug__" : Str)) = false := by decide) (hd2 : (y == ("__debug__" : Str)) = false := by decide) :
    wpAny (model X.prog X.w) A (exec (.Expr (.Call (.Attribute (.Name x p1) "append" apos) [.Name y p2] [] cpos) pos) X.env) Q E s := by
  obtain ⟨u, ru, lx⟩ := kg_var (pos := p1) I hx hxl ex hd
  obtain rfl : u = Value.ref l := ru
  obtain ⟨w, rw', ly⟩ := kg_var (pos := p2) I hy hyl ey hd2
  refine wpAny_Expr_any ?_ I.quiet hsw
  refine wpAny_Call_method_late hbase hfew hline rfl (lx _ _ _ ?_)
  obtain ⟨z, its, n, r, hl, e⟩ := I.lstM hH
  refine ⟨"list", "list.append", F.plainAttrs_list, F.slot_list_append, F.type_list_append, ⟨_, e, rfl⟩, fun a ea => ?_, ?_⟩
  · cases ea
    exact ⟨_, e, rfl⟩
  rw [hs]
  refine Calls.callWith_builtin rfl (Calls.evalArgs_plain (Calls.spliced_cons (ly _ _ _ (Calls.spliced_nil ?_))))
  refine call_meets F.slot_list_append ⟨_, e, rfl⟩ F.entry_list_append (F.args_list_append_2 _ _) (PySem.list_append l its.toArray n w (by rw [List.size_toArray]; omega)) ⟨e, ?_⟩
  refine h _ (I.lset (its' := its ++ [w]) hH e (by simp) (r.append (.cons rw' .nil)) ?_) rfl
  rw [List.length_append, List.length_singleton]
  omega
/-- if len(first) > 1: break -/
theorem kg_if {i : Nat} {x : Str} {l : Addr} {xs : List V} {p1 p2 p3 p4 p5 p6 pos : Pos} {jj : Nat} {Q : Flow → Shared → Prop} (I : Inv X pins σ H s) (hx : X.N[i]? = some x) (hxl : X.env.kindOf x = some .local) (ex : σ[i]? = some (some (.ref l))) (hH : H l = some (.lst xs)) (hg : Gl X "len") (hm : X.mg "len" = none)
    (h : ∀ s', Inv X pins σ H s' → s'.gens = s.gens → Q (if 1 < xs.length then .brk else .next) s') (hs : starEach [.Name x p1] X.env = (false, eval (.Name x p1) X.env) :: starEach [] X.env := by rfl) (hd : (x == ("__debug__" : Str)) = false := by decide) :
    wpAny (model X.prog X.w) X.A (exec (.If (.Compare (.Call (.Name "len" p2) [.Name x p1] [] p3) [.Gt] [.Constant (.int 1) jj p4] p6) [.Break p5] [] pos) X.env) Q E s := by
  obtain ⟨u, ru, lx⟩ := kg_var (pos := p1) I hx hxl ex hd
  obtain rfl : u = Value.ref l := ru
  obtain ⟨its, r, pl, hz⟩ := I.list (SqL.of (K := X.K) hH)
  have hlen := r.length
  have hn := line63
  refine wpAny_If (wpAny_isTrue_Compare1 ?_ (nomark _))
  refine wpAny_Call_Name_kw (ld_blt I hg hm PySem.boot_len ?_)
  refine PyProof.Rows.callWith_builtin1 ?_ hs rfl
  rw [hs]
  refine Calls.spliced_cons (lx _ _ _ (Calls.spliced_nil ?_))
  refine Calls.call_len_list pl.isList (by simp only [List.size_toArray] <;> omega) ?_
  refine wpAny_Constant_int ?_
  refine PyProof.Rows.gt_int ?_
  refine wpAny_truthy_bool ?_
  have I3 : Inv X pins σ H { s with toks := s.toks + 1 + 1 + 1 } := I.kept (t' := s.toks + 1 + 1 + 1) fun _ _ q => q
  have hq := h _ I3 rfl
  have el : ((its.toArray.size : Nat) : Int) = (xs.length : Int) := by rw [List.size_toArray, hlen]
  by_cases c : 1 < xs.length
  · rw [if_pos c] at hq
    rw [if_pos (decide_eq_true (by rw [el]; omega))]
    exact wpAny_execs_cons (wpAny_Break (show _ from hq))
  · rw [if_neg c] at hq
    rw [if_neg (by rw [decide_eq_false (by rw [el]; omega)]; exact Bool.false_ne_true)]
    exact wpAny_execs_nil hq
end
/-! ### the generator is made -/
theorem gs_orders : GScope N_orders ["graph", "rule", "begun"] sc_o := ⟨rfl, rfl, rfl, by decide +kernel, rfl, by decide +kernel, by decide +kernel⟩
abbrev env_o (n f : Addr) (cdv : Value) : Env := envOfC "orders" sc_o n f cdv
/-- what stands behind the call: the generator's object at ag, its state fresh, its frame's dict at the first new address -/
structure Made (X : Cx) (sc : Shared) (f : Addr) (cdv : Value) (vs : List V) (ag gi : Nat) (go : Obj) (s1 : Shared) : Prop where
  obj : s1.heap.get? ag = some go
  isg : ∀ h : Heap, h.get? ag = some go → h.IsGen ag gi
  nc : ∀ v, go.data ≠ .cell v
  gen : s1.gens[gi]? = some (.fresh (.func (defBody (topS 69)) (env_o sc.heap.objs.size f cdv)))
  os : s1.os = sc.os
  bare : AllBare s1.gens
  keep : ∀ b o, sc.heap.get? b = some o → s1.heap.get? b = some o
  lt : sc.heap.objs.size < ag
  loc : ∃ m, s1.heap.Ns sc.heap.objs.size m ∧ ∀ (i : Nat) (x : Str) (v : V), N_orders[i]? = some x → (start N_orders vs)[i]? = some (some v) → Vis sc_o x → ∃ u, RelV v u ∧ Look (env_o sc.heap.objs.size f cdv) s1.heap m x u
theorem gen_made {X : Cx} {pins : List (Addr × Obj)} {σ : L2.St} {Hc : Hp} {sc : Shared} {f : Addr} {fd : FuncData} {us : List Value} {vs : List V} {Q : Value → Shared → Prop} {E : Value → Shared → Prop} (Ic : Inv X pins σ Hc sc) (F : FunD X.K "orders" "orders" (defArgs (topS 69)) (defBody (topS 69)) (defScope (topS 69)) [] [("begun", .non)] f fd)
    (r : Vals vs us) (h2 : vs.length = 2) (hr : Room 6 X.A) (h : ∀ cdv ag gi go s1, Made X sc f cdv (vs ++ [.non]) ag gi go s1 → Q (.ref ag) s1) : wpAny (model X.prog X.w) X.A (call (.ref f) us) Q E sc := by
  obtain ⟨ds, rd, hbn⟩ := F.binds0 (ps := ["graph", "rule", "begun"]) 2 (by decide) rfl (fun D doc pm an cdv ct us ks h1 h2 => by
    match us, h1, ks, h2 with
    | [a, b], _, [c], _ => exact ⟨_, _, _, _, _, _, rfl, rfl, rfl⟩)
  obtain ⟨oc, od, dV, kV, doc, pm, an, cdv, ct, osl, rfl, lk, hcd, _, _⟩ := F.ex
  have e0 := Ic.env0
  have KX : X.K.In sc.heap := Ic.kIn
  have lim : sc.heap.NoLimit := Ic.nolimit
  have hl : us.length = 2 := by rw [← r.length]; exact h2
  have rr : Vals (vs ++ [.non]) (us ++ ds) := r.append rd
  have hd1 : ds.length = 1 := rd.length.symm
  have hb := hbn sc us KX (by rw [List.length_append, hl, hd1]; rfl)
  have hkind : ∀ y ∈ (["graph", "rule", "begun"] : List Str).zip (us ++ ds), sc_o.names.lookup y.1 = some .local ∨ (sc_o.names.lookup y.1 = some .cell ∧ ((cellsFrom (sc.heap.objs.size + 1) sc_o.names []).lookup y.1).isSome = true) := fun ⟨n, v⟩ hy => by
    rcases gs_orders.par n (List.of_mem_zip hy).1 with q | q
    · exact .inl q
    · exact .inr ⟨q, PySem.W.cellsFrom_some _ _ _ (.inl q)⟩
  refine wpAny_call (codeAny_call_generator hr.depth (KX _ _ lk) rfl rfl rfl rfl (PySem.W.codeRec_of KX hcd) (hb _ _ _ _ ?_))
  refine wpAny_newFunctionEnv_cells gs_orders.kind hkind fun env he s1 x => ?_
  subst he
  have lim1 : s1.heap.NoLimit := lim.keeps x.toInCall.keep
  refine ⟨lim1, ?_⟩
  obtain ⟨h1, tk, es1, hk1⟩ := x.done
  have lt1 : sc.heap.objs.size < s1.heap.objs.size := x.toInCall.ns.lt
  have I1 := inv_startG (P := X.prog) (w := X.w) (K := X.K) (mg := X.mg) (base := X.base) (qual := "orders") (f := f) (cd := cdv) (A := X.A) (outer := X.stack) (E := fun _ _ _ => False) gs_orders hr.hd e0 (by rw [List.length_append, h2]; rfl) rr x
  refine h cdv s1.heap.objs.size s1.gens.size _ _ ⟨Heap.get?_push_size _ rfl, fun hh e => ⟨_, _, _, e, rfl, rfl, rfl⟩, fun v z => (nomatch z), Array.getElem?_push_size .., by rw [es1], AllBare.push (by rw [es1]; exact e0.bare) rfl, fun b o e => Heap.get?_push_of_some _ (x.toInCall.keep b o e), lt1, ?_⟩
  obtain ⟨m, hn, hlk⟩ := I1.loc
  refine ⟨m, hn.at' fun o e => Heap.get?_push_of_some _ e, fun i y v e1 e2 e3 => ?_⟩
  obtain ⟨u, ru, q⟩ := hlk i y v e1 e2 e3
  exact ⟨u, ru, g_loc sc_ordG rfl q rfl⟩
end W
end
section
set_option Elab.async false
set_option linter.all false
set_option maxRecDepth 100000
set_option maxHeartbeats 4000000
namespace W
open PySem PySem.Spec PyProof.Rows L2 GenW
open SR (Tie Mach Stt)
/-- for x in orders(..): y.append(x); if len(y) > 1: break -/
def tFirst (C : Ad) (iO iF : Nat) (ta : TA) : TS := fun D σ H => ta σ H fun vs H1 => ∃ (g r fo : Addr) (M : Mach) (near : List (List Nat)) (Hb : Hp), vs = [.ref g, .ref r] ∧ σ[iF]? = some (some (.ref fo)) ∧ H1 fo = some (.lst []) ∧ GraphAt C.G Hb g near ∧ RuleAt C.R Hb r M ∧ MOk M ∧ near.length ≤ 7 ∧ 0 < near.length ∧ Same Hb H1 ∧ Hb fo = none ∧
  0 < (ORD M near).length ∧ ∀ (v : V) (H' : Hp), FInv fo H1 (ORD M near) (min 2 (ORD M near).length) H' → D.nx (σ.set iO (some v)) H'
/-- the end in the form that next_genG reads -/
abbrev GRx (G : Gv) (T : GPr) : GenEnd := fun n s₀ r s₁ => ((r = .ok (.ret .none) ∨ r = .ok .next) ∧ (fun n s₀ s₁ => ∃ k σ H, n + k = T.N0 ∧ Inv (G.cx N_orders "orders" sc_o s₀) [] σ H s₁ ∧ T.fin k H) n s₀ s₁) ∨ ∃ e, r = .error e ∧ (fun (_ : Value) (_ : Shared) => False) e s₁
theorem inv_gens {X : Cx} {pins : List (Addr × Obj)} {σ : L2.St} {H : Hp} {s s' : Shared} (I : Inv X pins σ H s) (he : s'.heap = s.heap) (ho : s'.os = s.os) (hb : AllBare s'.gens) : Inv X pins σ H s' := by
  obtain ⟨h, g, d, t, o⟩ := s'
  dsimp only at he ho hb
  subst he ho
  exact ⟨I.ok, I.os, hb, I.base, I.loc, I.cell, I.free, I.freeC, I.pin, I.hok, I.len⟩
theorem findK_take {O : List (List Nat)} {k : Nat} {o : List Nat} (h : O[k]? = some o) : O.take (k + 1) = O.take k ++ [o] := take_get h
/-- the caller's append keeps the promise -/
theorem FInv.app {fo l : Addr} {Hc H : Hp} {O : List (List Nat)} {k : Nat} {o : List Nat} {ls : List Addr} (h1 : H fo = some (.lst (refs ls))) (h2 : ListsAt H ls (O.take k)) (h3 : SameX fo Hc H) (ho : O[k]? = some o) (hl : H l = some (.lst (nl o))) (hO : ∀ o ∈ O, 0 < o.length) :
    FInv fo Hc O (k + 1) (upd H fo (.lst (refs ls ++ [V.ref l]))) := by
  have ne : ∀ {a : Addr} {o : List Nat}, H a = some (.lst (nl o)) → 0 < o.length → a ≠ fo := fun {a o} e hp z => by
    rw [z, h1] at e
    exact nl_ne_refs hp (HO.lst.inj (Option.some.inj e)).symm
  refine ⟨ls ++ [l], ?_, ?_, fun b u nb e => ?_⟩
  · rw [upd_same]
    unfold refs
    rw [List.map_append]
    rfl
  · rw [findK_take ho]
    refine paired_snoc ?_ ?_
    · rw [upd_ne (ne hl (hO o (List.mem_of_getElem? ho)))]
      exact hl
    · have : ∀ {as : List Addr} {os : List (List Nat)}, (∀ o ∈ os, 0 < o.length) → ListsAt H as os → ListsAt (upd H fo (.lst (refs ls ++ [V.ref l]))) as os := by
        intro as os hp hL
        induction hL with
        | nil => exact .nil
        | @cons a o as os r _ ih =>
          refine .cons ?_ (ih fun o h => hp o (List.mem_cons_of_mem _ h))
          rw [upd_ne (ne r (hp o List.mem_cons_self))]
          exact r
      exact this (fun o h => hO o (List.mem_of_mem_take h)) h2
  · rw [upd_ne nb]
    exact h3 _ _ nb e
theorem ps_first {X : Cx} {C : Ad} (T : Bl X.mg) (PC : ProgC X.K C.P) (FBw : FnB X.prog X.w X.K X.mg X.base CX0 4 "begun_with" ["graph", "rule", "begun"] [] (spBegunW C)) (FFr : MeB X.prog X.w X.K X.mg X.base CX0 2 C.P "free" ["self"] (spFree C)) (FBh : MeB X.prog X.w X.K X.mg X.base CX0 3 C.P "behind" ["self", "node"] (spBehind C))
    (FO : Dk X.K X.mg "orders" (topS 69) [("begun", .non)]) (hr : Room 8 X.A) (hc : X.calm = true) (hxe : ∀ e s, ¬ X.xe e s) (hN : X.N.Nodup) {x y : Str} {iO iF : Nat} (hx : X.N[iO]? = some x) (hxl : X.env.kindOf x = some .local) (hy : X.N[iF]? = some y) (hyl : X.env.kindOf y = some .local) (hne : iO ≠ iF)
    (hg0 : Gl X "orders") (hlen : Gl X "len") {e1 e2 : Expr} {ta : TA} {p1 p2 p3 p4 p5 p6 p7 p8 p9 p10 p11 p12 p13 p14 p15 p16 : Pos} {jj : Nat} (ha : PA X [e1, e2] ta)
    (he : starEach [e1, e2] X.env = (false, eval e1 X.env) :: starEach [e2] X.env := by rfl) (hpl : (backTo p3 (starEach [e2] X.env)).any (·.1) = false := by rfl)
    (hfold : ∀ v, foldedSetIterable (.Call (.Name "orders" p2) [e1, e2] [] p3) X.env v = pure v := by intro _; rfl)
    (hbase : attributeBase (.Name y p4) "append" X.env (eval (.Name y p4) X.env) = eval (.Name y p4) X.env := by rfl)
    (hfew : ((backTo p7 (starEach [.Name x p6] X.env)).all (fun x => !x.1) && (backToKw p7 (keywordEach [] X.env)).all (fun x => x.1.isSome)
      && decide (([.Name x p6] : List Expr).length + ([] : List Keyword).length + (if ([] : List Keyword).isEmpty then 0 else 1) < 30)) = true := by rfl)
    (hline : (p5.endLine == p7.line) = true := by rfl) (hs1 : starEach [.Name x p6] X.env = (false, eval (.Name x p6) X.env) :: starEach [] X.env := by rfl)
    (hsw : swapsWith (.Call (.Attribute (.Name y p4) "append" p5) [.Name x p6] [] p7) none p8.line X.env = pure false := by rfl) (hs2 : starEach [.Name y p10] X.env = (false, eval (.Name y p10) X.env) :: starEach [] X.env := by rfl)
    (hdx : (x == ("__debug__" : Str)) = false := by decide) (hdy : (y == ("__debug__" : Str)) = false := by decide) :
    PS X (.For (.Name x p1) (.Call (.Name "orders" p2) [e1, e2] [] p3) [.Expr (.Call (.Attribute (.Name y p4) "append" p5) [.Name x p6] [] p7) p8, .If (.Compare (.Call (.Name "len" p9) [.Name y p10] [] p11) [.Gt] [.Constant (.int 1) jj p12] p13) [.Break p14] [] p15] [] p16) (tFirst C iO iF ta) := by
  refine ⟨fun pins s σ H D I h => ?_⟩
  obtain ⟨f, fd, F, hmf⟩ := FO.ex
  refine wpAny_For (wpAny_Call_Name_kw (ld_glob I hg0 hmf ?_)) hfold
  refine PySem.W.callWith_K (h₀ := X.base) I.ok.mod.kin F.kp (thn (ha.run p3 pins s σ H _ I h) fun us sc ⟨vs, Hc, Ic, r, q⟩ => ⟨Ic.kIn, ?_⟩) he hpl
  show wpAny _ _ (call (.ref f) us) _ _ _
  obtain ⟨g, r0, fo, M, near, Hb, rfl, hsF, hcf, hgr, hru, hM, h7, hpos, hb, hbf, hO1, hD⟩ := q
  refine gen_made Ic F r rfl (hr.mono (by decide)) fun cdv ag gi go s1 Mk => ?_
  refine wpAny_pyIter_gen (Mk.isg _ Mk.obj) ?_
  have hOpos : ∀ o ∈ ORD M near, 0 < o.length := fun o ho => by rw [ords_len _ _ _ o ho]; exact hpos
  have hroom : Room 7 X.A.in1 := (show Room (7 + 1) X.A from hr).in1
  obtain ⟨t, ht, hq⟩ := orders_run (G := Gv.of X sc Hc ag go f cdv X.A.in1) T PC FBw FFr FBh ((hroom.mono (by decide : 5 ≤ 7)).deeper _) hgr hru hM h7 hb hpos hbf hcf
  have ltc : sc.heap.objs.size < s1.heap.objs.size := Mk.loc.choose_spec.1.lt
  have ltL : X.env.locals < sc.heap.objs.size := Ic.lt
  have I1 : Inv X pins σ Hc s1 := Ic.call' (ch := []) Mk.os (Un.kept Mk.keep) (Ic.hok.kept Mk.keep) Mk.bare fun b z => nomatch z
  have hcL : Hc sc.heap.objs.size = none := Ic.hok.fresh (Nat.le_refl _)
  have hcag : Hc ag = none := Ic.hok.fresh (Nat.le_of_lt Mk.lt)
  have nfs : ∀ a : Nat, sc.heap.objs.size ≤ a → a ∉ frs X.stack := fun a ha hm => by
    obtain ⟨_, o, e, _⟩ := Ic.stack.mem hm
    exact absurd (Nat.lt_of_lt_of_le (Heap.lt_size e) ha) (Nat.lt_irrefl _)
  have nfs' : ∀ a : Nat, sc.heap.objs.size ≤ a → a ∉ X.fs := fun a ha hm => by
    obtain ⟨_, o, e, _⟩ := Ic.ok.funs.mem hm
    exact absurd (Nat.lt_of_lt_of_le (Heap.lt_size e) (Nat.le_trans Ic.sz ha)) (Nat.lt_irrefl _)
  have mkI : ∀ {σg σ2 : L2.St} {pins2 : List (Addr × Obj)} {H' : Hp} {s' : Shared}, Inv X pins2 σ2 H' s' → Since sc Hc H' →
      (∃ m, s'.heap.Ns sc.heap.objs.size m ∧ ∀ (i : Nat) (x : Str) (v : V), N_orders[i]? = some x → σg[i]? = some (some v) → Vis sc_o x → ∃ u, RelV v u ∧ Look (env_o sc.heap.objs.size f cdv) s'.heap m x u) →
      H' sc.heap.objs.size = none → s'.heap.get? ag = some go → H' ag = none → σg.length = N_orders.length → Inv ((Gv.of X sc Hc ag go f cdv X.A.in1).cx N_orders "orders" sc_o s') [] σg H' s' := fun Ir hs loc e1 e2 e3 e4 =>
    wake Ic Ir sc_ordG Ic.ok.frames hroom.hd hs loc e1 e4 ⟨e2, e3⟩ (Nat.ne_of_gt Mk.lt) (nfs _ (Nat.le_of_lt Mk.lt)) Mk.nc
  -- the generator before its first stretch
  have bare0 : ∀ {z : Shared}, AllBare z.gens → AllBare (z.setGen gi .running).gens := fun {z} h => allBare_setGen h rfl
  have I1r : Inv X pins σ Hc (s1.setGen gi .running) := inv_gens I1 rfl rfl (bare0 Mk.bare)
  have G1 : Inv ((Gv.of X sc Hc ag go f cdv X.A.in1).cx N_orders "orders" sc_o (s1.setGen gi .running)) [] (start N_orders [.ref g, .ref r0, .non]) Hc (s1.setGen gi .running) :=
    mkI I1r ⟨fun _ _ _ n => n, fun _ _ e => e, fun _ _ _ e => e, fun b ps e => ⟨#[], by rw [e]; simp⟩⟩ Mk.loc hcL Mk.obj hcag rfl
  have goes0 : (GenState.fresh (.func (defBody (topS 69)) (env_o sc.heap.objs.size f cdv))).Goes (model X.prog X.w) X.A.in1 (GRx (Gv.of X sc Hc ag go f cdv X.A.in1) (TO fo Hc (ORD M near))) (GYp (Gv.of X sc Hc ag go f cdv X.A.in1) N_orders "orders" sc_o (TO fo Hc (ORD M near))) ((ORD M near).length + 1) (.send .none) (s1.setGen gi .running) := by
    refine ⟨rfl, ?_⟩
    refine seg_imp (R := GRp (Gv.of X sc Hc ag go f cdv X.A.in1) N_orders "orders" sc_o (TO fo Hc (ORD M near))) (Y := GYp (Gv.of X sc Hc ag go f cdv X.A.in1) N_orders "orders" sc_o (TO fo Hc (ORD M near))) (fun n s₀ r s hR => ?_) (fun n s₀ v s kap kap' hkk hY => ?_) _ ?_
    · obtain ⟨k, σ', H', h1, h2, h3, h4⟩ := hR
      exact .inl ⟨.inl h2, k, σ', H', h1, h3, h4⟩
    · obtain ⟨k, x, σ', H', h1, h2, h3, h4, h5⟩ := hY
      exact ⟨k, x, σ', H', h1, h2, h3, h4, fun s' H'' c i => hkk _ _ (h5 s' H'' c i)⟩
    · refine seg_func ?_
      refine ht.run X.A.in1 _ 0 _ _ [] _ _ id id _ _ Hc _ ⟨over_func, rfl, rfl, rfl⟩ (Nat.add_zero _) (fun n k s₀ s σ H hn Ig hf => ?_) G1 hq
      exact seg_end (.ok (.ret .none)) ⟨k, σ, H, hn, rfl, Ig, hf⟩
  have depth : X.A.depth < recursionLimit := hr.depth
  have hd0 : X.A.handled = none := Ic.ok.hd hc
  -- the loop
  refine codeAny_forLoop_any (fun n z => (n = 1 ∧ z = s1) ∨ (n = 0 ∧ ∃ (v : V) (H' : Hp) (gs : GenState), z.gens[gi]? = some gs ∧ z.heap.get? ag = some go ∧ Inv X pins (σ.set iO (some v)) H' z ∧ FInv fo Hc (ORD M near) 1 H' ∧ (∀ b o, Hc b = some o → b ≠ fo → H' b = some o) ∧
    gs.Goes (model X.prog X.w) X.A.in1 (GRx (Gv.of X sc Hc ag go f cdv X.A.in1) (TO fo Hc (ORD M near))) (GYp (Gv.of X sc Hc ag go f cdv X.A.in1) N_orders "orders" sc_o (TO fo Hc (ORD M near))) (ORD M near).length (.send .none) (z.setGen gi .running))) ?_ 1 (.inl ⟨rfl, rfl⟩)
  -- one turn's body
  have body : ∀ {σB : L2.St} {pinsB : List (Addr × Obj)} {Hy : Hp} {s4 : Shared} {xs : List V} {l : Addr} {E1 E2 E3 : Value → Shared → Prop} {Rr : Flow → Shared → Prop}, Inv X pinsB σB Hy s4 → σB[iF]? = some (some (.ref fo)) → Hy fo = some (.lst xs) → xs.length < 1000 →
      (∀ s7, Inv X pinsB (σB.set iO (some (.ref l))) (upd Hy fo (.lst (xs ++ [.ref l]))) s7 → s7.gens = s4.gens → Rr (if 1 < xs.length + 1 then .brk else .next) s7) →
      wpAny (model X.prog X.w) X.A (letOwnedTupleGo (.Name x p1) (.ref ag) (.ref l)) (fun _ s5 => wpAny (model X.prog X.w) X.A (assign (.Name x p1) X.env (.ref l)) (fun _ s6 => wpAny (model X.prog X.w) X.A (execs [.Expr (.Call (.Attribute (.Name y p4) "append" p5) [.Name x p6] [] p7) p8, .If (.Compare (.Call (.Name "len" p9) [.Name y p10] [] p11) [.Gt] [.Constant (.int 1) jj p12] p13) [.Break p14] [] p15] X.env) Rr E3 s6) E2 s5) E1 s4 := by
    intro σB pinsB Hy s4 xs l E1 E2 E3 Rr Ib hσ hfo hlx hR
    refine wpAny_pure ?_
    refine wpAny_assign_Name (kg_store (v := .ref l) Ib hN hx hxl rfl fun s6 I6 g6 => ?_)
    have hiO : iO < σB.length := by rw [Ib.len]; exact (List.getElem?_eq_some_iff.mp hx).1
    refine wpAny_execs_cons (kg_append I6 hy hyl (by rw [List.getElem?_set_ne hne]; exact hσ) hx hxl (List.getElem?_set_self hiO) hfo (line_lt2 (by omega)) (fun s7 I7 g7 => ?_) hbase hfew hline hs1 hsw hdy hdx)
    refine wpAny_execs_cons (kg_if I7 hy hyl (by rw [List.getElem?_set_ne hne]; exact hσ) upd_same hlen T.b_len (fun s8 I8 g8 => ?_) hs2 hdy)
    have hq := hR s8 I8 (g8.trans (g7.trans g6))
    rw [List.length_append, List.length_singleton]
    by_cases c : 1 < xs.length + 1
    · rw [if_pos c] at hq ⊢
      exact hq
    · rw [if_neg c] at hq ⊢
      exact wpAny_execs_nil hq
  rintro n z (⟨rfl, rfl⟩ | ⟨rfl, v0, H0, gs, hgs, hobj, Iz, hF1, hkp, hgo⟩)
  · refine wpAny_gsz (n := gi + 1) (Array.getElem?_eq_some_iff.mp Mk.gen).1 (next_genG hd0 I1.nolimit depth (Mk.isg _ Mk.obj) Mk.gen goes0 (fun v s₁ gs' hbare hv => ?_) (fun s₁ hp h' hk => ?_) fun e s₁ he => he.elim)
    · intro hsz
      obtain ⟨k, xv, σg, Hy, hkn, rv, Ig, hout, hkap⟩ := hv
      have hN0 : (TO fo Hc (ORD M near)).N0 = (ORD M near).length + 1 := rfl
      have hk0 : k = 0 := by rw [hN0] at hkn; omega
      subst hk0
      obtain ⟨⟨ls, hf1, hf2, hf3⟩, l, o, rfl, ho, hl⟩ := hout
      obtain rfl : v = Value.ref l := rv
      cases hf2
      have Ib : Inv X pins σ Hy (s₁.setGen gi gs') := back Ic I1r Ig rfl rfl (allBare_setGen Ig.bare hbare)
      have pg := Ig.pin (ag, go) (List.mem_append_left _ (List.mem_singleton.mpr rfl))
      obtain ⟨mL, ⟨oL, esL, epL, hoL, hdL, hrL⟩, hlkL⟩ := id Ig.loc
      have Ib2 : Inv X (pins ++ [(sc.heap.objs.size, oL), (ag, go)]) σ Hy (s₁.setGen gi gs') := Ib.pins_of fun p hp => by
        rcases List.mem_append.mp hp with hp | hp
        · exact Ib.pin p (List.mem_append_right _ hp)
        · rcases List.mem_cons.mp hp with e | hp
          · rw [e]
            exact ⟨hoL, Ig.free, Nat.ne_of_gt ltL, nfs' _ (Nat.le_refl _), fun v z => by rw [hdL] at z; cases z⟩
          · rw [List.mem_singleton.mp hp]
            exact ⟨pg.1, pg.2.1, Nat.ne_of_gt (Nat.lt_trans ltL Mk.lt), nfs' _ (Nat.le_of_lt Mk.lt), Mk.nc⟩
      refine body Ib2 hsF hf1 (by decide) fun s7 I7 g7 => ?_
      show ∃ m, m < 1 ∧ _
      have p1' := I7.pin (sc.heap.objs.size, oL) (List.mem_append_right _ (List.mem_append_right _ List.mem_cons_self))
      have p2' := I7.pin (ag, go) (List.mem_append_right _ (List.mem_append_right _ (List.mem_cons_of_mem _ List.mem_cons_self)))
      have hsz1 : gi < s₁.gens.size := by
        have q : (s₁.setGen gi gs').gens.size = s₁.gens.size := setGen_size _ _ _
        have hsz' : gi + 1 ≤ (s₁.setGen gi gs').gens.size := hsz
        omega
      have hF7 : FInv fo Hc (ORD M near) 1 (upd Hy fo (.lst (refs [] ++ [V.ref l]))) := FInv.app hf1 .nil hf3 ho hl hOpos
      have k7 : ∀ b o, Hc b = some o → b ≠ fo → upd Hy fo (.lst (refs [] ++ [V.ref l])) b = some o := fun b o e nb => by rw [upd_ne nb]; exact hf3 _ _ nb e
      refine ⟨0, by decide, .inr ⟨rfl, .ref l, upd Hy fo (.lst (refs [] ++ [V.ref l])), gs', by rw [g7]; exact setGen_at hsz1, p2'.1, I7.pins_of fun p hp => I7.pin p (List.mem_append_right _ (List.mem_append_left _ hp)), hF7, k7, ?_⟩⟩
      have I7r := inv_gens (s' := s7.setGen gi .running) I7 rfl rfl (bare0 I7.bare)
      have Gw := mkI (σg := σg) I7r ⟨fun b o eb n => by
          have nb : b ≠ fo := fun z => by rw [z, hcf] at n; cases n
          rw [upd_ne nb]
          exact Ig.base.free b o (by rw [tr_lt eb]; exact Mk.keep b o eb) n (fun z => nomatch z),
        fun b xs e => k7 _ _ e (ne_of e hcf (fun z => nomatch z)), fun b o u e => k7 _ _ e (ne_of e hcf (fun z => nomatch z)), fun b ps e => ⟨#[], by rw [k7 _ _ e (ne_of e hcf (fun z => nomatch z))]; simp⟩⟩
        ⟨mL, ⟨oL, esL, epL, p1'.1, hdL, hrL⟩, fun i y v e1 e2 e3 => by
          obtain ⟨u, ru, q⟩ := hlkL i y v e1 e2 e3
          exact ⟨u, ru, g_loc sc_ordG rfl q rfl⟩⟩ p1'.2.1 p2'.1 p2'.2.1 Ig.len
      have hgo := hkap (s7.setGen gi .running) _ ⟨fun b o nb e => by rw [upd_ne nb]; exact e, hF7⟩ Gw
      exact hgo
    · intro hsz
      obtain ⟨k, σ', H', e1, _, _, e2⟩ := hp
      have hN0 : (TO fo Hc (ORD M near)).N0 = (ORD M near).length + 1 := rfl
      rw [hN0] at e1
      omega
  · refine next_genG hd0 Iz.nolimit depth (Mk.isg _ hobj) hgs hgo (fun v s₁ gs' hbare hv => ?_) (fun s₁ hp h' hk => ?_) fun e s₁ he => he.elim
    · obtain ⟨k, xv, σg, Hy, hkn, rv, Ig, hout, hkap⟩ := hv
      have hN0 : (TO fo Hc (ORD M near)).N0 = (ORD M near).length + 1 := rfl
      have hk1 : k = 1 := by rw [hN0] at hkn; omega
      subst hk1
      obtain ⟨⟨ls, hf1, hf2, hf3⟩, l, o, rfl, ho, hl⟩ := hout
      obtain rfl : v = Value.ref l := rv
      have hL2 : 2 ≤ (ORD M near).length := (List.getElem?_eq_some_iff.mp ho).1
      have Izr := inv_gens (s' := z.setGen gi .running) Iz rfl rfl (bare0 Iz.bare)
      have Ib : Inv X pins (σ.set iO (some v0)) Hy (s₁.setGen gi gs') := back Ic Izr Ig rfl rfl (allBare_setGen Ig.bare hbare)
      have hls : ls.length = 1 := by
        have := Paired.length hf2
        rw [List.length_take] at this
        omega
      have hlr : (refs ls).length = 1 := by unfold refs; rw [List.length_map]; exact hls
      refine body Ib (by rw [List.getElem?_set_ne hne]; exact hsF) hf1 (by omega) fun s7 I7 g7 => ?_
      rw [if_pos (by omega)]
      show ∃ σ' H', Inv X pins σ' H' s7 ∧ D.nx σ' H'
      have hF7 := FInv.app hf1 hf2 hf3 ho hl hOpos
      rw [List.set_set] at I7
      exact ⟨_, _, I7, hD _ _ (by rw [Nat.min_eq_left hL2]; exact hF7)⟩
    · obtain ⟨k, σ', H', e1, Ig, hF, e2⟩ := hp
      have hN0 : (TO fo Hc (ORD M near)).N0 = (ORD M near).length + 1 := rfl
      rw [hN0] at e1
      have hk1 : k = 1 := by omega
      subst hk1
      have Izr := inv_gens (s' := z.setGen gi .running) Iz rfl rfl (bare0 Iz.bare)
      have Ib : Inv X pins (σ.set iO (some v0)) H' (s₁.setGen gi .finished) := back Ic Izr Ig rfl rfl (allBare_setGen Ig.bare rfl)
      have Ib2 : Inv X pins (σ.set iO (some v0)) H' { s₁.setGen gi .finished with heap := h' } := Ib.kept (t' := (s₁.setGen gi .finished).toks) hk
      refine wpAny_execs_nil ?_
      exact ⟨_, _, Ib2, hD _ _ (by rw [← e2]; exact hF)⟩
end W
end
section
set_option Elab.async false
set_option linter.all false
set_option maxRecDepth 100000
set_option maxHeartbeats 4000000
namespace W
open PySem PySem.Spec PyProof.Rows L2
/-! ### o.f as a target among others -/
def gFld (K : PySem.W.Frag) (to : TE) (f : Str) : TG := fun v σ H Q => to σ H fun x H1 => ∃ (a C dx : Addr) (fs : List (Str × V)), x = .ref a ∧ H1 a = some (.ins C dx fs) ∧ Cls K C ∧ NoAttr K C f ∧ fs.length < 1000 ∧ Q σ (upd H1 a (.ins C dx (putF f v fs)))
theorem pg_fld {X : Cx} {o : Expr} {f : Str} {pos : Pos} {to : TE} (ho : PE X o to)
    (ha : ∀ v, assign (.Attribute o f pos) X.env v = (do
      let ov ← holding [v] (eval o X.env)
      standAt pos.atName
      holding [v, ov] (setAttr ov f v)
      release [v, ov] []) := by intro _; rfl) : PG X (.Attribute o f pos) (gFld X.K to f) := by
  refine ⟨fun pins s σ H v u Q I r h => ?_⟩
  rw [ha]
  refine wpAny_bind (wpAny_holding (thn (ho.run pins s σ H _ I h) fun ov s1 ⟨x, H1, I1, r1, a, C, dx, fs, ex, ea, c, n, l, q1⟩ => ?_))
  subst ex
  obtain rfl : ov = Value.ref a := r1
  refine wpAny_bind (wpAny_standAt (wpAny_bind (wpAny_holding (setattr_ok I1 ea c n l r fun s2 I2 => ?_))))
  exact wpAny_release ⟨σ, _, I2, q1⟩
/-! ### len(d), d's keys tuples of tuples -/
def rLenN (P : Program) (w : World) : List V → Hp → VK → Prop := fun xs H Q => ∃ (a : Addr) (kvs : List (NestedKey × V)), xs = [.ref a] ∧ NDat P w H a kvs ∧ Q (.int (kvs.length : Nat)) H
theorem call_lenN {X : Cx} : CallR X (.builtin "len") (rLenN X.prog X.w) := by
  intro pins s σ H xs us Q I r h
  obtain ⟨a, kvs, rfl, ⟨z, ys, rel, n, yy, e⟩, q⟩ := h
  obtain ⟨u, rfl, rx⟩ := vals1 r
  cases rx
  have hl : kvs.length = ys.length := Paired.length rel
  have hn := line63
  refine call_len_dictH yy (NDat.dictOf I.hok rel n e) (by omega) ?_
  exact ⟨.int (kvs.length : Nat), H, I.tok _, ⟨_, by rw [hl]⟩, q⟩
/-! ### len(set(xs)), ints -/
def dvI (ns : List Int) : Nat := (firstMet (fun i => ns.getD i 0) ns.length).length
def tLenSetA (K : PySem.W.Frag) (ta : TE) : TE := fun σ H Q => ta σ H fun x H1 => ∃ (l : Addr) (ns : List Int), x = .ref l ∧ SqL K H1 l (ns.map V.int) ∧ ns.length ≤ 4000 ∧ Q (.int (dvI ns : Nat)) H1
theorem pe_lenSetA {X : Cx} {a : Expr} {ta : TE} {p p2 q pos : Pos} (hg : Gl X "len") (hm : X.mg "len" = none) (hg2 : Gl X "set") (hm2 : X.mg "set" = none) (ha : PE X a ta) (hc : X.calm = true := by rfl)
    (na : starEach [a] X.env = (false, eval a X.env) :: starEach [] X.env := by rfl) : PE X (.Call (.Name "len" p) [.Call (.Name "set" p2) [a] [] q] [] pos) (tLenSetA X.K ta) := by
  refine ⟨fun pins s σ H Q I h => ?_⟩
  refine Call_ (ld_blt I hg hm boot_len ?_)
  refine PyProof.Rows.callWith_builtin1 (PyProof.Rows.args_cons ?_ rfl) rfl rfl
  refine Call_ (ld_blt I hg2 hm2 boot_set ?_)
  refine PyProof.Rows.callWith_type1 (PyProof.Rows.args_cons (thn (ha.run pins s σ H _ I h) fun v s1 ⟨x, H1, I1, r1, q1⟩ => PyProof.Rows.args_nil ?_) na) na rfl
  obtain ⟨l, ns, rfl, hq, hl, q1⟩ := q1
  cases r1
  obtain ⟨its, r, pl, hz⟩ := I1.list hq
  have hlen : its.toArray.size = ns.length := by rw [List.size_toArray, ← r.length, List.length_map]
  refine call_set_list (I1.ok.hd hc) pl.isList (by simpa using RZ.intsAre_vals r) (by rw [hlen]; unfold scanBound; omega) fun h' tk hS hk => ?_
  refine PyProof.Rows.args_nil ?_
  rw [hlen] at hS
  obtain ⟨o, es, ep, t, ho, hex, hd, _, _, _, hf, hn⟩ := hS
  have I2 : Inv X pins σ H1 { s1 with heap := h', toks := tk } := I1.kept fun b o e => hk b o (Heap.lt_size e) e
  have hle := firstMet_length_le (fun i => ns.getD i 0) ns.length
  exact call_len_set ho hex hd hf (by rw [hn]; omega) ⟨.int (dvI ns : Nat), H1, I2.tok _, ⟨_, by rw [hn]; rfl⟩, q1⟩
end W
end
section
set_option Elab.async false
set_option linter.all false
set_option maxRecDepth 100000
set_option maxHeartbeats 4000000
namespace W
open PySem PySem.Spec PyProof.Rows L2
open SR (Mach)
/-! ### the machine's shrinking, step for step -/
def rStep (s : List (Nat × Nat) × List Nat) (l : Nat) : List (Nat × Nat) × List Nat := if (s.1.lookup l).isSome = true then s else (s.1 ++ [(l, s.2.length)], s.2 ++ [l])
theorem rStep_some {s : List (Nat × Nat) × List Nat} {l n : Nat} (h : s.1.lookup l = some n) : rStep s l = s := by unfold rStep; rw [h]; rfl
theorem rStep_none {s : List (Nat × Nat) × List Nat} {l : Nat} (h : s.1.lookup l = none) : rStep s l = (s.1 ++ [(l, s.2.length)], s.2 ++ [l]) := by unfold rStep; rw [h]; rfl
def rOut (rows : List (List Nat)) : Nat → List (Nat × Nat) × List Nat
  | 0 => ([(0, 0)], [0])
  | p + 1 => (rows.getD ((rOut rows p).2.getD p 0) []).foldl rStep (rOut rows p)
/-! ### dicts of numbers -/
def kvN (l : List (Nat × Nat)) : List (Key × V) := l.map fun p => (Sum.inl (p.1 : Int), V.int (p.2 : Int))
theorem kvN_length (l : List (Nat × Nat)) : (kvN l).length = l.length := by unfold kvN; rw [List.length_map]
theorem kvN_snoc (l : List (Nat × Nat)) (a b : Nat) : kvN (l ++ [(a, b)]) = kvN l ++ [(Sum.inl (a : Int), V.int (b : Int))] := by unfold kvN; rw [List.map_append]; rfl
theorem valV_kvN (v : Nat) : ∀ l : List (Nat × Nat), valV (kvN l) (Sum.inl (v : Int)) = (l.lookup v).map fun n : Nat => V.int (n : Int)
  | [] => rfl
  | (a, b) :: l => by
    have ih := valV_kvN v l
    rw [show kvN ((a, b) :: l) = ((Sum.inl (a : Int), V.int (b : Int)) : Key × V) :: kvN l from rfl]
    by_cases e : v = a
    · subst e
      rw [valV_pos rfl, List.lookup_cons_self]
      rfl
    · have ne : ¬ ((Sum.inl (a : Int), V.int (b : Int)) : Key × V).1 = Sum.inl (v : Int) := fun z => e (Int.ofNat.inj (Sum.inl.inj z)).symm
      rw [valV_neg ne, ih, List.lookup_cons, beq_eq_false_iff_ne.mpr e]
theorem putN_new {l : List (Nat × Nat)} {v n : Nat} (h : l.lookup v = none) : putK (kvN l) (Sum.inl (v : Int)) (.int (n : Int)) = kvN (l ++ [(v, n)]) := by
  rw [putK_new _ (by rw [valV_kvN, h]; rfl), kvN_snoc]
/-- a tuple of tuples of numbers that the text itself holds -/
def RowsK (K : PySem.W.Frag) (rt : Addr) (rows : List (List Nat)) : Prop := ∃ as : List Addr, (∀ H, SqT K H rt (refs as)) ∧ Paired (fun a l => ∀ H, SqT K H a (nl l)) as rows
theorem RowsK.get {K : PySem.W.Frag} {rt : Addr} {rows : List (List Nat)} (h : RowsK K rt rows) {i : Nat} (hi : i < rows.length) (H : Hp) : ∃ (xs : List V) (a : Addr), SqT K H rt xs ∧ xs[i]? = some (.ref a) ∧ ∀ H', SqT K H' a (nl (rows.getD i [])) := by
  obtain ⟨as, h1, h2⟩ := h
  have hl : i < as.length := by rw [Paired.length h2]; exact hi
  obtain ⟨l, hl2, h3⟩ := Paired.get h2 (List.getElem?_eq_getElem hl)
  refine ⟨_, as[i], h1 H, by unfold refs; rw [List.getElem?_map, List.getElem?_eq_getElem hl]; rfl, fun H' => ?_⟩
  rw [List.getD_eq_getElem?_getD, hl2]
  exact h3 H'
abbrev N_reached : List Str := ["rows", "numbers", "found", "place", "later"]
theorem sc_reached : FnScope N_reached ["rows"] (defScope (topS 27)) := ⟨rfl, rfl, rfl, by decide +kernel, rfl, by decide +kernel, by decide +kernel⟩
/-- it ends at p -/
structure RStop (rows : List (List Nat)) (p : Nat) : Prop where
  small : p ≤ 100
  stop : ¬ p < (rOut rows p).2.length
  go : ∀ q, q < p → q < (rOut rows q).2.length ∧ (rOut rows q).2.length ≤ 100 ∧ (rOut rows q).2.getD q 0 < rows.length ∧ (rows.getD ((rOut rows q).2.getD q 0) []).length ≤ 4
def spReached (K : PySem.W.Frag) : Sp := fun vs H Q _ => ∃ (rt : Addr) (rows : List (List Nat)) (p : Nat), vs = [.ref rt] ∧ RowsK K rt rows ∧ RStop rows p ∧ ∀ (H' : Hp) (l : Addr), Same H H' → H l = none → H' l = some (.lst (nl (rOut rows p).2)) → Q (.ref l) H'
theorem rStep_len (s : List (Nat × Nat) × List Nat) (l : Nat) (h : s.1.length = s.2.length) : (rStep s l).1.length = (rStep s l).2.length ∧ (rStep s l).2.length ≤ s.2.length + 1 := by
  unfold rStep
  by_cases c : (s.1.lookup l).isSome = true
  · rw [if_pos c]; exact ⟨h, by omega⟩
  · rw [if_neg c, List.length_append, List.length_append, h]
    exact ⟨rfl, Nat.le_refl _⟩
theorem rFold_len : ∀ (ls : List Nat) (s : List (Nat × Nat) × List Nat), s.1.length = s.2.length → (ls.foldl rStep s).1.length = (ls.foldl rStep s).2.length ∧ (ls.foldl rStep s).2.length ≤ s.2.length + ls.length
  | [], s, h => ⟨h, Nat.le_refl _⟩
  | l :: ls, s, h => by
    obtain ⟨h1, h2⟩ := rStep_len s l h
    obtain ⟨h3, h4⟩ := rFold_len ls _ h1
    rw [List.foldl_cons, List.length_cons]
    exact ⟨h3, by omega⟩
theorem rOut_len (rows : List (List Nat)) : ∀ p, (rOut rows p).1.length = (rOut rows p).2.length
  | 0 => rfl
  | p + 1 => (rFold_len _ _ (rOut_len rows p)).1
section
variable {P : Program} {w : World} {K : PySem.W.Frag} {mg : Str → Option Value} {base : Heap}
theorem ok_reached (T : Bl mg) (D : Df K mg "reached" (topS 27)) : FnB P w K mg base CX0 1 "reached" ["rows"] [] (spReached K) := by
  refine D.ok sc_reached (fun vs H Q E h => ?_) (fun _ _ _ _ _ _ us hl => match us, hl with | [_], _ => rfl) (fun f cdv A outer s H vs Q E hr h => ?_)
  · obtain ⟨rt, rows, p, rfl, _⟩ := h
    rfl
  · obtain ⟨rt, rows, p, rfl, hR, hS, q⟩ := h
    refine ⟨_, (pss_cons (ps_set (i := 1) sc_reached.nd rfl (Or.inl rfl) (pe_disp (pps_cons pe_int pe_int pps_nil) (by rfl) (by rfl) (fun z => by cases z) (by decide))) (pss_cons (ps_set (i := 2) sc_reached.nd rfl (Or.inl rfl) (pe_lst (pa_cons pe_int pa_nil))) (pss_cons (ps_set (i := 3) sc_reached.nd rfl (Or.inl rfl) pe_int) (pss_cons (ps_while PassesOwn.never (pt_cmpR op_lt (pv 3) (pe_callB call_len_seq (by rfl) T.b_len PySem.boot_len (pa_cons (pv 2) pa_nil)) (nomark _)) (pss_cons (ps_for PassesOwn.never rfl (pi_tup (pe_ix ix_tup (pv 0) (pe_ix ix_list (pv 2) (pv 3) (fun _ _ => rfl)) (fun _ _ => rfl))) (pg_name (i := 4) sc_reached.nd rfl (Or.inl rfl)) (pss_one (ps_if (pt_cmp (pc_dnotin (hu_of hr) (pv 4) (pv 1)) rfl) (pss_cons (ps_dput (hu_of hr) (pv 1) (pv 4) (pe_callB call_len_seq (by rfl) T.b_len PySem.boot_len (pa_cons (pv 2) pa_nil)) rfl) (pss_one (ps_expr (pe_bm PySem.F.plainAttrs_list PySem.F.slot_list_append PySem.F.type_list_append mt_append (pv 2) (pa_cons (pv 4) pa_nil))))) pss_nil))) (pss_one (ps_aug (i := 3) sc_reached.nd rfl (Or.inl rfl) pe_int ip_add)))) (pss_one (ps_ret (pv 2))))))), ?_⟩
    intro d nd
    refine ⟨upd_same, [(Sum.inl 0, V.int 0)], rfl, by decide, ?_⟩
    have e0 : mergeK [] [((Sum.inl 0, V.int 0) : Key × V)] = kvN [(0, 0)] := rfl
    obtain ⟨H1, e1, s1, hd1, _⟩ : ∃ H1, H1 = upd (upd H d (.dK [])) d (.dK (mergeK [] [((Sum.inl 0, V.int 0) : Key × V)])) ∧ Same H H1 ∧ H1 d = some (.dK (kvN [(0, 0)])) ∧ True :=
      ⟨_, rfl, fun b o e => by rw [upd_ne (ne_of_none e nd), upd_ne (ne_of_none e nd)]; exact e, by rw [upd_same, e0], trivial⟩
    rw [← e1]
    clear e1
    refine ⟨by show 1 ≤ sizeLine; decide, fun fo nfo => ?_⟩
    obtain ⟨H2, e2, s2, s12, hfo2, fo0⟩ := new_as (o := .lst [.int 0]) s1 nfo
    rw [← e2]
    clear e2
    have ndfo : d ≠ fo := ne_of_none hd1 nfo
    refine ⟨fun m σ H3 => ∃ (pl : Nat) (v4 : Option V), m = p - pl ∧ pl ≤ p ∧ σ = [some (.ref rt), some (.ref d), some (.ref fo), some (.int (pl : Int)), v4] ∧ Same H H3 ∧ H3 d = some (.dK (kvN (rOut rows pl).1)) ∧ H3 fo = some (.lst (nl (rOut rows pl).2)),
      ⟨p, 0, none, rfl, Nat.zero_le _, rfl, s2, s12 _ _ hd1, hfo2⟩, ?_⟩
    rintro m σ H3 ⟨pl, v4, rfl, hpl, rfl, s3, hd3, hfo3⟩
    refine ⟨_, rfl, _, rfl, fo, _, rfl, .inl (SqL.of hfo3), _, _, rfl, rfl, _, rfl, ?_⟩
    rw [nl_length]
    by_cases c : pl < p
    · obtain ⟨g1, g2, g3, g4⟩ := hS.go pl c
      rw [decide_eq_true (show (pl : Int) < ((rOut rows pl).2.length : Int) by omega)]
      refine iteT ⟨fun σ' H' => ∃ m', m' < p - pl ∧ ∃ (pl : Nat) (v4 : Option V), m' = p - pl ∧ pl ≤ p ∧ σ' = [some (.ref rt), some (.ref d), some (.ref fo), some (.int (pl : Int)), v4] ∧ Same H H' ∧ H' d = some (.dK (kvN (rOut rows pl).1)) ∧ H' fo = some (.lst (nl (rOut rows pl).2)), fun σ' H' h => h, ?_⟩
      obtain ⟨xs, a, t1, t2, t3⟩ := hR.get g3 H3
      refine ⟨_, rfl, _, rfl, _, rfl, fo, _, _, .int ((rOut rows pl).2.getD pl 0 : Int), rfl, rfl, SqL.of hfo3, atI_nat (nl_at (by rw [List.getD_eq_getElem?_getD, List.getElem?_eq_getElem g1]; rfl)), rt, xs, _, .ref a, rfl, rfl, t1, atI_nat t2, a, rfl, ⟨_, t3 H3⟩, ?_⟩
      generalize hrow : rows.getD ((rOut rows pl).2.getD pl 0) [] = row at t3 g4
      refine for_tup (K := K) (a := a) (xs := nl row) (fun i σ H4 => ∃ v4, σ = [some (.ref rt), some (.ref d), some (.ref fo), some (.int (pl : Int)), v4] ∧ Same H H4 ∧ H4 d = some (.dK (kvN ((row.take i).foldl rStep (rOut rows pl)).1)) ∧ H4 fo = some (.lst (nl ((row.take i).foldl rStep (rOut rows pl)).2))) ⟨v4, rfl, s3, hd3, hfo3⟩ (fun i σ H4 _ _ => t3 H4) ?_ ?_
      · rintro i x σ H4 hx ⟨v4, rfl, s4, hd4, hfo4⟩
        obtain ⟨l, hl, rfl⟩ := nl_get hx
        have ef : (row.take (i + 1)).foldl rStep (rOut rows pl) = rStep ((row.take i).foldl rStep (rOut rows pl)) l := by rw [take_get hl, List.foldl_append]; rfl
        have hle := rFold_len (row.take i) _ (rOut_len rows pl)
        generalize (row.take i).foldl rStep (rOut rows pl) = st at hd4 hfo4 ef hle
        have htk : (row.take i).length ≤ 4 := by rw [List.length_take]; have := Nat.min_le_right i row.length; omega
        refine ⟨_, rfl, _, rfl, d, _, rfl, DGet.k (k := Sum.inl (l : Int)) hd4, _, rfl, ?_⟩
        rw [valV_kvN]
        cases hk : st.1.lookup l with
        | some n =>
          refine iteF ⟨_, rfl, s4, ?_, ?_⟩
          · rw [hd4, ef, rStep_some hk]
          · rw [hfo4, ef, rStep_some hk]
        | none =>
          refine iteT ⟨_, rfl, fo, _, rfl, .inl (SqL.of hfo4), _, rfl, _, rfl, d, _, rfl, DPut.k (k := Sum.inl (l : Int)) hd4 (by rw [kvN_length]; exact line_lt (by omega)), ?_⟩
          rw [nl_length, putN_new hk]
          have hfo5 : upd H4 d (.dK (kvN (st.1 ++ [(l, st.2.length)]))) fo = some (.lst (nl st.2)) := by rw [upd_ne (Ne.symm ndfo)]; exact hfo4
          refine ⟨_, rfl, .inl ⟨rfl, _, SqL.of hfo5⟩, _, rfl, fo, _, _, rfl, rfl, hfo5, by rw [nl_length]; exact line_lt (by omega), ?_⟩
          refine ⟨_, rfl, fun b o e => ?_, ?_, ?_⟩
          · rw [upd_ne (ne_of_none e fo0), upd_ne (ne_of_none e nd)]
            exact s4 _ _ e
          · rw [upd_ne ndfo, upd_same, ef, rStep_none hk]
          · rw [upd_same, ef, rStep_none hk, nl_append]
            rfl
      · rintro σ H4 ⟨v4, rfl, s4, hd4, hfo4⟩
        rw [nl_length, List.take_length] at hd4 hfo4
        refine ⟨_, rfl, _, _, rfl, rfl, _, ?_, pl + 1, v4, rfl, c, rfl, s4, ?_, ?_⟩
        · omega
        · show _ = some (HO.dK (kvN ((rows.getD ((rOut rows pl).2.getD pl 0) []).foldl rStep (rOut rows pl)).1))
          rw [hrow]
          exact hd4
        · show _ = some (HO.lst (nl ((rows.getD ((rOut rows pl).2.getD pl 0) []).foldl rStep (rOut rows pl)).2))
          rw [hrow]
          exact hfo4
    · have e : pl = p := by omega
      subst e
      have := hS.stop
      rw [decide_eq_false (show ¬ (pl : Int) < ((rOut rows pl).2.length : Int) by omega)]
      refine iteF ⟨_, rfl, ?_⟩
      exact q H3 fo s3 fo0 hfo3
end
end W
end
section
set_option Elab.async false
set_option linter.all false
set_option maxRecDepth 100000
set_option maxHeartbeats 4000000
namespace W
open PySem PySem.Spec PyProof.Rows L2
open SR (Mach)
/-! ### the classes, step for step -/
def look (l : List (Nat × Nat)) (k : Nat) : Nat := (l.lookup k).getD 0
def ckey (rows : List (List Nat)) (kinds : List (Nat × Nat)) (s : Nat) : Nat × List Nat := (look kinds s, (rows.getD s []).map (look kinds))
def cNums (nums : List ((Nat × List Nat) × Nat)) (key : Nat × List Nat) : List ((Nat × List Nat) × Nat) := if (nums.lookup key).isSome = true then nums else nums ++ [(key, nums.length)]
def cStep (rows : List (List Nat)) (kinds : List (Nat × Nat)) (st : List ((Nat × List Nat) × Nat) × List (Nat × Nat)) (s : Nat) : List ((Nat × List Nat) × Nat) × List (Nat × Nat) :=
  (cNums st.1 (ckey rows kinds s), st.2 ++ [(s, ((cNums st.1 (ckey rows kinds s)).lookup (ckey rows kinds s)).getD 0)])
def kOut (rows : List (List Nat)) (flags : List Bool) (states : List Nat) : Nat → List (Nat × Nat)
  | 0 => states.map fun s => (s, if flags.getD s false = true then 1 else 0)
  | i + 1 => (states.foldl (cStep rows (kOut rows flags states i)) ([], [])).2
def dvN (l : List (Nat × Nat)) : Nat := dvI (l.map fun p => (p.2 : Int))
def mny (rows : List (List Nat)) (flags : List Bool) (states : List Nat) : Nat → Nat
  | 0 => 0
  | i + 1 => dvN (kOut rows flags states i)
structure CStop (rows : List (List Nat)) (flags : List Bool) (states : List Nat) (q : Nat) : Prop where
  small : q ≤ 100
  stop : ¬ mny rows flags states q < dvN (kOut rows flags states q)
  go : ∀ i, i < q → mny rows flags states i < dvN (kOut rows flags states i) ∧ dvN (kOut rows flags states i) ≤ 100
structure Closed (rows : List (List Nat)) (flags : List Bool) (states : List Nat) : Prop where
  nd : states.Nodup
  few : states.length ≤ 100
  ok : ∀ s ∈ states, s < rows.length ∧ s < flags.length ∧ (rows.getD s []).length ≤ 4 ∧ ∀ l ∈ rows.getD s [], l ∈ states
theorem cFold_keys (rows : List (List Nat)) (kinds : List (Nat × Nat)) : ∀ (ss : List Nat) (st : List ((Nat × List Nat) × Nat) × List (Nat × Nat)), (ss.foldl (cStep rows kinds) st).2.map Prod.fst = st.2.map Prod.fst ++ ss
  | [], st => by simp
  | s :: ss, st => by
    rw [List.foldl_cons, cFold_keys rows kinds ss]
    show (st.2 ++ [(s, _)]).map Prod.fst ++ ss = _
    rw [List.map_append, List.append_assoc]
    rfl
theorem kOut_keys (rows : List (List Nat)) (flags : List Bool) (states : List Nat) : ∀ i, (kOut rows flags states i).map Prod.fst = states
  | 0 => by
    unfold kOut
    rw [List.map_map]
    exact List.map_id states
  | i + 1 => by
    unfold kOut
    rw [cFold_keys]
    rfl
theorem look_has {l : List (Nat × Nat)} {k : Nat} (h : k ∈ l.map Prod.fst) : l.lookup k = some (look l k) := by
  have : ∀ {l : List (Nat × Nat)}, k ∈ l.map Prod.fst → ∃ n, l.lookup k = some n := by
    intro l
    induction l with
    | nil => intro h; cases h
    | cons p l ih =>
      obtain ⟨a, b⟩ := p
      intro h
      by_cases e : k = a
      · subst e
        exact ⟨b, List.lookup_cons_self⟩
      · rw [List.lookup_cons, beq_eq_false_iff_ne.mpr e]
        rcases List.mem_cons.mp h with z | z
        · exact absurd z e
        · exact ih z
  obtain ⟨n, e⟩ := this h
  unfold look
  rw [e]
  rfl
theorem look_none {l : List (Nat × Nat)} {k : Nat} (h : k ∉ l.map Prod.fst) : l.lookup k = none := by
  induction l with
  | nil => rfl
  | cons p l ih =>
    obtain ⟨a, b⟩ := p
    rw [List.map_cons, List.mem_cons, not_or] at h
    rw [List.lookup_cons, beq_eq_false_iff_ne.mpr h.1]
    exact ih h.2
/-! ### the dict of keys -/
def nk (k : Nat × List Nat) : NestedKey := .tup [.num (k.1 : Int), .tup (nums (k.2.map fun n : Nat => (n : Int)))]
theorem nk_inj {k k' : Nat × List Nat} (h : nk k = nk k') : k = k' := by
  obtain ⟨a, l⟩ := k
  obtain ⟨b, m⟩ := k'
  obtain ⟨h1, h2⟩ := List.cons.inj (NestedKey.tup.inj h)
  obtain ⟨h2, _⟩ := List.cons.inj h2
  have e1 : a = b := Int.ofNat.inj (NestedKey.num.inj h1)
  have e2 : l = m := casts_inj (nums_inj (NestedKey.tup.inj h2))
  rw [e1, e2]
def kvC (l : List ((Nat × List Nat) × Nat)) : List (NestedKey × V) := l.map fun p => (nk p.1, V.int (p.2 : Int))
theorem valV_kvC (k : Nat × List Nat) : ∀ l : List ((Nat × List Nat) × Nat), valV (kvC l) (nk k) = (l.lookup k).map fun n : Nat => V.int (n : Int)
  | [] => rfl
  | (a, b) :: l => by
    have ih := valV_kvC k l
    rw [show kvC ((a, b) :: l) = ((nk a, V.int (b : Int)) : NestedKey × V) :: kvC l from rfl]
    by_cases e : k = a
    · subst e
      rw [valV_pos rfl, List.lookup_cons_self]
      rfl
    · have ne : ¬ ((nk a, V.int (b : Int)) : NestedKey × V).1 = nk k := fun z => e (nk_inj z).symm
      rw [valV_neg ne, ih, List.lookup_cons, beq_eq_false_iff_ne.mpr e]
theorem putC_new {l : List ((Nat × List Nat) × Nat)} {k : Nat × List Nat} {n : Nat} (h : l.lookup k = none) : putK (kvC l) (nk k) (.int (n : Int)) = kvC (l ++ [(k, n)]) := by
  rw [putK_new _ (by rw [valV_kvC, h]; rfl)]
  unfold kvC
  rw [List.map_append]
  rfl
theorem dc_list {K : PySem.W.Frag} {a : Addr} {xs : List V} {g : TG} {tt : TT} {tk tv : TE} {vs : List Nat} {σ : L2.St} {H1 : Hp} {D : Addr} {Qd : Hp → Prop} (Pv : Nat → Hp → Prop) (h0 : Pv 0 (upd H1 D (.dK []))) (hl : ∀ i H, i ≤ xs.length → Pv i H → SqL K H a xs)
    (hs : ∀ i x H, xs[i]? = some x → Pv i H → g x (wipe σ vs) H fun σ2 H2 => wipe σ2 vs = wipe σ vs ∧ tt σ2 H2 fun b H3 => if b = true then tk σ2 H3 fun y H4 => tv σ2 H4 fun z H5 => ∃ kvs k, y = kV k ∧ H5 D = some (.dK kvs) ∧ kvs.length < sizeLine ∧ Pv (i + 1) (upd H5 D (.dK (putK kvs k z))) else Pv (i + 1) H3)
    (hd : ∀ H, Pv xs.length H → Qd H) : ∃ W : Nat → Nat → Hp → Prop, (∃ m, W 0 m (upd H1 D (.dK []))) ∧ ∀ i m H, W i m H →
      ((Itl K a).stop i H ∧ Qd H) ∨ ((Itl K a).go i H ∧ ∃ Nx : Hp → Prop, (∀ H', Nx H' → ∃ m', m' < m ∧ W (i + 1) m' H') ∧ ∀ x H', (Itl K a).yld i H x H' → g x (wipe σ vs) H' fun σ2 H2 => wipe σ2 vs = wipe σ vs ∧ tt σ2 H2 fun b H3 =>
        if b = true then tk σ2 H3 fun y H4 => tv σ2 H4 fun z H5 => ∃ kvs k, y = kV k ∧ H5 D = some (.dK kvs) ∧ kvs.length < sizeLine ∧ Nx (upd H5 D (.dK (putK kvs k z))) else Nx H3) := by
  refine ⟨fun i m H => m = xs.length - i ∧ i ≤ xs.length ∧ Pv i H, ⟨xs.length, rfl, Nat.zero_le _, h0⟩, ?_⟩
  rintro i m H ⟨rfl, hi, p⟩
  have q := hl i H hi p
  by_cases hlt : i < xs.length
  · refine .inr ⟨⟨xs, xs[i], q, List.getElem?_eq_getElem hlt⟩, Pv (i + 1), fun H' p' => ⟨xs.length - (i + 1), by omega, rfl, hlt, p'⟩, fun x H' y => ?_⟩
    obtain ⟨e, y⟩ := y
    subst e
    exact hs i x _ (y xs q) p
  · have e : i = xs.length := by omega
    subst e
    exact .inl ⟨⟨xs, q, Nat.le_refl _⟩, hd H p⟩
abbrev N_classes_of : List Str := ["rows", "flags", "states", "kinds", "many", "numbers", "later", "state", "key", "one"]
theorem sc_classes_of : FnScope N_classes_of ["rows", "flags", "states"] (defScope (topS 28)) := ⟨rfl, rfl, rfl, by decide +kernel, rfl, by decide +kernel, by decide +kernel⟩
def spClasses (K : PySem.W.Frag) : Sp := fun vs H Q _ => ∃ (rt fl sl : Addr) (rows : List (List Nat)) (flags : List Bool) (states : List Nat) (q : Nat), vs = [.ref rt, .ref fl, .ref sl] ∧ RowsK K rt rows ∧ H fl = some (.lst (bls flags)) ∧ H sl = some (.lst (nl states)) ∧ Closed rows flags states ∧ CStop rows flags states q ∧
  ∀ (H' : Hp) (d : Addr), Same H H' → H d = none → H' d = some (.dK (kvN (kOut rows flags states q))) → Q (.ref d) H'
def CW (rt fl sl : Addr) (rows : List (List Nat)) (flags : List Bool) (states : List Nat) (q : Nat) (H : Hp) (m : Nat) (σ : L2.St) (H2 : Hp) : Prop :=
  ∃ (i : Nat) (d : Addr) (v5 v6 v7 v8 v9 : Option V), m = q - i ∧ i ≤ q ∧ σ = [some (.ref rt), some (.ref fl), some (.ref sl), some (.ref d), some (.int (mny rows flags states i : Int)), v5, v6, v7, v8, v9] ∧ Same H H2 ∧ H d = none ∧ H2 d = some (.dK (kvN (kOut rows flags states i)))
theorem cFold_len (rows : List (List Nat)) (kinds : List (Nat × Nat)) : ∀ (ss : List Nat) (st : List ((Nat × List Nat) × Nat) × List (Nat × Nat)), (ss.foldl (cStep rows kinds) st).1.length ≤ st.1.length + ss.length
  | [], st => Nat.le_refl _
  | s :: ss, st => by
    have := cFold_len rows kinds ss (cStep rows kinds st s)
    rw [List.foldl_cons, List.length_cons]
    have h : (cStep rows kinds st s).1.length ≤ st.1.length + 1 := by
      show (cNums st.1 _).length ≤ _
      unfold cNums
      split
      · omega
      · rw [List.length_append]; exact Nat.le_refl _
    omega
theorem cNums_some {nums : List ((Nat × List Nat) × Nat)} {key : Nat × List Nat} {n : Nat} (h : nums.lookup key = some n) : cNums nums key = nums := by unfold cNums; rw [h]; rfl
theorem cNums_none {nums : List ((Nat × List Nat) × Nat)} {key : Nat × List Nat} (h : nums.lookup key = none) : cNums nums key = nums ++ [(key, nums.length)] := by unfold cNums; rw [h]; rfl
theorem lookup_snoc {κ : Type} [BEq κ] [LawfulBEq κ] {k : κ} {n : Nat} : ∀ {l : List (κ × Nat)}, l.lookup k = none → (l ++ [(k, n)]).lookup k = some n
  | [], _ => List.lookup_cons_self
  | (a, b) :: l, h => by
    rw [List.cons_append, List.lookup_cons]
    rw [List.lookup_cons] at h
    cases e : k == a with
    | true => rw [e] at h; cases h
    | false => rw [e] at h; exact lookup_snoc h
section
variable {P : Program} {w : World} {K : PySem.W.Frag} {mg : Str → Option Value} {base : Heap}
theorem ok_classes_of (T : Bl mg) {tk : Tok} (mS : mg "MOST_STATES" = some (.int 100 tk)) (D : Df K mg "classes_of" (topS 28)) : FnB P w K mg base CX0 1 "classes_of" ["rows", "flags", "states"] [] (spClasses K) := by
  refine D.ok sc_classes_of (fun vs H Q E h => ?_) (fun _ _ _ _ _ _ us hl => match us, hl with | [_, _, _], _ => rfl) (fun f cdv A outer s H vs Q E hr h => ?_)
  · obtain ⟨rt, fl, sl, rows, flags, states, q, rfl, _⟩ := h
    rfl
  · obtain ⟨rt, fl, sl, rows, flags, states, q, rfl, hR, hfl, hsl, hC, hS, post⟩ := h
    refine ⟨_, (pss_cons (ps_set (i := 3) sc_classes_of.nd rfl (Or.inr rfl) (pe_dc (own := [("state", 7)]) rfl sc_classes_of.nd (pi_list (pv 2)) (blkOk_by (own := [("state", 7)]) (N := N_classes_of) (sc := defScope (topS 28)) (by decide +kernel)) (fun _ _ _ _ _ => (pg_name (i := 7) sc_classes_of.nd rfl (Or.inl rfl))) (fun _ _ _ _ _ => pts_nil) (fun _ _ _ _ _ => (pv 7)) (fun _ _ _ _ _ => (pe_callTy call_int1 (by rfl) T.b_int (by decide +kernel) (pa_cons (pe_ixLK K (pv 1) (pv 7)) pa_nil))))) (pss_cons (ps_set (i := 4) sc_classes_of.nd rfl (Or.inl rfl) pe_int) (pss_cons (ps_while PassesOwn.never (pt_cmpR op_lt (pv 4) (pe_lenSetA (by rfl) T.b_len (by rfl) T.b_set (pe_listVals rfl (pv 3) (by rfl) T.b_list)) (nomark _)) (pss_cons (ps_set (i := 4) sc_classes_of.nd rfl (Or.inl rfl) (pe_lenSetA (by rfl) T.b_len (by rfl) T.b_set (pe_listVals rfl (pv 3) (by rfl) T.b_list))) (pss_cons (ps_if (pt_cmpR op_gt (pv 4) (pe_glob (v := .int 100) (by rfl) mS ⟨_, rfl⟩) (nomark _)) (pss_one ps_never) pss_nil) (pss_cons (ps_set (i := 5) sc_classes_of.nd rfl (Or.inl rfl) pe_nnew) (pss_cons (ps_set (i := 6) sc_classes_of.nd rfl (Or.inl rfl) pe_dnewK) (pss_cons (ps_for PassesOwn.never rfl (pi_list (pv 2)) (pg_name (i := 7) sc_classes_of.nd rfl (Or.inl rfl)) (pss_cons (ps_set (i := 8) sc_classes_of.nd rfl (Or.inl rfl) (pe_tup (pa_cons (pe_dget (hu_of hr) (pv 3) (pv 7) (fun _ _ => rfl)) (pa_cons (pe_callTy call_tuple_of (by rfl) T.b_tuple (by decide +kernel) (pa_cons (pe_lc (own := [("one", 9)]) rfl sc_classes_of.nd (pi_tup (pe_ix ix_tup (pv 0) (pv 7) (fun _ _ => rfl))) (blkOk_by (own := [("one", 9)]) (N := N_classes_of) (sc := defScope (topS 28)) (by decide +kernel)) (fun _ _ _ _ _ => (pg_name (i := 9) sc_classes_of.nd rfl (Or.inl rfl))) (fun _ _ _ _ _ => pts_nil) (fun _ _ _ _ _ => (pe_dgetA hr (pv 3) (pv 9)))) pa_nil)) pa_nil)))) (pss_cons (ps_if (pt_cmp (pc_nnotin hr.units (pv 8) (pv 5)) rfl) (pss_one (ps_nput hr.units (pv 5) (pv 8) (pe_callB call_lenN (by rfl) T.b_len PySem.boot_len (pa_cons (pv 5) pa_nil)) rfl)) pss_nil) (pss_one (ps_dput (hu_of hr) (pv 6) (pv 7) (pe_nget hr.units (pv 5) (pv 8) (fun _ _ => rfl)) rfl))))) (pss_one (ps_set (i := 3) sc_classes_of.nd rfl (Or.inr rfl) (pv 6))))))))) (pss_one (ps_ret (pv 3)))))), ?_⟩
    refine ⟨_, rfl, sl, rfl, ⟨_, SqL.of hsl⟩, fun d0 nd0 => ?_⟩
    refine dc_list (K := K) (a := sl) (xs := nl states) (fun i H1 => Same H H1 ∧ H1 d0 = some (.dK (kvN ((states.take i).map fun s => (s, if flags.getD s false = true then 1 else 0))))) ⟨same_upd nd0, upd_same⟩ (fun i H1 _ ⟨s1, _⟩ => SqL.of (s1 _ _ hsl)) ?_ ?_
    · rintro i x H1 hx ⟨s1, hd⟩
      obtain ⟨s, hs, rfl⟩ := nl_get hx
      obtain ⟨c1, c2, c3, c4⟩ := hC.ok s (List.mem_of_getElem? hs)
      refine ⟨rfl, ?_⟩
      have hb : (bls flags)[s]? = some (.bl (flags.getD s false)) := by
        unfold bls
        rw [List.getElem?_map, List.getD_eq_getElem?_getD, List.getElem?_eq_getElem c2]
        rfl
      refine ⟨_, rfl, _, rfl, _, rfl, fl, _, _, .bl (flags.getD s false), rfl, rfl, SqL.of (s1 _ _ hfl), atI_nat hb, .inr ⟨_, rfl, ?_⟩⟩
      have hk : ((states.take i).map fun s => (s, if flags.getD s false = true then 1 else 0)).lookup s = none := look_none (by
        rw [List.map_map]
        show s ∉ (states.take i).map id
        rw [List.map_id]
        exact not_take hC.nd hs)
      refine ⟨_, Sum.inl (s : Int), rfl, hd, ?_, ?_, ?_⟩
      · rw [kvN_length, List.length_map, List.length_take]
        have := hC.few
        exact line_lt (by have := Nat.min_le_right i states.length; omega)
      · exact fun b o e => by rw [upd_ne (ne_of_none e nd0)]; exact s1 _ _ e
      · rw [upd_same]
        have e1 : V.int (if flags.getD s false = true then 1 else 0) = V.int (((if flags.getD s false = true then 1 else 0) : Nat) : Int) := by cases flags.getD s false <;> rfl
        rw [e1, putN_new hk, take_get hs, List.map_append]
        rfl
    rintro H1 ⟨s1, hd⟩
    rw [nl_length, List.take_length] at hd
    have hd0 : H1 d0 = some (.dK (kvN (kOut rows flags states 0))) := hd
    refine ⟨CW rt fl sl rows flags states q H,
      ⟨q, 0, d0, none, none, none, none, none, rfl, Nat.zero_le _, rfl, s1, nd0, hd0⟩, ?_⟩
    rintro m σ H2 ⟨i, d, v5, v6, v7, v8, v9, rfl, hi, rfl, s2, dH, hd2⟩
    have hlen : (kOut rows flags states i).length = states.length := by
      have := congrArg List.length (kOut_keys rows flags states i)
      rw [List.length_map] at this
      exact this
    have hvs : (kvN (kOut rows flags states i)).map (·.2) = ((kOut rows flags states i).map fun p => (p.2 : Int)).map V.int := by
      unfold kvN
      rw [List.map_map, List.map_map]
      rfl
    refine ⟨_, rfl, _, rfl, d, rfl, .inr ⟨_, hd2, fun l3 nl3 => ?_⟩⟩
    obtain ⟨H3, e3, s3, s23, hl3, _⟩ := new_as (o := .lst ((kvN (kOut rows flags states i)).map (·.2))) s2 nl3
    rw [← e3]
    clear e3
    rw [hvs] at hl3
    refine ⟨l3, _, rfl, SqL.of hl3, by rw [List.length_map, hlen]; have := hC.few; omega, _, _, rfl, rfl, _, rfl, ?_⟩
    show if decide ((mny rows flags states i : Int) < (dvN (kOut rows flags states i) : Int)) = true then _ else _
    by_cases c : i < q
    · obtain ⟨g1, g2⟩ := hS.go i c
      rw [decide_eq_true (by omega)]
      refine iteT ⟨fun σ' H' => ∃ m', m' < q - i ∧ CW rt fl sl rows flags states q H m' σ' H', fun σ' H' h => h, ?_⟩
      generalize hkd : kOut rows flags states i = kd at hd2 hlen hvs hl3 g1 g2
      have hkeys : kd.map Prod.fst = states := by rw [← hkd]; exact kOut_keys rows flags states i
      have hd3 := s23 _ _ hd2
      refine ⟨_, rfl, d, rfl, .inr ⟨_, hd3, fun l4 nl4 => ?_⟩⟩
      obtain ⟨H4, e4, s4, s34, hl4, _⟩ := new_as (o := .lst ((kvN kd).map (·.2))) s3 nl4
      rw [← e4]
      clear e4
      rw [hvs] at hl4
      refine ⟨l4, _, rfl, SqL.of hl4, by rw [List.length_map, hlen]; have := hC.few; omega, ?_⟩
      refine ⟨_, rfl, _, _, rfl, rfl, _, rfl, ?_⟩
      have hdv : dvI (kd.map fun p => (p.2 : Int)) = dvN kd := rfl
      rw [hdv, decide_eq_false (by omega)]
      refine iteF ?_
      intro nn H5 nn0 nn5 s45 fr5 hN5
      have s5 := s4.trans s45
      intro ld nld
      obtain ⟨H6, e6, s6, s56, hld6, ld0⟩ := new_as (o := .dK []) s5 nld
      rw [← e6]
      clear e6
      have nnH : H nn = none := s4.free nn0
      have nldnn : ld ≠ nn := fun z => nn5 (by rw [← z]; exact nld)
      have hd6 := s56 _ _ (s45 _ _ (s34 _ _ hd3))
      have ndld : d ≠ ld := ne_of_none (s45 _ _ (s34 _ _ hd3)) nld
      have ndnn : d ≠ nn := ne_of_none (s34 _ _ hd3) nn0
      have hsl' : ∀ {Hx}, Same H Hx → Hx sl = some (.lst (nl states)) := fun sx => sx _ _ hsl
      refine ⟨_, rfl, sl, rfl, ⟨_, SqL.of (hsl' s6)⟩, for_list (K := K) (a := sl) (xs := nl states) (fun j σ H7 => ∃ (v7 v8 v9 : Option V), σ = [some (.ref rt), some (.ref fl), some (.ref sl), some (.ref d), some (.int (dvN kd : Int)), some (.ref nn), some (.ref ld), v7, v8, v9] ∧ Same H H7 ∧ H7 d = some (.dK (kvN kd)) ∧
        NDat P w H7 nn (kvC ((states.take j).foldl (cStep rows kd) ([], [])).1) ∧ H7 ld = some (.dK (kvN ((states.take j).foldl (cStep rows kd) ([], [])).2))) ⟨_, _, _, rfl, s6, hd6, hN5.same s56, hld6⟩ (fun j σ H7 _ ⟨_, _, _, _, s7, _⟩ => SqL.of (hsl' s7)) ?_ ?_⟩
      · rintro j x σ H7 hx ⟨v7, v8, v9, rfl, s7, hd7, hN7, hld7⟩
        obtain ⟨s', hs, rfl⟩ := nl_get hx
        have hsm := List.mem_of_getElem? hs
        obtain ⟨c1, c2, c3, c4⟩ := hC.ok s' hsm
        have ef : (states.take (j + 1)).foldl (cStep rows kd) ([], []) = cStep rows kd ((states.take j).foldl (cStep rows kd) ([], [])) s' := by rw [take_get hs, List.foldl_append]; rfl
        have hl1 := cFold_len rows kd (states.take j) ([], [])
        have hl2 := cFold_keys rows kd (states.take j) ([], [])
        generalize (states.take j).foldl (cStep rows kd) ([], []) = st at hN7 hld7 ef hl1 hl2
        have hl1' : st.1.length ≤ 100 := by
          have h1 : st.1.length ≤ 0 + (states.take j).length := hl1
          have := hC.few
          rw [List.length_take] at h1
          have := Nat.min_le_right j states.length
          omega
        have hl2' : st.2.length ≤ 100 := by
          have h1 := congrArg List.length hl2
          rw [List.length_map, List.length_append, List.length_take] at h1
          have h2 : (([], []) : List ((Nat × List Nat) × Nat) × List (Nat × Nat)).2.length = 0 := rfl
          have := hC.few
          have := Nat.min_le_right j states.length
          simp at h1
          omega
        have hnew : st.2.lookup s' = none := look_none (by
          rw [hl2]
          show s' ∉ [] ++ states.take j
          rw [List.nil_append]
          exact not_take hC.nd hs)
        have gk : ∀ {l : Nat}, l ∈ states → valV (kvN kd) (Sum.inl (l : Int)) = some (.int (look kd l : Int)) := fun {l} hl => by
          rw [valV_kvN, look_has (by rw [hkeys]; exact hl)]
          rfl
        obtain ⟨xs, a, t1, t2, t3⟩ := hR.get c1 H7
        generalize hrow : rows.getD s' [] = row at t3 c3 c4
        refine ⟨_, rfl, _, rfl, d, .int (look kd s' : Int), rfl, by rw [← gk hsm]; exact DGet.k (k := Sum.inl (s' : Int)) hd7, ?_⟩
        refine ⟨_, rfl, _, rfl, rt, xs, _, .ref a, rfl, rfl, t1, atI_nat t2, a, rfl, ⟨_, t3 H7⟩, fun tl ntl => ?_⟩
        refine lc_tup (K := K) (a := a) (xs := nl row) (fun i H8 => Same H7 H8 ∧ H8 tl = some (.lst (nl ((row.take i).map (look kd))))) ⟨same_upd ntl, upd_same⟩ (fun i H8 _ _ => t3 H8) ?_ ?_
        · rintro i x H8 hx ⟨s8, htl⟩
          obtain ⟨l, hl, rfl⟩ := nl_get hx
          have hlm := c4 l (List.mem_of_getElem? hl)
          refine ⟨rfl, ?_⟩
          refine ⟨_, rfl, _, rfl, d, .int (look kd l : Int), rfl, by rw [← gk hlm]; exact DGet.k (k := Sum.inl (l : Int)) (s8 _ _ hd7), _, htl, ?_, ?_, ?_⟩
          · rw [nl_length, List.length_map, List.length_take]
            exact line_lt (by have := Nat.min_le_right i row.length; omega)
          · exact fun b o e => by rw [upd_ne (ne_of_none e ntl)]; exact s8 _ _ e
          · rw [upd_same, take_get hl, List.map_append, nl_append]
            rfl
        rintro H8 ⟨s78, htl⟩
        rw [nl_length, List.take_length] at htl
        refine ⟨tl, _, rfl, .inl ⟨SqL.of htl, fun tu ntu => ?_⟩⟩
        obtain ⟨H9, e9, s9, s89, htu, _⟩ := new_as (o := .tup (nl (row.map (look kd)))) (s7.trans s78) ntu
        rw [← e9]
        clear e9
        refine ⟨by show 2 ≤ sizeLine; decide, fun kk nkk => ?_⟩
        obtain ⟨HA, eA, sA, s9A, hkk, _⟩ := new_as (o := .tup [.int (look kd s' : Int), .ref tu]) s9 nkk
        rw [← eA]
        clear eA
        have s7A : Same H7 HA := (s78.trans s89).trans s9A
        have hKA : KAt HA kk (nk (ckey rows kd s')) := by
          unfold ckey nk
          rw [hrow]
          refine .one hkk ?_
          rw [s9A _ _ htu]
          unfold nl
          simp only [List.map_map]
          rfl
        have hNA := hN7.same s7A
        have hdA := s7A _ _ hd7
        have hldA := s7A _ _ hld7
        refine ⟨_, rfl, _, rfl, nn, _, rfl, ⟨kk, _, _, rfl, hKA, hNA, rfl⟩, _, rfl, ?_⟩
        rw [valV_kvC]
        cases hk : st.1.lookup (ckey rows kd s') with
        | some n =>
          refine iteF ?_
          refine ⟨_, rfl, _, rfl, nn, .int (n : Int), rfl, ⟨kk, _, _, rfl, hKA, hNA, by rw [valV_kvC, hk]; rfl⟩, _, rfl, _, rfl, ld, _, rfl, DPut.k (k := Sum.inl (s' : Int)) hldA (by rw [kvN_length]; exact line_lt (by omega)), ?_⟩
          have ecs : cStep rows kd st s' = (st.1, st.2 ++ [(s', n)]) := by
            unfold cStep
            rw [cNums_some hk, hk]
            rfl
          rw [putN_new hnew]
          refine ⟨_, _, _, rfl, fun b o e => ?_, ?_, ?_, ?_⟩
          · rw [upd_ne (ne_of_none e ld0)]
            exact sA _ _ e
          · rw [upd_ne ndld]
            exact hdA
          · rw [ef, ecs]
            exact hNA.upd nldnn (fun _ z => by rw [hldA] at z; cases z)
          · rw [upd_same, ef, ecs]
        | none =>
          refine iteT ?_
          refine ⟨_, rfl, nn, _, rfl, hNA, _, rfl, _, rfl, nn, rfl, kk, _, _, rfl, hKA, hNA, ?_, fun HB sAB _ hNB => ?_⟩
          · unfold kvC
            rw [List.length_map]
            exact line_lt (by omega)
          have hkl : (kvC st.1).length = st.1.length := by unfold kvC; rw [List.length_map]
          rw [hkl, putC_new hk] at hNB
          obtain ⟨ff, hff⟩ := hNA.at
          have YB := sAB.y hff
          have hKB := hKA.y YB
          have hldB := YB.dK hldA
          refine ⟨_, rfl, _, rfl, nn, .int (st.1.length : Int), rfl, ⟨kk, _, _, rfl, hKB, hNB, by rw [valV_kvC, lookup_snoc hk]; rfl⟩, _, rfl, _, rfl, ld, _, rfl, DPut.k (k := Sum.inl (s' : Int)) hldB (by rw [kvN_length]; exact line_lt (by omega)), ?_⟩
          have ecs : cStep rows kd st s' = (st.1 ++ [(ckey rows kd s', st.1.length)], st.2 ++ [(s', st.1.length)]) := by
            unfold cStep
            rw [cNums_none hk, lookup_snoc hk]
            rfl
          rw [putN_new hnew]
          refine ⟨_, _, _, rfl, fun b o e => ?_, ?_, ?_, ?_⟩
          · rw [upd_ne (ne_of_none e ld0)]
            exact sAB _ _ (ne_of_none e nnH) (sA _ _ e)
          · rw [upd_ne ndld]
            exact YB.dK hdA
          · rw [ef, ecs]
            exact hNB.upd nldnn (fun _ z => by rw [hldB] at z; cases z)
          · rw [upd_same, ef, ecs]
      · rintro σ H7 ⟨v7, v8, v9, rfl, s7, hd7, hN7, hld7⟩
        rw [nl_length, List.take_length] at hld7
        refine ⟨_, rfl, _, ?_, i + 1, ld, some (.ref nn), some (.ref ld), v7, v8, v9, rfl, c, ?_, s7, ld0, ?_⟩
        · omega
        · show _ = [some (V.ref rt), some (.ref fl), some (.ref sl), some (.ref ld), some (.int (dvN (kOut rows flags states i) : Int)), some (.ref nn), some (.ref ld), v7, v8, v9]
          rw [hkd]
          rfl
        · rw [hld7]
          show _ = some (HO.dK (kvN ((states.foldl (cStep rows (kOut rows flags states i)) ([], [])).2)))
          rw [hkd]
    · have e : i = q := by omega
      subst e
      have := hS.stop
      rw [decide_eq_false (by omega)]
      refine iteF ⟨_, rfl, ?_⟩
      exact post H3 d s3 dH (s23 _ _ hd2)
end
end W
end
section
set_option Elab.async false
set_option linter.all false
set_option maxRecDepth 100000
set_option maxHeartbeats 4000000
namespace W
open PySem PySem.Spec PyProof.Rows L2
open SR (Mach)
/-! ### the least machine, step for step -/
theorem look_of {l : List (Nat × Nat)} {k n : Nat} (h : l.lookup k = some n) : look l k = n := by unfold look; rw [h]; rfl
def chStep (kd : List (Nat × Nat)) (c : List (Nat × Nat)) (s : Nat) : List (Nat × Nat) := if (c.lookup (look kd s)).isSome = true then c else c ++ [(look kd s, s)]
theorem chStep_some {kd c : List (Nat × Nat)} {s n : Nat} (h : c.lookup (look kd s) = some n) : chStep kd c s = c := by unfold chStep; rw [h]; rfl
theorem chStep_none {kd c : List (Nat × Nat)} {s : Nat} (h : c.lookup (look kd s) = none) : chStep kd c s = c ++ [(look kd s, s)] := by unfold chStep; rw [h]; rfl
def lStep (kd : List (Nat × Nat)) (s : (List (Nat × Nat) × List Nat) × List Nat) (l : Nat) : (List (Nat × Nat) × List Nat) × List Nat := (rStep s.1 (look kd l), s.2 ++ [look (rStep s.1 (look kd l)).1 (look kd l)])
def lOut (rows : List (List Nat)) (kd ch : List (Nat × Nat)) : Nat → (List (Nat × Nat) × List Nat) × List (List Nat)
  | 0 => (([(look kd 0, 0)], [look kd 0]), [])
  | p + 1 => (((rows.getD (look ch ((lOut rows kd ch p).1.2.getD p 0)) []).foldl (lStep kd) ((lOut rows kd ch p).1, [])).1, (lOut rows kd ch p).2 ++ [((rows.getD (look ch ((lOut rows kd ch p).1.2.getD p 0)) []).foldl (lStep kd) ((lOut rows kd ch p).1, [])).2])
structure LStop (rows : List (List Nat)) (flags : List Bool) (states : List Nat) (kd ch : List (Nat × Nat)) (p : Nat) : Prop where
  small : p ≤ 100
  zero : 0 ∈ states
  stop : ¬ p < (lOut rows kd ch p).1.2.length
  go : ∀ q, q < p → q < (lOut rows kd ch q).1.2.length ∧ (lOut rows kd ch q).1.2.length ≤ 100 ∧ (lOut rows kd ch q).1.2.getD q 0 ∈ ch.map Prod.fst ∧ look ch ((lOut rows kd ch q).1.2.getD q 0) < rows.length ∧ (rows.getD (look ch ((lOut rows kd ch q).1.2.getD q 0)) []).length ≤ 4 ∧
    ∀ l ∈ rows.getD (look ch ((lOut rows kd ch q).1.2.getD q 0)) [], l ∈ states
  fin : ∀ k ∈ (lOut rows kd ch p).1.2, k ∈ ch.map Prod.fst ∧ look ch k < flags.length
theorem lFold_len (kd : List (Nat × Nat)) : ∀ (ls : List Nat) (s : (List (Nat × Nat) × List Nat) × List Nat), s.1.1.length = s.1.2.length → (ls.foldl (lStep kd) s).1.1.length = (ls.foldl (lStep kd) s).1.2.length ∧ (ls.foldl (lStep kd) s).1.2.length ≤ s.1.2.length + ls.length ∧ (ls.foldl (lStep kd) s).2.length = s.2.length + ls.length
  | [], s, h => ⟨h, Nat.le_refl _, rfl⟩
  | l :: ls, s, h => by
    obtain ⟨h1, h2⟩ := rStep_len s.1 (look kd l) h
    obtain ⟨h3, h4, h5⟩ := lFold_len kd ls (lStep kd s l) h1
    rw [List.foldl_cons, List.length_cons]
    have e1 : (lStep kd s l).1 = rStep s.1 (look kd l) := rfl
    have e2 : (lStep kd s l).2.length = s.2.length + 1 := by show (s.2 ++ [_]).length = _; rw [List.length_append]; rfl
    rw [e1] at h4
    exact ⟨h3, by omega, by omega⟩
theorem lOut_len (rows : List (List Nat)) (kd ch : List (Nat × Nat)) : ∀ p, (lOut rows kd ch p).1.1.length = (lOut rows kd ch p).1.2.length ∧ (lOut rows kd ch p).2.length = p
  | 0 => ⟨rfl, rfl⟩
  | p + 1 => by
    obtain ⟨h1, h2⟩ := lOut_len rows kd ch p
    refine ⟨(lFold_len kd _ ((lOut rows kd ch p).1, []) h1).1, ?_⟩
    show ((lOut rows kd ch p).2 ++ [_]).length = _
    rw [List.length_append, h2]
    rfl
abbrev N_least_machine : List Str := ["rows", "flags", "states", "kinds", "chosen", "state", "numbers", "order", "least", "place", "nexts", "later", "kind"]
theorem sc_least_machine : FnScope N_least_machine ["rows", "flags"] (defScope (topS 29)) := ⟨rfl, rfl, rfl, by decide +kernel, rfl, by decide +kernel, by decide +kernel⟩
def chOf (kd : List (Nat × Nat)) (states : List Nat) : List (Nat × Nat) := states.foldl (chStep kd) []
/-- a machine whose least one is M -/
structure Least (rows : List (List Nat)) (flags : List Bool) (M : Mach) : Prop where
  ex : ∃ p1 q p2, RStop rows p1 ∧ Closed rows flags (rOut rows p1).2 ∧ CStop rows flags (rOut rows p1).2 q ∧ LStop rows flags (rOut rows p1).2 (kOut rows flags (rOut rows p1).2 q) (chOf (kOut rows flags (rOut rows p1).2 q) (rOut rows p1).2) p2 ∧
    M.rows = (lOut rows (kOut rows flags (rOut rows p1).2 q) (chOf (kOut rows flags (rOut rows p1).2 q) (rOut rows p1).2) p2).2 ∧
    M.flags = (lOut rows (kOut rows flags (rOut rows p1).2 q) (chOf (kOut rows flags (rOut rows p1).2 q) (rOut rows p1).2) p2).1.2.map fun k => flags.getD (look (chOf (kOut rows flags (rOut rows p1).2 q) (rOut rows p1).2) k) false
def spLeast (K : PySem.W.Frag) : Sp := fun vs H Q _ => ∃ (rt fl : Addr) (rows : List (List Nat)) (flags : List Bool) (M : Mach), vs = [.ref rt, .ref fl] ∧ RowsK K rt rows ∧ H fl = some (.lst (bls flags)) ∧ Least rows flags M ∧
  ∀ (H' : Hp) (t rl fl2 : Addr) (as : List Addr), Same H H' → H' t = some (.tup [.ref rl, .ref fl2]) → H' rl = some (.lst (refs as)) → TupsAt H' as M.rows → H' fl2 = some (.lst (bls M.flags)) → Q (.ref t) H'
def LW (rt fl sl ka ca dn fo la : Addr) (rows : List (List Nat)) (kd ch : List (Nat × Nat)) (p : Nat) (H : Hp) (m : Nat) (σ : L2.St) (Hx : Hp) : Prop :=
  ∃ (pl : Nat) (as : List Addr) (v5 v10 v11 v12 : Option V), m = p - pl ∧ pl ≤ p ∧ σ = [some (.ref rt), some (.ref fl), some (.ref sl), some (.ref ka), some (.ref ca), v5, some (.ref dn), some (.ref fo), some (.ref la), some (.int (pl : Int)), v10, v11, v12] ∧ Same H Hx ∧ Hx ka = some (.dK (kvN kd)) ∧ Hx ca = some (.dK (kvN ch)) ∧
    Hx dn = some (.dK (kvN (lOut rows kd ch pl).1.1)) ∧ Hx fo = some (.lst (nl (lOut rows kd ch pl).1.2)) ∧ Hx la = some (.lst (refs as)) ∧ TupsAt Hx as (lOut rows kd ch pl).2
section
variable {P : Program} {w : World} {K : PySem.W.Frag} {mg : Str → Option Value} {base : Heap}
theorem ok_least (T : Bl mg) (D : Df K mg "least_machine" (topS 29)) (FR : FnB P w K mg base CX0 1 "reached" ["rows"] [] (spReached K)) (FC : FnB P w K mg base CX0 1 "classes_of" ["rows", "flags", "states"] [] (spClasses K)) : FnB P w K mg base CX0 2 "least_machine" ["rows", "flags"] [] (spLeast K) := by
  refine D.ok sc_least_machine (fun vs H Q E h => ?_) (fun _ _ _ _ _ _ us hl => match us, hl with | [_, _], _ => rfl) (fun f cdv A outer s H vs Q E hr h => ?_)
  · obtain ⟨rt, fl, rows, flags, M, rfl, _⟩ := h
    rfl
  · obtain ⟨rt, fl, rows, flags, M, rfl, hR, hfl, ⟨p1, q, p2, hS1, hC, hS2, hS3, hM1, hM2⟩, post⟩ := h
    refine ⟨_, (pss_cons (ps_set (i := 2) sc_least_machine.nd rfl (Or.inl rfl) (pe_fn FR (hr.mono (by decide)) pass0 (pa_cons (pv 0) pa_nil))) (pss_cons (ps_set (i := 3) sc_least_machine.nd rfl (Or.inl rfl) (pe_fn FC (hr.mono (by decide)) pass0 (pa_cons (pv 0) (pa_cons (pv 1) (pa_cons (pv 2) pa_nil))))) (pss_cons (ps_set (i := 4) sc_least_machine.nd rfl (Or.inr rfl) pe_dnewK) (pss_cons (ps_for PassesOwn.never rfl (pi_list (pv 2)) (pg_name (i := 5) sc_least_machine.nd rfl (Or.inl rfl)) (pss_one (ps_if (pt_cmp (pc_dnotin (hu_of hr) (pe_dget (hu_of hr) (pv 3) (pv 5) (fun _ _ => rfl)) (pv 4)) rfl) (pss_one (ps_dput (hu_of hr) (pv 4) (pe_dget (hu_of hr) (pv 3) (pv 5) (fun _ _ => rfl)) (pv 5) rfl)) pss_nil))) (pss_cons (ps_set (i := 6) sc_least_machine.nd rfl (Or.inl rfl) (pe_disp (pps_cons (pe_dget (hu_of hr) (pv 3) pe_int (fun _ _ => rfl)) pe_int pps_nil) (by rfl) (by rfl) (fun z => by cases z) (by decide))) (pss_cons (ps_set (i := 7) sc_least_machine.nd rfl (Or.inl rfl) (pe_lst (pa_cons (pe_dget (hu_of hr) (pv 3) pe_int (fun _ _ => rfl)) pa_nil))) (pss_cons (ps_set (i := 8) sc_least_machine.nd rfl (Or.inl rfl) (pe_lst pa_nil)) (pss_cons (ps_set (i := 9) sc_least_machine.nd rfl (Or.inl rfl) pe_int) (pss_cons (ps_while PassesOwn.never (pt_cmpR op_lt (pv 9) (pe_callB call_len_seq (by rfl) T.b_len PySem.boot_len (pa_cons (pv 7) pa_nil)) (nomark _)) (pss_cons (ps_set (i := 10) sc_least_machine.nd rfl (Or.inl rfl) (pe_lst pa_nil)) (pss_cons (ps_for PassesOwn.never rfl (pi_tup (pe_ix ix_tup (pv 0) (pe_dget (hu_of hr) (pv 4) (pe_ix ix_list (pv 7) (pv 9) (fun _ _ => rfl)) (fun _ _ => rfl)) (fun _ _ => rfl))) (pg_name (i := 11) sc_least_machine.nd rfl (Or.inl rfl)) (pss_cons (ps_set (i := 12) sc_least_machine.nd rfl (Or.inl rfl) (pe_dget (hu_of hr) (pv 3) (pv 11) (fun _ _ => rfl))) (pss_cons (ps_if (pt_cmp (pc_dnotin (hu_of hr) (pv 12) (pv 6)) rfl) (pss_cons (ps_dput (hu_of hr) (pv 6) (pv 12) (pe_callB call_len_seq (by rfl) T.b_len PySem.boot_len (pa_cons (pv 7) pa_nil)) rfl) (pss_one (ps_expr (pe_bm PySem.F.plainAttrs_list PySem.F.slot_list_append PySem.F.type_list_append mt_append (pv 7) (pa_cons (pv 12) pa_nil))))) pss_nil) (pss_one (ps_expr (pe_bm PySem.F.plainAttrs_list PySem.F.slot_list_append PySem.F.type_list_append mt_append (pv 10) (pa_cons (pe_dget (hu_of hr) (pv 6) (pv 12) (fun _ _ => rfl)) pa_nil))))))) (pss_cons (ps_expr (pe_bm PySem.F.plainAttrs_list PySem.F.slot_list_append PySem.F.type_list_append mt_append (pv 8) (pa_cons (pe_callTy call_tuple_of (by rfl) T.b_tuple (by decide +kernel) (pa_cons (pv 10) pa_nil)) pa_nil))) (pss_one (ps_aug (i := 9) sc_least_machine.nd rfl (Or.inl rfl) pe_int ip_add)))))) (pss_one (ps_ret (pe_tup (pa_cons (pv 8) (pa_cons (pe_lc (own := [("kind", 12)]) rfl sc_least_machine.nd (pi_list (pv 7)) (blkOk_by (own := [("kind", 12)]) (N := N_least_machine) (sc := defScope (topS 29)) (by decide +kernel)) (fun _ _ _ _ _ => (pg_name (i := 12) sc_least_machine.nd rfl (Or.inl rfl))) (fun _ _ _ _ _ => pts_nil) (fun _ _ _ _ _ => (pe_callTy call_bool1 (by rfl) T.b_bool (by decide +kernel) (pa_cons (pe_ixLK K (pv 1) (pe_dgetA hr (pv 4) (pv 12))) pa_nil)))) pa_nil)))))))))))))), ?_⟩
    refine ⟨_, rfl, rt, rows, p1, rfl, hR, hS1, fun H1 sl s1 sl0 hsl => ?_⟩
    generalize hst : (rOut rows p1).2 = states at hC hS2 hS3 hM1 hM2 hsl
    refine ⟨_, rfl, _, rfl, _, rfl, rt, fl, sl, rows, flags, states, q, rfl, hR, s1 _ _ hfl, hsl, hC, hS2, fun H2 ka s12 ka0 hka => ?_⟩
    have hkeys := kOut_keys rows flags states q
    generalize hkd : kOut rows flags states q = kd at hS3 hM1 hM2 hka hkeys
    have s2 := s1.trans s12
    have gk : ∀ {Hx : Hp} {l : Nat}, Hx ka = some (.dK (kvN kd)) → l ∈ states → DGet Hx ka (.int (l : Int)) (some (.int (look kd l : Int))) := fun {Hx l} e hl => by
      have : valV (kvN kd) (Sum.inl (l : Int)) = some (.int (look kd l : Int)) := by
        rw [valV_kvN, look_has (by rw [hkeys]; exact hl)]
        rfl
      rw [← this]
      exact DGet.k (k := Sum.inl (l : Int)) e
    -- chosen
    intro ca nca
    obtain ⟨H3, e3, s3, s23, hca, ca0⟩ := new_as (o := .dK []) s2 nca
    rw [← e3]
    clear e3
    have nkca : ka ≠ ca := ne_of_none hka nca
    refine ⟨_, rfl, sl, rfl, ⟨_, SqL.of (s23 _ _ (s12 _ _ hsl))⟩, for_list (K := K) (a := sl) (xs := nl states) (fun i σ H4 => ∃ v5, σ = [some (.ref rt), some (.ref fl), some (.ref sl), some (.ref ka), some (.ref ca), v5, none, none, none, none, none, none, none] ∧ Same H H4 ∧ H4 sl = some (.lst (nl states)) ∧ H4 ka = some (.dK (kvN kd)) ∧ H4 ca = some (.dK (kvN ((states.take i).foldl (chStep kd) [])))) ⟨none, rfl, s3, s23 _ _ (s12 _ _ hsl), s23 _ _ hka, hca⟩ (fun i σ H4 _ ⟨_, _, _, h, _⟩ => SqL.of h) ?_ ?_⟩
    · rintro i x σ H4 hx ⟨v5, rfl, s4, hsl4, hka4, hca4⟩
      obtain ⟨l, hl, rfl⟩ := nl_get hx
      have hlm := List.mem_of_getElem? hl
      have ef : (states.take (i + 1)).foldl (chStep kd) [] = chStep kd ((states.take i).foldl (chStep kd) []) l := by rw [take_get hl, List.foldl_append]; rfl
      have hcl : ((states.take i).foldl (chStep kd) []).length ≤ i := by
        have : ∀ (ls : List Nat) (c : List (Nat × Nat)), (ls.foldl (chStep kd) c).length ≤ c.length + ls.length := by
          intro ls
          induction ls with
          | nil => intro c; exact Nat.le_refl _
          | cons a ls ih =>
            intro c
            have h1 := ih (chStep kd c a)
            have h2 : (chStep kd c a).length ≤ c.length + 1 := by
              unfold chStep
              split
              · omega
              · rw [List.length_append]; exact Nat.le_refl _
            rw [List.foldl_cons, List.length_cons]
            omega
        have h1 := this (states.take i) []
        rw [List.length_take] at h1
        have := Nat.min_le_left i states.length
        have h0 : ([] : List (Nat × Nat)).length = 0 := rfl
        omega
      generalize (states.take i).foldl (chStep kd) [] = cc at hca4 ef hcl
      refine ⟨_, rfl, _, rfl, ka, .int (look kd l : Int), rfl, gk hka4 hlm, _, rfl, ca, _, rfl, DGet.k (k := Sum.inl (look kd l : Int)) hca4, _, rfl, ?_⟩
      rw [valV_kvN]
      cases hk : cc.lookup (look kd l) with
      | some n =>
        refine iteF ⟨_, rfl, s4, hsl4, hka4, ?_⟩
        rw [hca4, ef, chStep_some hk]
      | none =>
        refine iteT ⟨_, rfl, _, rfl, _, rfl, _, rfl, ka, .int (look kd l : Int), rfl, gk hka4 hlm, ca, _, rfl, DPut.k (k := Sum.inl (look kd l : Int)) hca4 ?_, ?_⟩
        · rw [kvN_length]
          have := hC.few
          have hi : i < states.length := (List.getElem?_eq_some_iff.mp hl).1
          exact line_lt (by omega)
        rw [putN_new hk]
        refine ⟨_, rfl, fun b o e => ?_, ?_, ?_, ?_⟩
        · rw [upd_ne (ne_of_none e ca0)]; exact s4 _ _ e
        · rw [upd_ne (ne_of hsl4 hca4 (fun z => nomatch z))]; exact hsl4
        · rw [upd_ne nkca]; exact hka4
        · rw [upd_same, ef, chStep_none hk]
    rintro σ H4 ⟨v5, rfl, s4, hsl4, hka4, hca4⟩
    rw [nl_length, List.take_length] at hca4
    have hch : states.foldl (chStep kd) [] = chOf kd states := rfl
    rw [hch] at hca4
    generalize chOf kd states = ch at hca4 hS3 hM1 hM2
    -- numbers, order, least
    intro dn ndn
    have nkdn : ka ≠ dn := ne_of_none hka4 ndn
    refine ⟨_, rfl, ka, .int (look kd 0 : Int), rfl, gk (l := 0) (by rw [upd_ne nkdn]; exact hka4) hS3.zero, ?_⟩
    refine ⟨upd_same, [(Sum.inl (look kd 0 : Int), V.int 0)], rfl, by show 1 ≤ 15; decide, ?_⟩
    obtain ⟨H5, e5, s5, s45, hdn5, dn0⟩ : ∃ H5, H5 = upd (upd H4 dn (.dK [])) dn (.dK (mergeK [] [((Sum.inl (look kd 0 : Int), V.int 0) : Key × V)])) ∧ Same H H5 ∧ Same H4 H5 ∧ H5 dn = some (.dK (kvN [(look kd 0, 0)])) ∧ H dn = none :=
      ⟨_, rfl, fun b o e => by rw [upd_ne (ne_of_none (s4 _ _ e) ndn), upd_ne (ne_of_none (s4 _ _ e) ndn)]; exact s4 _ _ e, fun b o e => by rw [upd_ne (ne_of_none e ndn), upd_ne (ne_of_none e ndn)]; exact e, by rw [upd_same]; rfl, s4.free ndn⟩
    rw [← e5]
    clear e5
    refine ⟨_, rfl, ka, .int (look kd 0 : Int), rfl, gk (l := 0) (s45 _ _ hka4) hS3.zero, by show 1 ≤ sizeLine; decide, fun fo nfo => ?_⟩
    obtain ⟨H6, e6, s6, s56, hfo6, fo0⟩ := new_as (o := .lst [.int (look kd 0 : Int)]) s5 nfo
    rw [← e6]
    clear e6
    refine ⟨Nat.zero_le _, fun la nla => ?_⟩
    obtain ⟨H7, e7, s7, s67, hla7, la0⟩ := new_as (o := .lst []) s6 nla
    rw [← e7]
    clear e7
    have ndnfo : dn ≠ fo := ne_of_none hdn5 nfo
    have ndnla : dn ≠ la := ne_of_none (s56 _ _ hdn5) nla
    have nfola : fo ≠ la := ne_of_none hfo6 nla
    have nkfo : ka ≠ fo := ne_of_none (s45 _ _ hka4) nfo
    have nkla : ka ≠ la := ne_of_none (s56 _ _ (s45 _ _ hka4)) nla
    have ncdn : ca ≠ dn := ne_of_none hca4 ndn
    have ncfo : ca ≠ fo := ne_of_none (s45 _ _ hca4) nfo
    have ncla : ca ≠ la := ne_of_none (s56 _ _ (s45 _ _ hca4)) nla
    refine ⟨LW rt fl sl ka ca dn fo la rows kd ch p2 H, ⟨p2, 0, [], v5, none, none, none, rfl, Nat.zero_le _, rfl, s7, s67 _ _ (s56 _ _ (s45 _ _ hka4)), s67 _ _ (s56 _ _ (s45 _ _ hca4)), s67 _ _ (s56 _ _ hdn5), s67 _ _ hfo6, hla7, .nil⟩, ?_⟩
    rintro m σ H8 ⟨pl, as, v5, v10, v11, v12, rfl, hpl, rfl, s8, hka8, hca8, hdn8, hfo8, hla8, hT8⟩
    refine ⟨_, rfl, _, rfl, fo, _, rfl, .inl (SqL.of hfo8), _, _, rfl, rfl, _, rfl, ?_⟩
    rw [nl_length]
    by_cases c : pl < p2
    · obtain ⟨g1, g2, g3, g4, g5, g6⟩ := hS3.go pl c
      rw [decide_eq_true (by omega)]
      refine iteT ⟨fun σ' H' => ∃ m', m' < p2 - pl ∧ LW rt fl sl ka ca dn fo la rows kd ch p2 H m' σ' H', fun σ' H' h => h, ?_⟩
      refine ⟨Nat.zero_le _, fun nx nnx => ?_⟩
      obtain ⟨H9, e9, s9, s89, hnx9, nx0⟩ := new_as (o := .lst []) s8 nnx
      rw [← e9]
      clear e9
      have nxd : dn ≠ nx := ne_of_none hdn8 nnx
      have nxf : fo ≠ nx := ne_of_none hfo8 nnx
      have nxl : la ≠ nx := ne_of_none hla8 nnx
      have nxk : ka ≠ nx := ne_of_none hka8 nnx
      have nxc : ca ≠ nx := ne_of_none hca8 nnx
      have hoa : (nl (lOut rows kd ch pl).1.2)[pl]? = some (.int ((lOut rows kd ch pl).1.2.getD pl 0 : Int)) := nl_at (by rw [List.getD_eq_getElem?_getD, List.getElem?_eq_getElem g1]; rfl)
      obtain ⟨xs, a, t1, t2, t3⟩ := hR.get g4 H9
      have gch : DGet H9 ca (.int ((lOut rows kd ch pl).1.2.getD pl 0 : Int)) (some (.int (look ch ((lOut rows kd ch pl).1.2.getD pl 0) : Int))) := by
        have : valV (kvN ch) (Sum.inl ((lOut rows kd ch pl).1.2.getD pl 0 : Int)) = some (.int (look ch ((lOut rows kd ch pl).1.2.getD pl 0) : Int)) := by
          rw [valV_kvN, look_has g3]
          rfl
        rw [← this]
        exact DGet.k (k := Sum.inl ((lOut rows kd ch pl).1.2.getD pl 0 : Int)) (s89 _ _ hca8)
      refine ⟨_, rfl, _, rfl, _, rfl, _, rfl, fo, _, _, _, rfl, rfl, SqL.of (s89 _ _ hfo8), atI_nat hoa, ca, _, rfl, gch, rt, xs, _, .ref a, rfl, rfl, t1, atI_nat t2, a, rfl, ⟨_, t3 H9⟩, ?_⟩
      have hs1 : (lOut rows kd ch (pl + 1)).1 = ((rows.getD (look ch ((lOut rows kd ch pl).1.2.getD pl 0)) []).foldl (lStep kd) ((lOut rows kd ch pl).1, [])).1 := rfl
      have hs2 : (lOut rows kd ch (pl + 1)).2 = (lOut rows kd ch pl).2 ++ [((rows.getD (look ch ((lOut rows kd ch pl).1.2.getD pl 0)) []).foldl (lStep kd) ((lOut rows kd ch pl).1, [])).2] := rfl
      have hll := lOut_len rows kd ch pl
      generalize hrow : rows.getD (look ch ((lOut rows kd ch pl).1.2.getD pl 0)) [] = row at t3 g5 g6 hs1 hs2
      generalize hst0 : (lOut rows kd ch pl) = st0 at hdn8 hfo8 hT8 g1 g2 g3 hoa gch hs1 hs2 hll
      refine for_tup (K := K) (a := a) (xs := nl row) (fun i σ HA => ∃ v11 v12, σ = [some (.ref rt), some (.ref fl), some (.ref sl), some (.ref ka), some (.ref ca), v5, some (.ref dn), some (.ref fo), some (.ref la), some (.int (pl : Int)), some (.ref nx), v11, v12] ∧ Same H HA ∧ HA ka = some (.dK (kvN kd)) ∧ HA ca = some (.dK (kvN ch)) ∧
          HA dn = some (.dK (kvN ((row.take i).foldl (lStep kd) (st0.1, [])).1.1)) ∧ HA fo = some (.lst (nl ((row.take i).foldl (lStep kd) (st0.1, [])).1.2)) ∧ HA la = some (.lst (refs as)) ∧ TupsAt HA as st0.2 ∧ HA nx = some (.lst (nl ((row.take i).foldl (lStep kd) (st0.1, [])).2)))
        ⟨v11, v12, rfl, s9, s89 _ _ hka8, s89 _ _ hca8, s89 _ _ hdn8, s89 _ _ hfo8, s89 _ _ hla8, Paired.imp (fun _ _ e => s89 _ _ e) hT8, hnx9⟩ (fun i σ HA _ _ => t3 HA) ?_ ?_
      · rintro i x σ HA hx ⟨v11, v12, rfl, sA, hkaA, hcaA, hdnA, hfoA, hlaA, hTA, hnxA⟩
        obtain ⟨l, hl, rfl⟩ := nl_get hx
        have hlm := g6 l (List.mem_of_getElem? hl)
        have ef : (row.take (i + 1)).foldl (lStep kd) (st0.1, []) = lStep kd ((row.take i).foldl (lStep kd) (st0.1, [])) l := by rw [take_get hl, List.foldl_append]; rfl
        have hle := lFold_len kd (row.take i) (st0.1, []) hll.1
        have htk : (row.take i).length ≤ 4 := by rw [List.length_take]; have := Nat.min_le_right i row.length; omega
        generalize (row.take i).foldl (lStep kd) (st0.1, []) = st at hdnA hfoA hnxA ef hle
        have hz0 : (st0.1, ([] : List Nat)).1.2.length = st0.1.2.length := rfl
        have hz1 : (st0.1, ([] : List Nat)).2.length = 0 := rfl
        refine ⟨_, rfl, _, rfl, ka, .int (look kd l : Int), rfl, gk hkaA hlm, ?_⟩
        refine ⟨_, rfl, _, rfl, dn, _, rfl, DGet.k (k := Sum.inl (look kd l : Int)) hdnA, _, rfl, ?_⟩
        rw [valV_kvN]
        have kpT : ∀ {Hx : Hp} {b : Addr} {u o : HO}, Hx b = some u → (∀ xs, u ≠ .tup xs) → TupsAt Hx as st0.2 → TupsAt (upd Hx b o) as st0.2 := fun {Hx b u o} e hn hT => Paired.imp (fun c ys (hc : Hx c = some (.tup (nl ys))) => by
          show upd Hx b o c = _
          rw [upd_ne (ne_of hc e (fun z => hn _ z.symm))]
          exact hc) hT
        cases hk : st.1.1.lookup (look kd l) with
        | some n =>
          have hr1 : rStep st.1 (look kd l) = st.1 := rStep_some hk
          have hlk : look st.1.1 (look kd l) = n := look_of hk
          refine iteF ?_
          refine ⟨_, rfl, .inl ⟨rfl, _, SqL.of hnxA⟩, _, rfl, _, rfl, dn, .int (n : Int), rfl, ?_, nx, _, _, rfl, rfl, hnxA, by rw [nl_length]; exact line_lt (by omega), ?_⟩
          · have : valV (kvN st.1.1) (Sum.inl (look kd l : Int)) = some (.int (n : Int)) := by rw [valV_kvN, hk]; rfl
            rw [← this]
            exact DGet.k (k := Sum.inl (look kd l : Int)) hdnA
          have ecs : lStep kd st l = (st.1, st.2 ++ [n]) := by unfold lStep; rw [hr1, hlk]
          refine ⟨_, _, rfl, fun b o e => ?_, ?_, ?_, ?_, ?_, ?_, kpT hnxA (fun _ z => nomatch z) hTA, ?_⟩
          · rw [upd_ne (ne_of_none e nx0)]; exact sA _ _ e
          · rw [upd_ne nxk]; exact hkaA
          · rw [upd_ne nxc]; exact hcaA
          · rw [upd_ne nxd, ef, ecs]; exact hdnA
          · rw [upd_ne nxf, ef, ecs]; exact hfoA
          · rw [upd_ne nxl]; exact hlaA
          · rw [upd_same, ef, ecs, nl_append]; rfl
        | none =>
          have hr1 : rStep st.1 (look kd l) = (st.1.1 ++ [(look kd l, st.1.2.length)], st.1.2 ++ [look kd l]) := rStep_none hk
          have hlk : (st.1.1 ++ [(look kd l, st.1.2.length)]).lookup (look kd l) = some st.1.2.length := lookup_snoc hk
          refine iteT ?_
          refine ⟨_, rfl, fo, _, rfl, .inl (SqL.of hfoA), _, rfl, _, rfl, dn, _, rfl, DPut.k (k := Sum.inl (look kd l : Int)) hdnA (by rw [kvN_length]; exact line_lt (by omega)), ?_⟩
          rw [nl_length, putN_new hk]
          obtain ⟨HB, eB, hdnB, kB⟩ : ∃ HB, HB = upd HA dn (.dK (kvN (st.1.1 ++ [(look kd l, st.1.2.length)]))) ∧ HB dn = some (.dK (kvN (st.1.1 ++ [(look kd l, st.1.2.length)]))) ∧ SameX dn HA HB := ⟨_, rfl, upd_same, fun b o n e => by rw [upd_ne n]; exact e⟩
          have hTB : TupsAt HB as st0.2 := by rw [eB]; exact kpT hdnA (fun _ z => nomatch z) hTA
          rw [← eB]
          clear eB
          have hfoB := kB _ _ (Ne.symm ndnfo) hfoA
          refine ⟨_, rfl, .inl ⟨rfl, _, SqL.of hfoB⟩, _, rfl, fo, _, _, rfl, rfl, hfoB, by rw [nl_length]; exact line_lt (by omega), ?_⟩
          obtain ⟨HC, eC, hfoC, kC⟩ : ∃ HC, HC = upd HB fo (.lst (nl st.1.2 ++ [.int (look kd l : Int)])) ∧ HC fo = some (.lst (nl (st.1.2 ++ [look kd l]))) ∧ SameX fo HB HC := ⟨_, rfl, by rw [upd_same, nl_append]; rfl, fun b o n e => by rw [upd_ne n]; exact e⟩
          have hTC : TupsAt HC as st0.2 := by rw [eC]; exact kpT hfoB (fun _ z => nomatch z) hTB
          rw [← eC]
          clear eC
          have hdnC := kC _ _ ndnfo hdnB
          have hnxC := kC _ _ (Ne.symm nxf) (kB _ _ (Ne.symm nxd) hnxA)
          refine ⟨_, rfl, .inl ⟨rfl, _, SqL.of hnxC⟩, _, rfl, _, rfl, dn, .int (st.1.2.length : Int), rfl, ?_, nx, _, _, rfl, rfl, hnxC, by rw [nl_length]; exact line_lt (by omega), ?_⟩
          · have : valV (kvN (st.1.1 ++ [(look kd l, st.1.2.length)])) (Sum.inl (look kd l : Int)) = some (.int (st.1.2.length : Int)) := by rw [valV_kvN, hlk]; rfl
            rw [← this]
            exact DGet.k (k := Sum.inl (look kd l : Int)) hdnC
          have ecs : lStep kd st l = ((st.1.1 ++ [(look kd l, st.1.2.length)], st.1.2 ++ [look kd l]), st.2 ++ [st.1.2.length]) := by
            unfold lStep
            rw [hr1]
            show (_, st.2 ++ [look (st.1.1 ++ [(look kd l, st.1.2.length)]) (look kd l)]) = _
            rw [look_of hlk]
          refine ⟨_, _, rfl, fun b o e => ?_, ?_, ?_, ?_, ?_, ?_, kpT hnxC (fun _ z => nomatch z) hTC, ?_⟩
          · rw [upd_ne (ne_of_none e nx0)]
            exact kC _ _ (ne_of_none e fo0) (kB _ _ (ne_of_none e dn0) (sA _ _ e))
          · rw [upd_ne nxk]; exact kC _ _ nkfo (kB _ _ nkdn hkaA)
          · rw [upd_ne nxc]; exact kC _ _ ncfo (kB _ _ ncdn hcaA)
          · rw [upd_ne nxd, ef, ecs]; exact hdnC
          · rw [upd_ne nxf, ef, ecs]; exact hfoC
          · rw [upd_ne nxl]; exact kC _ _ (Ne.symm nfola) (kB _ _ (Ne.symm ndnla) hlaA)
          · rw [upd_same, ef, ecs, nl_append]; rfl
      · rintro σ HA ⟨v11, v12, rfl, sA, hkaA, hcaA, hdnA, hfoA, hlaA, hTA, hnxA⟩
        rw [nl_length, List.take_length] at hdnA hfoA hnxA
        refine ⟨_, rfl, .inl ⟨rfl, _, SqL.of hlaA⟩, _, rfl, nx, _, rfl, .inl ⟨SqL.of hnxA, fun tn ntn => ?_⟩⟩
        obtain ⟨HB, eB, sB, sAB, htn, _⟩ := new_as (o := .tup (nl (row.foldl (lStep kd) (st0.1, [])).2)) sA ntn
        rw [← eB]
        clear eB
        have hlaB := sAB _ _ hlaA
        have hal : as.length = st0.2.length := Paired.length hT8
        refine ⟨la, _, _, rfl, rfl, hlaB, ?_, ?_⟩
        · unfold refs
          rw [List.length_map, hal, hll.2]
          have := hS3.small
          exact line_lt (by omega)
        refine ⟨_, rfl, _, _, rfl, rfl, _, ?_, pl + 1, as ++ [tn], v5, some (.ref nx), v11, v12, rfl, c, rfl, fun b o e => ?_, ?_, ?_, ?_, ?_, ?_, ?_⟩
        · omega
        · rw [upd_ne (ne_of_none e la0)]; exact sB _ _ e
        · rw [upd_ne nkla]; exact sAB _ _ hkaA
        · rw [upd_ne ncla]; exact sAB _ _ hcaA
        · rw [upd_ne ndnla, hs1]; exact sAB _ _ hdnA
        · rw [upd_ne nfola, hs1]; exact sAB _ _ hfoA
        · rw [upd_same]
          unfold refs
          rw [List.map_append]
          rfl
        · rw [hs2]
          refine paired_snoc ?_ ?_
          · rw [upd_ne (ne_of htn hlaB (fun z => nomatch z))]
            exact htn
          · exact Paired.imp (fun c ys (hc : HA c = some (.tup (nl ys))) => by
              show upd HB la _ c = _
              rw [upd_ne (ne_of (sAB _ _ hc) hlaB (fun z => nomatch z))]
              exact sAB _ _ hc) hTA
    · have e : pl = p2 := by omega
      subst e
      have := hS3.stop
      rw [decide_eq_false (by omega)]
      refine iteF ?_
      have hll := lOut_len rows kd ch pl
      have hfin := hS3.fin
      have hfo2 : (lOut rows kd ch pl).1.2.length ≤ 100 := by have := hS3.small; omega
      generalize hod : (lOut rows kd ch pl).1.2 = od at hfo8 hfin hM2 hfo2
      refine ⟨_, rfl, _, rfl, fo, rfl, ⟨_, SqL.of hfo8⟩, fun bl0 nbl => ?_⟩
      refine lc_list (K := K) (a := fo) (xs := nl od) (fun i H9 => Same H8 H9 ∧ H9 bl0 = some (.lst (bls ((od.take i).map fun k => flags.getD (look ch k) false)))) ⟨same_upd nbl, upd_same⟩ (fun i H9 _ ⟨s9, _⟩ => SqL.of (s9 _ _ hfo8)) ?_ ?_
      · rintro i x H9 hx ⟨s9, hbl⟩
        obtain ⟨k, hk, rfl⟩ := nl_get hx
        obtain ⟨f1, f2⟩ := hfin k (List.mem_of_getElem? hk)
        refine ⟨rfl, ?_⟩
        have hb : (bls flags)[look ch k]? = some (.bl (flags.getD (look ch k) false)) := by
          unfold bls
          rw [List.getElem?_map, List.getD_eq_getElem?_getD, List.getElem?_eq_getElem f2]
          rfl
        have gch : DGet H9 ca (.int (k : Int)) (some (.int (look ch k : Int))) := by
          have : valV (kvN ch) (Sum.inl (k : Int)) = some (.int (look ch k : Int)) := by rw [valV_kvN, look_has f1]; rfl
          rw [← this]
          exact DGet.k (k := Sum.inl (k : Int)) (s9 _ _ hca8)
        refine ⟨_, rfl, _, rfl, _, rfl, ca, _, rfl, gch, fl, _, _, _, rfl, rfl, SqL.of (s9 _ _ (s8 _ _ hfl)), atI_nat hb, .inr ⟨_, rfl, _, hbl, ?_, ?_, ?_⟩⟩
        · unfold bls
          rw [List.length_map, List.length_map, List.length_take]
          exact line_lt (by have := Nat.min_le_right i od.length; omega)
        · exact fun b o e => by rw [upd_ne (ne_of_none e nbl)]; exact s9 _ _ e
        · rw [upd_same, take_get hk, List.map_append]
          unfold bls
          rw [List.map_append]
          rfl
      rintro H9 ⟨s9, hbl⟩
      rw [nl_length, List.take_length, ← hM2] at hbl
      refine ⟨by show 2 ≤ sizeLine; decide, fun t nt => ?_⟩
      obtain ⟨HA, eA, sA, s9A, hta, _⟩ := new_as (o := .tup [.ref la, .ref bl0]) (s8.trans s9) nt
      rw [← eA]
      clear eA
      rw [← hM1] at hT8
      exact post HA t la bl0 as sA hta (s9A _ _ (s9 _ _ hla8)) (Paired.imp (fun _ _ e => s9A _ _ (s9 _ _ e)) hT8) (s9A _ _ hbl)
end
end W
end
section
set_option Elab.async false
set_option linter.all false
set_option maxRecDepth 100000
set_option maxHeartbeats 4000000
namespace W
open PySem PySem.Spec PyProof.Rows L2
open SR (Mach)
abbrev N_MadeRule___init__ : List Str := ["self", "rows", "flags"]
theorem sc_MadeRule___init__ : FnScope N_MadeRule___init__ ["self", "rows", "flags"] (defScope (inClass (topS 61) 0)) := ⟨rfl, rfl, rfl, by decide +kernel, rfl, by decide +kernel, by decide +kernel⟩
abbrev N_Rule_named : List Str := ["name", "bound", "rows", "flags", "worse", "state"]
theorem sc_Rule_named : FnScope N_Rule_named ["name", "bound"] (defScope (inClass (topS 60) 1)) := ⟨rfl, rfl, rfl, by decide +kernel, rfl, by decide +kernel, by decide +kernel⟩
def spMade (K : PySem.W.Frag) (C : Addr) : Sp := fun vs H Q _ => ∃ (x dx rt fl : Addr) (rows : List (List Nat)) (flags : List Bool) (M : Mach), vs = [.ref x, .ref rt, .ref fl] ∧ H x = some (.ins C dx []) ∧ RowsK K rt rows ∧ H fl = some (.lst (bls flags)) ∧ Least rows flags M ∧
  ∀ H' : Hp, SameX x H H' → RuleAt C H' x M → Q .non H'
/-! ### C.m(..), m a staticmethod -/
structure Sm (K : PySem.W.Frag) (mg : Str → Option Value) (cn m qual : Str) (st : Stmt) (kws : List (Str × V)) : Prop where
  ex : ∃ (C p f : Addr) (fd : FuncData) (rest : List Value), mg cn = some (.ref C) ∧ ClX.CRead K C (.type "type") ∧ PySem.W.findCls K (.ref C) (.type "type") m = some (.get (.builtin "staticmethod.__get__") (.ref p) .none (.ref C)) ∧ PySem.W.recIn K p "staticmethod" = some (.ref f :: rest) ∧
    FunD K m qual (defArgs st) (defBody st) (defScope st) [] kws f fd
structure SmB (P : Program) (w : World) (K : PySem.W.Frag) (mg : Str → Option Value) (base : Heap) (k : Nat) (cn m : Str) (ps : List Str) (dvs : List V) (sp : Sp) : Prop where
  ex : ∃ (C p f : Addr) (fd : FuncData) (rest ds : List Value), mg cn = some (.ref C) ∧ ClX.CRead K C (.type "type") ∧ PySem.W.findCls K (.ref C) (.type "type") m = some (.get (.builtin "staticmethod.__get__") (.ref p) .none (.ref C)) ∧ PySem.W.recIn K p "staticmethod" = some (.ref f :: rest) ∧
    FnOk P w K mg base CX0 k f fd ps sp ∧ PySem.W.keepIn K (.ref f) = true ∧ Binds K fd ps ds ∧ Vals dvs ds
theorem pe_sm {X : Cx} {k : Nat} {cn m : Str} {ps : List Str} {dvs : List V} {sp : Sp} {E : XK} {p1 apos pos : Pos} {e : Expr} {es : List Expr} {t : TA} {pl : Sem Bool} (F : SmB X.prog X.w X.K X.mg X.base k cn m ps dvs sp) (hr : Room k X.A) (hx : Passes CX0 X E) (ha : PA X (e :: es) t) (hg : Gl X cn := by rfl) (hdb : (cn == ("__debug__" : Str)) = false := by decide)
    (hst : starEach (e :: es) X.env = (false, eval e X.env) :: starEach es X.env := by rfl) (hpl : (backTo pos (starEach es X.env)).any (·.1) = false := by rfl)
    (ht : eval (.Call (.Attribute (.Name cn p1) m apos) (e :: es) [] pos) X.env = (do
      let ov ← eval (.Name cn p1) X.env
      standAt apos.atName
      let (f, first) ← holding [ov] (getMethod ov m pl)
      callWith pos f first (backTo pos (starEach (e :: es) X.env)) (backToKw pos (keywordEach [] X.env))) := by rfl) :
    PE X (.Call (.Attribute (.Name cn p1) m apos) (e :: es) [] pos) (tCall sp dvs E t) := by
  obtain ⟨C, p, f, fd, rest, ds, hm, r, hf, hrec, F, hk, hb, hd⟩ := F.ex
  refine ⟨fun pins s σ H Q I h => ?_⟩
  refine PySem.W.methodCall_KW (pl := pl) (ld_glob I hg hm ?_ hdb) ht
  refine PySem.W.method_cls I.kIn r.ga (PySem.W.cls_bind I.kIn r.rd hf (wpAny_call (PySem.W.sm_get (s := { s with toks := s.toks + 1 }) I.kIn hrec (PySem.W.handed_on rfl ?_))))
  refine PySem.W.callWith_K (h₀ := X.base) (first := []) I.ok.mod.kin hk (thn (ha.run pos pins _ σ H _ (I.tok _) h) fun us s1 ⟨vs, H1, I1, r1, q⟩ => ⟨I1.kIn, ?_⟩) hst hpl
  exact run_fn F hr hb hd hx I1 r1 q
/-- what the text holds of a name's machine -/
structure Nmd (K : PySem.W.Frag) (w : World) (ND : Addr) (name : Str) (M : Mach) : Prop where
  ex : ∃ (pr rt wt : Addr) (rows : List (List Nat)) (worse : List Nat), KDct K w ND name (.ref pr) ∧ (∀ H, SqT K H pr [.ref rt, .ref wt]) ∧ RowsK K rt rows ∧ (∀ H, SqT K H wt (nl worse)) ∧ rows.length ≤ 100 ∧ Least rows ((List.range rows.length).map fun s => decide (s ∈ worse)) M
structure NmC (K : PySem.W.Frag) (w : World) (mg : Str → Option Value) (NA ND : Addr) : Prop where
  mNA : mg "NAMES" = some (.ref NA)
  mND : mg "NAMED" = some (.ref ND)
  na : ∀ H, SqT K H NA (([("any" : Str), "some", "single", "first", "last", "early", "late", "within", "count"] : List Str).map V.str)
def spNamed (K : PySem.W.Frag) (w : World) (C ND : Addr) : Sp := fun vs H Q _ => ∃ (name : Str) (M : Mach), vs = [.str name, .non] ∧ inV (.str name) (([("any" : Str), "some", "single", "first", "last", "early", "late", "within", "count"] : List Str).map V.str) = true ∧ name ≠ "count" ∧ Nmd K w ND name M ∧
  ∀ (H' : Hp) (r : Addr), Same H H' → H r = none → RuleAt C H' r M → Q (.ref r) H'
section
variable {P : Program} {w : World} {K : PySem.W.Frag} {mg : Str → Option Value} {base : Heap} {C NA ND : Addr}
theorem ok_MadeRule (T : Bl mg) (RC : RuleC K C) (D : Di K mg "MadeRule" C "MadeRule.__init__" (inClass (topS 61) 0)) (FL : FnB P w K mg base CX0 2 "least_machine" ["rows", "flags"] [] (spLeast K)) : MkB P w K mg base CX0 3 "MadeRule" C ["self", "rows", "flags"] (spMade K C) := by
  refine D.ok sc_MadeRule___init__ (fun vs H Q E h => ?_) (fun _ _ _ _ _ _ us hl => match us, hl with | [_, _, _], _ => rfl) (fun f cdv A outer s H vs Q E hr h => ?_)
  · obtain ⟨x, dx, rt, fl, rows, flags, M, rfl, _⟩ := h
    rfl
  · obtain ⟨x, dx, rt, fl, rows, flags, M, rfl, hx, hR, hfl, hL, q⟩ := h
    refine ⟨_, (pss_one (ps_asg (pe_fn FL hr pass0 (pa_cons (pv 1) (pa_cons (pv 2) pa_nil))) (pg_tup rfl (pgs_cons (pg_fld (pv 0)) (pgs_cons (pg_fld (pv 0)) pgs_nil))))), ?_⟩
    refine ⟨_, rfl, _, rfl, rt, fl, rows, flags, M, rfl, hR, hfl, hL, fun H1 t rl fl2 as s1 ht hrl hT hf2 => ?_⟩
    have hx1 := s1 _ _ hx
    refine ⟨t, _, rfl, SqT.of ht, rfl, _, _, rfl, ?_⟩
    refine ⟨_, rfl, x, C, dx, [], rfl, hx1, RC.cl, RC.nR, by decide, ?_⟩
    refine ⟨_, _, rfl, ?_⟩
    refine ⟨_, rfl, x, C, dx, _, rfl, upd_same, RC.cl, RC.nF, by show 1 < 1000; decide, ?_⟩
    refine ⟨rfl, ?_⟩
    have nl1 : rl ≠ x := ne_of hrl hx1 (fun z => nomatch z)
    have nf1 : fl2 ≠ x := ne_of hf2 hx1 (fun z => nomatch z)
    refine q _ (fun b o n e => by rw [upd_ne n, upd_ne n]; exact s1 _ _ e) ⟨dx, rl, fl2, as, ?_, ?_, ?_, ?_⟩
    · rw [upd_same]; rfl
    · rw [upd_ne nl1, upd_ne nl1]; exact hrl
    · exact Paired.imp (fun c ys (hc : H1 c = some (.tup (nl ys))) => by
        show upd _ x _ c = _
        have nc := ne_of hc hx1 (fun z => nomatch z)
        rw [upd_ne nc, upd_ne nc]
        exact hc) hT
    · rw [upd_ne nf1, upd_ne nf1]; exact hf2
theorem nl_bls {l : List Nat} {n : Nat} : True := trivial
theorem ok_named (T : Bl mg) (Z : NmC K w mg NA ND) (D : Sm K mg "Rule" "named" "Rule.named" (inClass (topS 60) 1) [("bound", .non)]) (FM : MkB P w K mg base CX0 3 "MadeRule" C ["self", "rows", "flags"] (spMade K C)) : SmB P w K mg base 5 "Rule" "named" ["name", "bound"] [.non] (spNamed K w C ND) := by
  obtain ⟨R, p, f, fd, rest, h1, h2, h3, h4, F⟩ := D.ex
  obtain ⟨ds, hv, hb⟩ := F.binds0 (ps := ["name", "bound"]) 1 (by decide) rfl (fun D doc pm an cdv ct us ks h1 h2 => by
    match us, h1, ks, h2 with
    | [a], _, [c], _ => exact ⟨_, _, _, _, _, _, rfl, rfl, rfl⟩)
  refine ⟨R, p, f, fd, rest, ds, h1, h2, h3, h4, FunD.ok F sc_Rule_named (fun vs H Q E h => ?_) (fun cdv A outer s H vs Q E hr h => ?_), F.kp, hb, hv⟩
  · obtain ⟨name, M, rfl, _⟩ := h
    rfl
  · obtain ⟨name, M, rfl, hin, hnc, ⟨pr, rt, wt, rows, worse, hkd, hpr, hR, hw, h100, hL⟩, q⟩ := h
    have B : PSs (cxOf CX0 P w K mg base N_Rule_named "Rule.named" (defScope (inClass (topS 60) 1)) f cdv A outer s H E).nox (defBody (inClass (topS 60) 1)) _ := (pss_cons (ps_if (PW.pt (pw_or (pt_not (pt_val (pe_callB call_isi (by rfl) T.b_isinstance (by decide +kernel) (pa_cons (pv 0) (pa_cons (pe_bltn (v := .ty "str") (u := .type "str") (by rfl) T.b_str (by decide +kernel) rfl) pa_nil))))) (pw_or1 (pt_cmpR op_notIn_seq (pv 0) (pe_glob (v := .ref NA) (by rfl) Z.mNA rfl) rfl)))) (pss_one ps_never) pss_nil) (pss_cons (ps_if (pt_cmpR op_eq (pv 0) pe_str (nomark _)) (pss_cons ps_never (pss_one ps_never)) pss_nil) (pss_cons (ps_if (pt_cmp (pc_notN (pv 1)) rfl) (pss_one ps_never) pss_nil) (pss_cons (ps_asg (pe_ix ix_kdict (pe_glob (v := .ref ND) (by rfl) Z.mND rfl) (pv 0) (fun _ _ => rfl)) (pg_tup rfl (pgs_cons (pg_name (i := 2) sc_Rule_named.nd rfl (Or.inl rfl)) (pgs_cons (pg_name (i := 4) sc_Rule_named.nd rfl (Or.inr rfl)) pgs_nil)))) (pss_one (ps_ret (pe_mk FM hr pass0 (pa_cons (pv 2) (pa_cons (pe_lc (own := [("state", 5)]) rfl sc_Rule_named.nd (pi_range1 (by rfl) T.b_range (pa_cons (pe_callB call_len_seq (by rfl) T.b_len PySem.boot_len (pa_cons (pv 2) pa_nil)) pa_nil)) (blkOk_by (own := [("state", 5)]) (N := N_Rule_named) (sc := defScope (inClass (topS 60) 1)) (by decide +kernel)) (fun _ _ _ _ _ => (pg_name (i := 5) sc_Rule_named.nd rfl (Or.inl rfl))) (fun _ _ _ _ _ => pts_nil) (fun _ _ _ _ _ => (pe_cmpR (op_inK K) (pv 5) (pv 4) rfl))) pa_nil)))))))))
    refine ⟨_, B.nox, ?_⟩
    refine ⟨_, rfl, _, _, _, _, true, rfl, .ty "str", .base (.str name), kit_ty (by decide +kernel), true, rfl, iteF ?_⟩
    refine ⟨_, rfl, NA, _, rfl, .inr (Z.na H), rfl, rfl, _, rfl, ?_⟩
    rw [if_pos rfl, hin]
    refine iteF ?_
    refine ⟨_, rfl, rfl, _, rfl, ?_⟩
    have hn2 : decide (V.str name = V.str "count") = false := decide_eq_false fun z => hnc (V.str.inj z)
    rw [hn2]
    refine iteF ?_
    refine ⟨_, rfl, _, rfl, iteF ?_⟩
    refine ⟨_, rfl, ND, name, .ref pr, rfl, rfl, hkd, ?_⟩
    refine ⟨pr, _, rfl, hpr H, rfl, _, _, rfl, ?_⟩
    refine ⟨_, _, rfl, ?_⟩
    refine ⟨rfl, ?_⟩
    obtain ⟨as, hR1, hR2⟩ := id hR
    have hal : as.length = rows.length := Paired.length hR2
    refine ⟨_, rfl, ?_⟩
    refine ⟨_, rfl, rt, _, rfl, .inr (hR1 H), ?_⟩
    have hrl : (refs as).length = rows.length := by rw [refs_length, hal]
    refine ⟨_, rfl, by rw [hrl]; omega, by rw [hrl]; omega, fun D nD => ?_⟩
    refine lc_range (lo := 0) (n := ((((refs as).length : Nat) : Int)).toNat) (H1 := H) (D := D) (fun i H1 => Same H H1 ∧ H1 D = some (.lst (bls ((List.range i).map fun s => decide (s ∈ worse))))) ⟨same_upd nD, upd_same⟩ ?_ ?_
    · rintro i H1 hi ⟨s1, hD⟩
      refine ⟨rfl, ?_⟩
      refine ⟨_, rfl, _, rfl, wt, _, rfl, .inr (hw _), rfl, nl_flat _, ?_⟩
      rw [if_neg (by decide), Int.zero_add, nl_in]
      refine ⟨_, hD, ?_, ?_, ?_⟩
      · unfold bls
        rw [List.length_map, List.length_map, List.length_range]
        have h2 : i < (((refs as).length : Nat) : Int).toNat := hi
        rw [hrl] at h2
        exact line_lt (by omega)
      · exact fun b o e => by rw [upd_ne (ne_of_none e nD)]; exact s1 _ _ e
      · rw [upd_same, List.range_succ, List.map_append]
        unfold bls
        rw [List.map_append]
        rfl
    rintro H1 ⟨s1, hD⟩
    have htn : (((refs as).length : Nat) : Int).toNat = rows.length := by rw [hrl]; omega
    rw [htn] at hD
    intro x dx hx hdx n
    obtain ⟨H2, e2, s2, s12, hx2, hdx2, x0⟩ := made_as (C := C) s1 hx hdx n
    rw [← e2]
    clear e2
    refine ⟨x, dx, rt, D, rows, _, M, rfl, hx2, hR, s12 _ _ hD, hL, fun H3 s23 hr3 => ⟨rfl, ?_⟩⟩
    exact q H3 x (fun b o e => s23 _ _ (ne_of_none e x0) (s2 _ _ e)) x0 hr3
end
end W
end
section
set_option Elab.async false
set_option linter.all false
set_option maxRecDepth 100000
set_option maxHeartbeats 4000000
namespace W
open PySem PySem.Spec PyProof.Rows L2
open SR (Mach)
instance (rows : List (List Nat)) (p : Nat) : Decidable (RStop rows p) := decidable_of_iff (p ≤ 100 ∧ ¬ p < (rOut rows p).2.length ∧ ∀ q, q < p → q < (rOut rows q).2.length ∧ (rOut rows q).2.length ≤ 100 ∧ (rOut rows q).2.getD q 0 < rows.length ∧ (rows.getD ((rOut rows q).2.getD q 0) []).length ≤ 4)
  ⟨fun ⟨a, b, c⟩ => ⟨a, b, c⟩, fun ⟨a, b, c⟩ => ⟨a, b, c⟩⟩
instance (rows : List (List Nat)) (flags : List Bool) (states : List Nat) : Decidable (Closed rows flags states) := decidable_of_iff (states.Nodup ∧ states.length ≤ 100 ∧ ∀ s ∈ states, s < rows.length ∧ s < flags.length ∧ (rows.getD s []).length ≤ 4 ∧ ∀ l ∈ rows.getD s [], l ∈ states)
  ⟨fun ⟨a, b, c⟩ => ⟨a, b, c⟩, fun ⟨a, b, c⟩ => ⟨a, b, c⟩⟩
instance (rows : List (List Nat)) (flags : List Bool) (states : List Nat) (q : Nat) : Decidable (CStop rows flags states q) := decidable_of_iff (q ≤ 100 ∧ ¬ mny rows flags states q < dvN (kOut rows flags states q) ∧ ∀ i, i < q → mny rows flags states i < dvN (kOut rows flags states i) ∧ dvN (kOut rows flags states i) ≤ 100)
  ⟨fun ⟨a, b, c⟩ => ⟨a, b, c⟩, fun ⟨a, b, c⟩ => ⟨a, b, c⟩⟩
instance (rows : List (List Nat)) (flags : List Bool) (states : List Nat) (kd ch : List (Nat × Nat)) (p : Nat) : Decidable (LStop rows flags states kd ch p) := decidable_of_iff (p ≤ 100 ∧ 0 ∈ states ∧ ¬ p < (lOut rows kd ch p).1.2.length ∧ (∀ q, q < p → q < (lOut rows kd ch q).1.2.length ∧ (lOut rows kd ch q).1.2.length ≤ 100 ∧ (lOut rows kd ch q).1.2.getD q 0 ∈ ch.map Prod.fst ∧ look ch ((lOut rows kd ch q).1.2.getD q 0) < rows.length ∧ (rows.getD (look ch ((lOut rows kd ch q).1.2.getD q 0)) []).length ≤ 4 ∧
    ∀ l ∈ rows.getD (look ch ((lOut rows kd ch q).1.2.getD q 0)) [], l ∈ states) ∧ ∀ k ∈ (lOut rows kd ch p).1.2, k ∈ ch.map Prod.fst ∧ look ch k < flags.length)
  ⟨fun ⟨a, b, c, d, e⟩ => ⟨a, b, c, d, e⟩, fun ⟨a, b, c, d, e⟩ => ⟨a, b, c, d, e⟩⟩
/-- a machine is least already, its states in the order in which they are met -/
def leastB (rows : List (List Nat)) (flags : List Bool) (M : Mach) (p1 q p2 : Nat) : Bool :=
  decide (RStop rows p1) && decide (Closed rows flags (rOut rows p1).2) && decide (CStop rows flags (rOut rows p1).2 q) && decide (LStop rows flags (rOut rows p1).2 (kOut rows flags (rOut rows p1).2 q) (chOf (kOut rows flags (rOut rows p1).2 q) (rOut rows p1).2) p2) &&
  decide (M.rows = (lOut rows (kOut rows flags (rOut rows p1).2 q) (chOf (kOut rows flags (rOut rows p1).2 q) (rOut rows p1).2) p2).2) &&
  decide (M.flags = (lOut rows (kOut rows flags (rOut rows p1).2 q) (chOf (kOut rows flags (rOut rows p1).2 q) (rOut rows p1).2) p2).1.2.map fun k => flags.getD (look (chOf (kOut rows flags (rOut rows p1).2 q) (rOut rows p1).2) k) false)
theorem leastB_ok {rows : List (List Nat)} {flags : List Bool} {M : Mach} {p1 q p2 : Nat} (h : leastB rows flags M p1 q p2 = true) : Least rows flags M := by
  unfold leastB at h
  simp only [Bool.and_eq_true, decide_eq_true_iff] at h
  obtain ⟨⟨⟨⟨⟨a, b⟩, c⟩, d⟩, e⟩, f⟩ := h
  exact ⟨p1, q, p2, a, b, c, d, e, f⟩
/-- the six names, their text, their machines -/
def nameRows : Str → List (List Nat) × List Nat := fun s => if s = "any" then ([[0, 0, 0, 0]], []) else if s = "some" then ([[0, 1, 2, 1], [1, 1, 1, 1], [2, 1, 2, 1]], [2]) else if s = "first" then ([[0, 1, 2, 1], [1, 1, 1, 1], [2, 2, 2, 2]], [2]) else
  if s = "last" then ([[0, 0, 1, 0], [1, 0, 1, 0]], [1]) else if s = "early" then ([[0, 1, 2, 0], [1, 1, 1, 1], [2, 2, 2, 2]], [2]) else ([[0, 0, 1, 0], [1, 0, 1, 1]], [1])
def flagsOf (p : List (List Nat) × List Nat) : List Bool := (List.range p.1.length).map fun s => decide (s ∈ p.2)
theorem least_any : Least [[0, 0, 0, 0]] (flagsOf ([[0, 0, 0, 0]], [])) SR.mAny := leastB_ok (p1 := 1) (q := 1) (p2 := 1) (by decide +kernel)
theorem least_some : Least [[0, 1, 2, 1], [1, 1, 1, 1], [2, 1, 2, 1]] (flagsOf ([[0, 1, 2, 1], [1, 1, 1, 1], [2, 1, 2, 1]], [2])) SR.mSome := leastB_ok (p1 := 3) (q := 2) (p2 := 3) (by decide +kernel)
theorem least_first : Least [[0, 1, 2, 1], [1, 1, 1, 1], [2, 2, 2, 2]] (flagsOf ([[0, 1, 2, 1], [1, 1, 1, 1], [2, 2, 2, 2]], [2])) SR.mFirst := leastB_ok (p1 := 3) (q := 2) (p2 := 3) (by decide +kernel)
theorem least_last : Least [[0, 0, 1, 0], [1, 0, 1, 0]] (flagsOf ([[0, 0, 1, 0], [1, 0, 1, 0]], [1])) SR.mLast := leastB_ok (p1 := 2) (q := 1) (p2 := 2) (by decide +kernel)
theorem least_early : Least [[0, 1, 2, 0], [1, 1, 1, 1], [2, 2, 2, 2]] (flagsOf ([[0, 1, 2, 0], [1, 1, 1, 1], [2, 2, 2, 2]], [2])) SR.mEarly := leastB_ok (p1 := 3) (q := 2) (p2 := 3) (by decide +kernel)
theorem least_late : Least [[0, 0, 1, 0], [1, 0, 1, 1]] (flagsOf ([[0, 0, 1, 0], [1, 0, 1, 1]], [1])) SR.mLate := leastB_ok (p1 := 2) (q := 1) (p2 := 2) (by decide +kernel)
end W
end
section
set_option Elab.async false
set_option linter.all false
set_option maxRecDepth 100000
set_option maxHeartbeats 4000000
namespace W
open PySem PySem.Spec PyProof.Rows L2
/-! ### lists of ints, one before another -/
def cmpL (r : Int → Int → Bool) (z : Nat → Nat → Bool) (ns ms : List Int) : Bool := SeqAt.firstLt (fun j => decide (ns.getD j 0 = ms.getD j 0)) (fun j => r (ns.getD j 0) (ms.getD j 0)) (z ns.length ms.length) (List.range (min ns.length ms.length))
def geL : List Int → List Int → Bool := cmpL (fun a b => decide (b ≤ a)) (fun n m => decide (n ≥ m))
def gtL : List Int → List Int → Bool := cmpL (fun a b => decide (b < a)) (fun n m => decide (n > m))
def rCmpL (K : PySem.W.Frag) (g : List Int → List Int → Bool) : R2 := fun x y H Q => ∃ (a b : Addr) (ns ms : List Int), x = .ref a ∧ y = .ref b ∧ SqL K H a (ns.map V.int) ∧ SqL K H b (ms.map V.int) ∧ Q (.bl (g ns ms)) H
section
variable {X : Cx} {pins : List (Addr × Obj)} {σ : L2.St} {H : Hp} {s : Shared}
theorem ints_at {a : Addr} {ns : List Int} (I : Inv X pins σ H s) (h : SqL X.K H a (ns.map V.int)) : ∃ its : Array Value, s.heap.IsList a its ∧ its.size = ns.length ∧ ∀ j (h1 : j < its.size), ∃ t, its[j] = .int (ns.getD j 0) t := by
  obtain ⟨its, r1, p1, _⟩ := I.list h
  have i1 : IntsAre its ns := Vals.ints r1
  exact ⟨its.toArray, p1.isList, by rw [List.size_toArray]; exact i1.length, fun j h1 => PyProof.Rows.IntsAre.int_at i1 _ _ (by simp at h1; simp [h1])⟩
theorem eqD (a b : Int) : (a == b) = decide (a = b) := by
  by_cases q : a = b
  · rw [decide_eq_true q]; exact beq_iff_eq.mpr q
  · rw [decide_eq_false q]; exact beq_eq_false_iff_ne.mpr q
end
theorem op_geL {X : Cx} (hu : X.A.units < cLine) : OpR X (compareOp .GtE) (rCmpL X.K geL) := by
  intro pins s σ H x y v u Q I rx ry h
  obtain ⟨a, b, ns, ms, rfl, rfl, ha, hb, q⟩ := h
  cases rx
  cases ry
  obtain ⟨its, p1, e1, at1⟩ := ints_at I ha
  obtain ⟨its2, p2, e2, at2⟩ := ints_at I hb
  have R := SeqAt.RcOp.lists_ge (A := X.A) (s := s) (e := fun j => decide (ns.getD j 0 = ms.getD j 0)) (r := fun j => decide (ms.getD j 0 ≤ ns.getD j 0)) p1 p2 hu (fun j h1 h2 => by
    obtain ⟨t, et⟩ := at1 j h1
    obtain ⟨t', et'⟩ := at2 j h2
    rw [et, et', ← eqD]
    exact SeqAt.EqAt.int_int _ _ _ _) (fun j h1 h2 _ => by
    obtain ⟨t, et⟩ := at1 j h1
    obtain ⟨t', et'⟩ := at2 j h2
    rw [et, et']
    exact fun _ _ _ _ h => PyProof.Rows.ge_int h)
  rw [e1, e2] at R
  exact R X.prog X.w X.xe (EP X pins σ Q) ⟨.bl _, H, I, rfl, q⟩
theorem op_gtL {X : Cx} (hu : X.A.units < cLine) : OpR X (compareOp .Gt) (rCmpL X.K gtL) := by
  intro pins s σ H x y v u Q I rx ry h
  obtain ⟨a, b, ns, ms, rfl, rfl, ha, hb, q⟩ := h
  cases rx
  cases ry
  obtain ⟨its, p1, e1, at1⟩ := ints_at I ha
  obtain ⟨its2, p2, e2, at2⟩ := ints_at I hb
  have R := SeqAt.RcOp.lists_gt (A := X.A) (s := s) (e := fun j => decide (ns.getD j 0 = ms.getD j 0)) (r := fun j => decide (ms.getD j 0 < ns.getD j 0)) p1 p2 hu (fun j h1 h2 => by
    obtain ⟨t, et⟩ := at1 j h1
    obtain ⟨t', et'⟩ := at2 j h2
    rw [et, et', ← eqD]
    exact SeqAt.EqAt.int_int _ _ _ _) (fun j h1 h2 _ => by
    obtain ⟨t, et⟩ := at1 j h1
    obtain ⟨t', et'⟩ := at2 j h2
    rw [et, et']
    exact fun _ _ _ _ h => PyProof.Rows.gt_int h)
  rw [e1, e2] at R
  exact R X.prog X.w X.xe (EP X pins σ Q) ⟨.bl _, H, I, rfl, q⟩
theorem firstLt_at {e r : Nat → Bool} {fin : Bool} : ∀ (n i j : Nat), i ≤ j → j < i + n → (∀ k, i ≤ k → k < j → e k = true) → e j = false → SeqAt.firstLt e r fin (List.range' i n) = r j
  | 0, i, j, h1, h2, _, _ => by omega
  | n + 1, i, j, h1, h2, h3, h4 => by
    rw [List.range'_succ]
    by_cases c : i = j
    · subst c
      exact SeqAt.firstLt_no h4
    · rw [SeqAt.firstLt_yes (h3 i (Nat.le_refl _) (by omega))]
      exact firstLt_at n (i + 1) j (by omega) (by omega) (fun k hk => h3 k (by omega)) h4
theorem firstLt_all {e r : Nat → Bool} {fin : Bool} : ∀ (n i : Nat), (∀ k, i ≤ k → k < i + n → e k = true) → SeqAt.firstLt e r fin (List.range' i n) = fin
  | 0, _, _ => rfl
  | n + 1, i, h => by
    rw [List.range'_succ, SeqAt.firstLt_yes (h i (Nat.le_refl _) (by omega))]
    exact firstLt_all n (i + 1) fun k h1 h2 => h k (by omega) (by omega)
abbrev casts (l : List Nat) : List Int := l.map fun n : Nat => (n : Int)
theorem casts_getD (l : List Nat) (j : Nat) : (casts l).getD j 0 = ((l.getD j 0 : Nat) : Int) := by
  rw [List.getD_eq_getElem?_getD, List.getD_eq_getElem?_getD, List.getElem?_map]
  cases l[j]? <;> rfl
theorem lex_split : ∀ {a b : List Nat}, SR.lexLt a b → a.length = b.length → ∃ j, j < a.length ∧ (∀ k, k < j → a.getD k 0 = b.getD k 0) ∧ a.getD j 0 < b.getD j 0
  | [], [], h, _ => h.elim
  | [], _ :: _, _, e => by simp at e
  | _ :: _, [], _, e => by simp at e
  | x :: a, y :: b, h, e => by
    rcases h with h | ⟨rfl, h⟩
    · exact ⟨0, by simp, fun k hk => absurd hk (Nat.not_lt_zero _), h⟩
    · obtain ⟨j, h1, h2, h3⟩ := lex_split h (by simpa using e)
      refine ⟨j + 1, by rw [List.length_cons]; omega, fun k hk => ?_, h3⟩
      cases k with
      | zero => rfl
      | succ k => exact h2 k (by omega)
theorem lex_ge {a b : List Nat} (h : SR.lexLt a b) (e : a.length = b.length) : geL (casts a) (casts b) = false := by
  obtain ⟨j, h1, h2, h3⟩ := lex_split h e
  unfold geL cmpL
  rw [List.range_eq_range', List.length_map, List.length_map, e, Nat.min_self, firstLt_at _ 0 j (Nat.zero_le _) (by omega) (fun k _ hk => by rw [casts_getD, casts_getD, h2 k hk]; exact decide_eq_true rfl) (by rw [casts_getD, casts_getD]; exact decide_eq_false (by omega)), casts_getD, casts_getD]
  exact decide_eq_false (by omega)
theorem lex_gt {a b : List Nat} (h : SR.lexLt a b ∨ a = b) (e : a.length = b.length) : gtL (casts a) (casts b) = false := by
  unfold gtL cmpL
  rw [List.range_eq_range', List.length_map, List.length_map, e, Nat.min_self]
  rcases h with h | rfl
  · obtain ⟨j, h1, h2, h3⟩ := lex_split h e
    rw [firstLt_at _ 0 j (Nat.zero_le _) (by omega) (fun k _ hk => by rw [casts_getD, casts_getD, h2 k hk]; exact decide_eq_true rfl) (by rw [casts_getD, casts_getD]; exact decide_eq_false (by omega)), casts_getD, casts_getD]
    exact decide_eq_false (by omega)
  · rw [firstLt_all _ 0 fun k _ _ => decide_eq_true rfl]
    exact decide_eq_false (by omega)
end W
end
section
set_option Elab.async false
set_option linter.all false
set_option maxRecDepth 100000
set_option maxHeartbeats 4000000
namespace W
open PySem PySem.Spec PyProof.Rows L2
abbrev N__law_mixed : List Str := ["_law_cell", "_law_k", "_law_number"]
theorem sc__law_mixed : FnScope N__law_mixed ["_law_cell", "_law_k"] (defScope (topS 74)) := ⟨rfl, rfl, rfl, by decide +kernel, rfl, by decide +kernel, by decide +kernel⟩
abbrev N__law_pile : List Str := ["_law_script", "_law_k", "_law_cell", "_law_great"]
theorem sc__law_pile : FnScope N__law_pile ["_law_script", "_law_k"] (defScope (topS 75)) := ⟨rfl, rfl, rfl, by decide +kernel, rfl, by decide +kernel, by decide +kernel⟩
abbrev N__law_take : List Str := ["_law_pile_here", "_law_many", "_law_digit"]
theorem sc__law_take : FnScope N__law_take ["_law_pile_here", "_law_many"] (defScope (topS 76)) := ⟨rfl, rfl, rfl, by decide +kernel, rfl, by decide +kernel, by decide +kernel⟩
abbrev N__law_order : List Str := ["_law_pile_here", "_law_many", "_law_left", "_law_found"]
theorem sc__law_order : FnScope N__law_order ["_law_pile_here", "_law_many"] (defScope (topS 77)) := ⟨rfl, rfl, rfl, by decide +kernel, rfl, by decide +kernel, by decide +kernel⟩
/-! ### numbers as data -/
def dn (l : List Nat) : List PyData := l.map fun n : Nat => PyData.int (n : Int)
theorem dp_all {K : PySem.W.Frag} {H : Hp} : ∀ l : List Nat, DpAll K H (nl l) (dn l)
  | [] => .nil
  | n :: l => .cons (.int _) (dp_all l)
theorem dp_nl {K : PySem.W.Frag} {H : Hp} {a : Addr} {l : List Nat} (h : H a = some (.lst (nl l))) : L2.Dp K H (.ref a) (.list (dn l)) := .lst (SqL.of h) (dp_all l)
theorem can_dn : ∀ l : List Nat, PyData.canLayAll0 (dn l) = true
  | [] => by rw [show dn [] = [] from rfl, PyData.canLayAll0]
  | n :: l => by rw [show dn (n :: l) = PyData.int (n : Int) :: dn l from rfl, PyData.canLayAll0, PyData.canLay0, can_dn l]; rfl
theorem depth_dn : ∀ l : List Nat, PyData.depthAll (dn l) = 0
  | [] => by rw [show dn [] = [] from rfl, PyData.depthAll]
  | n :: l => by rw [show dn (n :: l) = PyData.int (n : Int) :: dn l from rfl, PyData.depthAll, PyData.depth, depth_dn l]; rfl
theorem shaped_dn (l : List Nat) : SeqAt.shaped (.list (dn l)) = true := by
  unfold SeqAt.shaped
  rw [PyData.canLay0, can_dn, PyData.depth, depth_dn]
  rfl
theorem eqv_nil (l : List Nat) : PyData.eqv (.list (dn l)) (.list []) = l.isEmpty := by
  cases l with
  | nil => rw [show dn [] = [] from rfl, PyData.eqv, PyData.eqvAll]; rfl
  | cons n l => rw [show dn (n :: l) = PyData.int (n : Int) :: dn l from rfl, PyData.eqv, PyData.eqvAll]; rfl
theorem bit_small (b : Bool) : -(2 ^ 64) < (if b = true then (1 : Int) else 0) ∧ (if b = true then (1 : Int) else 0) < 2 ^ 64 := by cases b <;> decide
theorem nl_erase : ∀ (L : List Nat) (d : Nat), (nl L).eraseIdx d = nl (L.eraseIdx d)
  | [], _ => rfl
  | _ :: _, 0 => rfl
  | x :: L, d + 1 => congrArg (V.int (x : Int) :: ·) (nl_erase L d)
theorem erase_perm : ∀ (L : List Nat) (d : Nat) (h : d < L.length), (L[d] :: L.eraseIdx d).Perm L
  | [], _, h => absurd h (Nat.not_lt_zero _)
  | _ :: _, 0, _ => .refl _
  | x :: L, d + 1, h => (List.Perm.swap x _ _).trans ((erase_perm L d (Nat.lt_of_succ_lt_succ h)).cons x)
/-! ### the pile of numbers -/
def PileAt (H : Hp) (a : Addr) : Prop := ∃ g s c : Int, H a = some (.lst [.int g, .int s, .int c])
def spMixed : Sp := fun vs H Q _ => ∃ c k : Int, vs = [.int c, .int k] ∧ ∀ m : Int, 0 ≤ m → Q (.int m) H
def spPile (K : PySem.W.Frag) : Sp := fun vs H Q _ => ∃ (a : Addr) (ns : List Int) (k : Int), vs = [.ref a, .int k] ∧ SqL K H a (ns.map V.int) ∧ 0 ≤ k ∧ ∀ (H' : Hp) (l : Addr), Same H H' → H l = none → PileAt H' l → Q (.ref l) H'
def spTake : Sp := fun vs H Q _ => ∃ (a : Addr) (m : Nat), vs = [.ref a, .int m] ∧ PileAt H a ∧ 0 < m ∧ m ≤ 10 ^ 20 ∧ ∀ (d : Nat) (H' : Hp), d < m → SameX a H H' → (∀ b, H b = none → H' b = none) → PileAt H' a → Q (.int d) H'
def spOrd : Sp := fun vs H Q _ => ∃ (a : Addr) (m : Nat), vs = [.ref a, .int m] ∧ PileAt H a ∧ m ≤ 100 ∧ ∀ (H' : Hp) (l : Addr) (p : List Nat), p.Perm (List.range m) → SameX a H H' → PileAt H' a → H l = none → H' l = some (.lst (nl p)) → Q (.ref l) H'
section
variable {P : Program} {w : World} {K : PySem.W.Frag} {mg : Str → Option Value} {base : Heap}
theorem ok_mixed (T : Bl mg) (D : Df K mg "_law_mixed" (topS 74)) : FnB P w K mg base CX0 1 "_law_mixed" ["_law_cell", "_law_k"] [] spMixed := by
  refine D.ok sc__law_mixed (fun vs H Q E h => ?_) (fun _ _ _ _ _ _ us hl => match us, hl with | [_, _], _ => rfl) (fun f cdv A outer s H vs Q E hr h => ?_)
  · obtain ⟨c, k, rfl, _⟩ := h
    rfl
  · obtain ⟨c, k, rfl, q⟩ := h
    refine ⟨_, (pss_cons (ps_set (i := 2) sc__law_mixed.nd rfl (Or.inl rfl) (pe_op op_mod (pe_op op_add (pe_op op_add (pe_op op_mul (pe_op op_mod (pe_callTy call_int1 (by rfl) T.b_int (by decide +kernel) (pa_cons (pv 0) pa_nil)) pe_int) pe_int) (pe_op op_mul (pv 1) pe_int)) pe_int) pe_int)) (pss_cons (ps_set (i := 2) sc__law_mixed.nd rfl (Or.inl rfl) (pe_op op_mod (pe_op op_mul (pv 2) (pv 2)) pe_int)) (pss_one (ps_ret (pe_op op_fdiv (pe_op op_mod (pe_op op_mul (pv 2) (pv 2)) pe_int) pe_int))))), ?_⟩
    have m1 : (0 : Int) < 2147483647 := by decide
    have m2 : (0 : Int) < 2147483629 := by decide
    have m3 : (0 : Int) < 2147483587 := by decide
    refine ⟨_, rfl, .inl ⟨c, rfl, _, _, rfl, rfl, m1, _, _, rfl, rfl, .inr ⟨by decide, by decide⟩, _, rfl, _, _, rfl, rfl, .inr ⟨by decide, by decide⟩, _, _, rfl, rfl, _, _, rfl, rfl, _, _, rfl, rfl, m1, ?_⟩⟩
    generalize c % 2147483647 * 48271 + k * 69621 + 11 = n0
    have b1 := Int.emod_nonneg n0 (show (2147483647 : Int) ≠ 0 by decide)
    have b2 := Int.emod_lt_of_pos n0 m1
    generalize n0 % 2147483647 = n1 at b1 b2
    refine ⟨_, rfl, _, rfl, _, _, rfl, rfl, .inl ⟨by omega, by omega⟩, _, _, rfl, rfl, m2, ?_⟩
    have b3 := Int.emod_nonneg (n1 * n1) (show (2147483629 : Int) ≠ 0 by decide)
    have b4 := Int.emod_lt_of_pos (n1 * n1) m2
    generalize n1 * n1 % 2147483629 = n2 at b3 b4
    refine ⟨_, rfl, _, rfl, _, _, rfl, rfl, .inl ⟨by omega, by omega⟩, _, _, rfl, rfl, m3, _, _, rfl, rfl, ⟨by decide, by decide⟩, ?_⟩
    exact q _ (Int.ediv_nonneg (Int.emod_nonneg _ (by decide)) (by decide))
theorem ok_pile (T : Bl mg) (D : Df K mg "_law_pile" (topS 75)) : FnB P w K mg base CX0 1 "_law_pile" ["_law_script", "_law_k"] [] (spPile K) := by
  refine D.ok sc__law_pile (fun vs H Q E h => ?_) (fun _ _ _ _ _ _ us hl => match us, hl with | [_, _], _ => rfl) (fun f cdv A outer s H vs Q E hr h => ?_)
  · obtain ⟨a, ns, k, rfl, _⟩ := h
    rfl
  · obtain ⟨a, ns, k, rfl, hS, hk, q⟩ := h
    refine ⟨_, (pss_cons (ps_set (i := 2) sc__law_pile.nd rfl (Or.inl rfl) pe_int) (pss_cons (ps_if (pt_cmpR op_lt (pv 1) (pe_callB call_len_seq (by rfl) T.b_len PySem.boot_len (pa_cons (pv 0) pa_nil)) (nomark _)) (pss_one (ps_set (i := 2) sc__law_pile.nd rfl (Or.inl rfl) (pe_ix ix_list (pv 0) (pv 1) (fun _ _ => rfl)))) pss_nil) (pss_cons (ps_set (i := 3) sc__law_pile.nd rfl (Or.inl rfl) (pe_op op_mod (pe_callTy call_int1 (by rfl) T.b_int (by decide +kernel) (pa_cons (pv 2) pa_nil)) (pe_op op_mulW (pe_op op_mulW (pe_op op_pow pe_int pe_int) (pe_op op_pow pe_int pe_int)) (pe_op op_pow pe_int pe_int)))) (pss_one (ps_ret (pe_lst (pa_cons (pe_op op_mul (pv 3) (pe_callTy call_int1 (by rfl) T.b_int (by decide +kernel) (pa_cons (pe_cmpR op_ge (pe_callB call_abs (by rfl) T.b_abs (by decide +kernel) (pa_cons (pv 2) pa_nil)) (pe_op op_pow pe_int pe_int) (nomark _)) pa_nil))) (pa_cons (pe_op op_mod (pe_callTy call_int1 (by rfl) T.b_int (by decide +kernel) (pa_cons (pv 2) pa_nil)) pe_int) (pa_cons (pe_op op_mul pe_int (pv 1)) pa_nil))))))))), ?_⟩
    have cp : CPow 10 50 := ⟨by decide, by decide, by decide⟩
    have cp2 : CPow 10 18 := ⟨by decide, by decide, by decide⟩
    have m0 : (0 : Int) < 10 ^ (50 : Int).toNat * 10 ^ (50 : Int).toNat * 10 ^ (50 : Int).toNat := by decide +kernel
    have m1 : (0 : Int) < 2147483647 := by decide
    have w1 : CMulW (10 ^ (50 : Int).toNat) (10 ^ (50 : Int).toNat) := by unfold CMulW; decide +kernel
    have w2 : CMulW (10 ^ (50 : Int).toNat * 10 ^ (50 : Int).toNat) (10 ^ (50 : Int).toNat) := by unfold CMulW; decide +kernel
    refine ⟨_, rfl, _, rfl, a, _, rfl, .inl hS, _, _, rfl, rfl, _, rfl, ?_⟩
    rw [List.length_map]
    by_cases c : k < (ns.length : Int)
    · rw [decide_eq_true c]
      obtain ⟨kk, rfl⟩ : ∃ kk : Nat, k = (kk : Int) := ⟨k.toNat, by omega⟩
      have hl : kk < ns.length := by omega
      refine iteT ⟨_, rfl, _, rfl, a, _, _, .int ns[kk], rfl, rfl, hS, atI_nat (by rw [List.getElem?_map, List.getElem?_eq_getElem hl]; rfl), ?_⟩
      generalize ns[kk] = cell
      refine ⟨_, rfl, .inl ⟨cell, rfl, _, _, rfl, rfl, cp, _, _, rfl, rfl, cp, _, _, rfl, rfl, w1, _, _, rfl, rfl, cp, _, _, rfl, rfl, w2, _, _, rfl, rfl, m0, ?_⟩⟩
      refine ⟨_, rfl, _, rfl, _, rfl, _, _, rfl, rfl, cp2, _, _, rfl, rfl, .inr ⟨_, rfl, _, _, rfl, rfl, ?_, _, rfl, .inl ⟨_, rfl, _, _, rfl, rfl, m1, ?_⟩⟩⟩
      · exact .inr (bit_small _)
      · refine ⟨_, rfl, _, _, rfl, rfl, .inl ⟨by decide, by decide⟩, by show 3 ≤ sizeLine; decide, fun l nl0 => ?_⟩
        exact q _ l (same_upd nl0) nl0 ⟨_, _, _, upd_same⟩
    · rw [decide_eq_false c]
      refine iteF ?_
      refine ⟨_, rfl, .inl ⟨0, rfl, _, _, rfl, rfl, cp, _, _, rfl, rfl, cp, _, _, rfl, rfl, w1, _, _, rfl, rfl, cp, _, _, rfl, rfl, w2, _, _, rfl, rfl, m0, ?_⟩⟩
      refine ⟨_, rfl, _, rfl, _, rfl, _, _, rfl, rfl, cp2, _, _, rfl, rfl, .inr ⟨_, rfl, _, _, rfl, rfl, ?_, _, rfl, .inl ⟨_, rfl, _, _, rfl, rfl, m1, ?_⟩⟩⟩
      · exact .inr (bit_small _)
      · refine ⟨_, rfl, _, _, rfl, rfl, .inl ⟨by decide, by decide⟩, by show 3 ≤ sizeLine; decide, fun l nl0 => ?_⟩
        exact q _ l (same_upd nl0) nl0 ⟨_, _, _, upd_same⟩
theorem ok_take (T : Bl mg) (D : Df K mg "_law_take" (topS 76)) (FM : FnB P w K mg base CX0 1 "_law_mixed" ["_law_cell", "_law_k"] [] spMixed) : FnB P w K mg base CX0 2 "_law_take" ["_law_pile_here", "_law_many"] [] spTake := by
  refine D.ok sc__law_take (fun vs H Q E h => ?_) (fun _ _ _ _ _ _ us hl => match us, hl with | [_, _], _ => rfl) (fun f cdv A outer s H vs Q E hr h => ?_)
  · obtain ⟨a, m, rfl, _⟩ := h
    rfl
  · obtain ⟨a, m, rfl, ⟨gg, ss, cc, ha⟩, hm, hm2, q⟩ := h
    refine ⟨_, (pss_cons (ps_if (pt_cmpR op_eq (pe_ix ix_list (pv 0) pe_int (fun _ _ => rfl)) pe_int (nomark _)) (pss_cons (ps_asg (pe_op op_add (pe_ix ix_list (pv 0) pe_int (fun _ _ => rfl)) pe_int) (pg_sub (pv 0) pe_int set_list)) (pss_one (ps_ret (pe_op op_mod (pe_fn FM hr pass0 (pa_cons (pe_ix ix_list (pv 0) pe_int (fun _ _ => rfl)) (pa_cons (pe_ix ix_list (pv 0) pe_int (fun _ _ => rfl)) pa_nil))) (pv 1))))) pss_nil) (pss_cons (ps_set (i := 2) sc__law_take.nd rfl (Or.inl rfl) (pe_op op_mod (pe_callTy call_int1 (by rfl) T.b_int (by decide +kernel) (pa_cons (pe_ix ix_list (pv 0) pe_int (fun _ _ => rfl)) pa_nil)) (pv 1))) (pss_cons (ps_asg (pe_op op_fdivW (pe_ix ix_list (pv 0) pe_int (fun _ _ => rfl)) (pv 1)) (pg_sub (pv 0) pe_int set_list)) (pss_one (ps_ret (pv 2)))))), ?_⟩
    have hm0 : (0 : Int) < (m : Int) := by omega
    have fin : ∀ (z : Int) (H' : Hp), SameX a H H' → (∀ b, H b = none → H' b = none) → PileAt H' a → Q (.int (z % (m : Int))) H' := fun z H' sx fr hp => by
      have b1 := Int.emod_nonneg z (show (m : Int) ≠ 0 by omega)
      have b2 := Int.emod_lt_of_pos z hm0
      have := q (z % (m : Int)).toNat H' (by omega) sx fr hp
      rw [Int.toNat_of_nonneg b1] at this
      exact this
    have kp : ∀ {o : HO}, SameX a H (upd H a o) := fun {o} b u n e => by rw [upd_ne n]; exact e
    have fr : ∀ {o : HO} (b : Addr), H b = none → upd H a o b = none := fun {o} b e => by
      have : b ≠ a := fun z => by rw [z, ha] at e; cases e
      rw [upd_ne this]
      exact e
    refine ⟨_, rfl, a, _, _, .int gg, rfl, rfl, SqL.of ha, rfl, rfl, _, rfl, ?_⟩
    by_cases c : gg = 0
    · subst c
      refine iteT ?_
      refine ⟨_, rfl, a, _, _, .int cc, rfl, rfl, SqL.of ha, rfl, _, _, rfl, rfl, _, rfl, a, _, _, 2, rfl, rfl, ha, rfl, ?_⟩
      have ha2 : upd H a (.lst ([V.int 0, .int ss, .int cc].set 2 (.int (cc + 1)))) a = some (.lst [.int 0, .int ss, .int (cc + 1)]) := upd_same
      refine ⟨_, rfl, a, _, _, .int ss, rfl, rfl, SqL.of ha2, rfl, _, rfl, a, _, _, .int (cc + 1), rfl, rfl, SqL.of ha2, rfl, ?_⟩
      refine ⟨ss, cc + 1, rfl, fun n hn => ?_⟩
      refine ⟨_, rfl, _, _, rfl, rfl, hm0, ?_⟩
      exact fin n _ kp fr ⟨_, _, _, ha2⟩
    · rw [decide_eq_false (fun z => c (V.int.inj z))]
      refine iteF ?_
      have hlog : ((m : Int).natAbs).log2 < 9000 := by
        rw [Int.natAbs_natCast]
        refine (Nat.log2_lt (by omega)).mpr (Nat.lt_of_le_of_lt hm2 ?_)
        exact Nat.lt_of_lt_of_le (show 10 ^ 20 < 2 ^ 100 by decide) (Nat.pow_le_pow_right (by decide) (by decide))
      refine ⟨_, rfl, a, _, _, .int gg, rfl, rfl, SqL.of ha, rfl, .inl ⟨gg, rfl, _, rfl, _, _, rfl, rfl, hm0, ?_⟩⟩
      refine ⟨_, rfl, a, _, _, .int gg, rfl, rfl, SqL.of ha, rfl, _, rfl, _, _, rfl, rfl, ⟨hm0, hlog⟩, _, rfl, a, _, _, 0, rfl, rfl, ha, rfl, ?_⟩
      refine ⟨_, rfl, ?_⟩
      exact fin gg _ kp fr ⟨_, _, _, upd_same⟩
theorem ok_order (T : Bl mg) (D : Df K mg "_law_order" (topS 77)) (FT : FnB P w K mg base CX0 2 "_law_take" ["_law_pile_here", "_law_many"] [] spTake) : FnB P w K mg base CX0 3 "_law_order" ["_law_pile_here", "_law_many"] [] spOrd := by
  refine D.ok sc__law_order (fun vs H Q E h => ?_) (fun _ _ _ _ _ _ us hl => match us, hl with | [_, _], _ => rfl) (fun f cdv A outer s H vs Q E hr h => ?_)
  · obtain ⟨a, m, rfl, _⟩ := h
    rfl
  · obtain ⟨a, m, rfl, hp, hm, q⟩ := h
    refine ⟨_, (pss_cons (ps_set (i := 2) sc__law_order.nd rfl (Or.inl rfl) (pe_listRg rfl (by rfl) T.b_list (prg_1 (by rfl) T.b_range (pv 1)))) (pss_cons (ps_set (i := 3) sc__law_order.nd rfl (Or.inl rfl) (pe_lst pa_nil)) (pss_cons (ps_while PassesOwn.never (pt_cmpR (op_neD hr.units) (pv 2) (pe_lst pa_nil) (nomark _)) (pss_one (ps_expr (pe_bm PySem.F.plainAttrs_list PySem.F.slot_list_append PySem.F.type_list_append mt_append (pv 3) (pa_cons (pe_bm PySem.F.plainAttrs_list PySem.F.slot_list_pop PySem.F.type_list_pop mt_popAt (pv 2) (pa_cons (pe_fn FT (hr.mono (by decide)) pass0 (pa_cons (pv 0) (pa_cons (pe_callB call_len_seq (by rfl) T.b_len PySem.boot_len (pa_cons (pv 2) pa_nil)) pa_nil))) pa_nil)) pa_nil))))) (pss_one (ps_ret (pv 3)))))), ?_⟩
    refine ⟨_, rfl, m, rfl, .of_le (Int.le_refl _) (by omega) (by omega) (by omega), fun l nl0 => ?_⟩
    obtain ⟨H1, e1, _, s1, hl1, _⟩ := new_as (o := .lst (rgV 0 (m : Int))) (Same.refl H) nl0
    rw [← e1]
    clear e1
    rw [rgV_nl] at hl1
    refine ⟨Nat.zero_le _, fun fo nfo => ?_⟩
    obtain ⟨H2, e2, s2, s12, hfo2, fo0⟩ := new_as (o := .lst []) s1 nfo
    rw [← e2]
    clear e2
    obtain ⟨gg, ss, cc, ha⟩ := id hp
    have nal : a ≠ l := ne_of_none ha nl0
    have naf : a ≠ fo := ne_of_none ha fo0
    have nlf : l ≠ fo := ne_of_none hl1 nfo
    refine ⟨fun k σ H3 => ∃ L F : List Nat, k = L.length ∧ σ = [some (.ref a), some (.int (m : Int)), some (.ref l), some (.ref fo)] ∧ (F ++ L).Perm (List.range m) ∧ SameX a H H3 ∧ PileAt H3 a ∧ H3 l = some (.lst (nl L)) ∧ H3 fo = some (.lst (nl F)),
      ⟨_, List.range m, [], rfl, rfl, .refl _, Same.x s2, ⟨gg, ss, cc, s2 _ _ ha⟩, s12 _ _ hl1, hfo2⟩, ?_⟩
    rintro k σ H3 ⟨L, F, rfl, rfl, hperm, sx, hp3, hl3, hf3⟩
    have hlen := hperm.length_eq
    rw [List.length_append, List.length_range] at hlen
    refine ⟨_, rfl, Nat.zero_le _, fun z nz => ?_⟩
    obtain ⟨H4, e4, _, s34, hz, _⟩ := new_as (o := .lst []) (Same.refl H3) nz
    rw [← e4]
    clear e4
    obtain ⟨g3, c3, k3, ha3⟩ := id hp3
    have ha4 := s34 _ _ ha3
    have hl4 := s34 _ _ hl3
    have hf4 := s34 _ _ hf3
    refine ⟨_, _, dp_nl hl4, .lst (SqL.of hz) .nil, shaped_dn L, shaped_dn [], _, rfl, ?_⟩
    rw [eqv_nil]
    cases L with
    | nil =>
      refine iteF ⟨_, rfl, ?_⟩
      rw [List.append_nil] at hperm
      exact q H4 fo F hperm (fun b o n e => s34 _ _ (sx _ _ n e)) ⟨_, _, _, ha4⟩ fo0 hf4
    | cons v0 L0 =>
      refine iteT ⟨fun σ' H' => ∃ m', m' < (v0 :: L0).length ∧ ∃ L F : List Nat, m' = L.length ∧ σ' = [some (.ref a), some (.int (m : Int)), some (.ref l), some (.ref fo)] ∧ (F ++ L).Perm (List.range m) ∧ SameX a H H' ∧ PileAt H' a ∧ H' l = some (.lst (nl L)) ∧ H' fo = some (.lst (nl F)), fun σ' H' h => h, ?_⟩
      generalize hL : v0 :: L0 = L at hperm hl4 hlen hl3
      have hL1 : 0 < L.length := by rw [← hL]; exact Nat.zero_lt_succ _
      refine ⟨_, rfl, .inl ⟨rfl, _, SqL.of hf4⟩, _, rfl, .inl ⟨rfl, _, SqL.of hl4⟩, _, rfl, _, rfl, l, _, rfl, .inl (SqL.of hl4), a, L.length, by rw [nl_length]; rfl, ⟨_, _, _, ha4⟩, hL1, Nat.le_trans (show L.length ≤ 100 by omega) (by decide), fun d H5 hd sx5 fr5 hp5 => ?_⟩
      have hl5 := sx5 _ _ (Ne.symm nal) hl4
      have hf5 := sx5 _ _ (Ne.symm naf) hf4
      have hLd : (nl L)[d]? = some (.int (L[d] : Int)) := nl_at (List.getElem?_eq_getElem hd)
      refine ⟨l, _, (d : Int), d, .int (L[d] : Int), rfl, rfl, hl5, by omega, by omega, ?_, hLd, ?_⟩
      · rw [nl_length]
        refine (ixN_seq (n := L.length) (i := (d : Int)) (j := d) ?_).1
        unfold ixN
        rw [if_pos (by omega), if_pos (by omega)]
        rfl
      have e5 : (nl L).eraseIdx d = nl (L.eraseIdx d) := nl_erase L d
      rw [e5]
      have hf6 : upd H5 l (.lst (nl (L.eraseIdx d))) fo = some (.lst (nl F)) := by rw [upd_ne (Ne.symm nlf)]; exact hf5
      refine ⟨fo, _, _, rfl, rfl, hf6, by rw [nl_length]; exact line_lt (by omega), ?_⟩
      refine ⟨(L.eraseIdx d).length, ?_, L.eraseIdx d, F ++ [L[d]], rfl, rfl, ?_, fun b o n e => ?_, ?_, ?_, ?_⟩
      · rw [List.length_eraseIdx, if_pos hd]; omega
      · refine List.Perm.trans ?_ hperm
        rw [List.append_assoc]
        refine List.Perm.append_left F ?_
        rw [List.singleton_append]
        exact erase_perm L d hd
      · rw [upd_ne (ne_of_none e fo0), upd_ne (ne_of_none e nl0)]
        exact sx5 _ _ n (s34 _ _ (sx _ _ n e))
      · obtain ⟨x1, x2, x3, hx⟩ := hp5
        exact ⟨x1, x2, x3, by rw [upd_ne naf, upd_ne nal]; exact hx⟩
      · rw [upd_ne nlf, upd_same]
      · rw [upd_same, nl_append]; rfl
end
end W
end
section
set_option Elab.async false
set_option linter.all false
set_option maxRecDepth 100000
set_option maxHeartbeats 4000000
namespace W
open PySem PySem.Spec PyProof.Rows L2
open SR (Tie nb nears turned up)
abbrev N__law_turned : List Str := ["_law_pile_here", "_law_size", "_law_links", "_law_places", "_law_found", "_law_one", "_law_other", "_law_here", "_law_there", "_law_k"]
theorem sc__law_turned : FnScope N__law_turned ["_law_pile_here", "_law_size", "_law_links"] (defScope (topS 79)) := ⟨rfl, rfl, rfl, by decide +kernel, rfl, by decide +kernel, by decide +kernel⟩
def LinkOk (n : Nat) (L : List Tie) : Prop := ∀ t ∈ L, t.1 < n ∧ t.2 < n ∧ t.1 ≠ t.2
theorem min_up (a b : Nat) : (if (b : Int) < (a : Int) then (b : Int) else (a : Int)) = ((min a b : Nat) : Int) := by
  by_cases c : (b : Int) < a
  · rw [if_pos c]; omega
  · rw [if_neg c]; omega
theorem max_up (a b : Nat) : (if (b : Int) > (a : Int) then (b : Int) else (a : Int)) = ((max a b : Nat) : Int) := by
  by_cases c : (b : Int) > a
  · rw [if_pos c]; omega
  · rw [if_neg c]; omega
theorem TiesAt.x {a : Addr} {H H' : Hp} {l : List V} (s : SameX a H H') (n : H a = some (.lst l)) {as : List Addr} {ts : List Tie} (h : TiesAt H as ts) : TiesAt H' as ts :=
  Paired.imp (fun b t e => by
    have e' : H b = some (.tup [.int (t.1 : Int), .int (t.2 : Int)]) := e
    exact s _ _ (ne_of e' n (by intro z; cases z)) e') h
theorem TiesAt.length {H : Hp} {as : List Addr} {ts : List Tie} (h : TiesAt H as ts) : as.length = ts.length := Paired.length h
theorem refs_snoc (as : List Addr) (a : Addr) : refs as ++ [.ref a] = refs (as ++ [a]) := by unfold refs; rw [List.map_append]; rfl
theorem refs_at {as : List Addr} {i : Nat} {a : Addr} (h : as[i]? = some a) : (refs as)[i]? = some (.ref a) := by
  unfold refs
  rw [List.getElem?_map, h]
  rfl
/-- some of a list, by their places -/
def pick {α : Type} (l : List α) (ks : List Nat) : List α := ks.filterMap fun k => l[k]?
theorem pick_snoc {α : Type} (l : List α) (ks : List Nat) {k : Nat} {x : α} (h : l[k]? = some x) : pick l (ks ++ [k]) = pick l ks ++ [x] := by
  unfold pick
  rw [List.filterMap_append, List.filterMap_cons, h]
  rfl
theorem pick_range {α : Type} (l : List α) : pick l (List.range l.length) = l := by
  apply List.ext_getElem?
  intro i
  have : ∀ n, n ≤ l.length → pick l (List.range n) = l.take n := by
    intro n
    induction n with
    | zero => intro _; rfl
    | succ n ih =>
      intro h
      have hx : l[n]? = some l[n] := List.getElem?_eq_getElem (by omega)
      rw [List.range_succ, pick_snoc l _ hx, ih (by omega), take_get hx]
  rw [this _ (Nat.le_refl _), List.take_length]
theorem pick_perm {α : Type} (l : List α) {ks : List Nat} (h : ks.Perm (List.range l.length)) : (pick l ks).Perm l := by
  have : (pick l ks).Perm (pick l (List.range l.length)) := h.filterMap _
  rw [pick_range] at this
  exact this
theorem pick_ties {H : Hp} {as : List Addr} {ts : List Tie} (h : TiesAt H as ts) : ∀ ks : List Nat, TiesAt H (pick as ks) (pick ts ks)
  | [] => .nil
  | k :: ks => by
    unfold pick
    rw [List.filterMap_cons, List.filterMap_cons]
    cases e : as[k]? with
    | none =>
      have : ts[k]? = none := by
        rw [List.getElem?_eq_none_iff] at e ⊢
        rw [← TiesAt.length h]
        exact e
      rw [this]
      exact pick_ties h ks
    | some a =>
      obtain ⟨t, e2, r⟩ := Paired.get h e
      rw [e2]
      exact .cons r (pick_ties h ks)
def spTurn : Sp := fun vs H Q _ => ∃ (a : Addr) (n : Nat) (l : Addr) (as : List Addr) (L : List Tie), vs = [.ref a, .int n, .ref l] ∧ PileAt H a ∧ n ≤ 60 ∧ H l = some (.lst (refs as)) ∧ a ≠ l ∧ TiesAt H as L ∧ LinkOk n L ∧ L.length ≤ 100 ∧
  ∀ (H' : Hp) (r : Addr) (cs : List Addr) (p : List Nat) (us : List Tie), p.Perm (List.range n) → us.Perm (turned p L) → SameX a H H' → PileAt H' a → H r = none → H' r = some (.lst (refs cs)) → TiesAt H' cs us → Q (.ref r) H'
section
variable {P : Program} {w : World} {K : PySem.W.Frag} {mg : Str → Option Value} {base : Heap}
theorem ok_turned (T : Bl mg) (D : Df K mg "_law_turned" (topS 79)) (FO : FnB P w K mg base CX0 3 "_law_order" ["_law_pile_here", "_law_many"] [] spOrd) : FnB P w K mg base CX0 4 "_law_turned" ["_law_pile_here", "_law_size", "_law_links"] [] spTurn := by
  refine D.ok sc__law_turned (fun vs H Q E h => ?_) (fun _ _ _ _ _ _ us hl => match us, hl with | [_, _, _], _ => rfl) (fun f cdv A outer s H vs Q E hr h => ?_)
  · obtain ⟨a, n, l, as, L, rfl, _⟩ := h
    rfl
  · obtain ⟨a, n, l, as, L, rfl, hp, hn, hl, nal, hT, hok, hlen, q⟩ := h
    refine ⟨_, (pss_cons (ps_set (i := 3) sc__law_turned.nd rfl (Or.inl rfl) (pe_fn FO hr pass0 (pa_cons (pv 0) (pa_cons (pv 1) pa_nil)))) (pss_cons (ps_set (i := 4) sc__law_turned.nd rfl (Or.inr rfl) (pe_lst pa_nil)) (pss_cons (ps_for PassesOwn.never rfl (pi_list (pv 2)) (pg_tup rfl (pgs_cons (pg_name (i := 5) sc__law_turned.nd rfl (Or.inl rfl)) (pgs_cons (pg_name (i := 6) sc__law_turned.nd rfl (Or.inl rfl)) pgs_nil))) (pss_cons (ps_par (i := 7) (j := 8) (by rfl) sc__law_turned.nd rfl rfl (by decide) rfl rfl (pa_cons (pe_ix ix_list (pv 3) (pv 5) (fun _ _ => rfl)) (pa_cons (pe_ix ix_list (pv 3) (pv 6) (fun _ _ => rfl)) pa_nil)) (by rfl)) (pss_one (ps_expr (pe_bm PySem.F.plainAttrs_list PySem.F.slot_list_append PySem.F.type_list_append mt_append (pv 4) (pa_cons (pe_tup (pa_cons (pe_callB (call_min2 rfl) (by rfl) T.b_min (by decide +kernel) (pa_cons (pv 7) (pa_cons (pv 8) pa_nil))) (pa_cons (pe_callB (call_max2 rfl) (by rfl) T.b_max (by decide +kernel) (pa_cons (pv 7) (pa_cons (pv 8) pa_nil))) pa_nil))) pa_nil)))))) (pss_one (ps_ret (pe_lc (own := [("_law_k", 9)]) rfl sc__law_turned.nd (pi_list (pe_fn FO hr pass0 (pa_cons (pv 0) (pa_cons (pe_callB call_len_seq (by rfl) T.b_len PySem.boot_len (pa_cons (pv 4) pa_nil)) pa_nil)))) (blkOk_by (own := [("_law_k", 9)]) (N := N__law_turned) (sc := defScope (topS 79)) (by decide +kernel)) (fun _ _ _ _ _ => (pg_name (i := 9) sc__law_turned.nd rfl (Or.inl rfl))) (fun _ _ _ _ _ => pts_nil) (fun _ _ _ _ _ => (pe_ixLK K (pv 4) (pv 9))))))))), ?_⟩
    obtain ⟨gg, ss, cc, ha⟩ := id hp
    refine ⟨_, rfl, _, rfl, a, n, rfl, hp, by omega, fun H1 pl p hpp sx1 hp1 pl0 hpl1 => ?_⟩
    refine ⟨Nat.zero_le _, fun fo nfo => ?_⟩
    obtain ⟨H2, e2, _, s12, hfo2, _⟩ := new_as (o := .lst []) (Same.refl H1) nfo
    rw [← e2]
    clear e2
    have hl2 := s12 _ _ (sx1 _ _ (Ne.symm nal) hl)
    have hpl2 := s12 _ _ hpl1
    have hT2 : TiesAt H2 as L := (TiesAt.x sx1 ha hT).same s12
    obtain ⟨g1, c1, k1, ha1⟩ := id hp1
    have ha2 := s12 _ _ ha1
    have naf : a ≠ fo := ne_of_none ha1 nfo
    have nlf : l ≠ fo := ne_of_none (sx1 _ _ (Ne.symm nal) hl) nfo
    have npf : pl ≠ fo := ne_of_none hpl1 nfo
    have fo0 : H fo = none := by
      cases z : H fo with
      | none => rfl
      | some o =>
        have := sx1 _ _ (Ne.symm naf) z
        rw [nfo] at this
        cases this
    refine ⟨_, rfl, l, rfl, ⟨_, SqL.of hl2⟩, for_list (K := K) (a := l) (xs := refs as) (fun i σ H3 => ∃ v5 v6 v7 v8 cs, σ = [some (.ref a), some (.int (n : Int)), some (.ref l), some (.ref pl), some (.ref fo), v5, v6, v7, v8, none] ∧ SameX fo H2 H3 ∧ H3 fo = some (.lst (refs cs)) ∧ TiesAt H3 cs (turned p (L.take i)))
      ⟨_, _, _, _, [], rfl, fun b o _ e => e, hfo2, .nil⟩ (fun i σ H3 _ ⟨_, _, _, _, _, _, s3, _⟩ => SqL.of (s3 _ _ nlf hl2)) ?_ ?_⟩
    · rintro i x σ H3 hx ⟨v5, v6, v7, v8, cs, rfl, s3, hf3, hcs⟩
      obtain ⟨b, hb, rfl⟩ := refs_get hx
      obtain ⟨t, ht, hbt⟩ := Paired.get hT2 hb
      have hbt3 : H3 b = some (.tup [.int (t.1 : Int), .int (t.2 : Int)]) := s3 _ _ (ne_of hbt hfo2 (fun z => nomatch z)) hbt
      have hpl3 := s3 _ _ npf hpl2
      obtain ⟨h1, h2, h3⟩ := hok t (List.mem_of_getElem? ht)
      have hpl : p.length = n := by rw [hpp.length_eq, List.length_range]
      have i1 : p[t.1]? = some (p.getD t.1 0) := by rw [List.getD_eq_getElem?_getD, List.getElem?_eq_getElem (by omega)]; rfl
      have i2 : p[t.2]? = some (p.getD t.2 0) := by rw [List.getD_eq_getElem?_getD, List.getElem?_eq_getElem (by omega)]; rfl
      refine ⟨b, _, rfl, SqT.of hbt3, rfl, _, _, rfl, _, _, rfl, rfl, ?_⟩
      refine ⟨_, rfl, _, rfl, pl, _, _, _, rfl, rfl, SqL.of hpl3, atI_nat (nl_at i1), _, rfl, _, rfl, pl, _, _, _, rfl, rfl, SqL.of hpl3, atI_nat (nl_at i2), _, _, rfl, ?_⟩
      have s34 : Same H3 H3 := Same.refl H3
      have hf4 := hf3
      refine ⟨_, rfl, .inl ⟨rfl, _, SqL.of hf4⟩, _, rfl, _, rfl, _, _, rfl, _, rfl, _, rfl, _, _, rfl, ?_⟩
      rw [min_up, max_up]
      refine ⟨by show 2 ≤ sizeLine; decide, fun y ny => ?_⟩
      obtain ⟨H5, e5, _, s45, hy5, _⟩ := new_as (o := .tup [.int ((min (p.getD t.1 0) (p.getD t.2 0) : Nat) : Int), .int ((max (p.getD t.1 0) (p.getD t.2 0) : Nat) : Int)]) (Same.refl H3) ny
      rw [← e5]
      clear e5
      have hf5 := s45 _ _ hf4
      have hcl : cs.length = i := by
        rw [TiesAt.length hcs]
        unfold turned
        rw [List.length_map, List.length_take]
        have := (List.getElem?_eq_some_iff.mp ht).1
        omega
      have hi : i < 100 := by have := (List.getElem?_eq_some_iff.mp ht).1; omega
      refine ⟨fo, _, _, rfl, rfl, hf5, by rw [refs_length]; exact line_lt (by omega), ?_⟩
      refine ⟨_, _, _, _, cs ++ [y], rfl, fun c o nc e => ?_, ?_, ?_⟩
      · rw [upd_ne nc]
        exact s45 _ _ (s34 _ _ (s3 _ _ nc e))
      · rw [upd_same, refs_snoc]
      · rw [take_get ht]
        unfold turned
        rw [List.map_append]
        have nyf : y ≠ fo := Ne.symm (ne_of_none hf4 ny)
        refine paired_snoc ?_ (TiesAt.x (a := fo) (l := refs cs) (fun c o nc e => by rw [upd_ne nc]; exact s45 _ _ (s34 _ _ e)) hf3 hcs)
        show upd H5 fo _ y = _
        rw [upd_ne nyf, hy5]
        rfl
    · rintro σ H3 ⟨v5, v6, v7, v8, cs, rfl, s3, hf3, hcs⟩
      rw [refs_length, TiesAt.length hT, List.take_length] at hcs
      have hcl : cs.length = L.length := by
        rw [TiesAt.length hcs]
        unfold turned
        rw [List.length_map]
      have ha3 := s3 _ _ naf ha2
      refine ⟨_, rfl, _, rfl, fo, _, rfl, .inl (SqL.of hf3), a, cs.length, by rw [refs_length]; rfl, ⟨_, _, _, ha3⟩, by omega, fun H4 kl ks hks sx4 hp4 kl0 hkl4 => ?_⟩
      have hf4 := sx4 _ _ (Ne.symm naf) hf3
      have hcs4 : TiesAt H4 cs _ := TiesAt.x sx4 ha3 hcs
      have sx : SameX a H H4 := fun b o nb e => sx4 _ _ nb (s3 _ _ (ne_of_none e fo0) (s12 _ _ (sx1 _ _ nb e)))
      refine ⟨kl, rfl, ⟨_, SqL.of hkl4⟩, fun Dd nD => ?_⟩
      have nDk : kl ≠ Dd := ne_of_none hkl4 nD
      have nDf : fo ≠ Dd := ne_of_none hf4 nD
      obtain ⟨g4, c4, k4, ha4⟩ := id hp4
      have nDa : a ≠ Dd := ne_of_none ha4 nD
      have hD0 : H Dd = none := by
        cases z : H Dd with
        | none => rfl
        | some o =>
          have := sx _ _ (Ne.symm nDa) z
          rw [nD] at this
          cases this
      refine lc_list (K := K) (a := kl) (xs := nl ks) (fun i H5 => SameX Dd H4 H5 ∧ H5 Dd = some (.lst (refs (pick cs (ks.take i))))) ⟨fun b o nb e => by rw [upd_ne nb]; exact e, upd_same⟩ (fun i H5 _ ⟨s5, _⟩ => SqL.of (s5 _ _ nDk hkl4)) ?_ ?_
      · rintro i x H5 hx ⟨s5, hD5⟩
        obtain ⟨k, hk, rfl⟩ := nl_get hx
        have hkc : k < cs.length := List.mem_range.mp (hks.mem_iff.mp (List.mem_of_getElem? hk))
        have hi := (List.getElem?_eq_some_iff.mp hk).1
        have hksl : ks.length = cs.length := by rw [hks.length_eq, List.length_range]
        have hck : cs[k]? = some cs[k] := List.getElem?_eq_getElem hkc
        refine ⟨rfl, ?_⟩
        refine ⟨_, rfl, _, rfl, fo, _, _, _, rfl, rfl, SqL.of (s5 _ _ nDf hf4), atI_nat (refs_at hck), ?_⟩
        refine ⟨_, hD5, ?_, ?_, ?_⟩
        · rw [refs_length]
          refine line_lt ?_
          have := List.length_filterMap_le (fun k => cs[k]?) (ks.take i)
          unfold pick
          rw [List.length_take] at this
          omega
        · intro b o nb e
          rw [upd_ne nb]
          exact s5 _ _ nb e
        · rw [upd_same, take_get hk, pick_snoc _ _ hck, refs_snoc]
      · rintro H5 ⟨s5, hD5⟩
        rw [nl_length, List.take_length] at hD5
        have hts : TiesAt H5 (pick cs ks) (pick (turned p L) ks) := Paired.imp (fun b t e => s5 _ _ (fun z => by
          have e' : H4 b = some (.tup [.int (t.1 : Int), .int (t.2 : Int)]) := e
          rw [z, nD] at e'
          cases e') e) (pick_ties hcs4 ks)
        refine q H5 Dd _ p _ hpp (pick_perm (turned p L) ?_) (fun b o nb e => s5 _ _ (ne_of_none e hD0) (sx _ _ nb e)) ⟨_, _, _, s5 _ _ nDa ha4⟩ hD0 hD5 hts
        rw [hcl] at hks
        unfold turned
        rw [List.length_map]
        exact hks
end
end W
end
section
set_option Elab.async false
set_option linter.all false
set_option maxRecDepth 100000
set_option maxHeartbeats 4000000
namespace W
open PySem PySem.Spec PyProof.Rows L2
open SR (Tie nb nears turned up szs Fin chd prod pr fact grown)
abbrev N__law_near : List Str := ["_law_size", "_law_links", "_law_found", "_law_one", "_law_other", "_law_node"]
theorem sc__law_near : FnScope N__law_near ["_law_size", "_law_links"] (defScope (topS 82)) := ⟨rfl, rfl, rfl, by decide +kernel, rfl, by decide +kernel, by decide +kernel⟩
abbrev N__law_product : List Str := ["_law_many", "_law_found", "_law_k"]
theorem sc__law_product : FnScope N__law_product ["_law_many"] (defScope (topS 83)) := ⟨rfl, rfl, rfl, by decide +kernel, rfl, by decide +kernel, by decide +kernel⟩
abbrev N__law_sizes : List Str := ["_law_near_here", "_law_node", "_law_above", "_law_found", "_law_other", "_law_some"]
theorem sc__law_sizes : FnScope N__law_sizes ["_law_near_here", "_law_node", "_law_above"] (defScope (topS 84)) := ⟨rfl, rfl, rfl, by decide +kernel, rfl, by decide +kernel, by decide +kernel⟩
def spNear : Sp := fun vs H Q _ => ∃ (n : Nat) (l : Addr) (as : List Addr) (us : List Tie), vs = [.int n, .ref l] ∧ n ≤ 60 ∧ H l = some (.lst (refs as)) ∧ TiesAt H as us ∧ LinkOk n us ∧ us.length ≤ 100 ∧
  ∀ (H' : Hp) (r : Addr) (cs : List Addr), Same H H' → H r = none → H' r = some (.lst (refs cs)) → ListsAt H' cs (nears n us) → Q (.ref r) H'
def spProd : Sp := fun vs H Q _ => ∃ m : Nat, vs = [.int m] ∧ 1 ≤ m ∧ m ≤ 7 ∧ Q (.int (fact m : Int)) H
section
variable {P : Program} {w : World} {K : PySem.W.Frag} {mg : Str → Option Value} {base : Heap}
theorem ok_near (T : Bl mg) (D : Df K mg "_law_near" (topS 82)) : FnB P w K mg base CX0 1 "_law_near" ["_law_size", "_law_links"] [] spNear := by
  refine D.ok sc__law_near (fun vs H Q E h => ?_) (fun _ _ _ _ _ _ us hl => match us, hl with | [_, _], _ => rfl) (fun f cdv A outer s H vs Q E hr h => ?_)
  · obtain ⟨n, l, as, us, rfl, _⟩ := h
    rfl
  · obtain ⟨n, l, bs, us, rfl, h60, hl, hB, hok, hlen, q⟩ := h
    refine ⟨_, (pss_cons (ps_setLc (i := 2) (own := [("_law_node", 5)]) rfl sc__law_near.nd rfl rfl (sw_true rfl rfl rfl (by decide +kernel)) (pi_range1 (by rfl) T.b_range (pa_cons (pv 0) pa_nil)) (blkOk_by (own := [("_law_node", 5)]) (N := N__law_near) (sc := defScope (topS 82)) (by decide +kernel)) (fun _ _ _ _ _ => (pg_name (i := 5) sc__law_near.nd rfl (Or.inl rfl))) (fun _ _ _ _ _ => pts_nil) (fun _ _ _ _ _ => (pe_lst pa_nil))) (pss_cons (ps_for PassesOwn.never rfl (pi_list (pv 1)) (pg_tup rfl (pgs_cons (pg_name (i := 3) sc__law_near.nd rfl (Or.inl rfl)) (pgs_cons (pg_name (i := 4) sc__law_near.nd rfl (Or.inl rfl)) pgs_nil))) (pss_cons (ps_expr (pe_bm PySem.F.plainAttrs_list PySem.F.slot_list_append PySem.F.type_list_append mt_append (pe_ix ix_list (pv 2) (pv 3) (fun _ _ => rfl)) (pa_cons (pv 4) pa_nil))) (pss_one (ps_expr (pe_bm PySem.F.plainAttrs_list PySem.F.slot_list_append PySem.F.type_list_append mt_append (pe_ix ix_list (pv 2) (pv 4) (fun _ _ => rfl)) (pa_cons (pv 3) pa_nil)))))) (pss_one (ps_ret (pv 2))))), ?_⟩
    refine ⟨_, rfl, (n : Int), rfl, by omega, by omega, ?_⟩
    intro D nD
    refine lc_range (lo := 0) (n := ((n : Nat) : Int).toNat) (H1 := H) (D := D) (fun i H4 => ∃ as : List Addr, as.length = i ∧ as.Nodup ∧ (∀ a ∈ as, H a = none ∧ a ≠ D) ∧ Same H H4 ∧ H4 D = some (.lst (refs as)) ∧ ListsAt H4 as (List.replicate i [])) ?_ ?_ ?_
    · exact ⟨[], rfl, List.nodup_nil, fun a h => (by cases h), same_upd nD, upd_same, .nil⟩
    · rintro i H4 hi ⟨as, hal, hand, hout, s4, hD4, hL4⟩
      refine ⟨rfl, ?_⟩
      refine ⟨Nat.zero_le _, fun a na => ?_⟩
      obtain ⟨H5, e5, s5, s45, ha5, ha2⟩ := new_as (o := .lst []) s4 na
      rw [← e5]
      clear e5
      have nDa : a ≠ D := fun e => by rw [e, hD4] at na; cases na
      refine ⟨refs as, s45 _ _ hD4, by rw [refs_length, hal]; exact line_lt (by omega), ?_⟩
      refine ⟨as ++ [a], by rw [List.length_append, hal]; rfl, ?_, fun b hb => ?_, fun b o e => ?_, ?_, ?_⟩
      · rw [List.nodup_append]
        refine ⟨hand, by simp, fun b hb c hc e => ?_⟩
        rw [List.mem_singleton.mp hc] at e
        subst e
        obtain ⟨j, hj⟩ := List.getElem?_of_mem hb
        obtain ⟨_, _, hz⟩ := Paired.get hL4 hj
        rw [na] at hz
        cases hz
      · rcases List.mem_append.mp hb with hb | hb
        · exact hout b hb
        · rw [List.mem_singleton.mp hb]
          exact ⟨ha2, nDa⟩
      · rw [upd_ne (ne_of_none e nD)]
        exact s5 _ _ e
      · rw [upd_same, refs_snoc]
      · rw [List.replicate_succ']
        refine paired_snoc (by rw [upd_ne nDa]; exact ha5) ?_
        have : ∀ {cs : List Addr} {ms : List (List Nat)}, (∀ a ∈ cs, a ≠ D) → ListsAt H4 cs ms → ListsAt (upd H5 D (.lst (refs as ++ [V.ref a]))) cs ms := by
          intro cs ms hc hm
          induction hm with
          | nil => exact .nil
          | cons r _ ih => exact .cons (by rw [upd_ne (hc _ List.mem_cons_self)]; exact s45 _ _ r) (ih fun a ha => hc a (List.mem_cons_of_mem _ ha))
        exact this (fun a ha => (hout a ha).2) hL4
    · rintro H4 ⟨as, hal, hand, hout, s4, hD4, hL4⟩
      have hal : as.length = n := hal
      have nDl : l ≠ D := ne_of_none hl nD
      have hfree : ∀ a ∈ as, H a = none := fun a ha => (hout a ha).1
      have nal : ∀ a ∈ as, l ≠ a := fun a ha => ne_of_none hl (hfree a ha)
      refine ⟨_, rfl, l, rfl, ⟨_, SqL.of (s4 _ _ hl)⟩, for_list (K := K) (a := l) (xs := refs bs) (fun i σ H6 => ∃ v3 v4, σ = [some (.int (n : Int)), some (.ref l), some (.ref D), v3, v4, none] ∧ Same H H6 ∧ H6 D = some (.lst (refs as)) ∧ ListsAt H6 as (nears n (us.take i)))
        ⟨_, _, rfl, s4, hD4, by rw [List.take_zero, nears_nil]; exact hL4⟩ (fun i σ H6 _ ⟨_, _, _, h6, _⟩ => SqL.of (h6 _ _ hl)) ?_ ?_⟩
      · rintro i y σ H6 hy ⟨v3, v4, rfl, s6, hD6, hL6⟩
        obtain ⟨b, hb, rfl⟩ := refs_get hy
        obtain ⟨t, ht, hbt⟩ := Paired.get hB hb
        have hbt' : H6 b = some (.tup [.int (t.1 : Int), .int (t.2 : Int)]) := s6 _ _ hbt
        obtain ⟨ht1, ht2, ht3⟩ := hok t (List.mem_of_getElem? ht)
        have g1 : as[t.1]? = some as[t.1] := List.getElem?_eq_getElem (by omega)
        have g2 : as[t.2]? = some as[t.2] := List.getElem?_eq_getElem (by omega)
        generalize as[t.1] = a1 at g1
        generalize as[t.2] = a2 at g2
        have m1 := List.mem_of_getElem? g1
        have m2 := List.mem_of_getElem? g2
        have n12 : a1 ≠ a2 := fun e => by
          subst e
          obtain ⟨p1, q1⟩ := List.getElem?_eq_some_iff.mp g1
          obtain ⟨p2, q2⟩ := List.getElem?_eq_some_iff.mp g2
          exact ht3 ((List.getElem_inj hand).mp (q1.trans q2.symm))
        obtain ⟨l1, hl1, ha1⟩ := Paired.get hL6 g1
        obtain ⟨l2, hl2, ha2⟩ := Paired.get hL6 g2
        rw [nears_at (show t.1 < n by omega)] at hl1
        rw [nears_at (show t.2 < n by omega)] at hl2
        cases hl1
        cases hl2
        have len : ∀ v, (nb (us.take i) v).length < sizeLine := fun v => by
          refine line_lt ?_
          unfold nb
          have h1 := List.length_filterMap_le (SR.part v) (us.take i)
          rw [List.length_take] at h1
          omega
        have nDa : ∀ a ∈ as, D ≠ a := fun a ha e => (hout a ha).2 e.symm
        refine ⟨b, _, rfl, SqT.of hbt', rfl, _, _, rfl, _, _, rfl, rfl, ?_⟩
        refine ⟨_, rfl, _, rfl, D, _, _, _, rfl, rfl, SqL.of hD6, atI_nat (refs_at g1), .inl ⟨rfl, _, SqL.of ha1⟩, _, rfl, a1, _, _, rfl, rfl, ha1, by rw [nl_length]; exact len _, ?_⟩
        obtain ⟨H7, e7, ha7, s7⟩ : ∃ H7, H7 = upd H6 a1 (.lst (nl (nb (us.take i) t.1 ++ [t.2]))) ∧ H7 a1 = some (.lst (nl (nb (us.take i) t.1 ++ [t.2]))) ∧ SameX a1 H6 H7 := ⟨_, rfl, upd_same, fun b o n e => by rw [upd_ne n]; exact e⟩
        have hL7 : ListsAt H7 as ((nears n (us.take i)).set t.1 (nb (us.take i) t.1 ++ [t.2])) := by
          rw [e7]
          exact lists_set hL6 hand g1
        rw [show nl (nb (us.take i) t.1) ++ [V.int (t.2 : Int)] = nl (nb (us.take i) t.1 ++ [t.2]) from (nl_append _ [t.2]).symm, ← e7]
        have hD7 : H7 D = _ := s7 _ _ (nDa _ m1) hD6
        have ha27 : H7 a2 = _ := s7 _ _ (Ne.symm n12) ha2
        refine ⟨_, rfl, _, rfl, D, _, _, _, rfl, rfl, SqL.of hD7, atI_nat (refs_at g2), .inl ⟨rfl, _, SqL.of ha27⟩, _, rfl, a2, _, _, rfl, rfl, ha27, by rw [nl_length]; exact len _, ?_⟩
        rw [show nl (nb (us.take i) t.2) ++ [V.int (t.1 : Int)] = nl (nb (us.take i) t.2 ++ [t.1]) from (nl_append _ [t.1]).symm]
        refine ⟨_, _, rfl, fun c o e => ?_, ?_, ?_⟩
        · rw [upd_ne (ne_of_none e (hfree _ m2))]
          exact s7 _ _ (ne_of_none e (hfree _ m1)) (s6 _ _ e)
        · rw [upd_ne (nDa _ m2)]
          exact hD7
        · have := lists_set (l := nb (us.take i) t.2 ++ [t.1]) hL7 hand g2
          rw [nears_step (by omega) (by omega) ht3] at this
          rw [take_get ht]
          exact this
      · rintro σ H6 ⟨v3, v4, rfl, s6, hD6, hL6⟩
        have e : (refs bs).length = us.length := by
          rw [refs_length]
          exact TiesAt.length hB
        rw [e, List.take_length] at hL6
        exact ⟨_, rfl, q H6 D as s6 nD hD6 hL6⟩
theorem ok_product (T : Bl mg) (D : Df K mg "_law_product" (topS 83)) : FnB P w K mg base CX0 1 "_law_product" ["_law_many"] [] spProd := by
  refine D.ok sc__law_product (fun vs H Q E h => ?_) (fun _ _ _ _ _ _ us hl => match us, hl with | [_], _ => rfl) (fun f cdv A outer s H vs Q E hr h => ?_)
  · obtain ⟨m, rfl, _⟩ := h
    rfl
  · obtain ⟨m, rfl, h1, h7, q⟩ := h
    refine ⟨_, (pss_cons (ps_set (i := 1) sc__law_product.nd rfl (Or.inl rfl) pe_int) (pss_cons (ps_for PassesOwn.never rfl (pi_range2 (by rfl) T.b_range (pa_cons pe_int (pa_cons (pe_op op_add (pv 0) pe_int) pa_nil))) (pg_name (i := 2) sc__law_product.nd rfl (Or.inl rfl)) (pss_one (ps_set (i := 1) sc__law_product.nd rfl (Or.inl rfl) (pe_op op_mul (pv 1) (pv 2))))) (pss_one (ps_ret (pv 1))))), ?_⟩
    have small : ∀ i, i ≤ 7 → fact i ≤ 5040 := by decide
    have e0 : (((m : Int) + 1) - 2).toNat = m - 1 := by omega
    refine ⟨_, rfl, _, _, rfl, rfl, _, _, rfl, ⟨by decide, by decide, by omega, by omega⟩, ?_⟩
    rw [e0]
    refine for_range (fun i σ H3 => ∃ v2, σ = [some (.int (m : Int)), some (.int (fact (i + 1) : Int)), v2] ∧ H3 = H) ⟨_, rfl, rfl⟩ ?_ ?_
    · rintro i σ H3 hi ⟨v2, rfl, rfl⟩
      have := small (i + 1) (by omega)
      refine ⟨_, rfl, _, rfl, _, _, rfl, rfl, .inl ⟨by omega, by omega⟩, ?_⟩
      refine ⟨some (.int (2 + (i : Int))), ?_, rfl⟩
      have e : ((fact (i + 1) : Nat) : Int) * (2 + (i : Int)) = ((fact (i + 1 + 1) : Nat) : Int) := by
        rw [show fact (i + 1 + 1) = (i + 1 + 1) * fact (i + 1) from rfl, Nat.mul_comm]
        simp only [Int.natCast_mul]
        congr 1
        omega
      rw [← e]
      rfl
    · rintro σ H3 ⟨v2, rfl, rfl⟩
      refine ⟨_, rfl, ?_⟩
      rw [show m - 1 + 1 = m by omega]
      exact q
end
/-! ### sizes -/
def NearAt (H : Hp) (nr : Addr) (near : List (List Nat)) : Prop := ∃ as, H nr = some (.lst (refs as)) ∧ ListsAt H as near
theorem NearAt.same {H H' : Hp} (s : Same H H') {nr : Addr} {near : List (List Nat)} (h : NearAt H nr near) : NearAt H' nr near := by
  obtain ⟨as, h1, h2⟩ := h
  exact ⟨as, s _ _ h1, h2.same s⟩
abbrev nf (near : List (List Nat)) : Nat → List Nat := fun u => near.getD u []
def spSizes (k : Nat) : Sp := fun vs H Q _ => ∃ (nr : Addr) (near : List (List Nat)) (v : Nat) (a : Int), vs = [.ref nr, .int v, .int a] ∧ NearAt H nr near ∧ v < near.length ∧ (∀ l ∈ near, ∀ x ∈ l, x < near.length) ∧ Fin (nf near) k v a ∧ (szs (nf near) k v a).length ≤ 1000 ∧
  ∀ (H' : Hp) (r : Addr), Same H H' → H r = none → H' r = some (.lst (nl (szs (nf near) k v a))) → Q (.ref r) H'
theorem cut1 (x : Nat) (l : List Nat) : cutV (nl (x :: l)) (some 1) none = nl l := by
  unfold cutV
  rw [show (HT.sIx (nl (x :: l)).length 0 (some 1)) = 1 from by rw [nl_length, List.length_cons, show (1 : Int) = ((1 : Nat) : Int) from rfl, HT.sIx_nat]; omega, HT.sIx_none]
  rw [show (nl (x :: l)).drop 1 = nl l from rfl, nl_length, List.length_cons, Nat.add_sub_cancel]
  conv => lhs; arg 1; rw [← nl_length l]
  exact List.take_length
section
variable {P : Program} {w : World} {K : PySem.W.Frag} {mg : Str → Option Value} {base : Heap}
theorem sizes_body (T : Bl mg) (k j : Nat) (FZ : FnB P w K mg base CX0 k "_law_sizes" ["_law_near_here", "_law_node", "_law_above"] [] (spSizes j))
    (f : Addr) (cdv : Value) (A : Around) (outer : List Env) (s : Shared) (H : Hp) (vs : List V) (Q : VK) (E : XK) (hr : Room k (A.deeper (envOfC "_law_sizes" (defScope (topS 84)) s.heap.objs.size f cdv))) (h : spSizes (j + 1) vs H Q E) :
    ∃ t, PSs (cxOf CX0 P w K mg base N__law_sizes "_law_sizes" (defScope (topS 84)) f cdv A outer s H E).nox (defBody (topS 84)) t ∧ t { nx := fun _ H' => Q .non H', rt := Q } (start N__law_sizes vs) H := by
  obtain ⟨nr, near, v, a, rfl, ⟨as, hnr, hL⟩, hv, hin, hfin, hlen, q⟩ := h
  refine ⟨_, (pss_cons (ps_set (i := 3) sc__law_sizes.nd rfl (Or.inl rfl) (pe_lst (pa_cons pe_int pa_nil))) (pss_cons (ps_for PassesOwn.never rfl (pi_list (pe_ix ix_list (pv 0) (pv 1) (fun _ _ => rfl))) (pg_name (i := 4) sc__law_sizes.nd rfl (Or.inl rfl)) (pss_one (ps_if (pt_cmpR op_ne (pv 4) (pv 2) (nomark _)) (pss_cons (ps_set (i := 5) sc__law_sizes.nd rfl (Or.inl rfl) (pe_fn FZ hr pass0 (pa_cons (pv 0) (pa_cons (pv 4) (pa_cons (pv 1) pa_nil))))) (pss_one (ps_set (i := 3) sc__law_sizes.nd rfl (Or.inl rfl) (pe_op op_cat (pe_op op_cat (pe_lst (pa_cons (pe_op op_add (pe_ix ix_list (pv 3) pe_int (fun _ _ => rfl)) (pe_ix ix_list (pv 5) pe_int (fun _ _ => rfl))) pa_nil)) (pe_slice sl_list (pv 3) (po_some pe_int) po_none)) (pv 5))))) pss_nil))) (pss_one (ps_ret (pv 3))))), ?_⟩
  have g1 : near[v]? = some near[v] := List.getElem?_eq_getElem hv
  have hfv : nf near v = near[v] := by show near.getD v [] = _; rw [List.getD_eq_getElem?_getD, g1]; rfl
  have hal : as.length = near.length := Paired.length hL
  have ga : as[v]? = some as[v] := List.getElem?_eq_getElem (by omega)
  obtain ⟨l1, hl1, hav⟩ := Paired.get hL ga
  rw [g1] at hl1
  obtain rfl := Option.some.inj hl1
  generalize as[v] = av at ga hav
  have hout := hin _ (List.mem_of_getElem? g1)
  generalize near[v] = ls at g1 hfv hav hout
  rw [SR.szs_eq] at hlen
  rw [show szs (nf near) (j + 1) v a = _ from SR.szs_eq (nf near) j v a] at q
  have hfin' : ∀ o ∈ chd (nf near) v a, Fin (nf near) j o v := hfin
  have ec : chd (nf near) v a = ls.filter fun o : Nat => decide ((o : Int) ≠ a) := by unfold chd; rw [hfv]
  rw [ec] at hlen q hfin'
  have hlenI : ∀ i, (((ls.take i).filter fun o : Nat => decide ((o : Int) ≠ a)).flatMap fun o => szs (nf near) j o v).length ≤ 999 := fun i => by
    have e : ls.filter (fun o : Nat => decide ((o : Int) ≠ a)) = (ls.take i).filter (fun o : Nat => decide ((o : Int) ≠ a)) ++ (ls.drop i).filter (fun o : Nat => decide ((o : Int) ≠ a)) := by
      rw [← List.filter_append, List.take_append_drop]
    rw [e, List.flatMap_append, List.length_cons, List.length_append] at hlen
    omega
  refine ⟨by show 1 ≤ sizeLine; decide, fun fo nfo => ?_⟩
  obtain ⟨H1, e1, s1, _, hf1, fo0⟩ := new_as (o := .lst [.int 1]) (Same.refl H) nfo
  rw [← e1]
  clear e1
  refine ⟨_, rfl, _, rfl, nr, _, _, _, rfl, rfl, SqL.of (s1 _ _ hnr), atI_nat (refs_at ga), av, rfl, ⟨_, SqL.of (s1 _ _ hav)⟩, for_list (K := K) (a := av) (xs := nl ls) (fun i σ H3 => ∃ fo v4 v5, σ = [some (.ref nr), some (.int (v : Int)), some (.int a), some (.ref fo), v4, v5] ∧ Same H H3 ∧ H fo = none ∧
      H3 fo = some (.lst (nl ((1 + (((ls.take i).filter fun o : Nat => decide ((o : Int) ≠ a)).map fun o => (szs (nf near) j o v).headD 0).sum) :: ((ls.take i).filter fun o : Nat => decide ((o : Int) ≠ a)).flatMap fun o => szs (nf near) j o v))))
    ⟨fo, _, _, rfl, s1, nfo, hf1⟩ (fun i σ H3 _ ⟨_, _, _, _, s3, _⟩ => SqL.of (s3 _ _ hav)) ?_ ?_⟩
  · rintro i x σ H3 hx ⟨fo3, v4, v5, rfl, s3, nf3, hf3⟩
    obtain ⟨o, ho, rfl⟩ := nl_get hx
    have hom := List.mem_of_getElem? ho
    refine ⟨_, rfl, _, rfl, rfl, ?_⟩
    rw [take_get ho, List.filter_append]
    by_cases c : (o : Int) = a
    · refine ⟨_, rfl, ?_⟩
      rw [decide_eq_true (show V.int (o : Int) = V.int a by rw [c])]
      refine iteF ?_
      rw [show [o].filter (fun o : Nat => decide ((o : Int) ≠ a)) = [] from by rw [List.filter_cons, if_neg (by simpa using c)]; rfl, List.append_nil]
      exact ⟨fo3, _, _, rfl, s3, nf3, hf3⟩
    · refine ⟨_, rfl, ?_⟩
      rw [decide_eq_false (fun z => c (V.int.inj z))]
      refine iteT ?_
      rw [show [o].filter (fun o : Nat => decide ((o : Int) ≠ a)) = [o] from by rw [List.filter_cons, if_pos (by simpa using c)]; rfl]
      have hoc : o ∈ ls.filter (fun o : Nat => decide ((o : Int) ≠ a)) := List.mem_filter.mpr ⟨hom, decide_eq_true c⟩
      have hF := hfin' o hoc
      have hN := hlenI (i + 1)
      rw [take_get ho, List.filter_append, show [o].filter (fun o : Nat => decide ((o : Int) ≠ a)) = [o] from by rw [List.filter_cons, if_pos (by simpa using c)]; rfl, List.flatMap_append, List.length_append, List.flatMap_cons, List.flatMap_nil, List.append_nil] at hN
      rw [List.map_append, List.sum_append_nat, List.map_cons, List.map_nil, List.sum_cons, List.sum_nil, Nat.add_zero, List.flatMap_append, List.flatMap_cons, List.flatMap_nil, List.append_nil]
      generalize (((ls.take i).filter fun o : Nat => decide ((o : Int) ≠ a)).flatMap fun o => szs (nf near) j o v) = ts at hf3 hN
      generalize (((ls.take i).filter fun o : Nat => decide ((o : Int) ≠ a)).map fun o => (szs (nf near) j o v).headD 0).sum = sm at hf3
      obtain ⟨j', rfl⟩ := hF.pos
      refine ⟨_, rfl, _, rfl, _, rfl, nr, near, o, v, rfl, ⟨as, s3 _ _ hnr, hL.same s3⟩, hout o hom, hin, hF, by omega, fun H4 r s34 r0 hr4 => ?_⟩
      have hf4 := s34 _ _ hf3
      rw [SR.szs_eq] at hN hr4 ⊢
      generalize (chd (nf near) o v).flatMap (fun o_1 => szs (nf near) j' o_1 o) = rs at hN hr4 ⊢
      generalize 1 + ((chd (nf near) o v).map fun o_1 => (szs (nf near) j' o_1 o).headD 0).sum = hd at hN hr4 ⊢
      rw [List.length_cons] at hN
      show _
      refine ⟨_, rfl, fo3, _, _, .int ((1 + sm : Nat) : Int), rfl, rfl, SqL.of hf4, atI_nat (show (nl ((1 + sm) :: ts))[0]? = some (V.int ((1 + sm : Nat) : Int)) from rfl), _, rfl, r, _, _, .int (hd : Int), rfl, rfl, SqL.of hr4, atI_nat (show (nl (hd :: rs))[0]? = some (V.int (hd : Int)) from rfl), _, _, rfl, rfl, by show 1 ≤ sizeLine; decide, fun z1 nz1 => ?_⟩
      obtain ⟨H5, e5, _, s45, hz1, _⟩ := new_as (o := .lst [.int (((1 + sm : Nat) : Int) + (hd : Int))]) (Same.refl H4) nz1
      rw [← e5]
      clear e5
      have hf5 := s45 _ _ hf4
      refine ⟨_, rfl, 1, rfl, fo3, _, rfl, SqL.of hf5, fun z2 nz2 => ?_⟩
      rw [cut1]
      obtain ⟨H6, e6, _, s56, hz2, _⟩ := new_as (o := .lst (nl ts)) (Same.refl H5) nz2
      rw [← e6]
      clear e6
      refine ⟨z1, z2, _, _, rfl, rfl, s56 _ _ hz1, hz2, ?_, fun z3 nz3 => ?_⟩
      · rw [nl_length]
        exact line_le (by show 1 + _ ≤ _; omega)
      obtain ⟨H7, e7, _, s67, hz3, _⟩ := new_as (o := .lst ([.int (((1 + sm : Nat) : Int) + (hd : Int))] ++ nl ts)) (Same.refl H6) nz3
      rw [← e7]
      clear e7
      refine ⟨_, rfl, z3, r, _, _, rfl, rfl, hz3, s67 _ _ (s56 _ _ (s45 _ _ hr4)), ?_, fun z4 nz4 => ?_⟩
      · rw [List.length_append, nl_length, nl_length]
        exact line_le (by show 1 + _ + (rs.length + 1) ≤ _; omega)
      have s37 : Same H H7 := fun b o e => s67 _ _ (s56 _ _ (s45 _ _ (s34 _ _ (s3 _ _ e))))
      refine ⟨z4, _, _, rfl, fun b o e => ?_, s37.free nz4, ?_⟩
      · rw [upd_ne (ne_of_none (s37 _ _ e) nz4)]
        exact s37 _ _ e
      · rw [upd_same]
        have e1 : (((1 + sm : Nat) : Int) + (hd : Int)) = ((1 + (sm + hd) : Nat) : Int) := by omega
        rw [e1]
        show some (HO.lst ((V.int _ :: nl ts) ++ nl (hd :: rs))) = some (.lst (V.int _ :: nl (ts ++ (hd :: rs))))
        rw [nl_append]
        rfl
  · rintro σ H3 ⟨fo3, v4, v5, rfl, s3, nf3, hf3⟩
    rw [nl_length, List.take_length] at hf3
    exact ⟨_, rfl, q H3 fo3 s3 nf3 hf3⟩
theorem ok_sizesM (T : Bl mg) (D : Df K mg "_law_sizes" (topS 84)) : ∀ m, FnB P w K mg base CX0 (1 + m) "_law_sizes" ["_law_near_here", "_law_node", "_law_above"] [] (spSizes m)
  | 0 => D.ok (k := 0) sc__law_sizes (fun vs H Q E ⟨_, _, _, _, e, _⟩ => by rw [e]; rfl) (fun _ _ _ _ _ _ us hl => match us, hl with | [_, _, _], _ => rfl) (fun f cdv A outer s H vs Q E hr ⟨_, _, _, _, _, _, _, _, hf, _⟩ => hf.elim)
  | m + 1 => D.ok (k := 1 + m) sc__law_sizes (fun vs H Q E ⟨_, _, _, _, e, _⟩ => by rw [e]; rfl) (fun _ _ _ _ _ _ us hl => match us, hl with | [_, _, _], _ => rfl) (sizes_body T (1 + m) m (ok_sizesM T D m))
def spSz : Sp := fun vs H Q E => ∃ k, k ≤ 14 ∧ spSizes k vs H Q E
theorem ok_sizes (T : Bl mg) (D : Df K mg "_law_sizes" (topS 84)) : FnB P w K mg base CX0 16 "_law_sizes" ["_law_near_here", "_law_node", "_law_above"] [] spSz := by
  refine D.ok sc__law_sizes (fun vs H Q E ⟨_, _, _, _, _, _, e, _⟩ => by rw [e]; rfl) (fun _ _ _ _ _ _ us hl => match us, hl with | [_, _, _], _ => rfl) (fun f cdv A outer s H vs Q E hr ⟨k, hk, h⟩ => ?_)
  cases k with
  | zero =>
    obtain ⟨_, _, _, _, _, _, _, _, hf, _⟩ := h
    exact hf.elim
  | succ m => exact sizes_body T 15 m ((ok_sizesM T D m).mono (by omega)) f cdv A outer s H vs Q E hr h
end
end W
end
section
set_option Elab.async false
set_option linter.all false
set_option maxRecDepth 100000
set_option maxHeartbeats 4000000
namespace W
open PySem PySem.Spec PyProof.Rows L2
open SR (Tie nb nears turned up szs Fin chd prod pr fact grown)
abbrev N__law_grown : List Str := ["_law_near_here", "_law_many", "_law_node", "_law_parts", "_law_one"]
theorem sc__law_grown : FnScope N__law_grown ["_law_near_here"] (defScope (topS 85)) := ⟨rfl, rfl, rfl, by decide +kernel, rfl, by decide +kernel, by decide +kernel⟩
def spGrown : Sp := fun vs H Q _ => ∃ (nr : Addr) (near : List (List Nat)), vs = [.ref nr] ∧ NearAt H nr near ∧ 1 ≤ near.length ∧ near.length ≤ 7 ∧ (∀ l ∈ near, ∀ x ∈ l, x < near.length) ∧
  (∀ r < near.length, Fin (nf near) (2 * near.length) r (-1) ∧ (szs (nf near) (2 * near.length) r (-1)).length ≤ 1000 ∧ pr (nf near) (2 * near.length) r (-1) ∣ fact near.length ∧ 0 < pr (nf near) (2 * near.length) r (-1)) ∧
  ∀ H' : Hp, Same H H' → Q (.int (grown near.length (nf near) (2 * near.length) : Int)) H'
section
variable {P : Program} {w : World} {K : PySem.W.Frag} {mg : Str → Option Value} {base : Heap}
theorem ok_grown (T : Bl mg) (D : Df K mg "_law_grown" (topS 85)) (FZ : FnB P w K mg base CX0 16 "_law_sizes" ["_law_near_here", "_law_node", "_law_above"] [] spSz) (FP : FnB P w K mg base CX0 1 "_law_product" ["_law_many"] [] spProd) :
    FnB P w K mg base CX0 17 "_law_grown" ["_law_near_here"] [] spGrown := by
  refine D.ok sc__law_grown (fun vs H Q E h => ?_) (fun _ _ _ _ _ _ us hl => match us, hl with | [_], _ => rfl) (fun f cdv A outer s H vs Q E hr h => ?_)
  · obtain ⟨nr, near, rfl, _⟩ := h
    rfl
  · obtain ⟨nr, near, rfl, ⟨as, hnr, hL⟩, h1, h7, hin, hall, q⟩ := h
    refine ⟨_, (pss_cons (ps_set (i := 1) sc__law_grown.nd rfl (Or.inl rfl) pe_int) (pss_cons (ps_for PassesOwn.never rfl (pi_range1 (by rfl) T.b_range (pa_cons (pe_callB call_len_seq (by rfl) T.b_len PySem.boot_len (pa_cons (pv 0) pa_nil)) pa_nil)) (pg_name (i := 2) sc__law_grown.nd rfl (Or.inl rfl)) (pss_cons (ps_set (i := 3) sc__law_grown.nd rfl (Or.inl rfl) pe_int) (pss_cons (ps_for PassesOwn.never rfl (pi_list (pe_fn FZ hr pass0 (pa_cons (pv 0) (pa_cons (pv 2) (pa_cons (pe_op op_sub pe_int pe_int) pa_nil))))) (pg_name (i := 4) sc__law_grown.nd rfl (Or.inl rfl)) (pss_one (ps_set (i := 3) sc__law_grown.nd rfl (Or.inl rfl) (pe_op op_mul (pv 3) (pv 4))))) (pss_one (ps_set (i := 1) sc__law_grown.nd rfl (Or.inl rfl) (pe_op op_add (pv 1) (pe_op op_fdiv (pe_fn FP (hr.mono (by decide)) pass0 (pa_cons (pe_callB call_len_seq (by rfl) T.b_len PySem.boot_len (pa_cons (pv 0) pa_nil)) pa_nil)) (pv 3)))))))) (pss_one (ps_ret (pv 1))))), ?_⟩
    have hal : (refs as).length = near.length := by rw [refs_length]; exact Paired.length hL
    refine ⟨_, rfl, nr, _, rfl, .inl (SqL.of hnr), _, rfl, ?_, ?_, ?_⟩
    · rw [hal]; omega
    · rw [hal]; omega
    rw [hal, Int.toNat_natCast]
    generalize hn : near.length = n at h1 h7 hin hall q hal
    generalize hf : nf near = g at hall q
    refine for_range (fun i σ H3 => ∃ v2 v3 v4, σ = [some (.ref nr), some (.int (((List.range i).map fun r => fact n / pr g (2 * n) r (-1)).sum : Nat)), v2, v3, v4] ∧ Same H H3) ⟨_, _, _, rfl, Same.refl H⟩ ?_ ?_
    · rintro i σ H3 hi ⟨v2, v3, v4, rfl, s3⟩
      obtain ⟨hF, hl, hd, hp⟩ := hall i hi
      show _
      rw [Int.zero_add]
      have h14 : 2 * n ≤ 14 := by omega
      refine ⟨_, rfl, _, rfl, _, _, rfl, rfl, 2 * n, h14, nr, near, i, -1, rfl, ⟨as, s3 _ _ hnr, hL.same s3⟩, by omega, by rw [hn]; exact hin, by rw [hf]; exact hF, by rw [hf]; exact hl, fun H4 r s34 r0 hr4 => ?_⟩
      rw [hf] at hr4
      have hle : prod (szs g (2 * n) i (-1)) ≤ 5040 := by
        have small : ∀ i, i ≤ 7 → fact i ≤ 5040 := by decide
        exact Nat.le_trans (Nat.le_of_dvd (SR.fact_pos n) hd) (small n h7)
      have hp' : 0 < prod (szs g (2 * n) i (-1)) := hp
      have hpr : pr g (2 * n) i (-1) = prod (szs g (2 * n) i (-1)) := rfl
      generalize szs g (2 * n) i (-1) = ps at hr4 hle hp' hpr
      have hpt : ∀ j, prod (ps.take j) ≤ 5040 := fun j => by
        have e : prod ps = prod (ps.take j) * prod (ps.drop j) := by rw [← SR.prod_append, List.take_append_drop]
        exact Nat.le_trans (Nat.le_of_dvd hp' ⟨_, e⟩) hle
      refine ⟨r, rfl, ⟨_, SqL.of hr4⟩, for_list (K := K) (a := r) (xs := nl ps) (fun j σ H5 => ∃ v4, σ = [some (.ref nr), some (.int (((List.range i).map fun r => fact n / pr g (2 * n) r (-1)).sum : Nat)), some (.int (i : Int)), some (.int (prod (ps.take j) : Nat)), v4] ∧ H5 = H4)
        ⟨_, rfl, rfl⟩ (fun j σ H5 _ ⟨_, _, e⟩ => by rw [e]; exact SqL.of hr4) ?_ ?_⟩
      · rintro j x σ H5 hx ⟨v4, rfl, rfl⟩
        obtain ⟨o, ho, rfl⟩ := nl_get hx
        have hb := hpt j
        refine ⟨_, rfl, _, rfl, _, _, rfl, rfl, .inl ⟨by omega, by omega⟩, ?_⟩
        refine ⟨some (.int (o : Int)), ?_, rfl⟩
        rw [take_get ho, SR.prod_append, SR.prod_cons, SR.prod_nil, Nat.mul_one, Int.natCast_mul]
        rfl
      · rintro σ H5 ⟨v4, rfl, rfl⟩
        rw [nl_length, List.take_length]
        refine ⟨_, rfl, _, rfl, nr, _, rfl, .inl (SqL.of (s34 _ _ (s3 _ _ hnr))), n, by rw [hal]; rfl, h1, h7, ?_⟩
        refine ⟨_, rfl, _, _, rfl, rfl, ⟨by omega, by omega⟩, _, _, rfl, rfl, ?_⟩
        refine ⟨some (.int (i : Int)), some (.int (prod ps : Nat)), v4, ?_, fun b o e => s34 _ _ (s3 _ _ e)⟩
        rw [List.range_succ, List.map_append, List.sum_append_nat, List.map_cons, List.map_nil, List.sum_cons, List.sum_nil, Nat.add_zero, hpr, Int.natCast_add, Int.natCast_ediv]
        rfl
    · rintro σ H3 ⟨v2, v3, v4, rfl, s3⟩
      exact ⟨_, rfl, q H3 s3⟩
end
end W
end
section
set_option Elab.async false
set_option linter.all false
set_option maxRecDepth 100000
set_option maxHeartbeats 4000000
namespace W
open PySem PySem.Spec PyProof.Rows L2
open SR (Tie Mach Stt)
abbrev N__law_refused : List Str := ["_law_graph_here", "_law_rule_here", "_law_rank", "_law_kept", "e"]
theorem sc__law_refused : FnScope N__law_refused ["_law_graph_here", "_law_rule_here", "_law_rank"] (defScope (topS 86)) := ⟨rfl, rfl, rfl, by decide +kernel, rfl, by decide +kernel, by decide +kernel⟩
/-- what the law asks of the classes of the exceptions -/
structure KeC (K : PySem.W.Frag) (IN SE : Addr) : Prop where
  exm : PySem.W.exmOne K (.ref IN) (.ref SE) = some true
  isI : PySem.W.kitOne K (.ref IN) (.ref IN) = some true
  isV : PySem.W.kitOne K (.ref IN) (.type "ValueError") = some true
  ec : ExcC K IN
  xf : XfC K IN
def spRefused (C : Ad) : Sp := fun vs H Q _ => ∃ (g r : Addr) (M : Mach) (near : List (List Nat)) (rank : Nat), vs = [.ref g, .ref r, .int rank] ∧ GraphAt C.G H g near ∧ RuleAt C.R H r M ∧ MOk M ∧ near.length ≤ 7 ∧ SR.cnt M near (List.range near.length) SR.zero ≤ rank ∧
  ∀ H' : Hp, Same H H' → Q (.bl true) H'
section
variable {P : Program} {w : World} {K : PySem.W.Frag} {mg : Str → Option Value} {base : Heap} {C : Ad} {IN SE : Addr}
theorem ok_refused (T : Bl mg) (Z : ErC K mg IN SE) (KC : KeC K IN SE) (bVE : mg "ValueError" = none) (D : Df K mg "_law_refused" (topS 86)) (FA : FnB P w K mg base (L2.CX P w) 14 "order_at" ["graph", "rule", "rank"] [] (spOrder C IN)) :
    FnB P w K mg base CX0 15 "_law_refused" ["_law_graph_here", "_law_rule_here", "_law_rank"] [] (spRefused C) := by
  obtain ⟨f0, fd0, ds, F0, hm0, hk0, hb0, hd0⟩ := FA.ex
  cases hd0
  refine D.ok sc__law_refused (fun vs H Q E h => ?_) (fun _ _ _ _ _ _ us hl => match us, hl with | [_, _, _], _ => rfl) (fun f cdv A outer s H vs Q E hr h => ?_)
  · obtain ⟨g, r, M, near, rank, rfl, _⟩ := h
    rfl
  · obtain ⟨g, r, M, near, rank, rfl, hg, hru, hM, h7, hc, q⟩ := h
    refine ⟨_, (pss_cons (ps_set (i := 3) sc__law_refused.nd rfl (Or.inl rfl) pe_non) (pss_cons (ps_try_keep (i := 4) rfl rfl rfl sc__law_refused.nd rfl rfl ⟨rfl, by decide, .inl Z.mSE⟩ (fun W pn xe tk _ => (pss_one (ps_expr (pe_callS F0 hr rfl hm0 hk0 hb0 (fun σ => passAt tk σ) (pa_cons (pv 0) (pa_cons (pv 1) (pa_cons (pv 2) pa_nil))))))) (fun a oe cls d pn hz hf => (pss_one (ps_set (i := 3) sc__law_refused.nd rfl (Or.inl rfl) (pv 4))))) (pss_one (ps_ret (pe_and (pe_callB call_isHeld (by rfl) T.b_isinstance (by decide +kernel) (pa_cons (pv 3) (pa_cons (pe_glob (v := .ref IN) (by rfl) Z.mIN rfl) pa_nil))) (pe_and (pe_callB call_isHeld (by rfl) T.b_isinstance (by decide +kernel) (pa_cons (pv 3) (pa_cons (pe_bltn (v := .ty "ValueError") (u := .type "ValueError") (by rfl) bVE (by decide +kernel) rfl) pa_nil))) (pe_one (pe_cmpR op_eq (pe_held (pv 3)) (pv 2) (nomark _))))))))), ?_⟩
    refine ⟨_, rfl, _, rfl, _, rfl, g, r, M, near, rank, rfl, hg, hru, hM, h7, fun H1 l o ho _ _ _ => ?_, fun _ H1 d s1 hd => ?_⟩
    · have := (List.getElem?_eq_some_iff.mp ho).1
      unfold SR.cnt at hc
      rw [List.length_range] at hc
      omega
    · refine ⟨KC.exm, fun a na => ?_⟩
      refine ⟨_, rfl, fun _ => ?_⟩
      have nda : d ≠ a := ne_of_none hd na
      have ha2 : upd H1 a (Exk (.ref IN) (some d) a) a = some (Exk (.ref IN) (some d) a) := upd_same
      have hd2 : upd H1 a (Exk (.ref IN) (some d) a) d = some (.xd [("number", .int (rank : Int))]) := by rw [upd_ne nda]; exact hd
      refine ⟨_, rfl, a, IN, d, _, _, _, true, rfl, ha2, hd2, KC.ec, fun u e => e, KC.isI, true, rfl, iteT ?_⟩
      refine ⟨_, rfl, a, IN, d, _, _, _, true, rfl, ha2, hd2, KC.ec, fun u e => e, KC.isV, true, rfl, iteT ?_⟩
      refine ⟨_, rfl, a, IN, d, _, .int (rank : Int), rfl, ha2, hd2, KC.xf, Z.no, rfl, _, rfl, rfl, ?_⟩
      rw [decide_eq_true rfl]
      exact q _ fun b o e => by
        have e1 := s1 _ _ e
        rw [upd_ne (ne_of_none e1 na)]
        exact e1
end
end W
end
section
set_option Elab.async false
set_option linter.all false
set_option maxRecDepth 100000
set_option maxHeartbeats 4000000
namespace W
open PySem PySem.Spec PyProof.Rows L2
open SR (Tie Mach Stt)
abbrev N__law_ranks_right : List Str := ["_law_pile_here", "_law_graph_here", "_law_rule_here", "_law_many", "_law_ranks", "_law_rows", "_law_rank", "_law_row", "_law_first", "_law_order_here"]
theorem sc__law_ranks_right : FnScope N__law_ranks_right ["_law_pile_here", "_law_graph_here", "_law_rule_here", "_law_many"] (defScope (topS 87)) := ⟨rfl, rfl, rfl, by decide +kernel, rfl, by decide +kernel, by decide +kernel⟩
theorem eqv_all : ∀ l : List Nat, PyData.eqvAll (dn l) (dn l) = true
  | [] => by rw [show dn [] = [] from rfl, PyData.eqvAll]
  | n :: l => by
    rw [show dn (n :: l) = PyData.int (n : Int) :: dn l from rfl, PyData.eqvAll, eqv_all l, PyData.eqv]
    simp
theorem eqv_dn (l : List Nat) : PyData.eqv (.list (dn l)) (.list (dn l)) = true := by rw [PyData.eqv, eqv_all]
def dnn (ls : List (List Nat)) : List PyData := ls.map fun l => .list (dn l)
theorem eqv_alls : ∀ ls : List (List Nat), PyData.eqvAll (dnn ls) (dnn ls) = true
  | [] => by rw [show dnn [] = [] from rfl, PyData.eqvAll]
  | l :: ls => by rw [show dnn (l :: ls) = PyData.list (dn l) :: dnn ls from rfl, PyData.eqvAll, eqv_alls ls, eqv_dn]; rfl
theorem eqv_dnn (ls : List (List Nat)) : PyData.eqv (.list (dnn ls)) (.list (dnn ls)) = true := by rw [PyData.eqv, eqv_alls]
theorem can_dnn : ∀ ls : List (List Nat), PyData.canLayAll0 (dnn ls) = true
  | [] => by rw [show dnn [] = [] from rfl, PyData.canLayAll0]
  | l :: ls => by rw [show dnn (l :: ls) = PyData.list (dn l) :: dnn ls from rfl, PyData.canLayAll0, PyData.canLay0, can_dn, can_dnn ls]; rfl
theorem depth_dnn : ∀ ls : List (List Nat), PyData.depthAll (dnn ls) ≤ 1
  | [] => by rw [show dnn [] = [] from rfl, PyData.depthAll]; decide
  | l :: ls => by
    rw [show dnn (l :: ls) = PyData.list (dn l) :: dnn ls from rfl, PyData.depthAll, PyData.depth, depth_dn]
    have := depth_dnn ls
    omega
theorem shaped_dnn (ls : List (List Nat)) : SeqAt.shaped (.list (dnn ls)) = true := by
  have := depth_dnn ls
  unfold SeqAt.shaped
  rw [PyData.canLay0, can_dnn, PyData.depth]
  simp
  omega
theorem dp_lists {K : PySem.W.Frag} {H : Hp} : ∀ {as : List Addr} {ls : List (List Nat)}, ListsAt H as ls → DpAll K H (refs as) (dnn ls)
  | _, _, .nil => .nil
  | _, _, .cons r t => .cons (dp_nl r) (dp_lists t)
def spRanks (C : Ad) : Sp := fun vs H Q _ => ∃ (a g r : Addr) (M : Mach) (near : List (List Nat)), vs = [.ref a, .ref g, .ref r, .int (SR.cnt M near (List.range near.length) SR.zero : Nat)] ∧ PileAt H a ∧ GraphOff C.G a H g near ∧ RuleAt C.R H r M ∧ MOk M ∧ 0 < near.length ∧ near.length ≤ 7 ∧
  0 < SR.cnt M near (List.range near.length) SR.zero ∧ SR.cnt M near (List.range near.length) SR.zero ≤ 10000 ∧ ∀ H' : Hp, SameX a H H' → PileAt H' a → Q (.bl true) H'
theorem RuleAt.x {C a : Addr} {H H' : Hp} {r : Addr} {M : Mach} (s : SameX a H H') (hp : PileAt H a) (h : RuleAt C H r M) : RuleAt C H' r M := by
  obtain ⟨x1, x2, x3, ha⟩ := hp
  obtain ⟨dx, rl, fl, as, h1, h2, h3, h4⟩ := h
  refine ⟨dx, rl, fl, as, s _ _ (ne_of h1 ha (fun z => nomatch z)) h1, s _ _ (ne_of h2 ha (fun z => ?_)) h2, Paired.imp (fun b t e => (show H' b = _ from s _ _ (ne_of (show H b = some (.tup (nl t)) from e) ha (by intro z; cases z)) e)) h3, s _ _ (ne_of h4 ha (fun z => ?_)) h4⟩
  · cases as with
    | nil => cases z
    | cons b as => cases z
  · generalize M.flags = fs at z
    cases fs with
    | nil => cases z
    | cons b bs => cases z
theorem TiesAt_len {H : Hp} {as : List Addr} {ls : List (List Nat)} (h : ListsAt H as ls) : as.length = ls.length := Paired.length h
theorem nl_casts (l : List Nat) : (casts l).map V.int = nl l := by unfold nl casts; rw [List.map_map]; rfl
theorem two_false {c : Bool} {t u : TT} {σ : L2.St} {H : Hp} {Q : Bool → Hp → Prop} (hq : Q false H) (ht : c = true → ∀ R : Bool → Hp → Prop, R false H → t σ H R) (hu : c = true → ∀ R : Bool → Hp → Prop, R false H → u σ H R) : if c = true then tOr t u σ H Q else Q false H := by
  cases c with
  | false => exact hq
  | true => exact ht rfl _ (hu rfl _ hq)
theorem ords_at {M : Mach} {near : List (List Nat)} {r : Nat} (h : r < SR.cnt M near (List.range near.length) SR.zero) : ∃ o, (ORD M near)[r]? = some o ∧ SR.By M near o (List.range near.length) SR.zero ∧ SR.rk M near o (List.range near.length) SR.zero = r := by
  have hl : r < (ORD M near).length := by
    unfold SR.cnt at h
    rw [List.length_range] at h
    exact h
  have e : (ORD M near)[r]? = some (ORD M near)[r] := List.getElem?_eq_getElem hl
  obtain ⟨h1, h2⟩ := SR.ords_by near.length (List.range near.length) SR.zero List.length_range List.pairwise_lt_range r _ e
  exact ⟨_, e, h1, h2⟩
section
variable {P : Program} {w : World} {K : PySem.W.Frag} {mg : Str → Option Value} {base : Heap} {C : Ad} {IN : Addr}
theorem ok_ranks (T : Bl mg) (PC : ProgC K C.P) (D : Df K mg "_law_ranks_right" (topS 87)) (FT : FnB P w K mg base CX0 2 "_law_take" ["_law_pile_here", "_law_many"] [] spTake) (FA : FnB P w K mg base (L2.CX P w) 14 "order_at" ["graph", "rule", "rank"] [] (spOrder C IN))
    (FR : FnB P w K mg base CX0 14 "rank_of" ["graph", "rule", "order"] [] (spRank C)) (FB : FnB P w K mg base CX0 5 "bad_step" ["graph", "rule", "order"] [] (spBad C)) (FX : FnB P w K mg base CX0 15 "_law_refused" ["_law_graph_here", "_law_rule_here", "_law_rank"] [] (spRefused C))
    (FBw : FnB P w K mg base CX0 4 "begun_with" ["graph", "rule", "begun"] [] (spBegunW C)) (FFr : MeB P w K mg base CX0 2 C.P "free" ["self"] (spFree C)) (FBh : MeB P w K mg base CX0 3 C.P "behind" ["self", "node"] (spBehind C)) (FO : Dk K mg "orders" (topS 69) [("begun", .non)]) :
    FnB P w K mg base CX0 16 "_law_ranks_right" ["_law_pile_here", "_law_graph_here", "_law_rule_here", "_law_many"] [] (spRanks C) := by
  refine D.ok sc__law_ranks_right (fun vs H Q E h => ?_) (fun _ _ _ _ _ _ us hl => match us, hl with | [_, _, _, _], _ => rfl) (fun f cdv A outer s H vs Q E hr h => ?_)
  · obtain ⟨a, g, r, M, near, rfl, _⟩ := h
    rfl
  · obtain ⟨a, g, r, M, near, rfl, hp, hg, hru, hM, h0, h7, hpos, hle, q⟩ := h
    refine ⟨_, (pss_cons (ps_set (i := 4) sc__law_ranks_right.nd rfl (Or.inl rfl) (pe_lst (pa_cons pe_int (pa_cons (pe_op op_sub (pv 3) pe_int) (pa_cons (pe_fn FT (hr.mono (by decide)) pass0 (pa_cons (pv 0) (pa_cons (pv 3) pa_nil))) (pa_cons (pe_callB (call_min2 rfl) (by rfl) T.b_min (by decide +kernel) (pa_cons (pe_op op_sub (pv 3) pe_int) (pa_cons pe_int pa_nil))) pa_nil)))))) (pss_cons (ps_setLc (i := 5) (own := [("_law_rank", 6)]) rfl sc__law_ranks_right.nd rfl rfl (sw_true rfl rfl rfl (by decide +kernel)) (pi_list (pv 4)) (blkOk_by (own := [("_law_rank", 6)]) (N := N__law_ranks_right) (sc := defScope (topS 87)) (by decide +kernel)) (fun _ _ _ _ _ => (pg_name (i := 6) sc__law_ranks_right.nd rfl (Or.inl rfl))) (fun _ _ _ _ _ => pts_nil) (fun _ _ _ _ _ => (pe_fn FA (hr.mono (by decide)) passL (pa_cons (pv 1) (pa_cons (pv 2) (pa_cons (pv 6) pa_nil)))))) (pss_cons (ps_for PassesOwn.never rfl (pi_zip (by rfl) T.b_zip (pa_cons (pv 4) (pa_cons (pv 5) pa_nil))) (pg_tup rfl (pgs_cons (pg_name (i := 6) sc__law_ranks_right.nd rfl (Or.inl rfl)) (pgs_cons (pg_name (i := 7) sc__law_ranks_right.nd rfl (Or.inl rfl)) pgs_nil))) (pss_one (ps_if (PW.pt (pw_or (pt_cmpR op_ne (pe_fn FR (hr.mono (by decide)) pass0 (pa_cons (pv 1) (pa_cons (pv 2) (pa_cons (pv 7) pa_nil)))) (pv 6) (nomark _)) (pw_or1 (pt_cmp (pc_notN (pe_fn FB (hr.mono (by decide)) pass0 (pa_cons (pv 1) (pa_cons (pv 2) (pa_cons (pv 7) pa_nil))))) rfl)))) (pss_one (ps_ret pe_bl)) pss_nil))) (pss_cons (ps_if (PW.pt (pw_and (pt_cmpR op_gt (pv 3) pe_int (nomark _)) (pw_and1 (PW.pt (pw_or (pt_cmpR (op_geL (Nat.lt_of_le_of_lt (Nat.le_add_right _ _) hr.units)) (pe_ix ix_list (pv 5) pe_int (fun _ _ => rfl)) (pe_ix ix_list (pv 5) pe_int (fun _ _ => rfl)) (nomark _)) (pw_or1 (pt_cmpR (op_gtL (Nat.lt_of_le_of_lt (Nat.le_add_right _ _) hr.units)) (pe_ix ix_list (pv 5) pe_int (fun _ _ => rfl)) (pe_ix ix_list (pv 5) pe_int (fun _ _ => rfl)) (nomark _)))))))) (pss_one (ps_ret pe_bl)) pss_nil) (pss_cons (ps_set (i := 8) sc__law_ranks_right.nd rfl (Or.inl rfl) (pe_lst pa_nil)) (pss_cons (ps_first (iO := 9) (iF := 8) T PC FBw FFr FBh FO (hr.mono (by decide)) (by rfl) (fun _ _ h => h) sc__law_ranks_right.nd (by rfl) (by rfl) (by rfl) (by rfl) (by decide) (by rfl) (by rfl) (pa_cons (pv 1) (pa_cons (pv 2) pa_nil))) (pss_cons (ps_if (pt_cmpR (op_neD hr.units) (pv 8) (pe_slice sl_list (pe_lst (pa_cons (pe_ix ix_list (pv 5) pe_int (fun _ _ => rfl)) (pa_cons (pe_ix ix_list (pv 5) pe_int (fun _ _ => rfl)) pa_nil))) po_none (po_some (pe_callB (call_min2 rfl) (by rfl) T.b_min (by decide +kernel) (pa_cons pe_int (pa_cons (pv 3) pa_nil))))) (nomark _)) (pss_one (ps_ret pe_bl)) pss_nil) (pss_one (ps_ret (pe_and (pe_fn FX hr pass0 (pa_cons (pv 1) (pa_cons (pv 2) (pa_cons (pv 3) pa_nil)))) (pe_one (pe_fn FX hr pass0 (pa_cons (pv 1) (pa_cons (pv 2) (pa_cons (pe_op op_add (pv 3) (pe_fn FT (hr.mono (by decide)) pass0 (pa_cons (pv 0) (pa_cons (pe_op op_pow pe_int pe_int) pa_nil)))) pa_nil))))))))))))))), ?_⟩
    have hat := fun r => ords_at (M := M) (near := near) (r := r)
    have hOl : (ORD M near).length = SR.cnt M near (List.range near.length) SR.zero := by unfold SR.cnt; rw [List.length_range]
    generalize hN : SR.cnt M near (List.range near.length) SR.zero = N at *
    refine ⟨_, rfl, _, _, rfl, rfl, ?_⟩
    refine ⟨_, rfl, _, rfl, a, N, rfl, hp, hpos, Nat.le_trans hle (by decide), fun d H1 hd sx fr hp1 => ?_⟩
    refine ⟨_, rfl, _, _, rfl, rfl, _, _, rfl, ?_⟩
    refine ⟨by show 4 ≤ sizeLine; decide, fun rk nrk => ?_⟩
    obtain ⟨H2, e2, _, s12, hrk, _⟩ := new_as (o := .lst [V.int 0, V.int ((N : Int) - 1), V.int (d : Int), V.int (if (1 : Int) < (N : Int) - 1 then (1 : Int) else (N : Int) - 1)]) (Same.refl H1) nrk
    rw [← e2]
    clear e2
    rw [show (N : Int) - 1 = ((N - 1 : Nat) : Int) by omega, show (if (1 : Int) < ((N - 1 : Nat) : Int) then (1 : Int) else ((N - 1 : Nat) : Int)) = ((min (N - 1) 1 : Nat) : Int) by split <;> omega, show [V.int 0, V.int ((N - 1 : Nat) : Int), V.int (d : Int), V.int ((min (N - 1) 1 : Nat) : Int)] = nl [0, N - 1, d, min (N - 1) 1] from rfl] at hrk
    have hR : ∀ i ∈ [0, N - 1, d, min (N - 1) 1], i < N := by
      intro i hi
      simp only [List.mem_cons, List.not_mem_nil, or_false] at hi
      omega
    have hg2 : GraphOff C.G a H2 g near := by
      obtain ⟨x1, x2, x3, ha⟩ := hp
      exact (GraphOff.x sx ha hg).same s12
    have hru2 : RuleAt C.R H2 r M := (RuleAt.x sx hp hru).same s12
    generalize hRS : [0, N - 1, d, min (N - 1) 1] = RS at hrk hR
    have hOS : ∀ o ∈ RS.map fun i => (ORD M near).getD i [], 0 < o.length := by
      intro o ho
      obtain ⟨rr, hrr, rfl⟩ := List.mem_map.mp ho
      obtain ⟨o0, ho0, _⟩ := hat rr (hR rr hrr)
      rw [List.getD_eq_getElem?_getD, ho0]
      show 0 < o0.length
      rw [ords_len _ _ _ o0 (List.mem_of_getElem? ho0)]
      exact h0
    refine ⟨_, rfl, rk, rfl, ⟨_, SqL.of hrk⟩, fun Dd nD => ?_⟩
    refine lc_list (K := K) (a := rk) (xs := nl RS) (fun i H3 => FInv Dd H2 (RS.map fun i => (ORD M near).getD i []) i H3) ⟨[], upd_same, .nil, fun b o n e => by rw [upd_ne n]; exact e⟩ (fun i H3 _ ⟨_, _, _, s3⟩ => SqL.of (s3 _ _ (ne_of_none hrk nD) hrk)) ?_ ?_
    · rintro i x H3 hx ⟨ls, hf1, hf2, hf3⟩
      obtain ⟨rr, hrr, rfl⟩ := nl_get hx
      have hrN := hR rr (List.mem_of_getElem? hrr)
      have h23 : Same H2 H3 := SameX.same hf3 nD
      obtain ⟨o0, ho0, _⟩ := hat rr hrN
      have hOi : (RS.map fun i => (ORD M near).getD i [])[i]? = some o0 := by
        rw [List.getElem?_map, hrr, Option.map_some, List.getD_eq_getElem?_getD, ho0]
        rfl
      refine ⟨rfl, ?_⟩
      refine ⟨_, rfl, _, rfl, _, rfl, g, r, M, near, rr, rfl, (hg2.same h23).at, hru2.same h23, hM, h7, fun H4 l o ho s34 l0 hl => ?_, fun hc => absurd hrN (by rw [hN] at hc; omega)⟩
      rw [ho0] at ho
      obtain rfl := Option.some.inj ho
      refine ⟨refs ls, s34 _ _ hf1, ?_, ?_⟩
      · rw [refs_length, TiesAt_len hf2, List.length_take]
        exact line_lt (by have : (RS.map fun i => (ORD M near).getD i []).length = 4 := by rw [← hRS]; rfl
                          omega)
      · exact FInv.app (s34 _ _ hf1) (hf2.same s34) (fun b o nb e => s34 _ _ (hf3 _ _ nb e)) hOi hl hOS
    · rintro H3 ⟨ls, hf1, hf2, hf3⟩
      have h23 : Same H2 H3 := SameX.same hf3 nD
      rw [nl_length, show RS.length = (RS.map fun i => (ORD M near).getD i []).length by rw [List.length_map], List.take_length] at hf2
      have hrk3 := h23 _ _ hrk
      have hg3 := hg2.same h23
      have hru3 := hru2.same h23
      refine ⟨_, rfl, _, rfl, rk, Dd, _, _, rfl, SqL.of hrk3, SqL.of hf1, RZ.for_zipL (K := K) (a := rk) (b := Dd) (by rw [nl_length, refs_length, Paired.length hf2, List.length_map]) (fun i σ H4 => ∃ v6 v7, σ = [some (.ref a), some (.ref g), some (.ref r), some (.int (N : Int)), some (.ref rk), some (.ref Dd), v6, v7, none, none] ∧ Same H3 H4)
        ⟨_, _, rfl, Same.refl H3⟩ (fun i σ H4 ⟨_, _, _, h4⟩ => ⟨SqL.of (h4 _ _ hrk3), SqL.of (h4 _ _ hf1)⟩) ?_ ?_⟩
      · rintro i x y t σ H4 hx hy ⟨v6, v7, rfl, s4⟩ nt
        obtain ⟨rr, hrr, rfl⟩ := nl_get hx
        obtain ⟨l, hl, rfl⟩ := refs_get hy
        obtain ⟨o, ho, hlo⟩ := Paired.get hf2 hl
        obtain ⟨o0, ho0, hBy, hrk0⟩ := hat rr (hR rr (List.mem_of_getElem? hrr))
        rw [List.getElem?_map, hrr, Option.map_some, List.getD_eq_getElem?_getD, ho0] at ho
        obtain rfl : o0 = o := Option.some.inj ho
        obtain ⟨H5, e5, s5, s45, ht, _⟩ := new_as (o := .tup [.int (rr : Int), .ref l]) s4 nt
        rw [← e5]
        clear e5
        refine ⟨t, _, rfl, SqT.of ht, rfl, _, _, rfl, _, _, rfl, rfl, ?_⟩
        refine ⟨_, rfl, _, rfl, _, rfl, g, r, l, M, near, o0, rfl, (hg3.same s5).at, hru3.same s5, hM, h7, s5 _ _ hlo, hBy, fun H6 s56 => ?_⟩
        rw [hrk0]
        refine ⟨_, rfl, rfl, _, rfl, ?_⟩
        rw [show (!decide (V.int (rr : Int) = V.int (rr : Int))) = false by simp]
        refine iteF ?_
        refine ⟨_, rfl, _, rfl, _, rfl, g, r, l, M, near, o0, rfl, ((hg3.same s5).same s56).at, (hru3.same s5).same s56, hM, h7, s56 _ _ (s5 _ _ hlo), hBy, fun H7 s67 => ?_⟩
        refine ⟨_, rfl, ?_⟩
        refine iteF ?_
        exact ⟨_, _, rfl, (s5.trans s56).trans s67⟩
      · rintro σ H4 ⟨v6, v7, rfl, s4⟩
        have hg4 := hg3.same s4
        have hru4 := hru3.same s4
        have s24 := h23.trans s4
        have hO : ∀ i, i < N → (ORD M near)[i]? = some ((ORD M near).getD i []) := fun i hi => by
          obtain ⟨o0, e, _⟩ := hat i hi
          rw [List.getD_eq_getElem?_getD, e]
          rfl
        have hOn : ∀ i, i < N → ((ORD M near).getD i []).length = near.length := fun i hi => ords_len _ _ _ _ (List.mem_of_getElem? (hO i hi))
        have hlex : ∀ i j, i < j → j < N → SR.lexLt ((ORD M near).getD i []) ((ORD M near).getD j []) := fun i j hij hj => by
          have hi' : i < (ORD M near).length := by omega
          have hj' : j < (ORD M near).length := by omega
          have := List.pairwise_iff_getElem.mp (SR.ords_rising M near near.length (List.range near.length) SR.zero List.pairwise_lt_range) i j hi' hj' hij
          rw [List.getD_eq_getElem?_getD, List.getD_eq_getElem?_getD, List.getElem?_eq_getElem hi', List.getElem?_eq_getElem hj']
          exact this
        subst hRS
        generalize hoo : (fun i => (ORD M near).getD i []) = O at hf2
        have hOO : ∀ i, (ORD M near).getD i [] = O i := fun i => by rw [← hoo]
        simp only [hOO] at hO hOn hlex
        have four : ∃ l0 l1 l2 l3, ls = [l0, l1, l2, l3] ∧ H3 l0 = some (.lst (nl (O 0))) ∧ H3 l1 = some (.lst (nl (O (N - 1)))) ∧ H3 l3 = some (.lst (nl (O (min (N - 1) 1)))) := by
          cases hf2 with
          | @cons l0 _ _ _ q0 h =>
            cases h with
            | @cons l1 _ _ _ q1 h =>
              cases h with
              | @cons l2 _ _ _ q2 h =>
                cases h with
                | @cons l3 _ _ _ q3 h =>
                  cases h
                  exact ⟨l0, l1, l2, l3, rfl, q0, q1, q3⟩
        obtain ⟨l0, l1, l2, l3, rfl, q0, q1, q3⟩ := four
        clear hf2
        have hf4 := s4 _ _ hf1
        have q0 := s4 _ _ q0
        have q1 := s4 _ _ q1
        have q3 := s4 _ _ q3
        have a0 : atI (refs [l0, l1, l2, l3]) 0 = some (.ref l0) := atI_nat (show (refs [l0, l1, l2, l3])[0]? = some (V.ref l0) from rfl)
        have a1 : atI (refs [l0, l1, l2, l3]) 1 = some (.ref l1) := atI_nat (show (refs [l0, l1, l2, l3])[1]? = some (V.ref l1) from rfl)
        have a3 : atI (refs [l0, l1, l2, l3]) 3 = some (.ref l3) := atI_nat (show (refs [l0, l1, l2, l3])[3]? = some (V.ref l3) from rfl)
        have S0 : SqL K H4 l0 ((casts (O 0)).map V.int) := by rw [nl_casts]; exact SqL.of q0
        have S1 : SqL K H4 l1 ((casts (O (N - 1))).map V.int) := by rw [nl_casts]; exact SqL.of q1
        have S3 : SqL K H4 l3 ((casts (O (min (N - 1) 1))).map V.int) := by rw [nl_casts]; exact SqL.of q3
        refine ⟨_, rfl, _, _, rfl, rfl, _, rfl, ?_⟩
        refine two_false ?_ (fun hc R hR => ?_) (fun hc R hR => ?_)
        · refine ⟨Nat.zero_le _, fun fo nfo => ?_⟩
          obtain ⟨H5, e5, _, s45, hfo, _⟩ := new_as (o := .lst []) (Same.refl H4) nfo
          rw [← e5]
          clear e5
          refine ⟨_, rfl, _, rfl, g, r, fo, M, near, H4, rfl, rfl, hfo, hg4.at, hru4, hM, h7, h0, s45, nfo, by rw [hOl]; exact hpos, fun v H6 hF => ?_⟩
          obtain ⟨ks, hk1, hk2, hk3⟩ := hF
          have s46 : Same H4 H6 := fun b o e => hk3 _ _ (ne_of_none e nfo) (s45 _ _ e)
          have hcut : ∃ cs, cutV [V.ref l0, V.ref l3] none (some (if (N : Int) < 2 then (N : Int) else 2)) = refs cs ∧ ∀ Hx, Same H4 Hx → ListsAt Hx cs ((ORD M near).take (min 2 (ORD M near).length)) := by
            have t1 := take_get (hO 0 hpos)
            by_cases z : N = 1
            · refine ⟨[l0], ?_, fun Hx sx => ?_⟩
              · rw [z]; rfl
              · rw [show min 2 (ORD M near).length = 0 + 1 by omega, t1]
                exact .cons (sx _ _ q0) .nil
            · have t2 := take_get (hO 1 (by omega))
              refine ⟨[l0, l3], ?_, fun Hx sx => ?_⟩
              · rw [if_neg (by omega)]; rfl
              · rw [show min 2 (ORD M near).length = 1 + 1 by omega, t2, t1]
                rw [show min (N - 1) 1 = 1 by omega] at q3
                exact .cons (sx _ _ q0) (.cons (sx _ _ q3) .nil)
          obtain ⟨cs, hcs1, hcs2⟩ := hcut
          have hf6 := s46 _ _ hf4
          refine ⟨_, rfl, _, rfl, Dd, _, _, _, rfl, rfl, SqL.of hf6, a0, _, rfl, Dd, _, _, _, rfl, rfl, SqL.of hf6, a3, by show 2 ≤ sizeLine; decide, fun z nz => ?_⟩
          obtain ⟨H7, e7, _, s67, hz, _⟩ := new_as (o := .lst [V.ref l0, V.ref l3]) (Same.refl H6) nz
          rw [← e7]
          clear e7
          refine ⟨_, rfl, _, _, rfl, _, rfl, z, _, rfl, SqL.of hz, fun y ny => ?_⟩
          rw [hcs1]
          obtain ⟨H8, e8, _, s78, hy, _⟩ := new_as (o := .lst (refs cs)) (Same.refl H7) ny
          rw [← e8]
          clear e8
          have s68 : Same H6 H8 := s67.trans s78
          have s48 : Same H4 H8 := s46.trans s68
          refine ⟨_, _, .lst (SqL.of (s68 _ _ hk1)) (dp_lists (hk2.same s68)), .lst (SqL.of hy) (dp_lists (hcs2 H8 s48)), shaped_dnn _, shaped_dnn _, _, rfl, ?_⟩
          rw [eqv_dnn]
          refine iteF ?_
          refine ⟨_, rfl, _, rfl, _, rfl, g, r, M, near, N, rfl, (hg4.same s48).at, hru4.same s48, hM, h7, Nat.le_of_eq hN, fun H9 s89 => ⟨true, rfl, iteT ?_⟩⟩
          have s19 : Same H1 H9 := fun b o e => s89 _ _ (s48 _ _ (s24 _ _ (s12 _ _ e)))
          have hp9 : PileAt H9 a := by
            obtain ⟨x1, x2, x3, hx⟩ := hp1
            exact ⟨x1, x2, x3, s19 _ _ hx⟩
          refine ⟨_, rfl, _, rfl, _, rfl, _, rfl, _, _, rfl, rfl, ⟨by decide, by decide, by decide⟩, a, 10 ^ 20, by show [V.ref a, V.int ((10 : Int) ^ (20 : Int).toNat)] = [V.ref a, V.int ((10 ^ 20 : Nat) : Int)]; rw [show ((10 : Int) ^ (20 : Int).toNat) = ((10 ^ 20 : Nat) : Int) from by decide], hp9, by decide, Nat.le_refl _, fun d2 H10 hd2 sx10 fr10 hp10 => ?_⟩
          have hg9 := (hg4.same s48).same s89
          have hru9 := (hru4.same s48).same s89
          have hg10 : GraphOff C.G a H10 g near := by
            obtain ⟨x1, x2, x3, hx⟩ := hp9
            exact GraphOff.x sx10 hx hg9
          refine ⟨_, _, rfl, rfl, g, r, M, near, N + d2, by show [V.ref g, V.ref r, V.int ((N : Int) + (d2 : Int))] = [V.ref g, V.ref r, V.int ((N + d2 : Nat) : Int)]; rw [Int.natCast_add], hg10.at, RuleAt.x sx10 hp9 hru9, hM, h7, by omega, fun H11 s11 => ?_⟩
          refine q H11 (fun b o nb e => s11 _ _ (sx10 _ _ nb (s19 _ _ (sx _ _ nb e)))) ?_
          obtain ⟨x1, x2, x3, hx⟩ := hp10
          exact ⟨x1, x2, x3, s11 _ _ hx⟩
        · have hc' : 1 < N := by have := of_decide_eq_true hc; omega
          refine ⟨_, rfl, Dd, _, _, _, rfl, rfl, SqL.of hf4, a0, _, rfl, Dd, _, _, _, rfl, rfl, SqL.of hf4, a3, l0, l3, _, _, rfl, rfl, S0, S3, _, rfl, ?_⟩
          rw [lex_ge (hlex 0 (min (N - 1) 1) (by omega) (by omega)) ((hOn 0 (by omega)).trans (hOn _ (by omega)).symm)]
          exact hR
        · have hc' : 1 < N := by have := of_decide_eq_true hc; omega
          refine ⟨_, rfl, Dd, _, _, _, rfl, rfl, SqL.of hf4, a3, _, rfl, Dd, _, _, _, rfl, rfl, SqL.of hf4, a1, l3, l1, _, _, rfl, rfl, S3, S1, _, rfl, ?_⟩
          rw [lex_gt (by
            by_cases z : N = 2
            · exact .inr (by rw [show min (N - 1) 1 = N - 1 by omega])
            · exact .inl (hlex (min (N - 1) 1) (N - 1) (by omega) (by omega))) ((hOn _ (by omega)).trans (hOn _ (by omega)).symm)]
          exact hR
end
end W
end
section
set_option Elab.async false
set_option linter.all false
set_option maxRecDepth 100000
set_option maxHeartbeats 4000000
namespace W
open PySem PySem.Spec PyProof.Rows L2
open SR (Tie Mach Stt)
abbrev N_law : List Str := ["_law_script", "_law_at", "_law_pile_here", "_law_size", "_law_names", "_law_rule_here", "_law_tree", "_law_every", "_law_one", "_law_whole", "_law_path", "_law_some", "_law_graph_here", "_law_other", "_law_k", "_law_tie"]
theorem sc_law : FnScope N_law ["_law_script"] (defScope (topS 88)) := ⟨rfl, rfl, rfl, by decide +kernel, rfl, by decide +kernel, by decide +kernel⟩
theorem sql_same {K : PySem.W.Frag} {H H' : Hp} {a : Addr} {xs : List V} (h : SqL K H a xs) (s : Same H H') : SqL K H' a xs := by
  rcases h with (h | ⟨o, h⟩) | h
  · exact .inl (.inl (s _ _ h))
  · exact .inl (.inr ⟨o, s _ _ h⟩)
  · exact .inr h
/-- the pile apart, all as it was -/
structure Go (a : Addr) (H H' : Hp) : Prop where
  x : SameX a H H'
  p : PileAt H' a
theorem Go.trans {a : Addr} {H H1 H2 : Hp} (g : Go a H H1) (h : Go a H1 H2) : Go a H H2 := ⟨g.x.trans h.x, h.p⟩
theorem Go.same {a : Addr} {H H1 H2 : Hp} (g : Go a H H1) (s : Same H1 H2) : Go a H H2 := ⟨g.x.trans (Same.x s), by
  obtain ⟨x1, x2, x3, hx⟩ := g.p
  exact ⟨x1, x2, x3, s _ _ hx⟩⟩
theorem Go.refl {a : Addr} {H : Hp} (p : PileAt H a) : Go a H H := ⟨fun _ _ _ e => e, p⟩
theorem Go.refs {a : Addr} {H H' : Hp} (g : Go a H H') (p : PileAt H a) {l : Addr} {as : List Addr} (h : H l = some (.lst (refs as))) : H' l = some (.lst (refs as)) := by
  obtain ⟨x1, x2, x3, hx⟩ := p
  refine g.x _ _ (ne_of h hx fun z => ?_) h
  cases as with
  | nil => cases z
  | cons b as => cases z
theorem Go.strs {a : Addr} {H H' : Hp} (g : Go a H H') (p : PileAt H a) {l : Addr} {ss : List Str} (h : H l = some (.lst (ss.map V.str))) : H' l = some (.lst (ss.map V.str)) := by
  obtain ⟨x1, x2, x3, hx⟩ := p
  refine g.x _ _ (ne_of h hx fun z => ?_) h
  cases ss with
  | nil => cases z
  | cons b as => cases z
theorem Go.ties {a : Addr} {H H' : Hp} (g : Go a H H') (p : PileAt H a) {as : List Addr} {ts : List Tie} (h : TiesAt H as ts) : TiesAt H' as ts := by
  obtain ⟨x1, x2, x3, hx⟩ := p
  exact TiesAt.x g.x hx h
theorem Go.rule {C a : Addr} {H H' : Hp} (g : Go a H H') (p : PileAt H a) {r : Addr} {M : Mach} (h : RuleAt C H r M) : RuleAt C H' r M := RuleAt.x g.x p h
theorem Go.graph {C a : Addr} {H H' : Hp} (g : Go a H H') (p : PileAt H a) {r : Addr} {near : List (List Nat)} (h : GraphOff C a H r near) : GraphOff C a H' r near := by
  obtain ⟨x1, x2, x3, hx⟩ := p
  exact GraphOff.x g.x hx h
theorem go_next {D : Ends} {σ : L2.St} {H : Hp} (h : D.nx σ H) : tNext D σ H := h
theorem go_asg {te : TE} {g : TG} {t : TS} {D : Ends} {σ : L2.St} {H : Hp} (h : te σ H fun v H1 => g v σ H1 fun σ' H' => t D σ' H') : tSeq (tAsg te g) t D σ H := h
/-- Graph(n, ties) behind its arguments -/
theorem r_make {C : Addr} {n : Nat} {H : Hp} {l : Addr} {as : List Addr} {us : List Tie} {Q : VK} {E : XK} (h1 : 1 ≤ n) (h60 : n ≤ 60) (hl : H l = some (.lst (refs as))) (hT : TiesAt H as us) (hok : TiesOk n us)
    (q : ∀ (x : Addr) (H' : Hp) (us' : List Tie), Same H H' → us'.Perm us → GraphNew C H H' x (SR.nears n us') → Q (.ref x) H') :
    ∀ x dx, H x = none → H dx = none → dx ≠ x → spGraph C (.ref x :: ([.int (n : Int), .ref l] ++ [])) (upd (upd H dx (.own x)) x (.ins C dx [])) (fun v H2 => v = .non ∧ Q (.ref x) H2) E := by
  intro x dx hx hdx ne
  have s0 : Same H (upd (upd H dx (.own x)) x (.ins C dx [])) := fun b o e => by
    rw [upd_ne (ne_of_none e hx), upd_ne (ne_of_none e hdx)]
    exact e
  refine ⟨x, dx, n, l, as, us, rfl, upd_same, by rw [upd_ne ne, upd_same], h1, h60, s0 _ _ hl, hT.same s0, hok, fun H' us' sx hp hg => ⟨rfl, q x H' us' (fun b o e => sx _ _ (ne_of_none e hx) (s0 _ _ e)) hp ?_⟩⟩
  obtain ⟨ddx, tl, nr, bs, g1, g2, g3, g4⟩ := hg
  refine ⟨ddx, tl, nr, bs, g1, g2, g3, fun b hb => ?_⟩
  cases z : H b with
  | none => rfl
  | some o =>
    have := s0 _ _ z
    rw [g4 b hb] at this
    cases this
/-- count_orders(Graph(n, ties), rule) -/
theorem r_count {C : Ad} {σ : L2.St} {H : Hp} {Q : VK} {tr : TE} {j n : Nat} {l : Addr} {as : List Addr} {us : List Tie} {M : Mach} (h3 : σ[3]? = some (some (.int (n : Int)))) (hj : σ[j]? = some (some (.ref l))) (h1 : 1 ≤ n) (h7 : n ≤ 7) (hl : H l = some (.lst (refs as))) (hT : TiesAt H as us) (hok : TiesOk n us) (hM : MOk M)
    (ht : ∀ (H1 : Hp) (R : VK), Same H H1 → (∀ (r : Addr) (H2 : Hp), Same H1 H2 → RuleAt C.R H2 r M → R (.ref r) H2) → tr σ H1 R) (q : ∀ H2 : Hp, Same H H2 → Q (.int (SR.total M n us : Nat)) H2) :
    tCall (spCount C) [.non] E0 (tCons (tMake C.G (spGraph C.G) [] E0 (tCons (tVar 3) (tCons (tVar j) tNil))) (tCons tr tNil)) σ H Q := by
  refine ⟨_, h3, _, hj, ?_⟩
  refine r_make (C := C.G) (E := E0) (Q := fun v H2 => tr σ H2 fun r H3 => spCount C ([v, r] ++ [.non]) H3 Q E0) h1 (by omega) hl hT hok fun x H1 us' s1 hp hg => ht H1 _ s1 fun r H2 s12 hr => ⟨x, r, M, SR.nears n us', rfl, hg.at.same s12, hr, hM, by rw [nears_length]; exact h7, fun H3 s23 => ?_⟩
  rw [nears_length]
  have := q H3 ((s1.trans s12).trans s23)
  rw [← SR.total_perm (M := M) (n := n) hp] at this
  exact this
/-- [(_law_take(pile, other), other) for other in range(1, n)] -/
theorem r_tree {w0 w1 w4 w5 w6 w7 w8 w9 w10 w11 w12 : Option V} {H : Hp} {Q : VK} {a : Addr} {n : Nat} (h1 : 1 ≤ n) (h7 : n ≤ 7) (hp : PileAt H a)
    (q : ∀ (H' : Hp) (l : Addr) (as : List Addr) (f : Nat → Nat), SR.Qok n f → Go a H H' → H l = none → H' l = some (.lst (refs as)) → TiesAt H' as (SR.treeL n f) → Q (.ref l) H') :
    tLc (iRng2 (tCons (tC (V.int 1)) (tCons (tVar 3) tNil))) (gName 13) tYes (tTup (tCons (tCall spTake [] E0 (tCons (tVar 2) (tCons (tVar 13) tNil))) (tCons (tVar 13) tNil))) [13] [w0, w1, some (.ref a), some (.int (n : Int)), w4, w5, w6, w7, w8, w9, w10, w11, w12, none, none, none] H Q := by
  refine ⟨_, rfl, 1, (n : Int), rfl, ⟨by decide, by decide, by omega, by omega⟩, fun D nD => ?_⟩
  rw [show ((n : Int) - 1).toNat = n - 1 by omega]
  refine lc_range (lo := 1) (n := n - 1) (H1 := H) (D := D) (fun i H4 => ∃ (as : List Addr) (f : Nat → Nat), (∀ o, 1 ≤ o → o ≤ i → f o < o) ∧ SameX a H H4 ∧ PileAt H4 a ∧ H4 D = some (.lst (refs as)) ∧ TiesAt H4 as ((List.range i).map fun k => (f (k + 1), k + 1))) ?_ ?_ ?_
  · obtain ⟨x1, x2, x3, hx⟩ := hp
    exact ⟨[], fun _ => 0, fun o h1 h2 => by omega, fun b o _ e => by rw [upd_ne (ne_of_none e nD)]; exact e, ⟨x1, x2, x3, by rw [upd_ne (ne_of_none hx nD)]; exact hx⟩, upd_same, .nil⟩
  · rintro i H4 hi ⟨as, f, hf, sx, hp4, hD4, hT4⟩
    refine ⟨rfl, ?_⟩
    refine ⟨_, rfl, _, rfl, a, i + 1, by show [V.ref a, V.int (1 + (i : Int))] = [V.ref a, V.int ((i + 1 : Nat) : Int)]; rw [show (1 : Int) + (i : Int) = ((i + 1 : Nat) : Int) by omega], hp4, by omega, Nat.le_trans (show i + 1 ≤ 7 by omega) (by decide), fun d H5 hd sx5 fr5 hp5 => ?_⟩
    refine ⟨_, rfl, by show 2 ≤ sizeLine; decide, fun y ny => ?_⟩
    obtain ⟨H6, e6, _, s56, hy, _⟩ := new_as (o := .tup [.int (d : Int), .int ((i + 1 : Nat) : Int)]) (Same.refl H5) ny
    rw [show (1 : Int) + (i : Int) = ((i + 1 : Nat) : Int) by omega, ← e6]
    clear e6
    have g45 : Go a H4 H5 := ⟨sx5, hp5⟩
    have hD5 := g45.refs hp4 hD4
    have hT5 := g45.ties hp4 hT4
    have hD6 := s56 _ _ hD5
    have hal : as.length = i := by rw [TiesAt.length hT4, List.length_map, List.length_range]
    refine ⟨refs as, hD6, by rw [refs_length]; exact line_lt (by omega), ?_⟩
    have nyD : y ≠ D := Ne.symm (ne_of_none hD5 ny)
    refine ⟨as ++ [y], fun o => if o = i + 1 then d else f o, fun o h1 h2 => ?_, fun b o nb e => ?_, ?_, ?_, ?_⟩
    · show (if o = i + 1 then d else f o) < o
      by_cases c : o = i + 1
      · rw [if_pos c]; omega
      · rw [if_neg c]; exact hf o h1 (by omega)
    · rw [upd_ne (ne_of_none e nD)]
      exact s56 _ _ (sx5 _ _ nb (sx _ _ nb e))
    · obtain ⟨x1, x2, x3, hx⟩ := hp5
      obtain ⟨y1, y2, y3, hy0⟩ := hp
      exact ⟨x1, x2, x3, by rw [upd_ne (ne_of_none hy0 nD)]; exact s56 _ _ hx⟩
    · rw [upd_same, refs_snoc]
    · rw [List.range_succ, List.map_append]
      refine paired_snoc ?_ ?_
      · show upd H6 D _ y = some (.tup [.int ((if i + 1 = i + 1 then d else f (i + 1) : Nat) : Int), .int ((i + 1 : Nat) : Int)])
        rw [if_pos rfl, upd_ne nyD]
        exact hy
      · have e : ((List.range i).map fun k => ((fun o => if o = i + 1 then d else f o) (k + 1), k + 1)) = (List.range i).map fun k => (f (k + 1), k + 1) := by
          apply List.map_congr_left
          intro k hk
          rw [List.mem_range] at hk
          show (if k + 1 = i + 1 then d else f (k + 1), k + 1) = _
          rw [if_neg (by omega)]
        rw [e]
        exact TiesAt.x (a := D) (l := refs as) (fun b o nb e => by rw [upd_ne nb]; exact s56 _ _ e) hD5 hT5
  · rintro H4 ⟨as, f, hf, sx, hp4, hD4, hT4⟩
    exact q H4 D as f (fun o h1 h2 => hf o h1 (by omega)) ⟨sx, hp4⟩ nD hD4 hT4
/-- [(k, k + 1) for k in range(n - 1)] -/
theorem r_path {w0 w1 w2 w4 w5 w6 w7 w8 w9 w10 w11 w12 : Option V} {H : Hp} {Q : VK} {n : Nat} (h1 : 1 ≤ n) (h7 : n ≤ 7)
    (q : ∀ (H' : Hp) (l : Addr) (as : List Addr), Same H H' → H l = none → H' l = some (.lst (refs as)) → TiesAt H' as (SR.pathL n) → Q (.ref l) H') :
    tLc (iRng1 (tCons (tOp (rI0 fun i j => V.int (i - j)) (tVar 3) (tC (V.int 1))) tNil)) (gName 14) tYes (tTup (tCons (tVar 14) (tCons (tOp (rI0 fun i j => V.int (i + j)) (tVar 14) (tC (V.int 1))) tNil))) [14] [w0, w1, w2, some (.int (n : Int)), w4, w5, w6, w7, w8, w9, w10, w11, w12, none, none, none] H Q := by
  refine ⟨_, rfl, _, _, rfl, rfl, (n : Int) - 1, rfl, by omega, by omega, fun D nD => ?_⟩
  rw [show ((n : Int) - 1).toNat = n - 1 by omega]
  refine lc_range (lo := 0) (n := n - 1) (H1 := H) (D := D) (fun i H4 => ∃ (as : List Addr), SameX D H H4 ∧ H4 D = some (.lst (refs as)) ∧ TiesAt H4 as ((List.range i).map fun k => (k, k + 1))) ?_ ?_ ?_
  · exact ⟨[], fun b o nb e => by rw [upd_ne nb]; exact e, upd_same, .nil⟩
  · rintro i H4 hi ⟨as, sx, hD4, hT4⟩
    refine ⟨rfl, ?_⟩
    refine ⟨_, rfl, _, rfl, _, _, rfl, rfl, by show 2 ≤ sizeLine; decide, fun y ny => ?_⟩
    obtain ⟨H6, e6, _, s56, hy, _⟩ := new_as (o := .tup [.int ((0 : Int) + (i : Int)), .int ((0 : Int) + (i : Int) + 1)]) (Same.refl H4) ny
    rw [← e6]
    clear e6
    rw [show (0 : Int) + (i : Int) = (i : Int) by omega, show (i : Int) + 1 = ((i + 1 : Nat) : Int) by omega] at hy
    have hD6 := s56 _ _ hD4
    have hal : as.length = i := by rw [TiesAt.length hT4, List.length_map, List.length_range]
    refine ⟨refs as, hD6, by rw [refs_length]; exact line_lt (by omega), ?_⟩
    have nyD : y ≠ D := Ne.symm (ne_of_none hD4 ny)
    refine ⟨as ++ [y], fun b o nb e => ?_, ?_, ?_⟩
    · rw [upd_ne nb]
      exact s56 _ _ (sx _ _ nb e)
    · rw [upd_same, refs_snoc]
    · rw [List.range_succ, List.map_append]
      refine paired_snoc ?_ (TiesAt.x (a := D) (l := refs as) (fun b o nb e => by rw [upd_ne nb]; exact s56 _ _ e) hD4 hT4)
      show upd H6 D _ y = _
      rw [upd_ne nyD]
      exact hy
  · rintro H4 ⟨as, sx, hD4, hT4⟩
    exact q H4 D as (SameX.same sx nD) nD hD4 hT4
/-- [(one, other) for other in range(one + 1, n)] -/
theorem r_row {w0 w1 w2 w4 w5 w6 w7 w9 w10 w11 w12 : Option V} {H : Hp} {Q : VK} {n j : Nat} (hj : j < n) (h7 : n ≤ 7)
    (q : ∀ (H' : Hp) (l : Addr) (as : List Addr), Same H H' → H l = none → H' l = some (.lst (refs as)) → TiesAt H' as ((List.range (n - (j + 1))).map fun k => (j, j + 1 + k)) → Q (.ref l) H') :
    tLc (iRng2 (tCons (tOp (rI0 fun i j => V.int (i + j)) (tVar 8) (tC (V.int 1))) (tCons (tVar 3) tNil))) (gName 13) tYes (tTup (tCons (tVar 8) (tCons (tVar 13) tNil))) [13] [w0, w1, w2, some (.int (n : Int)), w4, w5, w6, w7, some (.int (j : Int)), w9, w10, w11, w12, none, none, none] H Q := by
  refine ⟨_, rfl, _, _, rfl, rfl, _, rfl, (j : Int) + 1, (n : Int), rfl, ⟨by omega, by omega, by omega, by omega⟩, fun D nD => ?_⟩
  rw [show ((n : Int) - ((j : Int) + 1)).toNat = n - (j + 1) by omega]
  refine lc_range (lo := (j : Int) + 1) (n := n - (j + 1)) (H1 := H) (D := D) (fun i H4 => ∃ (as : List Addr), SameX D H H4 ∧ H4 D = some (.lst (refs as)) ∧ TiesAt H4 as ((List.range i).map fun k => (j, j + 1 + k))) ?_ ?_ ?_
  · exact ⟨[], fun b o nb e => by rw [upd_ne nb]; exact e, upd_same, .nil⟩
  · rintro i H4 hi ⟨as, sx, hD4, hT4⟩
    refine ⟨rfl, ?_⟩
    refine ⟨_, rfl, _, rfl, by show 2 ≤ sizeLine; decide, fun y ny => ?_⟩
    obtain ⟨H6, e6, _, s56, hy, _⟩ := new_as (o := .tup [.int (j : Int), .int ((j : Int) + 1 + (i : Int))]) (Same.refl H4) ny
    rw [← e6]
    clear e6
    rw [show (j : Int) + 1 + (i : Int) = ((j + 1 + i : Nat) : Int) by omega] at hy
    have hD6 := s56 _ _ hD4
    have hal : as.length = i := by rw [TiesAt.length hT4, List.length_map, List.length_range]
    refine ⟨refs as, hD6, by rw [refs_length]; exact line_lt (by omega), ?_⟩
    have nyD : y ≠ D := Ne.symm (ne_of_none hD4 ny)
    refine ⟨as ++ [y], fun b o nb e => ?_, ?_, ?_⟩
    · rw [upd_ne nb]
      exact s56 _ _ (sx _ _ nb e)
    · rw [upd_same, refs_snoc]
    · rw [List.range_succ, List.map_append]
      refine paired_snoc ?_ (TiesAt.x (a := D) (l := refs as) (fun b o nb e => by rw [upd_ne nb]; exact s56 _ _ e) hD4 hT4)
      show upd H6 D _ y = _
      rw [upd_ne nyD]
      exact hy
  · rintro H4 ⟨as, sx, hD4, hT4⟩
    exact q H4 D as (SameX.same sx nD) nD hD4 hT4
theorem refs_append (as bs : List Addr) : refs as ++ refs bs = refs (as ++ bs) := by unfold refs; rw [List.map_append]
theorem ties_append {H : Hp} {as bs : List Addr} {ts us : List Tie} (h : TiesAt H as ts) (g : TiesAt H bs us) : TiesAt H (as ++ bs) (ts ++ us) := by
  induction h with
  | nil => exact g
  | cons r _ ih => exact .cons r ih
/-- every = []; for one in range(n): every = every + [..] -/
theorem r_every {w0 w1 w2 w4 w5 w6 w8 w9 w10 w11 w12 : Option V} {H : Hp} {D : Ends} {n : Nat} (h7 : n ≤ 7) {l : Addr} (hl : H l = some (.lst []))
    (q : ∀ (H' : Hp) (l' : Addr) (as : List Addr) (w8 : Option V), Same H H' → H' l' = some (.lst (refs as)) → TiesAt H' as (SR.every n) → D.nx [w0, w1, w2, some (.int (n : Int)), w4, w5, w6, some (.ref l'), w8, w9, w10, w11, w12, none, none, none] H') :
    tFor (iRng1 (tCons (tVar 3) tNil)) (gName 8) (tAsg (tOp rCat (tVar 7) (tLc (iRng2 (tCons (tOp (rI0 fun i j => V.int (i + j)) (tVar 8) (tC (V.int 1))) (tCons (tVar 3) tNil))) (gName 13) tYes (tTup (tCons (tVar 8) (tCons (tVar 13) tNil))) [13])) (gName 7)) D
      [w0, w1, w2, some (.int (n : Int)), w4, w5, w6, some (.ref l), w8, w9, w10, w11, w12, none, none, none] H := by
  refine ⟨_, rfl, (n : Int), rfl, by omega, by omega, ?_⟩
  rw [Int.toNat_natCast]
  refine for_range (lo := 0) (n := n) (fun i σ H' => ∃ (l' : Addr) (as : List Addr) (w8 : Option V), σ = [w0, w1, w2, some (.int (n : Int)), w4, w5, w6, some (.ref l'), w8, w9, w10, w11, w12, none, none, none] ∧ Same H H' ∧ H' l' = some (.lst (refs as)) ∧
    TiesAt H' as ((List.range i).flatMap fun a => (List.range (n - (a + 1))).map fun k => (a, a + 1 + k)) ∧ as.length ≤ i * 7) ⟨l, [], _, rfl, Same.refl H, hl, .nil, Nat.zero_le _⟩ ?_ ?_
  · rintro i σ H1 hi ⟨l', as, w8', rfl, s1, hl1, hT1, hal⟩
    dsimp only [gName, List.set]
    rw [show (0 : Int) + (i : Int) = (i : Int) by omega]
    refine ⟨_, rfl, ?_⟩
    refine r_row hi h7 fun H2 r bs s2 r0 hr hT2 => ?_
    refine ⟨l', r, _, _, rfl, rfl, s2 _ _ hl1, hr, ?_, fun z nz => ?_⟩
    · rw [refs_length, refs_length, TiesAt.length hT2, List.length_map, List.length_range]
      exact line_le (by omega)
    rw [refs_append]
    obtain ⟨H3, e3, _, s23, hz, _⟩ := new_as (o := .lst (refs (as ++ bs))) (Same.refl H2) nz
    rw [← e3]
    clear e3
    refine ⟨z, as ++ bs, _, rfl, (s1.trans s2).trans s23, hz, ?_, ?_⟩
    · rw [List.range_succ, List.flatMap_append, List.flatMap_cons, List.flatMap_nil, List.append_nil]
      exact (ties_append (hT1.same s2) hT2).same s23
    · rw [List.length_append, TiesAt.length hT2, List.length_map, List.length_range, Nat.succ_mul]
      omega
  · rintro σ H1 ⟨l', as, w8', rfl, s1, hl1, hT1, _⟩
    exact q H1 l' as w8' s1 hl1 hT1
/-- [tie for tie in every if _law_take(pile, 2) == 0] -/
theorem r_some {K : PySem.W.Frag} {w0 w1 w3 w4 w5 w6 w8 w9 w10 w11 w12 : Option V} {H : Hp} {Q : VK} {a l : Addr} {as : List Addr} {ts : List Tie} (hl : H l = some (.lst (refs as))) (hT : TiesAt H as ts) (hlen : ts.length ≤ 100) (hp : PileAt H a)
    (q : ∀ (H' : Hp) (r : Addr) (bs : List Addr) (us : List Tie), us.Sublist ts → Go a H H' → H r = none → H' r = some (.lst (refs bs)) → TiesAt H' bs us → Q (.ref r) H') :
    tLc (iList K (tVar 7)) (gName 15) (tTest (tOp rEq (tCall spTake [] E0 (tCons (tVar 2) (tCons (tC (V.int 2)) tNil))) (tC (V.int 0)))) (tVar 15) [15] [w0, w1, some (.ref a), w3, w4, w5, w6, some (.ref l), w8, w9, w10, w11, w12, none, none, none] H Q := by
  refine ⟨_, rfl, l, rfl, ⟨_, SqL.of hl⟩, fun D nD => ?_⟩
  refine lc_list (K := K) (a := l) (xs := refs as) (fun i H4 => ∃ (bs : List Addr) (us : List Tie), us.Sublist (ts.take i) ∧ SameX a H H4 ∧ PileAt H4 a ∧ H4 D = some (.lst (refs bs)) ∧ TiesAt H4 bs us) ?_ (fun i H4 _ ⟨_, _, _, sx, hp4, _⟩ => SqL.of (Go.refs (a := a) ⟨sx, hp4⟩ hp hl)) ?_ ?_
  · obtain ⟨x1, x2, x3, hx⟩ := hp
    exact ⟨[], [], List.nil_sublist _, fun b o _ e => by rw [upd_ne (ne_of_none e nD)]; exact e, ⟨x1, x2, x3, by rw [upd_ne (ne_of_none hx nD)]; exact hx⟩, upd_same, .nil⟩
  · rintro i x H4 hx ⟨bs, us, hs, sx, hp4, hD4, hT4⟩
    obtain ⟨b, hb, rfl⟩ := refs_get hx
    obtain ⟨t, ht, hbt⟩ := Paired.get hT hb
    refine ⟨rfl, ?_⟩
    refine ⟨_, rfl, a, 2, rfl, hp4, by decide, by decide, fun d H5 hd sx5 fr5 hp5 => ?_⟩
    have g45 : Go a H4 H5 := ⟨sx5, hp5⟩
    have hD5 := g45.refs hp4 hD4
    have hT5 := g45.ties hp4 hT4
    have hbt5 : TieAt H5 b t := by
      obtain ⟨y1, y2, y3, hy⟩ := hp
      have e' : H b = some (.tup [.int (t.1 : Int), .int (t.2 : Int)]) := hbt
      exact sx5 _ _ (ne_of e' hy (by intro z; cases z)) (sx _ _ (ne_of e' hy (by intro z; cases z)) e')
    have hul : us.length ≤ 100 := Nat.le_trans hs.length_le (by rw [List.length_take]; omega)
    refine ⟨rfl, _, rfl, ?_⟩
    rw [take_get ht]
    by_cases c : (d : Int) = 0
    · rw [decide_eq_true (show V.int (d : Int) = V.int 0 by rw [c])]
      refine iteT ⟨_, rfl, refs bs, hD5, by rw [refs_length, TiesAt.length hT4]; exact line_lt (by omega), ?_⟩
      refine ⟨bs ++ [b], us ++ [t], List.Sublist.append hs (List.Sublist.refl _), fun c o nc e => ?_, ?_, ?_, ?_⟩
      · rw [upd_ne (ne_of_none e nD)]
        exact sx5 _ _ nc (sx _ _ nc e)
      · obtain ⟨x1, x2, x3, hx⟩ := hp5
        obtain ⟨y1, y2, y3, hy0⟩ := hp
        exact ⟨x1, x2, x3, by rw [upd_ne (ne_of_none hy0 nD)]; exact hx⟩
      · rw [upd_same, refs_snoc]
      · refine TiesAt.x (a := D) (l := refs bs) (fun b o nb e => by rw [upd_ne nb]; exact e) hD5 (paired_snoc hbt5 hT5)
    · rw [decide_eq_false (fun z => c (V.int.inj z))]
      refine iteF ?_
      exact ⟨bs, us, hs.trans (List.sublist_append_left _ _), fun c o nc e => sx5 _ _ nc (sx _ _ nc e), hp5, hD5, hT5⟩
  · rintro H4 ⟨bs, us, hs, sx, hp4, hD4, hT4⟩
    rw [refs_length, TiesAt.length hT, List.take_length] at hs
    exact q H4 D bs us hs ⟨sx, hp4⟩ nD hD4 hT4
/-- count_orders(Graph(n, te), rule) -/
theorem r_countG {C : Ad} {σ : L2.St} {H : Hp} {Q : VK} {te tr : TE} {n : Nat} {us : List Tie} {M : Mach} (h3 : σ[3]? = some (some (.int (n : Int)))) (h1 : 1 ≤ n) (h7 : n ≤ 7) (hok : TiesOk n us) (hM : MOk M)
    (he : ∀ R : VK, (∀ (l : Addr) (as : List Addr) (H1 : Hp), Same H H1 → H1 l = some (.lst (refs as)) → TiesAt H1 as us → R (.ref l) H1) → te σ H R)
    (ht : ∀ (H1 : Hp) (R : VK), Same H H1 → (∀ (r : Addr) (H2 : Hp), Same H1 H2 → RuleAt C.R H2 r M → R (.ref r) H2) → tr σ H1 R) (q : ∀ H2 : Hp, Same H H2 → Q (.int (SR.total M n us : Nat)) H2) :
    tCall (spCount C) [.non] E0 (tCons (tMake C.G (spGraph C.G) [] E0 (tCons (tVar 3) (tCons te tNil))) (tCons tr tNil)) σ H Q := by
  refine ⟨_, h3, ?_⟩
  refine he _ fun l as H0 s0 hl hT => ?_
  refine r_make (C := C.G) (E := E0) (Q := fun v H2 => tr σ H2 fun r H3 => spCount C ([v, r] ++ [.non]) H3 Q E0) h1 (by omega) hl hT hok fun x H1 us' s1 hp hg => ht H1 _ (s0.trans s1) fun r H2 s12 hr => ⟨x, r, M, SR.nears n us', rfl, hg.at.same s12, hr, hM, by rw [nears_length]; exact h7, fun H3 s23 => ?_⟩
  rw [nears_length]
  have := q H3 (((s0.trans s1).trans s12).trans s23)
  rw [← SR.total_perm (M := M) (n := n) hp] at this
  exact this
theorem go_asgOp {r : R2} {te tf : TE} {g : TG} {t : TS} {D : Ends} {σ : L2.St} {H : Hp} (h : te σ H fun x H1 => tf σ H1 fun y H2 => r x y H2 fun v H3 => g v σ H3 fun σ' H' => t D σ' H') : tSeq (tAsg (tOp r te tf) g) t D σ H := h
theorem r_mk {C : Addr} {σ : L2.St} {j n : Nat} {H : Hp} {l : Addr} {as : List Addr} {us : List Tie} {Q : VK} (h3 : σ[3]? = some (some (.int (n : Int)))) (hj : σ[j]? = some (some (.ref l))) (h1 : 1 ≤ n) (h60 : n ≤ 60) (hl : H l = some (.lst (refs as))) (hT : TiesAt H as us) (hok : TiesOk n us)
    (q : ∀ (x : Addr) (H' : Hp) (us' : List Tie), Same H H' → us'.Perm us → GraphNew C H H' x (SR.nears n us') → Q (.ref x) H') : tMake C (spGraph C) [] E0 (tCons (tVar 3) (tCons (tVar j) tNil)) σ H Q :=
  ⟨_, h3, _, hj, r_make (C := C) (E := E0) (Q := Q) h1 h60 hl hT hok q⟩
/-- [Graph(n, tree), Graph(n, some), Graph(n, path)] -/
theorem r_three {C : Addr} {σ : L2.St} {n : Nat} {H : Hp} {l1 l2 l3 : Addr} {as1 as2 as3 : List Addr} {us1 us2 us3 : List Tie} {Q : VK} (h3 : σ[3]? = some (some (.int (n : Int)))) (h6 : σ[6]? = some (some (.ref l1))) (h11 : σ[11]? = some (some (.ref l2))) (h10 : σ[10]? = some (some (.ref l3))) (n1 : 1 ≤ n) (n7 : n ≤ 7)
    (k1 : H l1 = some (.lst (refs as1))) (t1 : TiesAt H as1 us1) (o1 : TiesOk n us1) (k2 : H l2 = some (.lst (refs as2))) (t2 : TiesAt H as2 us2) (o2 : TiesOk n us2) (k3 : H l3 = some (.lst (refs as3))) (t3 : TiesAt H as3 us3) (o3 : TiesOk n us3)
    (q : ∀ (H' : Hp) (p x1 x2 x3 : Addr), Same H H' → H' p = some (.lst (refs [x1, x2, x3])) → (∀ (i : Nat) (g : Addr), [x1, x2, x3][i]? = some g → ∃ u : List Tie, ∀ a o, H a = some o → GraphOff C a H' g (SR.nears n u)) → Q (.ref p) H') :
    tLst (tCons (tMake C (spGraph C) [] E0 (tCons (tVar 3) (tCons (tVar 6) tNil))) (tCons (tMake C (spGraph C) [] E0 (tCons (tVar 3) (tCons (tVar 11) tNil))) (tCons (tMake C (spGraph C) [] E0 (tCons (tVar 3) (tCons (tVar 10) tNil))) tNil))) σ H Q := by
  unfold tLst tCons
  refine r_mk h3 h6 n1 (by omega) k1 t1 o1 fun x1 H1 u1 s1 _ g1 => ?_
  refine r_mk h3 h11 n1 (by omega) (s1 _ _ k2) (t2.same s1) o2 fun x2 H2 u2 s12 _ g2 => ?_
  have s2 := s1.trans s12
  refine r_mk h3 h10 n1 (by omega) (s2 _ _ k3) (t3.same s2) o3 fun x3 H3 u3 s23 _ g3 => ?_
  refine ⟨by show 3 ≤ sizeLine; decide, fun p np => ?_⟩
  obtain ⟨H4, e4, _, s34, hp, _⟩ := new_as (o := .lst (refs [x1, x2, x3])) (Same.refl H3) np
  rw [show upd H3 p (.lst [V.ref x1, V.ref x2, V.ref x3]) = H4 from e4.symm]
  clear e4
  refine q H4 p x1 x2 x3 ((s2.trans s23).trans s34) hp fun i g hi => ?_
  match i with
  | 0 =>
    obtain rfl : x1 = g := Option.some.inj hi
    exact ⟨u1, fun a o e => (g1.off e).same ((s12.trans s23).trans s34)⟩
  | 1 =>
    obtain rfl : x2 = g := Option.some.inj hi
    exact ⟨u2, fun a o e => (g2.off (s1 _ _ e)).same (s23.trans s34)⟩
  | 2 =>
    obtain rfl : x3 = g := Option.some.inj hi
    exact ⟨u3, fun a o e => (g3.off (s2 _ _ e)).same s34⟩
  | k + 3 => simp at hi
theorem ties_nil (n : Nat) : TiesOk n [] := ⟨fun t h => (nomatch h), List.nodup_nil, Nat.zero_le _⟩
theorem ties_every {n : Nat} (h : n = 6 ∨ n = 7) : TiesOk n (SR.every n) := ⟨fun t ht => SR.mem_every.mp ht, (SR.every_nodup n (by simpa using h)).1, (SR.every_nodup n (by simpa using h)).2⟩
theorem ties_sub {n : Nat} {us ts : List Tie} (h : TiesOk n ts) (s : us.Sublist ts) : TiesOk n us := ⟨fun t ht => h.1 t (s.subset ht), h.2.1.sublist s, Nat.le_trans s.length_le h.2.2⟩
theorem ties_link {n : Nat} {us : List Tie} (h : TiesOk n us) : LinkOk n us := fun t ht => by
  obtain ⟨h1, h2⟩ := h.1 t ht
  exact ⟨by omega, h2, by omega⟩
theorem link_tree {n : Nat} {f : Nat → Nat} (h : SR.Qok n f) : LinkOk n (SR.treeL n f) := fun t ht => by
  obtain ⟨h1, h2⟩ := SR.tree_link h t ht
  exact ⟨by omega, h2, by omega⟩
theorem tree_len (n : Nat) (f : Nat → Nat) : (SR.treeL n f).length = n - 1 := by unfold SR.treeL; rw [List.length_map, List.length_range]
theorem ties_turned {n : Nat} (h7 : n ≤ 7) {p : List Nat} {f : Nat → Nat} (hp : p.Perm (List.range n)) (h : SR.Qok n f) {us : List Tie} (hu : us.Perm (SR.turned p (SR.treeL n f))) : TiesOk n us := by
  obtain ⟨h1, h2, h3⟩ := SR.turned_ok hp h hu
  exact ⟨h1, h2, by omega⟩
theorem path_q (n : Nat) : SR.Qok n fun o => o - 1 := fun o h1 h2 => by show o - 1 < o; omega
theorem nf_nears {n : Nat} {us : List Tie} (h : TiesOk n us) : nf (SR.nears n us) = SR.nb us := by
  funext v
  by_cases c : v < n
  · exact SR.nears_get c
  · show (SR.nears n us).getD v [] = _
    rw [List.getD_eq_getElem?_getD, List.getElem?_eq_none (by rw [nears_length]; omega)]
    symm
    show SR.nb us v = []
    refine List.eq_nil_iff_forall_not_mem.mpr fun x hx => ?_
    rcases SR.mem_nb.mp hx with m | m
    · have := h.1 _ m; dsimp only at this; omega
    · have := h.1 _ m; dsimp only at this; omega
theorem nears_in {n : Nat} {us : List Tie} (h : TiesOk n us) : ∀ l ∈ SR.nears n us, ∀ x ∈ l, x < (SR.nears n us).length := by
  intro l hl x hx
  unfold SR.nears at hl
  obtain ⟨v, _, rfl⟩ := List.mem_map.mp hl
  rw [nears_length]
  rcases SR.mem_nb.mp hx with m | m
  · have := h.1 _ m; dsimp only at this; omega
  · have := h.1 _ m; dsimp only at this; omega
theorem fact_small {n : Nat} (h : n ≤ 7) : SR.fact n ≤ 5040 := by
  have : ∀ i, i ≤ 7 → SR.fact i ≤ 5040 := by decide
  exact this n h
theorem six_few {M : Mach} {n : Nat} (h : n ≤ 7) (near : List (List Nat)) : SR.cnt M near (List.range n) SR.zero ≤ 10000 := by
  have h1 := SR.cnt_le (M := M) (near := near) n (List.range n) SR.zero List.length_range List.nodup_range
  have h2 := fact_small h
  omega
theorem six_mok : ∀ M ∈ SR.six, MOk M := by
  have : ∀ M ∈ SR.six, M.flags.length = M.rows.length ∧ (∀ row ∈ M.rows, row.length = 4 ∧ ∀ s ∈ row, s < M.rows.length) ∧ 0 < M.rows.length ∧ M.rows.length ≤ 100 := by decide +kernel
  exact fun M h => ⟨(this M h).1, (this M h).2.1, (this M h).2.2.1, (this M h).2.2.2⟩
theorem path_count {n : Nat} (h : n = 6 ∨ n = 7) : ((SR.total SR.mSome n (SR.pathL n) : Nat) : Int) = 1 * 2 ^ ((n : Int) - 1).toNat := by
  rcases h with rfl | rfl
  · rw [SR.path6]; decide
  · rw [SR.path7]; decide
def sixN : List Str := ["some", "any", "first", "last", "early", "late"]
theorem six_at {K : PySem.W.Frag} {w : World} {ND : Addr} (NM : ∀ i, i < 6 → Nmd K w ND (sixN.getD i "") (SR.six.getD i SR.mAny)) : ∀ i, i < 6 → ∃ (name : Str) (M : Mach), sixN[i]? = some name ∧ inV (.str name) (([("any" : Str), "some", "single", "first", "last", "early", "late", "within", "count"] : List Str).map V.str) = true ∧ name ≠ "count" ∧ Nmd K w ND name M ∧ M ∈ SR.six
  | 0, h => ⟨_, _, rfl, by rfl, by decide, NM 0 h, .head _⟩
  | 1, h => ⟨_, _, rfl, by rfl, by decide, NM 1 h, .tail _ (.head _)⟩
  | 2, h => ⟨_, _, rfl, by rfl, by decide, NM 2 h, .tail _ (.tail _ (.head _))⟩
  | 3, h => ⟨_, _, rfl, by rfl, by decide, NM 3 h, .tail _ (.tail _ (.tail _ (.head _)))⟩
  | 4, h => ⟨_, _, rfl, by rfl, by decide, NM 4 h, .tail _ (.tail _ (.tail _ (.tail _ (.head _))))⟩
  | 5, h => ⟨_, _, rfl, by rfl, by decide, NM 5 h, .tail _ (.tail _ (.tail _ (.tail _ (.tail _ (.head _)))))⟩
  | n + 6, h => absurd h (by omega)
def spLaw (K : PySem.W.Frag) : Sp := fun vs H Q _ => ∃ (a : Addr) (ns : List Int), vs = [.ref a] ∧ SqL K H a (ns.map V.int) ∧ ∀ H' : Hp, Q (.bl true) H'
section
variable {P : Program} {w : World} {K : PySem.W.Frag} {mg : Str → Option Value} {base : Heap} {C : Ad} {ND : Addr}
theorem okD {x : Str} {st : Stmt} {N ps : List Str} {k : Nat} {sp : Sp} {f : Addr} {fd : FuncData} (F : FnP K x x st f fd) (S : FnScope N ps (defScope st)) (len : ∀ vs H Q E, sp vs H Q E → vs.length = ps.length)
    (hbody : ∀ (cdv : Value) (A : Around) (outer : List Env) (s : Shared) (H : Hp) (vs : List V) (Q : VK) (E : XK), Room k (A.deeper (envOfC x (defScope st) s.heap.objs.size f cdv)) → sp vs H Q E →
      ∃ t, PSs (cxOf CX0 P w K mg base N x (defScope st) f cdv A outer s H E).nox (defBody st) t ∧ t { nx := fun _ H' => Q .non H', rt := Q } (start N vs) H) : FnOk P w K mg base CX0 (k + 1) f fd ps sp :=
  F.ok S len hbody
theorem ok_law (T : Bl mg) (NM : ∀ i, i < 6 → Nmd K w ND (sixN.getD i "") (SR.six.getD i SR.mAny)) {f : Addr} {fd : FuncData} (F : FnP K "law" "law" (topS 88) f fd) (FPi : FnB P w K mg base CX0 1 "_law_pile" ["_law_script", "_law_k"] [] (spPile K)) (FT : FnB P w K mg base CX0 2 "_law_take" ["_law_pile_here", "_law_many"] [] spTake)
    (FNa : SmB P w K mg base 5 "Rule" "named" ["name", "bound"] [.non] (spNamed K w C.R ND)) (FTu : FnB P w K mg base CX0 4 "_law_turned" ["_law_pile_here", "_law_size", "_law_links"] [] spTurn) (FPr : FnB P w K mg base CX0 1 "_law_product" ["_law_many"] [] spProd)
    (FC : FnB P w K mg base CX0 14 "count_orders" ["graph", "rule", "begun"] [.non] (spCount C)) (FG : MkB P w K mg base CX0 5 "Graph" C.G ["self", "size", "ties"] (spGraph C.G)) (FGr : FnB P w K mg base CX0 17 "_law_grown" ["_law_near_here"] [] spGrown)
    (FNe : FnB P w K mg base CX0 1 "_law_near" ["_law_size", "_law_links"] [] spNear) (FRa : FnB P w K mg base CX0 16 "_law_ranks_right" ["_law_pile_here", "_law_graph_here", "_law_rule_here", "_law_many"] [] (spRanks C)) :
    FnOk P w K mg base CX0 18 f fd ["_law_script"] (spLaw K) := by
  refine okD F sc_law (fun vs H Q E h => ?_) (fun cdv A outer s H vs Q E hr h => ?_)
  · obtain ⟨a, ns, rfl, _⟩ := h
    rfl
  · obtain ⟨sc, ns, rfl, hsc, q⟩ := h
    refine ⟨_, (pss_cons (ps_for PassesOwn.never rfl (pi_range1 (by rfl) T.b_range (pa_cons pe_int pa_nil)) (pg_name (i := 1) sc_law.nd rfl (Or.inl rfl)) (pss_cons (ps_set (i := 2) sc_law.nd rfl (Or.inr rfl) (pe_fn FPi (hr.mono (by decide)) pass0 (pa_cons (pv 0) (pa_cons (pv 1) pa_nil)))) (pss_cons (ps_set (i := 3) sc_law.nd rfl (Or.inl rfl) (pe_op op_add pe_int (pe_fn FT (hr.mono (by decide)) pass0 (pa_cons (pv 2) (pa_cons pe_int pa_nil))))) (pss_cons (ps_set (i := 4) sc_law.nd rfl (Or.inl rfl) (pe_lst (pa_cons pe_str (pa_cons pe_str (pa_cons pe_str (pa_cons pe_str (pa_cons pe_str (pa_cons pe_str pa_nil)))))))) (pss_cons (ps_set (i := 5) sc_law.nd rfl (Or.inl rfl) (pe_sm FNa (hr.mono (by decide)) pass0 (pa_cons (pe_ix ix_list (pv 4) (pe_fn FT (hr.mono (by decide)) pass0 (pa_cons (pv 2) (pa_cons pe_int pa_nil))) (fun _ _ => rfl)) pa_nil))) (pss_cons (ps_set (i := 6) sc_law.nd rfl (Or.inl rfl) (pe_fn FTu (hr.mono (by decide)) pass0 (pa_cons (pv 2) (pa_cons (pv 3) (pa_cons (pe_lc (own := [("_law_other", 13)]) rfl sc_law.nd (pi_range2 (by rfl) T.b_range (pa_cons pe_int (pa_cons (pv 3) pa_nil))) (blkOk_by (own := [("_law_other", 13)]) (N := N_law) (sc := defScope (topS 88)) (by decide +kernel)) (fun _ _ _ _ _ => (pg_name (i := 13) sc_law.nd rfl (Or.inl rfl))) (fun _ _ _ _ _ => pts_nil) (fun _ _ _ _ _ => (pe_tup (pa_cons (pe_fn FT (hr.mono (by decide)) pass0 (pa_cons (pv 2) (pa_cons (pv 13) pa_nil))) (pa_cons (pv 13) pa_nil))))) pa_nil))))) (pss_cons (ps_set (i := 7) sc_law.nd rfl (Or.inl rfl) (pe_lst pa_nil)) (pss_cons (ps_for PassesOwn.never rfl (pi_range1 (by rfl) T.b_range (pa_cons (pv 3) pa_nil)) (pg_name (i := 8) sc_law.nd rfl (Or.inr rfl)) (pss_one (ps_set (i := 7) sc_law.nd rfl (Or.inl rfl) (pe_op op_cat (pv 7) (pe_lc (own := [("_law_other", 13)]) rfl sc_law.nd (pi_range2 (by rfl) T.b_range (pa_cons (pe_op op_add (pv 8) pe_int) (pa_cons (pv 3) pa_nil))) (blkOk_by (own := [("_law_other", 13)]) (N := N_law) (sc := defScope (topS 88)) (by decide +kernel)) (fun _ _ _ _ _ => (pg_name (i := 13) sc_law.nd rfl (Or.inl rfl))) (fun _ _ _ _ _ => pts_nil) (fun _ _ _ _ _ => (pe_tup (pa_cons (pv 8) (pa_cons (pv 13) pa_nil))))))))) (pss_cons (ps_set (i := 9) sc_law.nd rfl (Or.inl rfl) (pe_fn FPr (hr.mono (by decide)) pass0 (pa_cons (pv 3) pa_nil))) (pss_cons (ps_if (PW.pt (pw_or (pt_cmpR op_ne (pe_fn FC (hr.mono (by decide)) pass0 (pa_cons (pe_mk FG (hr.mono (by decide)) pass0 (pa_cons (pv 3) (pa_cons (pv 7) pa_nil))) (pa_cons (pv 5) pa_nil))) (pv 9) (nomark _)) (pw_or1 (pt_cmpR op_ne (pe_fn FC (hr.mono (by decide)) pass0 (pa_cons (pe_mk FG (hr.mono (by decide)) pass0 (pa_cons (pv 3) (pa_cons (pe_lst pa_nil) pa_nil))) (pa_cons (pv 5) pa_nil))) (pv 9) (nomark _))))) (pss_one (ps_ret pe_bl)) pss_nil) (pss_cons (ps_if (pt_cmpR op_ne (pe_fn FC (hr.mono (by decide)) pass0 (pa_cons (pe_mk FG (hr.mono (by decide)) pass0 (pa_cons (pv 3) (pa_cons (pv 6) pa_nil))) (pa_cons (pe_sm FNa (hr.mono (by decide)) pass0 (pa_cons pe_str pa_nil)) pa_nil))) (pv 9) (nomark _)) (pss_one (ps_ret pe_bl)) pss_nil) (pss_cons (ps_if (pt_cmpR op_ne (pe_fn FC (hr.mono (by decide)) pass0 (pa_cons (pe_mk FG (hr.mono (by decide)) pass0 (pa_cons (pv 3) (pa_cons (pv 6) pa_nil))) (pa_cons (pe_sm FNa (hr.mono (by decide)) pass0 (pa_cons pe_str pa_nil)) pa_nil))) (pe_fn FGr hr pass0 (pa_cons (pe_fn FNe (hr.mono (by decide)) pass0 (pa_cons (pv 3) (pa_cons (pv 6) pa_nil))) pa_nil)) (nomark _)) (pss_one (ps_ret pe_bl)) pss_nil) (pss_cons (ps_set (i := 10) sc_law.nd rfl (Or.inl rfl) (pe_fn FTu (hr.mono (by decide)) pass0 (pa_cons (pv 2) (pa_cons (pv 3) (pa_cons (pe_lc (own := [("_law_k", 14)]) rfl sc_law.nd (pi_range1 (by rfl) T.b_range (pa_cons (pe_op op_sub (pv 3) pe_int) pa_nil)) (blkOk_by (own := [("_law_k", 14)]) (N := N_law) (sc := defScope (topS 88)) (by decide +kernel)) (fun _ _ _ _ _ => (pg_name (i := 14) sc_law.nd rfl (Or.inl rfl))) (fun _ _ _ _ _ => pts_nil) (fun _ _ _ _ _ => (pe_tup (pa_cons (pv 14) (pa_cons (pe_op op_add (pv 14) pe_int) pa_nil))))) pa_nil))))) (pss_cons (ps_if (pt_cmpR op_ne (pe_fn FC (hr.mono (by decide)) pass0 (pa_cons (pe_mk FG (hr.mono (by decide)) pass0 (pa_cons (pv 3) (pa_cons (pv 10) pa_nil))) (pa_cons (pe_sm FNa (hr.mono (by decide)) pass0 (pa_cons pe_str pa_nil)) pa_nil))) (pe_op op_shl pe_int (pe_op op_sub (pv 3) pe_int)) (nomark _)) (pss_one (ps_ret pe_bl)) pss_nil) (pss_cons (ps_setLc (i := 11) (own := [("_law_tie", 15)]) rfl sc_law.nd rfl rfl (sw_true rfl rfl rfl (by decide +kernel)) (pi_list (pv 7)) (blkOk_by (own := [("_law_tie", 15)]) (N := N_law) (sc := defScope (topS 88)) (by decide +kernel)) (fun _ _ _ _ _ => (pg_name (i := 15) sc_law.nd rfl (Or.inl rfl))) (fun _ _ _ _ _ => (pts_one (pt_cmpR op_eq (pe_fn FT (hr.mono (by decide)) pass0 (pa_cons (pv 2) (pa_cons pe_int pa_nil))) pe_int (nomark _)))) (fun _ _ _ _ _ => (pv 15))) (pss_cons (ps_set (i := 12) sc_law.nd rfl (Or.inl rfl) (pe_ix ix_list (pe_lst (pa_cons (pe_mk FG (hr.mono (by decide)) pass0 (pa_cons (pv 3) (pa_cons (pv 6) pa_nil))) (pa_cons (pe_mk FG (hr.mono (by decide)) pass0 (pa_cons (pv 3) (pa_cons (pv 11) pa_nil))) (pa_cons (pe_mk FG (hr.mono (by decide)) pass0 (pa_cons (pv 3) (pa_cons (pv 10) pa_nil))) pa_nil)))) (pe_fn FT (hr.mono (by decide)) pass0 (pa_cons (pv 2) (pa_cons pe_int pa_nil))) (fun _ _ => rfl))) (pss_one (ps_if (pt_not (pt_val (pe_fn FRa (hr.mono (by decide)) pass0 (pa_cons (pv 2) (pa_cons (pv 12) (pa_cons (pv 5) (pa_cons (pe_fn FC (hr.mono (by decide)) pass0 (pa_cons (pv 12) (pa_cons (pv 5) pa_nil))) pa_nil))))))) (pss_one (ps_ret pe_bl)) pss_nil)))))))))))))))))) (pss_one (ps_ret pe_bl))), ?_⟩
    refine ⟨(3 : Int), rfl, by decide, by decide, for_range (lo := 0) (n := (3 : Int).toNat) (fun i σ H' => ∃ v1 v2 v3 v4 v5 v6 v7 v8 v9 v10 v11 v12, σ = [some (.ref sc), v1, v2, v3, v4, v5, v6, v7, v8, v9, v10, v11, v12, none, none, none] ∧ Same H H') ⟨_, _, _, _, _, _, _, _, _, _, _, _, rfl, Same.refl H⟩ ?_ ?_⟩
    · rintro i σ Hi hi ⟨v1, v2, v3, v4, v5, v6, v7, v8, v9, v10, v11, v12, rfl, si⟩
      refine ⟨_, rfl, _, rfl, sc, ns, _, rfl, sql_same hsc si, by omega, fun H1 a s1 a0 hp1 => ?_⟩
      refine ⟨_, rfl, a, 2, rfl, hp1, by decide, by decide, fun s0 H2 hs0 sx2 fr2 hp2 => ?_⟩
      refine ⟨_, _, rfl, rfl, ?_⟩
      obtain ⟨n, hn, hn6⟩ : ∃ n : Nat, (6 : Int) + (s0 : Int) = (n : Int) ∧ (n = 6 ∨ n = 7) := ⟨6 + s0, by omega, by omega⟩
      show _
      refine ⟨by show 6 ≤ sizeLine; decide, fun nm nnm => ?_⟩
      obtain ⟨H3, e3, _, s23, hnm, _⟩ := new_as (o := .lst (sixN.map V.str)) (Same.refl H2) nnm
      rw [show upd H2 nm (.lst [V.str "some", V.str "any", V.str "first", V.str "last", V.str "early", V.str "late"]) = H3 from e3.symm]
      clear e3
      have g13 : Go a H1 H3 := Go.same ⟨sx2, hp2⟩ s23
      have hnI : V.int ((6 : Int) + (s0 : Int)) = V.int (n : Int) := by rw [hn]
      dsimp only [List.set, gName]
      rw [hn]
      -- the rule
      refine ⟨_, rfl, _, rfl, a, 6, rfl, g13.p, by decide, by decide, fun d1 H4 hd1 sx4 fr4 hp4 => ?_⟩
      have g14 : Go a H1 H4 := g13.trans ⟨sx4, hp4⟩
      have hnm4 := Go.strs ⟨sx4, hp4⟩ g13.p hnm
      obtain ⟨name, M, hname, hin, hnc, hNm, hM6⟩ := six_at NM d1 hd1
      have hM := six_mok M hM6
      refine ⟨nm, _, _, .str name, rfl, rfl, SqL.of hnm4, atI_nat (by rw [List.getElem?_map, hname]; rfl), ?_⟩
      refine ⟨name, M, rfl, hin, hnc, hNm, fun H5 r s45 _ hru5 => ?_⟩
      have g15 : Go a H1 H5 := g14.same s45
      -- the tree
      have n1 : 1 ≤ n := by omega
      have n7 : n ≤ 7 := by omega
      refine ⟨_, rfl, _, rfl, ?_⟩
      refine r_tree n1 n7 g15.p fun H6 l6 as6 f hf g56 l60 hl6 hT6 => ?_
      have al6 : a ≠ l6 := by
        obtain ⟨x1, x2, x3, hx⟩ := g15.p
        exact ne_of_none hx l60
      refine ⟨a, n, l6, as6, SR.treeL n f, rfl, g56.p, by omega, hl6, al6, hT6, link_tree hf, by rw [tree_len]; omega, fun H7 tl cs p us hpp hus sx7 hp7 _ htl hT7 => ?_⟩
      have hok := ties_turned n7 hpp hf hus
      have g67 : Go a H6 H7 := ⟨sx7, hp7⟩
      have hru7 := g67.rule g56.p (g56.rule g15.p hru5)
      have g17 := (g15.trans g56).trans g67
      -- all ties
      refine ⟨Nat.zero_le _, fun ev0 nev0 => ?_⟩
      obtain ⟨H8, e8, _, s78, hev0, _⟩ := new_as (o := .lst []) (Same.refl H7) nev0
      rw [← e8]
      clear e8
      refine r_every n7 hev0 fun H9 ev as9 w8 s89 hev9 hT9 => ?_
      have s79 := s78.trans s89
      have g19 := g17.same s79
      have htl9 := s79 _ _ htl
      have hT79 := hT7.same s79
      have hru9 := hru7.same s79
      have hev := ties_every hn6
      -- the product
      refine ⟨_, rfl, n, rfl, n1, n7, ?_⟩
      -- all tied, none tied
      have vr : ∀ {σ : L2.St} {H1 : Hp} {R : VK}, σ[5]? = some (some (.ref r)) → RuleAt C.R H1 r M → (∀ (r : Addr) (H2 : Hp), Same H1 H2 → RuleAt C.R H2 r M → R (.ref r) H2) → tVar 5 σ H1 R := fun h5 hr q => ⟨_, h5, q r _ (Same.refl _) hr⟩
      refine r_countG rfl n1 n7 hev hM (fun R q => ⟨_, rfl, q ev as9 H9 (Same.refl _) hev9 hT9⟩) (fun H1 R s q => vr rfl (hru9.same s) q) fun H10 s910 => ?_
      refine ⟨_, rfl, rfl, _, rfl, ?_⟩
      rw [SR.total_every hM6, show (!decide (V.int ((SR.fact n : Nat) : Int) = V.int ((SR.fact n : Nat) : Int))) = false by simp]
      refine iteF ?_
      refine r_countG rfl n1 n7 (ties_nil n) hM (fun R q => ⟨Nat.zero_le _, fun l nl0 => q l [] _ (same_upd nl0) upd_same .nil⟩) (fun H1 R s q => vr rfl (hru9.same (s910.trans s)) q) fun H11 s1011 => ?_
      refine ⟨_, rfl, rfl, _, rfl, ?_⟩
      rw [SR.total_nil hM6, show (!decide (V.int ((SR.fact n : Nat) : Int) = V.int ((SR.fact n : Nat) : Int))) = false by simp]
      refine iteF ?_
      have s911 := s910.trans s1011
      -- the tree by any, by some
      have tn : ∀ {σ : L2.St} (i : Nat) (name : Str) (M : Mach) {H1 : Hp} {R : VK}, Nmd K w ND name M → inV (.str name) (([("any" : Str), "some", "single", "first", "last", "early", "late", "within", "count"] : List Str).map V.str) = true → name ≠ "count" → (∀ (r : Addr) (H2 : Hp), Same H1 H2 → RuleAt C.R H2 r M → R (.ref r) H2) → tCall (spNamed K w C.R ND) [.non] E0 (tCons (tC (.str name)) tNil) σ H1 R :=
        fun i name M _ _ hN hi hc q => ⟨name, M, rfl, hi, hc, hN, fun H2 r s _ hr => q r H2 s hr⟩
      refine r_countG rfl n1 n7 hok (six_mok SR.mAny (by decide)) (fun R q => ⟨_, rfl, q tl cs H11 (Same.refl _) (s911 _ _ htl9) (hT79.same s911)⟩) (fun H1 R s q => tn 1 "any" SR.mAny (NM 1 (by decide)) (by rfl) (by decide) q) fun H12 s1112 => ?_
      refine ⟨_, rfl, rfl, _, rfl, ?_⟩
      rw [SR.total_any, show (!decide (V.int ((SR.fact n : Nat) : Int) = V.int ((SR.fact n : Nat) : Int))) = false by simp]
      refine iteF ?_
      have s912 := s911.trans s1112
      have mS := six_mok SR.mSome (by decide)
      refine r_countG rfl n1 n7 hok mS (fun R q => ⟨_, rfl, q tl cs H12 (Same.refl _) (s912 _ _ htl9) (hT79.same s912)⟩) (fun H1 R s q => tn 0 "some" SR.mSome (NM 0 (by decide)) (by rfl) (by decide) q) fun H13 s1213 => ?_
      have s913 := s912.trans s1213
      refine ⟨_, rfl, _, rfl, n, tl, cs, us, rfl, by omega, s913 _ _ htl9, hT79.same s913, ties_link hok, hok.2.2, fun H14 nr bs s1314 _ hnr hbs => ?_⟩
      obtain ⟨tt1, tt2⟩ := SR.total_tree n1 hpp hf hus
      refine ⟨nr, SR.nears n us, rfl, ⟨bs, hnr, hbs⟩, by rw [nears_length]; exact n1, by rw [nears_length]; exact n7, nears_in hok, ?_, fun H15 s1415 => ?_⟩
      · rw [nears_length, nf_nears hok]
        exact fun r hr => ⟨(tt2 r hr).1, Nat.le_trans (tt2 r hr).2.1 (by omega), (tt2 r hr).2.2⟩
      rw [nears_length, nf_nears hok, ← tt1]
      refine ⟨rfl, _, rfl, ?_⟩
      rw [show (!decide (V.int ((SR.total SR.mSome n us : Nat) : Int) = V.int ((SR.total SR.mSome n us : Nat) : Int))) = false by simp]
      refine iteF ?_
      have s915 := (s913.trans s1314).trans s1415
      have g115 := g19.same s915
      -- the path
      refine ⟨_, rfl, _, rfl, ?_⟩
      refine r_path n1 n7 fun H16 l16 as16 s1516 l160 hl16 hT16 => ?_
      have g116 := g115.same s1516
      have al16 : a ≠ l16 := by
        obtain ⟨x1, x2, x3, hx⟩ := g115.p
        exact ne_of_none hx l160
      refine ⟨a, n, l16, as16, SR.pathL n, rfl, g116.p, by omega, hl16, al16, hT16, link_tree (path_q n), by rw [SR.path_tree, tree_len]; omega, fun H17 pl cs' p' us' hpp' hus' sx17 hp17 _ hpl hT17 => ?_⟩
      have hok' := ties_turned n7 hpp' (path_q n) hus'
      have g1617 : Go a H16 H17 := ⟨sx17, hp17⟩
      have s916 := s915.trans s1516
      have hru17 := g1617.rule g116.p (hru9.same s916)
      have htl17 := g1617.refs g116.p (s916 _ _ htl9)
      have hTt17 := g1617.ties g116.p (hT79.same s916)
      have hev17 := g1617.refs g116.p (s916 _ _ hev9)
      have hTe17 := g1617.ties g116.p (hT9.same s916)
      have g117 := g116.trans g1617
      refine r_countG rfl n1 n7 hok' mS (fun R q => ⟨_, rfl, q pl cs' H17 (Same.refl _) hpl hT17⟩) (fun H1 R s q => tn 0 "some" SR.mSome (NM 0 (by decide)) (by rfl) (by decide) q) fun H18 s1718 => ?_
      refine ⟨_, rfl, _, _, rfl, rfl, _, _, rfl, rfl, ⟨by omega, by omega, by decide⟩, ?_⟩
      refine ⟨rfl, _, rfl, ?_⟩
      rw [SR.total_path hpp' hus', path_count hn6, show ∀ z : Int, (!decide (V.int z = V.int z)) = false from fun z => by simp]
      refine iteF ?_
      have g118 := g117.same s1718
      -- some of the ties
      refine go_next ?_
      dsimp only [List.set, List.map]
      refine go_asg ?_
      show tLc (iList K (tVar 7)) (gName 15) (tTest (tOp rEq (tCall spTake [] E0 (tCons (tVar 2) (tCons (tC (V.int 2)) tNil))) (tC (V.int 0)))) (tVar 15) [15] [some (V.ref sc), some (V.int (0 + (i : Int))), some (V.ref a), some (V.int (n : Int)), some (V.ref nm), some (V.ref r), some (V.ref tl), some (V.ref ev), w8, some (V.int ((SR.fact n : Nat) : Int)), some (V.ref pl), v11, v12, none, none, none] H18 _
      refine r_some (s1718 _ _ hev17) (hTe17.same s1718) hev.2.2 g118.p fun H19 sl bs19 us19 hsub g1819 _ hsl hT19 => ?_
      have hok19 := ties_sub hev hsub
      have g119 := g118.trans g1819
      have hru19 := g1819.rule g118.p (hru17.same s1718)
      -- three graphs, one of them
      refine go_asgOp ?_
      refine r_three rfl rfl rfl rfl n1 n7 (g1819.refs g118.p (s1718 _ _ htl17)) (g1819.ties g118.p (hTt17.same s1718)) hok hsl hT19 hok19 (g1819.refs g118.p (s1718 _ _ hpl)) (g1819.ties g118.p (hT17.same s1718)) hok' fun H23 gl x1 x2 x3 s1923 hgl h3g => ?_
      have g123 := g119.same s1923
      have three : ∀ i, i < 3 → ∃ (g : Addr) (u : List Tie), [x1, x2, x3][i]? = some g ∧ GraphOff C.G a H23 g (SR.nears n u) := by
        obtain ⟨y1, y2, y3, hy⟩ := g119.p
        intro i hi
        obtain ⟨g, hg⟩ : ∃ g, [x1, x2, x3][i]? = some g := ⟨_, List.getElem?_eq_getElem hi⟩
        obtain ⟨u, hu⟩ := h3g i g hg
        exact ⟨g, u, hg, hu a _ hy⟩
      refine ⟨_, rfl, a, 3, rfl, g123.p, by decide, by decide, fun dg H24 hdg sx24 fr24 hp24 => ?_⟩
      have g2324 : Go a H23 H24 := ⟨sx24, hp24⟩
      obtain ⟨g, u, hgi, hgo⟩ := three dg hdg
      refine ⟨gl, _, _, .ref g, rfl, rfl, SqL.of (g2324.refs g123.p hgl), atI_nat (refs_at hgi), ?_⟩
      have hg24 := g2324.graph g123.p hgo
      have hru24 := g2324.rule g123.p (hru19.same s1923)
      have hlen : (SR.nears n u).length = n := nears_length
      -- its ranks
      refine ⟨_, rfl, _, rfl, _, rfl, _, rfl, _, rfl, g, r, M, SR.nears n u, rfl, hg24.at, hru24, hM, by rw [hlen]; exact n7, fun H25 s2425 => ?_⟩
      have g125 := (g123.trans g2324).same s2425
      refine ⟨a, g, r, M, SR.nears n u, rfl, g125.p, hg24.same s2425, hru24.same s2425, hM, by rw [hlen]; exact n1, by rw [hlen]; exact n7, by rw [hlen]; exact SR.six_pos hM6 _ n, by rw [hlen]; exact six_few n7 _, fun H26 sx26 hp26 => ?_⟩
      refine ⟨true, rfl, iteF ?_⟩
      refine ⟨_, _, _, _, _, _, _, _, _, _, _, _, rfl, fun b o e => ?_⟩
      have nb : b ≠ a := ne_of_none (si _ _ e) a0
      exact sx26 _ _ nb (g125.x _ _ nb (s1 _ _ (si _ _ e)))
    · rintro σ H' ⟨v1, v2, v3, v4, v5, v6, v7, v8, v9, v10, v11, v12, rfl, si⟩
      exact q H'
end
end W
end
section
set_option Elab.async false
set_option linter.all false
set_option maxRecDepth 100000
set_option maxHeartbeats 4000000
namespace Hd
open PySem PySem.Spec PyProof.Rows L2 W
/-! ### a def by the address where it stands -/
structure DA where
  at_ : PySem.W.Frag → Addr
  name : Str
  qual : Str
  st : Stmt
  kws : List (Str × V)
def DA.val (d : DA) : He.FnW := some (d.name, d.qual, defArgs d.st, .stmts (defBody d.st), defScope d.st, mainGlobals, [], builtinsNs)
def seen (K : PySem.W.Frag) (a : Addr) : He.FnW := (K.lookup a).bind fun o => match o.data with
  | .func fd => some (fd.name, fd.qualname, fd.params, fd.body, fd.scope, fd.globals, fd.closure, fd.builtins)
  | _ => none
def DA.ok (K : PySem.W.Frag) (d : DA) : Bool := PySem.W.keepIn K (.ref (d.at_ K)) && match K.lookup (d.at_ K) with
  | some o => (match o.data with
    | .func fd => PySem.W.codeIn K fd.code d.qual && He.dflB K fd.defaults [] && He.kwdB K fd.kwdefaults d.kws
    | _ => false)
  | none => false
theorem DA.funD {K : PySem.W.Frag} {d : DA} (e : seen K (d.at_ K) = d.val) (c : d.ok K = true) : ∃ fd, FunD K d.name d.qual (defArgs d.st) (defBody d.st) (defScope d.st) [] d.kws (d.at_ K) fd := by
  unfold DA.ok at c
  rw [Bool.and_eq_true] at c
  obtain ⟨kp, c⟩ := c
  unfold seen DA.val at e
  generalize d.at_ K = a at e c kp
  cases q : K.lookup a with
  | none => rw [q] at c; cases c
  | some o =>
    rw [q] at e c
    obtain ⟨oc, od, dt, osl⟩ := o
    cases dt with
    | func fd =>
      have c' : (PySem.W.codeIn K fd.code d.qual && He.dflB K fd.defaults [] && He.kwdB K fd.kwdefaults d.kws) = true := c
      rw [Bool.and_eq_true, Bool.and_eq_true] at c'
      obtain ⟨⟨c1, c2⟩, c3⟩ := c'
      rcases fd with ⟨n1, n2, n3, n4, n5, n6, n7, n8, n9, n10, n11, n12, n13, n14, n15⟩
      have e' : (some (n1, n2, n3, n4, n5, n6, n7, n15) : He.FnW) = some (d.name, d.qual, defArgs d.st, .stmts (defBody d.st), defScope d.st, mainGlobals, [], builtinsNs) := e
      simp only [Option.some.injEq, Prod.mk.injEq] at e'
      obtain ⟨rfl, rfl, rfl, rfl, rfl, rfl, rfl, rfl⟩ := e'
      exact ⟨_, ⟨oc, od, n8, n9, n10, n11, n12, n13, n14, osl, rfl, q, c1, He.dflB_ok c2, He.kwdB_ok c3⟩, kp⟩
    | _ => cases c
/-! ### records: a property, a static method -/
def recFn (K : PySem.W.Frag) (p : Addr) (T : String) : Addr := match PySem.W.recIn K p T with
  | some (.ref f :: _) => f
  | _ => 0
def recB (K : PySem.W.Frag) (p : Addr) (T : String) : Bool := match PySem.W.recIn K p T with
  | some (.ref _ :: _) => true
  | _ => false
theorem recB_ok {K : PySem.W.Frag} {p : Addr} {T : String} (h : recB K p T = true) : ∃ rest, PySem.W.recIn K p T = some (.ref (recFn K p T) :: rest) := by
  unfold recB at h
  unfold recFn
  split at h
  · rename_i f rest e
    rw [e]
    exact ⟨rest, rfl⟩
  · cases h
def propB (K : PySem.W.Frag) (C : Addr) (m : Str) : Bool := He.eqO (PySem.W.findIn K (.ref C) m) (some (some (.ref (He.ma K C m)))) && (He.eqO (PySem.W.specialIn K (.ref (He.ma K C m)) "__get__") (some (some (.builtin "property.__get__"))) && (decide (PySem.W.takesIn K (.ref (He.ma K C m)) = some true) && recB K (He.ma K C m) "property"))
theorem propB_ok {K : PySem.W.Frag} {C : Addr} {m : Str} (h : propB K C m = true) : PropOf K C m (He.ma K C m) (recFn K (He.ma K C m) "property") := by
  obtain ⟨h1, h⟩ := He.ba h
  obtain ⟨h2, h⟩ := He.ba h
  obtain ⟨h3, h4⟩ := He.ba h
  exact ⟨He.eqO_ok h1, He.eqO_ok h2, of_decide_eq_true h3, recB_ok h4⟩
def getB (r : Option PySem.W.CFound) (g : String) (p C : Addr) : Bool := match r with
  | some (.get a b c d) => decide (a = .builtin g) && (decide (b = .ref p) && (decide (c = .none) && decide (d = .ref C)))
  | _ => false
theorem getB_ok {r : Option PySem.W.CFound} {g : String} {p C : Addr} (h : getB r g p C = true) : r = some (.get (.builtin g) (.ref p) .none (.ref C)) := by
  unfold getB at h
  split at h
  · obtain ⟨h1, h⟩ := He.ba h
    obtain ⟨h2, h⟩ := He.ba h
    obtain ⟨h3, h4⟩ := He.ba h
    rw [of_decide_eq_true h1, of_decide_eq_true h2, of_decide_eq_true h3, of_decide_eq_true h4]
  · cases h
def readB (K : PySem.W.Frag) (C : Addr) : Bool := PySem.W.readsIn K C (.type "type") && He.eqO (PySem.W.specialIn K (.ref C) "__getattribute__") (some (some (.builtin "type.__getattribute__")))
theorem readB_ok {K : PySem.W.Frag} {C : Addr} (h : readB K C = true) : ClX.CRead K C (.type "type") := ⟨(He.ba h).1, He.eqO_ok (He.ba h).2⟩
def statB (K : PySem.W.Frag) (C : Addr) (m : Str) : Bool := readB K C && (getB (PySem.W.findCls K (.ref C) (.type "type") m) "staticmethod.__get__" (He.ma K C m) C && recB K (He.ma K C m) "staticmethod")
theorem statB_ok {K : PySem.W.Frag} {C : Addr} {m : Str} (h : statB K C m = true) : ClX.CRead K C (.type "type") ∧ PySem.W.findCls K (.ref C) (.type "type") m = some (.get (.builtin "staticmethod.__get__") (.ref (He.ma K C m)) .none (.ref C)) ∧
    ∃ rest, PySem.W.recIn K (He.ma K C m) "staticmethod" = some (.ref (recFn K (He.ma K C m) "staticmethod") :: rest) := by
  obtain ⟨h1, h⟩ := He.ba h
  obtain ⟨h2, h3⟩ := He.ba h
  exact ⟨readB_ok h1, getB_ok h2, recB_ok h3⟩
/-! ### the exceptions' classes -/
def oexB (K : PySem.W.Frag) (C : Addr) : Bool := match K.lookup C with
  | some ⟨.type c, _, .cls cd, sl⟩ => decide (c = "type") && (match cd.mro, sl.toList with
    | .ref C' :: bm, [_, _, _, _, some (.builtin n), _] => decide (C' = C) && (decide (n = "ValueError.__new__") && (!cd.hasDel && (cd.hasDict && PySem.HandSPX.refsVE bm)))
    | _, _ => false)
  | _ => false
theorem oexB_ok {K : PySem.W.Frag} {C : Addr} (h : oexB K C = true) : ∃ nm q N bs bm sn sub ab col dd k0 k1 k2 k3 k5, K.lookup C = some (excClassObj nm q C N bs bm true sn sub ab col dd k0 k1 k2 k3 k5 "ValueError.__new__") ∧ PySem.HandSPX.refsVE bm = true := by
  unfold oexB at h
  split at h
  · rename_i c dd cd sl ho
    obtain ⟨h0, h⟩ := He.ba h
    split at h
    · rename_i C' bm k0 k1 k2 k3 n k5 hm hs
      obtain ⟨h1, h⟩ := He.ba h
      obtain ⟨h2, h⟩ := He.ba h
      obtain ⟨h3, h⟩ := He.ba h
      obtain ⟨h4, h5⟩ := He.ba h
      obtain rfl := of_decide_eq_true h0
      obtain rfl := of_decide_eq_true h1
      obtain rfl := of_decide_eq_true h2
      obtain ⟨nm, bs, mro, ns, qn, hd, sn, sub, ab, col, del⟩ := cd
      dsimp only at hm h3 h4
      rw [Bool.not_eq_true'] at h3
      subst hm h3 h4
      obtain ⟨l⟩ := sl
      dsimp only at hs
      subst hs
      exact ⟨nm, qn, ns, bs, bm, sn, sub, ab, col, dd, k0, k1, k2, k3, k5, ho, h5⟩
    · cases h
  · cases h
def valB (r : Option PySem.W.CFound) (v : Value) : Bool := match r with
  | some (.val a) => decide (a = v)
  | _ => false
theorem valB_ok {r : Option PySem.W.CFound} {v : Value} (h : valB r v = true) : r = some (.val v) := by
  unfold valB at h
  split at h
  · rw [of_decide_eq_true h]
  · cases h
def errB (K : PySem.W.Frag) (IN SE : Addr) : Bool := oexB K IN && (He.eqO (PySem.W.findIn K (.ref IN) "__setattr__") (some (some (.builtin "object.__setattr__"))) && (decide (PySem.W.subIn K (.ref IN) (.type "BaseException") = some true) && (decide (PySem.W.typeIn K (.ref IN) = some (.type "type")) && (PySem.W.keepIn K (.ref IN) &&
  (readB K SE && (valB (PySem.W.findCls K (.ref SE) (.type "type") "__init__") (.builtin "ValueError.__init__") && (He.eqO (PySem.W.findIn K (.ref IN) "__init__") (some (some (.ref (He.ma K IN "__init__")))) && decide (PySem.W.typeIn K (.ref (He.ma K IN "__init__")) = some (.type "function")))))))))
theorem errB_ok {K : PySem.W.Frag} {IN SE : Addr} (h : errB K IN SE = true) : OexC K IN ∧ ClX.CRead K SE (.type "type") ∧ PySem.W.findCls K (.ref SE) (.type "type") "__init__" = some (.val (.builtin "ValueError.__init__")) ∧ PySem.W.findIn K (.ref IN) "__init__" = some (some (.ref (He.ma K IN "__init__"))) ∧ PySem.W.typeIn K (.ref (He.ma K IN "__init__")) = some (.type "function") := by
  obtain ⟨h1, h⟩ := He.ba h
  obtain ⟨h2, h⟩ := He.ba h
  obtain ⟨h3, h⟩ := He.ba h
  obtain ⟨h4, h⟩ := He.ba h
  obtain ⟨h5, h⟩ := He.ba h
  obtain ⟨h6, h⟩ := He.ba h
  obtain ⟨h7, h⟩ := He.ba h
  obtain ⟨h8, h9⟩ := He.ba h
  exact ⟨⟨oexB_ok h1, He.eqO_ok h2, of_decide_eq_true h3, of_decide_eq_true h4, h5⟩, readB_ok h6, valB_ok h7, He.eqO_ok h8, of_decide_eq_true h9⟩
def kecB (K : PySem.W.Frag) (IN SE : Addr) : Bool := decide (PySem.W.exmOne K (.ref IN) (.ref SE) = some true) && (decide (PySem.W.kitOne K (.ref IN) (.ref IN) = some true) && (decide (PySem.W.kitOne K (.ref IN) (.type "ValueError") = some true) && (xfB K IN &&
  (He.eqO (PySem.W.findIn K (.ref IN) "__class__") (some (some (.builtin "object.__class__"))) && (He.eqO (PySem.W.specialIn K (.builtin "object.__class__") "__get__") (some (some (.builtin "getset_descriptor.__get__"))) && (decide (PySem.W.takesIn K (.builtin "object.__class__") = some true) && decide (PySem.W.mroIn K IN (.type "object") = some true)))))))
theorem kecB_ok {K : PySem.W.Frag} {IN SE : Addr} (h : kecB K IN SE = true) : KeC K IN SE := by
  obtain ⟨h1, h⟩ := He.ba h
  obtain ⟨h2, h⟩ := He.ba h
  obtain ⟨h3, h⟩ := He.ba h
  obtain ⟨h4, h⟩ := He.ba h
  obtain ⟨h5, h⟩ := He.ba h
  obtain ⟨h6, h⟩ := He.ba h
  obtain ⟨h7, h8⟩ := He.ba h
  have x := xfB_ok h4
  exact ⟨of_decide_eq_true h1, of_decide_eq_true h2, of_decide_eq_true h3, ⟨x.ga, x.gg, x.exC, x.hdC, He.eqO_ok h5, He.eqO_ok h6, of_decide_eq_true h7, of_decide_eq_true h8⟩, x⟩
/-! ### tuples of the text -/
def tupAt (K : PySem.W.Frag) (a : Addr) (vs : List V) : Bool := match K.lookup a with
  | some ⟨.type c, _, .seq its _, _⟩ => decide (c = "tuple") && (decide (its.size ≤ sizeLine) && He.relAll vs its.toList)
  | _ => false
theorem tupAt_ok {K : PySem.W.Frag} {a : Addr} {vs : List V} (h : tupAt K a vs = true) (H : Hp) : SqT K H a vs := by
  unfold tupAt at h
  split at h
  · rename_i c dd its n sl ho
    obtain ⟨h1, h⟩ := He.ba h
    obtain ⟨h2, h3⟩ := He.ba h
    exact .inr ⟨_, its, n, ho, congrArg Value.type (of_decide_eq_true h1), rfl, of_decide_eq_true h2, He.relAll_ok h3⟩
  · cases h
def adsOf : List Value → Option (List Addr)
  | [] => some []
  | .ref a :: r => (adsOf r).map (a :: ·)
  | _ :: _ => none
theorem adsOf_ok : ∀ {l : List Value} {as : List Addr}, adsOf l = some as → Vals (refs as) l
  | [], as, h => by
    cases h
    exact .nil
  | v :: r, as, h => by
    cases v with
    | ref a =>
      have h' : (adsOf r).map (a :: ·) = some as := h
      obtain ⟨bs, e, rfl⟩ := Option.map_eq_some_iff.mp h'
      exact .cons rfl (adsOf_ok e)
    | _ => cases h
def rowsAll (K : PySem.W.Frag) : List Addr → List (List Nat) → Bool
  | [], [] => true
  | a :: as, r :: rs => tupAt K a (nl r) && rowsAll K as rs
  | _, _ => false
theorem rowsAll_ok {K : PySem.W.Frag} : ∀ {as : List Addr} {rs : List (List Nat)}, rowsAll K as rs = true → Paired (fun a l => ∀ H, SqT K H a (nl l)) as rs
  | [], [], _ => .nil
  | a :: as, r :: rs, h => .cons (tupAt_ok (He.ba (show (tupAt K a (nl r) && rowsAll K as rs) = true from h)).1) (rowsAll_ok (He.ba (show (tupAt K a (nl r) && rowsAll K as rs) = true from h)).2)
  | [], _ :: _, h => by cases h
  | _ :: _, [], h => by cases h
def refsAt (K : PySem.W.Frag) (a : Addr) : Option (List Addr) := match K.lookup a with
  | some ⟨.type c, _, .seq its _, _⟩ => (match decide (c = "tuple") && decide (its.size ≤ sizeLine) with
    | true => adsOf its.toList
    | false => none)
  | _ => none
theorem refsAt_ok {K : PySem.W.Frag} {a : Addr} {as : List Addr} (h : refsAt K a = some as) (H : Hp) : SqT K H a (refs as) := by
  unfold refsAt at h
  split at h
  · rename_i c dd its n sl ho
    split at h
    · rename_i e
      obtain ⟨h1, h2⟩ := He.ba e
      exact .inr ⟨_, its, n, ho, congrArg Value.type (of_decide_eq_true h1), rfl, of_decide_eq_true h2, adsOf_ok h⟩
    · cases h
  · cases h
def rowsB (K : PySem.W.Frag) (a : Addr) (rs : List (List Nat)) : Bool := match refsAt K a with
  | some as => rowsAll K as rs
  | none => false
theorem rowsB_ok {K : PySem.W.Frag} {a : Addr} {rs : List (List Nat)} (h : rowsB K a rs = true) : RowsK K a rs := by
  unfold rowsB at h
  split at h
  · rename_i as e
    exact ⟨as, refsAt_ok e, rowsAll_ok h⟩
  · cases h
def namB (K : PySem.W.Frag) (ND : Addr) (q : Str × List (List Nat) × List Nat) : Bool := match PySem.W.nsIn K ND q.1 with
  | some (some (.ref pr)) => (match refsAt K pr with
    | some [rt, wt] => rowsB K rt q.2.1 && tupAt K wt (nl q.2.2)
    | _ => false)
  | _ => false
theorem namB_ok {K : PySem.W.Frag} {ND : Addr} {q : Str × List (List Nat) × List Nat} (h : namB K ND q = true) : ∃ pr rt wt, PySem.W.nsIn K ND q.1 = some (some (.ref pr)) ∧ (∀ H, SqT K H pr [.ref rt, .ref wt]) ∧ RowsK K rt q.2.1 ∧ ∀ H, SqT K H wt (nl q.2.2) := by
  unfold namB at h
  split at h
  · rename_i pr e
    split at h
    · rename_i rt wt e2
      obtain ⟨h1, h2⟩ := He.ba h
      exact ⟨pr, rt, wt, e, refsAt_ok e2, rowsB_ok h1, tupAt_ok h2⟩
    · cases h
  · cases h
/-! ### the text's facts -/

def fa : List He.Fa := ([.free "isinstance", .free "int", .free "bool", .free "tuple", .free "list", .free "str", .free "len", .free "range", .free "enumerate", .free "zip", .free "reversed", .free "sorted", .free "sum", .free "set", .free "min", .free "max", .free "abs", .free "ValueError", .glo "is_whole", .glo "is_node"] : List He.Fa) ++ ([.glo "is_tie", .glo "checked_ties", .glo "begun_order", .glo "checked_order", .glo "started", .glo "check_few", .glo "begun_with", .glo "counted", .glo "bad_step", .glo "rank_of", .glo "reached", .glo "classes_of", .glo "least_machine", .glo "order_at", .glo "_law_mixed", .glo "_law_pile", .glo "_law_take", .glo "_law_order", .glo "_law_turned", .glo "_law_near"] : List He.Fa) ++ ([.glo "_law_product", .glo "_law_sizes", .glo "_law_grown", .glo "_law_refused", .glo "_law_ranks_right", .glo "law", .glo "count_orders", .glo "orders", .glo "Graph", .glo "MadeRule", .glo "Progress", .glo "InvalidNumber", .glo "SearchError", .glo "NAMES", .glo "NAMED", .glo "Rule", .int "MOST_NODES" 60, .int "MOST_STATES" 100, .int "MOST_LISTED" 7, .cls "Graph"] : List He.Fa) ++ ([.mkr "Graph", .noat "Graph" "tie_list", .noat "Graph" "near", .cls "MadeRule", .mkr "MadeRule", .noat "MadeRule" "row_list", .noat "MadeRule" "flags", .cls "Progress", .mkr "Progress", .noat "Progress" "graph", .noat "Progress" "rule", .noat "Progress" "left", .noat "Progress" "pairs", .meth "Progress" "better", .meth "Progress" "free", .meth "Progress" "behind", .meth "Progress" "key", .noat "InvalidNumber" "number"] : List He.Fa)
def da0 : DA := ⟨fun K => He.ga K "is_whole", "is_whole", "is_whole", (topS 14), []⟩
def da1 : DA := ⟨fun K => He.ga K "is_node", "is_node", "is_node", (topS 15), []⟩
def da2 : DA := ⟨fun K => He.ga K "is_tie", "is_tie", "is_tie", (topS 16), []⟩
def da3 : DA := ⟨fun K => He.ga K "checked_ties", "checked_ties", "checked_ties", (topS 17), []⟩
def da4 : DA := ⟨fun K => He.ga K "begun_order", "begun_order", "begun_order", (topS 18), []⟩
def da5 : DA := ⟨fun K => He.ga K "checked_order", "checked_order", "checked_order", (topS 19), []⟩
def da6 : DA := ⟨fun K => He.ga K "started", "started", "started", (topS 23), []⟩
def da7 : DA := ⟨fun K => He.ga K "check_few", "check_few", "check_few", (topS 66), []⟩
def da8 : DA := ⟨fun K => He.ga K "begun_with", "begun_with", "begun_with", (topS 68), []⟩
def da9 : DA := ⟨fun K => He.ga K "counted", "counted", "counted", (topS 67), []⟩
def da10 : DA := ⟨fun K => He.ga K "bad_step", "bad_step", "bad_step", (topS 65), []⟩
def da11 : DA := ⟨fun K => He.ga K "rank_of", "rank_of", "rank_of", (topS 72), []⟩
def da12 : DA := ⟨fun K => He.ga K "reached", "reached", "reached", (topS 27), []⟩
def da13 : DA := ⟨fun K => He.ga K "classes_of", "classes_of", "classes_of", (topS 28), []⟩
def da14 : DA := ⟨fun K => He.ga K "least_machine", "least_machine", "least_machine", (topS 29), []⟩
def da15 : DA := ⟨fun K => He.ga K "order_at", "order_at", "order_at", (topS 71), []⟩
def da16 : DA := ⟨fun K => He.ga K "_law_mixed", "_law_mixed", "_law_mixed", (topS 74), []⟩
def da17 : DA := ⟨fun K => He.ga K "_law_pile", "_law_pile", "_law_pile", (topS 75), []⟩
def da18 : DA := ⟨fun K => He.ga K "_law_take", "_law_take", "_law_take", (topS 76), []⟩
def da19 : DA := ⟨fun K => He.ga K "_law_order", "_law_order", "_law_order", (topS 77), []⟩
def da20 : DA := ⟨fun K => He.ga K "_law_turned", "_law_turned", "_law_turned", (topS 79), []⟩
def da21 : DA := ⟨fun K => He.ga K "_law_near", "_law_near", "_law_near", (topS 82), []⟩
def da22 : DA := ⟨fun K => He.ga K "_law_product", "_law_product", "_law_product", (topS 83), []⟩
def da23 : DA := ⟨fun K => He.ga K "_law_sizes", "_law_sizes", "_law_sizes", (topS 84), []⟩
def da24 : DA := ⟨fun K => He.ga K "_law_grown", "_law_grown", "_law_grown", (topS 85), []⟩
def da25 : DA := ⟨fun K => He.ga K "_law_refused", "_law_refused", "_law_refused", (topS 86), []⟩
def da26 : DA := ⟨fun K => He.ga K "_law_ranks_right", "_law_ranks_right", "_law_ranks_right", (topS 87), []⟩
def da27 : DA := ⟨fun K => He.ga K "law", "law", "law", (topS 88), []⟩
def da28 : DA := ⟨fun K => He.ga K "count_orders", "count_orders", "count_orders", (topS 70), [("begun", .non)]⟩
def da29 : DA := ⟨fun K => He.ga K "orders", "orders", "orders", (topS 69), [("begun", .non)]⟩
def da30 : DA := ⟨fun K => He.ma K (He.ga K "Progress") "better", "better", "Progress.better", (inClass (topS 22) 1), []⟩
def da31 : DA := ⟨fun K => He.ma K (He.ga K "Progress") "free", "free", "Progress.free", (inClass (topS 22) 2), []⟩
def da32 : DA := ⟨fun K => He.ma K (He.ga K "Progress") "behind", "behind", "Progress.behind", (inClass (topS 22) 3), []⟩
def da33 : DA := ⟨fun K => He.ma K (He.ga K "Progress") "key", "key", "Progress.key", (inClass (topS 22) 4), []⟩
def da34 : DA := ⟨fun K => He.ma K (He.ga K "Graph") "__init__", "__init__", "Graph.__init__", (inClass (topS 20) 0), []⟩
def da35 : DA := ⟨fun K => He.ma K (He.ga K "MadeRule") "__init__", "__init__", "MadeRule.__init__", (inClass (topS 61) 0), []⟩
def da36 : DA := ⟨fun K => He.ma K (He.ga K "Progress") "__init__", "__init__", "Progress.__init__", (inClass (topS 22) 0), []⟩
def da37 : DA := ⟨fun K => He.ma K (He.ga K "InvalidNumber") "__init__", "__init__", "InvalidNumber.__init__", (inClass (topS 9) 0), []⟩
def da38 : DA := ⟨fun K => recFn K (He.ma K (He.ga K "Graph") "size") "property", "size", "Graph.size", (inClass (topS 20) 1), []⟩
def da39 : DA := ⟨fun K => recFn K (He.ma K (He.ga K "Rule") "named") "staticmethod", "named", "Rule.named", (inClass (topS 60) 1), [("bound", .non)]⟩
def das : List DA := ([da0, da1, da2, da3, da4, da5, da6, da7, da8, da9, da10, da11, da12, da13, da14, da15, da16, da17, da18, da19] : List DA) ++ ([da20, da21, da22, da23, da24, da25, da26, da27, da28, da29, da30, da31, da32, da33, da34, da35, da36, da37, da38, da39] : List DA)
def nkeys : List Str := ["any", "some", "single", "first", "last", "early", "late", "within"]
def nvals : List (Str × List (List Nat) × List Nat) := [("some", [[0, 1, 2, 1], [1, 1, 1, 1], [2, 1, 2, 1]], [2]), ("any", [[0, 0, 0, 0]], []), ("first", [[0, 1, 2, 1], [1, 1, 1, 1], [2, 2, 2, 2]], [2]), ("last", [[0, 0, 1, 0], [1, 0, 1, 0]], [1]), ("early", [[0, 1, 2, 0], [1, 1, 1, 1], [2, 2, 2, 2]], [2]), ("late", [[0, 0, 1, 0], [1, 0, 1, 1]], [1])]
def nall : List Str := ["any", "some", "single", "first", "last", "early", "late", "within", "count"]
def mores : List (PySem.W.Frag → Bool) := [fun K => propB K (He.ga K "Graph") "size", fun K => statB K (He.ga K "Rule") "named", fun K => errB K (He.ga K "InvalidNumber") (He.ga K "SearchError"), fun K => kecB K (He.ga K "InvalidNumber") (He.ga K "SearchError"), fun K => tupAt K (He.ga K "NAMES") (nall.map V.str), fun K => nvals.all fun q => namB K (He.ga K "NAMED") q]
structure More (K : PySem.W.Frag) : Prop where
  size : propB K (He.ga K "Graph") "size" = true
  named : statB K (He.ga K "Rule") "named" = true
  err : errB K (He.ga K "InvalidNumber") (He.ga K "SearchError") = true
  kec : kecB K (He.ga K "InvalidNumber") (He.ga K "SearchError") = true
  nms : tupAt K (He.ga K "NAMES") (nall.map V.str) = true
  nam : (nvals.all fun q => namB K (He.ga K "NAMED") q) = true
abbrev Al : Type := ((List Bool × List Bool) × List Bool) × List He.FnW × Option (List (Option (Str × Int)))
def obsK (K : PySem.W.Frag) : Al := (((fa.map fun f => f.ok K, das.map fun d => d.ok K), mores.map fun f => f K), das.map fun d => seen K (d.at_ K), He.dicW K (He.ga K "NAMED"))
def valK (w : World) : Al := (((fa.map fun _ => true, das.map fun _ => true), mores.map fun _ => true), das.map DA.val, some (He.keysIn w.params nkeys))
def Says (w : World) (K : PySem.W.Frag) : Prop := obsK K = valK w
/-- the addresses of what is looked at: those of the classes, defs, code objects and tables that the law reaches (the top's run is the same for all worlds) -/
def ads : List Addr := ([3, cStatics, 350, 349, 393, 392, 724, 723, 703, 702, 161, 160, 31, 30, 263, 613, 768, 760, 606, 507, 552, 208, 215, 222, 229, 236, 243, 404, 747, 759, 752] : List Addr) ++ ([740, 787, 412, 417, 422, 782, 794, 801, 808, 815, 825, 844, 851, 858, 865, 872, 877, 882, 775, 767, 373, 378, 383, 390, 255, 721, 368, 158, 262, 611] : List Addr) ++ ([207, 214, 221, 228, 235, 242, 403, 746, 758, 751, 739, 786, 411, 416, 421, 781, 793, 800, 807, 814, 824, 843, 850, 857, 864, 871, 876, 881, 774, 766] : List Addr) ++ ([372, 377, 382, 389, 254, 720, 367, 157, 261, 610, 511, 509, 508, 510, 517, 515, 512, 513, 514, 516, 529, 527, 524, 525, 526, 528, 534, 532, 530, 531] : List Addr) ++ ([533, 540, 538, 535, 536, 537, 539, 545, 543, 541, 542, 544] : List Addr)
def obsG (g : Addr → Option Obj) : Al := obsK (He.frG g ads)
def hook : PySem.W.Hook where
  α := Al
  obs := fun s => obsG s.heap.get?
  val := fun w => valK w
  says := fun w h => ∃ K : PySem.W.Frag, K.In h ∧ Says w K
  of := fun _ _ e => ⟨_, He.frG_in, e⟩
  keeps := fun _ _ _ ⟨K, hK, c⟩ k => ⟨K, PySem.W.Frag.In.keeps hK k, c⟩
def ob (s : PySem.W.SharedT) : Al := obsG (HandSHeadRun.getT s)
theorem ob_eq (s : PySem.W.SharedT) : ob s = hook.obs s.abs := by
  have e : HandSHeadRun.getT s = s.abs.heap.get? := funext (HandSHeadRun.getT_eq s)
  show obsG (HandSHeadRun.getT s) = obsG s.abs.heap.get?
  rw [e]
section
variable {w : World} {K : PySem.W.Frag} {h : Heap} {mg : Str → Option Value}
theorem all_true {α : Type} {l : List α} {f : α → Bool} (e : l.map f = l.map fun _ => true) {x : α} (m : x ∈ l) : f x = true := List.map_inj_left.mp e x m
theorem Says.fact (c : Says w K) (i : Nat) {f : He.Fa} (e : fa[i]? = some f) : f.ok K = true := all_true (congrArg (fun z : Al => z.1.1.1) c) (List.mem_of_getElem? e)
theorem Says.def_ (c : Says w K) (i : Nat) {d : DA} (e : das[i]? = some d) : ∃ fd, FunD K d.name d.qual (defArgs d.st) (defBody d.st) (defScope d.st) [] d.kws (d.at_ K) fd := by
  have m := List.mem_of_getElem? e
  exact DA.funD (List.map_inj_left.mp (congrArg (fun z : Al => z.2.1) c) d m) (all_true (congrArg (fun z : Al => z.1.1.2) c) m)
theorem Says.more (c : Says w K) : More K := by
  have e : mores.map (fun f => f K) = mores.map fun _ => true := congrArg (fun z : Al => z.1.2) c
  have a := fun (i : Nat) (f : PySem.W.Frag → Bool) (m : mores[i]? = some f) => all_true (f := fun f : PySem.W.Frag → Bool => f K) e (List.mem_of_getElem? m)
  exact ⟨a 0 _ rfl, a 1 _ rfl, a 2 _ rfl, a 3 _ rfl, a 4 _ rfl, a 5 _ rfl⟩
theorem Says.tab (c : Says w K) : ∃ es n, KDict K w (He.ga K "NAMED") es n := He.dicW_ok (show He.dicW K (He.ga K "NAMED") = some (He.keysIn w.params nkeys) from congrArg (fun z : Al => z.2.2) c)
theorem nmd_of (c : Says w K) {q : Str × List (List Nat) × List Nat} (m : q ∈ nvals) {M : SR.Mach} (l : Least q.2.1 (flagsOf q.2) M) (h : q.2.1.length ≤ 100) : Nmd K w (He.ga K "NAMED") q.1 M := by
  obtain ⟨es, n, D⟩ := c.tab
  obtain ⟨pr, rt, wt, h1, h2, h3, h4⟩ := namB_ok (List.all_eq_true.mp c.more.nam q m)
  exact ⟨pr, rt, wt, q.2.1, q.2.2, ⟨es, n, _, D.1, D.2, h1, rfl⟩, h2, h3, h4, h, l⟩
theorem kec (c : Says w K) : KeC K (He.ga K "InvalidNumber") (He.ga K "SearchError") := kecB_ok c.more.kec

theorem bl_of (X : K.In h) (G : h.Ns mainGlobals mg) (c : Says w K) : Bl mg := ⟨He.free_ok X G (c.fact 0 (f := .free "isinstance") rfl), He.free_ok X G (c.fact 1 (f := .free "int") rfl), He.free_ok X G (c.fact 2 (f := .free "bool") rfl), He.free_ok X G (c.fact 3 (f := .free "tuple") rfl), He.free_ok X G (c.fact 4 (f := .free "list") rfl), He.free_ok X G (c.fact 5 (f := .free "str") rfl), He.free_ok X G (c.fact 6 (f := .free "len") rfl), He.free_ok X G (c.fact 7 (f := .free "range") rfl), He.free_ok X G (c.fact 8 (f := .free "enumerate") rfl), He.free_ok X G (c.fact 9 (f := .free "zip") rfl), He.free_ok X G (c.fact 10 (f := .free "reversed") rfl), He.free_ok X G (c.fact 11 (f := .free "sorted") rfl), He.free_ok X G (c.fact 12 (f := .free "sum") rfl), He.free_ok X G (c.fact 13 (f := .free "set") rfl), He.free_ok X G (c.fact 14 (f := .free "min") rfl), He.free_ok X G (c.fact 15 (f := .free "max") rfl), He.free_ok X G (c.fact 16 (f := .free "abs") rfl)⟩
theorem ve_of (X : K.In h) (G : h.Ns mainGlobals mg) (c : Says w K) : mg "ValueError" = none := He.free_ok X G (c.fact 17 (f := .free "ValueError") rfl)
theorem df_is_whole (X : K.In h) (G : h.Ns mainGlobals mg) (c : Says w K) : Df K mg "is_whole" (topS 14) := by
  obtain ⟨fd, F⟩ := c.def_ 0 (d := da0) rfl
  exact ⟨_, fd, F, (He.glo_ok X G (c.fact 18 (f := .glo "is_whole") rfl))⟩
theorem df_is_node (X : K.In h) (G : h.Ns mainGlobals mg) (c : Says w K) : Df K mg "is_node" (topS 15) := by
  obtain ⟨fd, F⟩ := c.def_ 1 (d := da1) rfl
  exact ⟨_, fd, F, (He.glo_ok X G (c.fact 19 (f := .glo "is_node") rfl))⟩
theorem df_is_tie (X : K.In h) (G : h.Ns mainGlobals mg) (c : Says w K) : Df K mg "is_tie" (topS 16) := by
  obtain ⟨fd, F⟩ := c.def_ 2 (d := da2) rfl
  exact ⟨_, fd, F, (He.glo_ok X G (c.fact 20 (f := .glo "is_tie") rfl))⟩
theorem df_checked_ties (X : K.In h) (G : h.Ns mainGlobals mg) (c : Says w K) : Df K mg "checked_ties" (topS 17) := by
  obtain ⟨fd, F⟩ := c.def_ 3 (d := da3) rfl
  exact ⟨_, fd, F, (He.glo_ok X G (c.fact 21 (f := .glo "checked_ties") rfl))⟩
theorem df_begun_order (X : K.In h) (G : h.Ns mainGlobals mg) (c : Says w K) : Df K mg "begun_order" (topS 18) := by
  obtain ⟨fd, F⟩ := c.def_ 4 (d := da4) rfl
  exact ⟨_, fd, F, (He.glo_ok X G (c.fact 22 (f := .glo "begun_order") rfl))⟩
theorem df_checked_order (X : K.In h) (G : h.Ns mainGlobals mg) (c : Says w K) : Df K mg "checked_order" (topS 19) := by
  obtain ⟨fd, F⟩ := c.def_ 5 (d := da5) rfl
  exact ⟨_, fd, F, (He.glo_ok X G (c.fact 23 (f := .glo "checked_order") rfl))⟩
theorem df_started (X : K.In h) (G : h.Ns mainGlobals mg) (c : Says w K) : Df K mg "started" (topS 23) := by
  obtain ⟨fd, F⟩ := c.def_ 6 (d := da6) rfl
  exact ⟨_, fd, F, (He.glo_ok X G (c.fact 24 (f := .glo "started") rfl))⟩
theorem df_check_few (X : K.In h) (G : h.Ns mainGlobals mg) (c : Says w K) : Df K mg "check_few" (topS 66) := by
  obtain ⟨fd, F⟩ := c.def_ 7 (d := da7) rfl
  exact ⟨_, fd, F, (He.glo_ok X G (c.fact 25 (f := .glo "check_few") rfl))⟩
theorem df_begun_with (X : K.In h) (G : h.Ns mainGlobals mg) (c : Says w K) : Df K mg "begun_with" (topS 68) := by
  obtain ⟨fd, F⟩ := c.def_ 8 (d := da8) rfl
  exact ⟨_, fd, F, (He.glo_ok X G (c.fact 26 (f := .glo "begun_with") rfl))⟩
theorem df_counted (X : K.In h) (G : h.Ns mainGlobals mg) (c : Says w K) : Df K mg "counted" (topS 67) := by
  obtain ⟨fd, F⟩ := c.def_ 9 (d := da9) rfl
  exact ⟨_, fd, F, (He.glo_ok X G (c.fact 27 (f := .glo "counted") rfl))⟩
theorem df_bad_step (X : K.In h) (G : h.Ns mainGlobals mg) (c : Says w K) : Df K mg "bad_step" (topS 65) := by
  obtain ⟨fd, F⟩ := c.def_ 10 (d := da10) rfl
  exact ⟨_, fd, F, (He.glo_ok X G (c.fact 28 (f := .glo "bad_step") rfl))⟩
theorem df_rank_of (X : K.In h) (G : h.Ns mainGlobals mg) (c : Says w K) : Df K mg "rank_of" (topS 72) := by
  obtain ⟨fd, F⟩ := c.def_ 11 (d := da11) rfl
  exact ⟨_, fd, F, (He.glo_ok X G (c.fact 29 (f := .glo "rank_of") rfl))⟩
theorem df_reached (X : K.In h) (G : h.Ns mainGlobals mg) (c : Says w K) : Df K mg "reached" (topS 27) := by
  obtain ⟨fd, F⟩ := c.def_ 12 (d := da12) rfl
  exact ⟨_, fd, F, (He.glo_ok X G (c.fact 30 (f := .glo "reached") rfl))⟩
theorem df_classes_of (X : K.In h) (G : h.Ns mainGlobals mg) (c : Says w K) : Df K mg "classes_of" (topS 28) := by
  obtain ⟨fd, F⟩ := c.def_ 13 (d := da13) rfl
  exact ⟨_, fd, F, (He.glo_ok X G (c.fact 31 (f := .glo "classes_of") rfl))⟩
theorem df_least_machine (X : K.In h) (G : h.Ns mainGlobals mg) (c : Says w K) : Df K mg "least_machine" (topS 29) := by
  obtain ⟨fd, F⟩ := c.def_ 14 (d := da14) rfl
  exact ⟨_, fd, F, (He.glo_ok X G (c.fact 32 (f := .glo "least_machine") rfl))⟩
theorem df_order_at (X : K.In h) (G : h.Ns mainGlobals mg) (c : Says w K) : Df K mg "order_at" (topS 71) := by
  obtain ⟨fd, F⟩ := c.def_ 15 (d := da15) rfl
  exact ⟨_, fd, F, (He.glo_ok X G (c.fact 33 (f := .glo "order_at") rfl))⟩
theorem df__law_mixed (X : K.In h) (G : h.Ns mainGlobals mg) (c : Says w K) : Df K mg "_law_mixed" (topS 74) := by
  obtain ⟨fd, F⟩ := c.def_ 16 (d := da16) rfl
  exact ⟨_, fd, F, (He.glo_ok X G (c.fact 34 (f := .glo "_law_mixed") rfl))⟩
theorem df__law_pile (X : K.In h) (G : h.Ns mainGlobals mg) (c : Says w K) : Df K mg "_law_pile" (topS 75) := by
  obtain ⟨fd, F⟩ := c.def_ 17 (d := da17) rfl
  exact ⟨_, fd, F, (He.glo_ok X G (c.fact 35 (f := .glo "_law_pile") rfl))⟩
theorem df__law_take (X : K.In h) (G : h.Ns mainGlobals mg) (c : Says w K) : Df K mg "_law_take" (topS 76) := by
  obtain ⟨fd, F⟩ := c.def_ 18 (d := da18) rfl
  exact ⟨_, fd, F, (He.glo_ok X G (c.fact 36 (f := .glo "_law_take") rfl))⟩
theorem df__law_order (X : K.In h) (G : h.Ns mainGlobals mg) (c : Says w K) : Df K mg "_law_order" (topS 77) := by
  obtain ⟨fd, F⟩ := c.def_ 19 (d := da19) rfl
  exact ⟨_, fd, F, (He.glo_ok X G (c.fact 37 (f := .glo "_law_order") rfl))⟩
theorem df__law_turned (X : K.In h) (G : h.Ns mainGlobals mg) (c : Says w K) : Df K mg "_law_turned" (topS 79) := by
  obtain ⟨fd, F⟩ := c.def_ 20 (d := da20) rfl
  exact ⟨_, fd, F, (He.glo_ok X G (c.fact 38 (f := .glo "_law_turned") rfl))⟩
theorem df__law_near (X : K.In h) (G : h.Ns mainGlobals mg) (c : Says w K) : Df K mg "_law_near" (topS 82) := by
  obtain ⟨fd, F⟩ := c.def_ 21 (d := da21) rfl
  exact ⟨_, fd, F, (He.glo_ok X G (c.fact 39 (f := .glo "_law_near") rfl))⟩
theorem df__law_product (X : K.In h) (G : h.Ns mainGlobals mg) (c : Says w K) : Df K mg "_law_product" (topS 83) := by
  obtain ⟨fd, F⟩ := c.def_ 22 (d := da22) rfl
  exact ⟨_, fd, F, (He.glo_ok X G (c.fact 40 (f := .glo "_law_product") rfl))⟩
theorem df__law_sizes (X : K.In h) (G : h.Ns mainGlobals mg) (c : Says w K) : Df K mg "_law_sizes" (topS 84) := by
  obtain ⟨fd, F⟩ := c.def_ 23 (d := da23) rfl
  exact ⟨_, fd, F, (He.glo_ok X G (c.fact 41 (f := .glo "_law_sizes") rfl))⟩
theorem df__law_grown (X : K.In h) (G : h.Ns mainGlobals mg) (c : Says w K) : Df K mg "_law_grown" (topS 85) := by
  obtain ⟨fd, F⟩ := c.def_ 24 (d := da24) rfl
  exact ⟨_, fd, F, (He.glo_ok X G (c.fact 42 (f := .glo "_law_grown") rfl))⟩
theorem df__law_refused (X : K.In h) (G : h.Ns mainGlobals mg) (c : Says w K) : Df K mg "_law_refused" (topS 86) := by
  obtain ⟨fd, F⟩ := c.def_ 25 (d := da25) rfl
  exact ⟨_, fd, F, (He.glo_ok X G (c.fact 43 (f := .glo "_law_refused") rfl))⟩
theorem df__law_ranks_right (X : K.In h) (G : h.Ns mainGlobals mg) (c : Says w K) : Df K mg "_law_ranks_right" (topS 87) := by
  obtain ⟨fd, F⟩ := c.def_ 26 (d := da26) rfl
  exact ⟨_, fd, F, (He.glo_ok X G (c.fact 44 (f := .glo "_law_ranks_right") rfl))⟩
theorem df_law (X : K.In h) (G : h.Ns mainGlobals mg) (c : Says w K) : Df K mg "law" (topS 88) := by
  obtain ⟨fd, F⟩ := c.def_ 27 (d := da27) rfl
  exact ⟨_, fd, F, (He.glo_ok X G (c.fact 45 (f := .glo "law") rfl))⟩
theorem dk_count_orders (X : K.In h) (G : h.Ns mainGlobals mg) (c : Says w K) : Dk K mg "count_orders" (topS 70) [("begun", .non)] := by
  obtain ⟨fd, F⟩ := c.def_ 28 (d := da28) rfl
  exact ⟨_, fd, F, (He.glo_ok X G (c.fact 46 (f := .glo "count_orders") rfl))⟩
theorem dk_orders (X : K.In h) (G : h.Ns mainGlobals mg) (c : Says w K) : Dk K mg "orders" (topS 69) [("begun", .non)] := by
  obtain ⟨fd, F⟩ := c.def_ 29 (d := da29) rfl
  exact ⟨_, fd, F, (He.glo_ok X G (c.fact 47 (f := .glo "orders") rfl))⟩
theorem int_MOST_NODES (X : K.In h) (G : h.Ns mainGlobals mg) (c : Says w K) : ∃ tk, mg "MOST_NODES" = some (.int 60 tk) := He.int_ok X G (c.fact 56 (f := .int "MOST_NODES" 60) rfl)
theorem int_MOST_STATES (X : K.In h) (G : h.Ns mainGlobals mg) (c : Says w K) : ∃ tk, mg "MOST_STATES" = some (.int 100 tk) := He.int_ok X G (c.fact 57 (f := .int "MOST_STATES" 100) rfl)
theorem int_MOST_LISTED (X : K.In h) (G : h.Ns mainGlobals mg) (c : Says w K) : ∃ tk, mg "MOST_LISTED" = some (.int 7 tk) := He.int_ok X G (c.fact 58 (f := .int "MOST_LISTED" 7) rfl)
theorem dm_better (c : Says w K) : Dm K (He.ga K "Progress") "better" "Progress.better" (inClass (topS 22) 1) := by
  obtain ⟨fd, F⟩ := c.def_ 30 (d := da30) rfl
  exact ⟨He.cls_ok (c.fact 67 (f := .cls "Progress") rfl), _, fd, F, He.meth_ok (c.fact 73 (f := .meth "Progress" "better") rfl)⟩
theorem dm_free (c : Says w K) : Dm K (He.ga K "Progress") "free" "Progress.free" (inClass (topS 22) 2) := by
  obtain ⟨fd, F⟩ := c.def_ 31 (d := da31) rfl
  exact ⟨He.cls_ok (c.fact 67 (f := .cls "Progress") rfl), _, fd, F, He.meth_ok (c.fact 74 (f := .meth "Progress" "free") rfl)⟩
theorem dm_behind (c : Says w K) : Dm K (He.ga K "Progress") "behind" "Progress.behind" (inClass (topS 22) 3) := by
  obtain ⟨fd, F⟩ := c.def_ 32 (d := da32) rfl
  exact ⟨He.cls_ok (c.fact 67 (f := .cls "Progress") rfl), _, fd, F, He.meth_ok (c.fact 75 (f := .meth "Progress" "behind") rfl)⟩
theorem dm_key (c : Says w K) : Dm K (He.ga K "Progress") "key" "Progress.key" (inClass (topS 22) 4) := by
  obtain ⟨fd, F⟩ := c.def_ 33 (d := da33) rfl
  exact ⟨He.cls_ok (c.fact 67 (f := .cls "Progress") rfl), _, fd, F, He.meth_ok (c.fact 76 (f := .meth "Progress" "key") rfl)⟩
theorem di_Graph (X : K.In h) (G : h.Ns mainGlobals mg) (c : Says w K) : Di K mg "Graph" (He.ga K "Graph") "Graph.__init__" (inClass (topS 20) 0) := by
  obtain ⟨fd, F⟩ := c.def_ 34 (d := da34) rfl
  exact ⟨_, fd, F, He.mkr_ok (c.fact 60 (f := .mkr "Graph") rfl), (He.glo_ok X G (c.fact 48 (f := .glo "Graph") rfl))⟩
theorem di_MadeRule (X : K.In h) (G : h.Ns mainGlobals mg) (c : Says w K) : Di K mg "MadeRule" (He.ga K "MadeRule") "MadeRule.__init__" (inClass (topS 61) 0) := by
  obtain ⟨fd, F⟩ := c.def_ 35 (d := da35) rfl
  exact ⟨_, fd, F, He.mkr_ok (c.fact 64 (f := .mkr "MadeRule") rfl), (He.glo_ok X G (c.fact 49 (f := .glo "MadeRule") rfl))⟩
theorem di_Progress (X : K.In h) (G : h.Ns mainGlobals mg) (c : Says w K) : Di K mg "Progress" (He.ga K "Progress") "Progress.__init__" (inClass (topS 22) 0) := by
  obtain ⟨fd, F⟩ := c.def_ 36 (d := da36) rfl
  exact ⟨_, fd, F, He.mkr_ok (c.fact 68 (f := .mkr "Progress") rfl), (He.glo_ok X G (c.fact 50 (f := .glo "Progress") rfl))⟩
theorem cc_Graph (c : Says w K) : GraphC K (He.ga K "Graph") := ⟨He.cls_ok (c.fact 59 (f := .cls "Graph") rfl), He.noat_ok (c.fact 61 (f := .noat "Graph" "tie_list") rfl), He.noat_ok (c.fact 62 (f := .noat "Graph" "near") rfl)⟩
theorem cc_MadeRule (c : Says w K) : RuleC K (He.ga K "MadeRule") := ⟨He.cls_ok (c.fact 63 (f := .cls "MadeRule") rfl), He.noat_ok (c.fact 65 (f := .noat "MadeRule" "row_list") rfl), He.noat_ok (c.fact 66 (f := .noat "MadeRule" "flags") rfl)⟩
theorem cc_Progress (c : Says w K) : ProgC K (He.ga K "Progress") := ⟨He.cls_ok (c.fact 67 (f := .cls "Progress") rfl), He.noat_ok (c.fact 69 (f := .noat "Progress" "graph") rfl), He.noat_ok (c.fact 70 (f := .noat "Progress" "rule") rfl), He.noat_ok (c.fact 71 (f := .noat "Progress" "left") rfl), He.noat_ok (c.fact 72 (f := .noat "Progress" "pairs") rfl)⟩
theorem dp_size (c : Says w K) : Dp K (He.ga K "Graph") "size" "Graph.size" (inClass (topS 20) 1) := by
  obtain ⟨fd, F⟩ := c.def_ 38 (d := da38) rfl
  exact ⟨He.cls_ok (c.fact 59 (f := .cls "Graph") rfl), _, _, fd, F, propB_ok c.more.size⟩
theorem sm_named (X : K.In h) (G : h.Ns mainGlobals mg) (c : Says w K) : Sm K mg "Rule" "named" "Rule.named" (inClass (topS 60) 1) [("bound", .non)] := by
  obtain ⟨fd, F⟩ := c.def_ 39 (d := da39) rfl
  obtain ⟨h1, h2, rest, h3⟩ := statB_ok c.more.named
  exact ⟨_, _, _, fd, rest, (He.glo_ok X G (c.fact 55 (f := .glo "Rule") rfl)), h1, h2, h3, F⟩
theorem erc (X : K.In h) (G : h.Ns mainGlobals mg) (c : Says w K) : ErC K mg (He.ga K "InvalidNumber") (He.ga K "SearchError") := by
  obtain ⟨fd, F⟩ := c.def_ 37 (d := da37) rfl
  obtain ⟨e1, e2, e3, e4, e5⟩ := errB_ok c.more.err
  exact ⟨(He.glo_ok X G (c.fact 51 (f := .glo "InvalidNumber") rfl)), (He.glo_ok X G (c.fact 52 (f := .glo "SearchError") rfl)), e1, e2, e3, He.noat_ok (c.fact 77 (f := .noat "InvalidNumber" "number") rfl), _, fd, F, e4, e5⟩
theorem nmc (X : K.In h) (G : h.Ns mainGlobals mg) (c : Says w K) : NmC K w mg (He.ga K "NAMES") (He.ga K "NAMED") := ⟨(He.glo_ok X G (c.fact 53 (f := .glo "NAMES") rfl)), (He.glo_ok X G (c.fact 54 (f := .glo "NAMED") rfl)), fun H => tupAt_ok (vs := nall.map V.str) c.more.nms H⟩
theorem nmd (c : Says w K) : ∀ i, i < 6 → Nmd K w (He.ga K "NAMED") (sixN.getD i "") (SR.six.getD i SR.mAny)
  | 0, _ => nmd_of c (q := ("some", [[0, 1, 2, 1], [1, 1, 1, 1], [2, 1, 2, 1]], [2])) (by decide) least_some (by decide)
  | 1, _ => nmd_of c (q := ("any", [[0, 0, 0, 0]], [])) (by decide) least_any (by decide)
  | 2, _ => nmd_of c (q := ("first", [[0, 1, 2, 1], [1, 1, 1, 1], [2, 2, 2, 2]], [2])) (by decide) least_first (by decide)
  | 3, _ => nmd_of c (q := ("last", [[0, 0, 1, 0], [1, 0, 1, 0]], [1])) (by decide) least_last (by decide)
  | 4, _ => nmd_of c (q := ("early", [[0, 1, 2, 0], [1, 1, 1, 1], [2, 2, 2, 2]], [2])) (by decide) least_early (by decide)
  | 5, _ => nmd_of c (q := ("late", [[0, 0, 1, 0], [1, 0, 1, 1]], [1])) (by decide) least_late (by decide)
  | n + 6, h => absurd h (by omega)
end
end Hd
end
section
set_option Elab.async false
set_option linter.all false
set_option maxRecDepth 100000
set_option maxHeartbeats 0
namespace Hr
open PySem PySem.W PySem.Calls PyProof.Rows
abbrev R : OpenRow := OpenLaw.row PySem.Challenge.rw_searchrules_k54_whole_orders_counted
abbrev qv : Program := view R.prog [88]
def names : List PySem.Str := (["_wall", "SearchError", "InvalidGraph", "InvalidOrder", "InvalidMachine", "NotARule", "NotLayered", "InvalidSet", "InvalidNumber", "UnknownName", "TooMany", "MOST_NODES", "is_whole", "is_node", "is_tie", "checked_ties", "begun_order", "checked_order", "Graph", "Progress", "started", "MIRRORED", "MOST_STATES", "reached", "classes_of", "least_machine", "mirrored", "letter_of", "state_behind", "sets_of"] : List PySem.Str) ++ (["alike_worse", "three_behind", "three_sets", "broken", "unlayered", "both_read", "kept_until", "kept_every", "by_turns", "tied_then", "MOST_PASSED", "MOST_LAYERED", "MOST_MOMENT", "MOST_UNTIL", "MOST_DIVISOR", "MOST_BOUND", "NAMED", "NAMES", "is_row", "are_states", "check_machine", "is_set", "checked_between", "counting", "contained", "Rule", "MadeRule", "shown_unlayered", "MOST_LISTED", "bad_step"] : List PySem.Str) ++ (["check_few", "counted", "begun_with", "orders", "count_orders", "order_at", "rank_of", "_law_mixed", "_law_pile", "_law_take", "_law_order", "_law_graph", "_law_turned", "_law_named", "_law_rule", "_law_near", "_law_product", "_law_sizes", "_law_grown", "_law_refused", "_law_ranks_right"] : List PySem.Str)
abbrev hk : Hook := Hd.hook
abbrev ob : SharedT → Hd.Al := Hd.ob
theorem run0 (w : World) : HandSHeadRun.RunEq R qv hk ob 12000 names (w.withFollow "special-get-raises" false) := by
  intro os
  kernel_rfl
theorem run1 (w : World) : HandSHeadRun.RunEq R qv hk ob 12000 names (w.withFollow "special-get-raises" true) := by
  intro os
  kernel_rfl
theorem run (w : World) : HandSHeadRun.RunEq R qv hk ob 12000 names w := byRow2 "special-get-raises" (P := HandSHeadRun.RunEq R qv hk ob 12000 names) run0 run1 w
end Hr
end
section
set_option Elab.async false
set_option linter.all false
set_option maxRecDepth 100000
set_option maxHeartbeats 4000000
namespace Hd
open PySem PySem.Spec PyProof.Rows L2 W
/-- the classes by their names -/
def adOf (K : PySem.W.Frag) : Ad := ⟨He.ga K "Graph", He.ga K "MadeRule", He.ga K "Progress"⟩
theorem law_ok {P : Program} {w : World} {K : PySem.W.Frag} {h : Heap} {mg : Str → Option Value} {f : Addr} {fd : FuncData} (X : K.In h) (G : h.Ns mainGlobals mg) (c : Says w K) (F : FnP K "law" "law" (topS 88) f fd) (base : Heap) :
    FnOk P w K mg base CX0 18 f fd ["_law_script"] (spLaw K) := by
  have T := bl_of X G c
  obtain ⟨t1, mN⟩ := int_MOST_NODES X G c
  obtain ⟨t2, mS⟩ := int_MOST_STATES X G c
  obtain ⟨t3, mL⟩ := int_MOST_LISTED X G c
  have GC : GraphC K (adOf K).G := cc_Graph c
  have RC : RuleC K (adOf K).R := cc_MadeRule c
  have PC : ProgC K (adOf K).P := cc_Progress c
  have FW := ok_is_whole (P := P) (w := w) (base := base) T (df_is_whole X G c)
  have FN := ok_is_node (df_is_node X G c) FW
  have FTi := ok_is_tie T (df_is_tie X G c) FN
  have FCt := ok_checked_ties T mN (df_checked_ties X G c) FW FTi
  have FBo := ok_begun_order T (df_begun_order X G c) FN
  have FS := ok_size (P := P) (w := w) (mg := mg) (base := base) T GC (dp_size c)
  have FCo := ok_checked_order T (df_checked_order X G c) FBo FS
  have FG := ok_Graph T GC (di_Graph X G c) FCt
  have FI := ok_PInit (P := P) (w := w) (base := base) (C := adOf K) PC (di_Progress X G c)
  have FBe := ok_better (P := P) (w := w) (mg := mg) (base := base) (C := adOf K) RC PC (dm_better c)
  have FFr := ok_free PC (dm_free c) FBe
  have FSt := ok_started T (df_started X G c) FS FI
  have FK := ok_key (P := P) (w := w) (mg := mg) (base := base) (C := adOf K) T PC (dm_key c)
  have FBh := ok_behind T GC RC PC (dm_behind c) FI
  have FF := ok_check_few (C := adOf K) T mL (df_check_few X G c) FS
  have FBw := ok_begun_with T PC (df_begun_with X G c) FS FBo FF FSt FFr FBh
  have FC := ok_counted T PC (df_counted X G c) FK FFr FBh
  have FCn := ok_count_orders T (dk_count_orders X G c) FBw FC
  have FB := ok_bad_step T PC (df_bad_step X G c) FCo FSt FBe FBh
  have FR := ok_rank_of T PC (df_rank_of X G c) FCo FF FSt FFr FBh FC
  have FRe := ok_reached (P := P) (w := w) (base := base) T (df_reached X G c)
  have FCl := ok_classes_of (P := P) (w := w) (base := base) T mS (df_classes_of X G c)
  have FL := ok_least T (df_least_machine X G c) FRe FCl
  have FM := ok_MadeRule T RC (di_MadeRule X G c) FL
  have FNa := ok_named T (nmc X G c) (sm_named X G c) FM
  have FA := ok_order_at T (erc X G c) PC (df_order_at X G c) FW FF FSt FFr FBh FC
  have FMi := ok_mixed (P := P) (w := w) (base := base) T (df__law_mixed X G c)
  have FPi := ok_pile (P := P) (w := w) (base := base) T (df__law_pile X G c)
  have FT := ok_take T (df__law_take X G c) FMi
  have FO := ok_order T (df__law_order X G c) FT
  have FTu := ok_turned T (df__law_turned X G c) FO
  have FNe := ok_near (P := P) (w := w) (base := base) T (df__law_near X G c)
  have FPr := ok_product (P := P) (w := w) (base := base) T (df__law_product X G c)
  have FSz := ok_sizes (P := P) (w := w) (base := base) T (df__law_sizes X G c)
  have FGr := ok_grown T (df__law_grown X G c) FSz FPr
  have FX := ok_refused T (erc X G c) (kec c) (ve_of X G c) (df__law_refused X G c) FA
  have FRa := ok_ranks T PC (df__law_ranks_right X G c) FT FA FR FB FX FBw FFr FBh (dk_orders X G c)
  exact ok_law (C := adOf K) T (nmd c) F FPi FT FNa FTu FPr FCn FG FGr FNe FRa
theorem facts {P : Program} {w : World} {K : PySem.W.Frag} {h : Heap} {mg : Str → Option Value} {f : Addr} (X : K.In h) (G : h.Ns mainGlobals mg) (hfa : mg ("law" : Str) = some (.ref f)) (c : Says w K) :
    ∃ fd : FuncData, (∀ (s : Shared) (v : Value), BindsTo s fd ⟨[v], []⟩ [("_law_script", v)]) ∧ ∀ base : Heap, K.In base → base.Ns mainGlobals mg → FnOk P w K mg base CX0 18 f fd ["_law_script"] (spLaw K) := by
  obtain ⟨f0, fd, F, hm⟩ := df_law X G c
  have e := hfa.symm.trans hm
  cases e
  have b := FunD.bindsA (ps := ["_law_script"]) F fun _ _ _ _ _ _ us hl => match us, hl with | [_], _ => rfl
  exact ⟨fd, fun s v => b s [v] rfl, fun base _ _ => law_ok X G c F base⟩
end Hd
open PySem PySem.W PySem.Calls PyProof.Rows
theorem PySem.Challenge.cw_searchrules_k54_whole_orders_counted_holds : PySem.Challenge.rw_searchrules_k54_whole_orders_counted.Holds := by
  w_on; o_law
  refine HandSHeadRun.head_any (r := OpenLaw.row PySem.Challenge.rw_searchrules_k54_whole_orders_counted) (q := Hr.qv) (H := Hd.hook) (ob := Hd.ob) (M := 12000) (loose := Hr.names) (d := HandSHeadRun.topDef (OpenLaw.row PySem.Challenge.rw_searchrules_k54_whole_orders_counted).prog 88) (kwd := []) Hd.ob_eq
    (by kernel_rfl) (fun s => by kernel_rfl) Hr.run (by kernel_rfl) (by kernel_rfl) (by kernel_rfl) (by rfl) (by first | assumption | decide +kernel) (by decide +kernel) ⟨rfl, rfl, rfl, rfl, rfl, by decide +kernel⟩ ?hw ?hc
  case hw => w_witness2
  case hc =>
    refine L2.walk_ofE (l := PySem.Challenge.rw_searchrules_k54_whole_orders_counted) (n := 63) (k := 18) (x := "_law_script") (CX := L2.CX0) rfl (by decide) (by kernel_rfl) ⟨rfl, by decide, by decide⟩ ?F (fun _ _ _ _ z => z)
    intro w mg fa h Y G hmg0
    obtain ⟨K, KX, c⟩ := Y
    have hmg : mg ("law" : PySem.Str) = some (.ref fa) := by
      have e : (HandSHeadRun.topDef (OpenLaw.row PySem.Challenge.rw_searchrules_k54_whole_orders_counted).prog 88).name = ("law" : PySem.Str) := by kernel_rfl
      rw [← e]
      exact hmg0
    obtain ⟨fd, hb, hF⟩ := Hd.facts (P := (PySem.Challenge.rw_searchrules_k54_whole_orders_counted).prog) (w := w) KX G hmg c
    exact ⟨K, fd, W.spLaw K, KX, hb, fun H a ns hl _ hS => ⟨a, ns, rfl, hS, fun _ => rfl⟩, hF⟩
end
