import PyProof.Rows.All
import Wide.All
import OpenK.AllK
import Wide.FinOn
import PyProof.EqAt
import PyProof.EqKinds
import PyProof.TupleCall
import Open.SpecLaws
import KE.OsGo
import PySem.Challenge.RW_lotfounders_s01_answers
import HandS.ForSpec
import HandS.Comp
import HandS.Dict
import HandS.WordsDict
import HandS.Iter
import HandS.Text
import HandS.SetKeys
import HandS.Wide
import HandS.More
import HandS.CallLocal
import HandS.Evl
import HandS.Walk
import HandS.NoneIn
import Open.Spec
section
set_option linter.all false
set_option autoImplicit false
namespace LF
open TbBase TbLtBook TbLtFlow

/-! ## sums -/
theorem sumN_aux : ∀ (l : List Nat) (a : Nat), l.foldl (fun (a b : Nat) => a + b) a = a + l.sum
  | [], a => by simp
  | x :: r, a => by rw [List.foldl_cons, sumN_aux r (a + x), List.sum_cons]; omega
theorem sumN_sum (l : List Nat) : sumN l = l.sum := by
  unfold sumN; rw [sumN_aux]; omega
theorem sumN_cons (x : Nat) (l : List Nat) : sumN (x :: l) = x + sumN l := by
  rw [sumN_sum, sumN_sum, List.sum_cons]

/-! ## the spec's search, round by round -/
def Lv (b : Book) (w : Flow) (l : List Came) : Nat → List Came
  | 0 => l
  | k + 1 => wayOn b w (Lv b w l k)

def stepOn (w : Flow) (had : List Came) (l : List Came) (x : Leg × Nat) : List Came :=
  let laid := w.legs.getD x.2 0
  if cameTo had x.1.of = true ∧ cameTo l x.1.to = false ∧ laid < x.1.weight then l ++ [(x.1.to, some (x.2, true))]
  else if cameTo had x.1.to = true ∧ cameTo l x.1.of = false ∧ 0 < laid then l ++ [(x.1.of, some (x.2, false))] else l
theorem wayOn_eq (b : Book) (w : Flow) (had : List Came) : wayOn b w had = b.legs.zipIdx.foldl (stepOn w had) had := rfl

theorem cameTo_iff {l : List Came} {n : Nat} : cameTo l n = true ↔ n ∈ l.map (·.1) := by
  unfold cameTo
  rw [List.any_eq_true]
  constructor
  · rintro ⟨x, hx, e⟩
    exact List.mem_map.mpr ⟨x, hx, by simpa using e⟩
  · intro h
    obtain ⟨x, hx, e⟩ := List.mem_map.mp h
    exact ⟨x, hx, by simpa using e⟩
theorem cameTo_false {l : List Came} {n : Nat} : cameTo l n = false ↔ ¬ n ∈ l.map (·.1) := by
  rw [← cameTo_iff]; simp
theorem cameTo_append {l m : List Came} {n : Nat} : cameTo (l ++ m) n = (cameTo l n || cameTo m n) := by
  unfold cameTo; rw [List.any_append]

/-- what a new entry says: the arc, from a lot that was come to -/
def Arc (b : Book) (w : Flow) (i : Nat) (d : Bool) (u v : Nat) : Prop :=
  ∃ g, b.legs[i]? = some g ∧ ((d = true ∧ u = g.of ∧ v = g.to ∧ w.legs.getD i 0 < g.weight) ∨ (d = false ∧ u = g.to ∧ v = g.of ∧ 0 < w.legs.getD i 0))

structure Grown (b : Book) (w : Flow) (had l : List Came) : Prop where
  ex : ∃ m, l = had ++ m ∧ ∀ c ∈ m, ∃ i d u, c.2 = some (i, d) ∧ Arc b w i d u c.1 ∧ cameTo had u = true ∧ cameTo had c.1 = false
  nd : (had.map (·.1)).Nodup → (l.map (·.1)).Nodup

theorem Grown.refl (b : Book) (w : Flow) (had : List Came) : Grown b w had had :=
  ⟨⟨[], by simp, by simp⟩, fun h => h⟩
theorem nodup_snoc {α : Type} {l : List α} {a : α} (h : l.Nodup) (n : ¬ a ∈ l) : (l ++ [a]).Nodup := by
  rw [List.nodup_append]
  refine ⟨h, by simp, ?_⟩
  intro x hx y hy e
  have : y = a := by simpa using hy
  subst this; subst e; exact n hx
theorem Grown.snoc {b : Book} {w : Flow} {had l : List Came} (G : Grown b w had l) {c : Came} (hc : cameTo l c.1 = false)
    (h : ∃ i d u, c.2 = some (i, d) ∧ Arc b w i d u c.1 ∧ cameTo had u = true) : Grown b w had (l ++ [c]) := by
  obtain ⟨m, e, hm⟩ := G.ex
  refine ⟨⟨m ++ [c], by rw [e, List.append_assoc], fun c' h' => ?_⟩, fun nd => ?_⟩
  · rcases List.mem_append.mp h' with q | q
    · exact hm c' q
    · have : c' = c := by simpa using q
      subst this
      obtain ⟨i, d, u, h1, h2, h3⟩ := h
      refine ⟨i, d, u, h1, h2, h3, ?_⟩
      rw [e, cameTo_append] at hc
      exact (Bool.or_eq_false_iff.mp hc).1
  · rw [List.map_append]
    exact nodup_snoc (G.nd nd) (cameTo_false.mp hc)

theorem step_grown {b : Book} {w : Flow} {had l : List Came} (G : Grown b w had l) {x : Leg × Nat} (hx : b.legs[x.2]? = some x.1) : Grown b w had (stepOn w had l x) := by
  unfold stepOn
  dsimp only
  split
  · rename_i h
    exact G.snoc h.2.1 ⟨x.2, true, x.1.of, rfl, ⟨x.1, hx, .inl ⟨rfl, rfl, rfl, h.2.2⟩⟩, h.1⟩
  · split
    · rename_i h
      exact G.snoc h.2.1 ⟨x.2, false, x.1.to, rfl, ⟨x.1, hx, .inr ⟨rfl, rfl, rfl, h.2.2⟩⟩, h.1⟩
    · exact G
theorem fold_grown {b : Book} {w : Flow} {had : List Came} : ∀ (xs : List (Leg × Nat)) (l : List Came), (∀ x ∈ xs, b.legs[x.2]? = some x.1) → Grown b w had l → Grown b w had (xs.foldl (stepOn w had) l)
  | [], l, _, G => G
  | x :: r, l, h, G => by
    rw [List.foldl_cons]
    exact fold_grown r _ (fun y hy => h y (List.mem_cons_of_mem _ hy)) (step_grown G (h x List.mem_cons_self))
theorem zipIdx_get {α : Type} {l : List α} {x : α × Nat} (h : x ∈ l.zipIdx) : l[x.2]? = some x.1 := by
  have := List.mk_mem_zipIdx_iff_getElem? (l := l) (i := x.2) (x := x.1)
  exact this.mp h
theorem way_grown (b : Book) (w : Flow) (had : List Came) : Grown b w had (wayOn b w had) := by
  rw [wayOn_eq]
  exact fold_grown _ _ (fun x hx => zipIdx_get hx) (Grown.refl b w had)

theorem cameTo_mono {l m : List Came} {n : Nat} (h : cameTo l n = true) : cameTo (l ++ m) n = true := by
  rw [cameTo_append, h, Bool.true_or]
theorem stepOn_keeps {w : Flow} {had l : List Came} {x : Leg × Nat} {n : Nat} (h : cameTo l n = true) : cameTo (stepOn w had l x) n = true := by
  unfold stepOn
  dsimp only
  split
  · exact cameTo_mono h
  · split
    · exact cameTo_mono h
    · exact h
theorem foldOn_keeps {w : Flow} {had : List Came} {n : Nat} : ∀ (xs : List (Leg × Nat)) (l : List Came), cameTo l n = true → cameTo (xs.foldl (stepOn w had) l) n = true
  | [], l, h => h
  | x :: r, l, h => by rw [List.foldl_cons]; exact foldOn_keeps r _ (stepOn_keeps h)
theorem cameTo_self (n : Nat) (o : Option (Nat × Bool)) (l : List Came) : cameTo (l ++ [(n, o)]) n = true := by
  rw [cameTo_append]; simp [cameTo]
/-- an arc from a lot that was come to is gone along -/
theorem step_takes {w : Flow} {had l : List Came} {x : Leg × Nat} :
    (cameTo had x.1.of = true → w.legs.getD x.2 0 < x.1.weight → cameTo (stepOn w had l x) x.1.to = true) ∧
    (cameTo had x.1.to = true → 0 < w.legs.getD x.2 0 → cameTo had x.1.of = false → cameTo (stepOn w had l x) x.1.of = true) := by
  unfold stepOn
  dsimp only
  refine ⟨fun h1 h2 => ?_, fun h1 h2 h3 => ?_⟩
  · by_cases c : cameTo l x.1.to = true
    · split
      · exact cameTo_mono c
      · split
        · exact cameTo_mono c
        · exact c
    · rw [if_pos ⟨h1, by simpa using c, h2⟩]
      exact cameTo_self _ _ _
  · rw [if_neg (by rw [h3]; simp)]
    by_cases c : cameTo l x.1.of = true
    · split
      · exact cameTo_mono c
      · exact c
    · rw [if_pos ⟨h1, by simpa using c, h2⟩]
      exact cameTo_self _ _ _
theorem fold_takes {w : Flow} {had : List Came} {i : Nat} {g : Leg} : ∀ (xs : List (Leg × Nat)) (l : List Came), (g, i) ∈ xs →
    (cameTo had g.of = true → w.legs.getD i 0 < g.weight → cameTo (xs.foldl (stepOn w had) l) g.to = true) ∧
    (cameTo had g.to = true → 0 < w.legs.getD i 0 → cameTo had g.of = false → cameTo (xs.foldl (stepOn w had) l) g.of = true)
  | [], l, h => by simp at h
  | x :: r, l, h => by
    rw [List.foldl_cons]
    rcases List.mem_cons.mp h with e | h
    · subst e
      have k := step_takes (w := w) (had := had) (l := l) (x := (g, i))
      exact ⟨fun a c => foldOn_keeps r _ (k.1 a c), fun a c d => foldOn_keeps r _ (k.2 a c d)⟩
    · exact fold_takes r _ h
theorem way_keeps {b : Book} {w : Flow} {had : List Came} {n : Nat} (h : cameTo had n = true) : cameTo (wayOn b w had) n = true := by
  rw [wayOn_eq]; exact foldOn_keeps _ _ h
theorem way_takes {b : Book} {w : Flow} {had : List Came} {i : Nat} {d : Bool} {u v : Nat} (a : Arc b w i d u v) (h : cameTo had u = true) : cameTo (wayOn b w had) v = true := by
  obtain ⟨g, hg, q⟩ := a
  have m : (g, i) ∈ b.legs.zipIdx := (List.mk_mem_zipIdx_iff_getElem?).mpr hg
  have k := fold_takes (w := w) (had := had) b.legs.zipIdx had m
  rw [wayOn_eq]
  rcases q with ⟨_, rfl, rfl, hl⟩ | ⟨_, rfl, rfl, hl⟩
  · exact k.1 h hl
  · by_cases c : cameTo had g.of = true
    · exact foldOn_keeps _ _ c
    · exact k.2 h hl (by simpa using c)

/-! ## levels -/
theorem Lv_keeps {b : Book} {w : Flow} {l : List Came} {n k m : Nat} (h : cameTo (Lv b w l k) n = true) (hm : k ≤ m) : cameTo (Lv b w l m) n = true := by
  induction m with
  | zero => have : k = 0 := by omega
            subst this; exact h
  | succ m ih =>
    by_cases e : k = m + 1
    · subst e; exact h
    · exact way_keeps (ih (by omega))
theorem Lv_nd {b : Book} {w : Flow} {l : List Came} (h : (l.map (·.1)).Nodup) : ∀ k, ((Lv b w l k).map (·.1)).Nodup
  | 0 => h
  | k + 1 => (way_grown b w _).nd (Lv_nd h k)
theorem Lv_fix {b : Book} {w : Flow} {l : List Came} {k : Nat} (h : wayOn b w (Lv b w l k) = Lv b w l k) : ∀ m, k ≤ m → Lv b w l m = Lv b w l k
  | 0, hm => by have : k = 0 := by omega
                subst this; rfl
  | m + 1, hm => by
    by_cases e : k = m + 1
    · subst e; rfl
    · show wayOn b w (Lv b w l m) = _
      rw [Lv_fix h m (by omega), h]
theorem Lv_lt {b : Book} {w : Flow} {l : List Came} {n : Nat} (hb : ∀ g ∈ b.legs, g.of < n ∧ g.to < n) (hl : ∀ c ∈ l, c.1 < n) : ∀ k, ∀ c ∈ Lv b w l k, c.1 < n
  | 0 => hl
  | k + 1 => by
    obtain ⟨m, e, hm⟩ := (way_grown b w (Lv b w l k)).ex
    intro c hc
    have hc : c ∈ wayOn b w (Lv b w l k) := hc
    rw [e] at hc
    rcases List.mem_append.mp hc with q | q
    · exact Lv_lt hb hl k c q
    · obtain ⟨i, d, u, _, ⟨g, hg, a⟩, _⟩ := hm c q
      have hg' := hb g (List.mem_of_getElem? hg)
      rcases a with ⟨_, _, e, _⟩ | ⟨_, _, e, _⟩ <;> rw [e] <;> omega
theorem nodup_lt : ∀ {n : Nat} {l : List Nat}, l.Nodup → (∀ a ∈ l, a < n) → l.length ≤ n
  | 0, l, _, hl => by
    cases l with
    | nil => simp
    | cons a r => exact absurd (hl a List.mem_cons_self) (by omega)
  | n + 1, l, h, hl => by
    by_cases c : n ∈ l
    · have h1 : (l.erase n).length = l.length - 1 := List.length_erase_of_mem c
      have h2 : (l.erase n).length ≤ n := nodup_lt (h.erase n) (fun a ha => by
        have q := (List.Nodup.mem_erase_iff h).mp ha
        have := hl a q.2
        have : a ≠ n := q.1
        omega)
      omega
    · have := nodup_lt (n := n) h (fun a ha => by
        have := hl a ha
        have : a ≠ n := fun e => c (e ▸ ha)
        omega)
      omega

/-- wayFrom is one of the rounds, the last -/
theorem wayFrom_lv {b : Book} {w : Flow} {l : List Came} : ∀ (f k : Nat), ∃ m, k ≤ m ∧ m ≤ k + f ∧ wayFrom b w f (Lv b w l k) = Lv b w l m ∧ (m < k + f → wayOn b w (Lv b w l m) = Lv b w l m)
  | 0, k => ⟨k, Nat.le_refl _, by omega, rfl, fun h => by omega⟩
  | f + 1, k => by
    show ∃ m, k ≤ m ∧ m ≤ k + (f + 1) ∧ (if (wayOn b w (Lv b w l k)).length = (Lv b w l k).length then Lv b w l k else wayFrom b w f (wayOn b w (Lv b w l k))) = Lv b w l m ∧ _
    by_cases c : (wayOn b w (Lv b w l k)).length = (Lv b w l k).length
    · rw [if_pos c]
      refine ⟨k, Nat.le_refl _, by omega, rfl, fun _ => ?_⟩
      obtain ⟨m, e, _⟩ := (way_grown b w (Lv b w l k)).ex
      rw [e] at c ⊢
      have : m.length = 0 := by rw [List.length_append] at c; omega
      rw [List.length_eq_zero_iff.mp this, List.append_nil]
    · rw [if_neg c]
      obtain ⟨m, h1, h2, h3, h4⟩ := wayFrom_lv (b := b) (w := w) (l := l) f (k + 1)
      exact ⟨m, by omega, by omega, h3, fun h => h4 (by omega)⟩
theorem Lv_len {b : Book} {w : Flow} {l : List Came} : ∀ k, (∀ m, m < k → wayOn b w (Lv b w l m) ≠ Lv b w l m) → k ≤ (Lv b w l k).length
  | 0, _ => by omega
  | k + 1, h => by
    have ih := Lv_len k (fun m hm => h m (by omega))
    obtain ⟨m, e, _⟩ := (way_grown b w (Lv b w l k)).ex
    have e' : Lv b w l (k + 1) = Lv b w l k ++ m := e
    rw [e', List.length_append]
    have : m ≠ [] := fun z => h k (by omega) (by rw [e, z, List.append_nil])
    have := List.length_pos_iff.mpr this
    omega

/-- where the search begins -/
def starts (b : Book) (fs : List Nat) (w : Flow) : List Came := (fs.filter fun (n : Nat) => decide (w.founders.getD n 0 < (b.lot n).made)).map fun (n : Nat) => (n, none)
theorem stillTo_eq (b : Book) (fs : List Nat) (w : Flow) : stillTo b fs w = wayFrom b w (b.lots.length + 1) (starts b fs w) := rfl

structure Net (b : Book) (fs : List Nat) (x : Nat) : Prop where
  legsl : ∀ g ∈ b.legs, g.of < b.lots.length ∧ g.to < b.lots.length
  fsl : ∀ f ∈ fs, f < b.lots.length
  nd : fs.Nodup
  xl : x < b.lots.length

theorem starts_nd {b : Book} {fs : List Nat} {w : Flow} (h : fs.Nodup) : ((starts b fs w).map (·.1)).Nodup := by
  unfold starts
  rw [List.map_map]
  have e : ((fun (c : Came) => c.1) ∘ fun (n : Nat) => ((n, none) : Came)) = fun n => n := rfl
  rw [e, List.map_id']
  exact h.filter _
theorem starts_mem {b : Book} {fs : List Nat} {w : Flow} {n : Nat} : cameTo (starts b fs w) n = true ↔ n ∈ fs ∧ w.founders.getD n 0 < (b.lot n).made := by
  rw [cameTo_iff]
  unfold starts
  rw [List.map_map]
  have e : ((fun (c : Came) => c.1) ∘ fun (n : Nat) => ((n, none) : Came)) = fun n => n := rfl
  rw [e, List.map_id', List.mem_filter]
  simp
theorem starts_none {b : Book} {fs : List Nat} {w : Flow} {c : Came} (h : c ∈ starts b fs w) : c.2 = none := by
  unfold starts at h
  obtain ⟨n, _, e⟩ := List.mem_map.mp h
  rw [← e]

/-- the search's end: a last round K ≤ n, nothing comes behind it -/
theorem still_lv {b : Book} {fs : List Nat} {x : Nat} {w : Flow} (N : Net b fs x) : ∃ K, K ≤ b.lots.length ∧ stillTo b fs w = Lv b w (starts b fs w) K ∧ wayOn b w (Lv b w (starts b fs w) K) = Lv b w (starts b fs w) K := by
  rw [stillTo_eq]
  obtain ⟨m, _, h2, h3, h4⟩ := wayFrom_lv (b := b) (w := w) (l := starts b fs w) (b.lots.length + 1) 0
  have hlt : ∀ k, ∀ c ∈ Lv b w (starts b fs w) k, c.1 < b.lots.length := Lv_lt N.legsl (fun c hc => by
    have : cameTo (starts b fs w) c.1 = true := cameTo_iff.mpr (List.mem_map.mpr ⟨c, hc, rfl⟩)
    exact N.fsl _ (starts_mem.mp this).1)
  have hle : ∀ k, (Lv b w (starts b fs w) k).length ≤ b.lots.length := fun k => by
    have := nodup_lt (Lv_nd (starts_nd (b := b) (w := w) N.nd) k) (fun a ha => by
      obtain ⟨c, hc, e⟩ := List.mem_map.mp ha
      rw [← e]; exact hlt k c hc)
    simpa using this
  -- some round up to n is the last
  have ex : ∃ k, k ≤ b.lots.length ∧ wayOn b w (Lv b w (starts b fs w) k) = Lv b w (starts b fs w) k := by
    refine Classical.byContradiction fun no => ?_
    have := Lv_len (b := b) (w := w) (l := starts b fs w) (b.lots.length + 1) (fun m hm z => no ⟨m, by omega, z⟩)
    have := hle (b.lots.length + 1)
    omega
  obtain ⟨k, hk, fk⟩ := ex
  by_cases c : m ≤ b.lots.length
  · exact ⟨m, c, h3, h4 (by omega)⟩
  · refine ⟨k, hk, ?_, fk⟩
    rw [← Lv_fix fk m (by omega)]
    exact h3
end LF
end
section
set_option linter.all false
set_option autoImplicit false
namespace LF
open TbBase TbLtBook TbLtFlow

/-! ## the least round -/
def lev (p : Nat → Bool) : Nat → Nat
  | 0 => 0
  | m + 1 => if p 0 = true then 0 else lev (fun k => p (k + 1)) m + 1
theorem lev_le (p : Nat → Bool) : ∀ m, lev p m ≤ m
  | 0 => Nat.le_refl _
  | m + 1 => by
    unfold lev
    split
    · omega
    · have := lev_le (fun k => p (k + 1)) m
      omega
theorem lev_of {p : Nat → Bool} : ∀ {m k : Nat}, p k = true → lev p m ≤ k
  | 0, k, _ => by unfold lev; omega
  | m + 1, 0, h => by unfold lev; rw [if_pos h]; omega
  | m + 1, k + 1, h => by
    unfold lev
    split
    · omega
    · have := lev_of (p := fun k => p (k + 1)) (m := m) (k := k) h
      omega
theorem lev_is {p : Nat → Bool} : ∀ {m : Nat}, lev p m < m → p (lev p m) = true
  | 0, h => by omega
  | m + 1, h => by
    unfold lev at h ⊢
    split
    · assumption
    · rename_i c
      rw [if_neg c] at h
      exact lev_is (p := fun k => p (k + 1)) (m := m) (by omega)

/-- labels that no arc oversteps -/
structure Lab (b : Book) (fs : List Nat) (w : Flow) (d : Nat → Nat) : Prop where
  start : ∀ f ∈ fs, w.founders.getD f 0 < (b.lot f).made → d f = 0
  arc : ∀ i dr u v, Arc b w i dr u v → d v ≤ d u + 1

/-- the search's rounds as labels; n + 1 where nothing comes -/
def dist (b : Book) (fs : List Nat) (w : Flow) (v : Nat) : Nat := lev (fun k => cameTo (Lv b w (starts b fs w) k) v) (b.lots.length + 1)

section
variable {b : Book} {fs : List Nat} {x : Nat} {w : Flow}
theorem dist_le {k v : Nat} (h : cameTo (Lv b w (starts b fs w) k) v = true) : dist b fs w v ≤ k := lev_of (p := fun k => cameTo (Lv b w (starts b fs w) k) v) h
theorem dist_at {v : Nat} (h : dist b fs w v ≤ b.lots.length) : cameTo (Lv b w (starts b fs w) (dist b fs w v)) v = true :=
  lev_is (p := fun k => cameTo (Lv b w (starts b fs w) k) v) (m := b.lots.length + 1) (by unfold dist at h; omega)
theorem dist_lab (N : Net b fs x) : Lab b fs w (dist b fs w) := by
  refine ⟨fun f hf hl => ?_, fun i dr u v a => ?_⟩
  · have := dist_le (b := b) (fs := fs) (w := w) (k := 0) (v := f) (starts_mem.mpr ⟨hf, hl⟩)
    omega
  · by_cases c : dist b fs w u ≤ b.lots.length
    · exact dist_le (k := dist b fs w u + 1) (way_takes a (dist_at c))
    · have : dist b fs w v ≤ b.lots.length + 1 := lev_le _ _
      omega
theorem still_dist (N : Net b fs x) {v : Nat} : cameTo (stillTo b fs w) v = true ↔ dist b fs w v ≤ b.lots.length := by
  obtain ⟨K, hK, e, fx⟩ := still_lv (w := w) N
  rw [e]
  constructor
  · intro h
    exact Nat.le_trans (dist_le h) hK
  · intro h
    have := dist_at h
    have k := Lv_keeps (b := b) (w := w) (l := starts b fs w) this (Nat.le_max_left _ K)
    rw [Lv_fix fx _ (Nat.le_max_right _ K)] at k
    exact k

/-- an entry of the search's list -/
theorem entry_lv {c : Came} : ∀ k, c ∈ Lv b w (starts b fs w) k → (c.2 = none ∧ cameTo (starts b fs w) c.1 = true) ∨ ∃ i d u, c.2 = some (i, d) ∧ Arc b w i d u c.1 ∧ ∃ j, j < k ∧ cameTo (Lv b w (starts b fs w) j) u = true ∧ ¬ cameTo (Lv b w (starts b fs w) j) c.1 = true
  | 0, h => .inl ⟨starts_none h, cameTo_iff.mpr (List.mem_map.mpr ⟨c, h, rfl⟩)⟩
  | k + 1, h => by
    by_cases hc : c ∈ Lv b w (starts b fs w) k
    · rcases entry_lv k hc with q | ⟨i, d, u, h1, h2, j, hj, h3⟩
      · exact .inl q
      · exact .inr ⟨i, d, u, h1, h2, j, by omega, h3⟩
    · obtain ⟨m, e, hm⟩ := (way_grown b w (Lv b w (starts b fs w) k)).ex
      have h : c ∈ wayOn b w (Lv b w (starts b fs w) k) := h
      rw [e] at h
      rcases List.mem_append.mp h with q | q
      · exact absurd q hc
      · obtain ⟨i, d, u, h1, h2, h3, h4⟩ := hm c q
        exact .inr ⟨i, d, u, h1, h2, k, by omega, h3, by rw [h4]; simp⟩

/-- a way to v: its first lot has more of F, its arcs from the last on -/
inductive Way (b : Book) (fs : List Nat) (w : Flow) (f : Nat) : List (Nat × Bool) → Nat → Prop
  | here (hf : f ∈ fs) (hl : w.founders.getD f 0 < (b.lot f).made) : Way b fs w f [] f
  | arc (i : Nat) (d : Bool) (u v : Nat) (z : List (Nat × Bool)) (hz : Way b fs w f z u) (a : Arc b w i d u v) : Way b fs w f ((i, d) :: z) v

theorem nodup_find {l : List Came} (h : (l.map (·.1)).Nodup) {c : Came} (hc : c ∈ l) : l.find? (fun (x : Came) => x.1 == c.1) = some c := by
  induction l with
  | nil => simp at hc
  | cons a r ih =>
    rw [List.map_cons, List.nodup_cons] at h
    rw [List.find?_cons]
    rcases List.mem_cons.mp hc with e | e
    · subst e; simp
    · have : a.1 ≠ c.1 := fun z => h.1 (z ▸ List.mem_map.mpr ⟨c, e, rfl⟩)
      rw [beq_eq_false_iff_ne.mpr this]
      exact ih h.2 e

/-- the way back has as many arcs as the label says -/
theorem back_way (N : Net b fs x) : ∀ (f v : Nat), dist b fs w v < f → dist b fs w v ≤ b.lots.length →
    Way b fs w (backFrom b (stillTo b fs w) f v).1 (backFrom b (stillTo b fs w) f v).2 v ∧ (backFrom b (stillTo b fs w) f v).2.length = dist b fs w v
  | 0, v, h, _ => by omega
  | f + 1, v, h, hv => by
    obtain ⟨K, hK, e, fx⟩ := still_lv (w := w) N
    have hc : cameTo (stillTo b fs w) v = true := (still_dist N).mpr hv
    have nd : ((stillTo b fs w).map (·.1)).Nodup := by rw [e]; exact Lv_nd (starts_nd N.nd) K
    obtain ⟨c, hcm, hcv⟩ := List.mem_map.mp (cameTo_iff.mp hc)
    have fd : (stillTo b fs w).find? (fun (x : Came) => x.1 == v) = some c := by rw [← hcv]; exact nodup_find nd hcm
    rw [e] at hcm
    have en := entry_lv (b := b) (fs := fs) (w := w) K hcm
    obtain ⟨cv, co⟩ := c
    have hcv : cv = v := hcv
    subst hcv
    rcases en with ⟨h1, h2⟩ | ⟨i, d, u, h1, h2, j, hj, h3, h4⟩
    · have h1 : co = none := h1
      subst h1
      have ev : backFrom b (stillTo b fs w) (f + 1) cv = (cv, []) := by
        unfold backFrom; rw [fd]
      rw [ev]
      have m := starts_mem.mp h2
      refine ⟨Way.here m.1 m.2, ?_⟩
      have : dist b fs w cv ≤ 0 := dist_le (b := b) (fs := fs) (w := w) (k := 0) h2
      show 0 = _
      omega
    · have h1 : co = some (i, d) := h1
      subst h1
      have du : dist b fs w u ≤ j := dist_le h3
      have dv : j < dist b fs w cv := by
        have h4 : ¬ cameTo (Lv b w (starts b fs w) j) cv = true := h4
        exact Classical.byContradiction fun no => h4 (Lv_keeps (dist_at hv) (by omega))
      have lab : dist b fs w cv ≤ dist b fs w u + 1 := (dist_lab (w := w) N).arc i d u cv h2
      have eu : dist b fs w cv = dist b fs w u + 1 := by omega
      obtain ⟨g, hg, q⟩ := id h2
      have hgD : b.legs.getD i ⟨0, 0, 0⟩ = g := by rw [List.getD_eq_getElem?_getD, hg]; rfl
      have ih := back_way N f u (by omega) (by omega)
      rcases q with ⟨rfl, rfl, rfl, _⟩ | ⟨rfl, rfl, rfl, _⟩
      · have ev : backFrom b (stillTo b fs w) (f + 1) g.to = ((backFrom b (stillTo b fs w) f g.of).1, (i, true) :: (backFrom b (stillTo b fs w) f g.of).2) := by
          conv => lhs; unfold backFrom
          rw [fd]
          dsimp only
          rw [hgD]
        rw [ev]
        exact ⟨Way.arc _ _ _ _ _ ih.1 h2, by show _ + 1 = _; rw [ih.2]; omega⟩
      · have ev : backFrom b (stillTo b fs w) (f + 1) g.of = ((backFrom b (stillTo b fs w) f g.to).1, (i, false) :: (backFrom b (stillTo b fs w) f g.to).2) := by
          conv => lhs; unfold backFrom
          rw [fd]
          dsimp only
          rw [hgD]
        rw [ev]
        exact ⟨Way.arc _ _ _ _ _ ih.1 h2, by show _ + 1 = _; rw [ih.2]; omega⟩

/-- by any labels a way is no shorter than its end's label; one just as long goes up by one at each arc -/
theorem way_ge {d : Nat → Nat} (L : Lab b fs w d) {f v : Nat} {z : List (Nat × Bool)} (h : Way b fs w f z v) : d v ≤ z.length := by
  induction h with
  | here hf hl => rw [L.start f hf hl]; omega
  | arc i dr u v z hz a ih =>
    have := L.arc i dr u v a
    rw [List.length_cons]; omega
inductive Tight (b : Book) (fs : List Nat) (w : Flow) (d : Nat → Nat) (f : Nat) : List (Nat × Bool) → Nat → Prop
  | here (hf : f ∈ fs) (hl : w.founders.getD f 0 < (b.lot f).made) (h0 : d f = 0) : Tight b fs w d f [] f
  | arc (i : Nat) (dr : Bool) (u v : Nat) (z : List (Nat × Bool)) (hz : Tight b fs w d f z u) (a : Arc b w i dr u v) (e : d v = d u + 1) : Tight b fs w d f ((i, dr) :: z) v
theorem way_tight {d : Nat → Nat} (L : Lab b fs w d) {f v : Nat} {z : List (Nat × Bool)} (h : Way b fs w f z v) (e : d v = z.length) : Tight b fs w d f z v := by
  induction h with
  | here hf hl => exact Tight.here hf hl (L.start f hf hl)
  | arc i dr u v z hz a ih =>
    have h1 := L.arc i dr u v a
    have h2 := way_ge L hz
    rw [List.length_cons] at e
    exact Tight.arc i dr u v z (ih (by omega)) a (by omega)
/-- the arcs of a tight way: each is an arc whose head lies no higher than the end -/
theorem tight_mem {d : Nat → Nat} {f v : Nat} {z : List (Nat × Bool)} (h : Tight b fs w d f z v) : ∀ p ∈ z, ∃ u t, Arc b w p.1 p.2 u t ∧ d t = d u + 1 ∧ d t ≤ d v := by
  induction h with
  | here hf hl h0 => intro p hp; simp at hp
  | arc i dr u v z hz a e ih =>
    intro p hp
    rcases List.mem_cons.mp hp with q | q
    · subst q; exact ⟨u, v, a, e, Nat.le_refl _⟩
    · obtain ⟨u', t, a', e', h'⟩ := ih p q
      exact ⟨u', t, a', e', by omega⟩
theorem tight_nd {d : Nat → Nat} {f v : Nat} {z : List (Nat × Bool)} (h : Tight b fs w d f z v) : (z.map (·.1)).Nodup := by
  induction h with
  | here hf hl h0 => simp
  | arc i dr u v z hz a e ih =>
    rw [List.map_cons, List.nodup_cons]
    refine ⟨fun m => ?_, ih⟩
    obtain ⟨p, hp, ep⟩ := List.mem_map.mp m
    obtain ⟨u', t, a', e', h'⟩ := tight_mem hz p hp
    obtain ⟨g, hg, q⟩ := a
    obtain ⟨g', hg', q'⟩ := a'
    have ep : p.1 = i := ep
    rw [ep, hg] at hg'
    have eg : g = g' := Option.some.inj hg'
    subst eg
    rcases q with ⟨_, rfl, rfl, _⟩ | ⟨_, rfl, rfl, _⟩ <;> rcases q' with ⟨_, rfl, rfl, _⟩ | ⟨_, rfl, rfl, _⟩ <;> omega
theorem tight_start {d : Nat → Nat} {f v : Nat} {z : List (Nat × Bool)} (h : Tight b fs w d f z v) : f ∈ fs ∧ w.founders.getD f 0 < (b.lot f).made := by
  induction h with
  | here hf hl h0 => exact ⟨hf, hl⟩
  | arc i dr u v z hz a e ih => exact ih
end
end LF
end
section
set_option linter.all false
set_option autoImplicit false
namespace LF
open TbBase TbLtBook TbLtFlow

/-! ## sums over a list with places -/
theorem sum_le_of {α : Type} {φ ψ : α → Nat} : ∀ {l : List α}, (∀ a ∈ l, φ a ≤ ψ a) → (l.map φ).sum ≤ (l.map ψ).sum
  | [], _ => Nat.le_refl _
  | a :: r, h => by
    rw [List.map_cons, List.map_cons, List.sum_cons, List.sum_cons]
    have h1 := h a List.mem_cons_self
    have h2 := sum_le_of (l := r) (fun x hx => h x (List.mem_cons_of_mem _ hx))
    omega
theorem sum_lt_of {α : Type} {φ ψ : α → Nat} : ∀ {l : List α} {a : α}, (∀ a ∈ l, φ a ≤ ψ a) → a ∈ l → φ a < ψ a → (l.map φ).sum < (l.map ψ).sum
  | [], a, _, h, _ => by simp at h
  | c :: r, a, h, ha, hl => by
    rw [List.map_cons, List.map_cons, List.sum_cons, List.sum_cons]
    have h1 := h c List.mem_cons_self
    have h2 := sum_le_of (l := r) (fun x hx => h x (List.mem_cons_of_mem _ hx))
    rcases List.mem_cons.mp ha with e | e
    · subst e; omega
    · have h3 := sum_lt_of (l := r) (fun x hx => h x (List.mem_cons_of_mem _ hx)) e hl
      omega
theorem sum_same {α : Type} {φ ψ : α → Int} : ∀ {l : List α}, (∀ a ∈ l, φ a = ψ a) → (l.map φ).sum = (l.map ψ).sum
  | [], _ => rfl
  | a :: r, h => by
    rw [List.map_cons, List.map_cons, List.sum_cons, List.sum_cons, h a List.mem_cons_self, sum_same (l := r) (fun x hx => h x (List.mem_cons_of_mem _ hx))]
/-- two sums that differ at one item alone -/
theorem sum_but {α : Type} {φ ψ : α → Int} : ∀ {l : List α} {a : α}, l.Nodup → a ∈ l → (∀ c ∈ l, c ≠ a → ψ c = φ c) → (l.map ψ).sum = (l.map φ).sum + (ψ a - φ a)
  | [], a, _, h, _ => by simp at h
  | c :: r, a, nd, ha, h => by
    rw [List.map_cons, List.map_cons, List.sum_cons, List.sum_cons]
    rw [List.nodup_cons] at nd
    rcases List.mem_cons.mp ha with e | e
    · subst e
      have := sum_same (φ := ψ) (ψ := φ) (l := r) (fun x hx => h x (List.mem_cons_of_mem _ hx) (fun z => nd.1 (z ▸ hx)))
      omega
    · have e1 := h c List.mem_cons_self (fun z => nd.1 (z ▸ e))
      have e2 := sum_but (l := r) nd.2 e (fun x hx => h x (List.mem_cons_of_mem _ hx))
      omega
theorem zipIdx_nd {α : Type} (l : List α) : l.zipIdx.Nodup := by
  have h : (l.zipIdx.map (·.2)).Nodup := by
    rw [List.zipIdx_map_snd]
    exact List.nodup_range'
  exact List.Pairwise.of_map (·.2) (fun a b n e => n (e ▸ rfl)) h

/-! ## what a set lets through -/
/-- the weight of a set S of lots -/
def W (b : Book) (fs : List Nat) (x : Nat) (S : Nat → Bool) : Int :=
  (fs.map fun f => if S f = true then (0 : Int) else ((b.lot f).made : Int)).sum + (b.legs.map fun g => if S g.of = true ∧ S g.to = false then (g.weight : Int) else 0).sum + (if S x = true then (b.left x : Int) else 0)
/-- what may still go out of it along one leg -/
def thru (S : Nat → Bool) (g : Leg) (l : Nat) : Int := if S g.of = true then (if S g.to = true then 0 else (g.weight : Int) - l) else (if S g.to = true then (l : Int) else 0)
def legC (b : Book) (S : Nat → Bool) (lg : List Nat) : Int := (b.legs.zipIdx.map fun p => thru S p.1 (lg.getD p.2 0)).sum
def b01 (c : Bool) : Int := if c = true then 1 else 0
theorem thru_push (S : Nat → Bool) (g : Leg) (l : Nat) (k : Nat) : thru S g (l + k) = thru S g l - k * (b01 (S g.of) - b01 (S g.to)) := by
  unfold thru b01
  cases S g.of <;> cases S g.to <;> simp <;> omega
theorem thru_pull (S : Nat → Bool) (g : Leg) (l : Nat) (k : Nat) (h : k ≤ l) : thru S g (l - k) = thru S g l - k * (b01 (S g.to) - b01 (S g.of)) := by
  unfold thru b01
  cases S g.of <;> cases S g.to <;> simp <;> omega

def bump (k : Nat) (lg : List Nat) (y : Nat × Bool) : List Nat := lg.modify y.1 fun (n : Nat) => if y.2 = true then n + k else n - k
theorem bump_getD {k : Nat} {lg : List Nat} {y : Nat × Bool} (h : y.1 < lg.length) (j : Nat) : (bump k lg y).getD j 0 = if j = y.1 then (if y.2 = true then lg.getD j 0 + k else lg.getD j 0 - k) else lg.getD j 0 := by
  unfold bump
  rw [List.getD_eq_getElem?_getD, List.getElem?_modify, List.getD_eq_getElem?_getD]
  by_cases e : j = y.1
  · subst e
    rw [if_pos rfl, List.getElem?_eq_getElem h]
    simp
  · rw [if_neg e]
    have : ¬ y.1 = j := fun z => e z.symm
    simp [this]
theorem bump_len {k : Nat} {lg : List Nat} {y : Nat × Bool} : (bump k lg y).length = lg.length := by
  unfold bump; rw [List.length_modify]

/-- arcs along which k may go: from the last on -/
inductive Chain (b : Book) (k : Nat) (lg : List Nat) (f : Nat) : List (Nat × Bool) → Nat → Prop
  | here : Chain b k lg f [] f
  | fwd (i : Nat) (g : Leg) (z : List (Nat × Bool)) (hz : Chain b k lg f z g.of) (hg : b.legs[i]? = some g) (hl : lg.getD i 0 + k ≤ g.weight) (n : ¬ i ∈ z.map (·.1)) : Chain b k lg f ((i, true) :: z) g.to
  | bwd (i : Nat) (g : Leg) (z : List (Nat × Bool)) (hz : Chain b k lg f z g.to) (hg : b.legs[i]? = some g) (hl : k ≤ lg.getD i 0) (n : ¬ i ∈ z.map (·.1)) : Chain b k lg f ((i, false) :: z) g.of
theorem Chain.congr {b : Book} {k : Nat} {lg lg' : List Nat} {f v : Nat} {z : List (Nat × Bool)} (h : Chain b k lg f z v) (e : ∀ i ∈ z.map (·.1), lg'.getD i 0 = lg.getD i 0) : Chain b k lg' f z v := by
  induction h with
  | here => exact .here
  | fwd i g z hz hg hl n ih => exact .fwd i g z (ih fun j hj => e j (List.mem_cons_of_mem _ hj)) hg (by rw [e i (by simp)]; exact hl) n
  | bwd i g z hz hg hl n ih => exact .bwd i g z (ih fun j hj => e j (List.mem_cons_of_mem _ hj)) hg (by rw [e i (by simp)]; exact hl) n

section
variable {b : Book} {k : Nat}
theorem legC_bump {S : Nat → Bool} {lg : List Nat} {y : Nat × Bool} {g : Leg} (hl : lg.length = b.legs.length) (hg : b.legs[y.1]? = some g) :
    legC b S (bump k lg y) = legC b S lg + (thru S g ((bump k lg y).getD y.1 0) - thru S g (lg.getD y.1 0)) := by
  have hy : y.1 < lg.length := by rw [hl]; exact (List.getElem?_eq_some_iff.mp hg).1
  unfold legC
  exact sum_but (φ := fun p => thru S p.1 (lg.getD p.2 0)) (ψ := fun p => thru S p.1 ((bump k lg y).getD p.2 0)) (a := (g, y.1)) (zipIdx_nd _) (List.mk_mem_zipIdx_iff_getElem?.mpr hg) fun c hc ne => by
    show thru S c.1 ((bump k lg y).getD c.2 0) = thru S c.1 (lg.getD c.2 0)
    rw [bump_getD hy, if_neg]
    intro e
    have := zipIdx_get hc
    rw [e, hg] at this
    exact ne (Prod.ext (Option.some.inj this).symm e)
theorem push_legC {S : Nat → Bool} {f v : Nat} {z : List (Nat × Bool)} {lg : List Nat} (hl : lg.length = b.legs.length) (h : Chain b k lg f z v) :
    legC b S (z.foldl (bump k) lg) = legC b S lg - k * (b01 (S f) - b01 (S v)) := by
  induction z generalizing lg v with
  | nil => cases h; simp
  | cons y z ih =>
    rw [List.foldl_cons]
    cases h with
    | fwd i g z hz hg hl' n =>
      have hy : i < lg.length := by rw [hl]; exact (List.getElem?_eq_some_iff.mp hg).1
      have c2 : Chain b k (bump k lg (i, true)) f z g.of := hz.congr fun j hj => by
        rw [bump_getD hy, if_neg (fun (e : j = i) => n (e ▸ hj))]
      rw [ih (by rw [bump_len, hl]) c2, legC_bump hl hg, bump_getD hy, if_pos rfl, if_pos rfl, thru_push]
      show legC b S lg + (thru S g (lg.getD i 0) - _ - thru S g (lg.getD i 0)) - _ = _
      have : (k : Int) * (b01 (S f) - b01 (S g.of)) + k * (b01 (S g.of) - b01 (S g.to)) = k * (b01 (S f) - b01 (S g.to)) := by rw [← Int.mul_add]; congr 1; omega
      omega
    | bwd i g z hz hg hl' n =>
      have hy : i < lg.length := by rw [hl]; exact (List.getElem?_eq_some_iff.mp hg).1
      have c2 : Chain b k (bump k lg (i, false)) f z g.to := hz.congr fun j hj => by
        rw [bump_getD hy, if_neg (fun (e : j = i) => n (e ▸ hj))]
      rw [ih (by rw [bump_len, hl]) c2, legC_bump hl hg, bump_getD hy, if_pos rfl, if_neg (by simp), thru_pull _ _ _ _ hl']
      show legC b S lg + (thru S g (lg.getD i 0) - _ - thru S g (lg.getD i 0)) - _ = _
      have : (k : Int) * (b01 (S f) - b01 (S g.to)) + k * (b01 (S g.to) - b01 (S g.of)) = k * (b01 (S f) - b01 (S g.of)) := by rw [← Int.mul_add]; congr 1; omega
      omega
theorem push_len {z : List (Nat × Bool)} : ∀ {lg : List Nat}, (z.foldl (bump k) lg).length = lg.length := by
  induction z with
  | nil => intro lg; rfl
  | cons y z ih => intro lg; rw [List.foldl_cons, ih, bump_len]
theorem push_off {z : List (Nat × Bool)} {j : Nat} : ∀ {lg : List Nat}, (∀ y ∈ z, y.1 < lg.length) → ¬ j ∈ z.map (·.1) → (z.foldl (bump k) lg).getD j 0 = lg.getD j 0 := by
  induction z with
  | nil => intro lg _ _; rfl
  | cons y z ih =>
    intro lg h n
    rw [List.map_cons, List.mem_cons, not_or] at n
    rw [List.foldl_cons, ih (fun q hq => by rw [bump_len]; exact h q (List.mem_cons_of_mem _ hq)) n.2, bump_getD (h y List.mem_cons_self), if_neg n.1]
theorem push_on {z : List (Nat × Bool)} {y : Nat × Bool} : ∀ {lg : List Nat}, (∀ y ∈ z, y.1 < lg.length) → (z.map (·.1)).Nodup → y ∈ z → (z.foldl (bump k) lg).getD y.1 0 = if y.2 = true then lg.getD y.1 0 + k else lg.getD y.1 0 - k := by
  induction z with
  | nil => intro lg _ _ h; simp at h
  | cons c z ih =>
    intro lg h nd hy
    rw [List.map_cons, List.nodup_cons] at nd
    rw [List.foldl_cons]
    have hb : ∀ q ∈ z, q.1 < (bump k lg c).length := fun q hq => by rw [bump_len]; exact h q (List.mem_cons_of_mem _ hq)
    rcases List.mem_cons.mp hy with e | e
    · subst e
      rw [push_off hb nd.1, bump_getD (h y List.mem_cons_self), if_pos rfl]
    · rw [ih hb nd.2 e, bump_getD (h c List.mem_cons_self), if_neg (fun (q : y.1 = c.1) => nd.1 (q ▸ List.mem_map.mpr ⟨y, e, rfl⟩))]
end
end LF
end
section
set_option linter.all false
set_option autoImplicit false
namespace LF
open TbBase TbLtBook TbLtFlow

def founC (b : Book) (fs : List Nat) (S : Nat → Bool) (fl : List Nat) : Int := (fs.map fun f => if S f = true then (0 : Int) else ((b.lot f).made : Int) - (fl.getD f 0 : Nat)).sum
/-- what may still go out of S -/
def rc (b : Book) (fs : List Nat) (x : Nat) (w : Flow) (S : Nat → Bool) : Int :=
  founC b fs S w.founders + legC b S w.legs + (if S x = true then (b.left x : Int) - w.there else 0)
structure Feas (b : Book) (fs : List Nat) (x : Nat) (w : Flow) : Prop where
  fl : w.founders.length = b.lots.length
  ll : w.legs.length = b.legs.length
  fle : ∀ f ∈ fs, w.founders.getD f 0 ≤ (b.lot f).made
  lle : ∀ (i : Nat) (g : Leg), b.legs[i]? = some g → w.legs.getD i 0 ≤ g.weight
  tle : w.there ≤ b.left x
  cut : ∀ S, W b fs x S = w.there + rc b fs x w S
/-- no more can go -/
def Done (b : Book) (fs : List Nat) (x : Nat) (w : Flow) : Prop := cameTo (stillTo b fs w) x = false ∨ b.left x ≤ w.there

/-- arcs that go up by one, lots of F with more -/
def upArc (d : Nat → Nat) (g : Leg) (l : Nat) : Nat := if (l < g.weight ∧ d g.to = d g.of + 1) ∨ (0 < l ∧ d g.of = d g.to + 1) then 1 else 0
def ups (b : Book) (fs : List Nat) (w : Flow) (d : Nat → Nat) : Nat := (fs.map fun f => if w.founders.getD f 0 < (b.lot f).made then 1 else 0).sum + (b.legs.zipIdx.map fun p => upArc d p.1 (w.legs.getD p.2 0)).sum
theorem sum_ones {α : Type} {φ : α → Nat} : ∀ {l : List α}, (∀ a ∈ l, φ a ≤ 1) → (l.map φ).sum ≤ l.length
  | [], _ => Nat.le_refl _
  | a :: r, h => by
    rw [List.map_cons, List.sum_cons, List.length_cons]
    have h1 := h a List.mem_cons_self
    have h2 := sum_ones (l := r) (fun x hx => h x (List.mem_cons_of_mem _ hx))
    omega
theorem ups_le (b : Book) (fs : List Nat) (w : Flow) (d : Nat → Nat) : ups b fs w d ≤ fs.length + b.legs.length := by
  unfold ups
  have h1 : (fs.map fun f => if w.founders.getD f 0 < (b.lot f).made then 1 else 0).sum ≤ fs.length := sum_ones fun a _ => by split <;> omega
  have h2 : (b.legs.zipIdx.map fun p => upArc d p.1 (w.legs.getD p.2 0)).sum ≤ b.legs.zipIdx.length := sum_ones fun a _ => by unfold upArc; split <;> omega
  rw [List.length_zipIdx] at h2
  omega

theorem leastOf_le : ∀ (l : List Nat) (a : Nat), leastOf a l ≤ a ∧ ∀ y ∈ l, leastOf a l ≤ y
  | [], a => ⟨Nat.le_refl _, fun y h => by simp at h⟩
  | c :: r, a => by
    have h := leastOf_le r (min a c)
    have e : leastOf a (c :: r) = leastOf (min a c) r := rfl
    rw [e]
    refine ⟨by omega, fun y hy => ?_⟩
    rcases List.mem_cons.mp hy with q | q
    · subst q; omega
    · exact h.2 y q
theorem leastOf_is : ∀ (l : List Nat) (a : Nat), leastOf a l = a ∨ leastOf a l ∈ l
  | [], a => .inl rfl
  | c :: r, a => by
    have e : leastOf a (c :: r) = leastOf (min a c) r := rfl
    rw [e]
    rcases leastOf_is r (min a c) with q | q
    · rw [q]
      by_cases h : a ≤ c
      · left; omega
      · right; have : min a c = c := by omega
        rw [this]; exact List.mem_cons_self
    · exact .inr (List.mem_cons_of_mem _ q)

section
variable {b : Book} {fs : List Nat} {x : Nat} {w : Flow}
/-- what the way lets through -/
def resid (b : Book) (w : Flow) (y : Nat × Bool) : Nat := if y.2 = true then (b.legs.getD y.1 ⟨0, 0, 0⟩).weight - w.legs.getD y.1 0 else w.legs.getD y.1 0
theorem resid_arc {i : Nat} {dr : Bool} {u v : Nat} (a : Arc b w i dr u v) : 0 < resid b w (i, dr) := by
  obtain ⟨g, hg, q⟩ := a
  have hgD : b.legs.getD i ⟨0, 0, 0⟩ = g := by rw [List.getD_eq_getElem?_getD, hg]; rfl
  unfold resid
  dsimp only
  rw [hgD]
  rcases q with ⟨rfl, _, _, h⟩ | ⟨rfl, _, _, h⟩
  · rw [if_pos rfl]; omega
  · rw [if_neg (by simp)]; exact h
theorem tight_chain {d : Nat → Nat} {f v k : Nat} {z : List (Nat × Bool)} (h : Tight b fs w d f z v) (hk : ∀ y ∈ z, k ≤ resid b w y) : Chain b k w.legs f z v := by
  have nd := tight_nd h
  induction h with
  | here hf hl h0 => exact .here
  | arc i dr u v z hz a e ih =>
    rw [List.map_cons, List.nodup_cons] at nd
    have c := ih (fun y hy => hk y (List.mem_cons_of_mem _ hy)) nd.2
    have k1 := hk (i, dr) List.mem_cons_self
    have k2 := resid_arc a
    obtain ⟨g, hg, q⟩ := a
    have hgD : b.legs.getD i ⟨0, 0, 0⟩ = g := by rw [List.getD_eq_getElem?_getD, hg]; rfl
    unfold resid at k1
    dsimp only at k1
    rw [hgD] at k1
    rcases q with ⟨rfl, rfl, rfl, h⟩ | ⟨rfl, rfl, rfl, h⟩
    · rw [if_pos rfl] at k1
      exact .fwd i g z c hg (by omega) nd.1
    · rw [if_neg (by simp)] at k1
      exact .bwd i g z c hg k1 nd.1

/-- one way more -/
structure Aug (b : Book) (fs : List Nat) (x : Nat) (w w' : Flow) (d : Nat → Nat) : Prop where
  feas : Feas b fs x w'
  lab : Lab b fs w' d
  less : b.left x ≤ w'.there ∨ ups b fs w' d < ups b fs w d

theorem augment (N : Net b fs x) (F : Feas b fs x w) {d : Nat → Nat} (L : Lab b fs w d) {f : Nat} {z : List (Nat × Bool)} (h : Tight b fs w d f z x) (hth : w.there < b.left x) :
    Aug b fs x w (w.more f z (leastOf (min (b.left x - w.there) ((b.lot f).made - w.founders.getD f 0)) (z.map (resid b w)))) d := by
  have hs := tight_start h
  have hmin := leastOf_le (z.map (resid b w)) (min (b.left x - w.there) ((b.lot f).made - w.founders.getD f 0))
  have his := leastOf_is (z.map (resid b w)) (min (b.left x - w.there) ((b.lot f).made - w.founders.getD f 0))
  generalize hk : leastOf (min (b.left x - w.there) ((b.lot f).made - w.founders.getD f 0)) (z.map (resid b w)) = k at hmin his
  have hkz : ∀ y ∈ z, k ≤ resid b w y := fun y hy => hmin.2 _ (List.mem_map.mpr ⟨y, hy, rfl⟩)
  have hc := tight_chain h hkz
  have nd := tight_nd h
  have hz : ∀ y ∈ z, y.1 < w.legs.length := fun y hy => by
    obtain ⟨u, t, ⟨g, hg, _⟩, _⟩ := tight_mem h y hy
    rw [F.ll]; exact (List.getElem?_eq_some_iff.mp hg).1
  have hfl : f < w.founders.length := by rw [F.fl]; exact N.fsl f hs.1
  have eW : w.more f z k = ⟨w.founders.modify f fun (n : Nat) => n + k, z.foldl (bump k) w.legs, w.there + k⟩ := rfl
  have eF : ∀ j, (w.founders.modify f fun (n : Nat) => n + k).getD j 0 = if j = f then w.founders.getD j 0 + k else w.founders.getD j 0 := fun j => by
    rw [List.getD_eq_getElem?_getD, List.getElem?_modify, List.getD_eq_getElem?_getD]
    by_cases e : j = f
    · subst e; rw [if_pos rfl, List.getElem?_eq_getElem hfl]; simp
    · have : ¬ f = j := fun z => e z.symm
      simp [this, e]
  -- the legs behind
  have eL : ∀ j, (z.foldl (bump k) w.legs).getD j 0 = w.legs.getD j 0 ∨ ∃ y ∈ z, y.1 = j ∧ (z.foldl (bump k) w.legs).getD j 0 = if y.2 = true then w.legs.getD j 0 + k else w.legs.getD j 0 - k := fun j => by
    by_cases m : j ∈ z.map (·.1)
    · obtain ⟨y, hy, e⟩ := List.mem_map.mp m
      right
      refine ⟨y, hy, e, ?_⟩
      rw [← e]; exact push_on hz nd hy
    · exact .inl (push_off hz m)
  have on : ∀ y ∈ z, ∃ g, b.legs[y.1]? = some g ∧ ((y.2 = true ∧ w.legs.getD y.1 0 + k ≤ g.weight ∧ d g.to = d g.of + 1) ∨ (y.2 = false ∧ k ≤ w.legs.getD y.1 0 ∧ d g.of = d g.to + 1)) := fun y hy => by
    obtain ⟨u, t, a, e, _⟩ := tight_mem h y hy
    have k1 := hkz y hy
    have k2 := resid_arc a
    obtain ⟨g, hg, q⟩ := a
    have hgD : b.legs.getD y.1 ⟨0, 0, 0⟩ = g := by rw [List.getD_eq_getElem?_getD, hg]; rfl
    unfold resid at k1
    rw [hgD] at k1
    refine ⟨g, hg, ?_⟩
    rcases q with ⟨h1, rfl, rfl, h2⟩ | ⟨h1, rfl, rfl, h2⟩
    · rw [if_pos h1] at k1
      exact .inl ⟨h1, by omega, e⟩
    · rw [if_neg (show ¬ (y.2 = true) by simp [h1])] at k1
      exact .inr ⟨h1, k1, e⟩
  rw [eW]
  refine ⟨⟨?_, ?_, ?_, ?_, ?_, ?_⟩, ⟨?_, ?_⟩, ?_⟩
  · show (w.founders.modify _ _).length = _
    rw [List.length_modify, F.fl]
  · show (z.foldl (bump k) w.legs).length = _
    rw [push_len, F.ll]
  · intro j hj
    show (w.founders.modify _ _).getD j 0 ≤ _
    rw [eF]
    have := F.fle j hj
    split
    · rename_i e; subst e
      have := hs.2
      omega
    · omega
  · intro i g hg
    show (z.foldl (bump k) w.legs).getD i 0 ≤ _
    have h0 := F.lle i g hg
    rcases eL i with e | ⟨y, hy, ey, e⟩
    · rw [e]; exact h0
    · rw [e]
      obtain ⟨g', hg', q⟩ := on y hy
      rw [ey, hg] at hg'
      cases hg'
      rcases q with ⟨h1, h2, _⟩ | ⟨h1, h2, _⟩
      · rw [if_pos h1]; rw [ey] at h2; exact h2
      · rw [if_neg (show ¬ (y.2 = true) by simp [h1])]; omega
  · show w.there + k ≤ _
    omega
  · intro S
    have h1 := F.cut S
    have h2 := push_legC (S := S) F.ll hc
    show W b fs x S = ((w.there + k : Nat) : Int) + (founC b fs S (w.founders.modify f fun (n : Nat) => n + k) + legC b S (z.foldl (bump k) w.legs) + (if S x = true then (b.left x : Int) - ((w.there + k : Nat) : Int) else 0))
    have h3 : founC b fs S (w.founders.modify f fun (n : Nat) => n + k) = founC b fs S w.founders - (if S f = true then 0 else (k : Int)) := by
      unfold founC
      rw [sum_but (φ := fun f => if S f = true then (0 : Int) else ((b.lot f).made : Int) - (w.founders.getD f 0 : Nat)) (ψ := fun j => if S j = true then (0 : Int) else ((b.lot j).made : Int) - ((w.founders.modify f fun (n : Nat) => n + k).getD j 0 : Nat)) N.nd hs.1 (fun c hc ne => by
        show (if S c = true then (0 : Int) else ((b.lot c).made : Int) - ((w.founders.modify f fun (n : Nat) => n + k).getD c 0 : Nat)) = _
        rw [eF, if_neg ne])]
      rw [eF, if_pos rfl]
      split <;> omega
    unfold rc at h1
    rw [h1, h2, h3]
    unfold b01
    cases S f <;> cases S x <;> simp <;> omega
  · intro j hj hl
    refine L.start j hj ?_
    have hl : (w.founders.modify f fun (n : Nat) => n + k).getD j 0 < _ := hl
    rw [eF] at hl
    split at hl <;> omega
  · intro i dr u v a
    obtain ⟨g, hg, q⟩ := a
    rcases eL i with e | ⟨y, hy, ey, e⟩
    · refine L.arc i dr u v ⟨g, hg, ?_⟩
      have e : (w.more f z k).legs.getD i 0 = w.legs.getD i 0 := e
      rw [← e]; exact q
    · obtain ⟨g', hg', q'⟩ := on y hy
      rw [ey, hg] at hg'
      cases hg'
      rw [ey] at q'
      have old : ∀ dr u v, ((dr = true ∧ u = g.of ∧ v = g.to ∧ w.legs.getD i 0 < g.weight) ∨ (dr = false ∧ u = g.to ∧ v = g.of ∧ 0 < w.legs.getD i 0)) → d v ≤ d u + 1 := fun dr u v q => L.arc i dr u v ⟨g, hg, q⟩
      rcases q with ⟨h1, rfl, rfl, h2⟩ | ⟨h1, rfl, rfl, h2⟩ <;> rcases q' with ⟨h3, h4, h5⟩ | ⟨h3, h4, h5⟩ <;> omega
  · show b.left x ≤ w.there + k ∨ _
    by_cases full : b.left x ≤ w.there + k
    · exact .inl full
    · right
      -- no term grows
      have hf1 : ∀ j ∈ fs, (if (w.founders.modify f fun (n : Nat) => n + k).getD j 0 < (b.lot j).made then 1 else 0) ≤ (if w.founders.getD j 0 < (b.lot j).made then 1 else 0) := fun j _ => by
        rw [eF]; repeat' split
        all_goals omega
      have hl1 : ∀ p ∈ b.legs.zipIdx, upArc d p.1 ((z.foldl (bump k) w.legs).getD p.2 0) ≤ upArc d p.1 (w.legs.getD p.2 0) := fun p hp => by
        have hg := zipIdx_get hp
        rcases eL p.2 with e | ⟨y, hy, ey, e⟩
        · rw [e]; exact Nat.le_refl _
        · obtain ⟨g', hg', q'⟩ := on y hy
          rw [ey, hg] at hg'
          cases hg'
          rw [ey] at q'
          rw [e]
          unfold upArc
          rcases q' with ⟨h3, h4, h5⟩ | ⟨h3, h4, h5⟩
          · rw [if_pos h3]; repeat' split
            all_goals omega
          · rw [if_neg (show ¬ (y.2 = true) by simp [h3])]; repeat' split
            all_goals omega
      have sF := sum_le_of (l := fs) hf1
      have sL := sum_le_of (l := b.legs.zipIdx) hl1
      show (fs.map fun j => if (w.founders.modify f fun (n : Nat) => n + k).getD j 0 < (b.lot j).made then 1 else 0).sum + (b.legs.zipIdx.map fun p => upArc d p.1 ((z.foldl (bump k) w.legs).getD p.2 0)).sum < (fs.map fun j => if w.founders.getD j 0 < (b.lot j).made then 1 else 0).sum + (b.legs.zipIdx.map fun p => upArc d p.1 (w.legs.getD p.2 0)).sum
      rcases his with q | q
      · -- the founder is full
        have sF' := sum_lt_of (l := fs) (a := f) hf1 hs.1 (by
          rw [eF, if_pos rfl, if_neg (by omega), if_pos hs.2]; omega)
        omega
      · obtain ⟨y, hy, ey⟩ := List.mem_map.mp q
        obtain ⟨u, t, a, eT, _⟩ := tight_mem h y hy
        have k2 := resid_arc a
        obtain ⟨g, hg, _⟩ := a
        have hgD : b.legs.getD y.1 ⟨0, 0, 0⟩ = g := by rw [List.getD_eq_getElem?_getD, hg]; rfl
        obtain ⟨g', hg', q'⟩ := on y hy
        rw [hg] at hg'
        cases hg'
        have e := push_on (k := k) hz nd hy
        have ey : resid b w y = k := ey
        have k2 : 0 < resid b w y := k2
        unfold resid at ey k2
        rw [hgD] at ey k2
        have sL' := sum_lt_of (l := b.legs.zipIdx) (a := (g, y.1)) hl1 (List.mk_mem_zipIdx_iff_getElem?.mpr hg) (by
          show upArc d g ((z.foldl (bump k) w.legs).getD y.1 0) < upArc d g (w.legs.getD y.1 0)
          rw [e]
          unfold upArc
          rcases q' with ⟨h3, h4, h5⟩ | ⟨h3, h4, h5⟩
          · rw [if_pos h3] at ey k2 ⊢
            rw [if_neg (by omega), if_pos (by omega)]; omega
          · rw [if_neg (show ¬ (y.2 = true) by simp [h3])] at ey k2 ⊢
            rw [if_neg (by omega), if_pos (by omega)]; omega)
        omega

/-! ## the fuel is enough -/
/-- what is left of the road: how far the label may rise, arcs that go up -/
def togo (b : Book) (fs : List Nat) (x : Nat) (w : Flow) (d : Nat → Nat) : Nat := (b.lots.length - d x) * (fs.length + b.legs.length + 1) + ups b fs w d
theorem flow_done (N : Net b fs x) : ∀ (f : Nat) (w : Flow) (d : Nat → Nat), Feas b fs x w → Lab b fs w d → togo b fs x w d < f → Feas b fs x (flowFrom b fs x f w) ∧ Done b fs x (flowFrom b fs x f w)
  | 0, w, d, F, L, h => by omega
  | f + 1, w, d, F, L, h => by
    have unf : flowFrom b fs x (f + 1) w = if cameTo (stillTo b fs w) x = false ∨ b.left x ≤ w.there then w else
        flowFrom b fs x f (w.more (backFrom b (stillTo b fs w) (b.lots.length + 1) x).1 (backFrom b (stillTo b fs w) (b.lots.length + 1) x).2
          (leastOf (min (b.left x - w.there) ((b.lot (backFrom b (stillTo b fs w) (b.lots.length + 1) x).1).made - w.founders.getD (backFrom b (stillTo b fs w) (b.lots.length + 1) x).1 0)) ((backFrom b (stillTo b fs w) (b.lots.length + 1) x).2.map (resid b w)))) := rfl
    rw [unf]
    by_cases c : cameTo (stillTo b fs w) x = false ∨ b.left x ≤ w.there
    · rw [if_pos c]
      exact ⟨F, c⟩
    · rw [if_neg c]
      rw [not_or] at c
      have hx : dist b fs w x ≤ b.lots.length := (still_dist N).mp (by simpa using c.1)
      have hw := back_way (w := w) N (b.lots.length + 1) x (by omega) hx
      generalize backFrom b (stillTo b fs w) (b.lots.length + 1) x = p at hw ⊢
      have main : ∀ d, Lab b fs w d → d x = p.2.length → togo b fs x w d < f + 1 →
          Feas b fs x (flowFrom b fs x f (w.more p.1 p.2 (leastOf (min (b.left x - w.there) ((b.lot p.1).made - w.founders.getD p.1 0)) (p.2.map (resid b w))))) ∧
          Done b fs x (flowFrom b fs x f (w.more p.1 p.2 (leastOf (min (b.left x - w.there) ((b.lot p.1).made - w.founders.getD p.1 0)) (p.2.map (resid b w))))) := fun d L e h => by
        have A := augment N F L (way_tight L hw.1 e) (by omega)
        generalize w.more p.1 p.2 (leastOf (min (b.left x - w.there) ((b.lot p.1).made - w.founders.getD p.1 0)) (p.2.map (resid b w))) = w' at A ⊢
        rcases A.less with q | q
        · have dn : Done b fs x w' := .inr q
          cases f with
          | zero => exact ⟨A.feas, dn⟩
          | succ f =>
            unfold flowFrom
            dsimp only
            rw [if_pos (show cameTo (stillTo b fs w') x = false ∨ b.left x ≤ w'.there from dn)]
            exact ⟨A.feas, dn⟩
        · refine flow_done N f _ d A.feas A.lab ?_
          unfold togo at h ⊢
          omega
      have ge := way_ge L hw.1
      by_cases e : d x = p.2.length
      · exact main d L e h
      · refine main (dist b fs w) (dist_lab N) hw.2.symm ?_
        have hd : d x + 1 ≤ dist b fs w x := by omega
        have u1 := ups_le b fs w (dist b fs w)
        unfold togo at h ⊢
        have : (b.lots.length - dist b fs w x) * (fs.length + b.legs.length + 1) + (fs.length + b.legs.length + 1) ≤ (b.lots.length - d x) * (fs.length + b.legs.length + 1) := by
          rw [← Nat.succ_mul]
          exact Nat.mul_le_mul_right _ (by omega)
        omega
end
end LF
end
section
set_option linter.all false
set_option autoImplicit false
namespace LF
open TbBase TbLtBook TbLtFlow

theorem sum_nonneg {α : Type} {φ : α → Int} : ∀ {l : List α}, (∀ a ∈ l, 0 ≤ φ a) → 0 ≤ (l.map φ).sum
  | [], _ => by simp
  | a :: r, h => by
    rw [List.map_cons, List.sum_cons]
    have h1 := h a List.mem_cons_self
    have h2 := sum_nonneg (l := r) (fun x hx => h x (List.mem_cons_of_mem _ hx))
    omega
theorem sum_zero {α : Type} {φ : α → Int} : ∀ {l : List α}, (∀ a ∈ l, φ a = 0) → (l.map φ).sum = 0
  | [], _ => by simp
  | a :: r, h => by
    rw [List.map_cons, List.sum_cons, h a List.mem_cons_self, sum_zero (l := r) (fun x hx => h x (List.mem_cons_of_mem _ hx))]
    omega
theorem sum_all_zero {α : Type} {φ : α → Int} : ∀ {l : List α}, (∀ a ∈ l, 0 ≤ φ a) → (l.map φ).sum = 0 → ∀ a ∈ l, φ a = 0
  | [], _, _, a, h => by simp at h
  | c :: r, h, e, a, ha => by
    rw [List.map_cons, List.sum_cons] at e
    have h1 := h c List.mem_cons_self
    have h2 := sum_nonneg (l := r) (fun x hx => h x (List.mem_cons_of_mem _ hx))
    rcases List.mem_cons.mp ha with q | q
    · subst q; omega
    · exact sum_all_zero (l := r) (fun x hx => h x (List.mem_cons_of_mem _ hx)) (by omega) a q

/-- m is the least weight; S the least of the lightest sets -/
structure Least (b : Book) (fs : List Nat) (x : Nat) (m : Int) (S : Nat → Bool) : Prop where
  low : ∀ T, m ≤ W b fs x T
  at_ : W b fs x S = m
  sub : ∀ T, W b fs x T = m → ∀ v, S v = true → T v = true
theorem Least.same {b : Book} {fs : List Nat} {x : Nat} {m m' : Int} {S S' : Nat → Bool} (h : Least b fs x m S) (h' : Least b fs x m' S') : m = m' ∧ S = S' := by
  have e : m = m' := by
    have h1 := h.low S'
    have h2 := h'.low S
    rw [h'.at_] at h1; rw [h.at_] at h2
    omega
  refine ⟨e, funext fun v => ?_⟩
  have h1 := h.sub S' (by rw [h'.at_, e]) v
  have h2 := h'.sub S (by rw [h.at_, e]) v
  cases q : S v <;> cases q' : S' v
  · rfl
  · rw [h2 q'] at q; cases q
  · rw [h1 q] at q'; cases q'
  · rfl

section
variable {b : Book} {fs : List Nat} {x : Nat} {w : Flow}
theorem thru_nonneg {S : Nat → Bool} {g : Leg} {l : Nat} (h : l ≤ g.weight) : 0 ≤ thru S g l := by
  unfold thru
  repeat' split
  all_goals omega
theorem parts_nonneg (F : Feas b fs x w) (S : Nat → Bool) : 0 ≤ founC b fs S w.founders ∧ 0 ≤ legC b S w.legs ∧ 0 ≤ (if S x = true then (b.left x : Int) - w.there else 0) := by
  refine ⟨?_, ?_, ?_⟩
  · exact sum_nonneg fun f hf => by
      have := F.fle f hf
      split
      · omega
      · omega
  · exact sum_nonneg fun p hp => thru_nonneg (F.lle p.2 p.1 (zipIdx_get hp))
  · have := F.tle
    split <;> omega
theorem feas_low (F : Feas b fs x w) (S : Nat → Bool) : (w.there : Int) ≤ W b fs x S := by
  obtain ⟨h1, h2, h3⟩ := parts_nonneg F S
  have := F.cut S
  unfold rc at this
  omega
/-- what is still come to is the least of the lightest sets -/
theorem done_least (N : Net b fs x) (F : Feas b fs x w) (D : Done b fs x w) : Least b fs x w.there (cameTo (stillTo b fs w)) := by
  have st : ∀ v, cameTo (stillTo b fs w) v = true ↔ dist b fs w v ≤ b.lots.length := fun v => still_dist N
  have L := dist_lab (w := w) N
  obtain ⟨K, hK, eK, fx⟩ := still_lv (w := w) N
  have start : ∀ f ∈ fs, w.founders.getD f 0 < (b.lot f).made → cameTo (stillTo b fs w) f = true := fun f hf hl => by
    rw [st, L.start f hf hl]; omega
  have closed : ∀ i dr u v, Arc b w i dr u v → cameTo (stillTo b fs w) u = true → cameTo (stillTo b fs w) v = true := fun i dr u v a h => by
    rw [eK] at h ⊢
    rw [← fx]
    exact way_takes a h
  refine ⟨feas_low F, ?_, fun T hT => ?_⟩
  · rw [F.cut]
    have z1 : founC b fs (cameTo (stillTo b fs w)) w.founders = 0 := sum_zero fun f hf => by
      by_cases c : cameTo (stillTo b fs w) f = true
      · rw [if_pos c]
      · rw [if_neg c]
        have := F.fle f hf
        have : ¬ w.founders.getD f 0 < (b.lot f).made := fun h => c (start f hf h)
        omega
    have z2 : legC b (cameTo (stillTo b fs w)) w.legs = 0 := sum_zero fun p hp => by
      have hg := zipIdx_get hp
      have hl := F.lle p.2 p.1 hg
      unfold thru
      by_cases c1 : cameTo (stillTo b fs w) p.1.of = true <;> by_cases c2 : cameTo (stillTo b fs w) p.1.to = true
      · rw [if_pos c1, if_pos c2]
      · rw [if_pos c1, if_neg c2]
        have : ¬ w.legs.getD p.2 0 < p.1.weight := fun h => c2 (closed p.2 true _ _ ⟨p.1, hg, .inl ⟨rfl, rfl, rfl, h⟩⟩ c1)
        omega
      · rw [if_neg c1, if_pos c2]
        have : ¬ 0 < w.legs.getD p.2 0 := fun h => c1 (closed p.2 false _ _ ⟨p.1, hg, .inr ⟨rfl, rfl, rfl, h⟩⟩ c2)
        omega
      · rw [if_neg c1, if_neg c2]
    have z3 : (if cameTo (stillTo b fs w) x = true then (b.left x : Int) - w.there else 0) = 0 := by
      have := F.tle
      rcases D with d | d
      · rw [d, if_neg (by simp)]
      · split <;> omega
    unfold rc
    omega
  · have cut := F.cut T
    obtain ⟨h1, h2, h3⟩ := parts_nonneg F T
    unfold rc at cut
    have z1 := sum_all_zero (φ := fun f => if T f = true then (0 : Int) else ((b.lot f).made : Int) - (w.founders.getD f 0 : Nat)) (l := fs) (fun f hf => by
      have := F.fle f hf
      skip
      split <;> omega) (by unfold founC at *; omega)
    have z2 := sum_all_zero (φ := fun p : Leg × Nat => thru T p.1 (w.legs.getD p.2 0)) (l := b.legs.zipIdx) (fun p hp => thru_nonneg (F.lle p.2 p.1 (zipIdx_get hp))) (by unfold legC at *; omega)
    -- by rounds
    have go : ∀ k v, cameTo (Lv b w (starts b fs w) k) v = true → T v = true := by
      intro k
      induction k with
      | zero =>
        intro v hv
        have m := starts_mem.mp hv
        have z := z1 v m.1
        skip
        by_cases c : T v = true
        · exact c
        · rw [if_neg c] at z
          have := m.2
          omega
      | succ k ih =>
        intro v hv
        obtain ⟨m, e, hm⟩ := (way_grown b w (Lv b w (starts b fs w) k)).ex
        have hv : cameTo (wayOn b w (Lv b w (starts b fs w) k)) v = true := hv
        rw [e, cameTo_append, Bool.or_eq_true] at hv
        rcases hv with hv | hv
        · exact ih v hv
        · obtain ⟨c, hc, ec⟩ := List.mem_map.mp (cameTo_iff.mp hv)
          obtain ⟨i, dr, u, _, a, hu, _⟩ := hm c hc
          have tu := ih u hu
          rw [ec] at a
          obtain ⟨g, hg, q⟩ := a
          have z := z2 (g, i) (List.mk_mem_zipIdx_iff_getElem?.mpr hg)
          have z : thru T g (w.legs.getD i 0) = 0 := z
          unfold thru at z
          by_cases cv : T v = true
          · exact cv
          · rcases q with ⟨_, rfl, rfl, h⟩ | ⟨_, rfl, rfl, h⟩
            · rw [if_pos tu, if_neg cv] at z; omega
            · rw [if_neg cv, if_pos tu] at z; omega
    intro v hv
    rw [eK] at hv
    exact go K v hv

/-- the empty laying -/
theorem getD_const {α : Type} (l : List α) (i : Nat) : (l.map fun _ => 0).getD i 0 = 0 := by
  rw [List.getD_eq_getElem?_getD, List.getElem?_map]
  cases l[i]? <;> rfl
def flow0 (b : Book) : Flow := ⟨b.lots.map fun (_ : Lot) => 0, b.legs.map fun (_ : Leg) => 0, 0⟩
theorem flow0_feas : Feas b fs x (flow0 b) := by
  refine ⟨by simp [flow0], by simp [flow0], fun f _ => ?_, fun i g _ => ?_, Nat.zero_le _, fun S => ?_⟩
  · show (b.lots.map fun _ => 0).getD f 0 ≤ _
    rw [getD_const]; omega
  · show (b.legs.map fun _ => 0).getD i 0 ≤ _
    rw [getD_const]; omega
  · unfold W rc
    have e1 : founC b fs S (flow0 b).founders = (fs.map fun f => if S f = true then (0 : Int) else ((b.lot f).made : Int)).sum := sum_same fun f _ => by
      have : (flow0 b).founders.getD f 0 = 0 := getD_const _ _
      rw [this]; simp
    have e2 : legC b S (flow0 b).legs = (b.legs.map fun g => if S g.of = true ∧ S g.to = false then (g.weight : Int) else 0).sum := by
      have e3 : legC b S (flow0 b).legs = (b.legs.zipIdx.map fun p => (fun g : Leg => if S g.of = true ∧ S g.to = false then (g.weight : Int) else 0) p.1).sum := sum_same fun p hp => by
        have : (flow0 b).legs.getD p.2 0 = 0 := getD_const _ _
        rw [this]
        unfold thru
        dsimp only
        cases S p.1.of <;> cases S p.1.to <;> simp
      rw [e3]
      have e4 : (b.legs.zipIdx.map fun p => (fun g : Leg => if S g.of = true ∧ S g.to = false then (g.weight : Int) else 0) p.1) = (b.legs.zipIdx.map (·.1)).map (fun g : Leg => if S g.of = true ∧ S g.to = false then (g.weight : Int) else 0) := by
        rw [List.map_map]; rfl
      rw [e4, List.zipIdx_map_fst]
    rw [e1, e2]
    have e5 : (flow0 b).there = 0 := rfl
    rw [e5]
    simp
theorem flow_least (N : Net b fs x) (h1 : b.lots.length ≤ 60) (h2 : b.legs.length ≤ 160) : Least b fs x (TbLtFlow.most b fs x) (cameTo (stillTo b fs (flow b fs x))) := by
  have hf : fs.length ≤ b.lots.length := nodup_lt N.nd N.fsl
  have F := flow0_feas (b := b) (fs := fs) (x := x)
  have e : flow b fs x = flowFrom b fs x WAYS (flow0 b) := rfl
  have key : (b.lots.length - dist b fs (flow0 b) x) * (fs.length + b.legs.length + 1) ≤ 60 * 221 := Nat.mul_le_mul (by omega) (by omega)
  have u := ups_le b fs (flow0 b) (dist b fs (flow0 b))
  obtain ⟨F', D'⟩ := flow_done N WAYS (flow0 b) (dist b fs (flow0 b)) F (dist_lab N) (by unfold togo WAYS; omega)
  unfold TbLtFlow.most
  rw [e]
  exact done_least N F' D'
end
end LF
end
section
set_option linter.all false
set_option autoImplicit false
namespace LF
open TbBase TbLtBook TbLtFlow

/-! ## tables: pairs, in their order -/
section
variable {β : Type}
def look (l : List (Int × β)) (k : Int) : Option β := (l.find? fun p => decide (p.1 = k)).map (·.2)
def putA (l : List (Int × β)) (k : Int) (v : β) : List (Int × β) := if (l.any fun p => decide (p.1 = k)) = true then l.map (fun p => if p.1 = k then (p.1, v) else p) else l ++ [(k, v)]
theorem look_nil (k : Int) : look ([] : List (Int × β)) k = none := rfl
theorem look_cons (p : Int × β) (r : List (Int × β)) (k : Int) : look (p :: r) k = if p.1 = k then some p.2 else look r k := by
  unfold look
  rw [List.find?_cons]
  by_cases e : p.1 = k
  · rw [if_pos e, decide_eq_true e]; rfl
  · rw [if_neg e, decide_eq_false e]
theorem look_any : ∀ (l : List (Int × β)) (k : Int), (l.any fun p => decide (p.1 = k)) = (look l k).isSome
  | [], k => rfl
  | p :: r, k => by
    rw [List.any_cons, look_cons, look_any r k]
    by_cases e : p.1 = k
    · rw [if_pos e, decide_eq_true e]; rfl
    · rw [if_neg e, decide_eq_false e]; rfl
theorem look_key {l : List (Int × β)} {k : Int} : (look l k).isSome = true ↔ k ∈ l.map (·.1) := by
  rw [← look_any, List.any_eq_true]
  constructor
  · rintro ⟨p, hp, e⟩
    exact List.mem_map.mpr ⟨p, hp, of_decide_eq_true e⟩
  · intro h
    obtain ⟨p, hp, e⟩ := List.mem_map.mp h
    exact ⟨p, hp, decide_eq_true e⟩
theorem look_none {l : List (Int × β)} {k : Int} : look l k = none ↔ ¬ k ∈ l.map (·.1) := by
  rw [← look_key]
  cases look l k <;> simp
theorem look_mem {l : List (Int × β)} {k : Int} {v : β} (h : look l k = some v) : (k, v) ∈ l := by
  unfold look at h
  cases e : l.find? fun p => decide (p.1 = k) with
  | none => rw [e] at h; cases h
  | some p =>
    rw [e] at h
    have h1 := List.mem_of_find?_eq_some e
    have h2 : p.1 = k := by simpa using List.find?_some e
    have h3 : p.2 = v := Option.some.inj h
    rw [← h2, ← h3]; exact h1
theorem look_of_mem : ∀ {l : List (Int × β)} {k : Int} {v : β}, (l.map (·.1)).Nodup → (k, v) ∈ l → look l k = some v
  | [], _, _, _, h => by simp at h
  | p :: r, k, v, nd, h => by
    rw [List.map_cons, List.nodup_cons] at nd
    rw [look_cons]
    rcases List.mem_cons.mp h with e | e
    · rw [← e, if_pos rfl]
    · have : ¬ p.1 = k := fun z => nd.1 (z ▸ List.mem_map.mpr ⟨(k, v), e, rfl⟩)
      rw [if_neg this]
      exact look_of_mem nd.2 e
theorem putA_keys (l : List (Int × β)) (k : Int) (v : β) : (putA l k v).map (·.1) = if k ∈ l.map (·.1) then l.map (·.1) else l.map (·.1) ++ [k] := by
  unfold putA
  rw [look_any]
  by_cases h : k ∈ l.map (·.1)
  · rw [if_pos h, if_pos (look_key.mpr h), List.map_map]
    apply List.map_congr_left
    intro p _
    show (if p.1 = k then (p.1, v) else p).1 = p.1
    split <;> rfl
  · rw [if_neg h, if_neg (fun z => h (look_key.mp z)), List.map_append]
    rfl
theorem putA_nd {l : List (Int × β)} {k : Int} {v : β} (h : (l.map (·.1)).Nodup) : ((putA l k v).map (·.1)).Nodup := by
  rw [putA_keys]
  split
  · exact h
  · exact nodup_snoc h (by assumption)
theorem look_mapv (k j : Int) (v : β) : ∀ l : List (Int × β), look (l.map fun p => if p.1 = k then (p.1, v) else p) j = (look l j).map fun x => if j = k then v else x
  | [] => rfl
  | p :: r => by
    rw [List.map_cons, look_cons, look_cons, look_mapv k j v r]
    by_cases h : p.1 = k
    · rw [if_pos h]
      by_cases e : p.1 = j
      · rw [if_pos e, if_pos e, Option.map_some, if_pos (e.symm.trans h)]
      · rw [if_neg e, if_neg e]
    · rw [if_neg h]
      by_cases e : p.1 = j
      · rw [if_pos e, if_pos e, Option.map_some, if_neg (fun z => h (e.trans z))]
      · rw [if_neg e, if_neg e]
theorem look_append (l m : List (Int × β)) (j : Int) : look (l ++ m) j = (look l j).or (look m j) := by
  induction l with
  | nil => rw [List.nil_append]; cases look m j <;> rfl
  | cons p r ih =>
    rw [List.cons_append, look_cons, look_cons, ih]
    split <;> rfl
theorem look_putA (l : List (Int × β)) (k j : Int) (v : β) : look (putA l k v) j = if j = k then some v else look l j := by
  unfold putA
  rw [look_any]
  by_cases h : (look l k).isSome = true
  · rw [if_pos h, look_mapv]
    by_cases e : j = k
    · obtain ⟨x, hx⟩ := Option.isSome_iff_exists.mp h
      rw [if_pos e, e, hx, Option.map_some, if_pos rfl]
    · rw [if_neg e]
      cases look l j with
      | none => rfl
      | some x => rw [Option.map_some, if_neg e]
  · rw [if_neg h, look_append, look_cons, look_nil]
    by_cases e : j = k
    · have : look l k = none := by cases q : look l k with
        | none => rfl
        | some x => rw [q] at h; exact absurd rfl h
      rw [e, this, if_pos rfl]; simp
    · have e' : ¬ k = j := fun z => e z.symm
      rw [if_neg e, if_neg e']
      cases look l j <;> rfl
theorem putA_length (l : List (Int × β)) (k : Int) (v : β) : (putA l k v).length = if (look l k).isSome = true then l.length else l.length + 1 := by
  unfold putA
  rw [look_any]
  split
  · rw [List.length_map]
  · rw [List.length_append]; rfl
/-- a sum over a table behind a store -/
theorem sum_putA {φ : Int × β → Int} {l : List (Int × β)} {k : Int} {v : β} (nd : (l.map (·.1)).Nodup) :
    ((putA l k v).map φ).sum = (l.map φ).sum + (φ (k, v) - (match look l k with | some o => φ (k, o) | none => 0)) := by
  unfold putA
  rw [look_any]
  by_cases h : (look l k).isSome = true
  · rw [if_pos h]
    obtain ⟨o, ho⟩ := Option.isSome_iff_exists.mp h
    rw [ho]
    dsimp only
    clear h
    induction l with
    | nil => cases ho
    | cons p r ih =>
      rw [List.map_cons, List.nodup_cons] at nd
      rw [look_cons] at ho
      rw [List.map_cons, List.map_cons, List.map_cons, List.sum_cons, List.sum_cons]
      by_cases e : p.1 = k
      · rw [if_pos e] at ho ⊢
        have same : ∀ r : List (Int × β), ¬ k ∈ r.map (·.1) → r.map (fun p => if p.1 = k then (p.1, v) else p) = r := fun r hr => by
          have q : r.map (fun p => if p.1 = k then (p.1, v) else p) = r.map (fun p => p) := List.map_congr_left fun q hq => by
            rw [if_neg (fun (z : q.1 = k) => hr (z ▸ List.mem_map.mpr ⟨q, hq, rfl⟩))]
          rw [q, List.map_id']
        rw [same r (e ▸ nd.1)]
        have eo : p.2 = o := Option.some.inj ho
        have ep : p = (k, o) := Prod.ext e eo
        rw [ep]
        show φ (k, v) + _ = φ (k, o) + _ + _
        omega
      · rw [if_neg e] at ho ⊢
        have := ih nd.2 ho
        omega
  · rw [if_neg h]
    have : look l k = none := by cases q : look l k with
        | none => rfl
        | some x => rw [q] at h; exact absurd rfl h
    rw [this, List.map_append, List.sum_append]
    simp
end

/-! ## rooms: {from: {to: kilograms}} -/
abbrev RowA := List (Int × Int)
abbrev Room := List (Int × RowA)
def cap (R : Room) (u v : Int) : Int := ((look R u).bind (look · v)).getD 0
def hasR (R : Room) (u v : Int) : Prop := ∃ row, look R u = some row ∧ (look row v).isSome = true
def setR (R : Room) (u v r : Int) : Room := putA R u (putA ((look R u).getD []) v r)
structure RNd (R : Room) : Prop where
  nd : (R.map (·.1)).Nodup
  rows : ∀ u row, look R u = some row → (row.map (·.1)).Nodup
theorem setR_nd {R : Room} (h : RNd R) (u v r : Int) : RNd (setR R u v r) := by
  refine ⟨putA_nd h.nd, fun a row ha => ?_⟩
  unfold setR at ha
  rw [look_putA] at ha
  by_cases e : a = u
  · rw [if_pos e] at ha
    rw [← Option.some.inj ha]
    refine putA_nd ?_
    cases q : look R u with
    | none => exact List.nodup_nil
    | some row => exact h.rows u row q
  · rw [if_neg e] at ha
    exact h.rows a row ha
theorem cap_setR (R : Room) (u v r a c : Int) : cap (setR R u v r) a c = if a = u ∧ c = v then r else cap R a c := by
  unfold cap setR
  rw [look_putA]
  by_cases e : a = u
  · subst e
    rw [if_pos rfl]
    show (look (putA ((look R a).getD []) v r) c).getD 0 = _
    rw [look_putA]
    by_cases e' : c = v
    · rw [if_pos e', if_pos ⟨rfl, e'⟩]; rfl
    · rw [if_neg e', if_neg (fun z => e' z.2)]
      cases look R a <;> rfl
  · rw [if_neg e, if_neg (fun z => e z.1)]
theorem has_setR (R : Room) (u v r a c : Int) : hasR (setR R u v r) a c ↔ (a = u ∧ c = v) ∨ hasR R a c := by
  unfold hasR setR
  constructor
  · rintro ⟨row, h1, h2⟩
    rw [look_putA] at h1
    by_cases e : a = u
    · rw [if_pos e] at h1
      rw [← Option.some.inj h1, look_putA] at h2
      by_cases e' : c = v
      · exact .inl ⟨e, e'⟩
      · rw [if_neg e'] at h2
        right
        subst e
        cases q : look R a with
        | none => rw [q] at h2; cases h2
        | some row' => rw [q] at h2; exact ⟨row', rfl, h2⟩
    · rw [if_neg e] at h1
      exact .inr ⟨row, h1, h2⟩
  · intro h
    rw [look_putA]
    by_cases e : a = u
    · rw [if_pos e]
      refine ⟨_, rfl, ?_⟩
      rw [look_putA]
      by_cases e' : c = v
      · rw [if_pos e']; rfl
      · rw [if_neg e']
        rcases h with h | ⟨row, h1, h2⟩
        · exact absurd h.2 e'
        · subst e; rw [h1]; exact h2
    · rw [if_neg e]
      rcases h with h | h
      · exact absurd h.1 e
      · exact h
theorem cap_has {R : Room} {u v : Int} (h : cap R u v ≠ 0) : hasR R u v := by
  unfold cap at h
  cases q : look R u with
  | none => rw [q] at h; exact absurd rfl h
  | some row =>
    refine ⟨row, q, ?_⟩
    rw [q] at h
    cases q2 : look row v with
    | none =>
      have : ((some row).bind (look · v)).getD 0 = (look row v).getD 0 := rfl
      rw [this, q2] at h; exact absurd rfl h
    | some x => rfl

/-- what goes out of a set -/
def cutRow (S : Int → Bool) (row : RowA) : Int := (row.map fun q => if S q.1 = true then 0 else q.2).sum
def cutR (R : Room) (S : Int → Bool) : Int := (R.map fun p => if S p.1 = true then cutRow S p.2 else 0).sum
theorem cutRow_put {S : Int → Bool} {row : RowA} (nd : (row.map (·.1)).Nodup) (v r : Int) : cutRow S (putA row v r) = cutRow S row + (if S v = true then 0 else r - (look row v).getD 0) := by
  unfold cutRow
  rw [sum_putA nd]
  cases q : look row v with
  | none =>
    dsimp only
    rw [Option.getD_none]
    split <;> omega
  | some o =>
    dsimp only
    rw [Option.getD_some]
    split <;> omega
theorem cut_setR {R : Room} (h : RNd R) (S : Int → Bool) (u v r : Int) : cutR (setR R u v r) S = cutR R S + (if S u = true ∧ S v = false then r - cap R u v else 0) := by
  unfold cutR setR
  rw [sum_putA h.nd]
  have nd : (((look R u).getD []).map (·.1)).Nodup := by
    cases q : look R u with
    | none => exact List.nodup_nil
    | some row => exact h.rows u row q
  dsimp only
  rw [cutRow_put nd]
  unfold cap
  cases q : look R u with
  | none =>
    dsimp only [Option.getD_none, Option.bind_none]
    have : cutRow S [] = 0 := rfl
    rw [this, look_nil]
    cases S u <;> cases S v <;> simp
  | some row =>
    dsimp only [Option.getD_some, Option.bind_some]
    cases S u <;> cases S v <;> simp <;> omega

/-- Flow.put -/
def putE (R : Room) (e : Int × Int × Int) : Room := setR (setR R e.1 e.2.1 (cap R e.1 e.2.1 + e.2.2)) e.2.1 e.1 (cap (setR R e.1 e.2.1 (cap R e.1 e.2.1 + e.2.2)) e.2.1 e.1)
theorem putE_nd {R : Room} (h : RNd R) (e : Int × Int × Int) : RNd (putE R e) := setR_nd (setR_nd h _ _ _) _ _ _
theorem putE_cut {R : Room} (h : RNd R) (e : Int × Int × Int) (S : Int → Bool) : cutR (putE R e) S = cutR R S + (if S e.1 = true ∧ S e.2.1 = false then e.2.2 else 0) := by
  unfold putE
  rw [cut_setR (setR_nd h _ _ _), cut_setR h]
  split <;> split <;> omega
theorem putE_cap (R : Room) (e : Int × Int × Int) (a c : Int) : cap (putE R e) a c = if a = e.1 ∧ c = e.2.1 then cap R a c + e.2.2 else cap R a c := by
  unfold putE
  rw [cap_setR]
  by_cases h : a = e.2.1 ∧ c = e.1
  · rw [if_pos h, ← h.1, ← h.2, cap_setR]
    by_cases h' : a = c ∧ c = a
    · rw [if_pos h', ← h'.1]
      simp
    · rw [if_neg h']
      have : ¬ (a = c ∧ c = a) := h'
      rw [if_neg (fun z => by
        rcases z with ⟨z1, z2⟩
        exact h' ⟨z1, z1.symm⟩)]
  · rw [if_neg h, cap_setR]
    split
    · rename_i z; rw [z.1, z.2]
    · rfl
theorem putE_has (R : Room) (e : Int × Int × Int) (a c : Int) : hasR (putE R e) a c ↔ (a = e.1 ∧ c = e.2.1) ∨ (a = e.2.1 ∧ c = e.1) ∨ hasR R a c := by
  unfold putE
  rw [has_setR, has_setR]
  constructor
  · rintro (h | h | h)
    · exact .inr (.inl h)
    · exact .inl h
    · exact .inr (.inr h)
  · rintro (h | h | h)
    · exact .inr (.inl h)
    · exact .inl h
    · exact .inr (.inr h)

/-- a good room: no key twice, nothing below 0, each way has its way back -/
structure ROk (R : Room) (U : Int → Prop) : Prop where
  nd : RNd R
  pos : ∀ u v, 0 ≤ cap R u v
  back : ∀ u v, hasR R u v → hasR R v u
  keys : ∀ u v, hasR R u v → U u ∧ U v
theorem rok_nil (U : Int → Prop) : ROk [] U := by
  refine ⟨⟨List.nodup_nil, fun u row h => (by cases h)⟩, fun u v => ?_, fun u v ⟨_, h, _⟩ => (by cases h), fun u v ⟨_, h, _⟩ => (by cases h)⟩
  show 0 ≤ (0 : Int)
  omega
theorem rok_put {R : Room} {U : Int → Prop} (h : ROk R U) {e : Int × Int × Int} (he : 0 ≤ e.2.2) (h1 : U e.1) (h2 : U e.2.1) : ROk (putE R e) U := by
  refine ⟨putE_nd h.nd e, fun u v => ?_, fun u v q => ?_, fun u v q => ?_⟩
  · rw [putE_cap]
    have := h.pos u v
    split <;> omega
  · rw [putE_has] at q ⊢
    rcases q with ⟨rfl, rfl⟩ | ⟨rfl, rfl⟩ | q
    · exact .inr (.inl ⟨rfl, rfl⟩)
    · exact .inl ⟨rfl, rfl⟩
    · exact .inr (.inr (h.back u v q))
  · rw [putE_has] at q
    rcases q with ⟨rfl, rfl⟩ | ⟨rfl, rfl⟩ | q
    · exact ⟨h1, h2⟩
    · exact ⟨h2, h1⟩
    · exact h.keys u v q
theorem puts_cut {R : Room} (h : RNd R) (S : Int → Bool) : ∀ (E : List (Int × Int × Int)), RNd (E.foldl putE R) ∧ cutR (E.foldl putE R) S = cutR R S + (E.map fun e => if S e.1 = true ∧ S e.2.1 = false then e.2.2 else 0).sum := by
  intro E
  induction E generalizing R with
  | nil => exact ⟨h, by simp⟩
  | cons e r ih =>
    rw [List.foldl_cons, List.map_cons, List.sum_cons]
    obtain ⟨h1, h2⟩ := ih (putE_nd h e)
    refine ⟨h1, ?_⟩
    rw [h2, putE_cut h]
    omega
theorem puts_ok {R : Room} {U : Int → Prop} (h : ROk R U) : ∀ (E : List (Int × Int × Int)), (∀ e ∈ E, 0 ≤ e.2.2 ∧ U e.1 ∧ U e.2.1) → ROk (E.foldl putE R) U := by
  intro E
  induction E generalizing R with
  | nil => intro _; exact h
  | cons e r ih =>
    intro hE
    rw [List.foldl_cons]
    have q := hE e List.mem_cons_self
    exact ih (rok_put h q.1 q.2.1 q.2.2) fun e he => hE e (List.mem_cons_of_mem _ he)

/-! ## the search, the way, one way more -/
structure Reached (R : Room) (told : List (Int × Int)) : Prop where
  head : told[0]? = some (-1, -1)
  nd : (told.map (·.1)).Nodup
  par : ∀ (j : Nat) (v p : Int), told[j]? = some (v, p) → 0 < j → ∃ i, i < j ∧ (told.map (·.1))[i]? = some p ∧ 0 < cap R p v
  closed : ∀ u v, u ∈ told.map (·.1) → 0 < cap R u v → v ∈ told.map (·.1)

/-- the pairs of a way back from v: (from, to), from the last on -/
inductive WayP (R : Room) (told : List (Int × Int)) : List (Int × Int) → Int → Prop
  | here : WayP R told [] (-2)
  | step (z : List (Int × Int)) (v p : Int) (h : WayP R told z v) (h0 : v ≠ -1) (hv : look told v = some p) (hc : 0 < cap R p v) : WayP R told (z ++ [(p, v)]) p

/-- more along a way -/
def pushP (more : Int) (R : Room) (q : Int × Int) : Room := setR (setR R q.1 q.2 (cap R q.1 q.2 - more)) q.2 q.1 (cap (setR R q.1 q.2 (cap R q.1 q.2 - more)) q.2 q.1 + more)
theorem pushP_nd {R : Room} (h : RNd R) (more : Int) (q : Int × Int) : RNd (pushP more R q) := setR_nd (setR_nd h _ _ _) _ _ _
theorem pushP_cut {R : Room} (h : RNd R) (more : Int) (q : Int × Int) (S : Int → Bool) : cutR (pushP more R q) S = cutR R S - more * (b01 (S q.1) - b01 (S q.2)) := by
  unfold pushP
  rw [cut_setR (setR_nd h _ _ _), cut_setR h]
  unfold b01
  cases S q.1 <;> cases S q.2 <;> simp <;> omega
theorem pushP_cap (R : Room) (more : Int) (q : Int × Int) (a c : Int) (hm : 0 ≤ more) : cap (pushP more R q) a c = cap R a c ∨ cap (pushP more R q) a c = cap R a c + more ∨ (a = q.1 ∧ c = q.2 ∧ cap (pushP more R q) a c = cap R a c - more) := by
  unfold pushP
  rw [cap_setR]
  by_cases h : a = q.2 ∧ c = q.1
  · rw [if_pos h, cap_setR]
    by_cases h' : q.2 = q.1 ∧ q.1 = q.2
    · rw [if_pos h', ← h.1, ← h.2]
      left
      have : c = a := by rw [h.1, h.2]; exact h'.2
      rw [this]; omega
    · rw [if_neg h', ← h.1, ← h.2]
      exact .inr (.inl rfl)
  · rw [if_neg h, cap_setR]
    split
    · rename_i z
      right; right
      refine ⟨z.1, z.2, ?_⟩
      rw [z.1, z.2]
    · exact .inl rfl
theorem pushP_has {R : Room} {more : Int} {q : Int × Int} (h1 : hasR R q.1 q.2) (h2 : hasR R q.2 q.1) (a c : Int) : hasR (pushP more R q) a c ↔ hasR R a c := by
  unfold pushP
  rw [has_setR, has_setR]
  constructor
  · rintro (h | h | h)
    · rw [h.1, h.2]; exact h2
    · rw [h.1, h.2]; exact h1
    · exact h
  · intro h; exact .inr (.inr h)
theorem push_ok {U : Int → Prop} {more : Int} (hm : 0 ≤ more) : ∀ (z : List (Int × Int)) (R : Room), ROk R U → (z.map (·.2)).Nodup → (∀ q ∈ z, hasR R q.1 q.2 ∧ more ≤ cap R q.1 q.2) → ROk (z.foldl (pushP more) R) U
  | [], R, h, _, _ => h
  | q :: r, R, h, nd, hz => by
    rw [List.foldl_cons]
    rw [List.map_cons, List.nodup_cons] at nd
    obtain ⟨hq, hc⟩ := hz q List.mem_cons_self
    have hb := h.back _ _ hq
    refine push_ok hm r _ ⟨pushP_nd h.nd more q, fun u v => ?_, fun u v k => ?_, fun u v k => ?_⟩ nd.2 fun p hp => ⟨?_, ?_⟩
    · have := h.pos u v
      rcases pushP_cap R more q u v hm with e | e | ⟨e1, e2, e⟩
      · omega
      · omega
      · rw [e, e1, e2]; omega
    · rw [pushP_has hq hb] at k ⊢
      exact h.back u v k
    · rw [pushP_has hq hb] at k
      exact h.keys u v k
    · rw [pushP_has hq hb]
      exact (hz p (List.mem_cons_of_mem _ hp)).1
    · have := (hz p (List.mem_cons_of_mem _ hp)).2
      rcases pushP_cap R more q p.1 p.2 hm with e | e | ⟨e1, e2, e⟩
      · omega
      · omega
      · exact absurd (List.mem_map.mpr ⟨p, hp, e2⟩) nd.1
theorem push_cut {more : Int} {S : Int → Bool} : ∀ (z : List (Int × Int)) (R : Room), RNd R → RNd (z.foldl (pushP more) R) ∧ cutR (z.foldl (pushP more) R) S = cutR R S - more * (z.map fun q => b01 (S q.1) - b01 (S q.2)).sum
  | [], R, h => ⟨h, by simp⟩
  | q :: r, R, h => by
    rw [List.foldl_cons, List.map_cons, List.sum_cons]
    obtain ⟨h1, h2⟩ := push_cut (more := more) (S := S) r _ (pushP_nd h more q)
    refine ⟨h1, ?_⟩
    rw [h2, pushP_cut h, Int.mul_add]
    omega
theorem way_tel {R : Room} {told z : List (Int × Int)} {v : Int} (S : Int → Bool) (h : WayP R told z v) : (z.map fun q => b01 (S q.1) - b01 (S q.2)).sum = b01 (S v) - b01 (S (-2)) := by
  induction h with
  | here => simp
  | step z v p h h0 hv hc ih =>
    rw [List.map_append, List.sum_append, ih]
    simp
    omega
end LF
end
section
set_option linter.all false
set_option autoImplicit false
namespace LF
open TbBase TbLtBook TbLtFlow

def ext (S : Nat → Bool) (z : Int) : Bool := if z = -1 then true else if z < 0 then false else S z.toNat
def edges (b : Book) (fs : List Nat) (x : Nat) : List (Int × Int × Int) :=
  (fs.map fun (f : Nat) => ((-1 : Int), (f : Int), ((b.lot f).made : Int))) ++ ((b.legs.map fun g => ((g.of : Int), (g.to : Int), (g.weight : Int))) ++ [((x : Int), (-2 : Int), (b.left x : Int))])
theorem ext_nat (S : Nat → Bool) (n : Nat) : ext S (n : Int) = S n := by
  unfold ext
  rw [if_neg (by omega), if_neg (by omega)]
  simp
theorem edges_cut (b : Book) (fs : List Nat) (x : Nat) (S : Nat → Bool) :
    ((edges b fs x).map fun e => if ext S e.1 = true ∧ ext S e.2.1 = false then e.2.2 else 0).sum = W b fs x S := by
  unfold edges W
  rw [List.map_append, List.map_append, List.sum_append, List.sum_append, List.map_map, List.map_map]
  have e1 : (fs.map ((fun e : Int × Int × Int => if ext S e.1 = true ∧ ext S e.2.1 = false then e.2.2 else 0) ∘ fun (f : Nat) => ((-1 : Int), (f : Int), ((b.lot f).made : Int)))).sum = (fs.map fun f => if S f = true then (0 : Int) else ((b.lot f).made : Int)).sum := sum_same fun f _ => by
    show (if ext S (-1) = true ∧ ext S (f : Int) = false then ((b.lot f).made : Int) else 0) = _
    have : ext S (-1) = true := rfl
    rw [this, ext_nat]
    cases S f <;> simp
  have e2 : (b.legs.map ((fun e : Int × Int × Int => if ext S e.1 = true ∧ ext S e.2.1 = false then e.2.2 else 0) ∘ fun g => ((g.of : Int), (g.to : Int), (g.weight : Int)))).sum = (b.legs.map fun g => if S g.of = true ∧ S g.to = false then (g.weight : Int) else 0).sum := sum_same fun g _ => by
    show (if ext S (g.of : Int) = true ∧ ext S (g.to : Int) = false then (g.weight : Int) else 0) = _
    rw [ext_nat, ext_nat]
  rw [e1, e2]
  simp only [List.map_cons, List.map_nil, List.sum_cons, List.sum_nil]
  have : ext S (-2) = false := rfl
  rw [this, ext_nat]
  cases S x <;> simp <;> omega

def Uu (n : Nat) (u : Int) : Prop := u = -1 ∨ u = -2 ∨ (0 ≤ u ∧ u < n)
structure FlowInv (b : Book) (fs : List Nat) (x : Nat) (R : Room) (total : Int) : Prop where
  ok : ROk R (Uu b.lots.length)
  cut : ∀ S, cutR R (ext S) = W b fs x S - total

section
variable {b : Book} {fs : List Nat} {x : Nat} {R : Room} {total : Int} {told : List (Int × Int)}
theorem flow_start (N : Net b fs x) : FlowInv b fs x ((edges b fs x).foldl putE []) 0 := by
  refine ⟨puts_ok (rok_nil _) _ fun e he => ?_, fun S => ?_⟩
  · unfold edges at he
    unfold Uu
    rcases List.mem_append.mp he with h | h
    · obtain ⟨f, hf, rfl⟩ := List.mem_map.mp h
      have := N.fsl f hf
      refine ⟨by show (0:Int) ≤ ((b.lot f).made : Int); omega, .inl rfl, .inr (.inr ?_)⟩
      show (0:Int) ≤ (f:Int) ∧ (f:Int) < _
      omega
    · rcases List.mem_append.mp h with h | h
      · obtain ⟨g, hg, rfl⟩ := List.mem_map.mp h
        have := N.legsl g hg
        refine ⟨by show (0:Int) ≤ (g.weight : Int); omega, .inr (.inr ?_), .inr (.inr ?_)⟩
        · show (0:Int) ≤ (g.of:Int) ∧ (g.of:Int) < _
          omega
        · show (0:Int) ≤ (g.to:Int) ∧ (g.to:Int) < _
          omega
      · have e : e = ((x : Int), (-2 : Int), (b.left x : Int)) := by simpa using h
        subst e
        have := N.xl
        refine ⟨by show (0:Int) ≤ (b.left x : Int); omega, .inr (.inr ?_), .inr (.inl rfl)⟩
        show (0:Int) ≤ (x:Int) ∧ (x:Int) < _
        omega
  · rw [(puts_cut (rok_nil (Uu b.lots.length)).nd (ext S) _).2, edges_cut]
    have : cutR [] (ext S) = 0 := rfl
    omega

theorem cap_of_mem (h : RNd R) {u v r : Int} {row : RowA} (h1 : (u, row) ∈ R) (h2 : (v, r) ∈ row) : cap R u v = r := by
  have e1 := look_of_mem h.nd h1
  have e2 := look_of_mem (h.rows u row e1) h2
  unfold cap
  rw [e1]
  show (look row v).getD 0 = r
  rw [e2]; rfl
theorem cutRow_nonneg (h : ROk R (Uu b.lots.length)) (S : Int → Bool) {u : Int} {row : RowA} (hm : (u, row) ∈ R) : 0 ≤ cutRow S row := sum_nonneg fun q hq => by
  have := h.pos u q.1
  rw [cap_of_mem h.nd hm (show (q.1, q.2) ∈ row from hq)] at this
  split <;> omega
theorem cutR_nonneg (h : ROk R (Uu b.lots.length)) (S : Int → Bool) : 0 ≤ cutR R S := sum_nonneg fun p hp => by
  split
  · exact cutRow_nonneg h S (show (p.1, p.2) ∈ R from hp)
  · omega
/-- where nothing goes out no single way does -/
theorem cutR_zero (h : ROk R (Uu b.lots.length)) {S : Int → Bool} (z : cutR R S = 0) {u v : Int} (hu : S u = true) (hc : 0 < cap R u v) : S v = true := by
  obtain ⟨row, h1, h2⟩ := cap_has (R := R) (u := u) (v := v) (by omega)
  have hm := look_mem h1
  have z1 := sum_all_zero (φ := fun p : Int × RowA => if S p.1 = true then cutRow S p.2 else 0) (l := R) (fun p hp => by
    show 0 ≤ (if S p.1 = true then cutRow S p.2 else 0)
    split
    · exact cutRow_nonneg h S (show (p.1, p.2) ∈ R from hp)
    · omega) z (u, row) hm
  have z1 : (if S u = true then cutRow S row else 0) = 0 := z1
  rw [if_pos hu] at z1
  obtain ⟨r, hr⟩ := Option.isSome_iff_exists.mp h2
  have hm2 := look_mem hr
  have z2 := sum_all_zero (φ := fun q : Int × Int => if S q.1 = true then 0 else q.2) (l := row) (fun q hq => by
    show 0 ≤ (if S q.1 = true then 0 else q.2)
    have := h.pos u q.1
    rw [cap_of_mem h.nd hm (show (q.1, q.2) ∈ row from hq)] at this
    split <;> omega) z1 (v, r) hm2
  have z2 : (if S v = true then 0 else r) = 0 := z2
  rw [cap_of_mem h.nd hm hm2] at hc
  by_cases c : S v = true
  · exact c
  · rw [if_neg c] at z2; omega

theorem reached_U (h : ROk R (Uu b.lots.length)) (T : Reached R told) : ∀ u ∈ told.map (·.1), Uu b.lots.length u := by
  intro u hu
  obtain ⟨j, hj⟩ := List.mem_iff_getElem?.mp hu
  rw [List.getElem?_map] at hj
  cases e : told[j]? with
  | none => rw [e] at hj; cases hj
  | some q =>
    rw [e] at hj
    obtain ⟨v, p⟩ := q
    have hv : v = u := Option.some.inj hj
    subst hv
    by_cases z : j = 0
    · subst z
      rw [T.head] at e
      cases e
      exact .inl rfl
    · obtain ⟨i, _, _, hc⟩ := T.par j v p e (by omega)
      exact (h.keys p v (cap_has (by omega))).2
theorem flow_end (F : FlowInv b fs x R total) (T : Reached R told) (hs : ¬ (-2) ∈ told.map (·.1)) : Least b fs x total (fun n => decide ((n : Int) ∈ told.map (·.1))) := by
  have hsrc : (-1) ∈ told.map (·.1) := by
    have := T.head
    exact List.mem_map.mpr ⟨(-1, -1), List.mem_of_getElem? this, rfl⟩
  have iff : ∀ u, Uu b.lots.length u → (ext (fun n => decide ((n : Int) ∈ told.map (·.1))) u = true ↔ u ∈ told.map (·.1)) := by
    intro u hu
    rcases hu with rfl | rfl | ⟨h1, h2⟩
    · exact ⟨fun _ => hsrc, fun _ => rfl⟩
    · exact ⟨fun z => (by cases z), fun z => absurd z hs⟩
    · have : u = ((u.toNat : Nat) : Int) := by omega
      rw [this, ext_nat]
      simp
  refine ⟨fun S => ?_, ?_, fun S hS => ?_⟩
  · have := F.cut S
    have := cutR_nonneg F.ok (ext S)
    omega
  · have e := F.cut (fun n => decide ((n : Int) ∈ told.map (·.1)))
    have z : cutR R (ext (fun n => decide ((n : Int) ∈ told.map (·.1)))) = 0 := sum_zero fun p hp => by
      split
      · rename_i hu
        refine sum_zero fun q hq => ?_
        have hc := cap_of_mem F.ok.nd (show (p.1, p.2) ∈ R from hp) (show (q.1, q.2) ∈ p.2 from hq)
        have hpos := F.ok.pos p.1 q.1
        have hk : hasR R p.1 q.1 := ⟨p.2, look_of_mem F.ok.nd.nd hp, look_key.mpr (List.mem_map.mpr ⟨q, hq, rfl⟩)⟩
        have hU := F.ok.keys _ _ hk
        split
        · rfl
        · rename_i hv
          have m1 := (iff p.1 hU.1).mp hu
          by_cases c : 0 < cap R p.1 q.1
          · exact absurd ((iff q.1 hU.2).mpr (T.closed _ _ m1 c)) hv
          · omega
      · rfl
    omega
  · have z : cutR R (ext S) = 0 := by have := F.cut S; omega
    have go : ∀ (j : Nat) (v p : Int), told[j]? = some (v, p) → ext S v = true := by
      intro j
      induction j using Nat.strongRecOn with
      | ind j ih =>
        intro v p e
        by_cases hj : j = 0
        · subst hj
          rw [T.head] at e
          cases e
          rfl
        · obtain ⟨i, hi, hp, hc⟩ := T.par j v p e (by omega)
          rw [List.getElem?_map] at hp
          cases e' : told[i]? with
          | none => rw [e'] at hp; cases hp
          | some q =>
            rw [e'] at hp
            obtain ⟨p', pp⟩ := q
            have : p' = p := Option.some.inj hp
            subst this
            exact cutR_zero F.ok z (ih i hi p' pp e') hc
    intro n hn
    have hn : (n : Int) ∈ told.map (·.1) := of_decide_eq_true hn
    obtain ⟨q, hq, e⟩ := List.mem_map.mp hn
    obtain ⟨j, hj⟩ := List.mem_iff_getElem?.mp hq
    have := go j q.1 q.2 hj
    rw [e, ext_nat] at this
    exact this

theorem nd_idx {l : List Int} (h : l.Nodup) {i : Nat} {a : Int} (e : l[i]? = some a) : l.idxOf a = i := by
  obtain ⟨h1, h2⟩ := List.getElem?_eq_some_iff.mp e
  have hm : a ∈ l := List.mem_of_getElem? e
  have h3 : l.idxOf a < l.length := List.idxOf_lt_length_of_mem hm
  have h4 : l[l.idxOf a] = a := List.getElem_idxOf h3
  exact (List.getElem_inj h).mp (h4.trans h2.symm)
/-- a step back -/
theorem way_go (T : Reached R told) {v : Int} (hv : v ∈ told.map (·.1)) (h0 : v ≠ -1) : ∃ p, look told v = some p ∧ 0 < cap R p v ∧ p ∈ told.map (·.1) ∧ (told.map (·.1)).idxOf p < (told.map (·.1)).idxOf v := by
  obtain ⟨q, hq, e⟩ := List.mem_map.mp hv
  obtain ⟨v', p⟩ := q
  have e : v' = v := e
  subst e
  obtain ⟨j, hj⟩ := List.mem_iff_getElem?.mp hq
  have j0 : 0 < j := by
    refine Classical.byContradiction fun z => ?_
    have : j = 0 := by omega
    subst this
    rw [T.head] at hj
    cases hj
    exact h0 rfl
  obtain ⟨i, hi, hp, hc⟩ := T.par j v' p hj j0
  have hjk : (told.map (·.1))[j]? = some v' := by rw [List.getElem?_map, hj]; rfl
  refine ⟨p, look_of_mem T.nd hq, hc, List.mem_of_getElem? hp, ?_⟩
  rw [nd_idx T.nd hp, nd_idx T.nd hjk]
  exact hi
theorem way_nd (T : Reached R told) {z : List (Int × Int)} {v : Int} (hs : (-2) ∈ told.map (·.1)) (h : WayP R told z v) :
    v ∈ told.map (·.1) ∧ (z.map (·.2)).Nodup ∧ (∀ q ∈ z, (told.map (·.1)).idxOf v < (told.map (·.1)).idxOf q.2) ∧ ∀ q ∈ z, 0 < cap R q.1 q.2 := by
  induction h with
  | here => exact ⟨hs, by simp, by simp, by simp⟩
  | step z v p h h0 hv hc ih =>
    obtain ⟨i1, i2, i3, i4⟩ := ih
    obtain ⟨p', e, _, hp, hlt⟩ := way_go T i1 h0
    rw [hv] at e
    have : p = p' := Option.some.inj e
    subst this
    refine ⟨hp, ?_, fun q hq => ?_, fun q hq => ?_⟩
    · rw [List.map_append]
      refine nodup_snoc i2 fun m => ?_
      obtain ⟨q, hq, e⟩ := List.mem_map.mp m
      have := i3 q hq
      have e : q.2 = v := e
      rw [e] at this
      omega
    · rcases List.mem_append.mp hq with m | m
      · have := i3 q m; omega
      · have : q = (p, v) := by simpa using m
        subst this; exact hlt
    · rcases List.mem_append.mp hq with m | m
      · exact i4 q m
      · have : q = (p, v) := by simpa using m
        subst this; exact hc
/-- one way more -/
theorem flow_step (F : FlowInv b fs x R total) (T : Reached R told) (hs : (-2) ∈ told.map (·.1)) {z : List (Int × Int)} (h : WayP R told z (-1)) {more : Int} (hm : 0 < more) (hle : ∀ q ∈ z, more ≤ cap R q.1 q.2) :
    FlowInv b fs x (z.foldl (pushP more) R) (total + more) := by
  obtain ⟨_, nd, _, pos⟩ := way_nd T hs h
  refine ⟨push_ok (by omega) z R F.ok nd fun q hq => ⟨cap_has (by have := pos q hq; omega), hle q hq⟩, fun S => ?_⟩
  have e1 := (push_cut (more := more) (S := ext S) z R F.ok.nd).2
  have e2 := way_tel (ext S) h
  rw [e1, e2, F.cut]
  have a1 : b01 (ext S (-1)) = 1 := rfl
  have a2 : b01 (ext S (-2)) = 0 := rfl
  rw [a1, a2]
  omega
/-- what bounds the whole -/
theorem flow_bound (F : FlowInv b fs x R total) : total ≤ W b fs x fun _ => true := by
  have := F.cut fun _ => true
  have := cutR_nonneg F.ok (ext fun _ => true)
  omega
end
end LF
end
section
set_option linter.all false
set_option autoImplicit false
namespace LF
open TbBase TbLtBook

/-! ## the mirror: lots, legs; what the program's book does -/
/-- a lot as the program has it -/
structure ML where
  born : Nat
  made : Nat
  gen : Nat
  cls : Nat
  day : Nat
  mothers : List Nat
  planted : Nat
  lost : Nat
  gone : Nat
  deriving DecidableEq, Repr
def ML.left (l : ML) : Int := (l.made : Int) - l.planted - l.lost - l.gone
def ML.founder (l : ML) : Bool := decide (l.born = 0 ∨ l.born = 1)
structure MB where
  lots : List ML
  legs : List Leg
  deriving DecidableEq, Repr
def MB.empty : MB := ⟨[], []⟩
def noML : ML := ⟨0, 0, 0, 0, 0, [], 0, 0, 0⟩
def MB.lot (b : MB) (n : Nat) : ML := b.lots.getD n noML
def ML.plant (w : Nat) (l : ML) : ML := { l with planted := l.planted + w }
def ML.lose (w : Nat) (l : ML) : ML := { l with lost := l.lost + w }
def ML.go (w : Nat) (l : ML) : ML := { l with gone := l.gone + w }
/-- so much of a lot goes into the lot made last -/
def MB.putLeg (b : MB) (k w : Nat) : MB := ⟨b.lots.modify k (ML.go w), b.legs ++ [⟨k, b.lots.length - 1, w⟩]⟩
def MB.add (b : MB) (l : ML) : MB := ⟨b.lots ++ [l], b.legs⟩
def MB.plant (b : MB) (p : Nat × Nat) : MB := ⟨b.lots.modify p.1 (ML.plant p.2), b.legs⟩
def MB.genMax (b : MB) (rows : List (Nat × Nat)) : Nat := greatest (rows.map fun x => (b.lot x.1).gen)
def MB.clsMax (b : MB) (rows : List (Nat × Nat)) : Nat := greatest (rows.map fun x => (b.lot x.1).cls)
def MB.splitOne (k d : Nat) (b : MB) (w : Nat) : MB := (b.add ⟨3, w, (b.lot k).gen, (b.lot k).cls, d, [], 0, 0, 0⟩).putLeg k w
/-- Book.make -/
def MB.make (b : MB) : Entry → MB
  | .found w c d => b.add ⟨0, w, 0, c, d, [], 0, 0, 0⟩
  | .lift w c d ms => (ms.foldl MB.plant b).add ⟨1, w, b.genMax ms + 1, c, d, ms.map (·.1), 0, 0, 0⟩
  | .merge d ps => ps.foldl (fun b p => b.putLeg p.1 p.2) (b.add ⟨2, (ps.map (·.2)).sum, b.genMax ps, b.clsMax ps, d, [], 0, 0, 0⟩)
  | .split k d ws => ws.foldl (MB.splitOne k d) b
  | .lose k w _ => ⟨b.lots.modify k (ML.lose w), b.legs⟩
def mbookOf (es : List Entry) : MB := es.foldl MB.make MB.empty
/-- the lots that an entry names -/
def Entry.rows : Entry → List (Nat × Nat)
  | .found _ _ _ => []
  | .lift _ _ _ ms => ms
  | .merge _ ps => ps
  | .split k _ ws => ws.map fun w => (k, w)
  | .lose k w _ => [(k, w)]
def Entry.word : Entry → String
  | .found _ _ _ => "found"
  | .lift _ _ _ _ => "lift"
  | .merge _ _ => "merge"
  | .split _ _ _ => "split"
  | .lose _ _ _ => "lose"
def Entry.weight : Entry → Nat
  | .found w _ _ => w
  | .lift w _ _ _ => w
  | _ => 0
def Entry.cls : Entry → Nat
  | .found _ c _ => c
  | .lift _ c _ _ => c
  | _ => 0
/-- what an entry names is there; rows that must not be empty aren't -/
def MB.names (b : MB) (e : Entry) : Prop := (∀ p ∈ Entry.rows e, p.1 < b.lots.length) ∧ (match e with
  | .lift _ _ _ ms => ms ≠ []
  | .merge _ ps => ps ≠ []
  | _ => True)
end LF
end
section
set_option linter.all false
set_option autoImplicit false
namespace LF
open TbBase TbLtBook

/-! ## the mirror: what is read of a book -/
def MB.founders (B : MB) : List Nat := (List.range B.lots.length).filter fun n => (B.lot n).founder
def MB.steps (B : MB) : List (Nat × Nat) := (B.legs.map fun g => (g.of, g.to)) ++ (List.range B.lots.length).flatMap fun n => (B.lot n).mothers.map fun m => (m, n)
abbrev Tab := List (Int × Int)
/-- one row of a turn of the search: u's row leads to what is not told -/
def bfsOne (u : Int) (t : Tab) (r : Nat × Nat) : Tab := if (r.1 : Int) = u ∧ (look t (r.2 : Int)).isSome = false then t ++ [((r.2 : Int), (look t (r.1 : Int)).getD 0 + 1)] else t
def bfsTurn (rows : List (Nat × Nat)) (t : Tab) (place : Nat) : Tab := rows.foldl (bfsOne (t.getD place (0, 0)).1) t
def bfs (rows : List (Nat × Nat)) : Nat → Nat → Tab → Tab
  | 0, _, t => t
  | f + 1, place, t => if place < t.length then bfs rows f (place + 1) (bfsTurn rows t place) else t
def MB.remOne (B : MB) (n : Nat) (t : Int) (y : Leg × Nat) : Int := (t + if y.1.to = n ∧ (B.lot n).founder = false then (y.2 : Int) else 0) - if y.1.of = n then (y.2 : Int) else 0
def MB.remainder (B : MB) (n : Nat) (fs laid : List Nat) : Int := (B.legs.zip laid).foldl (B.remOne n) (if fs.contains n = true then ((B.lot n).made : Int) else 0)
def MB.weightOf (B : MB) (n : Nat) (fs s : List Nat) : Int :=
  (((((fs.filter fun f => !s.contains f).map fun f => (B.lot f).made).sum : Nat) : Int) + (((((B.legs.filter fun g => s.contains g.of && !s.contains g.to).map fun g => g.weight).sum : Nat)) : Int)) + if s.contains n = true then (B.lot n).left else 0
theorem filter_getD {α β : Type} (l : List α) (d : α) (F : α → Bool) (g : α → β) : ((List.range l.length).filter (fun k => F (l.getD k d))).map (fun k => g (l.getD k d)) = (l.filter F).map g := by
  have e : (List.range l.length).map (fun k => l.getD k d) = l := by
    refine List.ext_getElem? fun j => ?_
    rw [List.getElem?_map]
    by_cases h : j < l.length
    · rw [List.getElem?_range h, List.getElem?_eq_getElem h]
      simp [List.getD_eq_getElem?_getD, List.getElem?_eq_getElem h]
    · rw [List.getElem?_eq_none (by simpa using h), List.getElem?_eq_none (by omega)]
      rfl
  conv => rhs; rw [← e, List.filter_map, List.map_map]
  rfl
end LF
namespace LF
open TbBase TbLtBook
theorem nodup_int {n : Nat} {l : List Int} (nd : l.Nodup) (h : ∀ a ∈ l, 0 ≤ a ∧ a < n) : l.length ≤ n := by
  have h1 : (l.map Int.toNat).Nodup := by
    rw [List.nodup_iff_pairwise_ne, List.pairwise_map]
    rw [List.nodup_iff_pairwise_ne] at nd
    refine List.Pairwise.imp_of_mem (fun {a b} ha hb hne z => hne ?_) nd
    have := h a ha
    have := h b hb
    omega
  have h2 := nodup_lt (n := n) h1 fun a ha => by
    obtain ⟨x, hx, e⟩ := List.mem_map.mp ha
    have := h x hx
    omega
  rwa [List.length_map] at h2
/-- the table of a search: keys once each, all lots -/
structure TabOk (n : Nat) (t : Tab) : Prop where
  nd : (t.map (·.1)).Nodup
  rng : ∀ k : Int, k ∈ t.map (·.1) → 0 ≤ k ∧ k < n
theorem TabOk.len {n : Nat} {t : Tab} (h : TabOk n t) : t.length ≤ n := by
  have := nodup_int h.nd h.rng
  rwa [List.length_map] at this
theorem bfsOne_ok {n : Nat} {t : Tab} (h : TabOk n t) (u : Int) {r : Nat × Nat} (hr : r.2 < n) : TabOk n (bfsOne u t r) := by
  unfold bfsOne
  split
  · rename_i hc
    have hn : ¬ (r.2 : Int) ∈ t.map (·.1) := by
      have : look t (r.2 : Int) = none := by cases e : look t (r.2 : Int) with
        | none => rfl
        | some x => rw [e] at hc; cases hc.2
      exact look_none.mp this
    refine ⟨?_, fun k hk => ?_⟩
    · rw [List.map_append, List.nodup_append]
      refine ⟨h.nd, by simp, fun a ha b hb z => ?_⟩
      have hb : b = (r.2 : Int) := by simpa using hb
      exact hn (by rw [← hb, ← z]; exact ha)
    · rw [List.map_append, List.mem_append] at hk
      rcases hk with hk | hk
      · exact h.rng k hk
      · have hk : k = (r.2 : Int) := by simpa using hk
        subst hk
        omega
  · exact h
theorem bfsOne_pre (u : Int) (t : Tab) (r : Nat × Nat) : t <+: bfsOne u t r := by
  unfold bfsOne
  split
  · exact List.prefix_append _ _
  · exact List.prefix_refl _
theorem bfsRow_ok {n : Nat} {u : Int} : ∀ (rows : List (Nat × Nat)) {t : Tab}, TabOk n t → (∀ r ∈ rows, r.2 < n) → TabOk n (rows.foldl (bfsOne u) t)
  | [], _, h, _ => h
  | r :: rs, t, h, hr => bfsRow_ok rs (bfsOne_ok h u (hr r List.mem_cons_self)) fun x hx => hr x (List.mem_cons_of_mem _ hx)
theorem bfsRow_pre (u : Int) : ∀ (rows : List (Nat × Nat)) (t : Tab), t <+: rows.foldl (bfsOne u) t
  | [], t => List.prefix_refl _
  | r :: rs, t => List.IsPrefix.trans (bfsOne_pre u t r) (bfsRow_pre u rs (bfsOne u t r))
theorem MB.steps_le {B : MB} {a b c : Nat} (h1 : B.lots.length ≤ a) (h2 : B.legs.length ≤ b) (h3 : ∀ n, (B.lot n).mothers.length ≤ c) (i : Nat) :
    ((B.legs.map fun g => (g.of, g.to)) ++ (List.range i).flatMap fun n => (B.lot n).mothers.map fun m => (m, n)).length ≤ b + i * c := by
  rw [List.length_append, List.length_map]
  have : ((List.range i).flatMap fun n => (B.lot n).mothers.map fun m => (m, n)).length ≤ i * c := by
    induction i with
    | zero => simp
    | succ i ih =>
      rw [List.range_succ, List.flatMap_append, List.length_append, Nat.succ_mul]
      have := h3 i
      simp only [List.flatMap_cons, List.flatMap_nil, List.append_nil, List.length_map]
      omega
  omega
/-- the bounds of a book, and that its steps lead to lots of it -/
structure MB.Fine (B : MB) : Prop where
  lots : B.lots.length ≤ 60
  legs : B.legs.length ≤ 160
  mothers : ∀ n, (B.lot n).mothers.length ≤ 60
  leg : ∀ g ∈ B.legs, g.of < B.lots.length ∧ g.to < B.lots.length
  mother : ∀ n, ∀ m ∈ (B.lot n).mothers, m < B.lots.length
theorem MB.Fine.step {B : MB} (F : B.Fine) : ∀ r ∈ B.steps, r.1 < B.lots.length ∧ r.2 < B.lots.length := by
  intro r hr
  unfold MB.steps at hr
  rcases List.mem_append.mp hr with h | h
  · obtain ⟨g, hg, rfl⟩ := List.mem_map.mp h
    exact F.leg g hg
  · obtain ⟨n, hn, h⟩ := List.mem_flatMap.mp h
    obtain ⟨m, hm, rfl⟩ := List.mem_map.mp h
    exact ⟨F.mother n m hm, List.mem_range.mp hn⟩
theorem MB.Fine.slen {B : MB} (F : B.Fine) : B.steps.length ≤ 5000 := by
  have := MB.steps_le F.lots F.legs F.mothers B.lots.length
  have h := F.lots
  have : B.steps.length ≤ 160 + B.lots.length * 60 := this
  omega
end LF
end
section
set_option linter.all false
set_option autoImplicit false
set_option exponentiation.threshold 10000
namespace LF
open TbBase TbLtBook

/-! ## shares: fractions, tables of them -/
abbrev Fr := Nat × Nat
abbrev FTab := List (Int × Fr)
def ratioN (a b : Nat) : Fr := (a / Nat.gcd a b, b / Nat.gcd a b)
def plusN (p q : Fr) : Fr := ratioN (p.1 * q.2 + q.1 * p.2) (p.2 * q.2)
def moreN (w made : Nat) (p : Fr) : Fr := ratioN (p.1 * w) (p.2 * made)
def mixOne (w made : Nat) (kn t : FTab) (k : Int) : FTab := putA t k (plusN ((look t k).getD (0, 1)) (moreN w made ((look kn k).getD (0, 1))))
def mixLeg (made n : Nat) (known : List FTab) (t : FTab) (g : Leg) : FTab := if g.to = n then ((known.getD g.of []).map (·.1)).foldl (mixOne g.weight made (known.getD g.of [])) t else t
def MB.mixed (B : MB) (n : Nat) (known : List FTab) : FTab := B.legs.foldl (mixLeg (B.lot n).made n known) []
def MB.shareTabs (B : MB) : Nat → List FTab
  | 0 => []
  | n + 1 => B.shareTabs n ++ [if (B.lot n).founder = true then [((n : Int), (1, 1))] else B.mixed n (B.shareTabs n)]
structure FrOk (D M : Nat) (p : Fr) : Prop where
  pos : 0 < p.2
  dv : p.2 ∣ D
  le : p.1 ≤ M * p.2
theorem FrOk.mono {D M D' M' : Nat} {p : Fr} (h : FrOk D M p) (h1 : D ∣ D') (h2 : M ≤ M') : FrOk D' M' p := ⟨h.pos, Nat.dvd_trans h.dv h1, Nat.le_trans h.le (Nat.mul_le_mul_right _ h2)⟩
theorem frOk0 (D M : Nat) : FrOk D M (0, 1) := ⟨Nat.one_pos, Nat.one_dvd _, Nat.zero_le _⟩
theorem ratioN_ok {a b D M : Nat} (hb : 0 < b) (hd : b ∣ a * D) (hm : a ≤ M * b) : FrOk D M (ratioN a b) := by
  have hg : 0 < Nat.gcd a b := Nat.gcd_pos_of_pos_right a hb
  obtain ⟨x, hx⟩ := Nat.gcd_dvd_left a b
  obtain ⟨y, hy⟩ := Nat.gcd_dvd_right a b
  have hco : Nat.Coprime (a / Nat.gcd a b) (b / Nat.gcd a b) := Nat.coprime_div_gcd_div_gcd hg
  have ea : a / Nat.gcd a b = x := Nat.div_eq_of_eq_mul_right hg hx
  have eb : b / Nat.gcd a b = y := Nat.div_eq_of_eq_mul_right hg hy
  unfold ratioN
  rw [ea, eb] at hco ⊢
  refine ⟨?_, ?_, ?_⟩
  · show 0 < y
    rcases Nat.eq_zero_or_pos y with z | z
    · rw [z, Nat.mul_zero] at hy; omega
    · exact z
  · show y ∣ D
    obtain ⟨c, hc⟩ := hd
    refine hco.symm.dvd_of_dvd_mul_left (k := y) (n := D) ⟨c, ?_⟩
    apply Nat.eq_of_mul_eq_mul_left hg
    calc Nat.gcd a b * (x * D) = (Nat.gcd a b * x) * D := by rw [Nat.mul_assoc]
      _ = a * D := by rw [← hx]
      _ = b * c := hc
      _ = (Nat.gcd a b * y) * c := by rw [← hy]
      _ = Nat.gcd a b * (y * c) := by rw [Nat.mul_assoc]
  · show x ≤ M * y
    apply Nat.le_of_mul_le_mul_left _ hg
    calc Nat.gcd a b * x = a := hx.symm
      _ ≤ M * b := hm
      _ = M * (Nat.gcd a b * y) := by rw [← hy]
      _ = Nat.gcd a b * (M * y) := by rw [Nat.mul_left_comm]
theorem plusN_ok {D M1 M2 : Nat} {p q : Fr} (hp : FrOk D M1 p) (hq : FrOk D M2 q) : FrOk D (M1 + M2) (plusN p q) := by
  unfold plusN
  refine ratioN_ok (Nat.mul_pos hp.pos hq.pos) ?_ ?_
  · obtain ⟨x, hx⟩ := hp.dv
    obtain ⟨y, hy⟩ := hq.dv
    refine ⟨p.1 * x + q.1 * y, ?_⟩
    rw [Nat.add_mul, Nat.mul_add]
    congr 1
    · calc p.1 * q.2 * D = p.1 * q.2 * (p.2 * x) := by rw [← hx]
        _ = p.2 * q.2 * (p.1 * x) := by ac_rfl
    · calc q.1 * p.2 * D = q.1 * p.2 * (q.2 * y) := by rw [← hy]
        _ = p.2 * q.2 * (q.1 * y) := by ac_rfl
  · rw [Nat.add_mul]
    apply Nat.add_le_add
    · calc p.1 * q.2 ≤ M1 * p.2 * q.2 := Nat.mul_le_mul_right _ hp.le
        _ = M1 * (p.2 * q.2) := Nat.mul_assoc _ _ _
    · calc q.1 * p.2 ≤ M2 * q.2 * p.2 := Nat.mul_le_mul_right _ hq.le
        _ = M2 * (p.2 * q.2) := by ac_rfl
theorem moreN_ok {D M w made : Nat} {p : Fr} (hp : FrOk D M p) (hm : 0 < made) : FrOk (D * made) (M * w) (moreN w made p) := by
  unfold moreN
  refine ratioN_ok (Nat.mul_pos hp.pos hm) ?_ ?_
  · exact Nat.dvd_trans (Nat.mul_dvd_mul_right hp.dv made) (Nat.dvd_mul_left _ _)
  · calc p.1 * w ≤ M * p.2 * w := Nat.mul_le_mul_right _ hp.le
      _ = M * w * p.2 * 1 := by rw [Nat.mul_one]; ac_rfl
      _ ≤ M * w * p.2 * made := Nat.mul_le_mul_left _ hm
      _ = M * w * (p.2 * made) := Nat.mul_assoc _ _ _
structure TabF (N : Nat) (D M : Nat) (t : FTab) : Prop where
  nd : (t.map (·.1)).Nodup
  rng : ∀ k : Int, k ∈ t.map (·.1) → 0 ≤ k ∧ k < N
  fr : ∀ k p, look t k = some p → FrOk D M p
theorem TabF.mono {N D M D' M' : Nat} {t : FTab} (h : TabF N D M t) (h1 : D ∣ D') (h2 : M ≤ M') : TabF N D' M' t := ⟨h.nd, h.rng, fun k p e => (h.fr k p e).mono h1 h2⟩
theorem TabF.len {N D M : Nat} {t : FTab} (h : TabF N D M t) : t.length ≤ N := by
  have := nodup_int h.nd h.rng
  rwa [List.length_map] at this
theorem tabF_nil (N D M : Nat) : TabF N D M [] := ⟨List.nodup_nil, fun k h => (by cases h), fun k p h => (by cases h)⟩
theorem TabF.getD {N D M : Nat} {t : FTab} (h : TabF N D M t) (k : Int) : FrOk D M ((look t k).getD (0, 1)) := by
  cases e : look t k with
  | none => exact frOk0 D M
  | some p => exact h.fr k p e
theorem mixOne_ok {N D M Dp Mp w made : Nat} {kn t : FTab} {k : Int} (ht : TabF N (Dp * made) M t) (hk : TabF N Dp Mp kn) (hm : 0 < made) (hkk : k ∈ kn.map (·.1)) : TabF N (Dp * made) (M + Mp * w) (mixOne w made kn t k) := by
  unfold mixOne
  refine ⟨putA_nd ht.nd, fun k' h' => ?_, fun k' p e => ?_⟩
  · rw [putA_keys] at h'
    split at h'
    · exact ht.rng k' h'
    · rcases List.mem_append.mp h' with h' | h'
      · exact ht.rng k' h'
      · rw [show k' = k by simpa using h']
        exact hk.rng k hkk
  · rw [look_putA] at e
    split at e
    · rw [← Option.some.inj e]
      exact plusN_ok (ht.getD k) (moreN_ok (hk.getD k) hm)
    · exact (ht.fr k' p e).mono (Nat.dvd_refl _) (Nat.le_add_right _ _)
theorem mixKeys_ok {N D Dp Mp w made : Nat} {kn : FTab} (hk : TabF N Dp Mp kn) (hm : 0 < made) : ∀ (ks : List Int) (M : Nat) (t : FTab), TabF N (Dp * made) M t → (∀ k ∈ ks, k ∈ kn.map (·.1)) → TabF N (Dp * made) (M + ks.length * (Mp * w)) (ks.foldl (mixOne w made kn) t)
  | [], M, t, h, _ => by rw [List.length_nil, Nat.zero_mul]; exact h
  | k :: r, M, t, h, hks => by
    have h1 := mixKeys_ok (D := D) (w := w) hk hm r _ _ (mixOne_ok (D := D) (w := w) h hk hm (hks k List.mem_cons_self)) fun x hx => hks x (List.mem_cons_of_mem _ hx)
    refine h1.mono (Nat.dvd_refl _) ?_
    rw [List.length_cons, Nat.succ_mul r.length]
    omega
/-- what a book is that its shares may be told -/
structure MB.Mix (B : MB) : Prop where
  made : ∀ n, n < B.lots.length → 0 < (B.lot n).made ∧ (B.lot n).made < 2 ^ 28
  leg : ∀ g ∈ B.legs, g.of < g.to ∧ g.to < B.lots.length ∧ g.weight ≤ 1000000
  lots : B.lots.length ≤ 60
  legs : B.legs.length ≤ 160
def MB.Dn (B : MB) : Nat → Nat
  | 0 => 1
  | n + 1 => B.Dn n * (B.lot n).made
def Mn (n : Nat) : Nat := 2 ^ (34 * n)
theorem Dn_dvd (B : MB) {m n : Nat} (h : m ≤ n) : B.Dn m ∣ B.Dn n := by
  induction n with
  | zero => rw [show m = 0 by omega]; exact Nat.dvd_refl _
  | succ n ih =>
    by_cases e : m = n + 1
    · rw [e]; exact Nat.dvd_refl _
    · exact Nat.dvd_trans (ih (by omega)) (Nat.dvd_mul_right _ _)
theorem Mn_le {m n : Nat} (h : m ≤ n) : Mn m ≤ Mn n := Nat.pow_le_pow_right (by decide) (by omega)
theorem Dn_lt {B : MB} (X : B.Mix) : ∀ n, n ≤ B.lots.length → B.Dn n ≤ 2 ^ (28 * n)
  | 0, _ => by show 1 ≤ 2 ^ (28 * 0); decide
  | n + 1, h => by
    have h1 := Dn_lt X n (by omega)
    have h2 := (X.made n (by omega)).2
    calc B.Dn n * (B.lot n).made ≤ 2 ^ (28 * n) * 2 ^ 28 := Nat.mul_le_mul h1 (Nat.le_of_lt h2)
      _ = 2 ^ (28 * (n + 1)) := by rw [← Nat.pow_add, Nat.mul_add]
/-- the tables of the lots before n -/
def KnownOk (B : MB) (n : Nat) (known : List FTab) : Prop := known.length = n ∧ ∀ i t, known[i]? = some t → TabF B.lots.length (B.Dn (i + 1)) (Mn (i + 1)) t
theorem KnownOk.at {B : MB} {n i : Nat} {known : List FTab} (h : KnownOk B n known) (hi : i < n) : TabF B.lots.length (B.Dn n) (Mn n) (known.getD i []) := by
  have hl : i < known.length := by rw [h.1]; exact hi
  have := h.2 i _ (List.getElem?_eq_getElem hl)
  rw [List.getD_eq_getElem?_getD, List.getElem?_eq_getElem hl]
  exact this.mono (Dn_dvd B (by omega)) (Mn_le (by omega))
theorem mixLeg_ok {B : MB} (X : B.Mix) {n : Nat} (hn : n < B.lots.length) {known : List FTab} (hk : KnownOk B n known) {M : Nat} {t : FTab} (ht : TabF B.lots.length (B.Dn (n + 1)) M t) {g : Leg} (hg : g ∈ B.legs) :
    TabF B.lots.length (B.Dn (n + 1)) (M + 60 * (Mn n * 1000000)) (mixLeg (B.lot n).made n known t g) := by
  unfold mixLeg
  split
  · rename_i hto
    have hof : g.of < n := by have := (X.leg g hg).1; omega
    have hT := hk.at hof
    have h1 := mixKeys_ok (D := 0) (w := g.weight) hT (X.made n hn).1 ((known.getD g.of []).map (·.1)) M t ht fun k h => h
    refine h1.mono (Nat.dvd_refl _) (Nat.add_le_add_left ?_ _)
    have hl : ((known.getD g.of []).map (·.1)).length ≤ 60 := by rw [List.length_map]; exact Nat.le_trans hT.len X.lots
    exact Nat.mul_le_mul hl (Nat.mul_le_mul_left _ (X.leg g hg).2.2)
  · exact ht.mono (Nat.dvd_refl _) (Nat.le_add_right _ _)
theorem mixLegs_ok {B : MB} (X : B.Mix) {n : Nat} (hn : n < B.lots.length) {known : List FTab} (hk : KnownOk B n known) : ∀ (gs : List Leg) (M : Nat) (t : FTab), TabF B.lots.length (B.Dn (n + 1)) M t → (∀ g ∈ gs, g ∈ B.legs) →
    TabF B.lots.length (B.Dn (n + 1)) (M + gs.length * (60 * (Mn n * 1000000))) (gs.foldl (mixLeg (B.lot n).made n known) t)
  | [], M, t, h, _ => by rw [List.length_nil, Nat.zero_mul]; exact h
  | g :: r, M, t, h, hgs => by
    have h1 := mixLegs_ok X hn hk r _ _ (mixLeg_ok X hn hk h (hgs g List.mem_cons_self)) fun x hx => hgs x (List.mem_cons_of_mem _ hx)
    refine h1.mono (Nat.dvd_refl _) ?_
    rw [List.length_cons, Nat.succ_mul r.length]
    omega
theorem mix_bound {n j : Nat} (hj : j ≤ 160) : 0 + j * (60 * (Mn n * 1000000)) ≤ Mn (n + 1) := by
  have e : Mn (n + 1) = Mn n * 2 ^ 34 := by unfold Mn; rw [← Nat.pow_add, Nat.mul_add]
  rw [e]
  calc 0 + j * (60 * (Mn n * 1000000)) = Mn n * (j * 60000000) := by rw [Nat.zero_add]; calc
        j * (60 * (Mn n * 1000000)) = Mn n * (j * (60 * 1000000)) := by ac_rfl
        _ = _ := by rfl
    _ ≤ Mn n * 2 ^ 34 := Nat.mul_le_mul_left _ (by have : (2:Nat) ^ 34 = 17179869184 := by decide
                                                   omega)
/-- while a lot is mixed -/
theorem mixed_part {B : MB} (X : B.Mix) {n : Nat} (hn : n < B.lots.length) {known : List FTab} (hk : KnownOk B n known) (i : Nat) : TabF B.lots.length (B.Dn (n + 1)) (Mn (n + 1)) ((B.legs.take i).foldl (mixLeg (B.lot n).made n known) []) :=
  (mixLegs_ok X hn hk (B.legs.take i) 0 [] (tabF_nil _ _ _) fun g hg => List.mem_of_mem_take hg).mono (Nat.dvd_refl _) (mix_bound (Nat.le_trans (List.length_take_le' _ _) X.legs))
theorem mixed_in {B : MB} (X : B.Mix) {n : Nat} (hn : n < B.lots.length) {known : List FTab} (hk : KnownOk B n known) {i : Nat} {g : Leg} (hg : B.legs[i]? = some g) (hto : g.to = n) (j : Nat) :
    TabF B.lots.length (B.Dn (n + 1)) (Mn (n + 1)) ((((known.getD g.of []).map (·.1)).take j).foldl (mixOne g.weight (B.lot n).made (known.getD g.of [])) ((B.legs.take i).foldl (mixLeg (B.lot n).made n known) [])) := by
  have hi : i < B.legs.length := (List.getElem?_eq_some_iff.mp hg).1
  have hgm := List.mem_of_getElem? hg
  have hof : g.of < n := by have := (X.leg g hgm).1; omega
  have hT := hk.at hof
  have h0 := mixLegs_ok X hn hk (B.legs.take i) 0 [] (tabF_nil _ _ _) fun g hg => List.mem_of_mem_take hg
  have h1 := mixKeys_ok (D := 0) (w := g.weight) hT (X.made n hn).1 (((known.getD g.of []).map (·.1)).take j) _ _ h0 fun k h => List.mem_of_mem_take h
  refine h1.mono (Nat.dvd_refl _) (Nat.le_trans ?_ (mix_bound (n := n) (j := i + 1) (by have := X.legs; omega)))
  rw [Nat.succ_mul i, ← Nat.add_assoc]
  apply Nat.add_le_add
  · apply Nat.add_le_add_left
    exact Nat.mul_le_mul_right _ (List.length_take_le _ _)
  · have hl : (((known.getD g.of []).map (·.1)).take j).length ≤ 60 := Nat.le_trans (List.length_take_le' _ _) (by rw [List.length_map]; exact Nat.le_trans hT.len X.lots)
    exact Nat.mul_le_mul hl (Nat.mul_le_mul_left _ (X.leg g hgm).2.2)
theorem shareTabs_ok {B : MB} (X : B.Mix) : ∀ n, n ≤ B.lots.length → KnownOk B n (B.shareTabs n)
  | 0, _ => ⟨rfl, fun i t h => by cases h⟩
  | n + 1, h => by
    have ih := shareTabs_ok X n (by omega)
    refine ⟨?_, fun i t e => ?_⟩
    · show (B.shareTabs n ++ [_]).length = _
      rw [List.length_append, ih.1]; rfl
    · have e : (B.shareTabs n ++ [if (B.lot n).founder = true then [((n : Int), (1, 1))] else B.mixed n (B.shareTabs n)])[i]? = some t := e
      by_cases hi : i < (B.shareTabs n).length
      · rw [List.getElem?_append_left hi] at e
        exact ih.2 i t e
      · rw [List.getElem?_append_right (by omega)] at e
        have hi0 : i - (B.shareTabs n).length = 0 := by
          have := (List.getElem?_eq_some_iff.mp e).1
          simpa using this
        rw [hi0] at e
        have hin : i = n := by have := ih.1; omega
        subst hin
        have e : (if (B.lot i).founder = true then [((i : Int), (1, 1))] else B.mixed i (B.shareTabs i)) = t := Option.some.inj e
        subst e
        split
        · refine ⟨by simp, fun k hk => ?_, fun k p e => ?_⟩
          · have : k = (i : Int) := by simpa using hk
            omega
          · rw [look_cons] at e
            split at e
            · rw [← Option.some.inj e]
              exact ⟨Nat.one_pos, Nat.one_dvd _, Nat.mul_le_mul_right 1 (Nat.one_le_two_pow)⟩
            · cases e
        · have := mixed_part X (by omega : i < B.lots.length) ih B.legs.length
          rw [List.take_length] at this
          exact this
/-- small enough for the machine -/
structure FrS (p : Fr) : Prop where
  pos : 0 < p.2
  den : p.2 < 2 ^ 1800
  num : p.1 < 2 ^ 4000
theorem FrOk.small {B : MB} (X : B.Mix) {n : Nat} (hn : n ≤ B.lots.length) {p : Fr} (h : FrOk (B.Dn n) (Mn n) p) : FrS p := by
  have hl := X.lots
  have hd := Dn_lt X n hn
  have hpos : 0 < B.Dn n := by
    have : ∀ m, m ≤ B.lots.length → 0 < B.Dn m := by
      intro m
      induction m with
      | zero => intro _; exact Nat.one_pos
      | succ m ih => intro hm; exact Nat.mul_pos (ih (by omega)) (X.made m (by omega)).1
    exact this n hn
  have h1 : p.2 ≤ 2 ^ (28 * n) := Nat.le_trans (Nat.le_of_dvd hpos h.dv) hd
  have h2 : (2 : Nat) ^ (28 * n) ≤ 2 ^ 1680 := Nat.pow_le_pow_right (by decide) (by omega)
  have h3 : Mn n ≤ 2 ^ 2040 := Nat.pow_le_pow_right (by decide) (by omega)
  refine ⟨h.pos, Nat.lt_of_le_of_lt (Nat.le_trans h1 h2) (Nat.pow_lt_pow_right (by decide) (by omega)), ?_⟩
  calc p.1 ≤ Mn n * p.2 := h.le
    _ ≤ 2 ^ 2040 * 2 ^ 1680 := Nat.mul_le_mul h3 (Nat.le_trans h1 h2)
    _ = 2 ^ 3720 := by rw [← Nat.pow_add]
    _ < 2 ^ 4000 := Nat.pow_lt_pow_right (by decide) (by omega)
end LF
end
section
set_option linter.all false
set_option autoImplicit false
namespace LF
open TbBase TbLtBook TbLtFlow
theorem putA_putA {β : Type} (l : List (Int × β)) (k : Int) (x v : β) : putA (putA l k x) k v = putA l k v := by
  unfold putA
  by_cases h : (l.any fun p => decide (p.1 = k)) = true
  · rw [if_pos h, if_pos h]
    have h2 : ((l.map fun p => if p.1 = k then (p.1, x) else p).any fun p => decide (p.1 = k)) = true := by
      rw [List.any_map]
      rw [List.any_eq_true] at h ⊢
      obtain ⟨p, hp, e⟩ := h
      refine ⟨p, hp, ?_⟩
      have e := of_decide_eq_true e
      show decide ((if p.1 = k then (p.1, x) else p).1 = k) = true
      rw [if_pos e]; exact decide_eq_true e
    rw [if_pos h2, List.map_map]
    apply List.map_congr_left
    intro p _
    show (if (if p.1 = k then (p.1, x) else p).1 = k then ((if p.1 = k then (p.1, x) else p).1, v) else (if p.1 = k then (p.1, x) else p)) = _
    by_cases e : p.1 = k
    · simp [e]
    · simp [e]
  · rw [if_neg h, if_neg h]
    have h2 : ((l ++ [(k, x)]).any fun p => decide (p.1 = k)) = true := by rw [List.any_append]; simp
    rw [if_pos h2, List.map_append]
    congr 1
    · conv => rhs; rw [← List.map_id l]
      apply List.map_congr_left
      intro p hp
      have : ¬ p.1 = k := fun e => h (List.any_eq_true.mpr ⟨p, hp, decide_eq_true e⟩)
      rw [if_neg this]; rfl
    · simp
/-- a row for u, if need be an empty one -/
def ens (R : Room) (u : Int) : Room := if (look R u).isSome = true then R else putA R u []
theorem ens_look (R : Room) (u : Int) : look (ens R u) u = some ((look R u).getD []) := by
  unfold ens
  cases e : look R u with
  | some r => rw [if_pos (by simp), e]; rfl
  | none => rw [if_neg (by simp), look_putA, if_pos rfl]; rfl
theorem ens_set (R : Room) (u v r : Int) : setR (ens R u) u v r = setR R u v r := by
  unfold setR
  rw [ens_look]
  unfold ens
  cases e : look R u with
  | some r => rw [if_pos (by simp)]; rfl
  | none => rw [if_neg (by simp), putA_putA]; rfl
theorem cap_row (R : Room) (u v : Int) : cap R u v = (look ((look R u).getD []) v).getD 0 := by
  unfold cap
  cases look R u <;> rfl
/-- how great a room and its rows are at most -/
def RS (n : Nat) (R : Room) : Prop := R.length ≤ n ∧ ∀ k row, look R k = some row → row.length ≤ n
theorem putA_le {β : Type} (l : List (Int × β)) (k : Int) (v : β) : (putA l k v).length ≤ l.length + 1 := by
  rw [putA_length]
  split <;> omega
theorem RS.set {n : Nat} {R : Room} (h : RS n R) (u v r : Int) : RS (n + 1) (setR R u v r) := by
  unfold setR
  refine ⟨Nat.le_trans (putA_le _ _ _) (by have := h.1; omega), fun k row e => ?_⟩
  rw [look_putA] at e
  split at e
  · cases e
    refine Nat.le_trans (putA_le _ _ _) ?_
    cases e2 : look R u with
    | none => show 0 + 1 ≤ n + 1; omega
    | some r => have := h.2 u r e2; show r.length + 1 ≤ n + 1; omega
  · have := h.2 k row e
    omega
theorem RS.put {n : Nat} {R : Room} (h : RS n R) (e : Int × Int × Int) : RS (n + 2) (putE R e) := (h.set _ _ _).set _ _ _
theorem RS.mono {n m : Nat} {R : Room} (h : RS n R) (hm : n ≤ m) : RS m R := ⟨Nat.le_trans h.1 hm, fun k r e => Nat.le_trans (h.2 k r e) hm⟩
theorem rs_puts : ∀ (E : List (Int × Int × Int)) {n : Nat} {R : Room}, RS n R → RS (n + 2 * E.length) (E.foldl putE R)
  | [], n, R, h => h
  | e :: r, n, R, h => by
    have := rs_puts r (h.put e)
    rw [List.foldl_cons, List.length_cons]
    exact this.mono (by omega)
theorem push_has {R : Room} {more : Int} {q : Int × Int} {a c : Int} (h : hasR R a c) : hasR (pushP more R q) a c := by
  unfold pushP
  rw [has_setR, has_setR]
  exact .inr (.inr h)
theorem pushs_has {more : Int} {a c : Int} : ∀ (z : List (Int × Int)) {R : Room}, hasR R a c → hasR (z.foldl (pushP more) R) a c
  | [], R, h => h
  | q :: r, R, h => pushs_has r (push_has h)
theorem RS.setHas {n : Nat} {R : Room} (h : RS n R) {u v : Int} (r : Int) (hh : hasR R u v) : RS n (setR R u v r) := by
  obtain ⟨row, hr, hv⟩ := hh
  unfold setR
  rw [hr, Option.getD_some]
  refine ⟨?_, fun k row' e => ?_⟩
  · rw [putA_length, hr]; exact h.1
  · rw [look_putA] at e
    split at e
    · cases e
      rw [putA_length, hv]; exact h.2 u row hr
    · exact h.2 k row' e
theorem RS.push {n : Nat} {R : Room} (h : RS n R) {more : Int} {q : Int × Int} (h1 : hasR R q.1 q.2) (h2 : hasR R q.2 q.1) : RS n (pushP more R q) := by
  unfold pushP
  refine (h.setHas _ h1).setHas _ ?_
  rw [has_setR]; exact .inr h2
theorem RS.pushs {n : Nat} {more : Int} : ∀ (z : List (Int × Int)) {R : Room}, RS n R → (∀ q ∈ z, hasR R q.1 q.2 ∧ hasR R q.2 q.1) → RS n (z.foldl (pushP more) R)
  | [], R, h, _ => h
  | q :: r, R, h, hz => RS.pushs r (h.push (hz q List.mem_cons_self).1 (hz q List.mem_cons_self).2) fun p hp => ⟨push_has (hz p (List.mem_cons_of_mem _ hp)).1, push_has (hz p (List.mem_cons_of_mem _ hp)).2⟩
/-- what is told so far: the source first, each with its parent before it -/
structure RInv (R : Room) (t : Tab) : Prop where
  head : t[0]? = some (-1, -1)
  nd : (t.map (·.1)).Nodup
  par : ∀ (j : Nat) (v p : Int), t[j]? = some (v, p) → 0 < j → ∃ i, i < j ∧ (t.map (·.1))[i]? = some p ∧ 0 < cap R p v
theorem RInv.start (R : Room) : RInv R [(-1, -1)] := ⟨rfl, by simp, fun j v p h h0 => by
  rw [List.getElem?_eq_none (show 1 ≤ j from h0)] at h; cases h⟩
theorem RInv.add {R : Room} {t : Tab} (h : RInv R t) {place : Nat} {u v : Int} (hu : (t.map (·.1))[place]? = some u) (hc : 0 < cap R u v) (hn : look t v = none) : RInv R (t ++ [(v, u)]) := by
  have hpl : place < t.length := by
    have := (List.getElem?_eq_some_iff.mp hu).1
    rwa [List.length_map] at this
  have ht0 : 0 < t.length := by omega
  refine ⟨by rw [List.getElem?_append_left ht0]; exact h.head, ?_, fun j w p e h0 => ?_⟩
  · rw [List.map_append, List.nodup_append]
    refine ⟨h.nd, by simp, fun a ha b hb z => ?_⟩
    have hb : b = v := by simpa using hb
    exact look_none.mp hn (by rw [← hb, ← z]; exact ha)
  · by_cases hj : j < t.length
    · rw [List.getElem?_append_left hj] at e
      obtain ⟨i, h1, h2, h3⟩ := h.par j w p e h0
      exact ⟨i, h1, by rw [List.map_append, List.getElem?_append_left (by rw [List.length_map]; omega)]; exact h2, h3⟩
    · rw [List.getElem?_append_right (by omega)] at e
      have z : j - t.length = 0 := by
        have := (List.getElem?_eq_some_iff.mp e).1
        simpa using this
      rw [z] at e
      cases e
      exact ⟨place, by omega, by rw [List.map_append, List.getElem?_append_left (by rw [List.length_map]; omega)]; exact hu, hc⟩
theorem RInv.uni {R : Room} {t : Tab} {n : Nat} (h : RInv R t) (ok : ROk R (Uu n)) : ∀ u ∈ t.map (·.1), Uu n u := by
  intro u hu
  obtain ⟨j, hj⟩ := List.mem_iff_getElem?.mp hu
  rw [List.getElem?_map] at hj
  obtain ⟨⟨v, p⟩, hv, e⟩ := Option.map_eq_some_iff.mp hj
  have e : v = u := e
  subst e
  by_cases h0 : 0 < j
  · obtain ⟨i, _, _, hc⟩ := h.par j v p hv h0
    exact (ok.keys p v (cap_has (by omega))).2
  · have : j = 0 := by omega
    subst this
    rw [h.head] at hv
    cases hv
    exact .inl rfl
theorem uu_len {n : Nat} {l : List Int} (nd : l.Nodup) (h : ∀ u ∈ l, Uu n u) : l.length ≤ n + 2 := by
  have h1 : (l.map fun u => u + 2).Nodup := by
    rw [List.nodup_iff_pairwise_ne, List.pairwise_map]
    rw [List.nodup_iff_pairwise_ne] at nd
    exact nd.imp fun {a b} hne z => hne (by omega)
  have h2 := nodup_int (n := n + 2) h1 fun a ha => by
    obtain ⟨u, hu, e⟩ := List.mem_map.mp ha
    have e : u + 2 = a := e
    rcases h u hu with q | q | q <;> omega
  rwa [List.length_map] at h2
theorem RInv.len {R : Room} {t : Tab} {n : Nat} (h : RInv R t) (ok : ROk R (Uu n)) : t.length ≤ n + 2 := by
  have := uu_len h.nd (h.uni ok)
  rwa [List.length_map] at this
theorem Reached.inv {R : Room} {t : Tab} (h : Reached R t) : RInv R t := ⟨h.head, h.nd, h.par⟩
/-- what is reached is so, however it was searched -/
theorem Reached.keys {R : Room} {t t' : Tab} (h : Reached R t) (h' : Reached R t') : ∀ u, u ∈ t.map (·.1) → u ∈ t'.map (·.1) := by
  have key : ∀ (n j : Nat) (u p : Int), j < n → t[j]? = some (u, p) → u ∈ t'.map (·.1) := by
    intro n
    induction n with
    | zero => intro j u p hj; omega
    | succ n ih =>
      intro j u p hj e
      by_cases h0 : 0 < j
      · obtain ⟨i, hi, h1, h2⟩ := h.par j u p e h0
        rw [List.getElem?_map] at h1
        obtain ⟨⟨p', q⟩, h3, e3⟩ := Option.map_eq_some_iff.mp h1
        have e3 : p' = p := e3
        subst e3
        exact h'.closed p' u (ih i p' q (by omega) h3) h2
      · have : j = 0 := by omega
        subst this
        rw [h.head] at e
        cases e
        exact List.mem_map.mpr ⟨(-1, -1), List.mem_of_getElem? h'.head, rfl⟩
  intro u hu
  obtain ⟨j, hj⟩ := List.mem_iff_getElem?.mp hu
  rw [List.getElem?_map] at hj
  obtain ⟨⟨v, p⟩, hv, e⟩ := Option.map_eq_some_iff.mp hj
  have e : v = u := e
  subst e
  exact key (j + 1) j v p (by omega) hv
/-- a mirror book tells the specification's -/
structure MB.Rel (B : MB) (b : Book) : Prop where
  lots : b.lots.length = B.lots.length
  legs : b.legs = B.legs
  made : ∀ n, n < B.lots.length → (b.lot n).made = (B.lot n).made
  left : ∀ n, n < B.lots.length → ((b.left n : Nat) : Int) = (B.lot n).left
  founder : ∀ n, n < B.lots.length → (b.lot n).founder = (B.lot n).founder
end LF
end
section
set_option linter.all false
set_option autoImplicit false
namespace LF
theorem sorted_unique : ∀ (l1 l2 : List Int), l1.Pairwise (· < ·) → l2.Pairwise (· < ·) → (∀ x, x ∈ l1 ↔ x ∈ l2) → l1 = l2
  | [], [], _, _, _ => rfl
  | [], b :: r, _, _, h => by have := (h b).mpr List.mem_cons_self; cases this
  | a :: r, [], _, _, h => by have := (h a).mp List.mem_cons_self; cases this
  | a :: r, b :: s, h1, h2, h => by
    rw [List.pairwise_cons] at h1 h2
    have e : a = b := by
      have ha := (h a).mp List.mem_cons_self
      have hb := (h b).mpr List.mem_cons_self
      rcases List.mem_cons.mp ha with q | q
      · exact q
      · rcases List.mem_cons.mp hb with p | p
        · exact p.symm
        · have := h2.1 a q
          have := h1.1 b p
          omega
    subst e
    congr 1
    refine sorted_unique r s h1.2 h2.2 fun x => ⟨fun hx => ?_, fun hx => ?_⟩
    · rcases List.mem_cons.mp ((h x).mp (List.mem_cons_of_mem _ hx)) with q | q
      · have := h1.1 x hx; omega
      · exact q
    · rcases List.mem_cons.mp ((h x).mpr (List.mem_cons_of_mem _ hx)) with q | q
      · have := h2.1 x hx; omega
      · exact q
theorem sorted_perm {l1 l2 : List Int} {ns : List Int} (nd : ns.Nodup) (hp : l1.Perm ns) (hs : l1.Pairwise (· ≤ ·)) (h2 : l2.Pairwise (· < ·)) (hm : ∀ x, x ∈ ns ↔ x ∈ l2) : l1 = l2 := by
  refine sorted_unique l1 l2 ?_ h2 fun x => (hp.mem_iff).trans (hm x)
  have nd1 : l1.Nodup := hp.symm.nodup nd
  rw [List.nodup_iff_pairwise_ne] at nd1
  exact (hs.and nd1).imp fun {a b} ⟨h, n⟩ => by omega
theorem range_filter_sorted (n : Nat) (f : Nat → Bool) : (((List.range n).filter f).map fun (i : Nat) => (i : Int)).Pairwise (· < ·) := by
  rw [List.pairwise_map]
  have h : (List.range n).Pairwise (· < ·) := List.pairwise_lt_range
  exact (h.filter f).imp fun {a b} h => by omega
end LF
end
section
set_option linter.all false
set_option autoImplicit false
namespace LF
open TbBase TbLtBook

/-! ## the mirror book tells the specification's -/
def absL (l : ML) : Lot := ⟨l.born, l.made, l.gen, l.cls, l.day, l.planted, l.lost⟩
theorem lot_lt {B : MB} {n : Nat} (h : n < B.lots.length) : B.lots[n]? = some (B.lot n) := by unfold MB.lot; rw [List.getD_eq_getElem?_getD, List.getElem?_eq_getElem h]; rfl
theorem lot_ge {B : MB} {n : Nat} (h : ¬ n < B.lots.length) : B.lot n = noML := by unfold MB.lot; rw [List.getD_eq_getElem?_getD, List.getElem?_eq_none (by omega)]; rfl
theorem lot_of {B : MB} {n : Nat} {l : ML} (h : B.lots[n]? = some l) : B.lot n = l := by unfold MB.lot; rw [List.getD_eq_getElem?_getD, h]; rfl
theorem add_len (B : MB) (l : ML) : (B.add l).lots.length = B.lots.length + 1 := by show (B.lots ++ [l]).length = _; rw [List.length_append]; rfl
theorem add_lot (B : MB) (l : ML) (n : Nat) (h : n < B.lots.length) : (B.add l).lot n = B.lot n := lot_of (by show (B.lots ++ [l])[n]? = _; rw [List.getElem?_append_left h]; exact lot_lt h)
theorem add_new (B : MB) (l : ML) : (B.add l).lot B.lots.length = l := lot_of (by show (B.lots ++ [l])[B.lots.length]? = _; simp)
theorem mod_lot (B : MB) (k n : Nat) (f : ML → ML) (gs : List Leg) (h : n < B.lots.length) : (MB.mk (B.lots.modify k f) gs).lot n = if n = k then f (B.lot n) else B.lot n := by
  refine lot_of ?_
  show (B.lots.modify k f)[n]? = _
  rw [List.getElem?_modify, lot_lt h]
  by_cases e : n = k
  · simp [e]
  · have : ¬ k = n := fun z => e z.symm
    simp [e, this]
structure RelB (B : MB) (b : Book) : Prop where
  lots : b.lots = B.lots.map absL
  legs : b.legs = B.legs
  pl : b.plantings = (List.range B.lots.length).flatMap fun n => (B.lot n).mothers.map fun m => (m, n)
  gone : ∀ n, n < B.lots.length → (B.lot n).gone = b.out n
  left : ∀ n, n < B.lots.length → 0 ≤ (B.lot n).left
  leg : ∀ g ∈ B.legs, g.of < g.to ∧ g.to < B.lots.length ∧ 1 ≤ g.weight ∧ g.weight ≤ 1000000
theorem RelB.len {B : MB} {b : Book} (r : RelB B b) : b.lots.length = B.lots.length := by rw [r.lots, List.length_map]
theorem RelB.lot {B : MB} {b : Book} (r : RelB B b) {n : Nat} (h : n < B.lots.length) : b.lot n = absL (B.lot n) := by
  unfold Book.lot
  rw [List.getD_eq_getElem?_getD, r.lots, List.getElem?_map, lot_lt h]; rfl
theorem RelB.leftN {B : MB} {b : Book} (r : RelB B b) {n : Nat} (h : n < B.lots.length) : ((b.left n : Nat) : Int) = (B.lot n).left := by
  have h1 := r.left n h
  have h2 := r.gone n h
  unfold Book.left
  rw [r.lot h, ← h2]
  unfold ML.left at h1 ⊢
  show (((B.lot n).made - (B.lot n).planted - (B.lot n).lost - (B.lot n).gone : Nat) : Int) = _
  omega
theorem RelB.rel {B : MB} {b : Book} (r : RelB B b) : B.Rel b := ⟨r.len, r.legs, fun n h => by rw [r.lot h]; rfl, fun n h => r.leftN h, fun n h => by
  rw [r.lot h]
  unfold Lot.founder ML.founder absL
  congr 1
  apply propext
  constructor
  · intro (h : (B.lot n).born ≤ 1); omega
  · intro h; show (B.lot n).born ≤ 1; omega⟩
theorem out_append (b : Book) (g : Leg) (n : Nat) : Book.out { b with legs := b.legs ++ [g] } n = b.out n + if g.of = n then g.weight else 0 := by
  unfold Book.out
  rw [sumN_sum, sumN_sum]
  show ((((b.legs ++ [g]).filter fun (g : Leg) => g.of == n).map fun (g : Leg) => g.weight)).sum = _
  rw [List.filter_append, List.map_append, List.sum_append]
  congr 1
  by_cases h : g.of = n
  · simp [h]
  · simp [h]
theorem out_ge {B : MB} {b : Book} (r : RelB B b) {n : Nat} (h : B.lots.length ≤ n) : b.out n = 0 := by
  unfold Book.out
  have : (b.legs.filter fun (g : Leg) => g.of == n) = [] := by
    rw [List.filter_eq_nil_iff]
    intro g hg z
    rw [r.legs] at hg
    have h1 := (r.leg g hg).1
    have h2 := (r.leg g hg).2.1
    have : g.of = n := by simpa using z
    omega
  rw [this]; rfl
theorem relB_empty : RelB MB.empty TbLtBook.empty := ⟨rfl, rfl, rfl, fun n h => (by cases h), fun n h => (by cases h), fun g h => (by cases h)⟩
theorem flat_congr {α : Type} {n : Nat} {f g : Nat → List α} (h : ∀ i, i < n → f i = g i) : (List.range n).flatMap f = (List.range n).flatMap g := by
  induction n with
  | zero => rfl
  | succ n ih =>
    rw [List.range_succ, List.flatMap_append, List.flatMap_append, ih fun i hi => h i (by omega)]
    simp [h n (by omega)]
/-- a new lot -/
theorem RelB.add {B : MB} {b : Book} (r : RelB B b) (l : ML) (hg : l.gone = 0) (hl : 0 ≤ l.left) :
    RelB (B.add l) { lots := b.lots ++ [absL l], legs := b.legs, plantings := b.plantings ++ l.mothers.map fun m => (m, B.lots.length) } := by
  have cases : ∀ n, n < (B.add l).lots.length → n < B.lots.length ∨ n = B.lots.length := fun n h => by rw [add_len] at h; omega
  refine ⟨?_, r.legs, ?_, fun n h => ?_, fun n h => ?_, fun g hg => ?_⟩
  · show b.lots ++ [absL l] = (B.lots ++ [l]).map absL
    rw [r.lots, List.map_append]; rfl
  · show b.plantings ++ _ = _
    rw [add_len, List.range_succ, List.flatMap_append, r.pl]
    congr 1
    · exact flat_congr fun i hi => by rw [add_lot B l i hi]
    · simp [add_new]
  · rcases cases n h with h | h
    · rw [add_lot B l n h, r.gone n h]; rfl
    · rw [h, add_new, hg]
      exact (out_ge r (Nat.le_refl _)).symm
  · rcases cases n h with h | h
    · rw [add_lot B l n h]; exact r.left n h
    · rw [h, add_new]; exact hl
  · have := r.leg g hg
    rw [add_len]
    exact ⟨this.1, by omega, this.2.2⟩
/-- so much of a lot into the last one -/
theorem RelB.putLeg {B : MB} {b : Book} (r : RelB B b) {k w : Nat} (hk : k + 1 < B.lots.length) (hw : (w : Int) ≤ (B.lot k).left) (h1 : 1 ≤ w) (h2 : w ≤ 1000000) :
    RelB (B.putLeg k w) { b with legs := b.legs ++ [⟨k, B.lots.length - 1, w⟩] } := by
  have len : (B.putLeg k w).lots.length = B.lots.length := by show (B.lots.modify _ _).length = _; rw [List.length_modify]
  have lot : ∀ n, n < B.lots.length → (B.putLeg k w).lot n = if n = k then (B.lot n).go w else B.lot n := fun n h => mod_lot B k n _ _ h
  refine ⟨?_, ?_, ?_, fun n h => ?_, fun n h => ?_, fun g hg => ?_⟩
  · show b.lots = (B.lots.modify k (ML.go w)).map absL
    rw [r.lots]
    refine List.ext_getElem? fun j => ?_
    rw [List.getElem?_map, List.getElem?_map, List.getElem?_modify]
    by_cases e : k = j
    · cases e2 : B.lots[j]? <;> simp [e, ML.go, absL]
    · cases e2 : B.lots[j]? <;> simp [e]
  · show b.legs ++ _ = B.legs ++ _
    rw [r.legs]
  · show b.plantings = _
    rw [len, r.pl]
    refine flat_congr fun i hi => ?_
    rw [lot i hi]
    split <;> rfl
  · rw [len] at h
    rw [lot n h, out_append, ← r.gone n h]
    by_cases e : n = k
    · rw [if_pos e, if_pos e.symm]; rfl
    · rw [if_neg e, if_neg (fun z => e z.symm)]; rfl
  · rw [len] at h
    rw [lot n h]
    by_cases e : n = k
    · rw [if_pos e]
      subst e
      unfold ML.left at hw ⊢
      show 0 ≤ ((B.lot n).made : Int) - (B.lot n).planted - (B.lot n).lost - (((B.lot n).gone + w : Nat) : Int)
      omega
    · rw [if_neg e]; exact r.left n h
  · rw [len]
    rcases List.mem_append.mp (show g ∈ B.legs ++ [_] from hg) with hg | hg
    · exact r.leg g hg
    · have : g = ⟨k, B.lots.length - 1, w⟩ := by simpa using hg
      subst this
      exact ⟨by show k < B.lots.length - 1; omega, by show B.lots.length - 1 < _; omega, h1, h2⟩
theorem change_modify {α : Type} (l : List α) (n : Nat) (f : α → α) : (l.zipIdx.map fun (x : α × Nat) => if x.2 = n then f x.1 else x.1) = l.modify n f := by
  refine List.ext_getElem? fun j => ?_
  rw [List.getElem?_map, List.getElem?_zipIdx, List.getElem?_modify]
  cases e2 : l[j]? with
  | none => rfl
  | some x =>
    by_cases e : n = j
    · simp [e]
    · have : ¬ j = n := fun z => e z.symm
      simp [e, this]
/-- a lot's count grows: planted or lost -/
theorem RelB.change {B : MB} {b : Book} (r : RelB B b) {k : Nat} {f : ML → ML} {g : Lot → Lot} (hfg : ∀ l, absL (f l) = g (absL l)) (hm : ∀ l, (f l).mothers = l.mothers) (hgo : ∀ l, (f l).gone = l.gone) (hl : k < B.lots.length → 0 ≤ (f (B.lot k)).left) :
    RelB ⟨B.lots.modify k f, B.legs⟩ (b.change k g) := by
  have len : (B.lots.modify k f).length = B.lots.length := List.length_modify ..
  have lot : ∀ n, n < B.lots.length → (MB.mk (B.lots.modify k f) B.legs).lot n = if n = k then f (B.lot n) else B.lot n := fun n h => mod_lot B k n _ _ h
  refine ⟨?_, r.legs, ?_, fun n h => ?_, fun n h => ?_, fun g hg => ?_⟩
  · show (b.lots.zipIdx.map fun (x : Lot × Nat) => if x.2 = k then g x.1 else x.1) = (B.lots.modify k f).map absL
    rw [change_modify, r.lots]
    refine List.ext_getElem? fun j => ?_
    rw [List.getElem?_modify, List.getElem?_map, List.getElem?_map, List.getElem?_modify]
    by_cases e : k = j
    · cases e2 : B.lots[j]? <;> simp [e, hfg]
    · cases e2 : B.lots[j]? <;> simp [e]
  · show b.plantings = _
    show _ = (List.range (B.lots.modify k f).length).flatMap _
    rw [len, r.pl]
    refine flat_congr fun i hi => ?_
    rw [lot i hi]
    split
    · rw [hm]
    · rfl
  · have h : n < B.lots.length := by rw [← len]; exact h
    rw [lot n h]
    have e : (b.change k g).out n = b.out n := rfl
    rw [e, ← r.gone n h]
    split
    · rw [hgo]
    · rfl
  · have h : n < B.lots.length := by rw [← len]; exact h
    rw [lot n h]
    by_cases e : n = k
    · rw [if_pos e, e]; exact hl (by omega)
    · rw [if_neg e]; exact r.left n h
  · show g.of < g.to ∧ g.to < (B.lots.modify k f).length ∧ _
    rw [len]
    exact r.leg g hg
end LF
end
section
set_option linter.all false
set_option autoImplicit false
namespace LF
open TbBase TbLtBook

theorem plant_lot (B : MB) (p : Nat × Nat) (n : Nat) (h : n < B.lots.length) : (B.plant p).lot n = if n = p.1 then (B.lot n).plant p.2 else B.lot n := mod_lot B p.1 n _ _ h
theorem plant_length (B : MB) (p : Nat × Nat) : (B.plant p).lots.length = B.lots.length := by show (B.lots.modify _ _).length = _; rw [List.length_modify]
theorem plants_length : ∀ (ps : List (Nat × Nat)) (B : MB), (ps.foldl MB.plant B).lots.length = B.lots.length
  | [], B => rfl
  | p :: r, B => by rw [List.foldl_cons, plants_length r, plant_length]
theorem plants_rel : ∀ (ps : List (Nat × Nat)) {B : MB} {b : Book}, RelB B b → (∀ p ∈ ps, p.1 < B.lots.length ∧ (p.2 : Int) ≤ (B.lot p.1).left) → (ps.map (·.1)).Nodup → RelB (ps.foldl MB.plant B) (b.plant ps)
  | [], B, b, r, _, _ => r
  | p :: q, B, b, r, h, nd => by
    have hp := h p List.mem_cons_self
    rw [List.map_cons, List.nodup_cons] at nd
    have r1 : RelB (B.plant p) (b.change p.1 fun (y : Lot) => { y with planted := y.planted + p.2 }) := by
      refine r.change (fun l => rfl) (fun l => rfl) (fun l => rfl) fun _ => ?_
      have h2 := hp.2
      unfold ML.left at h2 ⊢
      show 0 ≤ ((B.lot p.1).made : Int) - (((B.lot p.1).planted + p.2 : Nat) : Int) - (B.lot p.1).lost - (B.lot p.1).gone
      omega
    refine plants_rel q r1 (fun x hx => ?_) nd.2
    have hx' := h x (List.mem_cons_of_mem _ hx)
    have hne : ¬ x.1 = p.1 := fun z => nd.1 (z ▸ List.mem_map.mpr ⟨x, hx, rfl⟩)
    rw [plant_length, plant_lot B p x.1 hx'.1, if_neg hne]
    exact hx'
theorem putLeg_lot (B : MB) (k w n : Nat) (h : n < B.lots.length) : (B.putLeg k w).lot n = if n = k then (B.lot n).go w else B.lot n := mod_lot B k n _ _ h
theorem putLeg_length (B : MB) (k w : Nat) : (B.putLeg k w).lots.length = B.lots.length := by show (B.lots.modify _ _).length = _; rw [List.length_modify]
theorem putLegs_length : ∀ (ps : List (Nat × Nat)) (B : MB), (ps.foldl (fun b p => b.putLeg p.1 p.2) B).lots.length = B.lots.length
  | [], B => rfl
  | p :: r, B => by rw [List.foldl_cons, putLegs_length r, putLeg_length]
theorem putLegs_rel (n : Nat) : ∀ (ps : List (Nat × Nat)) {B : MB} {b : Book}, RelB B b → B.lots.length = n + 1 → (∀ p ∈ ps, p.1 < n ∧ (p.2 : Int) ≤ (B.lot p.1).left ∧ 1 ≤ p.2 ∧ p.2 ≤ 1000000) → (ps.map (·.1)).Nodup →
    RelB (ps.foldl (fun b p => b.putLeg p.1 p.2) B) { b with legs := b.legs ++ ps.map fun (x : Nat × Nat) => ⟨x.1, n, x.2⟩ }
  | [], B, b, r, _, _, _ => by rw [List.map_nil, List.append_nil]; exact r
  | p :: q, B, b, r, hn, h, nd => by
    have hp := h p List.mem_cons_self
    rw [List.map_cons, List.nodup_cons] at nd
    have r1 := r.putLeg (k := p.1) (w := p.2) (by omega) hp.2.1 hp.2.2.1 hp.2.2.2
    rw [show B.lots.length - 1 = n by omega] at r1
    have r2 := putLegs_rel n q r1 (by rw [putLeg_length]; exact hn) (fun x hx => by
      have hx' := h x (List.mem_cons_of_mem _ hx)
      have hne : ¬ x.1 = p.1 := fun z => nd.1 (z ▸ List.mem_map.mpr ⟨x, hx, rfl⟩)
      rw [putLeg_lot B p.1 p.2 x.1 (by omega), if_neg hne]
      exact hx') nd.2
    rw [List.foldl_cons, List.map_cons]
    have e : b.legs ++ (⟨p.1, n, p.2⟩ :: q.map fun (x : Nat × Nat) => (⟨x.1, n, x.2⟩ : Leg)) = (b.legs ++ [⟨p.1, n, p.2⟩]) ++ q.map fun (x : Nat × Nat) => (⟨x.1, n, x.2⟩ : Leg) := by simp
    rw [e]
    exact r2
theorem splits_rel (k d n0 : Nat) (g c : Nat) : ∀ (ws : List Nat) (j : Nat) {B : MB} {b : Book}, RelB B b → B.lots.length = n0 + j → k < B.lots.length → ((ws.sum : Nat) : Int) ≤ (B.lot k).left → (∀ w ∈ ws, 1 ≤ w ∧ w ≤ 1000000) → (B.lot k).gen = g → (B.lot k).cls = c →
    RelB (ws.foldl (MB.splitOne k d) B) { lots := b.lots ++ ws.map (fun (w : Nat) => ⟨3, w, g, c, d, 0, 0⟩), legs := b.legs ++ (ws.zipIdx j).map fun (x : Nat × Nat) => ⟨k, n0 + x.2, x.1⟩, plantings := b.plantings }
  | [], j, B, b, r, _, _, _, _, _, _ => by
    simp only [List.map_nil, List.zipIdx_nil, List.append_nil]
    exact r
  | w :: q, j, B, b, r, hn, hk, hs, hw, hg, hc => by
    have h1 := hw w List.mem_cons_self
    rw [List.sum_cons] at hs
    have r1 := r.add ⟨3, w, g, c, d, [], 0, 0, 0⟩ rfl (by unfold ML.left; show (0 : Int) ≤ (w : Int) - 0 - 0 - 0; omega)
    have len1 := add_len B ⟨3, w, g, c, d, [], 0, 0, 0⟩
    have r2 := r1.putLeg (k := k) (w := w) (by omega) (by rw [add_lot B _ k hk]; omega) h1.1 h1.2
    have e1 : MB.splitOne k d B w = (B.add ⟨3, w, g, c, d, [], 0, 0, 0⟩).putLeg k w := by unfold MB.splitOne; rw [hg, hc]
    rw [← e1] at r2
    have len2 : (MB.splitOne k d B w).lots.length = n0 + (j + 1) := by rw [e1, putLeg_length, len1, hn]; omega
    have lotk : (MB.splitOne k d B w).lot k = (B.lot k).go w := by rw [e1, putLeg_lot _ k w k (by omega), if_pos rfl, add_lot B _ k hk]
    have r3 := splits_rel k d n0 g c q (j + 1) r2 len2 (by omega) (by
      rw [lotk]
      unfold ML.left at hs ⊢
      show ((q.sum : Nat) : Int) ≤ ((B.lot k).made : Int) - (B.lot k).planted - (B.lot k).lost - (((B.lot k).gone + w : Nat) : Int)
      omega) (fun x hx => hw x (List.mem_cons_of_mem _ hx)) (by rw [lotk]; exact hg) (by rw [lotk]; exact hc)
    rw [List.foldl_cons, List.map_cons, List.zipIdx_cons, List.map_cons]
    have e2 : b.lots ++ (⟨3, w, g, c, d, 0, 0⟩ :: q.map fun (w : Nat) => (⟨3, w, g, c, d, 0, 0⟩ : Lot)) = (b.lots ++ [⟨3, w, g, c, d, 0, 0⟩]) ++ q.map fun (w : Nat) => (⟨3, w, g, c, d, 0, 0⟩ : Lot) := by simp
    have e3 : b.legs ++ ((⟨k, n0 + j, w⟩ : Leg) :: (q.zipIdx (j + 1)).map fun (x : Nat × Nat) => (⟨k, n0 + x.2, x.1⟩ : Leg)) = (b.legs ++ [⟨k, n0 + j, w⟩]) ++ (q.zipIdx (j + 1)).map fun (x : Nat × Nat) => (⟨k, n0 + x.2, x.1⟩ : Leg) := by simp
    have e4 : (B.add ⟨3, w, g, c, d, [], 0, 0, 0⟩).lots.length - 1 = n0 + j := by omega
    rw [e4] at r3
    simp only [List.map_nil, List.append_nil] at r3
    rw [e2, e3]
    exact r3
/-- what an entry needs of a book -/
structure Fits (B : MB) (e : Entry) : Prop where
  there : ∀ p ∈ e.takes.1, p.1 < B.lots.length ∧ (p.2 : Int) ≤ (B.lot p.1).left
  nd : (e.takes.1.map (·.1)).Nodup
  form : e.formed = true
theorem isW {w : Nat} (h : isWeight w = true) : 1 ≤ w ∧ w ≤ 1000000 := by
  unfold isWeight at h
  rw [Bool.and_eq_true] at h
  exact ⟨of_decide_eq_true h.1, of_decide_eq_true h.2⟩
theorem sumN_eq (l : List Nat) : sumN l = l.sum := sumN_sum l
theorem map_congr_rel {B : MB} {b : Book} (r : RelB B b) {l : List (Nat × Nat)} (h : ∀ p ∈ l, p.1 < B.lots.length) (f : Lot → Nat) (g : ML → Nat) (hfg : ∀ x, f (absL x) = g x) : (l.map fun (x : Nat × Nat) => f (b.lot x.1)) = l.map fun x => g (B.lot x.1) := by
  apply List.map_congr_left
  intro p hp
  rw [r.lot (h p hp), hfg]
theorem make_rel {B : MB} {b : Book} (r : RelB B b) {e : Entry} (F : Fits B e) : RelB (B.make e) (b.enter e) := by
  have hform := F.form
  unfold Entry.formed at hform
  rw [Bool.and_eq_true] at hform
  cases e with
  | found w c d =>
    have hw := hform.2
    simp only [Bool.and_eq_true] at hw
    have hw := isW hw.1
    have := r.add ⟨0, w, 0, c, d, [], 0, 0, 0⟩ rfl (by unfold ML.left; show (0 : Int) ≤ (w : Int) - 0 - 0 - 0; omega)
    simp only [List.map_nil, List.append_nil] at this
    exact this
  | lift w c d ms =>
    have hw := hform.2
    simp only [Bool.and_eq_true] at hw
    have hw := isW hw.1
    have r1 := plants_rel ms r F.there F.nd
    have r2 := r1.add ⟨1, w, B.genMax ms + 1, c, d, ms.map (·.1), 0, 0, 0⟩ rfl (by unfold ML.left; show (0 : Int) ≤ (w : Int) - 0 - 0 - 0; omega)
    rw [plants_length] at r2
    have eg : greatest (ms.map fun (x : Nat × Nat) => (b.lot x.1).generation) = B.genMax ms := by
      unfold MB.genMax
      rw [map_congr_rel (l := ms) r (fun p hp => (F.there p hp).1) (fun l => l.generation) (fun l => l.gen) (fun _ => rfl)]
    show RelB _ { b.plant ms with lots := (b.plant ms).lots ++ [⟨1, w, greatest (ms.map fun (x : Nat × Nat) => (b.lot x.1).generation) + 1, c, d, 0, 0⟩], plantings := (b.plant ms).plantings ++ ms.map fun (x : Nat × Nat) => (x.1, b.lots.length) }
    rw [eg, r.len]
    have em : ((ms.map (·.1)).map fun m => (m, B.lots.length)) = ms.map fun (x : Nat × Nat) => (x.1, B.lots.length) := by rw [List.map_map]; rfl
    rw [← em]
    exact r2
  | merge d ps =>
    have hw := hform.2
    simp only [Bool.and_eq_true] at hw
    have hall := fun p hp => isW (List.all_eq_true.mp hw.2 p hp)
    have r1 := r.add ⟨2, (ps.map (·.2)).sum, B.genMax ps, B.clsMax ps, d, [], 0, 0, 0⟩ rfl (by unfold ML.left; show (0 : Int) ≤ (((ps.map (·.2)).sum : Nat) : Int) - 0 - 0 - 0; omega)
    have len1 := add_len B ⟨2, (ps.map (·.2)).sum, B.genMax ps, B.clsMax ps, d, [], 0, 0, 0⟩
    have r2 := putLegs_rel B.lots.length ps r1 len1 (fun p hp => by
      have h := F.there p hp
      rw [add_lot B _ p.1 h.1]
      exact ⟨h.1, h.2, hall p hp⟩) F.nd
    have eg : greatest (ps.map fun (x : Nat × Nat) => (b.lot x.1).generation) = B.genMax ps := by
      unfold MB.genMax
      rw [map_congr_rel (l := ps) r (fun p hp => (F.there p hp).1) (fun l => l.generation) (fun l => l.gen) (fun _ => rfl)]
    have ec : greatest (ps.map fun (x : Nat × Nat) => (b.lot x.1).cls) = B.clsMax ps := by
      unfold MB.clsMax
      rw [map_congr_rel (l := ps) r (fun p hp => (F.there p hp).1) (fun l => l.cls) (fun l => l.cls) (fun _ => rfl)]
    show RelB _ { b with lots := b.lots ++ [⟨2, sumN (ps.map fun (x : Nat × Nat) => x.2), greatest (ps.map fun (x : Nat × Nat) => (b.lot x.1).generation), greatest (ps.map fun (x : Nat × Nat) => (b.lot x.1).cls), d, 0, 0⟩], legs := b.legs ++ ps.map fun (x : Nat × Nat) => ⟨x.1, b.lots.length, x.2⟩ }
    rw [eg, ec, sumN_eq, r.len]
    simp only [List.map_nil, List.append_nil] at r2
    exact r2
  | split k d ws =>
    have hw := hform.2
    simp only [Bool.and_eq_true] at hw
    have hall := fun w hw' => isW (List.all_eq_true.mp hw.2 w hw')
    have ht := F.there (k, sumN ws) List.mem_cons_self
    have r1 := splits_rel k d B.lots.length (B.lot k).gen (B.lot k).cls ws 0 r rfl ht.1 (by rw [← sumN_eq]; exact ht.2) hall rfl rfl
    show RelB _ { b with lots := b.lots ++ ws.map (fun (w : Nat) => ⟨3, w, (b.lot k).generation, (b.lot k).cls, d, 0, 0⟩), legs := b.legs ++ ws.zipIdx.map fun (x : Nat × Nat) => ⟨k, b.lots.length + x.2, x.1⟩ }
    rw [r.lot ht.1, r.len]
    exact r1
  | lose k w d =>
    have ht := F.there (k, w) List.mem_cons_self
    refine r.change (g := fun (y : Lot) => { y with lost := y.lost + w }) (fun l => rfl) (fun l => rfl) (fun l => rfl) fun _ => ?_
    have h2 := ht.2
    unfold ML.left at h2 ⊢
    show 0 ≤ ((B.lot k).made : Int) - (B.lot k).planted - (((B.lot k).lost + w : Nat) : Int) - (B.lot k).gone
    have h2 : (w : Int) ≤ ((B.lot k).made : Int) - (B.lot k).planted - (B.lot k).lost - (B.lot k).gone := h2
    omega
end LF
end
section
set_option linter.all false
set_option autoImplicit false
namespace LF
open TbBase TbLtBook

/-! ## lots as they are made, mothers -/
structure LotOk (n : Nat) (l : ML) : Prop where
  lo : 1 ≤ l.made
  hi : l.made ≤ 160000000
  nd : l.mothers.Nodup
  lt : ∀ m ∈ l.mothers, m < n
def LotsOk (B : MB) : Prop := ∀ n, n < B.lots.length → LotOk n (B.lot n)
theorem lotsOk_empty : LotsOk MB.empty := fun n h => by cases h
theorem LotsOk.mod {B : MB} (h : LotsOk B) (k : Nat) {f : ML → ML} (gs : List Leg) (h1 : ∀ l, (f l).made = l.made) (h2 : ∀ l, (f l).mothers = l.mothers) : LotsOk ⟨B.lots.modify k f, gs⟩ := fun n hn => by
  have hn : n < B.lots.length := by rw [← List.length_modify (f := f) (i := k) (l := B.lots)]; exact hn
  have := h n hn
  rw [mod_lot B k n f gs hn]
  split
  · exact ⟨by rw [h1]; exact this.lo, by rw [h1]; exact this.hi, by rw [h2]; exact this.nd, by rw [h2]; exact this.lt⟩
  · exact this
theorem LotsOk.add {B : MB} (h : LotsOk B) {l : ML} (hl : LotOk B.lots.length l) : LotsOk (B.add l) := fun n hn => by
  rw [add_len] at hn
  by_cases e : n = B.lots.length
  · rw [e, add_new]; exact hl
  · rw [add_lot B l n (by omega)]; exact h n (by omega)
theorem LotsOk.plants : ∀ (ps : List (Nat × Nat)) {B : MB}, LotsOk B → LotsOk (ps.foldl MB.plant B)
  | [], B, h => h
  | p :: r, B, h => LotsOk.plants r (h.mod p.1 B.legs (fun _ => rfl) (fun _ => rfl))
theorem LotsOk.putLegs : ∀ (ps : List (Nat × Nat)) {B : MB}, LotsOk B → LotsOk (ps.foldl (fun b p => b.putLeg p.1 p.2) B)
  | [], B, h => h
  | p :: r, B, h => LotsOk.putLegs r (h.mod p.1 _ (fun _ => rfl) (fun _ => rfl))
theorem lotOk0 {n b w g c d : Nat} (h1 : 1 ≤ w) (h2 : w ≤ 160000000) : LotOk n ⟨b, w, g, c, d, [], 0, 0, 0⟩ := ⟨h1, h2, List.nodup_nil, fun m hm => (by cases hm)⟩
theorem LotsOk.splits (k d : Nat) : ∀ (ws : List Nat) {B : MB}, LotsOk B → (∀ w ∈ ws, 1 ≤ w ∧ w ≤ 1000000) → LotsOk (ws.foldl (MB.splitOne k d) B)
  | [], B, h, _ => h
  | w :: r, B, h, hw => LotsOk.splits k d r ((h.add (lotOk0 (hw w List.mem_cons_self).1 (by have := (hw w List.mem_cons_self).2; omega))).mod k _ (fun _ => rfl) (fun _ => rfl)) fun x hx => hw x (List.mem_cons_of_mem _ hx)
theorem sum_le {l : List Nat} {c : Nat} (h : ∀ x ∈ l, x ≤ c) : l.sum ≤ l.length * c := by
  induction l with
  | nil => simp
  | cons x r ih =>
    rw [List.sum_cons, List.length_cons, Nat.succ_mul]
    have := h x List.mem_cons_self
    have := ih fun y hy => h y (List.mem_cons_of_mem _ hy)
    omega
theorem sum_ge {l : List Nat} (h : ∀ x ∈ l, 1 ≤ x) : l.length ≤ l.sum := by
  induction l with
  | nil => simp
  | cons x r ih =>
    rw [List.sum_cons, List.length_cons]
    have := h x List.mem_cons_self
    have := ih fun y hy => h y (List.mem_cons_of_mem _ hy)
    omega
theorem make_lots {B : MB} {e : Entry} (h : LotsOk B) (F : Fits B e) (hg : e.newLegs ≤ 160) : LotsOk (B.make e) := by
  have hform := F.form
  unfold Entry.formed at hform
  rw [Bool.and_eq_true] at hform
  cases e with
  | found w c d =>
    have hw := hform.2
    simp only [Bool.and_eq_true] at hw
    have hw := isW hw.1
    exact h.add (lotOk0 hw.1 (by omega))
  | lift w c d ms =>
    have hw := hform.2
    simp only [Bool.and_eq_true] at hw
    have hw := isW hw.1
    refine (LotsOk.plants ms h).add ⟨hw.1, by show w ≤ _; omega, F.nd, fun m hm => ?_⟩
    rw [plants_length]
    obtain ⟨p, hp, e⟩ := List.mem_map.mp (show m ∈ ms.map (·.1) from hm)
    rw [← e]
    exact (F.there p hp).1
  | merge d ps =>
    have hw := hform.2
    simp only [Bool.and_eq_true] at hw
    have hall : ∀ p ∈ ps, 1 ≤ p.2 ∧ p.2 ≤ 1000000 := fun p hp => isW (List.all_eq_true.mp hw.2 p hp)
    have h2 := of_decide_eq_true hw.1
    have hl : ps.length ≤ 160 := hg
    have s1 := sum_le (l := ps.map (·.2)) (c := 1000000) fun x hx => by
      obtain ⟨p, hp, e⟩ := List.mem_map.mp hx
      rw [← e]; exact (hall p hp).2
    have s2 := sum_ge (l := ps.map (·.2)) fun x hx => by
      obtain ⟨p, hp, e⟩ := List.mem_map.mp hx
      rw [← e]; exact (hall p hp).1
    rw [List.length_map] at s1 s2
    exact LotsOk.putLegs ps (h.add (lotOk0 (by omega) (by omega)))
  | split k d ws =>
    have hw := hform.2
    simp only [Bool.and_eq_true] at hw
    exact LotsOk.splits k d ws h fun w hw' => isW (List.all_eq_true.mp hw.2 w hw')
  | lose k w d => exact h.mod k _ (fun _ => rfl) (fun _ => rfl)
/-! ## what an accepted entry is -/
theorem wrong_none {b : Book} : ∀ (ps : List (Nat × Nat)) (i : Nat) (had : List Nat), b.wrongFrom i had ps = none → (∀ p ∈ ps, b.has p.1 = true ∧ p.2 ≤ b.left p.1 ∧ ¬ p.1 ∈ had) ∧ (ps.map (·.1)).Nodup
  | [], i, had, _ => ⟨fun p h => (by cases h), List.nodup_nil⟩
  | x :: r, i, had, h => by
    unfold Book.wrongFrom at h
    split at h
    · cases h
    · rename_i h1
      split at h
      · cases h
      · rename_i h2
        split at h
        · cases h
        · rename_i h3
          obtain ⟨q1, q2⟩ := wrong_none r (i + 1) (x.1 :: had) h
          have hh : b.has x.1 = true := by cases e : b.has x.1 with
            | true => rfl
            | false => exact absurd e h1
          have hm : ¬ x.1 ∈ had := fun z => h2 (by simpa using z)
          refine ⟨fun p hp => ?_, ?_⟩
          · rcases List.mem_cons.mp hp with e | hp
            · rw [e]; exact ⟨hh, by omega, hm⟩
            · obtain ⟨a1, a2, a3⟩ := q1 p hp
              exact ⟨a1, a2, fun z => a3 (List.mem_cons_of_mem _ z)⟩
          · rw [List.map_cons, List.nodup_cons]
            refine ⟨fun z => ?_, q2⟩
            obtain ⟨p, hp, e⟩ := List.mem_map.mp z
            have e : p.1 = x.1 := e
            exact (q1 p hp).2.2 (by rw [e]; exact List.mem_cons_self)
/-- entries, each accepted -/
inductive Good : List Entry → Prop
  | nil : Good []
  | snoc (es : List Entry) (e : Entry) (h : Good es) (hr : refusal es e = none) : Good (es ++ [e])
structure Accept (es : List Entry) (e : Entry) : Prop where
  form : e.formed = true
  day : ∀ x, es.getLast? = some x → x.day ≤ e.day
  entries : es.length < 200
  lots : (bookOf es).lots.length + e.newLots ≤ 60
  legs : (bookOf es).legs.length + e.newLegs ≤ 160
  wrong : (bookOf es).wrongFrom 0 [] e.takes.1 = none
theorem accept_of {es : List Entry} {e : Entry} (h : refusal es e = none) : Accept es e := by
  unfold refusal at h
  simp only at h
  split at h
  · cases h
  · rename_i h1
    split at h
    · cases h
    · rename_i h2
      split at h
      · cases h
      · rename_i h3
        split at h
        · cases h
        · rename_i h4
          simp only [ENTRIES, LOTS, LEGS] at h3
          refine ⟨by cases e' : e.formed with | true => rfl | false => exact absurd e' h1, fun x hx => ?_, by omega, by omega, by omega, h4⟩
          rw [hx] at h2
          simp at h2
          omega
theorem bookOf_snoc (es : List Entry) (e : Entry) : bookOf (es ++ [e]) = (bookOf es).enter e := by unfold bookOf; rw [List.foldl_append]; rfl
theorem mbookOf_snoc (es : List Entry) (e : Entry) : mbookOf (es ++ [e]) = (mbookOf es).make e := by unfold mbookOf; rw [List.foldl_append]; rfl
theorem Accept.fits {es : List Entry} {e : Entry} (a : Accept es e) (r : RelB (mbookOf es) (bookOf es)) : Fits (mbookOf es) e := by
  obtain ⟨q1, q2⟩ := wrong_none _ _ _ a.wrong
  refine ⟨fun p hp => ?_, q2, a.form⟩
  obtain ⟨a1, a2, _⟩ := q1 p hp
  have hlt : p.1 < (mbookOf es).lots.length := by rw [← r.len]; exact of_decide_eq_true a1
  refine ⟨hlt, ?_⟩
  rw [← r.leftN hlt]
  omega
theorem splitOne_len' (k d : Nat) (B : MB) (w : Nat) : (MB.splitOne k d B w).lots.length = B.lots.length + 1 ∧ (MB.splitOne k d B w).legs.length = B.legs.length + 1 := by
  unfold MB.splitOne
  refine ⟨by rw [putLeg_length, add_len], ?_⟩
  show (B.legs ++ [_]).length = _
  rw [List.length_append]; rfl
theorem enter_len (b : Book) (e : Entry) : (b.enter e).lots.length = b.lots.length + e.newLots ∧ (b.enter e).legs.length = b.legs.length + e.newLegs := by
  have hp : ∀ (l : List (Nat × Nat)) (b : Book), (b.plant l).lots.length = b.lots.length ∧ (b.plant l).legs.length = b.legs.length := by
    intro l
    induction l with
    | nil => intro b; exact ⟨rfl, rfl⟩
    | cons x r ih =>
      intro b
      obtain ⟨h1, h2⟩ := ih (b.change x.1 fun (y : Lot) => { y with planted := y.planted + x.2 })
      refine ⟨h1.trans ?_, h2⟩
      show (b.lots.zipIdx.map _).length = _
      rw [List.length_map, List.length_zipIdx]
  cases e with
  | found w c d => exact ⟨by show (b.lots ++ [_]).length = _; rw [List.length_append]; rfl, rfl⟩
  | lift w c d ms =>
    refine ⟨?_, ?_⟩
    · show ((b.plant ms).lots ++ [_]).length = _
      rw [List.length_append, (hp ms b).1]; rfl
    · exact (hp ms b).2
  | merge d ps =>
    refine ⟨by show (b.lots ++ [_]).length = _; rw [List.length_append]; rfl, ?_⟩
    show (b.legs ++ ps.map _).length = _
    rw [List.length_append, List.length_map]; rfl
  | split k d ws =>
    refine ⟨?_, ?_⟩
    · show (b.lots ++ ws.map _).length = _
      rw [List.length_append, List.length_map]; rfl
    · show (b.legs ++ ws.zipIdx.map _).length = _
      rw [List.length_append, List.length_map, List.length_zipIdx]; rfl
  | lose k w d =>
    refine ⟨?_, rfl⟩
    show (b.lots.zipIdx.map _).length = _
    rw [List.length_map, List.length_zipIdx]; rfl
structure GoodIs (es : List Entry) : Prop where
  rel : RelB (mbookOf es) (bookOf es)
  ok : LotsOk (mbookOf es)
  lots : (mbookOf es).lots.length ≤ 60
  legs : (mbookOf es).legs.length ≤ 160
  len : es.length ≤ 200
theorem Good.is {es : List Entry} (h : Good es) : GoodIs es := by
  induction h with
  | nil => exact ⟨relB_empty, lotsOk_empty, by decide, by decide, by decide⟩
  | snoc es e h hr ih =>
    have a := accept_of hr
    have f := a.fits ih.rel
    have r : RelB (mbookOf (es ++ [e])) (bookOf (es ++ [e])) := by
      rw [mbookOf_snoc, bookOf_snoc]
      exact make_rel ih.rel f
    have hl := enter_len (bookOf es) e
    refine ⟨r, ?_, ?_, ?_, ?_⟩
    · rw [mbookOf_snoc]
      exact make_lots ih.ok f (by have := a.legs; omega)
    · rw [← r.len, bookOf_snoc, hl.1]; exact a.lots
    · rw [← r.legs, bookOf_snoc, hl.2]; exact a.legs
    · rw [List.length_append]; have := a.entries; show es.length + 1 ≤ 200; omega
theorem Good.fine {es : List Entry} (h : GoodIs es) : (mbookOf es).Fine := by
  refine ⟨h.lots, h.legs, fun n => ?_, fun g hg => ?_, fun n m hm => ?_⟩
  · by_cases hn : n < (mbookOf es).lots.length
    · have q := h.ok n hn
      have := nodup_lt q.nd q.lt
      have := h.lots
      omega
    · rw [lot_ge hn]; exact Nat.zero_le _
  · have q := h.rel.leg g hg
    exact ⟨by omega, q.2.1⟩
  · by_cases hn : n < (mbookOf es).lots.length
    · have := (h.ok n hn).lt m hm
      omega
    · rw [lot_ge hn] at hm; cases hm
theorem Good.mix {es : List Entry} (h : GoodIs es) : (mbookOf es).Mix := by
  refine ⟨fun n hn => ?_, fun g hg => ?_, h.lots, h.legs⟩
  · have q := h.ok n hn
    exact ⟨q.lo, Nat.lt_of_le_of_lt q.hi (by decide)⟩
  · have q := h.rel.leg g hg
    exact ⟨q.1, q.2.1, q.2.2.2⟩
theorem Good.pre {es : List Entry} (h : Good es) : ∀ i, Good (es.take i) := by
  induction h with
  | nil => intro i; rw [List.take_nil]; exact .nil
  | snoc es e h hr ih =>
    intro i
    by_cases hi : i ≤ es.length
    · rw [List.take_append_of_le_length hi]; exact ih i
    · rw [List.take_of_length_le (by rw [List.length_append]; show es.length + 1 ≤ i; omega)]
      exact .snoc es e h hr
theorem Good.at {es : List Entry} (h : Good es) {i : Nat} {e : Entry} (he : es[i]? = some e) : Good (es.take i) ∧ refusal (es.take i) e = none := by
  have h1 := h.pre (i + 1)
  have h2 : es.take (i + 1) = es.take i ++ [e] := by rw [List.take_add_one, he]; rfl
  rw [h2] at h1
  generalize hx : es.take i ++ [e] = xs at h1
  cases h1 with
  | nil => have := congrArg List.length hx; simp at this
  | snoc ys y hy hr =>
    have := List.append_inj' hx rfl
    obtain ⟨e1, e2⟩ := this
    cases e2
    rw [e1]
    exact ⟨hy, hr⟩
/-- what Book.make wants -/
theorem names_of {es : List Entry} {e : Entry} (g : GoodIs es) (a : Accept es e) : (mbookOf es).names e ∧ (mbookOf es).lots.length + (Entry.rows e).length ≤ 900 ∧ (mbookOf es).legs.length + (Entry.rows e).length ≤ 900 := by
  have f := a.fits g.rel
  have hl := g.lots
  have hg := g.legs
  have al := a.lots
  have ag := a.legs
  have hform := f.form
  unfold Entry.formed at hform
  rw [Bool.and_eq_true] at hform
  have hnd := nodup_lt (n := (mbookOf es).lots.length) f.nd fun k hk => by
    obtain ⟨p, hp, e⟩ := List.mem_map.mp hk
    rw [← e]; exact (f.there p hp).1
  rw [List.length_map] at hnd
  cases e with
  | found w c d => exact ⟨⟨fun p hp => (by cases hp), trivial⟩, by show _ + 0 ≤ _; omega, by show _ + 0 ≤ _; omega⟩
  | lift w c d ms =>
    have hw := hform.2
    simp only [Bool.and_eq_true] at hw
    have hne : ms ≠ [] := fun z => by rw [z] at hw; simp at hw
    have hnd : ms.length ≤ _ := hnd
    exact ⟨⟨fun p hp => (f.there p hp).1, hne⟩, by show _ + ms.length ≤ _; omega, by show _ + ms.length ≤ _; omega⟩
  | merge d ps =>
    have hw := hform.2
    simp only [Bool.and_eq_true] at hw
    have h2 := of_decide_eq_true hw.1
    have hne : ps ≠ [] := fun z => by rw [z] at h2; simp at h2
    have hnd : ps.length ≤ _ := hnd
    exact ⟨⟨fun p hp => (f.there p hp).1, hne⟩, by show _ + ps.length ≤ _; omega, by show _ + ps.length ≤ _; omega⟩
  | split k d ws =>
    have ht := f.there (k, sumN ws) List.mem_cons_self
    have al : (bookOf es).lots.length + ws.length ≤ 60 := al
    refine ⟨⟨fun p hp => ?_, trivial⟩, ?_, ?_⟩
    · obtain ⟨w, hw, e⟩ := List.mem_map.mp (show p ∈ ws.map fun w => (k, w) from hp)
      rw [← e]; exact ht.1
    · show _ + (ws.map fun w => (k, w)).length ≤ _
      rw [List.length_map]; omega
    · show _ + (ws.map fun w => (k, w)).length ≤ _
      rw [List.length_map]; omega
  | lose k w d =>
    have ht := f.there (k, w) List.mem_cons_self
    refine ⟨⟨fun p hp => ?_, trivial⟩, by show _ + 1 ≤ _; omega, by show _ + 1 ≤ _; omega⟩
    have : p = (k, w) := by simpa [Entry.rows] using hp
    rw [this]; exact ht.1
end LF
end
section
set_option linter.all false
set_option autoImplicit false
namespace LF
open TbBase TbLtBook

/-! ## the calls, as the program answers them: entries and what is answered -/
abbrev Es := List Entry
def lastDay (es : Es) : Nat := (es.getLast?.map Entry.day).getD 0
def gd (c : Bool) (code : Int) : Option (List Int) := if c = true then some [code] else none
def orNext (o : Option (List Int)) (k : Option (List Int)) : Option (List Int) := match o with
  | some ns => some ns
  | none => k
def outOf (o : Option (List Int)) (es : Es) (k : Es × List Int) : Es × List Int := match o with
  | some ns => (es, ns)
  | none => k
def chkEntry (es : Es) (d lots legs : Nat) : Option (List Int) :=
  orNext (gd (decide (0 < es.length) && decide (d < lastDay es)) (-8)) (gd ((decide (es.length = 200) || decide (60 < (mbookOf es).lots.length + lots)) || decide (160 < (mbookOf es).legs.length + legs)) (-7))
def chkRows (B : MB) : Nat → List Nat → List (Nat × Nat) → Option (List Int)
  | _, _, [] => none
  | i, seen, p :: r => if B.lots.length ≤ p.1 then some [-4, (i : Int)] else if seen.contains p.1 = true then some [-9, (i : Int)] else if (B.lot p.1).left < (p.2 : Int) then some [-5, (i : Int)] else chkRows B (i + 1) (seen ++ [p.1]) r
def chkLot (B : MB) (n : Nat) : Option (List Int) := gd (decide (B.lots.length ≤ n)) (-4)
def riseFrom (f : Nat → Bool) (code : Int) : Int → Nat → List Nat → Option (List Int)
  | _, _, [] => none
  | before, i, n :: r => if (decide ((n : Int) ≤ before) || !f n) = true then some [code, (i : Int)] else riseFrom f code n (i + 1) r
def chkSome (B : MB) (x : Nat) (fs : List Nat) : Option (List Int) := orNext (chkLot B x) (riseFrom (fun n => decide (n < B.lots.length) && (B.lot n).founder) (-11) (-1) 0 fs)
def chkSet (B : MB) (s : List Nat) : Option (List Int) := riseFrom (fun n => decide (n < B.lots.length)) (-12) (-1) 0 s
def isW10 (w : Nat) : Bool := decide (1 ≤ w) && decide (w ≤ 1000000)
def pairsOf (row : List Nat) : List (Nat × Nat) := (List.range (row.length / 2)).map fun k => (row.getD (2 * k) 0, row.getD (2 * k + 1) 0)
def oddsOf (row : List Nat) : List Nat := (List.range (row.length / 2)).map fun k => row.getD (2 * k + 1) 0
def arePairs (row : List Nat) (k : Nat) : Bool := decide (row.length % 2 = 0) && (decide (2 * k ≤ row.length) && (oddsOf row).all isW10)
end LF
end
section
set_option linter.all false
set_option autoImplicit false
namespace LF
open TbBase TbLtBook

def vz (n : Nat) : Int := (n : Int)
def row0 (rows : List (List Nat)) : List Nat := rows.getD 0 []
def row1 (rows : List (List Nat)) : List Nat := rows.getD 1 []
abbrev Deed := Es → List Nat → List (List Nat) → Es × List Int
def foundM : Deed := fun es a _ =>
  outOf (orNext (gd (!isW10 (a.getD 0 0) || (decide (9 < a.getD 1 0) || decide (36524 < a.getD 2 0))) (-1)) (chkEntry es (a.getD 2 0) 1 0)) es
    (es ++ [.found (a.getD 0 0) (a.getD 1 0) (a.getD 2 0)], [vz (mbookOf es).lots.length])
def liftM : Deed := fun es a r =>
  outOf (orNext (gd (!isW10 (a.getD 0 0) || (decide (9 < a.getD 1 0) || (decide (36524 < a.getD 2 0) || !arePairs (row0 r) 1))) (-1)) (orNext (chkEntry es (a.getD 2 0) 1 0)
    (orNext (chkRows (mbookOf es) 0 [] (pairsOf (row0 r))) (gd ((pairsOf (row0 r)).any fun p => decide (a.getD 1 0 < ((mbookOf es).lot p.1).cls)) (-6))))) es
    (es ++ [.lift (a.getD 0 0) (a.getD 1 0) (a.getD 2 0) (pairsOf (row0 r))], [vz (mbookOf es).lots.length])
def mergeM : Deed := fun es a r =>
  outOf (orNext (gd (decide (36524 < a.getD 0 0) || !arePairs (row0 r) 2) (-1)) (orNext (chkEntry es (a.getD 0 0) 1 (pairsOf (row0 r)).length) (chkRows (mbookOf es) 0 [] (pairsOf (row0 r))))) es
    (es ++ [.merge (a.getD 0 0) (pairsOf (row0 r))], [vz (mbookOf es).lots.length])
def splitM : Deed := fun es a r =>
  outOf (orNext (gd (decide (36524 < a.getD 1 0) || (decide ((row0 r).length = 0) || !(row0 r).all isW10)) (-1)) (orNext (chkEntry es (a.getD 1 0) (row0 r).length (row0 r).length)
    (orNext (chkLot (mbookOf es) (a.getD 0 0)) (gd (decide (((mbookOf es).lot (a.getD 0 0)).left < (((row0 r).sum : Nat) : Int))) (-5))))) es
    (es ++ [.split (a.getD 0 0) (a.getD 1 0) (row0 r)], [vz (mbookOf es).lots.length])
def loseM : Deed := fun es a _ =>
  outOf (orNext (gd (!isW10 (a.getD 1 0) || decide (36524 < a.getD 2 0)) (-1)) (orNext (chkEntry es (a.getD 2 0) 0 0)
    (orNext (chkLot (mbookOf es) (a.getD 0 0)) (gd (decide (((mbookOf es).lot (a.getD 0 0)).left < (a.getD 1 0 : Int))) (-5))))) es
    (es ++ [.lose (a.getD 0 0) (a.getD 1 0) (a.getD 2 0)], [((mbookOf (es ++ [.lose (a.getD 0 0) (a.getD 1 0) (a.getD 2 0)])).lot (a.getD 0 0)).left])
def undoM : Deed := fun es _ _ => outOf (gd (decide (es.length = 0)) (-10)) es (es.dropLast, [vz (es.length - 1)])
def lotM : Deed := fun es a _ =>
  let l := (mbookOf es).lot (a.getD 0 0)
  outOf (chkLot (mbookOf es) (a.getD 0 0)) es (es, [l.left, vz l.made, vz l.planted, vz l.lost, vz l.gen, vz l.cls, vz l.day, vz l.born])
def legsM : Deed := fun es _ _ => (es, vz (mbookOf es).legs.length :: (mbookOf es).legs.flatMap fun g => [vz g.of, vz g.to, vz g.weight])
def thenM : Deed := fun es a _ =>
  let B := mbookOf (es.filter fun e => decide (e.day ≤ a.getD 0 0))
  (es, vz B.lots.length :: (List.range B.lots.length).map fun n => (B.lot n).left)
def mayM : Deed := fun es a r =>
  outOf (chkSome (mbookOf es) (a.getD 0 0) (row0 r)) es (es, [vz (TbLtFlow.most (bookOf es) (row0 r) (a.getD 0 0)), ((mbookOf es).lot (a.getD 0 0)).left - vz (TbLtFlow.most (bookOf es) (TbLtFlow.others (bookOf es) (row0 r)) (a.getD 0 0))])
def cutM : Deed := fun es a r =>
  outOf (chkSome (mbookOf es) (a.getD 0 0) (row0 r)) es (es, vz (TbLtFlow.most (bookOf es) (row0 r) (a.getD 0 0)) ::
    ((List.range (mbookOf es).lots.length).filter (TbLtFlow.cameTo (TbLtFlow.stillTo (bookOf es) (row0 r) (TbLtFlow.flow (bookOf es) (row0 r) (a.getD 0 0))))).map vz)
def weighM : Deed := fun es a r =>
  outOf (orNext (chkSome (mbookOf es) (a.getD 0 0) (row0 r)) (chkSet (mbookOf es) (row1 r))) es (es, [(mbookOf es).weightOf (a.getD 0 0) (row0 r) (row1 r)])
def overM (laid : List Nat) : Nat → List Leg → Option (List Int)
  | _, [] => none
  | i, g :: r => if g.weight < laid.getD i 0 then some [-14, (i : Int)] else overM laid (i + 1) r
/-- whether a lot's remainder may be -/
def remOk (B : MB) (fs laid : List Nat) (n : Nat) : Bool := decide (0 ≤ B.remainder n fs laid) && decide (B.remainder n fs laid ≤ (B.lot n).left + (B.lot n).planted + (B.lot n).lost)
def wrongM (B : MB) (fs laid : List Nat) : Nat → Nat → Option (List Int)
  | 0, _ => none
  | f + 1, n => if remOk B fs laid n = true then wrongM B fs laid f (n + 1) else some [-15, (n : Int)]
def layM : Deed := fun es a r =>
  let B := mbookOf es
  let m := B.remainder (a.getD 0 0) (row0 r) (row1 r)
  let l := B.lot (a.getD 0 0)
  outOf (orNext (chkSome B (a.getD 0 0) (row0 r)) (orNext (gd (!decide ((row1 r).length = B.legs.length)) (-13)) (orNext (overM (row1 r) 0 B.legs) (wrongM B (row0 r) (row1 r) B.lots.length 0)))) es
    (es, [if m - l.planted - l.lost > 0 then m - l.planted - l.lost else 0, if l.left < m then l.left else m])
def keysIn {β : Type} (t : List (Int × β)) (n : Nat) : List Nat := (List.range n).filter fun (i : Nat) => (look t (i : Int)).isSome
def sharesM : Deed := fun es a _ =>
  let B := mbookOf es
  let t := (B.shareTabs (a.getD 0 0 + 1)).getD (a.getD 0 0) []
  let left := (B.lot (a.getD 0 0)).left.toNat
  outOf (chkLot B (a.getD 0 0)) es (es, vz t.length :: (keysIn t B.lots.length).flatMap fun (i : Nat) => let p := (look t (i : Int)).getD (0, 1); [vz i, vz (ratioN (p.1 * left) p.2).1, vz (ratioN (p.1 * left) p.2).2])
def begT (l : List Nat) : Tab := l.map fun (n : Nat) => ((n : Int), (0 : Int))
def rowsM (B : MB) (back : Bool) : List (Nat × Nat) := if back = true then B.steps.map (fun r => (r.2, r.1)) else B.steps
def fallT (B : MB) (l : List Nat) (back : Bool) : Tab := bfs (rowsM B back) (B.lots.length + 1) 0 (begT l)
def fallsM : Deed := fun es _ r =>
  let B := mbookOf es
  let t := fallT B (row0 r) false
  outOf (chkSet B (row0 r)) es (es, vz t.length :: (keysIn t B.lots.length).flatMap fun (i : Nat) => [vz i, (look t (i : Int)).getD 0, (B.lot i).left])
def mothersM : Deed := fun es a _ =>
  let B := mbookOf es
  let t := fallT B [a.getD 0 0] true
  outOf (chkLot B (a.getD 0 0)) es (es, vz t.length :: (keysIn t B.lots.length).flatMap fun (i : Nat) => [vz i, (look t (i : Int)).getD 0])
def sumsM : Deed := fun es _ _ =>
  let B := mbookOf es
  let all := (List.range B.lots.length).map B.lot
  (es, [vz ((all.filter ML.founder).map (·.made)).sum, vz (all.map (·.planted)).sum, vz (all.map (·.lost)).sum, (all.map ML.left).sum])
theorem out_none {o : Option (List Int)} {es : Es} {k : Es × List Int} (h : o = none) : outOf o es k = k := by rw [h]; rfl
theorem out_some {o : Option (List Int)} {es : Es} {k : Es × List Int} {ns : List Int} (h : o = some ns) : outOf o es k = (es, ns) := by rw [h]; rfl
theorem next_none {o k : Option (List Int)} (h : o = none) : orNext o k = k := by rw [h]; rfl
theorem next_some {o k : Option (List Int)} {ns : List Int} (h : o = some ns) : orNext o k = some ns := by rw [h]; rfl
end LF
end
section
set_option linter.all false
set_option autoImplicit false
namespace LF
open TbBase TbLtBook
theorem rise_none {f : Nat → Bool} {code : Int} : ∀ (l : List Nat) (before : Int) (i : Nat), riseFrom f code before i l = none → (∀ n ∈ l, before < (n : Int) ∧ f n = true) ∧ l.Pairwise (· < ·)
  | [], _, _, _ => ⟨fun n h => (by cases h), List.Pairwise.nil⟩
  | n :: r, before, i, h => by
    unfold riseFrom at h
    split at h
    · cases h
    · rename_i hc
      rw [Bool.or_eq_true, decide_eq_true_eq] at hc
      have h1 : before < (n : Int) := by
        have : ¬ ((n : Int) ≤ before) := fun z => hc (.inl z)
        omega
      have h2 : f n = true := by
        cases e : f n with
        | true => rfl
        | false => exact absurd (.inr (by rw [e]; rfl)) hc
      obtain ⟨q1, q2⟩ := rise_none r n (i + 1) h
      refine ⟨fun m hm => ?_, List.pairwise_cons.mpr ⟨fun m hm => ?_, q2⟩⟩
      · rcases List.mem_cons.mp hm with e | hm
        · rw [e]; exact ⟨h1, h2⟩
        · have := q1 m hm
          exact ⟨by omega, this.2⟩
      · have := (q1 m hm).1
        omega
theorem lt_nodup {l : List Nat} (h : l.Pairwise (· < ·)) : l.Nodup := by
  rw [List.nodup_iff_pairwise_ne]
  exact h.imp fun {a b} q => by omega
theorem orNext_none {o k : Option (List Int)} (h : orNext o k = none) : o = none ∧ k = none := by
  cases o with
  | none => exact ⟨rfl, h⟩
  | some x => cases h
theorem gdf {c : Bool} {code : Int} (h : gd c code = none) : c = false := by
  unfold gd at h
  cases c with
  | true => cases h
  | false => rfl
theorem chkLot_none {B : MB} {n : Nat} (h : chkLot B n = none) : n < B.lots.length := by
  have := of_decide_eq_false (gdf h)
  omega
theorem chkSome_none {B : MB} {x : Nat} {fs : List Nat} (h : chkSome B x fs = none) : x < B.lots.length ∧ (∀ f ∈ fs, f < B.lots.length ∧ (B.lot f).founder = true) ∧ fs.Nodup := by
  obtain ⟨h1, h2⟩ := orNext_none h
  obtain ⟨q1, q2⟩ := rise_none _ _ _ h2
  refine ⟨chkLot_none h1, fun f hf => ?_, lt_nodup q2⟩
  have := (q1 f hf).2
  rw [Bool.and_eq_true, decide_eq_true_eq] at this
  exact this
theorem chkSet_none {B : MB} {s : List Nat} (h : chkSet B s = none) : (∀ f ∈ s, f < B.lots.length) ∧ s.Nodup := by
  obtain ⟨q1, q2⟩ := rise_none _ _ _ h
  exact ⟨fun f hf => of_decide_eq_true (q1 f hf).2, lt_nodup q2⟩
theorem Good.sorted {es : Es} (h : Good es) : ∀ x ∈ es, ∀ l, es.getLast? = some l → x.day ≤ l.day := by
  induction h with
  | nil => intro x hx; cases hx
  | snoc es e h hr ih =>
    intro x hx l hl
    have el : l = e := by
      rw [List.getLast?_append] at hl
      simpa using hl.symm
    subst el
    rcases List.mem_append.mp hx with hx | hx
    · have a := accept_of hr
      cases hg : es.getLast? with
      | none =>
        have : es = [] := List.getLast?_eq_none_iff.mp hg
        rw [this] at hx; cases hx
      | some y =>
        have := ih x hx y hg
        have := a.day y hg
        omega
    · have : x = l := by simpa using hx
      rw [this]; exact Nat.le_refl _
theorem Good.filter {es : Es} (h : Good es) (d : Nat) : ∃ i, es.filter (fun e => decide (e.day ≤ d)) = es.take i := by
  induction h with
  | nil => exact ⟨0, rfl⟩
  | snoc es e h hr ih =>
    by_cases hd : e.day ≤ d
    · refine ⟨es.length + 1, ?_⟩
      have hall : ∀ x ∈ es ++ [e], decide (x.day ≤ d) = true := fun x hx => by
        have := (Good.snoc es e h hr).sorted x hx e (by rw [List.getLast?_append]; rfl)
        exact decide_eq_true (by omega)
      rw [List.filter_eq_self.mpr hall, List.take_of_length_le (by rw [List.length_append]; exact Nat.le_refl _)]
    · obtain ⟨i, hi⟩ := ih
      refine ⟨min i es.length, ?_⟩
      rw [List.filter_append, hi, List.filter_cons, if_neg (by rw [decide_eq_false hd]; decide), List.filter_nil, List.append_nil, List.take_append_of_le_length (Nat.min_le_right _ _)]
      rw [List.take_eq_take_iff]
      omega
theorem net_of {es : Es} (h : GoodIs es) {x : Nat} {fs : List Nat} (hc : chkSome (mbookOf es) x fs = none) : Net (bookOf es) fs x := by
  obtain ⟨h1, h2, h3⟩ := chkSome_none hc
  have hl := h.rel.len
  refine ⟨fun g hg => ?_, fun f hf => ?_, h3, by rw [hl]; exact h1⟩
  · rw [h.rel.legs] at hg
    have := h.rel.leg g hg
    omega
  · rw [hl]; exact (h2 f hf).1
end LF
end
section
set_option linter.all false
set_option autoImplicit false
namespace LF
open TbBase TbLtBook
theorem bfs_ok {n : Nat} {rows : List (Nat × Nat)} (hr : ∀ r ∈ rows, r.2 < n) : ∀ (f place : Nat) {t : Tab}, TabOk n t → TabOk n (bfs rows f place t)
  | 0, _, _, h => h
  | f + 1, place, t, h => by
    unfold bfs
    split
    · exact bfs_ok hr f (place + 1) (bfsRow_ok rows h hr)
    · exact h
theorem rowsM_ok {B : MB} (F : B.Fine) (back : Bool) : ∀ r ∈ rowsM B back, r.1 < B.lots.length ∧ r.2 < B.lots.length := by
  intro r hr
  unfold rowsM at hr
  split at hr
  · obtain ⟨r', h', rfl⟩ := List.mem_map.mp hr
    exact ⟨(F.step r' h').2, (F.step r' h').1⟩
  · exact F.step r hr
theorem begT_ok {n : Nat} {l : List Nat} (nd : l.Nodup) (hl : ∀ x ∈ l, x < n) : TabOk n (begT l) := by
  refine ⟨?_, fun k hk => ?_⟩
  · unfold begT
    rw [List.map_map]
    have : ((fun p : Int × Int => p.1) ∘ fun (n : Nat) => ((n : Int), (0 : Int))) = fun (n : Nat) => (n : Int) := rfl
    rw [this, List.nodup_iff_pairwise_ne, List.pairwise_map]
    rw [List.nodup_iff_pairwise_ne] at nd
    exact nd.imp fun {a b} h z => h (by omega)
  · unfold begT at hk
    rw [List.map_map] at hk
    obtain ⟨m, hm, en⟩ := List.mem_map.mp hk
    have := hl m hm
    have en : (m : Int) = k := en
    omega
theorem fall_ok {B : MB} (F : B.Fine) {l : List Nat} (nd : l.Nodup) (hl : ∀ x ∈ l, x < B.lots.length) (back : Bool) : TabOk B.lots.length (fallT B l back) := bfs_ok (fun r hr => (rowsM_ok F back r hr).2) _ _ (begT_ok nd hl)
/-- the keys, sorted -/
theorem keys_sorted {β : Type} {t : List (Int × β)} {n : Nat} (nd : (t.map (·.1)).Nodup) (rng : ∀ k : Int, k ∈ t.map (·.1) → 0 ≤ k ∧ k < n) {ys : List Int} (hp : ys.Perm (t.map (·.1))) (hs : ys.Pairwise (· ≤ ·)) : ys = (keysIn t n).map vz := by
  refine sorted_perm nd hp hs (range_filter_sorted n _) fun x => ?_
  constructor
  · intro hx
    have := rng x hx
    refine List.mem_map.mpr ⟨x.toNat, List.mem_filter.mpr ⟨List.mem_range.mpr (by omega), ?_⟩, show ((x.toNat : Nat) : Int) = x by omega⟩
    rw [show ((x.toNat : Nat) : Int) = x by omega, look_key]
    exact hx
  · intro hx
    obtain ⟨i, hi, ei⟩ := List.mem_map.mp hx
    have h2 := (List.mem_filter.mp hi).2
    rw [look_key] at h2
    have ei : (i : Int) = x := ei
    rw [← ei]; exact h2
theorem keysIn_le {β : Type} (t : List (Int × β)) (n : Nat) : (keysIn t n).length ≤ n := by
  unfold keysIn
  have := List.length_filter_le (fun (i : Nat) => (look t (i : Int)).isSome) (List.range n)
  rwa [List.length_range] at this
theorem keysIn_mem {β : Type} {t : List (Int × β)} {n i : Nat} (h : i ∈ keysIn t n) : i < n ∧ ∃ v, look t (i : Int) = some v := by
  obtain ⟨h1, h2⟩ := List.mem_filter.mp h
  refine ⟨List.mem_range.mp h1, ?_⟩
  cases e : look t (i : Int) with
  | some v => exact ⟨v, rfl⟩
  | none => rw [e] at h2; cases h2
theorem flatMap_len {α : Type} {f : α → List Int} {c : Nat} : ∀ (l : List α), (∀ x ∈ l, (f x).length = c) → (l.flatMap f).length = l.length * c
  | [], _ => by simp
  | x :: r, h => by
    rw [List.flatMap_cons, List.length_append, flatMap_len r fun y hy => h y (List.mem_cons_of_mem _ hy), h x List.mem_cons_self, List.length_cons, Nat.succ_mul]
    omega
theorem over_drop {laid : List Nat} {gs : List Leg} {i : Nat} {g : Leg} (h : gs[i]? = some g) : overM laid i (gs.drop i) = if g.weight < laid.getD i 0 then some [-14, (i : Int)] else overM laid (i + 1) (gs.drop (i + 1)) := by
  have hi : i < gs.length := (List.getElem?_eq_some_iff.mp h).1
  have hdrop : gs.drop i = g :: gs.drop (i + 1) := by rw [List.drop_eq_getElem_cons hi]; congr 1; rw [List.getElem?_eq_getElem hi] at h; exact Option.some.inj h
  rw [hdrop]
  conv => lhs; unfold overM
end LF
end
section
set_option linter.all false
set_option autoImplicit false
namespace LF
open TbBase TbLtBook
def deedP : List (Deed × Nat × Nat) := [(foundM, 3, 0), (liftM, 3, 1), (mergeM, 1, 1), (splitM, 2, 1), (loseM, 3, 0), (undoM, 0, 0), (lotM, 1, 0), (legsM, 0, 0), (thenM, 1, 0), (mayM, 1, 1), (cutM, 1, 1), (weighM, 1, 2), (layM, 1, 2), (sharesM, 1, 0), (fallsM, 0, 1), (mothersM, 1, 0), (sumsM, 0, 0)]
def natL (l : List Int) : List Nat := l.map Int.toNat
/-- one call, as the program answers it -/
def stepM (es : Es) (c : List (List Int)) : Es × List Int := match c with
  | (p :: xs) :: rows => (match deedP[(p - 1).toNat]? with
    | some z => z.1 es (natL xs) (rows.map natL)
    | none => (es, []))
  | _ => (es, [])
theorem shape_deed {p : Int} {n k : Nat} (h : PyWrtblt.shape p = some (n, k)) : ∃ i d, i < 17 ∧ p = ((i : Nat) : Int) + 1 ∧ deedP[i]? = some (d, n, k) := by
  by_cases h1 : p = 1
  · subst h1
    have h : some (3, 0) = some (n, k) := h
    injection h with h
    injection h with e1 e2
    subst e1 e2
    exact ⟨0, foundM, by decide, rfl, rfl⟩
  by_cases h2 : p = 2
  · subst h2
    have h : some (3, 1) = some (n, k) := h
    injection h with h
    injection h with e1 e2
    subst e1 e2
    exact ⟨1, liftM, by decide, rfl, rfl⟩
  by_cases h3 : p = 3
  · subst h3
    have h : some (1, 1) = some (n, k) := h
    injection h with h
    injection h with e1 e2
    subst e1 e2
    exact ⟨2, mergeM, by decide, rfl, rfl⟩
  by_cases h4 : p = 4
  · subst h4
    have h : some (2, 1) = some (n, k) := h
    injection h with h
    injection h with e1 e2
    subst e1 e2
    exact ⟨3, splitM, by decide, rfl, rfl⟩
  by_cases h5 : p = 5
  · subst h5
    have h : some (3, 0) = some (n, k) := h
    injection h with h
    injection h with e1 e2
    subst e1 e2
    exact ⟨4, loseM, by decide, rfl, rfl⟩
  by_cases h6 : p = 6
  · subst h6
    have h : some (0, 0) = some (n, k) := h
    injection h with h
    injection h with e1 e2
    subst e1 e2
    exact ⟨5, undoM, by decide, rfl, rfl⟩
  by_cases h7 : p = 7
  · subst h7
    have h : some (1, 0) = some (n, k) := h
    injection h with h
    injection h with e1 e2
    subst e1 e2
    exact ⟨6, lotM, by decide, rfl, rfl⟩
  by_cases h8 : p = 8
  · subst h8
    have h : some (0, 0) = some (n, k) := h
    injection h with h
    injection h with e1 e2
    subst e1 e2
    exact ⟨7, legsM, by decide, rfl, rfl⟩
  by_cases h9 : p = 9
  · subst h9
    have h : some (1, 0) = some (n, k) := h
    injection h with h
    injection h with e1 e2
    subst e1 e2
    exact ⟨8, thenM, by decide, rfl, rfl⟩
  by_cases h10 : p = 10
  · subst h10
    have h : some (1, 1) = some (n, k) := h
    injection h with h
    injection h with e1 e2
    subst e1 e2
    exact ⟨9, mayM, by decide, rfl, rfl⟩
  by_cases h11 : p = 11
  · subst h11
    have h : some (1, 1) = some (n, k) := h
    injection h with h
    injection h with e1 e2
    subst e1 e2
    exact ⟨10, cutM, by decide, rfl, rfl⟩
  by_cases h12 : p = 12
  · subst h12
    have h : some (1, 2) = some (n, k) := h
    injection h with h
    injection h with e1 e2
    subst e1 e2
    exact ⟨11, weighM, by decide, rfl, rfl⟩
  by_cases h13 : p = 13
  · subst h13
    have h : some (1, 2) = some (n, k) := h
    injection h with h
    injection h with e1 e2
    subst e1 e2
    exact ⟨12, layM, by decide, rfl, rfl⟩
  by_cases h14 : p = 14
  · subst h14
    have h : some (1, 0) = some (n, k) := h
    injection h with h
    injection h with e1 e2
    subst e1 e2
    exact ⟨13, sharesM, by decide, rfl, rfl⟩
  by_cases h15 : p = 15
  · subst h15
    have h : some (0, 1) = some (n, k) := h
    injection h with h
    injection h with e1 e2
    subst e1 e2
    exact ⟨14, fallsM, by decide, rfl, rfl⟩
  by_cases h16 : p = 16
  · subst h16
    have h : some (1, 0) = some (n, k) := h
    injection h with h
    injection h with e1 e2
    subst e1 e2
    exact ⟨15, mothersM, by decide, rfl, rfl⟩
  by_cases h17 : p = 17
  · subst h17
    have h : some (0, 0) = some (n, k) := h
    injection h with h
    injection h with e1 e2
    subst e1 e2
    exact ⟨16, sumsM, by decide, rfl, rfl⟩
  unfold PyWrtblt.shape at h
  rw [if_neg h1, if_neg h2, if_neg h3, if_neg h4, if_neg h5, if_neg h6, if_neg h7, if_neg h8, if_neg h9, if_neg h10, if_neg h11, if_neg h12, if_neg h13, if_neg h14, if_neg h15, if_neg h16, if_neg h17] at h
  cases h
theorem row_is {l x s : List Int} (h : PyFlat.row l = some (x, s)) : ∃ m r, l = m :: r ∧ 0 ≤ m ∧ m.toNat ≤ r.length ∧ x = r.take m.toNat ∧ s = r.drop m.toNat := by
  cases l with
  | nil => cases h
  | cons m r =>
    have h : (if 0 ≤ m ∧ m.toNat ≤ r.length then some (r.take m.toNat, r.drop m.toNat) else none) = some (x, s) := h
    split at h
    · rename_i hc
      injection h with h
      injection h with h1 h2
      exact ⟨m, r, rfl, hc.1, hc.2, h1.symm, h2.symm⟩
    · cases h
theorem rows_zero {l t : List Int} {xs : List (List Int)} (h : PyFlat.rows 0 l = some (xs, t)) : xs = [] ∧ t = l := by
  unfold PyFlat.rows at h
  injection h with h
  injection h with h1 h2
  exact ⟨h1.symm, h2.symm⟩
theorem rows_succ {k : Nat} {l t : List Int} {xs : List (List Int)} (h : PyFlat.rows (k + 1) l = some (xs, t)) : ∃ x s ys, PyFlat.row l = some (x, s) ∧ PyFlat.rows k s = some (ys, t) ∧ xs = x :: ys := by
  unfold PyFlat.rows at h
  split at h
  · cases h
  · rename_i x s h1
    split at h
    · cases h
    · rename_i ys t' h2
      injection h with h
      injection h with h3 h4
      subst h4
      exact ⟨x, s, ys, h1, h2, h3.symm⟩
theorem rows_len : ∀ {k : Nat} {l t : List Int} {xs : List (List Int)}, PyFlat.rows k l = some (xs, t) → xs.length = k
  | 0, _, _, _, h => by rw [(rows_zero h).1]; rfl
  | k + 1, _, _, _, h => by
    obtain ⟨x, s, ys, _, h2, e⟩ := rows_succ h
    rw [e, List.length_cons, rows_len h2]
theorem calls_cons {f : Nat} {p : Int} {r : List Int} {cs : List (List (List Int))} (h : PyFlat.calls PyWrtblt.shape f (p :: r) = some cs) :
    ∃ f' n k xs t cs', PyWrtblt.shape p = some (n, k) ∧ n ≤ r.length ∧ PyFlat.rows k (r.drop n) = some (xs, t) ∧ PyFlat.calls PyWrtblt.shape f' t = some cs' ∧ cs = ((p :: r.take n) :: xs) :: cs' := by
  cases f with
  | zero => cases h
  | succ f =>
    unfold PyFlat.calls at h
    split at h
    · cases h
    · rename_i c t hc
      split at h
      · cases h
      · rename_i cs' hcs
        injection h with h
        have hc : (match PyWrtblt.shape p with
          | none => none
          | some (n, k) => if r.length < n then none else match PyFlat.rows k (r.drop n) with
            | none => none
            | some (xs, t) => some ((p :: r.take n) :: xs, t)) = some (c, t) := hc
        cases e : PyWrtblt.shape p with
        | none => rw [e] at hc; cases hc
        | some z =>
          obtain ⟨n, k⟩ := z
          rw [e] at hc
          have hc : (if r.length < n then none else match PyFlat.rows k (r.drop n) with
            | none => none
            | some (xs, t) => some ((p :: r.take n) :: xs, t)) = some (c, t) := hc
          split at hc
          · cases hc
          · rename_i hl
            cases e2 : PyFlat.rows k (r.drop n) with
            | none => rw [e2] at hc; cases hc
            | some z =>
              obtain ⟨xs, t'⟩ := z
              rw [e2] at hc
              have hc : some ((p :: r.take n) :: xs, t') = some (c, t) := hc
              injection hc with hc
              injection hc with h1 h2
              subst h1 h2
              exact ⟨f, n, k, xs, t', cs', rfl, by omega, e2, hcs, h.symm⟩
theorem calls_nil {f : Nat} {cs : List (List (List Int))} (h : PyFlat.calls PyWrtblt.shape f [] = some cs) : cs = [] := by
  cases f <;> (unfold PyFlat.calls at h; injection h with h; exact h.symm)
end LF
end
section
set_option linter.all false
set_option autoImplicit false
namespace LF
open TbBase TbLtBook TbLtSpec

/-! ## the law: entries -/
def tellR (x : Nat × Option Nat) : List Int := TbLtNeutral.told (refuses x.1 x.2)
def restOf (es : Es) (e : Entry) : Option (List Int) := match (bookOf es).wrongFrom 0 [] e.takes.1 with
  | some x => some (tellR (x.1, if e.takes.2 = true then some x.2 else none))
  | none => if (bookOf es).betters e = true then some [-6] else none
theorem last_any (es : Es) (d : Nat) : (es.getLast?.any fun (x : Entry) => decide (d < x.day)) = (decide (0 < es.length) && decide (d < lastDay es)) := by
  unfold lastDay
  cases h : es.getLast? with
  | none =>
    have : es = [] := List.getLast?_eq_none_iff.mp h
    rw [this]; rfl
  | some x =>
    have : 0 < es.length := by
      cases es with
      | nil => cases h
      | cons a r => simp
    rw [decide_eq_true this]; rfl
theorem enter_chain {es : Es} (hI : GoodIs es) (e : Entry) : orNext (gd (!e.formed) (-1)) (orNext (chkEntry es e.day e.newLots e.newLegs) (restOf es e)) = (refusal es e).map tellR := by
  have hl := hI.rel.len
  have hg : (bookOf es).legs.length = (mbookOf es).legs.length := by rw [hI.rel.legs]
  have hlen := hI.len
  unfold refusal
  simp only
  cases hf : e.formed with
  | false => rfl
  | true =>
    rw [if_neg (by decide), last_any]
    show orNext (chkEntry es e.day e.newLots e.newLegs) (restOf es e) = _
    unfold chkEntry
    cases h8 : (decide (0 < es.length) && decide (e.day < lastDay es)) with
    | true => rfl
    | false =>
      rw [if_neg (by decide)]
      show orNext (gd ((decide (es.length = 200) || decide (60 < (mbookOf es).lots.length + e.newLots)) || decide (160 < (mbookOf es).legs.length + e.newLegs)) (-7)) (restOf es e) = _
      by_cases h7 : ENTRIES ≤ es.length ∨ LOTS < (bookOf es).lots.length + e.newLots ∨ LEGS < (bookOf es).legs.length + e.newLegs
      · rw [if_pos h7]
        have : ((decide (es.length = 200) || decide (60 < (mbookOf es).lots.length + e.newLots)) || decide (160 < (mbookOf es).legs.length + e.newLegs)) = true := by
          simp only [ENTRIES, LOTS, LEGS] at h7
          simp only [Bool.or_eq_true, decide_eq_true_eq]
          omega
        rw [this]; rfl
      · rw [if_neg h7]
        have : ((decide (es.length = 200) || decide (60 < (mbookOf es).lots.length + e.newLots)) || decide (160 < (mbookOf es).legs.length + e.newLegs)) = false := by
          simp only [ENTRIES, LOTS, LEGS] at h7
          simp only [Bool.or_eq_false_iff, decide_eq_false_iff_not]
          omega
        rw [this]
        show restOf es e = _
        unfold restOf
        cases (bookOf es).wrongFrom 0 [] e.takes.1 with
        | some x => rfl
        | none =>
          show (if (bookOf es).betters e = true then some [-6] else none) = _
          by_cases hb : (bookOf es).betters e = true
          · rw [if_pos hb, if_pos hb]; rfl
          · rw [if_neg hb, if_neg hb]; rfl
/-- what an entering call does -/
def enterOut (es : Es) (e : Entry) : Es × List Int := ((TbLtSpec.step es (.enter e)).1, TbLtNeutral.told (TbLtSpec.step es (.enter e)).2)
theorem enter_law {es : Es} (hI : GoodIs es) (e : Entry) {o : Option (List Int)} (ho : o = orNext (gd (!e.formed) (-1)) (orNext (chkEntry es e.day e.newLots e.newLegs) (restOf es e))) {ns : List Int} (hn : refusal es e = none → ns = [((entered es e : Nat) : Int)]) : outOf o es (es ++ [e], ns) = enterOut es e := by
  rw [ho, enter_chain hI]
  unfold enterOut
  show _ = ((match refusal es e with
    | some x => (es, refuses x.1 x.2)
    | none => (es ++ [e], says (entered es e : Nat)) : Es × Answer).1, TbLtNeutral.told (match refusal es e with
    | some x => (es, refuses x.1 x.2)
    | none => (es ++ [e], says (entered es e : Nat)) : Es × Answer).2)
  cases h : refusal es e with
  | some x => rfl
  | none =>
    rw [hn h]; rfl
theorem enter_good {es : Es} (hG : Good es) (e : Entry) : Good (enterOut es e).1 := by
  unfold enterOut
  show Good ((match refusal es e with
    | some x => (es, refuses x.1 x.2)
    | none => (es ++ [e], says (entered es e : Nat)) : Es × Answer).1)
  cases h : refusal es e with
  | some x => exact hG
  | none => exact .snoc es e hG h
/-- the rows' refusals -/
theorem rows_law {B : MB} {b : Book} (r : RelB B b) : ∀ (ps : List (Nat × Nat)) (i : Nat) (seen had : List Nat), (∀ x, x ∈ seen ↔ x ∈ had) → chkRows B i seen ps = (b.wrongFrom i had ps).map fun x => tellR (x.1, some x.2)
  | [], _, _, _, _ => rfl
  | p :: q, i, seen, had, h => by
    unfold chkRows Book.wrongFrom
    by_cases h1 : B.lots.length ≤ p.1
    · have hb : b.has p.1 = false := by unfold Book.has; rw [r.len]; exact decide_eq_false (by omega)
      rw [if_pos h1, if_pos hb]; rfl
    · have hlt : p.1 < B.lots.length := by omega
      have hb : ¬ b.has p.1 = false := by unfold Book.has; rw [r.len, decide_eq_true hlt]; decide
      rw [if_neg h1, if_neg hb]
      have hc : seen.contains p.1 = had.contains p.1 := by
        rw [Bool.eq_iff_iff, List.contains_iff_mem, List.contains_iff_mem]
        exact h p.1
      rw [hc]
      by_cases h2 : had.contains p.1 = true
      · rw [if_pos h2, if_pos h2]; rfl
      · rw [if_neg h2, if_neg h2]
        have hl := r.leftN hlt
        by_cases h3 : (B.lot p.1).left < (p.2 : Int)
        · rw [if_pos h3, if_pos (by omega)]; rfl
        · rw [if_neg h3, if_neg (by omega)]
          exact rows_law r q (i + 1) (seen ++ [p.1]) (p.1 :: had) fun x => by
            rw [List.mem_append, List.mem_cons, h x]
            simp only [List.mem_cons, List.not_mem_nil, or_false]
            exact Or.comm
theorem ent_len {es : Es} (hI : GoodIs es) : (bookOf es).lots.length = (mbookOf es).lots.length := hI.rel.len
theorem found_law {es : Es} (hI : GoodIs es) (w c d : Nat) (rows : List (List Nat)) : foundM es [w, c, d] rows = enterOut es (.found w c d) := by
  refine enter_law hI (.found w c d) ?_ fun _ => ?_
  · have hb : (!isW10 w || (decide (9 < c) || decide (36524 < d))) = !(Entry.found w c d).formed := by
      show _ = !(decide (d ≤ 36524) && (isW10 w && decide (c ≤ 9)))
      by_cases h1 : d ≤ 36524 <;> by_cases h2 : c ≤ 9 <;> cases isW10 w <;> simp [h1, h2] <;> omega
    show orNext (gd (!isW10 w || (decide (9 < c) || decide (36524 < d))) (-1)) (chkEntry es d 1 0) = _
    rw [hb]
    have hr : restOf es (.found w c d) = none := rfl
    rw [hr]
    show _ = orNext _ (orNext (chkEntry es d 1 0) none)
    cases chkEntry es d 1 0 <;> rfl
  · show [vz (mbookOf es).lots.length] = [((bookOf es).lots.length : Int)]
    rw [ent_len hI]; rfl
end LF
end
section
set_option linter.all false
set_option autoImplicit false
namespace LF
open TbBase TbLtBook TbLtSpec

theorem pairsOf_twos : ∀ row : List Nat, pairsOf row = TbLtNeutral.twos row
  | [] => rfl
  | [a] => by
    unfold pairsOf
    rw [show [a].length / 2 = 0 by simp]
    rfl
  | a :: b :: r => by
    have ih := pairsOf_twos r
    unfold pairsOf at ih ⊢
    have hl : (a :: b :: r).length / 2 = r.length / 2 + 1 := by
      rw [List.length_cons, List.length_cons]; omega
    rw [hl, List.range_succ_eq_map, List.map_cons, List.map_map]
    show (a, b) :: _ = (a, b) :: TbLtNeutral.twos r
    rw [← ih]
    refine congrArg (fun z => (a, b) :: z) ?_
    apply List.map_congr_left
    intro k _
    show ((a :: b :: r).getD (2 * (k + 1)) 0, (a :: b :: r).getD (2 * (k + 1) + 1) 0) = _
    rw [show 2 * (k + 1) = 2 * k + 1 + 1 by omega]
    rfl
theorem odds_pairs (row : List Nat) : oddsOf row = (pairsOf row).map (·.2) := by
  unfold oddsOf pairsOf
  rw [List.map_map]; rfl
theorem nats_natL (l : List Int) : TbLtNeutral.nats l = natL l := rfl
theorem pairs_even {l : List Int} (h : l.length % 2 = 0) : TbLtNeutral.pairs l = pairsOf (natL l) := by
  unfold TbLtNeutral.pairs
  rw [if_pos h, nats_natL, pairsOf_twos]
theorem pairs_odd {l : List Int} (h : ¬ l.length % 2 = 0) : TbLtNeutral.pairs l = [] := by
  unfold TbLtNeutral.pairs
  rw [if_neg h]
theorem natL_len (l : List Int) : (natL l).length = l.length := List.length_map _
theorem pairsOf_length (row : List Nat) : (pairsOf row).length = row.length / 2 := by unfold pairsOf; rw [List.length_map, List.length_range]
theorem arePairs_even {row : List Nat} (h : row.length % 2 = 0) (k : Nat) : arePairs row k = (decide (k ≤ (pairsOf row).length) && (pairsOf row).all fun (x : Nat × Nat) => isW10 x.2) := by
  unfold arePairs
  rw [decide_eq_true h, Bool.true_and, odds_pairs, List.all_map, pairsOf_length]
  congr 1
  by_cases h2 : 2 * k ≤ row.length
  · rw [decide_eq_true h2, decide_eq_true (by omega)]
  · rw [decide_eq_false h2, decide_eq_false (by omega)]
theorem arePairs_odd {row : List Nat} (h : ¬ row.length % 2 = 0) (k : Nat) : arePairs row k = false := by
  unfold arePairs
  rw [decide_eq_false h, Bool.false_and]
theorem refused_out {es : Es} {e : Entry} (h : e.formed = false) : enterOut es e = (es, [-1]) := by
  have hr : refusal es e = some (1, none) := by
    unfold refusal
    simp only
    rw [if_pos h]
  unfold enterOut
  show ((match refusal es e with
    | some x => (es, refuses x.1 x.2)
    | none => (es ++ [e], says (entered es e : Nat)) : Es × Answer).1, TbLtNeutral.told (match refusal es e with
    | some x => (es, refuses x.1 x.2)
    | none => (es ++ [e], says (entered es e : Nat)) : Es × Answer).2) = _
  rw [hr]; rfl
theorem next_assoc (a b c : Option (List Int)) : orNext a (orNext b c) = orNext (orNext a b) c := by cases a <;> rfl
theorem rest_rows {es : Es} (hI : GoodIs es) {e : Entry} (ht : e.takes.2 = true) : restOf es e = orNext (chkRows (mbookOf es) 0 [] e.takes.1) (if (bookOf es).betters e = true then some [-6] else none) := by
  unfold restOf
  rw [rows_law hI.rel e.takes.1 0 [] [] fun x => Iff.rfl]
  cases (bookOf es).wrongFrom 0 [] e.takes.1 with
  | some x =>
    show some (tellR (x.1, if e.takes.2 = true then some x.2 else none)) = _
    rw [if_pos ht]; rfl
  | none => rfl
theorem lift_law {es : Es} (hI : GoodIs es) (w c d : Nat) (l : List Int) : liftM es [w, c, d] [natL l] = enterOut es (.lift w c d (TbLtNeutral.pairs l)) := by
  by_cases hev : l.length % 2 = 0
  · rw [pairs_even hev]
    generalize hms : pairsOf (natL l) = ms
    have hap := arePairs_even (row := natL l) (by rw [natL_len]; exact hev) 1
    rw [hms] at hap
    refine Eq.trans (show liftM es [w, c, d] [natL l] = outOf (orNext (gd (!isW10 w || (decide (9 < c) || (decide (36524 < d) || !arePairs (natL l) 1))) (-1)) (orNext (chkEntry es d 1 0) (orNext (chkRows (mbookOf es) 0 [] (pairsOf (natL l))) (gd ((pairsOf (natL l)).any fun p => decide (c < ((mbookOf es).lot p.1).cls)) (-6))))) es (es ++ [.lift w c d (pairsOf (natL l))], [vz (mbookOf es).lots.length]) from rfl) ?_
    rw [hms]
    refine enter_law hI (.lift w c d ms) ?_ fun _ => ?_
    · have hb : (!isW10 w || (decide (9 < c) || (decide (36524 < d) || !arePairs (natL l) 1))) = !(Entry.lift w c d ms).formed := by
        rw [hap]
        show _ = !(decide (d ≤ 36524) && (isW10 w && (decide (c ≤ 9) && (!ms.isEmpty && ms.all fun (x : Nat × Nat) => isW10 x.2))))
        have he : decide (1 ≤ ms.length) = !ms.isEmpty := by cases ms <;> simp
        rw [he]
        by_cases h1 : d ≤ 36524 <;> by_cases h2 : c ≤ 9 <;> cases isW10 w <;> cases (!ms.isEmpty && ms.all fun (x : Nat × Nat) => isW10 x.2) <;> simp [h1, h2] <;> omega
      rw [hb]
      congr 2
      rw [rest_rows hI rfl]
      show orNext (chkRows (mbookOf es) 0 [] ms) _ = orNext (chkRows (mbookOf es) 0 [] ms) _
      cases hcr : chkRows (mbookOf es) 0 [] ms with
      | some x => rfl
      | none =>
        show gd _ (-6) = if ((ms.any fun (x : Nat × Nat) => decide (c < ((bookOf es).lot x.1).cls)) = true) then some [-6] else none
        have hw := rows_law hI.rel ms 0 [] [] fun x => Iff.rfl
        rw [hcr] at hw
        have hwn : (bookOf es).wrongFrom 0 [] ms = none := by
          cases e : (bookOf es).wrongFrom 0 [] ms with
          | none => rfl
          | some x => rw [e] at hw; cases hw
        obtain ⟨q1, _⟩ := wrong_none _ _ _ hwn
        have ha : (ms.any fun p => decide (c < ((mbookOf es).lot p.1).cls)) = ms.any fun (x : Nat × Nat) => decide (c < ((bookOf es).lot x.1).cls) := by
          rw [Bool.eq_iff_iff, List.any_eq_true, List.any_eq_true]
          have key : ∀ p ∈ ms, ((bookOf es).lot p.1).cls = ((mbookOf es).lot p.1).cls := fun p hp => by
            have hlt : p.1 < (mbookOf es).lots.length := by rw [← hI.rel.len]; exact of_decide_eq_true (q1 p hp).1
            rw [hI.rel.lot hlt]; rfl
          constructor
          · rintro ⟨p, hp, h⟩; exact ⟨p, hp, by rw [key p hp]; exact h⟩
          · rintro ⟨p, hp, h⟩; exact ⟨p, hp, by rw [key p hp] at h; exact h⟩
        rw [ha]; rfl
    · show [vz (mbookOf es).lots.length] = [((bookOf es).lots.length : Int)]
      rw [ent_len hI]; rfl
  · rw [pairs_odd hev]
    have hap := arePairs_odd (row := natL l) (by rw [natL_len]; exact hev) 1
    have hf : (Entry.lift w c d []).formed = false := by
      show (decide (d ≤ 36524) && (isW10 w && (decide (c ≤ 9) && (false && _)))) = false
      simp
    rw [refused_out hf]
    refine Eq.trans (show liftM es [w, c, d] [natL l] = outOf (orNext (gd (!isW10 w || (decide (9 < c) || (decide (36524 < d) || !arePairs (natL l) 1))) (-1)) _) es _ from rfl) ?_
    rw [hap]
    have hb : (!isW10 w || (decide (9 < c) || (decide (36524 < d) || !false))) = true := by simp
    rw [hb]; rfl
theorem merge_law {es : Es} (hI : GoodIs es) (d : Nat) (l : List Int) : mergeM es [d] [natL l] = enterOut es (.merge d (TbLtNeutral.pairs l)) := by
  by_cases hev : l.length % 2 = 0
  · rw [pairs_even hev]
    generalize hms : pairsOf (natL l) = ms
    have hap := arePairs_even (row := natL l) (by rw [natL_len]; exact hev) 2
    rw [hms] at hap
    refine Eq.trans (show mergeM es [d] [natL l] = outOf (orNext (gd (decide (36524 < d) || !arePairs (natL l) 2) (-1)) (orNext (chkEntry es d 1 (pairsOf (natL l)).length) (chkRows (mbookOf es) 0 [] (pairsOf (natL l))))) es (es ++ [.merge d (pairsOf (natL l))], [vz (mbookOf es).lots.length]) from rfl) ?_
    rw [hms]
    refine enter_law hI (.merge d ms) ?_ fun _ => ?_
    · have hb : (decide (36524 < d) || !arePairs (natL l) 2) = !(Entry.merge d ms).formed := by
        rw [hap]
        show _ = !(decide (d ≤ 36524) && (decide (2 ≤ ms.length) && ms.all fun (x : Nat × Nat) => isW10 x.2))
        by_cases h1 : d ≤ 36524 <;> cases (decide (2 ≤ ms.length) && ms.all fun (x : Nat × Nat) => isW10 x.2) <;> simp [h1] <;> omega
      rw [hb]
      congr 2
      rw [rest_rows hI rfl]
      show chkRows (mbookOf es) 0 [] ms = orNext (chkRows (mbookOf es) 0 [] ms) none
      cases chkRows (mbookOf es) 0 [] ms <;> rfl
    · show [vz (mbookOf es).lots.length] = [((bookOf es).lots.length : Int)]
      rw [ent_len hI]; rfl
  · rw [pairs_odd hev]
    have hap := arePairs_odd (row := natL l) (by rw [natL_len]; exact hev) 2
    have hf : (Entry.merge d []).formed = false := by
      show (decide (d ≤ 36524) && (false && _)) = false
      simp
    rw [refused_out hf]
    refine Eq.trans (show mergeM es [d] [natL l] = outOf (orNext (gd (decide (36524 < d) || !arePairs (natL l) 2) (-1)) _) es _ from rfl) ?_
    rw [hap]
    have hb : (decide (36524 < d) || !false) = true := by simp
    rw [hb]; rfl
theorem rest_one {es : Es} (hI : GoodIs es) {e : Entry} {k s : Nat} (ht : e.takes = ([(k, s)], false)) (hb : (bookOf es).betters e = false) : restOf es e = orNext (chkLot (mbookOf es) k) (gd (decide (((mbookOf es).lot k).left < (s : Int))) (-5)) := by
  unfold restOf
  rw [ht, hb]
  unfold chkLot
  by_cases h1 : (mbookOf es).lots.length ≤ k
  · rw [decide_eq_true h1]
    have : (bookOf es).wrongFrom 0 [] [(k, s)] = some (4, 0) := by
      unfold Book.wrongFrom
      rw [if_pos (by unfold Book.has; rw [hI.rel.len]; exact decide_eq_false (by show ¬ k < _; omega))]
    show (match (bookOf es).wrongFrom 0 [] [(k, s)] with
      | some x => some (tellR (x.1, if (false : Bool) = true then some x.2 else none))
      | none => if (false : Bool) = true then some [-6] else none) = _
    rw [this]; rfl
  · have hlt : k < (mbookOf es).lots.length := by omega
    rw [decide_eq_false h1]
    have hl := hI.rel.leftN hlt
    have hw : (bookOf es).wrongFrom 0 [] [(k, s)] = if (bookOf es).left k < s then some (5, 0) else none := by
      unfold Book.wrongFrom
      rw [if_neg (by unfold Book.has; rw [hI.rel.len, decide_eq_true (show k < _ from hlt)]; decide), if_neg (by simp)]
      rfl
    show (match (bookOf es).wrongFrom 0 [] [(k, s)] with
      | some x => some (tellR (x.1, if (false : Bool) = true then some x.2 else none))
      | none => if (false : Bool) = true then some [-6] else none) = gd (decide (((mbookOf es).lot k).left < (s : Int))) (-5)
    rw [hw]
    by_cases h2 : (bookOf es).left k < s
    · rw [if_pos h2, decide_eq_true (by omega)]; rfl
    · rw [if_neg h2, decide_eq_false (by omega)]; rfl
theorem split_law {es : Es} (hI : GoodIs es) (k d : Nat) (ws : List Nat) : splitM es [k, d] [ws] = enterOut es (.split k d ws) := by
  refine enter_law hI (.split k d ws) ?_ fun _ => ?_
  · show orNext (gd (decide (36524 < d) || (decide (ws.length = 0) || !ws.all isW10)) (-1)) (orNext (chkEntry es d ws.length ws.length) (orNext (chkLot (mbookOf es) k) (gd (decide (((mbookOf es).lot k).left < ((ws.sum : Nat) : Int))) (-5)))) = _
    have hb : (decide (36524 < d) || (decide (ws.length = 0) || !ws.all isW10)) = !(Entry.split k d ws).formed := by
      show _ = !(decide (d ≤ 36524) && (!ws.isEmpty && ws.all isW10))
      have he : decide (ws.length = 0) = ws.isEmpty := by cases ws <;> simp
      rw [he]
      by_cases h1 : d ≤ 36524 <;> cases ws.isEmpty <;> cases ws.all isW10 <;> simp [h1] <;> omega
    rw [hb]
    congr 2
    rw [rest_one hI (k := k) (s := sumN ws) rfl rfl, sumN_eq]
  · show [vz (mbookOf es).lots.length] = [((bookOf es).lots.length : Int)]
    rw [ent_len hI]; rfl
theorem lose_law {es : Es} (hG : Good es) (k w d : Nat) (rows : List (List Nat)) : loseM es [k, w, d] rows = enterOut es (.lose k w d) := by
  have hI := hG.is
  refine Eq.trans (show loseM es [k, w, d] rows = outOf (orNext (gd (!isW10 w || decide (36524 < d)) (-1)) (orNext (chkEntry es d 0 0) (orNext (chkLot (mbookOf es) k) (gd (decide (((mbookOf es).lot k).left < (w : Int))) (-5))))) es (es ++ [.lose k w d], [((mbookOf (es ++ [.lose k w d])).lot k).left]) from rfl) ?_
  refine enter_law hI (.lose k w d) ?_ fun hr => ?_
  · show orNext (gd (!isW10 w || decide (36524 < d)) (-1)) (orNext (chkEntry es d 0 0) (orNext (chkLot (mbookOf es) k) (gd (decide (((mbookOf es).lot k).left < (w : Int))) (-5)))) = _
    have hb : (!isW10 w || decide (36524 < d)) = !(Entry.lose k w d).formed := by
      show _ = !(decide (d ≤ 36524) && isW10 w)
      by_cases h1 : d ≤ 36524 <;> cases isW10 w <;> simp [h1] <;> omega
    rw [hb]
    congr 2
    rw [rest_one hI (k := k) (s := w) rfl rfl]
  · have hG2 := Good.snoc es _ hG hr
    have a := accept_of hr
    have f := a.fits hI.rel
    have hk := (f.there (k, w) List.mem_cons_self).1
    have hk2 : k < (mbookOf (es ++ [.lose k w d])).lots.length := by
      rw [mbookOf_snoc]
      show k < ((mbookOf es).lots.modify _ _).length
      rw [List.length_modify]; exact hk
    have hent : entered es (.lose k w d) = (bookOf (es ++ [.lose k w d])).left k := by simp only [entered]
    rw [hent, hG2.is.rel.leftN hk2]
theorem undo_law (es : Es) (a : List Nat) (rows : List (List Nat)) : undoM es a rows = ((TbLtSpec.step es .undo).1, TbLtNeutral.told (TbLtSpec.step es .undo).2) := by
  cases es with
  | nil => rfl
  | cons x r => rfl
theorem undo_good {es : Es} (hG : Good es) : Good (TbLtSpec.step es .undo).1 := by
  cases es with
  | nil => exact hG
  | cons x r =>
    show Good (x :: r).dropLast
    rw [List.dropLast_eq_take]
    exact hG.pre _
end LF
end
section
set_option linter.all false
set_option autoImplicit false
namespace LF
open TbBase TbLtBook TbLtSpec

/-! ## the law: reads -/
def readOut (es : Es) (c : Call) : Es × List Int := (es, TbLtNeutral.told (asked es (bookOf es) c))
theorem rise_law (f : Nat → Bool) (code : Int) (l : List Nat) : riseFrom f code (-1) 0 l = (notRising f l).map fun i => [code, (i : Int)] := by
  have key : ∀ (k i : Nat) (before : Int), i + k = l.length → (before = if i = 0 then -1 else ((l.getD (i - 1) 0 : Nat) : Int)) →
      riseFrom f code before i (l.drop i) = ((List.range' i k).find? fun (i : Nat) => !f (l.getD i 0) || (decide (0 < i) && decide (l.getD i 0 ≤ l.getD (i - 1) 0))).map fun i => [code, (i : Int)] := by
    intro k
    induction k with
    | zero =>
      intro i before hi hb
      rw [List.drop_of_length_le (by omega)]
      rfl
    | succ k ih =>
      intro i before hi hb
      have hlt : i < l.length := by omega
      have hd : l.drop i = l.getD i 0 :: l.drop (i + 1) := by
        rw [List.drop_eq_getElem_cons hlt]
        congr 1
        rw [List.getD_eq_getElem?_getD, List.getElem?_eq_getElem hlt]; rfl
      rw [hd, List.range'_succ, List.find?_cons]
      have hc : (decide (((l.getD i 0 : Nat) : Int) ≤ before) || !f (l.getD i 0)) = (!f (l.getD i 0) || (decide (0 < i) && decide (l.getD i 0 ≤ l.getD (i - 1) 0))) := by
        rw [Bool.or_comm]
        congr 1
        by_cases h0 : i = 0
        · subst h0
          rw [if_pos rfl] at hb
          rw [hb, decide_eq_false (by omega), decide_eq_false (by omega)]; rfl
        · rw [if_neg h0] at hb
          rw [hb, decide_eq_true (by omega : 0 < i), Bool.true_and]
          by_cases h1 : l.getD i 0 ≤ l.getD (i - 1) 0
          · rw [decide_eq_true h1, decide_eq_true (by omega)]
          · rw [decide_eq_false h1, decide_eq_false (by omega)]
      unfold riseFrom
      rw [hc]
      cases h : (!f (l.getD i 0) || (decide (0 < i) && decide (l.getD i 0 ≤ l.getD (i - 1) 0))) with
      | true => rfl
      | false =>
        rw [if_neg (by decide)]
        exact ih (i + 1) _ (by omega) (by rw [if_neg (by omega)]; rfl)
  have := key l.length 0 (-1) (by omega) rfl
  rw [List.drop_zero] at this
  rw [this]
  unfold notRising
  rw [List.range_eq_range']
theorem has_is {es : Es} (hI : GoodIs es) (n : Nat) : (bookOf es).has n = decide (n < (mbookOf es).lots.length) := by unfold Book.has; rw [hI.rel.len]
theorem rise_congr {f g : Nat → Bool} (h : ∀ n, f n = g n) : f = g := funext h
theorem founders_fun {es : Es} (hI : GoodIs es) : (fun n => decide (n < (mbookOf es).lots.length) && ((mbookOf es).lot n).founder) = fun (n : Nat) => (bookOf es).has n && ((bookOf es).lot n).founder := by
  funext n
  rw [has_is hI]
  by_cases h : n < (mbookOf es).lots.length
  · rw [decide_eq_true h, hI.rel.rel.founder n h]
  · rw [decide_eq_false h]; rfl
theorem some_law {es : Es} (hI : GoodIs es) {x : Nat} {fs : List Nat} {ns : List Int} {A : Unit → Answer} (h : chkSome (mbookOf es) x fs = none → ns = TbLtNeutral.told (A ())) : outOf (chkSome (mbookOf es) x fs) es (es, ns) = (es, TbLtNeutral.told (ofFounders (bookOf es) x fs A)) := by
  unfold ofFounders
  unfold chkSome chkLot at h ⊢
  rw [has_is hI]
  by_cases hx : x < (mbookOf es).lots.length
  · rw [decide_eq_false (show ¬ (mbookOf es).lots.length ≤ x by omega)] at h ⊢
    rw [decide_eq_true hx, if_neg (by decide), ← founders_fun hI]
    have hr := rise_law (fun n => decide (n < (mbookOf es).lots.length) && ((mbookOf es).lot n).founder) (-11) fs
    show outOf (riseFrom _ (-11) (-1) 0 fs) es (es, ns) = _
    have h : riseFrom (fun n => decide (n < (mbookOf es).lots.length) && ((mbookOf es).lot n).founder) (-11) (-1) 0 fs = none → ns = TbLtNeutral.told (A ()) := h
    rw [hr] at h ⊢
    cases e : notRising (fun n => decide (n < (mbookOf es).lots.length) && ((mbookOf es).lot n).founder) fs with
    | some i => rfl
    | none =>
      rw [e] at h
      rw [h rfl]; rfl
  · rw [decide_eq_true (show (mbookOf es).lots.length ≤ x by omega), decide_eq_false hx]
    rfl
theorem lotc_law {es : Es} (hI : GoodIs es) {x : Nat} {ns : List Int} {A : Answer} (h : x < (mbookOf es).lots.length → ns = TbLtNeutral.told A) : outOf (chkLot (mbookOf es) x) es (es, ns) = (es, TbLtNeutral.told (if (bookOf es).has x = true then A else says (-4))) := by
  unfold chkLot
  rw [has_is hI]
  by_cases hx : x < (mbookOf es).lots.length
  · rw [decide_eq_false (show ¬ (mbookOf es).lots.length ≤ x by omega), decide_eq_true hx, if_pos rfl, h hx]; rfl
  · rw [decide_eq_true (show (mbookOf es).lots.length ≤ x by omega), decide_eq_false hx, if_neg (by decide)]; rfl
theorem set_law {es : Es} (hI : GoodIs es) {s : List Nat} {ns : List Int} {A : Answer} (h : chkSet (mbookOf es) s = none → ns = TbLtNeutral.told A) : outOf (chkSet (mbookOf es) s) es (es, ns) = (es, TbLtNeutral.told (match notRising (bookOf es).has s with
    | some i => refuses 12 (some i)
    | none => A)) := by
  unfold chkSet at h ⊢
  have hf : (fun n => decide (n < (mbookOf es).lots.length)) = (bookOf es).has := funext fun n => (has_is hI n).symm
  rw [hf, rise_law] at h ⊢
  cases e : notRising (bookOf es).has s with
  | some i => rfl
  | none =>
    rw [e] at h
    rw [h rfl]; rfl
theorem lot_law {es : Es} (hI : GoodIs es) (n : Nat) (rows : List (List Nat)) : lotM es [n] rows = readOut es (.lot n) := by
  refine lotc_law (x := n) hI fun hn => ?_
  show [((mbookOf es).lot n).left, vz ((mbookOf es).lot n).made, vz ((mbookOf es).lot n).planted, vz ((mbookOf es).lot n).lost, vz ((mbookOf es).lot n).gen, vz ((mbookOf es).lot n).cls, vz ((mbookOf es).lot n).day, vz ((mbookOf es).lot n).born] = TbLtNeutral.told (lotNums (bookOf es) n)
  unfold lotNums
  rw [hI.rel.lot hn]
  show _ = (((bookOf es).left n : Nat) : Int) :: _
  rw [hI.rel.leftN hn]; rfl
theorem legs_law {es : Es} (hI : GoodIs es) (a : List Nat) (rows : List (List Nat)) : legsM es a rows = readOut es .legs := by
  unfold legsM readOut
  show _ = (es, TbLtNeutral.told (tells ((bookOf es).legs.length : Nat) ((bookOf es).legs.flatMap fun (g : Leg) => nats [g.of, g.to, g.weight])))
  rw [hI.rel.legs]; rfl
theorem then_law {es : Es} (hG : Good es) (d : Nat) (rows : List (List Nat)) : thenM es [d] rows = readOut es (.then_ d) := by
  obtain ⟨i, hi⟩ := hG.filter d
  have hG2 : Good (es.filter fun e => decide (e.day ≤ d)) := by rw [hi]; exact hG.pre _
  have hI := hG2.is
  show (es, vz (mbookOf (es.filter fun e => decide (e.day ≤ d))).lots.length :: (List.range (mbookOf (es.filter fun e => decide (e.day ≤ d))).lots.length).map fun n => ((mbookOf (es.filter fun e => decide (e.day ≤ d))).lot n).left) = (es, ((bookOf (es.filter fun (e : Entry) => decide (e.day ≤ d))).lots.length : Int) :: (List.range (bookOf (es.filter fun (e : Entry) => decide (e.day ≤ d))).lots.length).map fun (n : Nat) => ((bookOf (es.filter fun (e : Entry) => decide (e.day ≤ d))).left n : Int))
  rw [hI.rel.len]
  congr 2
  apply List.map_congr_left
  intro n hn
  rw [hI.rel.leftN (List.mem_range.mp hn)]
theorem sum_map_range (B : MB) (f : ML → Nat) : ((List.range B.lots.length).map B.lot).map f = B.lots.map f := by
  refine List.ext_getElem? fun j => ?_
  rw [List.getElem?_map, List.getElem?_map, List.getElem?_map]
  by_cases h : j < B.lots.length
  · rw [List.getElem?_range h, lot_lt h]; rfl
  · rw [List.getElem?_eq_none (by simpa using h), List.getElem?_eq_none (by omega)]; rfl
theorem lots_range (B : MB) : (List.range B.lots.length).map B.lot = B.lots := by
  refine List.ext_getElem? fun j => ?_
  rw [List.getElem?_map]
  by_cases h : j < B.lots.length
  · rw [List.getElem?_range h, lot_lt h]; rfl
  · rw [List.getElem?_eq_none (by simpa using h), List.getElem?_eq_none (by omega)]; rfl
theorem sum_left_cast : ∀ (l : List Nat) (f : Nat → Nat) (g : Nat → Int), (∀ n ∈ l, ((f n : Nat) : Int) = g n) → (((l.map f).sum : Nat) : Int) = (l.map g).sum
  | [], _, _, _ => rfl
  | n :: r, f, g, h => by
    rw [List.map_cons, List.map_cons, List.sum_cons, List.sum_cons, ← sum_left_cast r f g fun m hm => h m (List.mem_cons_of_mem _ hm), ← h n List.mem_cons_self]
    omega
theorem sums_law {es : Es} (hI : GoodIs es) (a : List Nat) (rows : List (List Nat)) : sumsM es a rows = readOut es .sums := by
  unfold sumsM readOut
  simp only
  rw [lots_range]
  show (es, [vz _, vz _, vz _, _]) = (es, ((sumN (((bookOf es).lots.filter Lot.founder).map fun (x : Lot) => x.made) : Nat) : Int) :: nats [sumN ((bookOf es).lots.map fun (x : Lot) => x.planted), sumN ((bookOf es).lots.map fun (x : Lot) => x.lost), sumN ((List.range (bookOf es).lots.length).map (bookOf es).left)])
  rw [hI.rel.lots, sumN_eq, sumN_eq, sumN_eq, sumN_eq, List.length_map]
  have h1 : (((mbookOf es).lots.map absL).filter Lot.founder).map (fun (x : Lot) => x.made) = ((mbookOf es).lots.filter ML.founder).map (·.made) := by
    rw [List.filter_map, List.map_map]
    have : (Lot.founder ∘ absL) = ML.founder := by
      funext l
      show decide (l.born ≤ 1) = decide (l.born = 0 ∨ l.born = 1)
      congr 1
      apply propext
      omega
    rw [this]; rfl
  have h2 : ((mbookOf es).lots.map absL).map (fun (x : Lot) => x.planted) = (mbookOf es).lots.map (·.planted) := by rw [List.map_map]; rfl
  have h3 : ((mbookOf es).lots.map absL).map (fun (x : Lot) => x.lost) = (mbookOf es).lots.map (·.lost) := by rw [List.map_map]; rfl
  have h4 : ((((List.range (mbookOf es).lots.length).map (bookOf es).left).sum : Nat) : Int) = ((mbookOf es).lots.map ML.left).sum := by
    rw [sum_left_cast (List.range (mbookOf es).lots.length) (bookOf es).left (fun n => ((mbookOf es).lot n).left) fun n hn => hI.rel.leftN (List.mem_range.mp hn)]
    congr 1
    conv => rhs; rw [← lots_range (mbookOf es)]
    rw [List.map_map]; rfl
  rw [h1, h2, h3, ← h4]; rfl
end LF
end
section
set_option linter.all false
set_option autoImplicit false
namespace LF
open TbBase TbLtBook TbLtSpec

/-! ## the law: flows, sets -/
theorem sum_map_cast {α : Type} (l : List α) (f : α → Nat) : (l.map fun x => ((f x : Nat) : Int)).sum = (((l.map f).sum : Nat) : Int) := by
  induction l with
  | nil => rfl
  | cons x r ih => rw [List.map_cons, List.map_cons, List.sum_cons, List.sum_cons, ih]; omega
theorem sum_if_cast {α : Type} (l : List α) (p : α → Bool) (f : α → Nat) : (l.map fun x => if p x = true then ((f x : Nat) : Int) else 0).sum = ((((l.filter p).map f).sum : Nat) : Int) := by
  induction l with
  | nil => rfl
  | cons x r ih =>
    rw [List.map_cons, List.sum_cons, ih, List.filter_cons]
    split
    · rw [List.map_cons, List.sum_cons]; omega
    · omega
/-- what a set weighs, by a list or by a test -/
theorem weigh_W {b : Book} {fs : List Nat} {x : Nat} (N : Net b fs x) (s : List Nat) (S : Nat → Bool) (h : ∀ n, n < b.lots.length → s.contains n = S n) : ((TbLtFlow.weigh b fs x s : Nat) : Int) = W b fs x S := by
  unfold TbLtFlow.weigh W
  rw [sumN_eq, sumN_eq]
  have h1 : (fs.map fun f => if S f = true then (0 : Int) else ((b.lot f).made : Int)) = fs.map fun f => if (!s.contains f) = true then ((b.lot f).made : Int) else 0 := by
    apply List.map_congr_left
    intro f hf
    rw [h f (N.fsl f hf)]
    cases S f <;> rfl
  have h2 : (b.legs.map fun g => if S g.of = true ∧ S g.to = false then (g.weight : Int) else 0) = b.legs.map fun g => if (s.contains g.of && !s.contains g.to) = true then ((g.weight : Nat) : Int) else 0 := by
    apply List.map_congr_left
    intro g hg
    obtain ⟨q1, q2⟩ := N.legsl g hg
    rw [h g.of q1, h g.to q2]
    cases S g.of <;> cases S g.to <;> rfl
  rw [h1, h2, sum_if_cast fs (fun f => !s.contains f) (fun f => (b.lot f).made), sum_if_cast b.legs (fun g => s.contains g.of && !s.contains g.to) (fun g => g.weight), h x N.xl]
  cases S x
  · show (((_ + _ + 0 : Nat)) : Int) = _ + _ + 0
    omega
  · show (((_ + _ + b.left x : Nat)) : Int) = _ + _ + ((b.left x : Nat) : Int)
    omega
theorem most_le {es : Es} (hI : GoodIs es) {fs : List Nat} {x : Nat} (N : Net (bookOf es) fs x) : ((TbLtFlow.most (bookOf es) fs x : Nat) : Int) ≤ ((bookOf es).left x : Nat) := by
  have h60 := hI.lots
  have h160 := hI.legs
  have hl := hI.rel.len
  have hg : (bookOf es).legs.length = (mbookOf es).legs.length := by rw [hI.rel.legs]
  have L := flow_least N (by omega) (by omega)
  have := L.low fun _ => true
  have hW : W (bookOf es) fs x (fun _ => true) = (((bookOf es).left x : Nat) : Int) := by
    unfold W
    have h1 : ∀ l : List Nat, (l.map fun f => if (true : Bool) = true then (0 : Int) else (((bookOf es).lot f).made : Int)).sum = 0 := by
      intro l
      induction l with
      | nil => rfl
      | cons a r ih => rw [List.map_cons, List.sum_cons, ih]; rfl
    have h2 : ∀ l : List Leg, (l.map fun g => if (true : Bool) = true ∧ (true : Bool) = false then (g.weight : Int) else 0).sum = 0 := by
      intro l
      induction l with
      | nil => rfl
      | cons a r ih => rw [List.map_cons, List.sum_cons, ih]; rfl
    rw [h1, h2, if_pos rfl]
    omega
  rw [hW] at this
  exact this
theorem others_net {es : Es} {fs : List Nat} {x : Nat} (N : Net (bookOf es) fs x) : Net (bookOf es) (TbLtFlow.others (bookOf es) fs) x := by
  refine ⟨N.legsl, fun f hf => ?_, ?_, N.xl⟩
  · unfold TbLtFlow.others at hf
    exact List.mem_range.mp (List.mem_filter.mp hf).1
  · unfold TbLtFlow.others
    rw [List.nodup_iff_pairwise_ne]
    exact (List.nodup_iff_pairwise_ne.mp List.nodup_range).filter _
theorem may_law {es : Es} (hI : GoodIs es) (x : Nat) (fs : List Nat) : mayM es [x] [fs] = readOut es (.may x fs) := by
  refine some_law (x := x) (fs := fs) (A := fun _ => tells (TbLtFlow.most (bookOf es) fs x : Nat) [(TbLtFlow.least (bookOf es) fs x : Int)]) hI fun hc => ?_
  have N := net_of hI hc
  have hx := (chkSome_none hc).1
  have h1 := most_le hI (others_net N)
  have h2 := hI.rel.leftN hx
  show [vz (TbLtFlow.most (bookOf es) fs x), ((mbookOf es).lot x).left - vz (TbLtFlow.most (bookOf es) (TbLtFlow.others (bookOf es) fs) x)] = [((TbLtFlow.most (bookOf es) fs x : Nat) : Int), ((TbLtFlow.least (bookOf es) fs x : Nat) : Int)]
  unfold TbLtFlow.least vz
  rw [← h2]
  congr 2
  omega
theorem cut_law {es : Es} (hI : GoodIs es) (x : Nat) (fs : List Nat) : cutM es [x] [fs] = readOut es (.cut x fs) := by
  refine some_law (x := x) (fs := fs) (A := fun _ => let s := TbLtFlow.cut (bookOf es) fs x
    tells (TbLtFlow.weigh (bookOf es) fs x s : Nat) (nats s)) hI fun hc => ?_
  have N := net_of hI hc
  have h60 := hI.lots
  have h160 := hI.legs
  have hl := hI.rel.len
  have hg : (bookOf es).legs.length = (mbookOf es).legs.length := by rw [hI.rel.legs]
  have L := flow_least N (by omega) (by omega)
  have hw : ((TbLtFlow.weigh (bookOf es) fs x (TbLtFlow.cut (bookOf es) fs x) : Nat) : Int) = ((TbLtFlow.most (bookOf es) fs x : Nat) : Int) := by
    rw [weigh_W N _ (TbLtFlow.cameTo (TbLtFlow.stillTo (bookOf es) fs (TbLtFlow.flow (bookOf es) fs x))) fun n hn => ?_, L.at_]
    unfold TbLtFlow.cut
    simp only
    rw [Bool.eq_iff_iff, List.contains_iff_mem, List.mem_filter, List.mem_range]
    exact ⟨fun h => h.2, fun h => ⟨hn, h⟩⟩
  show vz (TbLtFlow.most (bookOf es) fs x) :: ((List.range (mbookOf es).lots.length).filter _).map vz = ((TbLtFlow.weigh (bookOf es) fs x (TbLtFlow.cut (bookOf es) fs x) : Nat) : Int) :: nats (TbLtFlow.cut (bookOf es) fs x)
  rw [hw]
  unfold TbLtFlow.cut
  simp only
  rw [hl]; rfl
theorem weigh_law {es : Es} (hI : GoodIs es) (x : Nat) (fs s : List Nat) : weighM es [x] [fs, s] = readOut es (.weigh x fs s) := by
  refine Eq.trans (show weighM es [x] [fs, s] = outOf (orNext (chkSome (mbookOf es) x fs) (chkSet (mbookOf es) s)) es (es, [(mbookOf es).weightOf x fs s]) from rfl) ?_
  cases hc : chkSome (mbookOf es) x fs with
  | some ns =>
    have := some_law (x := x) (fs := fs) (ns := ns) (A := fun _ => (match notRising (bookOf es).has s with
      | some i => refuses 12 (some i)
      | none => says (TbLtFlow.weigh (bookOf es) fs x s : Nat))) hI fun h => by rw [hc] at h; cases h
    rw [hc] at this
    exact this
  | none =>
    show outOf (chkSet (mbookOf es) s) es _ = _
    have h2 := some_law (x := x) (fs := fs) (ns := TbLtNeutral.told (match notRising (bookOf es).has s with
      | some i => refuses 12 (some i)
      | none => says (TbLtFlow.weigh (bookOf es) fs x s : Nat))) (A := fun _ => (match notRising (bookOf es).has s with
      | some i => refuses 12 (some i)
      | none => says (TbLtFlow.weigh (bookOf es) fs x s : Nat))) hI fun h => rfl
    rw [hc] at h2
    refine Eq.trans (set_law (A := says (TbLtFlow.weigh (bookOf es) fs x s : Nat)) hI fun hs => ?_) h2
    obtain ⟨c1, c2, _⟩ := chkSome_none hc
    have hl := hI.rel.leftN c1
    show [(mbookOf es).weightOf x fs s] = [((TbLtFlow.weigh (bookOf es) fs x s : Nat) : Int)]
    congr 1
    unfold MB.weightOf TbLtFlow.weigh
    rw [sumN_eq, sumN_eq, hI.rel.legs]
    have h1 : ((fs.filter fun (n : Nat) => !s.contains n).map fun (n : Nat) => ((bookOf es).lot n).made) = (fs.filter fun f => !s.contains f).map fun f => ((mbookOf es).lot f).made := by
      apply List.map_congr_left
      intro f hf
      have := (c2 f (List.mem_filter.mp hf).1).1
      rw [hI.rel.lot this]; rfl
    rw [h1]
    cases s.contains x
    · show _ + _ + (0 : Int) = (((_ + _ + 0 : Nat)) : Int)
      omega
    · show _ + _ + ((mbookOf es).lot x).left = (((_ + _ + (bookOf es).left x : Nat)) : Int)
      omega
end LF
end
section
set_option linter.all false
set_option autoImplicit false
namespace LF
open TbBase TbLtBook TbLtSpec

/-! ## the law: layings -/
theorem over_law (laid : List Nat) : ∀ (gs : List Leg) (ls : List Nat) (i : Nat), gs.length = ls.length → laid.drop i = ls → overM laid i gs = ((gs.zip ls).findIdx? fun (y : Leg × Nat) => decide (y.1.weight < y.2)).map fun j => [-14, ((i + j : Nat) : Int)]
  | [], ls, i, _, _ => by cases ls <;> rfl
  | g :: r, [], i, h, _ => by cases h
  | g :: r, l :: ls, i, h, hd => by
    have hi : i < laid.length := by
      refine Classical.byContradiction fun z => ?_
      rw [List.drop_of_length_le (by omega)] at hd
      cases hd
    rw [List.drop_eq_getElem_cons hi] at hd
    injection hd with h1 h2
    have hg : laid.getD i 0 = l := by rw [List.getD_eq_getElem?_getD, List.getElem?_eq_getElem hi, h1]; rfl
    unfold overM
    rw [List.zip_cons_cons, List.findIdx?_cons, hg]
    by_cases hc : g.weight < l
    · rw [if_pos hc, if_pos (decide_eq_true hc)]; rfl
    · rw [if_neg hc, if_neg (by rw [decide_eq_false hc]; decide), over_law laid r ls (i + 1) (by simpa using h) h2, Option.map_map]
      congr 1
      funext j
      show [-14, ((i + 1 + j : Nat) : Int)] = [-14, ((i + (j + 1) : Nat) : Int)]
      congr 2
      omega
theorem rem_fold (B : MB) (n : Nat) : ∀ (zs : List (Leg × Nat)) (t : Int), zs.foldl (B.remOne n) t = t + (((zs.map fun y => if y.1.to = n ∧ (B.lot n).founder = false then y.2 else 0).sum : Nat) : Int) - (((zs.map fun y => if y.1.of = n then y.2 else 0).sum : Nat) : Int)
  | [], t => by simp
  | y :: r, t => by
    rw [List.foldl_cons, rem_fold B n r, List.map_cons, List.map_cons, List.sum_cons, List.sum_cons]
    unfold MB.remOne
    by_cases h1 : y.1.to = n ∧ (B.lot n).founder = false
    · by_cases h2 : y.1.of = n
      · rw [if_pos h1, if_pos h1, if_pos h2, if_pos h2]; omega
      · rw [if_pos h1, if_pos h1, if_neg h2, if_neg h2]; omega
    · by_cases h2 : y.1.of = n
      · rw [if_neg h1, if_neg h1, if_pos h2, if_pos h2]; omega
      · rw [if_neg h1, if_neg h1, if_neg h2, if_neg h2]; omega
theorem rem_law {es : Es} (hI : GoodIs es) {fs : List Nat} (hf : ∀ f ∈ fs, f < (mbookOf es).lots.length ∧ ((mbookOf es).lot f).founder = true) (laid : List Nat) {n : Nat} (hn : n < (mbookOf es).lots.length) : (mbookOf es).remainder n fs laid = TbLtFlow.remainder (bookOf es) fs laid n := by
  unfold MB.remainder TbLtFlow.remainder
  simp only
  rw [rem_fold, hI.rel.rel.founder n hn, hI.rel.legs, sumN_eq, sumN_eq]
  have hlot : ((bookOf es).lot n).made = ((mbookOf es).lot n).made := by rw [hI.rel.lot hn]; rfl
  rw [hlot]
  have hout : (((mbookOf es).legs.zip laid).map fun y => if y.1.of = n then y.2 else 0) = ((mbookOf es).legs.zip laid).map fun (y : Leg × Nat) => if (y.1.of == n) = true then y.2 else 0 := by
    apply List.map_congr_left
    intro y _
    by_cases h : y.1.of = n
    · rw [if_pos h, if_pos (by simpa using h)]
    · rw [if_neg h, if_neg (by simpa using h)]
  rw [hout]
  cases hfo : ((mbookOf es).lot n).founder with
  | true =>
    have hin : (((mbookOf es).legs.zip laid).map fun y => if y.1.to = n ∧ (true : Bool) = false then y.2 else 0).sum = 0 := by
      have : ∀ zs : List (Leg × Nat), (zs.map fun y => if y.1.to = n ∧ (true : Bool) = false then y.2 else 0).sum = 0 := by
        intro zs
        induction zs with
        | nil => rfl
        | cons y r ih => rw [List.map_cons, List.sum_cons, ih, if_neg (fun z => by cases z.2)]
      exact this _
    rw [hin, if_pos rfl]
    cases hc : fs.contains n
    · show (0 : Int) + _ - _ = (((0 : Nat)) : Int) - _
      omega
    · show ((((mbookOf es).lot n).made : Nat) : Int) + _ - _ = (((((mbookOf es).lot n).made : Nat)) : Int) - _
      omega
  | false =>
    have hc : fs.contains n = false := by
      cases hc : fs.contains n with
      | false => rfl
      | true =>
        have := (hf n (List.contains_iff_mem.mp hc)).2
        rw [hfo] at this; cases this
    have hin : (((mbookOf es).legs.zip laid).map fun y => if y.1.to = n ∧ (false : Bool) = false then y.2 else 0) = ((mbookOf es).legs.zip laid).map fun (y : Leg × Nat) => if (y.1.to == n) = true then y.2 else 0 := by
      apply List.map_congr_left
      intro y _
      by_cases h : y.1.to = n
      · rw [if_pos ⟨h, rfl⟩, if_pos (by simpa using h)]
      · rw [if_neg (fun z => h z.1), if_neg (by simpa using h)]
    rw [hin, hc, if_neg (by decide), if_neg (by decide)]
    omega
theorem remOk_law {es : Es} (hI : GoodIs es) {fs : List Nat} (hf : ∀ f ∈ fs, f < (mbookOf es).lots.length ∧ ((mbookOf es).lot f).founder = true) (laid : List Nat) {n : Nat} (hn : n < (mbookOf es).lots.length) :
    remOk (mbookOf es) fs laid n = !(decide (TbLtFlow.remainder (bookOf es) fs laid n < 0) || decide ((TbLtFlow.Book.rests (bookOf es) n : Int) < TbLtFlow.remainder (bookOf es) fs laid n)) := by
  unfold remOk
  rw [rem_law hI hf laid hn]
  have hl := hI.rel.leftN hn
  have hr : ((TbLtFlow.Book.rests (bookOf es) n : Nat) : Int) = ((mbookOf es).lot n).left + ((mbookOf es).lot n).planted + ((mbookOf es).lot n).lost := by
    unfold TbLtFlow.Book.rests
    rw [hI.rel.lot hn]
    show (((bookOf es).left n + ((mbookOf es).lot n).planted + ((mbookOf es).lot n).lost : Nat) : Int) = _
    omega
  rw [hr]
  generalize TbLtFlow.remainder (bookOf es) fs laid n = m
  generalize ((mbookOf es).lot n).left + ((mbookOf es).lot n).planted + ((mbookOf es).lot n).lost = c
  by_cases h1 : m < 0
  · rw [decide_eq_true h1, decide_eq_false (by omega)]; rfl
  · by_cases h2 : c < m
    · rw [decide_eq_false h1, decide_eq_true h2, decide_eq_true (by omega), decide_eq_false (by omega)]; rfl
    · rw [decide_eq_false h1, decide_eq_false h2, decide_eq_true (by omega), decide_eq_true (by omega)]; rfl
theorem wrong_law {es : Es} (hI : GoodIs es) {fs : List Nat} (hf : ∀ f ∈ fs, f < (mbookOf es).lots.length ∧ ((mbookOf es).lot f).founder = true) (laid : List Nat) : ∀ (k i : Nat), i + k = (mbookOf es).lots.length →
    wrongM (mbookOf es) fs laid k i = ((List.range' i k).find? fun (n : Nat) => decide (TbLtFlow.remainder (bookOf es) fs laid n < 0) || decide ((TbLtFlow.Book.rests (bookOf es) n : Int) < TbLtFlow.remainder (bookOf es) fs laid n)).map fun (n : Nat) => [-15, (n : Int)]
  | 0, i, _ => rfl
  | k + 1, i, h => by
    unfold wrongM
    rw [remOk_law hI hf laid (by omega), List.range'_succ, List.find?_cons]
    cases hc : (decide (TbLtFlow.remainder (bookOf es) fs laid i < 0) || decide ((TbLtFlow.Book.rests (bookOf es) i : Int) < TbLtFlow.remainder (bookOf es) fs laid i)) with
    | true => rfl
    | false =>
      rw [if_pos (show (!false) = true from rfl)]
      exact wrong_law hI hf laid k (i + 1) (by omega)
theorem lay_law {es : Es} (hI : GoodIs es) (x : Nat) (fs laid : List Nat) : layM es [x] [fs, laid] = readOut es (.lay x fs laid) := by
  let A : Unit → Answer := fun (_ : Unit) => if laid.length ≠ (bookOf es).legs.length then says (-13) else (match TbLtFlow.overLeg (bookOf es) laid with
    | some i => refuses 14 (some i)
    | none => match TbLtFlow.wrongLot (bookOf es) fs laid with
      | some n => refuses 15 (some n)
      | none => let m := TbLtFlow.remainder (bookOf es) fs laid x
        tells (max 0 (m - (((((bookOf es).lot x).planted + ((bookOf es).lot x).lost : Nat)) : Int))) [min m ((bookOf es).left x : Int)])
  have hAd : readOut es (.lay x fs laid) = (es, TbLtNeutral.told (ofFounders (bookOf es) x fs A)) := rfl
  rw [hAd]
  refine Eq.trans (show layM es [x] [fs, laid] = outOf (orNext (chkSome (mbookOf es) x fs) (orNext (gd (!decide (laid.length = (mbookOf es).legs.length)) (-13)) (orNext (overM laid 0 (mbookOf es).legs) (wrongM (mbookOf es) fs laid (mbookOf es).lots.length 0)))) es
    (es, [if (mbookOf es).remainder x fs laid - ((mbookOf es).lot x).planted - ((mbookOf es).lot x).lost > 0 then (mbookOf es).remainder x fs laid - ((mbookOf es).lot x).planted - ((mbookOf es).lot x).lost else 0, if ((mbookOf es).lot x).left < (mbookOf es).remainder x fs laid then ((mbookOf es).lot x).left else (mbookOf es).remainder x fs laid]) from rfl) ?_
  cases hc : chkSome (mbookOf es) x fs with
  | some ns =>
    have := some_law (x := x) (fs := fs) (ns := ns) (A := A) hI fun h => by rw [hc] at h; cases h
    rw [hc] at this
    exact this
  | none =>
    have h2 := some_law (x := x) (fs := fs) (ns := TbLtNeutral.told (A ())) (A := A) hI fun h => rfl
    rw [hc] at h2
    refine Eq.trans ?_ h2
    obtain ⟨c1, c2, _⟩ := chkSome_none hc
    show outOf (orNext (gd (!decide (laid.length = (mbookOf es).legs.length)) (-13)) (orNext (overM laid 0 (mbookOf es).legs) (wrongM (mbookOf es) fs laid (mbookOf es).lots.length 0))) es _ = (es, TbLtNeutral.told (A ()))
    have hg : (bookOf es).legs.length = (mbookOf es).legs.length := by rw [hI.rel.legs]
    by_cases hlen : laid.length = (mbookOf es).legs.length
    · rw [decide_eq_true hlen]
      show outOf (orNext (overM laid 0 (mbookOf es).legs) (wrongM (mbookOf es) fs laid (mbookOf es).lots.length 0)) es _ = _
      have hov := over_law laid (mbookOf es).legs laid 0 hlen.symm rfl
      have hwr := wrong_law hI c2 laid (mbookOf es).lots.length 0 (by omega)
      rw [← List.range_eq_range', ← hI.rel.len] at hwr
      have hA : A () = (match TbLtFlow.overLeg (bookOf es) laid with
        | some i => refuses 14 (some i)
        | none => match TbLtFlow.wrongLot (bookOf es) fs laid with
          | some n => refuses 15 (some n)
          | none => tells (max 0 (TbLtFlow.remainder (bookOf es) fs laid x - (((((bookOf es).lot x).planted + ((bookOf es).lot x).lost : Nat)) : Int))) [min (TbLtFlow.remainder (bookOf es) fs laid x) ((bookOf es).left x : Int)]) := by
        show (if laid.length ≠ (bookOf es).legs.length then says (-13) else _) = _
        rw [if_neg (fun z => z (by rw [hg]; exact hlen))]
      rw [hA]
      have hov' : overM laid 0 (mbookOf es).legs = (TbLtFlow.overLeg (bookOf es) laid).map fun j => [-14, ((0 + j : Nat) : Int)] := by
        unfold TbLtFlow.overLeg
        rw [hI.rel.legs]; exact hov
      have hwr' : wrongM (mbookOf es) fs laid (mbookOf es).lots.length 0 = (TbLtFlow.wrongLot (bookOf es) fs laid).map fun (n : Nat) => [-15, (n : Int)] := by
        rw [← hI.rel.len]
        exact hwr
      rw [hov']
      cases TbLtFlow.overLeg (bookOf es) laid with
      | some i =>
        show (es, [-14, ((0 + i : Nat) : Int)]) = (es, [-14, (i : Int)])
        rw [Nat.zero_add]
      | none =>
        show outOf (wrongM (mbookOf es) fs laid (mbookOf es).lots.length 0) es _ = _
        rw [hwr']
        cases TbLtFlow.wrongLot (bookOf es) fs laid with
        | some n => rfl
        | none =>
          show (es, _) = (es, _)
          congr 1
          rw [rem_law hI c2 laid c1]
          have hl := hI.rel.leftN c1
          have hp : ((((bookOf es).lot x).planted + ((bookOf es).lot x).lost : Nat) : Int) = (((mbookOf es).lot x).planted : Int) + ((mbookOf es).lot x).lost := by
            rw [hI.rel.lot c1]
            show ((((mbookOf es).lot x).planted + ((mbookOf es).lot x).lost : Nat) : Int) = _
            omega
          generalize TbLtFlow.remainder (bookOf es) fs laid x = m
          show [if m - ((mbookOf es).lot x).planted - ((mbookOf es).lot x).lost > 0 then m - ((mbookOf es).lot x).planted - ((mbookOf es).lot x).lost else 0, if ((mbookOf es).lot x).left < m then ((mbookOf es).lot x).left else m] = [max 0 (m - (((((bookOf es).lot x).planted + ((bookOf es).lot x).lost : Nat)) : Int)), min m (((bookOf es).left x : Nat) : Int)]
          rw [hp, hl, Int.max_def, Int.min_def]
          have e1 : (if m - ((mbookOf es).lot x).planted - ((mbookOf es).lot x).lost > 0 then m - ((mbookOf es).lot x).planted - ((mbookOf es).lot x).lost else 0) = if 0 ≤ m - ((((mbookOf es).lot x).planted : Int) + ((mbookOf es).lot x).lost) then m - ((((mbookOf es).lot x).planted : Int) + ((mbookOf es).lot x).lost) else 0 := by
            split <;> split <;> omega
          have e2 : (if ((mbookOf es).lot x).left < m then ((mbookOf es).lot x).left else m) = if m ≤ ((mbookOf es).lot x).left then m else ((mbookOf es).lot x).left := by
            split <;> split <;> omega
          rw [e1, e2]
    · rw [decide_eq_false hlen]
      show (es, [-13]) = (es, TbLtNeutral.told (if laid.length ≠ (bookOf es).legs.length then says (-13) else _))
      rw [if_pos (by rw [hg]; exact hlen)]
      rfl
end LF
end
section
set_option linter.all false
set_option autoImplicit false
namespace LF
open TbBase TbLtBook TbLtSpec

/-! ## the law: how many steps at least -/
abbrev LT := List (Nat × Nat)
theorem nd_eraseDups : ∀ (n : Nat) (l : List Nat), l.length ≤ n → l.eraseDups.Nodup
  | 0, l, h => by
    have : l = [] := List.length_eq_zero_iff.mp (by omega)
    rw [this]; exact List.nodup_nil
  | n + 1, [], _ => List.nodup_nil
  | n + 1, a :: as, h => by
    rw [List.eraseDups_cons, List.nodup_cons]
    have hl := List.length_filter_le (fun b => !b == a) as
    rw [List.length_cons] at h
    refine ⟨fun z => ?_, nd_eraseDups n _ (by omega)⟩
    rw [List.mem_eraseDups, List.mem_filter] at z
    simp at z
theorem one_label {T : LT} (nd : (T.map (·.1)).Nodup) {v k k' : Nat} (h : (v, k) ∈ T) (h' : (v, k') ∈ T) : k = k' := by
  obtain ⟨i, hi⟩ := List.mem_iff_getElem?.mp h
  obtain ⟨j, hj⟩ := List.mem_iff_getElem?.mp h'
  have h1 : (T.map (·.1))[i]? = some v := by rw [List.getElem?_map, hi]; rfl
  have h2 : (T.map (·.1))[j]? = some v := by rw [List.getElem?_map, hj]; rfl
  obtain ⟨q1, e1⟩ := List.getElem?_eq_some_iff.mp h1
  obtain ⟨q2, e2⟩ := List.getElem?_eq_some_iff.mp h2
  have := (List.getElem_inj nd).mp (e1.trans e2.symm)
  subst this
  rw [hi] at hj
  injection hj with hj
  injection hj
structure Lbl (E : LT) (B : List Nat) (T : LT) : Prop where
  nd : (T.map (·.1)).Nodup
  zero : ∀ v, v ∈ B → (v, 0) ∈ T
  par : ∀ v k, (v, k) ∈ T → (k = 0 ∧ v ∈ B) ∨ ∃ u j, k = j + 1 ∧ (u, j) ∈ T ∧ (u, v) ∈ E
def Closed (E T : LT) : Prop := ∀ u j v, (u, j) ∈ T → (u, v) ∈ E → ∃ k, (v, k) ∈ T ∧ k ≤ j + 1
theorem lab_le {E T T' : LT} {B : List Nat} (h : Lbl E B T) (h' : Lbl E B T') (c' : Closed E T') : ∀ k v, (v, k) ∈ T → ∃ k', (v, k') ∈ T' ∧ k' ≤ k := by
  intro k
  induction k with
  | zero =>
    intro v hv
    rcases h.par v 0 hv with ⟨_, hb⟩ | ⟨u, j, e, _⟩
    · exact ⟨0, h'.zero v hb, Nat.le_refl _⟩
    · cases e
  | succ k ih =>
    intro v hv
    rcases h.par v (k + 1) hv with ⟨e, _⟩ | ⟨u, j, e, hu, he⟩
    · cases e
    · have : j = k := by omega
      subst this
      obtain ⟨k1, h1, l1⟩ := ih u hu
      obtain ⟨k2, h2, l2⟩ := c' u k1 v h1 he
      exact ⟨k2, h2, by omega⟩
theorem lab_same {E T T' : LT} {B : List Nat} (h : Lbl E B T) (c : Closed E T) (h' : Lbl E B T') (c' : Closed E T') : ∀ v k, (v, k) ∈ T ↔ (v, k) ∈ T' := by
  have one : ∀ {T T' : LT}, Lbl E B T → Closed E T → Lbl E B T' → Closed E T' → ∀ v k, (v, k) ∈ T → (v, k) ∈ T' := fun {T T'} h c h' c' v k hv => by
    obtain ⟨k1, h1, l1⟩ := lab_le h h' c' k v hv
    obtain ⟨k2, h2, l2⟩ := lab_le h' h c k1 v h1
    have := one_label h.nd hv h2
    have e : k1 = k := by omega
    rw [← e]; exact h1
  exact fun v k => ⟨one h c h' c' v k, one h' c' h c v k⟩
def labN (T : LT) (v : Nat) : Option Nat := (T.find? fun (x : Nat × Nat) => x.1 == v).map (·.2)
theorem labN_some {T : LT} {v k : Nat} (h : labN T v = some k) : (v, k) ∈ T := by
  unfold labN at h
  cases e : T.find? fun (x : Nat × Nat) => x.1 == v with
  | none => rw [e] at h; cases h
  | some x =>
    rw [e] at h
    have h1 := List.mem_of_find?_eq_some e
    have h2 : x.1 = v := by simpa using List.find?_some e
    have h3 : x.2 = k := Option.some.inj h
    rw [← h2, ← h3]; exact h1
theorem labN_none {T : LT} {v : Nat} : labN T v = none ↔ ∀ k, ¬ (v, k) ∈ T := by
  unfold labN
  rw [Option.map_eq_none_iff, List.find?_eq_none]
  constructor
  · intro h k hk
    have := h (v, k) hk
    simp at this
  · intro h x hx z
    have : x.1 = v := by simpa using z
    exact h x.2 (by rw [← this]; exact hx)
theorem labN_mem {T : LT} (nd : (T.map (·.1)).Nodup) {v k : Nat} (h : (v, k) ∈ T) : labN T v = some k := by
  cases e : labN T v with
  | none => exact absurd h (labN_none.mp e k)
  | some k' => rw [one_label nd (labN_some e) h]
/-! ### rounds -/
structure Rnd (E : LT) (B : List Nat) (k : Nat) (T : LT) : Prop where
  lab : Lbl E B T
  le : ∀ v j, (v, j) ∈ T → j ≤ k
  cl : ∀ u j v, (u, j) ∈ T → j < k → (u, v) ∈ E → ∃ i, (v, i) ∈ T ∧ i ≤ j + 1
def newOf (E had : LT) : List Nat := ((E.filter fun (e : Nat × Nat) => (had.any fun (x : Nat × Nat) => x.1 == e.1) && !(had.any fun (x : Nat × Nat) => x.1 == e.2)).map fun (e : Nat × Nat) => e.2).eraseDups
theorem any_key {T : LT} {v : Nat} : (T.any fun (x : Nat × Nat) => x.1 == v) = true ↔ ∃ k, (v, k) ∈ T := by
  rw [List.any_eq_true]
  constructor
  · rintro ⟨x, hx, h⟩
    have : x.1 = v := by simpa using h
    exact ⟨x.2, by rw [← this]; exact hx⟩
  · rintro ⟨k, hk⟩
    exact ⟨(v, k), hk, by simp⟩
theorem mem_new {E had : LT} {v : Nat} : v ∈ newOf E had ↔ ∃ u, (u, v) ∈ E ∧ (∃ k, (u, k) ∈ had) ∧ ∀ k, ¬ (v, k) ∈ had := by
  unfold newOf
  rw [List.mem_eraseDups, List.mem_map]
  constructor
  · rintro ⟨e, he, rfl⟩
    obtain ⟨h1, h2⟩ := List.mem_filter.mp he
    rw [Bool.and_eq_true, any_key, Bool.not_eq_true'] at h2
    refine ⟨e.1, h1, h2.1, fun k hk => ?_⟩
    have := any_key.mpr ⟨k, hk⟩
    rw [h2.2] at this; cases this
  · rintro ⟨u, h1, h2, h3⟩
    refine ⟨(u, v), List.mem_filter.mpr ⟨h1, ?_⟩, rfl⟩
    rw [Bool.and_eq_true, any_key, Bool.not_eq_true']
    refine ⟨h2, ?_⟩
    cases e : (had.any fun (x : Nat × Nat) => x.1 == v) with
    | false => rfl
    | true =>
      obtain ⟨k, hk⟩ := any_key.mp e
      exact absurd hk (h3 k)
theorem rnd_next {E : LT} {B : List Nat} {k : Nat} {T : LT} (h : Rnd E B k T) : Rnd E B (k + 1) (T ++ (newOf E T).map fun (n : Nat) => (n, k + 1)) := by
  have mem : ∀ v j, (v, j) ∈ T ++ (newOf E T).map (fun (n : Nat) => (n, k + 1)) ↔ (v, j) ∈ T ∨ (v ∈ newOf E T ∧ j = k + 1) := fun v j => by
    rw [List.mem_append, List.mem_map]
    constructor
    · rintro (q | ⟨n, hn, e⟩)
      · exact .inl q
      · injection e with e1 e2; subst e1; exact .inr ⟨hn, e2.symm⟩
    · rintro (q | ⟨q1, q2⟩)
      · exact .inl q
      · exact .inr ⟨v, q1, by rw [q2]⟩
  refine ⟨⟨?_, fun v hv => (mem v 0).mpr (.inl (h.lab.zero v hv)), fun v j hv => ?_⟩, fun v j hv => ?_, fun u j v hu hj he => ?_⟩
  · rw [List.map_append, List.nodup_append]
    have e : ((newOf E T).map fun (n : Nat) => (n, k + 1)).map (·.1) = newOf E T := by
      rw [List.map_map]
      exact List.map_id _
    refine ⟨h.lab.nd, ?_, fun a ha b hb z => ?_⟩
    · rw [e]; exact nd_eraseDups _ _ (Nat.le_refl _)
    · rw [e] at hb
      obtain ⟨x, hx, ex⟩ := List.mem_map.mp ha
      obtain ⟨_, _, _, h3⟩ := mem_new.mp hb
      exact h3 x.2 (by rw [← z, ← ex]; exact hx)
  · rcases (mem v j).mp hv with q | ⟨q1, q2⟩
    · rcases h.lab.par v j q with r | ⟨u, i, e, hu, he⟩
      · exact .inl r
      · exact .inr ⟨u, i, e, (mem u i).mpr (.inl hu), he⟩
    · obtain ⟨u, he, ⟨i, hi⟩, hn⟩ := mem_new.mp q1
      have hle := h.le u i hi
      by_cases hik : i < k
      · obtain ⟨i', h1, _⟩ := h.cl u i v hi hik he
        exact absurd h1 (hn i')
      · have : i = k := by omega
        subst this
        exact .inr ⟨u, i, q2, (mem u i).mpr (.inl hi), he⟩
  · rcases (mem v j).mp hv with q | ⟨_, q2⟩
    · have := h.le v j q; omega
    · omega
  · rcases (mem u j).mp hu with q | ⟨_, q2⟩
    · by_cases hjk : j < k
      · obtain ⟨i, h1, h2⟩ := h.cl u j v q hjk he
        exact ⟨i, (mem v i).mpr (.inl h1), h2⟩
      · have : j = k := by omega
        subst this
        by_cases hv : ∃ i, (v, i) ∈ T
        · obtain ⟨i, hi⟩ := hv
          have := h.le v i hi
          exact ⟨i, (mem v i).mpr (.inl hi), by omega⟩
        · exact ⟨j + 1, (mem v (j + 1)).mpr (.inr ⟨mem_new.mpr ⟨u, he, ⟨j, q⟩, fun i hi => hv ⟨i, hi⟩⟩, rfl⟩), Nat.le_refl _⟩
    · omega
theorem rounds_ok {E : LT} {B : List Nat} {n : Nat} (hE : ∀ r ∈ E, r.2 < n) : ∀ (f k : Nat) (T : LT), Rnd E B k T → (∀ v j, (v, j) ∈ T → v < n) → n + 1 ≤ T.length + f → Lbl E B (roundsFrom E f k T) ∧ Closed E (roundsFrom E f k T) ∧ ∀ v j, (v, j) ∈ roundsFrom E f k T → v < n
  | 0, k, T, h, hn, hf => by
    have := nodup_lt (n := n) h.lab.nd fun a ha => by
      obtain ⟨x, hx, e⟩ := List.mem_map.mp ha
      rw [← e]; exact hn x.1 x.2 hx
    rw [List.length_map] at this
    omega
  | f + 1, k, T, h, hn, hf => by
    have hnew : roundsFrom E (f + 1) k T = if (newOf E T).isEmpty = true then T else roundsFrom E f (k + 1) (T ++ (newOf E T).map fun (n : Nat) => (n, k + 1)) := rfl
    rw [hnew]
    cases he : (newOf E T).isEmpty with
    | true =>
      rw [if_pos rfl]
      have hnil : newOf E T = [] := List.isEmpty_iff.mp he
      refine ⟨h.lab, fun u j v hu huv => ?_, hn⟩
      by_cases hv : ∃ i, (v, i) ∈ T
      · by_cases hj : j < k
        · exact h.cl u j v hu hj huv
        · obtain ⟨i, hi⟩ := hv
          have h1 := h.le v i hi
          have h2 := h.le u j hu
          exact ⟨i, hi, by omega⟩
      · have : v ∈ newOf E T := mem_new.mpr ⟨u, huv, ⟨j, hu⟩, fun i hi => hv ⟨i, hi⟩⟩
        rw [hnil] at this; cases this
    | false =>
      rw [if_neg (by decide)]
      have hlen : 1 ≤ (newOf E T).length := by
        cases hx : newOf E T with
        | nil => rw [hx] at he; cases he
        | cons a r => simp
      refine rounds_ok hE f (k + 1) _ (rnd_next h) (fun v j hv => ?_) (by rw [List.length_append, List.length_map]; omega)
      rcases List.mem_append.mp hv with q | q
      · exact hn v j q
      · obtain ⟨m, hm, e⟩ := List.mem_map.mp q
        injection e with e1 _
        obtain ⟨u, hu, _⟩ := mem_new.mp hm
        rw [← e1]; exact hE (u, m) hu
end LF
end
section
set_option linter.all false
set_option autoImplicit false
namespace LF
open TbBase TbLtBook TbLtSpec

/-! ## the program's search, in naturals -/
def castT (T : LT) : Tab := T.map fun (p : Nat × Nat) => ((p.1 : Int), (p.2 : Int))
theorem look_cast (v : Nat) : ∀ T : LT, look (castT T) (v : Int) = (labN T v).map fun (n : Nat) => (n : Int)
  | [] => rfl
  | x :: r => by
    have ih := look_cast v r
    unfold castT labN at ih ⊢
    rw [List.map_cons, look_cons, List.find?_cons]
    by_cases h : x.1 = v
    · rw [if_pos (by show (x.1 : Int) = v; omega)]
      have : (x.1 == v) = true := by simpa using h
      rw [this]; rfl
    · rw [if_neg (by show ¬ (x.1 : Int) = v; omega)]
      have : (x.1 == v) = false := by simpa using h
      rw [this]; exact ih
def bfsOneN (u : Nat) (T : LT) (r : Nat × Nat) : LT := if r.1 = u ∧ (labN T r.2).isSome = false then T ++ [(r.2, (labN T r.1).getD 0 + 1)] else T
theorem one_cast (u : Nat) (T : LT) (r : Nat × Nat) : bfsOne (u : Int) (castT T) r = castT (bfsOneN u T r) := by
  unfold bfsOne bfsOneN
  rw [look_cast, look_cast, Option.isSome_map]
  by_cases h : r.1 = u ∧ (labN T r.2).isSome = false
  · rw [if_pos h, if_pos ⟨by omega, h.2⟩]
    unfold castT
    rw [List.map_append]
    congr 2
    cases labN T r.1 <;> rfl
  · rw [if_neg h, if_neg (fun z => h ⟨by omega, z.2⟩)]
theorem row_cast (u : Nat) : ∀ (rows : List (Nat × Nat)) (T : LT), rows.foldl (bfsOne (u : Int)) (castT T) = castT (rows.foldl (bfsOneN u) T)
  | [], _ => rfl
  | r :: rs, T => by rw [List.foldl_cons, List.foldl_cons, one_cast, row_cast u rs]
def bfsN (rows : List (Nat × Nat)) : Nat → Nat → LT → LT
  | 0, _, T => T
  | f + 1, p, T => if p < T.length then bfsN rows f (p + 1) (rows.foldl (bfsOneN (T.getD p (0, 0)).1) T) else T
theorem castT_len (T : LT) : (castT T).length = T.length := List.length_map _
theorem bfs_cast (rows : List (Nat × Nat)) : ∀ (f p : Nat) (T : LT), bfs rows f p (castT T) = castT (bfsN rows f p T)
  | 0, _, _ => rfl
  | f + 1, p, T => by
    unfold bfs bfsN
    rw [castT_len]
    by_cases h : p < T.length
    · rw [if_pos h, if_pos h]
      unfold bfsTurn
      have : (castT T).getD p (0, 0) = (((T.getD p (0, 0)).1 : Int), ((T.getD p (0, 0)).2 : Int)) := by
        unfold castT
        rw [List.getD_eq_getElem?_getD, List.getElem?_map, List.getD_eq_getElem?_getD, List.getElem?_eq_getElem h]
        rfl
      rw [this, row_cast]
      exact bfs_cast rows f (p + 1) _
    · rw [if_neg h, if_neg h]
/-- while u's rows are looked at, u's label k -/
structure Inn (E : LT) (B : List Nat) (n u k : Nat) (T : LT) : Prop where
  lab : Lbl E B T
  rng : ∀ v j, (v, j) ∈ T → v < n
  srt : T.Pairwise fun a b => a.2 ≤ b.2
  top : ∀ v j, (v, j) ∈ T → j ≤ k + 1
  has : (u, k) ∈ T
theorem inn_one {E : LT} {B : List Nat} {n u k : Nat} {T : LT} (h : Inn E B n u k T) {r : Nat × Nat} (hr : r ∈ E) (hn : r.2 < n) : Inn E B n u k (bfsOneN u T r) ∧ T <+: bfsOneN u T r ∧ (r.1 = u → ∃ j, (r.2, j) ∈ bfsOneN u T r) := by
  unfold bfsOneN
  by_cases hc : r.1 = u ∧ (labN T r.2).isSome = false
  · rw [if_pos hc]
    have hl : labN T r.1 = some k := by rw [hc.1]; exact labN_mem h.lab.nd h.has
    have hno : ∀ j, ¬ (r.2, j) ∈ T := labN_none.mp (by cases e : labN T r.2 with
      | none => rfl
      | some x => rw [e] at hc; cases hc.2)
    rw [hl]
    show Inn E B n u k (T ++ [(r.2, k + 1)]) ∧ _
    have mem : ∀ v j, (v, j) ∈ T ++ [(r.2, k + 1)] ↔ (v, j) ∈ T ∨ (v = r.2 ∧ j = k + 1) := fun v j => by
      rw [List.mem_append]
      simp
    refine ⟨⟨⟨?_, fun v hv => (mem v 0).mpr (.inl (h.lab.zero v hv)), fun v j hv => ?_⟩, fun v j hv => ?_, ?_, fun v j hv => ?_, (mem u k).mpr (.inl h.has)⟩, List.prefix_append _ _, fun _ => ⟨k + 1, (mem _ _).mpr (.inr ⟨rfl, rfl⟩)⟩⟩
    · rw [List.map_append, List.nodup_append]
      refine ⟨h.lab.nd, by simp, fun a ha b hb z => ?_⟩
      have hb : b = r.2 := by simpa using hb
      obtain ⟨x, hx, ex⟩ := List.mem_map.mp ha
      exact hno x.2 (by rw [← hb, ← z, ← ex]; exact hx)
    · rcases (mem v j).mp hv with q | ⟨q1, q2⟩
      · rcases h.lab.par v j q with w | ⟨u', i, e, hu, he⟩
        · exact .inl w
        · exact .inr ⟨u', i, e, (mem u' i).mpr (.inl hu), he⟩
      · refine .inr ⟨u, k, q2, (mem u k).mpr (.inl h.has), ?_⟩
        rw [q1, ← hc.1]; exact hr
    · rcases (mem v j).mp hv with q | ⟨q1, _⟩
      · exact h.rng v j q
      · rw [q1]; exact hn
    · rw [List.pairwise_append]
      refine ⟨h.srt, by simp, fun a ha b hb => ?_⟩
      have hb : b = (r.2, k + 1) := by simpa using hb
      rw [hb]
      exact h.top a.1 a.2 ha
    · rcases (mem v j).mp hv with q | ⟨_, q2⟩
      · exact h.top v j q
      · omega
  · rw [if_neg hc]
    refine ⟨h, List.prefix_refl _, fun e => ?_⟩
    cases hl : labN T r.2 with
    | some j => exact ⟨j, labN_some hl⟩
    | none => exact absurd ⟨e, by rw [hl]; rfl⟩ hc
theorem inn_rows {E : LT} {B : List Nat} {n u k : Nat} : ∀ (rows : List (Nat × Nat)) {T : LT}, Inn E B n u k T → (∀ r ∈ rows, r ∈ E ∧ r.2 < n) → Inn E B n u k (rows.foldl (bfsOneN u) T) ∧ T <+: rows.foldl (bfsOneN u) T ∧ ∀ r ∈ rows, r.1 = u → ∃ j, (r.2, j) ∈ rows.foldl (bfsOneN u) T
  | [], T, h, _ => ⟨h, List.prefix_refl _, fun r hr => (by cases hr)⟩
  | r :: rs, T, h, hr => by
    obtain ⟨a1, a2, a3⟩ := inn_one h (hr r List.mem_cons_self).1 (hr r List.mem_cons_self).2
    obtain ⟨b1, b2, b3⟩ := inn_rows rs a1 fun x hx => hr x (List.mem_cons_of_mem _ hx)
    rw [List.foldl_cons]
    refine ⟨b1, a2.trans b2, fun x hx e => ?_⟩
    rcases List.mem_cons.mp hx with q | q
    · subst q
      obtain ⟨j, hj⟩ := a3 e
      exact ⟨j, b2.subset hj⟩
    · exact b3 x q e
structure Srch (E : LT) (B : List Nat) (n p : Nat) (T : LT) : Prop where
  lab : Lbl E B T
  rng : ∀ v j, (v, j) ∈ T → v < n
  srt : T.Pairwise fun a b => a.2 ≤ b.2
  top : ∀ x, T[p]? = some x → ∀ v j, (v, j) ∈ T → j ≤ x.2 + 1
  cl : ∀ j u k v, j < p → T[j]? = some (u, k) → (u, v) ∈ E → ∃ i, (v, i) ∈ T ∧ i ≤ k + 1
  pl : p ≤ T.length
theorem bfsN_ok {E : LT} {B : List Nat} {n : Nat} (hE : ∀ r ∈ E, r.2 < n) : ∀ (f p : Nat) (T : LT), Srch E B n p T → f + p = n + 1 → Lbl E B (bfsN E f p T) ∧ Closed E (bfsN E f p T) ∧ ∀ v j, (v, j) ∈ bfsN E f p T → v < n
  | 0, p, T, h, hf => by
    have := nodup_lt (n := n) h.lab.nd fun a ha => by
      obtain ⟨x, hx, e⟩ := List.mem_map.mp ha
      rw [← e]; exact h.rng x.1 x.2 hx
    rw [List.length_map] at this
    have := h.pl
    omega
  | f + 1, p, T, h, hf => by
    unfold bfsN
    by_cases hlt : p < T.length
    · rw [if_pos hlt]
      have hat : T[p]? = some (T.getD p (0, 0)) := by rw [List.getD_eq_getElem?_getD, List.getElem?_eq_getElem hlt]; rfl
      generalize T.getD p (0, 0) = x at hat
      have hx : (x.1, x.2) ∈ T := List.mem_of_getElem? hat
      obtain ⟨b1, b2, b3⟩ := inn_rows (u := x.1) (k := x.2) E ⟨h.lab, h.rng, h.srt, h.top x hat, hx⟩ fun r hr => ⟨hr, hE r hr⟩
      generalize E.foldl (bfsOneN x.1) T = T' at b1 b2 b3
      refine bfsN_ok hE f (p + 1) T' ⟨b1.lab, b1.rng, b1.srt, fun y hy v j hv => ?_, fun j u k v hj hu he => ?_, ?_⟩ (by omega)
      · have h1 := b1.top v j hv
        have hat' : T'[p]? = some x := by
          obtain ⟨z, ez⟩ := b2
          rw [← ez, List.getElem?_append_left hlt]; exact hat
        obtain ⟨q1, e1⟩ := List.getElem?_eq_some_iff.mp hat'
        obtain ⟨q2, e2⟩ := List.getElem?_eq_some_iff.mp hy
        have := (List.pairwise_iff_getElem.mp b1.srt) p (p + 1) q1 q2 (by omega)
        rw [e1, e2] at this
        omega
      · by_cases hjp : j < p
        · have : T[j]? = some (u, k) := by
            obtain ⟨z, ez⟩ := b2
            rw [← ez, List.getElem?_append_left (by omega)] at hu
            exact hu
          obtain ⟨i, h1, h2⟩ := h.cl j u k v hjp this he
          exact ⟨i, b2.subset h1, h2⟩
        · have hjp : j = p := by omega
          subst hjp
          have hat' : T'[j]? = some x := by
            obtain ⟨z, ez⟩ := b2
            rw [← ez, List.getElem?_append_left hlt]; exact hat
          rw [hat'] at hu
          have hu : x = (u, k) := Option.some.inj hu
          subst hu
          obtain ⟨i, hi⟩ := b3 (u, v) he rfl
          exact ⟨i, hi, b1.top v i hi⟩
      · have := b2.length_le; omega
    · rw [if_neg hlt]
      have hpe : p = T.length := by have := h.pl; omega
      refine ⟨h.lab, fun u j v hu he => ?_, h.rng⟩
      obtain ⟨i, hi⟩ := List.mem_iff_getElem?.mp hu
      have hil := (List.getElem?_eq_some_iff.mp hi).1
      exact h.cl i u j v (by omega) hi he
/-- the begins -/
def begN (l : List Nat) : LT := l.map fun n => (n, 0)
theorem beg_cast (l : List Nat) : begT l = castT (begN l) := by unfold begT castT begN; rw [List.map_map]; rfl
theorem beg_lbl {E : LT} {l : List Nat} (nd : l.Nodup) : Lbl E l (begN l) := by
  have mem : ∀ v k, (v, k) ∈ begN l ↔ v ∈ l ∧ k = 0 := fun v k => by
    unfold begN
    rw [List.mem_map]
    constructor
    · rintro ⟨n, hn, e⟩
      injection e with e1 e2
      exact ⟨by rw [← e1]; exact hn, e2.symm⟩
    · rintro ⟨h1, h2⟩
      exact ⟨v, h1, by rw [h2]⟩
  refine ⟨?_, fun v hv => (mem v 0).mpr ⟨hv, rfl⟩, fun v k hv => .inl ⟨((mem v k).mp hv).2, ((mem v k).mp hv).1⟩⟩
  unfold begN
  rw [List.map_map]
  exact (List.map_id l).symm ▸ nd
theorem begN_mem {l : List Nat} {v k : Nat} (h : (v, k) ∈ begN l) : v ∈ l ∧ k = 0 := by
  unfold begN at h
  obtain ⟨n, hn, e⟩ := List.mem_map.mp h
  injection e with e1 e2
  exact ⟨by rw [← e1]; exact hn, e2.symm⟩
theorem beg_srch {E : LT} {l : List Nat} {n : Nat} (nd : l.Nodup) (hl : ∀ v ∈ l, v < n) : Srch E l n 0 (begN l) := by
  refine ⟨beg_lbl nd, fun v j h => hl v (begN_mem h).1, ?_, fun x hx v j h => ?_, fun j u k v h => by omega, Nat.zero_le _⟩
  · unfold begN
    rw [List.pairwise_map]
    exact List.Pairwise.imp (fun _ => Nat.le_refl 0) (List.nodup_iff_pairwise_ne.mp nd)
  · have := (begN_mem h).2; omega
theorem beg_rnd {E : LT} {l : List Nat} (nd : l.Nodup) : Rnd E l 0 (begN l) := ⟨beg_lbl nd, fun v j h => by have := (begN_mem h).2; omega, fun u j v h hj => by omega⟩
/-- both searches label alike -/
theorem search_law {E : LT} {l : List Nat} {n : Nat} (hE : ∀ r ∈ E, r.2 < n) (nd : l.Nodup) (hl : ∀ v ∈ l, v < n) (v : Nat) : labN (bfsN E (n + 1) 0 (begN l)) v = labN (roundsFrom E (n + 1) 0 (begN l)) v := by
  obtain ⟨a1, a2, _⟩ := bfsN_ok hE (n + 1) 0 (begN l) (beg_srch nd hl) rfl
  obtain ⟨b1, b2, _⟩ := rounds_ok hE (n + 1) 0 (begN l) (beg_rnd nd) (fun v j h => hl v (begN_mem h).1) (by omega)
  have h := lab_same a1 a2 b1 b2
  cases e : labN (bfsN E (n + 1) 0 (begN l)) v with
  | some k => rw [labN_mem b1.nd ((h v k).mp (labN_some e))]
  | none =>
    symm
    rw [labN_none]
    exact fun k hk => labN_none.mp e k ((h v k).mpr hk)
end LF
end
section
set_option linter.all false
set_option autoImplicit false
namespace LF
open TbBase TbLtBook TbLtSpec

theorem nodup_sub : ∀ (l1 l2 : List Int), l1.Nodup → (∀ x ∈ l1, x ∈ l2) → l1.length ≤ l2.length
  | [], _, _, _ => Nat.zero_le _
  | a :: r, l2, nd, h => by
    rw [List.nodup_cons] at nd
    have ha := h a List.mem_cons_self
    have h2 := nodup_sub r (l2.erase a) nd.2 fun x hx => by
      have hne : x ≠ a := fun z => nd.1 (z ▸ hx)
      exact (List.mem_erase_of_ne hne).mpr (h x (List.mem_cons_of_mem _ hx))
    rw [List.length_erase_of_mem ha] at h2
    have := List.length_pos_of_mem ha
    rw [List.length_cons]
    omega
theorem keys_len {t : Tab} {n : Nat} (h : TabOk n t) : (keysIn t n).length = t.length := by
  have hk : ((keysIn t n).map vz).Nodup := by
    rw [List.nodup_iff_pairwise_ne]
    exact (range_filter_sorted n _).imp fun {a b} q => by omega
  have h1 := nodup_sub ((keysIn t n).map vz) (t.map (·.1)) hk fun x hx => by
    obtain ⟨i, hi, e⟩ := List.mem_map.mp hx
    obtain ⟨_, v, hv⟩ := keysIn_mem hi
    rw [← e]
    exact look_key.mp (by show (look t (i : Int)).isSome = true; rw [hv]; rfl)
  have h2 := nodup_sub (t.map (·.1)) ((keysIn t n).map vz) h.nd fun x hx => by
    have := h.rng x hx
    refine List.mem_map.mpr ⟨x.toNat, List.mem_filter.mpr ⟨List.mem_range.mpr (by omega), ?_⟩, show ((x.toNat : Nat) : Int) = x by omega⟩
    rw [show ((x.toNat : Nat) : Int) = x by omega, look_key]
    exact hx
  rw [List.length_map, List.length_map] at h1 h2
  omega
theorem find_lab (R : LT) (i : Nat) : (R.find? fun (x : Nat × Nat) => x.1 == i) = (labN R i).map fun k => (i, k) := by
  unfold labN
  cases e : R.find? fun (x : Nat × Nat) => x.1 == i with
  | none => rfl
  | some x =>
    have h2 : x.1 = i := by simpa using List.find?_some e
    show some x = some (i, x.2)
    rw [← h2]
theorem byNum_law {T R : LT} {n : Nat} (h : ∀ i, labN T i = labN R i) : byNumber n R = (keysIn (castT T) n).map fun i => (i, (labN T i).getD 0) := by
  unfold byNumber keysIn
  induction n with
  | zero => rfl
  | succ n ih =>
    rw [List.range_succ, List.filterMap_append, List.filter_append, List.map_append, ih]
    congr 1
    rw [List.filterMap_cons, find_lab, ← h n, List.filter_cons, look_cast]
    cases e : labN T n with
    | none => rfl
    | some k =>
      show [(n, k)] = [(n, (labN T n).getD 0)]
      rw [e]; rfl
theorem steps_law {es : Es} (hI : GoodIs es) : (bookOf es).steps = (mbookOf es).steps := by
  unfold Book.steps MB.steps
  rw [hI.rel.legs, hI.rel.pl]
/-- the table of a search is the specification's, by number -/
theorem fall_is {es : Es} (hI : GoodIs es) {l : List Nat} (nd : l.Nodup) (hl : ∀ v ∈ l, v < (mbookOf es).lots.length) (back : Bool) :
    let t := fallT (mbookOf es) l back
    let R := roundsFrom (if back = true then (bookOf es).steps.map (fun (e : Nat × Nat) => (e.2, e.1)) else (bookOf es).steps) ((bookOf es).lots.length + 1) 0 (l.map fun (n : Nat) => (n, 0))
    byNumber (bookOf es).lots.length R = (keysIn t (mbookOf es).lots.length).map (fun (i : Nat) => (i, ((look t (i : Int)).getD 0).toNat)) ∧ (∀ i : Nat, i ∈ keysIn t (mbookOf es).lots.length → 0 ≤ (look t (i : Int)).getD 0) := by
  intro t R
  have F := Good.fine hI
  have hrows : (if back = true then (bookOf es).steps.map (fun (e : Nat × Nat) => (e.2, e.1)) else (bookOf es).steps) = rowsM (mbookOf es) back := by
    unfold rowsM
    rw [steps_law hI]
  have ht : t = castT (bfsN (rowsM (mbookOf es) back) ((mbookOf es).lots.length + 1) 0 (begN l)) := by
    show fallT _ _ _ = _
    unfold fallT
    rw [beg_cast, bfs_cast]
  have hR : R = roundsFrom (rowsM (mbookOf es) back) ((mbookOf es).lots.length + 1) 0 (begN l) := by
    show roundsFrom _ _ _ _ = _
    rw [hrows, hI.rel.len]; rfl
  have hs := search_law (E := rowsM (mbookOf es) back) (fun r hr => (rowsM_ok F back r hr).2) nd hl
  rw [hI.rel.len, hR, byNum_law hs, ht]
  refine ⟨?_, fun i _ => ?_⟩
  · apply List.map_congr_left
    intro i hi
    rw [look_cast]
    cases labN (bfsN (rowsM (mbookOf es) back) ((mbookOf es).lots.length + 1) 0 (begN l)) i <;> rfl
  · rw [look_cast]
    cases labN (bfsN (rowsM (mbookOf es) back) ((mbookOf es).lots.length + 1) 0 (begN l)) i with
    | none => exact Int.le_refl 0
    | some k =>
      show (0 : Int) ≤ (k : Int)
      omega
theorem falls_law {es : Es} (hI : GoodIs es) (a : List Nat) (row : List Nat) : fallsM es a [row] = readOut es (.falls row) := by
  refine Eq.trans (show fallsM es a [row] = outOf (chkSet (mbookOf es) row) es (es, vz (fallT (mbookOf es) row false).length :: (keysIn (fallT (mbookOf es) row false) (mbookOf es).lots.length).flatMap fun (i : Nat) => [vz i, (look (fallT (mbookOf es) row false) (i : Int)).getD 0, ((mbookOf es).lot i).left]) from rfl) ?_
  refine set_law (A := (let s := (bookOf es).falls row
    tells (s.length : Nat) (s.flatMap fun (y : Nat × Nat) => nats [y.1, y.2, (bookOf es).left y.1]))) hI fun hs => ?_
  obtain ⟨s1, s2⟩ := chkSet_none hs
  obtain ⟨h1, h2⟩ := fall_is hI s2 s1 false
  have hk := keys_len (fall_ok (Good.fine hI) s2 s1 false)
  have hfa : (bookOf es).falls row = (keysIn (fallT (mbookOf es) row false) (mbookOf es).lots.length).map (fun (i : Nat) => (i, ((look (fallT (mbookOf es) row false) (i : Int)).getD 0).toNat)) := h1
  show _ = ((((bookOf es).falls row).length : Nat) : Int) :: ((bookOf es).falls row).flatMap fun (y : Nat × Nat) => nats [y.1, y.2, (bookOf es).left y.1]
  rw [hfa, List.length_map, hk]
  congr 1
  generalize fallT (mbookOf es) row false = t at h2
  have hmem : ∀ i ∈ keysIn t (mbookOf es).lots.length, i < (mbookOf es).lots.length := fun i hi => (keysIn_mem hi).1
  generalize keysIn t (mbookOf es).lots.length = ks at h2 hmem
  induction ks with
  | nil => rfl
  | cons i r ih =>
    rw [List.map_cons, List.flatMap_cons, List.flatMap_cons, ← ih (fun j hj => h2 j (List.mem_cons_of_mem _ hj)) fun j hj => hmem j (List.mem_cons_of_mem _ hj)]
    congr 1
    have h0 := h2 i List.mem_cons_self
    have hl := hI.rel.leftN (hmem i List.mem_cons_self)
    show [vz i, (look t (i : Int)).getD 0, ((mbookOf es).lot i).left] = [(i : Int), ((((look t (i : Int)).getD 0).toNat : Nat) : Int), (((bookOf es).left i : Nat) : Int)]
    rw [hl, show ((((look t (i : Int)).getD 0).toNat : Nat) : Int) = (look t (i : Int)).getD 0 by omega]
    rfl
theorem mothers_law {es : Es} (hI : GoodIs es) (x : Nat) (rows : List (List Nat)) : mothersM es [x] rows = readOut es (.mothers x) := by
  refine Eq.trans (show mothersM es [x] rows = outOf (chkLot (mbookOf es) x) es (es, vz (fallT (mbookOf es) [x] true).length :: (keysIn (fallT (mbookOf es) [x] true) (mbookOf es).lots.length).flatMap fun (i : Nat) => [vz i, (look (fallT (mbookOf es) [x] true) (i : Int)).getD 0]) from rfl) ?_
  have hA : readOut es (.mothers x) = (es, TbLtNeutral.told (if (bookOf es).has x = true then (let s := (bookOf es).mothers x
    tells (s.length : Nat) (s.flatMap fun (y : Nat × Nat) => nats [y.1, y.2])) else says (-4))) := by
    unfold readOut
    show (es, TbLtNeutral.told (if (bookOf es).has x = false then says (-4) else _)) = _
    cases (bookOf es).has x <;> rfl
  rw [hA]
  refine lotc_law hI fun hx => ?_
  have s2 : [x].Nodup := by simp
  have s1 : ∀ v ∈ [x], v < (mbookOf es).lots.length := fun v hv => by rw [show v = x by simpa using hv]; exact hx
  obtain ⟨h1, h2⟩ := fall_is hI s2 s1 true
  have hk := keys_len (fall_ok (Good.fine hI) s2 s1 true)
  have hfa : (bookOf es).mothers x = (keysIn (fallT (mbookOf es) [x] true) (mbookOf es).lots.length).map (fun (i : Nat) => (i, ((look (fallT (mbookOf es) [x] true) (i : Int)).getD 0).toNat)) := h1
  show _ = ((((bookOf es).mothers x).length : Nat) : Int) :: ((bookOf es).mothers x).flatMap fun (y : Nat × Nat) => nats [y.1, y.2]
  rw [hfa, List.length_map, hk]
  congr 1
  generalize fallT (mbookOf es) [x] true = t at h2
  generalize keysIn t (mbookOf es).lots.length = ks at h2
  induction ks with
  | nil => rfl
  | cons i r ih =>
    rw [List.map_cons, List.flatMap_cons, List.flatMap_cons, ← ih fun j hj => h2 j (List.mem_cons_of_mem _ hj)]
    congr 1
    have h0 := h2 i List.mem_cons_self
    show [vz i, (look t (i : Int)).getD 0] = [(i : Int), ((((look t (i : Int)).getD 0).toNat : Nat) : Int)]
    rw [show ((((look t (i : Int)).getD 0).toNat : Nat) : Int) = (look t (i : Int)).getD 0 by omega]
    rfl
end LF
end
section
set_option linter.all false
set_option autoImplicit false
set_option exponentiation.threshold 10000
namespace LF
open TbBase TbLtBook TbLtSpec

/-! ## shares: the tables' values are the specification's -/
def fv (p : Fr) : Rat := (p.1 : Rat) / (p.2 : Rat)
def vl (t : FTab) (k : Int) : Rat := fv ((look t k).getD (0, 1))
theorem fv0 : fv (0, 1) = 0 := by
  show ((0 : Nat) : Rat) / ((1 : Nat) : Rat) = 0
  grind
theorem natR_ne {a : Nat} (h : 0 < a) : (a : Rat) ≠ 0 := fun e => by
  have : a = 0 := by exact_mod_cast e
  omega
theorem ratioN_fv {a b : Nat} (hb : 0 < b) : fv (ratioN a b) = (a : Rat) / (b : Rat) := by
  have hg : 0 < Nat.gcd a b := Nat.gcd_pos_of_pos_right a hb
  obtain ⟨x, hx⟩ := Nat.gcd_dvd_left a b
  obtain ⟨y, hy⟩ := Nat.gcd_dvd_right a b
  have ea : a / Nat.gcd a b = x := Nat.div_eq_of_eq_mul_right hg hx
  have eb : b / Nat.gcd a b = y := Nat.div_eq_of_eq_mul_right hg hy
  have hy0 : 0 < y := by
    rcases Nat.eq_zero_or_pos y with z | z
    · rw [z, Nat.mul_zero] at hy; omega
    · exact z
  unfold fv ratioN
  rw [ea, eb]
  have h1 : (a : Rat) = (Nat.gcd a b : Rat) * (x : Rat) := by rw [← Rat.natCast_mul, ← hx]
  have h2 : (b : Rat) = (Nat.gcd a b : Rat) * (y : Rat) := by rw [← Rat.natCast_mul, ← hy]
  have h3 := natR_ne hg
  have h4 := natR_ne hy0
  show (x : Rat) / (y : Rat) = (a : Rat) / (b : Rat)
  generalize (Nat.gcd a b : Rat) = g at h1 h2 h3
  grind
theorem plusN_fv {p q : Fr} (hp : 0 < p.2) (hq : 0 < q.2) : fv (plusN p q) = fv p + fv q := by
  unfold plusN
  rw [ratioN_fv (Nat.mul_pos hp hq)]
  have h1 := natR_ne hp
  have h2 := natR_ne hq
  rw [Rat.natCast_add, Rat.natCast_mul, Rat.natCast_mul, Rat.natCast_mul]
  unfold fv
  grind
theorem moreN_fv {w made : Nat} {p : Fr} (hp : 0 < p.2) (hm : 0 < made) : fv (moreN w made p) = fv p * (w : Rat) / (made : Rat) := by
  unfold moreN
  rw [ratioN_fv (Nat.mul_pos hp hm)]
  have h1 := natR_ne hp
  have h2 := natR_ne hm
  rw [Rat.natCast_mul, Rat.natCast_mul]
  unfold fv
  grind
theorem ratioN_co {a b : Nat} (hb : 0 < b) : Nat.Coprime (ratioN a b).1 (ratioN a b).2 :=
  Nat.coprime_div_gcd_div_gcd (Nat.gcd_pos_of_pos_right a hb)
theorem ratioN_pos {a b : Nat} (ha : 0 < a) (hb : 0 < b) : 0 < (ratioN a b).1 ∧ 0 < (ratioN a b).2 :=
  ⟨Nat.div_pos (Nat.gcd_le_left b ha) (Nat.gcd_pos_of_pos_right a hb), Nat.div_pos (Nat.gcd_le_right a hb) (Nat.gcd_pos_of_pos_right a hb)⟩
/-- every entry is a positive fraction in lowest terms -/
def PosT (t : FTab) : Prop := ∀ k p, look t k = some p → 0 < p.1 ∧ 0 < p.2
theorem PosT.den {t : FTab} (h : PosT t) (k : Int) : 0 < ((look t k).getD (0, 1)).2 := by
  cases e : look t k with
  | none => exact Nat.one_pos
  | some p => exact (h k p e).2
theorem ratioN_den {w made : Nat} {p : Fr} (hp : 0 < p.2) (hm : 0 < made) : 0 < (moreN w made p).2 := by
  unfold moreN
  exact Nat.div_pos (Nat.gcd_le_right _ (Nat.mul_pos hp hm)) (Nat.gcd_pos_of_pos_right _ (Nat.mul_pos hp hm))
theorem vl_mixOne {w made : Nat} {kn t : FTab} {k : Int} (ht : PosT t) (hk : PosT kn) (hm : 0 < made) (j : Int) :
    vl (mixOne w made kn t k) j = vl t j + if j = k then vl kn k * (w : Rat) / (made : Rat) else 0 := by
  unfold vl mixOne
  rw [look_putA]
  by_cases e : j = k
  · rw [if_pos e, if_pos e, e]
    show fv (plusN _ _) = _
    rw [plusN_fv (ht.den k) (ratioN_den (hk.den k) hm), moreN_fv (hk.den k) hm]
  · rw [if_neg e, if_neg e, Rat.add_zero]
theorem vl_none {t : FTab} {k : Int} (h : k ∉ t.map (·.1)) : vl t k = 0 := by
  unfold vl
  cases e : look t k with
  | none => exact fv0
  | some p => exact absurd (look_key.mp (by rw [e]; rfl)) h
theorem posT_nil : PosT [] := fun k p h => by cases h
theorem posT_mixOne {w made : Nat} {kn t : FTab} {k : Int} (ht : PosT t) (hk : PosT kn) (hm : 0 < made) (hw : 0 < w) (hkk : k ∈ kn.map (·.1)) : PosT (mixOne w made kn t k) := fun j p e => by
  unfold mixOne at e
  rw [look_putA] at e
  by_cases hj : j = k
  · rw [if_pos hj] at e
    rw [← Option.some.inj e]
    obtain ⟨q, hq⟩ := Option.isSome_iff_exists.mp (look_key.mpr hkk)
    have hq1 := (hk k q hq).1
    have hq2 := (hk k q hq).2
    rw [hq]
    have h1 : 0 < (moreN w made q).1 ∧ 0 < (moreN w made q).2 := ratioN_pos (Nat.mul_pos hq1 hw) (Nat.mul_pos hq2 hm)
    have h2 := ht.den k
    show 0 < (plusN ((look t k).getD (0, 1)) (moreN w made q)).1 ∧ 0 < (plusN ((look t k).getD (0, 1)) (moreN w made q)).2
    exact ratioN_pos (Nat.add_pos_right _ (Nat.mul_pos h1.1 h2)) (Nat.mul_pos h2 h1.2)
  · rw [if_neg hj] at e
    exact ht j p e
theorem mixKeys_vl {w made : Nat} {kn : FTab} (hk : PosT kn) (hm : 0 < made) (hw : 0 < w) : ∀ (ks : List Int) (t : FTab), PosT t → ks.Nodup → (∀ k ∈ ks, k ∈ kn.map (·.1)) →
    PosT (ks.foldl (mixOne w made kn) t) ∧ ∀ j, vl (ks.foldl (mixOne w made kn) t) j = vl t j + if j ∈ ks then vl kn j * (w : Rat) / (made : Rat) else 0
  | [], t, ht, _, _ => ⟨ht, fun j => by rw [if_neg (by simp), Rat.add_zero]; rfl⟩
  | k :: r, t, ht, nd, hks => by
    rw [List.nodup_cons] at nd
    obtain ⟨h1, h2⟩ := mixKeys_vl hk hm hw r (mixOne w made kn t k) (posT_mixOne ht hk hm hw (hks k List.mem_cons_self)) nd.2 fun x hx => hks x (List.mem_cons_of_mem _ hx)
    refine ⟨h1, fun j => ?_⟩
    rw [List.foldl_cons, h2 j, vl_mixOne ht hk hm j]
    by_cases e : j = k
    · rw [if_pos e, if_neg (by rw [e]; exact nd.1), if_pos (by rw [e]; exact List.mem_cons_self), Rat.add_zero, e]
    · rw [if_neg e, Rat.add_zero]
      by_cases m : j ∈ r
      · rw [if_pos m, if_pos (List.mem_cons_of_mem _ m)]
      · rw [if_neg m, if_neg (by simp [e, m])]
theorem mixAll_vl {w made : Nat} {kn t : FTab} (hk : PosT kn) (nd : (kn.map (·.1)).Nodup) (hm : 0 < made) (hw : 0 < w) (ht : PosT t) :
    PosT ((kn.map (·.1)).foldl (mixOne w made kn) t) ∧ ∀ j, vl ((kn.map (·.1)).foldl (mixOne w made kn) t) j = vl t j + vl kn j * (w : Rat) / (made : Rat) := by
  obtain ⟨h1, h2⟩ := mixKeys_vl hk hm hw (kn.map (·.1)) t ht nd fun k h => h
  refine ⟨h1, fun j => ?_⟩
  rw [h2 j]
  split
  · rfl
  · rename_i h
    rw [vl_none h]
    congr 1
    have := natR_ne hm
    grind
/-- the legs into a lot -/
theorem mixLegs_vl {made n : Nat} {known : List FTab} (hm : 0 < made) (hp : ∀ i, i < n → PosT (known.getD i []) ∧ ((known.getD i []).map (·.1)).Nodup) : ∀ (gs : List Leg) (t : FTab), PosT t → (∀ g ∈ gs, g.of < g.to ∧ 1 ≤ g.weight) →
    PosT (gs.foldl (mixLeg made n known) t) ∧ ∀ j, vl (gs.foldl (mixLeg made n known) t) j = ((gs.filter fun (g : Leg) => g.to == n).map fun (g : Leg) => (g.weight : Rat) * vl (known.getD g.of []) j / (made : Rat)).foldl (fun (a b : Rat) => a + b) (vl t j)
  | [], t, ht, _ => ⟨ht, fun j => rfl⟩
  | g :: r, t, ht, hg => by
    have hg0 := hg g List.mem_cons_self
    by_cases e : g.to = n
    · have hkn := hp g.of (by omega)
      have hA := mixAll_vl (t := t) hkn.1 hkn.2 hm hg0.2 ht
      have hs : mixLeg made n known t g = ((known.getD g.of []).map (·.1)).foldl (mixOne g.weight made (known.getD g.of [])) t := by unfold mixLeg; rw [if_pos e]
      have hB := mixLegs_vl hm hp r (mixLeg made n known t g) (by rw [hs]; exact hA.1) fun x hx => hg x (List.mem_cons_of_mem _ hx)
      rw [List.foldl_cons]
      refine ⟨hB.1, fun j => ?_⟩
      rw [hB.2 j, List.filter_cons, if_pos (by simp [e]), List.map_cons, List.foldl_cons, hs, hA.2 j, Rat.mul_comm (g.weight : Rat)]
    · have hs : mixLeg made n known t g = t := by unfold mixLeg; rw [if_neg e]
      have hB := mixLegs_vl hm hp r t ht fun x hx => hg x (List.mem_cons_of_mem _ hx)
      rw [List.foldl_cons, hs, List.filter_cons, if_neg (by simp [e])]
      exact hB
theorem fold_div (m : Rat) (l : List Rat) (a : Rat) : (l.map fun (x : Rat) => x / m).foldl (fun (a b : Rat) => a + b) (a / m) = l.foldl (fun (a b : Rat) => a + b) a / m := by
  induction l generalizing a with
  | nil => rfl
  | cons x r ih =>
    rw [List.map_cons, List.foldl_cons, List.foldl_cons, ← ih (a + x)]
    congr 1
    rw [Rat.div_def, Rat.div_def, Rat.div_def, Rat.add_mul]
/-- the first n amounts -/
def amtStep (b : Book) (f : Nat) (l : List Rat) (n : Nat) : Rat := if (b.lot n).founder = true then (if n = f then ((b.lot n).made : Rat) else 0) else sumQ ((b.legs.filter fun (g : Leg) => g.to == n).map fun (g : Leg) => (g.weight : Rat) * l.getD g.of 0 / ((b.lot g.of).made : Rat))
def amtL (b : Book) (f : Nat) : Nat → List Rat
  | 0 => []
  | n + 1 => amtL b f n ++ [amtStep b f (amtL b f n) n]
theorem amtL_len (b : Book) (f : Nat) : ∀ n, (amtL b f n).length = n
  | 0 => rfl
  | n + 1 => by
    show (amtL b f n ++ [_]).length = _
    rw [List.length_append, amtL_len b f n]; rfl
theorem amounts_is (b : Book) (f : Nat) : b.amounts f = amtL b f b.lots.length := by
  unfold Book.amounts
  generalize b.lots.length = n
  induction n with
  | zero => rfl
  | succ n ih => rw [List.range_succ, List.foldl_append, ih]; rfl
theorem amtL_none {b : Book} {f : Nat} (hf : (b.lot f).founder = false) : ∀ n, ∀ x ∈ amtL b f n, x = 0
  | 0, x, h => by cases h
  | n + 1, x, h => by
    have ih := amtL_none hf n
    rcases List.mem_append.mp (show x ∈ amtL b f n ++ [amtStep b f (amtL b f n) n] from h) with h | h
    · exact ih x h
    · rw [List.mem_singleton] at h
      rw [h]
      unfold amtStep
      split
      · rename_i h1
        rw [if_neg (fun e => by rw [e, hf] at h1; cases h1)]
      · have h0 : ∀ i, (amtL b f n).getD i 0 = 0 := fun i => by
          rw [List.getD_eq_getElem?_getD]
          cases e : (amtL b f n)[i]? with
          | none => rfl
          | some v => exact ih v (List.mem_of_getElem? e)
        unfold sumQ
        generalize (b.legs.filter fun (g : Leg) => g.to == n) = gs
        induction gs with
        | nil => rfl
        | cons g r ih2 =>
          rw [List.map_cons, List.foldl_cons, h0, Rat.mul_zero, show (0 : Rat) + 0 / ((b.lot g.of).made : Rat) = 0 by rw [Rat.div_def, Rat.zero_mul, Rat.add_zero]]
          exact ih2
end LF
end
section
set_option linter.all false
set_option autoImplicit false
set_option exponentiation.threshold 10000
namespace LF
open TbBase TbLtBook TbLtSpec

theorem getD_snoc_lt {α : Type} {l : List α} {x d : α} {i n : Nat} (hl : l.length = n) (h : i < n) : (l ++ [x]).getD i d = l.getD i d := by
  rw [List.getD_eq_getElem?_getD, List.getElem?_append_left (by omega), ← List.getD_eq_getElem?_getD]
theorem getD_snoc_at {α : Type} {l : List α} {x d : α} {n : Nat} (hl : l.length = n) : (l ++ [x]).getD n d = x := by
  rw [List.getD_eq_getElem?_getD, List.getElem?_append_right (by omega), hl, Nat.sub_self]; rfl
/-- the tables are the specification's amounts -/
theorem tabs_law {es : Es} (hI : GoodIs es) : ∀ n, n ≤ (mbookOf es).lots.length → ∀ i, i < n →
    PosT (((mbookOf es).shareTabs n).getD i []) ∧ ∀ f : Nat, vl (((mbookOf es).shareTabs n).getD i []) (f : Int) * (((mbookOf es).lot i).made : Rat) = (amtL (bookOf es) f n).getD i 0
  | 0, _, i, h => by omega
  | n + 1, hn, i, hi => by
    have ih := tabs_law hI n (by omega)
    have R := hI.rel.rel
    have X := Good.mix hI
    have hK := shareTabs_ok X n (by omega)
    have hL : ∀ f, (amtL (bookOf es) f n).length = n := fun f => amtL_len _ f n
    show PosT (((mbookOf es).shareTabs n ++ [if ((mbookOf es).lot n).founder = true then [((n : Int), (1, 1))] else (mbookOf es).mixed n ((mbookOf es).shareTabs n)]).getD i []) ∧ ∀ f : Nat, vl (((mbookOf es).shareTabs n ++ [if ((mbookOf es).lot n).founder = true then [((n : Int), (1, 1))] else (mbookOf es).mixed n ((mbookOf es).shareTabs n)]).getD i []) (f : Int) * (((mbookOf es).lot i).made : Rat) = (amtL (bookOf es) f n ++ [amtStep (bookOf es) f (amtL (bookOf es) f n) n]).getD i 0
    by_cases e : i < n
    · rw [getD_snoc_lt hK.1 e]
      refine ⟨(ih i e).1, fun f => ?_⟩
      rw [getD_snoc_lt (hL f) e]
      exact (ih i e).2 f
    · have e : i = n := by omega
      subst e
      rw [getD_snoc_at hK.1]
      have hm : 0 < ((mbookOf es).lot i).made := (X.made i (by omega)).1
      by_cases hf : ((mbookOf es).lot i).founder = true
      · rw [if_pos hf]
        refine ⟨fun k p h => ?_, fun f => ?_⟩
        · rw [look_cons] at h
          split at h
          · rw [← Option.some.inj h]; exact ⟨Nat.one_pos, Nat.one_pos⟩
          · cases h
        · rw [getD_snoc_at (hL f)]
          unfold amtStep
          rw [R.founder i (by omega), if_pos hf, R.made i (by omega)]
          unfold vl
          rw [look_cons]
          by_cases q : i = f
          · subst q
            rw [if_pos rfl, if_pos rfl]
            show fv (1, 1) * _ = _
            rw [show fv (1, 1) = 1 by (show ((1 : Nat) : Rat) / ((1 : Nat) : Rat) = 1; grind), Rat.one_mul]
          · rw [if_neg (by omega), if_neg q]
            show fv (0, 1) * _ = _
            rw [fv0, Rat.zero_mul]
      · rw [if_neg hf]
        have hp : ∀ j, j < i → PosT (((mbookOf es).shareTabs i).getD j []) ∧ ((((mbookOf es).shareTabs i).getD j []).map (·.1)).Nodup := fun j hj => ⟨(ih j hj).1, (hK.at hj).nd⟩
        have hA := mixLegs_vl hm hp (mbookOf es).legs [] posT_nil fun g hg => ⟨(hI.rel.leg g hg).1, (hI.rel.leg g hg).2.2.1⟩
        refine ⟨hA.1, fun f => ?_⟩
        rw [getD_snoc_at (hL f)]
        unfold amtStep
        rw [R.founder i (by omega), if_neg hf, hI.rel.legs]
        refine Eq.trans (congrArg (· * (((mbookOf es).lot i).made : Rat)) (hA.2 (f : Int))) ?_
        have h0 : vl ([] : FTab) (f : Int) = 0 / (((mbookOf es).lot i).made : Rat) := by
          rw [Rat.div_def, Rat.zero_mul]; exact fv0
        have hl : (((mbookOf es).legs.filter fun (g : Leg) => g.to == i).map fun (g : Leg) => (g.weight : Rat) * vl (((mbookOf es).shareTabs i).getD g.of []) (f : Int) / (((mbookOf es).lot i).made : Rat)) =
            (((mbookOf es).legs.filter fun (g : Leg) => g.to == i).map fun (g : Leg) => (g.weight : Rat) * (amtL (bookOf es) f i).getD g.of 0 / (((bookOf es).lot g.of).made : Rat)).map fun (x : Rat) => x / (((mbookOf es).lot i).made : Rat) := by
          rw [List.map_map]
          apply List.map_congr_left
          intro g hg
          obtain ⟨hg1, hg2⟩ := List.mem_filter.mp hg
          have hto : g.to = i := by simpa using hg2
          have hof : g.of < i := by have := (hI.rel.leg g hg1).1; omega
          show _ = (g.weight : Rat) * (amtL (bookOf es) f i).getD g.of 0 / (((bookOf es).lot g.of).made : Rat) / (((mbookOf es).lot i).made : Rat)
          rw [← (ih g.of hof).2 f, R.made g.of (by omega)]
          have h1 := natR_ne (X.made g.of (by omega)).1
          have h2 := natR_ne hm
          grind
        rw [h0, hl, fold_div]
        have h2 := natR_ne hm
        unfold sumQ
        generalize List.foldl (fun (a b : Rat) => a + b) 0 _ = s
        show s / _ * _ = s
        grind
end LF
end
section
set_option linter.all false
set_option autoImplicit false
set_option exponentiation.threshold 10000
namespace LF
open TbBase TbLtBook TbLtSpec

theorem keysF_len {t : FTab} {n D M : Nat} (h : TabF n D M t) : (keysIn t n).length = t.length := by
  have hk : ((keysIn t n).map vz).Nodup := by
    rw [List.nodup_iff_pairwise_ne]
    exact (range_filter_sorted n _).imp fun {a b} q => by omega
  have h1 := nodup_sub ((keysIn t n).map vz) (t.map (·.1)) hk fun x hx => by
    obtain ⟨i, hi, e⟩ := List.mem_map.mp hx
    obtain ⟨_, v, hv⟩ := keysIn_mem hi
    rw [← e]
    exact look_key.mp (by show (look t (i : Int)).isSome = true; rw [hv]; rfl)
  have h2 := nodup_sub (t.map (·.1)) ((keysIn t n).map vz) h.nd fun x hx => by
    have := h.rng x hx
    refine List.mem_map.mpr ⟨x.toNat, List.mem_filter.mpr ⟨List.mem_range.mpr (by omega), ?_⟩, show ((x.toNat : Nat) : Int) = x by omega⟩
    rw [show ((x.toNat : Nat) : Int) = x by omega, look_key]
    exact hx
  rw [List.length_map, List.length_map] at h1 h2
  omega
theorem ratioN_numden {a b : Nat} (hb : 0 < b) {q : Rat} (hq : q = (a : Rat) / (b : Rat)) : q.num = ((ratioN a b).1 : Int) ∧ q.den = (ratioN a b).2 := by
  have h0 := Nat.pos_iff_ne_zero.mp (ratioN_pos (a := 1) Nat.one_pos hb).2
  have hd : 0 < (ratioN a b).2 := Nat.div_pos (Nat.gcd_le_right _ hb) (Nat.gcd_pos_of_pos_right _ hb)
  have hc := ratioN_co (a := a) hb
  have hv := ratioN_fv (a := a) hb
  let r : Rat := ⟨((ratioN a b).1 : Int), (ratioN a b).2, Nat.pos_iff_ne_zero.mp hd, by simpa using hc⟩
  have hr : r = fv (ratioN a b) := by
    have h1 : r = mkRat r.num r.den := (Rat.mkRat_self r).symm
    rw [h1, Rat.mkRat_eq_div]
    rfl
  have e : q = r := by rw [hq, ← hv, hr]
  rw [e]
  exact ⟨rfl, rfl⟩
theorem fv_pos {p : Fr} (h1 : 0 < p.1) (h2 : 0 < p.2) : fv p ≠ 0 := by
  have a := natR_ne h1
  have b := natR_ne h2
  unfold fv
  grind
theorem filterMap_keys {β : Type} (t : FTab) (n : Nat) (F : Nat → β) (G : Nat → Option β) (h : ∀ i, i < n → G i = if (look t (i : Int)).isSome = true then some (F i) else none) : (List.range n).filterMap G = (keysIn t n).map F := by
  unfold keysIn
  induction n with
  | zero => rfl
  | succ n ih =>
    rw [List.range_succ, List.filterMap_append, List.filter_append, List.map_append, ih fun i hi => h i (by omega)]
    congr 1
    rw [List.filterMap_cons, h n (by omega), List.filter_cons]
    by_cases q : (look t (n : Int)).isSome = true
    · rw [if_pos q, if_pos q]; rfl
    · rw [if_neg q, if_neg q]; rfl
theorem amtL_at (b : Book) (f : Nat) {x : Nat} : ∀ n, x < n → (amtL b f n).getD x 0 = (amtL b f (x + 1)).getD x 0
  | 0, h => by omega
  | n + 1, h => by
    by_cases e : x = n
    · rw [e]
    · rw [← amtL_at b f n (by omega)]
      exact getD_snoc_lt (amtL_len b f n) (by omega)
theorem shares_list {es : Es} (hI : GoodIs es) {x : Nat} (hx : x < (mbookOf es).lots.length) :
    (bookOf es).shares x = (keysIn (((mbookOf es).shareTabs (x + 1)).getD x []) (mbookOf es).lots.length).map fun (i : Nat) => (i, vl (((mbookOf es).shareTabs (x + 1)).getD x []) (i : Int) * ((bookOf es).left x : Rat)) := by
  have hT := tabs_law hI (x + 1) (by omega) x (by omega)
  have R := hI.rel.rel
  have hm := natR_ne ((Good.mix hI).made x hx).1
  have hmade := R.made x hx
  unfold Book.shares
  rw [List.filterMap_filter, R.lots]
  generalize ((mbookOf es).shareTabs (x + 1)).getD x [] = t at hT ⊢
  refine filterMap_keys t _ _ _ fun i hi => ?_
  have ha : ((bookOf es).amounts i).getD x 0 = vl t (i : Int) * (((mbookOf es).lot x).made : Rat) := by
    rw [amounts_is, R.lots, amtL_at _ _ _ hx, hT.2 i]
  show (if ((bookOf es).lot i).founder = true then (if ((bookOf es).amounts i).getD x 0 = 0 then none else some (i, ((bookOf es).amounts i).getD x 0 * ((bookOf es).left x : Rat) / (((bookOf es).lot x).made : Rat))) else none) = _
  by_cases q : (look t (i : Int)).isSome = true
  · obtain ⟨p, hp⟩ := Option.isSome_iff_exists.mp q
    have hv : vl t (i : Int) ≠ 0 := by
      unfold vl
      rw [hp]
      exact fv_pos (hT.1 _ p hp).1 (hT.1 _ p hp).2
    have hne : ((bookOf es).amounts i).getD x 0 ≠ 0 := by
      rw [ha]; grind
    have hf : ((bookOf es).lot i).founder = true := by
      cases hf : ((bookOf es).lot i).founder with
      | true => rfl
      | false =>
        refine absurd ?_ hne
        rw [amounts_is, List.getD_eq_getElem?_getD]
        cases e : (amtL (bookOf es) i (bookOf es).lots.length)[x]? with
        | none => rfl
        | some v => exact amtL_none hf _ v (List.mem_of_getElem? e)
    rw [if_pos hf, if_neg hne, if_pos q, ha, hmade]
    congr 2
    grind
  · have hv : vl t (i : Int) = 0 := by
      unfold vl
      cases e : look t (i : Int) with
      | none => exact fv0
      | some p => exact absurd (by rw [e]; rfl) q
    have hz : ((bookOf es).amounts i).getD x 0 = 0 := by rw [ha, hv, Rat.zero_mul]
    rw [if_pos hz, if_neg q]
    split <;> rfl
theorem shares_law {es : Es} (hI : GoodIs es) (x : Nat) (rows : List (List Nat)) : sharesM es [x] rows = readOut es (.shares x) := by
  refine Eq.trans (show sharesM es [x] rows = outOf (chkLot (mbookOf es) x) es (es, vz (((mbookOf es).shareTabs (x + 1)).getD x []).length :: (keysIn (((mbookOf es).shareTabs (x + 1)).getD x []) (mbookOf es).lots.length).flatMap fun (i : Nat) => let p := (look (((mbookOf es).shareTabs (x + 1)).getD x []) (i : Int)).getD (0, 1); [vz i, vz (ratioN (p.1 * ((mbookOf es).lot x).left.toNat) p.2).1, vz (ratioN (p.1 * ((mbookOf es).lot x).left.toNat) p.2).2]) from rfl) ?_
  have hA : readOut es (.shares x) = (es, TbLtNeutral.told (if (bookOf es).has x = true then (let s := (bookOf es).shares x
    tells (s.length : Nat) (s.flatMap fun (y : Nat × Rat) => (y.1 : Int) :: frac y.2)) else says (-4))) := by
    unfold readOut
    show (es, TbLtNeutral.told (if (bookOf es).has x = false then says (-4) else _)) = _
    cases (bookOf es).has x <;> rfl
  rw [hA]
  refine lotc_law hI fun hx => ?_
  show _ = ((((bookOf es).shares x).length : Nat) : Int) :: ((bookOf es).shares x).flatMap fun (y : Nat × Rat) => (y.1 : Int) :: frac y.2
  rw [shares_list hI hx, List.length_map]
  have hT := (tabs_law hI (x + 1) (by omega) x (by omega)).1
  have hK := (shareTabs_ok (Good.mix hI) (x + 1) (by omega)).at (i := x) (by omega)
  rw [keysF_len hK]
  congr 1
  have hl : (((mbookOf es).lot x).left.toNat : Nat) = (bookOf es).left x := by have := hI.rel.leftN hx; omega
  rw [hl]
  generalize ((mbookOf es).shareTabs (x + 1)).getD x [] = t at hT hK ⊢
  generalize keysIn t (mbookOf es).lots.length = ks
  generalize (bookOf es).left x = L
  induction ks with
  | nil => rfl
  | cons i r ih =>
    rw [List.map_cons, List.flatMap_cons, List.flatMap_cons, ← ih]
    congr 1
    have hd := hT.den (i : Int)
    have hn := natR_ne hd
    have hq : vl t (i : Int) * (L : Rat) = ((((look t (i : Int)).getD (0, 1)).1 * L : Nat) : Rat) / (((look t (i : Int)).getD (0, 1)).2 : Rat) := by
      unfold vl fv
      rw [Rat.natCast_mul]
      grind
    obtain ⟨h1, h2⟩ := ratioN_numden hd hq
    show [vz i, _, _] = [(i : Int), (vl t (i : Int) * (L : Rat)).num, (((vl t (i : Int) * (L : Rat)).den : Nat) : Int)]
    rw [h1, h2]
    rfl
end LF
end
section
set_option linter.all false
set_option autoImplicit false
namespace LF
open TbBase TbLtBook TbLtSpec

theorem whole_id (c : List (List Int)) : PyWrtblt.whole c = c := by
  unfold PyWrtblt.whole
  split <;> rfl
theorem read_good {es : Es} (hG : Good es) (c : Call) : Good (readOut es c).1 := hG
theorem step_law {es : Es} (hG : Good es) {c : List (List Int)} (h : (TbLtNeutral.callOf c).isSome = true) : stepM es c = TbLtNeutral.step es c ∧ Good (TbLtNeutral.step es c).1 := by
  have hI := hG.is
  unfold TbLtNeutral.callOf at h
  split at h
  · rename_i w x d
    exact ⟨found_law hI (TbLtNeutral.nat w) (TbLtNeutral.nat x) (TbLtNeutral.nat d) [], enter_good hG (.found (TbLtNeutral.nat w) (TbLtNeutral.nat x) (TbLtNeutral.nat d))⟩
  · rename_i w x d l
    exact ⟨lift_law hI (TbLtNeutral.nat w) (TbLtNeutral.nat x) (TbLtNeutral.nat d) l, enter_good hG (.lift (TbLtNeutral.nat w) (TbLtNeutral.nat x) (TbLtNeutral.nat d) (TbLtNeutral.pairs l))⟩
  · rename_i d l
    exact ⟨merge_law hI (TbLtNeutral.nat d) l, enter_good hG (.merge (TbLtNeutral.nat d) (TbLtNeutral.pairs l))⟩
  · rename_i k d l
    exact ⟨split_law hI (TbLtNeutral.nat k) (TbLtNeutral.nat d) (TbLtNeutral.nats l), enter_good hG (.split (TbLtNeutral.nat k) (TbLtNeutral.nat d) (TbLtNeutral.nats l))⟩
  · rename_i k w d
    exact ⟨lose_law hG (TbLtNeutral.nat k) (TbLtNeutral.nat w) (TbLtNeutral.nat d) [], enter_good hG (.lose (TbLtNeutral.nat k) (TbLtNeutral.nat w) (TbLtNeutral.nat d))⟩
  · exact ⟨undo_law es [] [], undo_good hG⟩
  · rename_i n
    exact ⟨lot_law hI (TbLtNeutral.nat n) [], hG⟩
  · exact ⟨legs_law hI [] [], hG⟩
  · rename_i d
    exact ⟨then_law hG (TbLtNeutral.nat d) [], hG⟩
  · rename_i x f
    exact ⟨may_law hI (TbLtNeutral.nat x) (TbLtNeutral.nats f), hG⟩
  · rename_i x f
    exact ⟨cut_law hI (TbLtNeutral.nat x) (TbLtNeutral.nats f), hG⟩
  · rename_i x f s
    exact ⟨weigh_law hI (TbLtNeutral.nat x) (TbLtNeutral.nats f) (TbLtNeutral.nats s), hG⟩
  · rename_i x f s
    exact ⟨lay_law hI (TbLtNeutral.nat x) (TbLtNeutral.nats f) (TbLtNeutral.nats s), hG⟩
  · rename_i x
    exact ⟨shares_law hI (TbLtNeutral.nat x) [], hG⟩
  · rename_i l
    exact ⟨falls_law hI [] (TbLtNeutral.nats l), hG⟩
  · rename_i x
    exact ⟨mothers_law hI (TbLtNeutral.nat x) [], hG⟩
  · exact ⟨sums_law hI [] [], hG⟩
  · cases h
theorem played_law : ∀ (raw : List (List (List Int))) {es : Es}, Good es → (∀ c ∈ raw, (TbLtNeutral.callOf c).isSome = true) → PyFlat.played stepM es raw = PyFlat.played TbLtNeutral.step es raw
  | [], _, _, _ => rfl
  | c :: r, es, hG, h => by
    have h1 := step_law hG (h c List.mem_cons_self)
    show (stepM es c).2 :: PyFlat.played stepM (stepM es c).1 r = _
    rw [h1.1, played_law r h1.2 fun x hx => h x (List.mem_cons_of_mem _ hx)]
    rfl
/-- what is asked, and what it says -/
theorem asked_law {ns : List Int} (h : PyWrtblt.answers_asked ns = true) : ∃ raw, PyFlat.calls PyWrtblt.shape ns.length ns = some raw ∧ (∀ c ∈ raw, ∀ r ∈ c, r.length ≤ 200) ∧ (∀ es, Good es → ∀ c ∈ raw, Good (stepM es c).1) ∧
    PyWrtblt.answers ns = PyFlat.told (PyFlat.played stepM [] raw) ∧ (PyFlat.told (PyFlat.played stepM [] raw)).length ≤ 10000000 := by
  unfold PyWrtblt.answers_asked at h
  split at h
  · cases h
  · rename_i raw e
    simp only [Bool.and_eq_true] at h
    obtain ⟨⟨⟨_, _⟩, hA⟩, hS⟩ := h
    have hw : raw.map PyWrtblt.whole = raw := by
      conv => rhs; rw [← List.map_id raw]
      exact List.map_congr_left fun c _ => whole_id c
    have hall : ∀ c ∈ raw, TbLtNeutral.asked1 c = true := by
      rw [hw] at hA
      unfold TbLtNeutral.asked at hA
      rw [Bool.and_eq_true] at hA
      exact List.all_eq_true.mp hA.1
    have hc : ∀ c ∈ raw, (TbLtNeutral.callOf c).isSome = true := fun c hc => by
      have := hall c hc
      unfold TbLtNeutral.asked1 at this
      rw [Bool.and_eq_true] at this
      exact this.1
    have hans : PyWrtblt.answers ns = PyFlat.told (PyFlat.played stepM [] raw) := by
      rw [played_law raw Good.nil hc]
      unfold PyWrtblt.answers PyWrtblt.calls
      rw [e]
      show PyFlat.told (PyFlat.played TbLtNeutral.step TbLtNeutral.start (raw.map PyWrtblt.whole)) = _
      rw [hw]
      rfl
    refine ⟨raw, e, fun c hcc r hr => ?_, fun es hG c hcc => ?_, hans, ?_⟩
    · have := hall c hcc
      unfold TbLtNeutral.asked1 at this
      rw [Bool.and_eq_true] at this
      have := List.all_eq_true.mp this.2 r hr
      rw [Bool.and_eq_true] at this
      exact of_decide_eq_true this.2
    · have := step_law hG (hc c hcc)
      rw [this.1]; exact this.2
    · rw [← hans]
      exact of_decide_eq_true hS
end LF
end
section
set_option Elab.async false
set_option linter.all false
set_option maxRecDepth 100000
set_option maxHeartbeats 4000000
namespace PySem
namespace RefX
open PySem.W PySem.Calls PyProof.Rows PySem.HandSPX
/-! ### the text of __init__ -/
def iA (p1 p2 : Pos) : Arguments := { posonlyargs := [], args := [{ arg := "self", annotation := none, pos := p1 }, { arg := "numbers", annotation := none, pos := p2 }], vararg := none, kwonlyargs := [], kw_defaults := [], kwarg := none, defaults := [] }
def iB (q1 q2 q3 q4 : Pos) : List Stmt := [.Assign [.Attribute (.Name "self" q1) "numbers" q2] (.Name "numbers" q3) q4]
def iS : Scope := { kind := .function, names := [(PySem.Str.ofString "self", .local), (PySem.Str.ofString "numbers", .local)], isGenerator := false, isCoroutine := false, more := [] }
/-- what the written part says of Low, at C, and of its __init__, at fI -/
structure RefTxt (K : Frag) (mg : Str → Option Value) (C fI : Addr) : Prop where
  gC : mg "Refused" = some (.ref C)
  cls : ∃ nm q N bs bm sn sub ab col dd k0 k1 k2 k3 k5, K.lookup C = some (excClassObj nm q C N bs bm true sn sub ab col dd k0 k1 k2 k3 k5 "ValueError.__new__") ∧ refsVE bm = true
  sa : findIn K (.ref C) "__setattr__" = some (some (.builtin "object.__setattr__"))
  ga : findIn K (.ref C) "__getattribute__" = some (some (.builtin "BaseException.__getattribute__"))
  gg : findIn K (.ref C) "__getattr__" = some none
  noN : findIn K (.ref C) "numbers" = some none
  iC : findIn K (.ref C) "__init__" = some (some (.ref fI))
  tC : typeIn K (.ref fI) = some (.type "function")
  kC : keepIn K (.ref C) = true
  exC : subIn K (.ref C) (.type "BaseException") = some true
  tyC : typeIn K (.ref C) = some (.type "type")
  hdC : hasDictIn K C = true
  te : exmOne K (.ref C) (.ref C) = some true
  fn : ∃ (oc : Value) (od : Option Addr) (doc pm : Value) (an : Option Addr) (cdv ct : Value) (osl : Array (Option Value)) (p1 p2 q1 q2 q3 q4 : Pos),
    K.lookup fI = some ⟨oc, od, .func (fnOf "__init__" "Refused.__init__" (iA p1 p2) (iB q1 q2 q3 q4) iS .none .none doc pm an cdv ct), osl⟩ ∧ codeIn K cdv "Refused.__init__" = true
theorem one_size (v : Value) : [v].length ≤ sizeLine := by
  rw [sizeLine_eq]
  exact (by decide : 1 ≤ 16777216)
theorem kept_but {K : Frag} {h h' : Heap} {x : Addr} (X : K.In h) (hx : K.lookup x = none) (k : ∀ b o, b ≠ x → h.get? b = some o → h'.get? b = some o) : K.In h' := fun a o e =>
  k a o (fun z => by rw [z, hx] at e; cases e) (X a o e)
theorem ldC {M : Model} {s : Shared} {name : Str} {scope : Scope} {L a : Addr} {cd : Value} {m : Str → Option Value} {x : Str} {pos : Pos} {v : Value} {Q : Value → Shared → Prop} {A : Around} {E : Value → Shared → Prop} (hn : s.heap.Ns L m) (hv : m x = some v) (h : Q v s)
    (hk : scope.kind = .function := by rfl) (hl : (envOfC name scope L a cd).kindOf x = some .local := by rfl) (hd : (x == ("__debug__" : Str)) = false := by decide) :
    wpAny M A (eval (.Name x pos) (envOfC name scope L a cd)) Q E s := wpAny_Name (wpAny_loadName_local hk hl hn hv h) hd
/-- what __init__ leaves of a fresh exception at x -/
structure InitEnd (h h' : Heap) (x C dx t1 : Addr) (v : Value) : Prop where
  keep : ∀ b o, b ≠ x → h.get? b = some o → h'.get? b = some o
  obj : h'.get? x = some { cls := .ref C, dict := some dx, data := .fields #[.ref t1, .none, .none, .none, .bool false, .none] }
  dbig : h.objs.size ≤ dx
  dne : dx ≠ x
  ns : h'.Ns1 dx (fun y => if y = "numbers" then some v else none)
/-- a made Low -/
structure OwnMade (h h' : Heap) (e C d : Addr) (v : Value) : Prop where
  keep : ∀ b o, h.get? b = some o → h'.get? b = some o
  new : h.objs.size ≤ e
  obj : ∃ oe vs, h'.get? e = some oe ∧ oe.cls = .ref C ∧ oe.dict = some d ∧ oe.data = .fields vs ∧ vs[1]? = some .none
  dbig : h.objs.size ≤ d
  dne : d ≠ e
  ns : h'.Ns1 d (fun y => if y = "numbers" then some v else none)
section
variable {prog : Program} {w : World} {A : Around} {E : Value → Shared → Prop} {R : Result → Shared → Prop} {s : Shared} {K : Frag} {mg : Str → Option Value} {C fI : Addr}
theorem ref_init (T : RefTxt K mg C fI) {x t0 : Addr} {v : Value} (X : K.In s.heap) (hlim : s.heap.NoLimit) (hx : s.heap.get? x = some (excO C t0)) (hnx : K.lookup x = none) (hroom : A.depth < recursionLimit)
    (hq : ∀ h' tk dx, InitEnd s.heap h' x C dx t0 v → R (.ok (.ret .none)) { s with heap := h', toks := tk }) :
    codeAny (model prog w) A (.call (.ref fI) ⟨[.ref x, v], []⟩) R s := by
  obtain ⟨oc, od, doc, pm, an, cdv, ct, osl, p1, p2, q1, q2, q3, q4, ho, hcd⟩ := T.fn
  obtain ⟨nm, q, N, bs, bm, sn, sub, ab, col, dd, k0, k1, k2, k3, k5, hC, hbm⟩ := T.cls
  have hcl : clsIn K C = some { name := nm, bases := bs, mro := .ref C :: bm, ns := N, qualname := q, hasDict := true, slotNames := sn, subclasses := sub, abstract := ab, collection := col, hasDel := false } := by unfold clsIn; rw [hC] <;> rfl
  refine Att.call_fn (binds := [("self", .ref x), ("numbers", v)]) X hlim ho hcd hroom (BindsTo.of_eq (by first | rfl | with_unfolding_all rfl)) (by first | rfl | decide | with_unfolding_all rfl) (fun s₁ IC => ?_) rfl rfl rfl
  obtain ⟨h₁, tk₁, rfl⟩ := IC.toInCall.same
  have k : ∀ b o, s.heap.get? b = some o → h₁.get? b = some o := IC.toInCall.keep
  have hn := IC.toInCall.ns
  have hxL : s.heap.objs.size ≠ x := Nat.ne_of_gt (Heap.lt_size hx)
  have X₁ : K.In h₁ := X.keeps k
  have hx₁ := k _ _ hx
  -- self.by = by
  show wpAny _ _ (execs _ _) _ _ _
  refine wpAny_execs_cons (plainObj_wpAny_Assign_Attribute ?_)
  refine ldC (v := v) hn (by first | rfl | with_unfolding_all rfl | kernel_rfl) (ldC (v := .ref x) hn (by first | rfl | with_unfolding_all rfl | kernel_rfl) ?_)
  refine set_plain X₁ (ox := excO C t0) (od := none) ⟨hx₁, rfl, rfl, trivial⟩ T.sa ?_
  refine exc_osa X₁ hx₁ hcl (show refsVE (.ref C :: bm) = true from hbm) rfl T.noN (fun h₃ tk₃ dx k₃ dn dne hx₃ hn₃ => ?_)
  show wpAny _ _ (execs _ _) _ _ _
  have z : s.heap.objs.size < h₁.objs.size := hn.lt
  exact wpAny_execs_nil (hq h₃ tk₃ dx ⟨fun b o hb e => k₃ b o hb (k b o e), hx₃, Nat.le_of_lt (Nat.lt_of_lt_of_le z dn), dne, hn₃⟩)
theorem ref_made (T : RefTxt K mg C fI) {v : Value} (X : K.In s.heap) (hlim : s.heap.NoLimit) (hroom : A.depth + 1 < recursionLimit)
    (hq : ∀ h' tk e d, OwnMade s.heap h' e C d v → R (.ok (.ret (.ref e))) { s with heap := h', toks := tk }) :
    codeAny (model prog w) A (.call (.ref C) ⟨[v], []⟩) R s := by
  obtain ⟨nm, q, N, bs, bm, sn, sub, ab, col, dd, k0, k1, k2, k3, k5, hC, hbm⟩ := T.cls
  obtain ⟨hp, g, dr, tk, os⟩ := s
  have k : ∀ b o, hp.get? b = some o → ((hp.push (kdv_tup [v])).push (excO C hp.objs.size)).get? b = some o := fun b o e => Heap.get?_push_of_some _ (Heap.get?_push_of_some _ e)
  have hget : ((hp.push (kdv_tup [v])).push (excO C hp.objs.size)).get? (hp.objs.size + 1) = some (excO C hp.objs.size) := by heap_get
  have hnx : K.lookup (hp.objs.size + 1) = none := by
    cases e : K.lookup (hp.objs.size + 1) with
    | none => rfl
    | some o =>
      have z : hp.get? (hp.objs.size + 1) = some o := X _ _ e
      exact absurd (Nat.lt_of_succ_lt (Heap.lt_size z)) (Nat.lt_irrefl _)
  refine call_own F.excBase_ValueError (fun X => refsVE_contains X bm hbm) (X _ _ hC) (looks_findIn X T.iC) (fun self => bind_fn X self T.tC) (one_size v) ?_
  refine ref_init (s := ⟨(hp.push (kdv_tup [v])).push (excO C hp.objs.size), g, dr, tk, os⟩) T (X.keeps k) (hlim.keeps k) hget hnx ?_ fun h' tk' dx ⟨k', hx, dn, dne, hns⟩ => ?_
  · show A.depth + 1 < recursionLimit
    exact hroom
  · have old : ∀ b o, hp.get? b = some o → h'.get? b = some o := fun b o e => k' b o (Nat.ne_of_lt (Nat.lt_succ_of_lt (Heap.lt_size e))) (k b o e)
    have z : hp.objs.size + 1 + 1 ≤ dx := by
      first
        | (simpa only [Heap.size_push] using dn)
        | exact dn
        | (have q := dn; rw [Heap.size_push, Heap.size_push] at q; exact q)
    exact ⟨rfl, hq h' tk' (hp.objs.size + 1) dx ⟨old, Nat.le_succ _, ⟨_, _, hx, rfl, rfl, rfl, rfl⟩, Nat.le_trans (Nat.le_trans (Nat.le_succ _) (Nat.le_succ _)) z, dne, hns⟩⟩
end
end RefX
end PySem
namespace L2
open PySem PySem.Spec PyProof.Rows
theorem relO_ref {v : V} {v' : Value} (r : RelV v v') (f : Str) : RelO (List.lookup f [(("numbers" : Str), v)]) (if f = "numbers" then some v' else none) := by
  by_cases hw : f = "numbers"
  · subst hw
    rw [if_pos rfl]
    have q : List.lookup ("numbers" : Str) [(("numbers" : Str), v)] = some v := by simp [List.lookup]
    rw [q]
    exact r
  · rw [if_neg hw]
    have qw : (f == ("numbers" : Str)) = false := by simpa using hw
    have q2 : List.lookup f [(("numbers" : Str), v)] = none := by simp [List.lookup, qw]
    rw [q2]
    trivial
section
variable {X : Cx} {C fI : Addr}
/-- Low(e) -/
def tMkRef (C : Addr) (ta : TA) : St → Hp → XK → Prop := fun σ H Q => ta σ H fun vs H1 => ∃ v, vs = [v] ∧ ∀ d, H1 d = none → Q (.ref C) (some d) (upd H1 d (.xd [(("numbers" : Str), v)]))
theorem pmk_ref {a : Expr} {ta : TA} {p pos : Pos} {k : Nat} (T : PySem.RefX.RefTxt X.K X.mg C fI) (hr : Room k X.A) (ha : PA X [a] ta) (hg : Gl X "Refused" := by rfl)
    (he : starEach (a :: []) X.env = (false, eval a X.env) :: starEach [] X.env := by rfl) (hpl : (backTo pos (starEach [] X.env)).any (·.1) = false := by rfl) :
    PMk X (.Call (.Name "Refused" p) [a] [] pos) (tMkRef C ta) := by
  intro pins s σ H Q I h
  refine wpAny_Call_Name_kw (ld_glob I hg T.gC ?_)
  refine PySem.W.callWith_K (h₀ := X.base) I.ok.mod.kin T.kC (thn (ha.run pos pins s σ H _ I h) fun us s1 hh => ?_) he hpl
  obtain ⟨vs, H1, I1, r1, v, ev, q1⟩ := hh
  subst ev
  refine ⟨I1.kIn, ?_⟩
  cases r1 with
  | cons rv rn =>
    rename_i v' us'
    cases rn
    show wpAny _ _ (call (.ref C) [v']) _ _ _
    have hlim := I1.nolimit
    obtain ⟨hp, g, dr, tk, os⟩ := s1
    refine wpAny_call (PySem.RefX.ref_made T I1.kIn hlim (by have := hr.dp; omega) fun h' tk' e d M => ?_)
    show MkP X pins σ Q (.ref e) ⟨h', g, dr, tk', os⟩
    obtain ⟨oe, fv, hoe, hc, hd, hdat, h1⟩ := M.obj
    have hns := M.ns
    obtain ⟨G', g1, g2⟩ := restrict h' fun b => decide (b ≠ e)
    have gk : ∀ b, b ≠ e → G'.get? b = h'.get? b := fun b hb => g1 b (decide_eq_true hb)
    have ge : G'.get? e = none := g2 e (by simp)
    have old : ∀ b o, hp.get? b = some o → G'.get? b = some o := fun b o q => (gk b (Nat.ne_of_lt (Nat.lt_of_lt_of_le (Heap.lt_size q) M.new))).trans (M.keep b o q)
    have ob : ObjOk X.prog X.w (upd H1 d (.xd [(("numbers" : Str), v)])) G' d (.xd [(("numbers" : Str), v)]) :=
      ⟨_, hns.at (fun o q => (gk d M.dne).trans q), fun f => relO_ref rv f⟩
    have J : Inv X pins σ (upd H1 d (.xd [(("numbers" : Str), v)])) ⟨G', g, dr, tk', os⟩ := I1.laid (t' := tk') old M.dbig ob
    refine ⟨e, oe, fv, ⟨G', g, dr, tk', os⟩, _, .ref C, some d, rfl, J, fun b o q => ?_, ge, hoe, ⟨hc, hd⟩, hdat, h1, ?_, rfl, I1.bare, raises_own T.exC T.tyC, q1 d (I1.hok.fresh M.dbig)⟩
    · by_cases hb : b = e
      · have q' : G'.get? b = some o := q
        rw [hb, ge] at q'; cases q'
      · exact (gk b hb).symm.trans q
    · rw [upd_ne (Ne.symm M.dne)]
      exact I1.hok.fresh M.new
/-- raise Low(e) -/
def tRaiseRef (C : Addr) (W : WX) (ta : TA) : TS := fun _ σ H => tMkRef C ta σ H fun cls d H' => W cls d σ H'
theorem ps_raiseRef {a : Expr} {ta : TA} {W : WX} {p pos pos2 : Pos} {k : Nat} (hc : X.calm = true) (T : PySem.RefX.RefTxt X.K X.mg C fI) (hr : Room k X.A) (tk : Takes X W) (ha : PA X [a] ta) (hg : Gl X "Refused" := by rfl)
    (he : starEach (a :: []) X.env = (false, eval a X.env) :: starEach [] X.env := by rfl) (hpl : (backTo pos (starEach [] X.env)).any (·.1) = false := by rfl) :
    PS X (.Raise (some (.Call (.Name "Refused" p) [a] [] pos)) none pos2) (tRaiseRef C W ta) := ps_raise hc tk (pmk_ref T hr ha hg he hpl)
/-- low.by, low the exception that the suite holds (at a; its class cls, its dict d) -/
def tNumRef (C : Addr) (a : Addr) (cls : Value) (d : Option Addr) (te : TE) : TE := fun σ H Q => te σ H fun x H1 => x = .ref a ∧ cls = .ref C ∧ ∃ (dd : Addr) (v : V), d = some dd ∧ H1 dd = some (.xd [(("numbers" : Str), v)]) ∧ Q v H1
theorem pe_numRef {a : Addr} {oe : Obj} {cls : Value} {d : Option Addr} {pn : List (Addr × Obj)} {e : Expr} {te : TE} {pos : Pos} (T : PySem.RefX.RefTxt X.K X.mg C fI) (hz : Zc cls d oe) (hf : ∃ vs, oe.data = .fields vs) (he : PE (X.suite a ((a, oe) :: pn)) e te)
    (hb : attributeBase e "numbers" X.env (eval e X.env) = eval e X.env := by rfl) :
    PE (X.suite a ((a, oe) :: pn)) (.Attribute e "numbers" pos) (tNumRef C a cls d te) := by
  refine ⟨fun pins s σ H Q I h => ?_⟩
  refine attr_of hb (thn (he.run pins s σ H _ I h) fun u s1 hh => ?_)
  obtain ⟨x, H1, I1, rx, ex, ec, dd, v, ed, ea, q⟩ := hh
  subst ex
  obtain rfl : u = Value.ref a := rx
  subst ec
  subst ed
  obtain ⟨ha, _⟩ := I1.pin (a, oe) (List.mem_append_left _ List.mem_cons_self)
  obtain ⟨vs, hd⟩ := hf
  have hx : ObjOk X.prog X.w H1 s1.heap dd (.xd [(("numbers" : Str), v)]) := I1.hok dd _ ea
  obtain ⟨mA, hns, hr⟩ := hx
  obtain ⟨od, ho, hl⟩ := lookIn_ns hns
  have l : List.lookup ("numbers" : Str) [(("numbers" : Str), v)] = some v := by simp [List.lookup]
  obtain ⟨u, hu, ru⟩ := RelO.some_of (v := v) (o := mA "numbers") (by rw [← l]; exact hr "numbers")
  have J : PySem.W.InstAt s1.heap a oe C (some od) := ⟨ha, hz.1, by unfold PySem.W.notCls; rw [hd] <;> rfl, by rw [hz.2]; exact ho⟩
  exact HandSPX.exc_get I1.kIn J T.ga T.gg T.exC (PySem.W.findObj_own T.hdC T.noN rfl (by rw [hl, hu])) (handed_of ru) ⟨v, H1, I1.tok _, ru, q⟩
end
end L2

namespace L2
open PySem PySem.Spec PyProof.Rows
/-- an if whose test is known -/
theorem if_true_of {c : Bool} {A B : Prop} (hc : c = true) (h : A) : if c = true then A else B := by
  rw [if_pos hc]
  exact h
theorem if_false_of {c : Bool} {A B : Prop} (hc : c = false) (h : B) : if c = true then A else B := by
  rw [hc, if_neg Bool.false_ne_true]
  exact h
end L2

namespace LW
open PySem PySem.Spec PyProof.Rows L2
open PySem.W (Codec)
def SIZES : List (Int × Int) := [(0, 0), (3, 0), (3, 1), (1, 1), (2, 1), (3, 0), (0, 0), (1, 0), (0, 0), (1, 0), (1, 1), (1, 1), (1, 2), (1, 2), (1, 0), (0, 1), (1, 0), (0, 0)]
/-! ### the text by places, what the top has written (printed by gen.py) -/
def top (i : Nat) : Stmt := PySem.Challenge.pw_lotfounders_s01_answers.main.body.getD i (.Pass ⟨0, 0, 0, 0⟩)
abbrev s_Lot_init : Stmt := (inClass (top 5) 0)
abbrev N_Lot_init : List Str := ["self", "born", "made", "generation", "sort", "day", "mothers"]
theorem sc_Lot_init : FnScope N_Lot_init ["self", "born", "made", "generation", "sort", "day", "mothers"] (defScope s_Lot_init) := ⟨rfl, rfl, rfl, by decide +kernel, rfl, by decide +kernel, by decide +kernel⟩
abbrev s_Lot_left : Stmt := (inClass (top 5) 1)
abbrev N_Lot_left : List Str := ["self"]
theorem sc_Lot_left : FnScope N_Lot_left ["self"] (defScope s_Lot_left) := ⟨rfl, rfl, rfl, by decide +kernel, rfl, by decide +kernel, by decide +kernel⟩
abbrev s_Lot_is_founder : Stmt := (inClass (top 5) 2)
abbrev N_Lot_is_founder : List Str := ["self"]
theorem sc_Lot_is_founder : FnScope N_Lot_is_founder ["self"] (defScope s_Lot_is_founder) := ⟨rfl, rfl, rfl, by decide +kernel, rfl, by decide +kernel, by decide +kernel⟩
abbrev s_Entry_init : Stmt := (inClass (top 6) 0)
abbrev N_Entry_init : List Str := ["self", "word", "day", "weight", "sort", "rows"]
theorem sc_Entry_init : FnScope N_Entry_init ["self", "word", "day", "weight", "sort", "rows"] (defScope s_Entry_init) := ⟨rfl, rfl, rfl, by decide +kernel, rfl, by decide +kernel, by decide +kernel⟩
abbrev s_Book_init : Stmt := (inClass (top 7) 0)
abbrev N_Book_init : List Str := ["self"]
theorem sc_Book_init : FnScope N_Book_init ["self"] (defScope s_Book_init) := ⟨rfl, rfl, rfl, by decide +kernel, rfl, by decide +kernel, by decide +kernel⟩
abbrev s_Book_put_leg : Stmt := (inClass (top 7) 1)
abbrev N_Book_put_leg : List Str := ["self", "lot", "weight", "own"]
theorem sc_Book_put_leg : FnScope N_Book_put_leg ["self", "lot", "weight"] (defScope s_Book_put_leg) := ⟨rfl, rfl, rfl, by decide +kernel, rfl, by decide +kernel, by decide +kernel⟩
abbrev s_Book_greatest : Stmt := (inClass (top 7) 2)
abbrev N_Book_greatest : List Str := ["self", "rows", "lots", "lot", "weight"]
theorem sc_Book_greatest : FnScope N_Book_greatest ["self", "rows"] (defScope s_Book_greatest) := ⟨rfl, rfl, rfl, by decide +kernel, rfl, by decide +kernel, by decide +kernel⟩
abbrev s_Book_make : Stmt := (inClass (top 7) 3)
abbrev N_Book_make : List Str := ["self", "entry", "generation", "lot", "weight", "own", "mothers", "sort", "made"]
theorem sc_Book_make : FnScope N_Book_make ["self", "entry"] (defScope s_Book_make) := ⟨rfl, rfl, rfl, by decide +kernel, rfl, by decide +kernel, by decide +kernel⟩
abbrev s_Book_founders : Stmt := (inClass (top 7) 4)
abbrev N_Book_founders : List Str := ["self", "number", "lot"]
theorem sc_Book_founders : FnScope N_Book_founders ["self"] (defScope s_Book_founders) := ⟨rfl, rfl, rfl, by decide +kernel, rfl, by decide +kernel, by decide +kernel⟩
abbrev s_Book_steps : Stmt := (inClass (top 7) 5)
abbrev N_Book_steps : List Str := ["self", "told", "number", "lot", "first", "second", "weight", "mother"]
theorem sc_Book_steps : FnScope N_Book_steps ["self"] (defScope s_Book_steps) := ⟨rfl, rfl, rfl, by decide +kernel, rfl, by decide +kernel, by decide +kernel⟩
abbrev s_Book_steps_from : Stmt := (inClass (top 7) 6)
abbrev N_Book_steps_from : List Str := ["self", "begins", "is_back", "told", "due", "lot", "rows", "place", "first", "second"]
theorem sc_Book_steps_from : FnScope N_Book_steps_from ["self", "begins", "is_back"] (defScope s_Book_steps_from) := ⟨rfl, rfl, rfl, by decide +kernel, rfl, by decide +kernel, by decide +kernel⟩
abbrev s_Book_remainder : Stmt := (inClass (top 7) 7)
abbrev N_Book_remainder : List Str := ["self", "lot", "some", "laid", "told", "leg", "weight"]
theorem sc_Book_remainder : FnScope N_Book_remainder ["self", "lot", "some", "laid"] (defScope s_Book_remainder) := ⟨rfl, rfl, rfl, by decide +kernel, rfl, by decide +kernel, by decide +kernel⟩
abbrev s_Book_weight_of : Stmt := (inClass (top 7) 8)
abbrev N_Book_weight_of : List Str := ["self", "lot", "some", "chosen", "told", "founder", "first", "second", "weight"]
theorem sc_Book_weight_of : FnScope N_Book_weight_of ["self", "lot", "some", "chosen"] (defScope s_Book_weight_of) := ⟨rfl, rfl, rfl, by decide +kernel, rfl, by decide +kernel, by decide +kernel⟩
abbrev s_Book_shares : Stmt := (inClass (top 7) 9)
abbrev N_Book_shares : List Str := ["self", "lot", "told", "number", "own"]
theorem sc_Book_shares : FnScope N_Book_shares ["self", "lot"] (defScope s_Book_shares) := ⟨rfl, rfl, rfl, by decide +kernel, rfl, by decide +kernel, by decide +kernel⟩
abbrev s_Book_mixed : Stmt := (inClass (top 7) 10)
abbrev N_Book_mixed : List Str := ["self", "number", "known", "told", "first", "second", "weight", "founder", "above", "below", "more"]
theorem sc_Book_mixed : FnScope N_Book_mixed ["self", "number", "known"] (defScope s_Book_mixed) := ⟨rfl, rfl, rfl, by decide +kernel, rfl, by decide +kernel, by decide +kernel⟩
abbrev s_divisor : Stmt := (top 8)
abbrev N_divisor : List Str := ["a", "b"]
theorem sc_divisor : FnScope N_divisor ["a", "b"] (defScope s_divisor) := ⟨rfl, rfl, rfl, by decide +kernel, rfl, by decide +kernel, by decide +kernel⟩
abbrev s_ratio : Stmt := (top 9)
abbrev N_ratio : List Str := ["above", "below", "by"]
theorem sc_ratio : FnScope N_ratio ["above", "below"] (defScope s_ratio) := ⟨rfl, rfl, rfl, by decide +kernel, rfl, by decide +kernel, by decide +kernel⟩
abbrev s_plus : Stmt := (top 10)
abbrev N_plus : List Str := ["one", "other"]
theorem sc_plus : FnScope N_plus ["one", "other"] (defScope s_plus) := ⟨rfl, rfl, rfl, by decide +kernel, rfl, by decide +kernel, by decide +kernel⟩
abbrev s_Flow_init : Stmt := (inClass (top 14) 0)
abbrev N_Flow_init : List Str := ["self", "book", "lot", "some", "founder", "first", "second", "weight"]
theorem sc_Flow_init : FnScope N_Flow_init ["self", "book", "lot", "some"] (defScope s_Flow_init) := ⟨rfl, rfl, rfl, by decide +kernel, rfl, by decide +kernel, by decide +kernel⟩
abbrev s_Flow_put : Stmt := (inClass (top 14) 1)
abbrev N_Flow_put : List Str := ["self", "first", "second", "weight", "row", "back"]
theorem sc_Flow_put : FnScope N_Flow_put ["self", "first", "second", "weight"] (defScope s_Flow_put) := ⟨rfl, rfl, rfl, by decide +kernel, rfl, by decide +kernel, by decide +kernel⟩
abbrev s_Flow_reached : Stmt := (inClass (top 14) 2)
abbrev N_Flow_reached : List Str := ["self", "told", "due", "place", "row", "second"]
theorem sc_Flow_reached : FnScope N_Flow_reached ["self"] (defScope s_Flow_reached) := ⟨rfl, rfl, rfl, by decide +kernel, rfl, by decide +kernel, by decide +kernel⟩
abbrev s_Flow_way : Stmt := (inClass (top 14) 3)
abbrev N_Flow_way : List Str := ["self", "reached", "told", "here"]
theorem sc_Flow_way : FnScope N_Flow_way ["self", "reached"] (defScope s_Flow_way) := ⟨rfl, rfl, rfl, by decide +kernel, rfl, by decide +kernel, by decide +kernel⟩
abbrev s_Flow_fill : Stmt := (inClass (top 14) 4)
abbrev N_Flow_fill : List Str := ["self", "reached", "way", "more", "first", "second"]
theorem sc_Flow_fill : FnScope N_Flow_fill ["self"] (defScope s_Flow_fill) := ⟨rfl, rfl, rfl, by decide +kernel, rfl, by decide +kernel, by decide +kernel⟩
abbrev s_Flow_cut : Stmt := (inClass (top 14) 5)
abbrev N_Flow_cut : List Str := ["self", "lot"]
theorem sc_Flow_cut : FnScope N_Flow_cut ["self"] (defScope s_Flow_cut) := ⟨rfl, rfl, rfl, by decide +kernel, rfl, by decide +kernel, by decide +kernel⟩
abbrev s_most : Stmt := (top 15)
abbrev N_most : List Str := ["book", "lot", "some"]
theorem sc_most : FnScope N_most ["book", "lot", "some"] (defScope s_most) := ⟨rfl, rfl, rfl, by decide +kernel, rfl, by decide +kernel, by decide +kernel⟩
abbrev s_least : Stmt := (top 16)
abbrev N_least : List Str := ["book", "lot", "some", "others", "founder"]
theorem sc_least : FnScope N_least ["book", "lot", "some"] (defScope s_least) := ⟨rfl, rfl, rfl, by decide +kernel, rfl, by decide +kernel, by decide +kernel⟩
abbrev s_Refused_init : Stmt := (inClass (top 24) 0)
abbrev N_Refused_init : List Str := ["self", "numbers"]
abbrev s_Desk_init : Stmt := (inClass (top 25) 0)
abbrev N_Desk_init : List Str := ["self"]
theorem sc_Desk_init : FnScope N_Desk_init ["self"] (defScope s_Desk_init) := ⟨rfl, rfl, rfl, by decide +kernel, rfl, by decide +kernel, by decide +kernel⟩
abbrev s_Desk_book_of : Stmt := (inClass (top 25) 1)
abbrev N_Desk_book_of : List Str := ["self", "entries", "told", "entry"]
theorem sc_Desk_book_of : FnScope N_Desk_book_of ["self", "entries"] (defScope s_Desk_book_of) := ⟨rfl, rfl, rfl, by decide +kernel, rfl, by decide +kernel, by decide +kernel⟩
abbrev s_refuse : Stmt := (top 26)
abbrev N_refuse : List Str := ["holds", "code"]
theorem sc_refuse : FnScope N_refuse ["holds", "code"] (defScope s_refuse) := ⟨rfl, rfl, rfl, by decide +kernel, rfl, by decide +kernel, by decide +kernel⟩
abbrev s_is_weight : Stmt := (top 27)
abbrev N_is_weight : List Str := ["weight"]
theorem sc_is_weight : FnScope N_is_weight ["weight"] (defScope s_is_weight) := ⟨rfl, rfl, rfl, by decide +kernel, rfl, by decide +kernel, by decide +kernel⟩
abbrev s_pairs : Stmt := (top 28)
abbrev N_pairs : List Str := ["row", "place"]
theorem sc_pairs : FnScope N_pairs ["row"] (defScope s_pairs) := ⟨rfl, rfl, rfl, by decide +kernel, rfl, by decide +kernel, by decide +kernel⟩
abbrev s_check_entry : Stmt := (top 29)
abbrev N_check_entry : List Str := ["desk", "day", "lots", "legs", "is_full"]
theorem sc_check_entry : FnScope N_check_entry ["desk", "day", "lots", "legs"] (defScope s_check_entry) := ⟨rfl, rfl, rfl, by decide +kernel, rfl, by decide +kernel, by decide +kernel⟩
abbrev s_check_rows : Stmt := (top 30)
abbrev N_check_rows : List Str := ["desk", "rows", "seen", "number", "row", "lot", "weight"]
theorem sc_check_rows : FnScope N_check_rows ["desk", "rows"] (defScope s_check_rows) := ⟨rfl, rfl, rfl, by decide +kernel, rfl, by decide +kernel, by decide +kernel⟩
abbrev s_put : Stmt := (top 31)
abbrev N_put : List Str := ["desk", "entry", "told"]
theorem sc_put : FnScope N_put ["desk", "entry"] (defScope s_put) := ⟨rfl, rfl, rfl, by decide +kernel, rfl, by decide +kernel, by decide +kernel⟩
abbrev s_found : Stmt := (top 32)
abbrev N_found : List Str := ["desk", "args", "rows", "weight", "sort", "day"]
theorem sc_found : FnScope N_found ["desk", "args", "rows"] (defScope s_found) := ⟨rfl, rfl, rfl, by decide +kernel, rfl, by decide +kernel, by decide +kernel⟩
abbrev s_are_pairs : Stmt := (top 33)
abbrev N_are_pairs : List Str := ["row", "least_many", "weight"]
theorem sc_are_pairs : FnScope N_are_pairs ["row", "least_many"] (defScope s_are_pairs) := ⟨rfl, rfl, rfl, by decide +kernel, rfl, by decide +kernel, by decide +kernel⟩
abbrev s_lift : Stmt := (top 34)
abbrev N_lift : List Str := ["desk", "args", "rows", "weight", "sort", "day", "mothers", "lot", "planted"]
theorem sc_lift : FnScope N_lift ["desk", "args", "rows"] (defScope s_lift) := ⟨rfl, rfl, rfl, by decide +kernel, rfl, by decide +kernel, by decide +kernel⟩
abbrev s_merge : Stmt := (top 35)
abbrev N_merge : List Str := ["desk", "args", "rows", "lots"]
theorem sc_merge : FnScope N_merge ["desk", "args", "rows"] (defScope s_merge) := ⟨rfl, rfl, rfl, by decide +kernel, rfl, by decide +kernel, by decide +kernel⟩
abbrev s_split : Stmt := (top 36)
abbrev N_split : List Str := ["desk", "args", "rows", "lot", "day", "weights", "weight"]
theorem sc_split : FnScope N_split ["desk", "args", "rows"] (defScope s_split) := ⟨rfl, rfl, rfl, by decide +kernel, rfl, by decide +kernel, by decide +kernel⟩
abbrev s_lose : Stmt := (top 37)
abbrev N_lose : List Str := ["desk", "args", "rows", "lot", "weight", "day"]
theorem sc_lose : FnScope N_lose ["desk", "args", "rows"] (defScope s_lose) := ⟨rfl, rfl, rfl, by decide +kernel, rfl, by decide +kernel, by decide +kernel⟩
abbrev s_undo : Stmt := (top 38)
abbrev N_undo : List Str := ["desk", "args", "rows"]
theorem sc_undo : FnScope N_undo ["desk", "args", "rows"] (defScope s_undo) := ⟨rfl, rfl, rfl, by decide +kernel, rfl, by decide +kernel, by decide +kernel⟩
abbrev s_check_lot : Stmt := (top 39)
abbrev N_check_lot : List Str := ["desk", "number"]
theorem sc_check_lot : FnScope N_check_lot ["desk", "number"] (defScope s_check_lot) := ⟨rfl, rfl, rfl, by decide +kernel, rfl, by decide +kernel, by decide +kernel⟩
abbrev s_show_lot : Stmt := (top 40)
abbrev N_show_lot : List Str := ["desk", "args", "rows", "lot"]
theorem sc_show_lot : FnScope N_show_lot ["desk", "args", "rows"] (defScope s_show_lot) := ⟨rfl, rfl, rfl, by decide +kernel, rfl, by decide +kernel, by decide +kernel⟩
abbrev s_flat : Stmt := (top 41)
abbrev N_flat : List Str := ["rows", "told", "row"]
theorem sc_flat : FnScope N_flat ["rows"] (defScope s_flat) := ⟨rfl, rfl, rfl, by decide +kernel, rfl, by decide +kernel, by decide +kernel⟩
abbrev s_legs : Stmt := (top 42)
abbrev N_legs : List Str := ["desk", "args", "rows"]
theorem sc_legs : FnScope N_legs ["desk", "args", "rows"] (defScope s_legs) := ⟨rfl, rfl, rfl, by decide +kernel, rfl, by decide +kernel, by decide +kernel⟩
abbrev s_then : Stmt := (top 43)
abbrev N_then : List Str := ["desk", "args", "rows", "book", "entry", "lot"]
theorem sc_then : FnScope N_then ["desk", "args", "rows"] (defScope s_then) := ⟨rfl, rfl, rfl, by decide +kernel, rfl, by decide +kernel, by decide +kernel⟩
abbrev s_check_some : Stmt := (top 44)
abbrev N_check_some : List Str := ["desk", "args", "row", "before", "number", "founder"]
theorem sc_check_some : FnScope N_check_some ["desk", "args", "row"] (defScope s_check_some) := ⟨rfl, rfl, rfl, by decide +kernel, rfl, by decide +kernel, by decide +kernel⟩
abbrev s_check_set : Stmt := (top 45)
abbrev N_check_set : List Str := ["desk", "row", "before", "number", "lot"]
theorem sc_check_set : FnScope N_check_set ["desk", "row"] (defScope s_check_set) := ⟨rfl, rfl, rfl, by decide +kernel, rfl, by decide +kernel, by decide +kernel⟩
abbrev s_may : Stmt := (top 46)
abbrev N_may : List Str := ["desk", "args", "rows"]
theorem sc_may : FnScope N_may ["desk", "args", "rows"] (defScope s_may) := ⟨rfl, rfl, rfl, by decide +kernel, rfl, by decide +kernel, by decide +kernel⟩
abbrev s_cut : Stmt := (top 47)
abbrev N_cut : List Str := ["desk", "args", "rows", "flow"]
theorem sc_cut : FnScope N_cut ["desk", "args", "rows"] (defScope s_cut) := ⟨rfl, rfl, rfl, by decide +kernel, rfl, by decide +kernel, by decide +kernel⟩
abbrev s_weigh : Stmt := (top 48)
abbrev N_weigh : List Str := ["desk", "args", "rows"]
theorem sc_weigh : FnScope N_weigh ["desk", "args", "rows"] (defScope s_weigh) := ⟨rfl, rfl, rfl, by decide +kernel, rfl, by decide +kernel, by decide +kernel⟩
abbrev s_lay : Stmt := (top 49)
abbrev N_lay : List Str := ["desk", "args", "rows", "book", "laid", "number", "leg", "lot", "own", "remainder"]
theorem sc_lay : FnScope N_lay ["desk", "args", "rows"] (defScope s_lay) := ⟨rfl, rfl, rfl, by decide +kernel, rfl, by decide +kernel, by decide +kernel⟩
abbrev s_shares : Stmt := (top 50)
abbrev N_shares : List Str := ["desk", "args", "rows", "told", "left", "numbers", "founder", "above", "below"]
theorem sc_shares : FnScope N_shares ["desk", "args", "rows"] (defScope s_shares) := ⟨rfl, rfl, rfl, by decide +kernel, rfl, by decide +kernel, by decide +kernel⟩
abbrev s_falls : Stmt := (top 51)
abbrev N_falls : List Str := ["desk", "args", "rows", "told", "lot"]
theorem sc_falls : FnScope N_falls ["desk", "args", "rows"] (defScope s_falls) := ⟨rfl, rfl, rfl, by decide +kernel, rfl, by decide +kernel, by decide +kernel⟩
abbrev s_mothers_of : Stmt := (top 52)
abbrev N_mothers_of : List Str := ["desk", "args", "rows", "told", "lot"]
theorem sc_mothers_of : FnScope N_mothers_of ["desk", "args", "rows"] (defScope s_mothers_of) := ⟨rfl, rfl, rfl, by decide +kernel, rfl, by decide +kernel, by decide +kernel⟩
abbrev s_sums : Stmt := (top 53)
abbrev N_sums : List Str := ["desk", "args", "rows", "lots", "made", "told", "lot"]
theorem sc_sums : FnScope N_sums ["desk", "args", "rows"] (defScope s_sums) := ⟨rfl, rfl, rfl, by decide +kernel, rfl, by decide +kernel, by decide +kernel⟩
abbrev s_answer_of : Stmt := (top 55)
abbrev N_answer_of : List Str := ["desk", "number", "args", "rows", "deed", "refused"]
theorem sc_answer_of : FnScope N_answer_of ["desk", "number", "args", "rows"] (defScope s_answer_of) := ⟨rfl, rfl, rfl, by decide +kernel, rfl, by decide +kernel, by decide +kernel⟩
abbrev s_answers : Stmt := (top 56)
abbrev N_answers : List Str := ["calls", "desk", "told", "place", "number", "many", "count", "args", "rows", "turn", "end", "answer"]
theorem sc_answers : FnScope N_answers ["calls"] (defScope s_answers) := ⟨rfl, rfl, rfl, by decide +kernel, rfl, by decide +kernel, by decide +kernel⟩
/-- the addresses -/
structure Ad where
  c_Lot : Addr
  c_Entry : Addr
  c_Book : Addr
  c_Flow : Addr
  c_Refused : Addr
  c_Desk : Addr
  f_Lot_init : Addr
  d_Lot_init : FuncData
  f_Lot_left : Addr
  d_Lot_left : FuncData
  f_Lot_is_founder : Addr
  d_Lot_is_founder : FuncData
  f_Entry_init : Addr
  d_Entry_init : FuncData
  f_Book_init : Addr
  d_Book_init : FuncData
  f_Book_put_leg : Addr
  d_Book_put_leg : FuncData
  f_Book_greatest : Addr
  d_Book_greatest : FuncData
  f_Book_make : Addr
  d_Book_make : FuncData
  f_Book_founders : Addr
  d_Book_founders : FuncData
  f_Book_steps : Addr
  d_Book_steps : FuncData
  f_Book_steps_from : Addr
  d_Book_steps_from : FuncData
  f_Book_remainder : Addr
  d_Book_remainder : FuncData
  f_Book_weight_of : Addr
  d_Book_weight_of : FuncData
  f_Book_shares : Addr
  d_Book_shares : FuncData
  f_Book_mixed : Addr
  d_Book_mixed : FuncData
  f_divisor : Addr
  d_divisor : FuncData
  f_ratio : Addr
  d_ratio : FuncData
  f_plus : Addr
  d_plus : FuncData
  f_Flow_init : Addr
  d_Flow_init : FuncData
  f_Flow_put : Addr
  d_Flow_put : FuncData
  f_Flow_reached : Addr
  d_Flow_reached : FuncData
  f_Flow_way : Addr
  d_Flow_way : FuncData
  f_Flow_fill : Addr
  d_Flow_fill : FuncData
  f_Flow_cut : Addr
  d_Flow_cut : FuncData
  f_most : Addr
  d_most : FuncData
  f_least : Addr
  d_least : FuncData
  f_Refused_init : Addr
  d_Refused_init : FuncData
  f_Desk_init : Addr
  d_Desk_init : FuncData
  f_Desk_book_of : Addr
  d_Desk_book_of : FuncData
  f_refuse : Addr
  d_refuse : FuncData
  f_is_weight : Addr
  d_is_weight : FuncData
  f_pairs : Addr
  d_pairs : FuncData
  f_check_entry : Addr
  d_check_entry : FuncData
  f_check_rows : Addr
  d_check_rows : FuncData
  f_put : Addr
  d_put : FuncData
  f_found : Addr
  d_found : FuncData
  f_are_pairs : Addr
  d_are_pairs : FuncData
  f_lift : Addr
  d_lift : FuncData
  f_merge : Addr
  d_merge : FuncData
  f_split : Addr
  d_split : FuncData
  f_lose : Addr
  d_lose : FuncData
  f_undo : Addr
  d_undo : FuncData
  f_check_lot : Addr
  d_check_lot : FuncData
  f_show_lot : Addr
  d_show_lot : FuncData
  f_flat : Addr
  d_flat : FuncData
  f_legs : Addr
  d_legs : FuncData
  f_then : Addr
  d_then : FuncData
  f_check_some : Addr
  d_check_some : FuncData
  f_check_set : Addr
  d_check_set : FuncData
  f_may : Addr
  d_may : FuncData
  f_cut : Addr
  d_cut : FuncData
  f_weigh : Addr
  d_weigh : FuncData
  f_lay : Addr
  d_lay : FuncData
  f_shares : Addr
  d_shares : FuncData
  f_falls : Addr
  d_falls : FuncData
  f_mothers_of : Addr
  d_mothers_of : FuncData
  f_sums : Addr
  d_sums : FuncData
  f_answer_of : Addr
  d_answer_of : FuncData
  f_answers : Addr
  d_answers : FuncData
  a_SIZES : Addr
  a_DEEDS : Addr
def deedsOf (A : Ad) : List Addr := [A.f_found, A.f_lift, A.f_merge, A.f_split, A.f_lose, A.f_undo, A.f_show_lot, A.f_legs, A.f_then, A.f_may, A.f_cut, A.f_weigh, A.f_lay, A.f_shares, A.f_falls, A.f_mothers_of, A.f_sums]
structure Txt (K : PySem.W.Frag) (mg : Str → Option Value) (A : Ad) : Prop where
  cl_Lot : Cls K A.c_Lot
  no_Lot_born : NoAttr K A.c_Lot "born"
  no_Lot_made : NoAttr K A.c_Lot "made"
  no_Lot_generation : NoAttr K A.c_Lot "generation"
  no_Lot_grade : NoAttr K A.c_Lot "grade"
  no_Lot_day : NoAttr K A.c_Lot "day"
  no_Lot_mothers : NoAttr K A.c_Lot "mothers"
  no_Lot_planted : NoAttr K A.c_Lot "planted"
  no_Lot_lost : NoAttr K A.c_Lot "lost"
  no_Lot_gone : NoAttr K A.c_Lot "gone"
  mg_Lot : mg "Lot" = some (.ref A.c_Lot)
  mk_Lot : Mk K A.c_Lot A.f_Lot_init
  cl_Entry : Cls K A.c_Entry
  no_Entry_word : NoAttr K A.c_Entry "word"
  no_Entry_day : NoAttr K A.c_Entry "day"
  no_Entry_weight : NoAttr K A.c_Entry "weight"
  no_Entry_grade : NoAttr K A.c_Entry "grade"
  no_Entry_rows : NoAttr K A.c_Entry "rows"
  mg_Entry : mg "Entry" = some (.ref A.c_Entry)
  mk_Entry : Mk K A.c_Entry A.f_Entry_init
  cl_Book : Cls K A.c_Book
  no_Book_lots : NoAttr K A.c_Book "lots"
  no_Book_legs : NoAttr K A.c_Book "legs"
  mg_Book : mg "Book" = some (.ref A.c_Book)
  mk_Book : Mk K A.c_Book A.f_Book_init
  cl_Flow : Cls K A.c_Flow
  no_Flow_room : NoAttr K A.c_Flow "room"
  no_Flow_total : NoAttr K A.c_Flow "total"
  mg_Flow : mg "Flow" = some (.ref A.c_Flow)
  mk_Flow : Mk K A.c_Flow A.f_Flow_init
  cl_Desk : Cls K A.c_Desk
  no_Desk_entries : NoAttr K A.c_Desk "entries"
  no_Desk_book : NoAttr K A.c_Desk "book"
  mg_Desk : mg "Desk" = some (.ref A.c_Desk)
  mk_Desk : Mk K A.c_Desk A.f_Desk_init
  low : PySem.RefX.RefTxt K mg A.c_Refused A.f_Refused_init
  fn_Lot_init : Fun K "__init__" "Lot.__init__" s_Lot_init A.f_Lot_init A.d_Lot_init
  bi_Lot_init : Binds K A.d_Lot_init ["self", "born", "made", "generation", "sort", "day", "mothers"] []
  fn_Lot_left : Fun K "left" "Lot.left" s_Lot_left A.f_Lot_left A.d_Lot_left
  bi_Lot_left : Binds K A.d_Lot_left ["self"] []
  me_Lot_left : Meth K A.c_Lot "left" A.f_Lot_left
  fn_Lot_is_founder : Fun K "is_founder" "Lot.is_founder" s_Lot_is_founder A.f_Lot_is_founder A.d_Lot_is_founder
  bi_Lot_is_founder : Binds K A.d_Lot_is_founder ["self"] []
  me_Lot_is_founder : Meth K A.c_Lot "is_founder" A.f_Lot_is_founder
  fn_Entry_init : Fun K "__init__" "Entry.__init__" s_Entry_init A.f_Entry_init A.d_Entry_init
  bi_Entry_init : Binds K A.d_Entry_init ["self", "word", "day", "weight", "sort", "rows"] []
  fn_Book_init : Fun K "__init__" "Book.__init__" s_Book_init A.f_Book_init A.d_Book_init
  bi_Book_init : Binds K A.d_Book_init ["self"] []
  fn_Book_put_leg : Fun K "put_leg" "Book.put_leg" s_Book_put_leg A.f_Book_put_leg A.d_Book_put_leg
  bi_Book_put_leg : Binds K A.d_Book_put_leg ["self", "lot", "weight"] []
  me_Book_put_leg : Meth K A.c_Book "put_leg" A.f_Book_put_leg
  fn_Book_greatest : Fun K "greatest" "Book.greatest" s_Book_greatest A.f_Book_greatest A.d_Book_greatest
  bi_Book_greatest : Binds K A.d_Book_greatest ["self", "rows"] []
  me_Book_greatest : Meth K A.c_Book "greatest" A.f_Book_greatest
  fn_Book_make : Fun K "make" "Book.make" s_Book_make A.f_Book_make A.d_Book_make
  bi_Book_make : Binds K A.d_Book_make ["self", "entry"] []
  me_Book_make : Meth K A.c_Book "make" A.f_Book_make
  fn_Book_founders : Fun K "founders" "Book.founders" s_Book_founders A.f_Book_founders A.d_Book_founders
  bi_Book_founders : Binds K A.d_Book_founders ["self"] []
  me_Book_founders : Meth K A.c_Book "founders" A.f_Book_founders
  fn_Book_steps : Fun K "steps" "Book.steps" s_Book_steps A.f_Book_steps A.d_Book_steps
  bi_Book_steps : Binds K A.d_Book_steps ["self"] []
  me_Book_steps : Meth K A.c_Book "steps" A.f_Book_steps
  fn_Book_steps_from : Fun K "steps_from" "Book.steps_from" s_Book_steps_from A.f_Book_steps_from A.d_Book_steps_from
  bi_Book_steps_from : Binds K A.d_Book_steps_from ["self", "begins", "is_back"] []
  me_Book_steps_from : Meth K A.c_Book "steps_from" A.f_Book_steps_from
  fn_Book_remainder : Fun K "remainder" "Book.remainder" s_Book_remainder A.f_Book_remainder A.d_Book_remainder
  bi_Book_remainder : Binds K A.d_Book_remainder ["self", "lot", "some", "laid"] []
  me_Book_remainder : Meth K A.c_Book "remainder" A.f_Book_remainder
  fn_Book_weight_of : Fun K "weight_of" "Book.weight_of" s_Book_weight_of A.f_Book_weight_of A.d_Book_weight_of
  bi_Book_weight_of : Binds K A.d_Book_weight_of ["self", "lot", "some", "chosen"] []
  me_Book_weight_of : Meth K A.c_Book "weight_of" A.f_Book_weight_of
  fn_Book_shares : Fun K "shares" "Book.shares" s_Book_shares A.f_Book_shares A.d_Book_shares
  bi_Book_shares : Binds K A.d_Book_shares ["self", "lot"] []
  me_Book_shares : Meth K A.c_Book "shares" A.f_Book_shares
  fn_Book_mixed : Fun K "mixed" "Book.mixed" s_Book_mixed A.f_Book_mixed A.d_Book_mixed
  bi_Book_mixed : Binds K A.d_Book_mixed ["self", "number", "known"] []
  me_Book_mixed : Meth K A.c_Book "mixed" A.f_Book_mixed
  fn_divisor : Fun K "divisor" "divisor" s_divisor A.f_divisor A.d_divisor
  bi_divisor : Binds K A.d_divisor ["a", "b"] []
  mgf_divisor : mg "divisor" = some (.ref A.f_divisor)
  fn_ratio : Fun K "ratio" "ratio" s_ratio A.f_ratio A.d_ratio
  bi_ratio : Binds K A.d_ratio ["above", "below"] []
  mgf_ratio : mg "ratio" = some (.ref A.f_ratio)
  fn_plus : Fun K "plus" "plus" s_plus A.f_plus A.d_plus
  bi_plus : Binds K A.d_plus ["one", "other"] []
  mgf_plus : mg "plus" = some (.ref A.f_plus)
  fn_Flow_init : Fun K "__init__" "Flow.__init__" s_Flow_init A.f_Flow_init A.d_Flow_init
  bi_Flow_init : Binds K A.d_Flow_init ["self", "book", "lot", "some"] []
  fn_Flow_put : Fun K "put" "Flow.put" s_Flow_put A.f_Flow_put A.d_Flow_put
  bi_Flow_put : Binds K A.d_Flow_put ["self", "first", "second", "weight"] []
  me_Flow_put : Meth K A.c_Flow "put" A.f_Flow_put
  fn_Flow_reached : Fun K "reached" "Flow.reached" s_Flow_reached A.f_Flow_reached A.d_Flow_reached
  bi_Flow_reached : Binds K A.d_Flow_reached ["self"] []
  me_Flow_reached : Meth K A.c_Flow "reached" A.f_Flow_reached
  fn_Flow_way : Fun K "way" "Flow.way" s_Flow_way A.f_Flow_way A.d_Flow_way
  bi_Flow_way : Binds K A.d_Flow_way ["self", "reached"] []
  me_Flow_way : Meth K A.c_Flow "way" A.f_Flow_way
  fn_Flow_fill : Fun K "fill" "Flow.fill" s_Flow_fill A.f_Flow_fill A.d_Flow_fill
  bi_Flow_fill : Binds K A.d_Flow_fill ["self"] []
  me_Flow_fill : Meth K A.c_Flow "fill" A.f_Flow_fill
  fn_Flow_cut : Fun K "cut" "Flow.cut" s_Flow_cut A.f_Flow_cut A.d_Flow_cut
  bi_Flow_cut : Binds K A.d_Flow_cut ["self"] []
  me_Flow_cut : Meth K A.c_Flow "cut" A.f_Flow_cut
  fn_most : Fun K "most" "most" s_most A.f_most A.d_most
  bi_most : Binds K A.d_most ["book", "lot", "some"] []
  mgf_most : mg "most" = some (.ref A.f_most)
  fn_least : Fun K "least" "least" s_least A.f_least A.d_least
  bi_least : Binds K A.d_least ["book", "lot", "some"] []
  mgf_least : mg "least" = some (.ref A.f_least)
  fn_Desk_init : Fun K "__init__" "Desk.__init__" s_Desk_init A.f_Desk_init A.d_Desk_init
  bi_Desk_init : Binds K A.d_Desk_init ["self"] []
  fn_Desk_book_of : Fun K "book_of" "Desk.book_of" s_Desk_book_of A.f_Desk_book_of A.d_Desk_book_of
  bi_Desk_book_of : Binds K A.d_Desk_book_of ["self", "entries"] []
  me_Desk_book_of : Meth K A.c_Desk "book_of" A.f_Desk_book_of
  fn_refuse : Fun K "refuse" "refuse" s_refuse A.f_refuse A.d_refuse
  bi_refuse : Binds K A.d_refuse ["holds", "code"] []
  mgf_refuse : mg "refuse" = some (.ref A.f_refuse)
  fn_is_weight : Fun K "is_weight" "is_weight" s_is_weight A.f_is_weight A.d_is_weight
  bi_is_weight : Binds K A.d_is_weight ["weight"] []
  mgf_is_weight : mg "is_weight" = some (.ref A.f_is_weight)
  fn_pairs : Fun K "pairs" "pairs" s_pairs A.f_pairs A.d_pairs
  bi_pairs : Binds K A.d_pairs ["row"] []
  mgf_pairs : mg "pairs" = some (.ref A.f_pairs)
  fn_check_entry : Fun K "check_entry" "check_entry" s_check_entry A.f_check_entry A.d_check_entry
  bi_check_entry : Binds K A.d_check_entry ["desk", "day", "lots", "legs"] []
  mgf_check_entry : mg "check_entry" = some (.ref A.f_check_entry)
  fn_check_rows : Fun K "check_rows" "check_rows" s_check_rows A.f_check_rows A.d_check_rows
  bi_check_rows : Binds K A.d_check_rows ["desk", "rows"] []
  mgf_check_rows : mg "check_rows" = some (.ref A.f_check_rows)
  fn_put : Fun K "put" "put" s_put A.f_put A.d_put
  bi_put : Binds K A.d_put ["desk", "entry"] []
  mgf_put : mg "put" = some (.ref A.f_put)
  fn_found : Fun K "found" "found" s_found A.f_found A.d_found
  bi_found : Binds K A.d_found ["desk", "args", "rows"] []
  mgf_found : mg "found" = some (.ref A.f_found)
  fn_are_pairs : Fun K "are_pairs" "are_pairs" s_are_pairs A.f_are_pairs A.d_are_pairs
  bi_are_pairs : Binds K A.d_are_pairs ["row", "least_many"] []
  mgf_are_pairs : mg "are_pairs" = some (.ref A.f_are_pairs)
  fn_lift : Fun K "lift" "lift" s_lift A.f_lift A.d_lift
  bi_lift : Binds K A.d_lift ["desk", "args", "rows"] []
  mgf_lift : mg "lift" = some (.ref A.f_lift)
  fn_merge : Fun K "merge" "merge" s_merge A.f_merge A.d_merge
  bi_merge : Binds K A.d_merge ["desk", "args", "rows"] []
  mgf_merge : mg "merge" = some (.ref A.f_merge)
  fn_split : Fun K "split" "split" s_split A.f_split A.d_split
  bi_split : Binds K A.d_split ["desk", "args", "rows"] []
  mgf_split : mg "split" = some (.ref A.f_split)
  fn_lose : Fun K "lose" "lose" s_lose A.f_lose A.d_lose
  bi_lose : Binds K A.d_lose ["desk", "args", "rows"] []
  mgf_lose : mg "lose" = some (.ref A.f_lose)
  fn_undo : Fun K "undo" "undo" s_undo A.f_undo A.d_undo
  bi_undo : Binds K A.d_undo ["desk", "args", "rows"] []
  mgf_undo : mg "undo" = some (.ref A.f_undo)
  fn_check_lot : Fun K "check_lot" "check_lot" s_check_lot A.f_check_lot A.d_check_lot
  bi_check_lot : Binds K A.d_check_lot ["desk", "number"] []
  mgf_check_lot : mg "check_lot" = some (.ref A.f_check_lot)
  fn_show_lot : Fun K "show_lot" "show_lot" s_show_lot A.f_show_lot A.d_show_lot
  bi_show_lot : Binds K A.d_show_lot ["desk", "args", "rows"] []
  mgf_show_lot : mg "show_lot" = some (.ref A.f_show_lot)
  fn_flat : Fun K "flat" "flat" s_flat A.f_flat A.d_flat
  bi_flat : Binds K A.d_flat ["rows"] []
  mgf_flat : mg "flat" = some (.ref A.f_flat)
  fn_legs : Fun K "legs" "legs" s_legs A.f_legs A.d_legs
  bi_legs : Binds K A.d_legs ["desk", "args", "rows"] []
  mgf_legs : mg "legs" = some (.ref A.f_legs)
  fn_then : Fun K "then" "then" s_then A.f_then A.d_then
  bi_then : Binds K A.d_then ["desk", "args", "rows"] []
  mgf_then : mg "then" = some (.ref A.f_then)
  fn_check_some : Fun K "check_some" "check_some" s_check_some A.f_check_some A.d_check_some
  bi_check_some : Binds K A.d_check_some ["desk", "args", "row"] []
  mgf_check_some : mg "check_some" = some (.ref A.f_check_some)
  fn_check_set : Fun K "check_set" "check_set" s_check_set A.f_check_set A.d_check_set
  bi_check_set : Binds K A.d_check_set ["desk", "row"] []
  mgf_check_set : mg "check_set" = some (.ref A.f_check_set)
  fn_may : Fun K "may" "may" s_may A.f_may A.d_may
  bi_may : Binds K A.d_may ["desk", "args", "rows"] []
  mgf_may : mg "may" = some (.ref A.f_may)
  fn_cut : Fun K "cut" "cut" s_cut A.f_cut A.d_cut
  bi_cut : Binds K A.d_cut ["desk", "args", "rows"] []
  mgf_cut : mg "cut" = some (.ref A.f_cut)
  fn_weigh : Fun K "weigh" "weigh" s_weigh A.f_weigh A.d_weigh
  bi_weigh : Binds K A.d_weigh ["desk", "args", "rows"] []
  mgf_weigh : mg "weigh" = some (.ref A.f_weigh)
  fn_lay : Fun K "lay" "lay" s_lay A.f_lay A.d_lay
  bi_lay : Binds K A.d_lay ["desk", "args", "rows"] []
  mgf_lay : mg "lay" = some (.ref A.f_lay)
  fn_shares : Fun K "shares" "shares" s_shares A.f_shares A.d_shares
  bi_shares : Binds K A.d_shares ["desk", "args", "rows"] []
  mgf_shares : mg "shares" = some (.ref A.f_shares)
  fn_falls : Fun K "falls" "falls" s_falls A.f_falls A.d_falls
  bi_falls : Binds K A.d_falls ["desk", "args", "rows"] []
  mgf_falls : mg "falls" = some (.ref A.f_falls)
  fn_mothers_of : Fun K "mothers_of" "mothers_of" s_mothers_of A.f_mothers_of A.d_mothers_of
  bi_mothers_of : Binds K A.d_mothers_of ["desk", "args", "rows"] []
  mgf_mothers_of : mg "mothers_of" = some (.ref A.f_mothers_of)
  fn_sums : Fun K "sums" "sums" s_sums A.f_sums A.d_sums
  bi_sums : Binds K A.d_sums ["desk", "args", "rows"] []
  mgf_sums : mg "sums" = some (.ref A.f_sums)
  fn_answer_of : Fun K "answer_of" "answer_of" s_answer_of A.f_answer_of A.d_answer_of
  bi_answer_of : Binds K A.d_answer_of ["desk", "number", "args", "rows"] []
  mgf_answer_of : mg "answer_of" = some (.ref A.f_answer_of)
  fn_answers : Fun K "answers" "answers" s_answers A.f_answers A.d_answers
  bi_answers : Binds K A.d_answers ["calls"] []
  mgf_answers : mg "answers" = some (.ref A.f_answers)
  b_len : mg "len" = none
  b_max : mg "max" = none
  b_min : mg "min" = none
  b_sum : mg "sum" = none
  b_any : mg "any" = none
  b_all : mg "all" = none
  b_sorted : mg "sorted" = none
  b_list : mg "list" = none
  b_range : mg "range" = none
  b_enumerate : mg "enumerate" = none
  b_zip : mg "zip" = none
  g_FOUNDED : ∃ t, mg "FOUNDED" = some (.int (0) t)
  g_LIFTED : ∃ t, mg "LIFTED" = some (.int (1) t)
  g_MERGED : ∃ t, mg "MERGED" = some (.int (2) t)
  g_SPLIT : ∃ t, mg "SPLIT" = some (.int (3) t)
  g_SOURCE : ∃ t, mg "SOURCE" = some (.int (-1) t)
  g_SINK : ∃ t, mg "SINK" = some (.int (-2) t)
  g_MOST_WEIGHT : ∃ t, mg "MOST_WEIGHT" = some (.int (1000000) t)
  g_LAST_DAY : ∃ t, mg "LAST_DAY" = some (.int (36524) t)
  g_MOST_ENTRIES : ∃ t, mg "MOST_ENTRIES" = some (.int (200) t)
  g_MOST_LOTS : ∃ t, mg "MOST_LOTS" = some (.int (60) t)
  g_MOST_LEGS : ∃ t, mg "MOST_LEGS" = some (.int (160) t)
  g_SIZES : mg "SIZES" = some (.ref A.a_SIZES)
  g_DEEDS : mg "DEEDS" = some (.ref A.a_DEEDS)
  sizes : ∀ H : Hp, ∃ as : List Addr, SqT K H A.a_SIZES (as.map V.ref) ∧ ∀ (i : Nat) (p : Int × Int), SIZES[i]? = some p → ∃ a, as[i]? = some a ∧ SqT K H a [.int p.1, .int p.2]
  deeds : ∀ H : Hp, SqT K H A.a_DEEDS (V.non :: (deedsOf A).map V.ref)

/-- what a callee raises leaves this def too -/
theorem passR {P : Program} {w : World} {K : PySem.W.Frag} {mg : Str → Option Value} {base : Heap} {N : List Str} {qual : Str} {scope : Scope} {f : Addr} {cd : Value} {A : Around} {outer : List Env} {s : Shared} {H : Hp} {E : XK} :
    Passes (L2.CX P w) (cxOf (L2.CX P w) P w K mg base N qual scope f cd A outer s H E) E := passes_call (takes_of rfl rfl rfl rfl) (fun _ _ _ _ h => h)
theorem takesR {P : Program} {w : World} {K : PySem.W.Frag} {mg : Str → Option Value} {base : Heap} {N : List Str} {qual : Str} {scope : Scope} {f : Addr} {cd : Value} {A : Around} {outer : List Env} {s : Shared} {H : Hp} {E : XK} :
    Takes (cxOf (L2.CX P w) P w K mg base N qual scope f cd A outer s H E) (fun cls d _ H => E cls d H) := takes_of rfl rfl rfl rfl
end LW
end
section
set_option Elab.async false
set_option linter.all false
set_option maxRecDepth 100000
set_option maxHeartbeats 4000000
/-! ### list.extend by a list or a tuple -/
namespace LWX
open PySem PySem.AutoSeq1
theorem extend_by_tuple (l : Addr) (xs : Array Value) (n : Nat) (b : Addr) (ys : Array Value) (n2 : Nat) (dd : Option Addr) (ss : Array (Option Value))
    (hs0 : ¬(!xs.isEmpty && Builtin.List.listTooLong (xs.size + ys.size)) = true) (hs1 : xs.size ≤ sizeLine) (hs2 : xs.size + ys.size ≤ sizeLine + 1) :
    Meets (Builtin.«list.extend» ⟨[.ref l, .ref b], []⟩) (fun _ R s => s.heap.get? l = some { cls := .type "list", dict := none, data := .seq xs n, slots := #[] } ∧
      s.heap.get? b = some { cls := .type "tuple", dict := dd, data := .seq ys n2, slots := ss } ∧
      R (.ok (.ret Value.none)) { s with heap := s.heap.update l (Obj.mapSeq fun x => x ++ ys), toks := s.toks }) :=
  .of_wp fun prog w A R s h => by
    obtain ⟨hp, g, d, tk, os⟩ := s
    obtain ⟨hl, hb, h⟩ := h
    have f1 := idx_int
    have f2 := sub_tuple_tuple
    have f3 := sub_list_list
    have f4 := sub_tuple_list
    have f5 := sub_list_tuple
    have hz' : (xs ++ ys).size ≤ sizeLine + 1 := by rw [Array.size_append]; exact hs2
    wp_walk using (wpAny_updateSeq hl rfl (hz := hs1) (_hz' := hz')), wpAny_loadPart' hl, wpAny_loadPart' hb
    exact ⟨_, rfl, h⟩
end LWX
namespace LW
open PySem PySem.Spec PyProof.Rows L2 Evl
section
variable {X : Cx}
def rExtendA (K : PySem.W.Frag) : V → List V → Hp → VK → Prop := fun x vs H Q => ∃ l b xs zs, x = .ref l ∧ vs = [.ref b] ∧ H l = some (.lst xs) ∧ (H b = some (.lst zs) ∨ SqT K H b zs) ∧ xs.length + zs.length ≤ sizeLine ∧ Q .non (upd H l (.lst (xs ++ zs)))
theorem mt_extendA : MtM X "list.extend" (rExtendA X.K) := by
  intro pins s σ H x vs v us Q I rx rv h
  obtain ⟨l, b, xs, zs, rfl, rfl, hH, hB, hz, q⟩ := h
  cases rx
  obtain ⟨u, rfl, ru⟩ := rv.one
  cases ru
  obtain ⟨z, its, n, r, hl, e⟩ := I.lstM hH
  rcases hB with hB | hB
  · obtain ⟨z2, its2, n2, r2, hl2, e2⟩ := I.lstM hB
    have hsz : its.toArray.size + its2.toArray.size ≤ sizeLine := by simp only [List.size_toArray]; omega
    have hlong : ¬ (!its.toArray.isEmpty && Builtin.List.listTooLong (its.toArray.size + its2.toArray.size)) = true := by rw [notLongL hsz, Bool.and_false]; simp
    refine call_meets F.slot_list_extend ⟨_, e, rfl⟩ F.entry_list_extend (F.args_list_extend_2 _ _)
      (AutoSeq1.list_extend_list_list_0 l its.toArray n b its2.toArray n2 hlong (by simp only [List.size_toArray]; omega) (by omega)) ⟨e, e2, ?_⟩
    exact ⟨.non, _, I.lset (its' := its ++ its2) hH e (by simp) (r.append r2) (by rw [List.length_append]; omega), rfl, q⟩
  · obtain ⟨its2, r2, p2, z2⟩ := I.tuple hB
    obtain ⟨o, e2, hc, n2, hd⟩ := p2
    obtain ⟨oc, od, odat, osl⟩ := o
    cases hc
    cases hd
    have hl2 := r2.length
    have hsz : its.toArray.size + its2.toArray.size ≤ sizeLine := by simp only [List.size_toArray]; omega
    have hlong : ¬ (!its.toArray.isEmpty && Builtin.List.listTooLong (its.toArray.size + its2.toArray.size)) = true := by rw [notLongL hsz, Bool.and_false]; simp
    refine call_meets F.slot_list_extend ⟨_, e, rfl⟩ F.entry_list_extend (F.args_list_extend_2 _ _)
      (LWX.extend_by_tuple l its.toArray n b its2.toArray n2 od osl hlong (by simp only [List.size_toArray]; omega) (by omega)) ⟨e, e2, ?_⟩
    exact ⟨.non, _, I.lset (its' := its ++ its2) hH e (by simp) (r.append r2) (by rw [List.length_append]; omega), rfl, q⟩
end
end LW
namespace LW
open PySem PySem.Spec PyProof.Rows L2 Evl
/-! ### row[1::2] -/
def oddIx (n : Nat) : List Nat := (List.range (n / 2)).map fun k => 2 * k + 1
def odds {α : Type} (xs : List α) : List α := (oddIx xs.length).filterMap (xs[·]?)
theorem odd_range (n : Nat) : sliceRange (sliceBounds (some 1) none (some 2) n).1 (sliceBounds (some 1) none (some 2) n).2.1 (sliceBounds (some 1) none (some 2) n).2.2 = oddIx n := by
  have e : sliceBounds (some 1) none (some 2) n = (max 0 (min 1 (n : Int)), (n : Int), 2) := by
    unfold sliceBounds
    simp
  rw [e]
  show sliceRange (max 0 (min 1 (n : Int))) (n : Int) 2 = oddIx n
  unfold sliceRange oddIx
  by_cases h : n ≤ 1
  · have h0 : n / 2 = 0 := by omega
    have h1 : ¬ (max 0 (min 1 (n : Int)) < (n : Int)) := by omega
    rw [if_pos (by decide : (2 : Int) > 0), if_neg h1, h0]
    rfl
  · have h1 : max 0 (min 1 (n : Int)) = 1 := by omega
    rw [h1, if_pos (by decide : (2 : Int) > 0), if_pos (by omega)]
    have h2 : (((n : Int) - 1 + 2 - 1) / 2).toNat = n / 2 := by omega
    dsimp only
    rw [h2]
    apply List.map_congr_left
    intro k hk
    omega
theorem vals_pick {xs : List V} {us : List Value} (r : Vals xs us) : ∀ idx : List Nat, Vals (idx.filterMap (xs[·]?)) (idx.filterMap (us[·]?))
  | [] => .nil
  | i :: t => by
    cases e : xs[i]? with
    | none =>
      rw [List.filterMap_cons_none e, List.filterMap_cons_none (r.none_of e)]
      exact vals_pick r t
    | some x =>
      obtain ⟨u, hu, ru⟩ := r.get e
      rw [List.filterMap_cons_some e, List.filterMap_cons_some hu]
      exact .cons ru (vals_pick r t)
section
variable {X : Cx}
def tOdds (K : PySem.W.Frag) (te : TE) : TE := fun σ H Q => te σ H fun x H1 => ∃ a xs, x = .ref a ∧ SqL K H1 a xs ∧ ∀ p, H1 p = none → Q (.ref p) (upd H1 p (.lst (odds xs)))
theorem pe_odds {e : Expr} {te : TE} {k1 k2 : Nat} {p1 p2 p3 pos : Pos} (he : PE X e te) : PE X (.Subscript e (.Slice (some (.Constant (.int 1) k1 p1)) none (some (.Constant (.int 2) k2 p2)) p3) pos) (tOdds X.K te) := by
  refine ⟨fun pins s σ H Q I h => ?_⟩
  refine Subscript_ (thn (he.run pins s σ H _ I h) fun v s1 ⟨x, H1, I1, r1, a, xs, ex, hx, q⟩ => ?_)
  subst ex
  cases r1
  have p1' : PO X (some (.Constant (.int 1) k1 p1)) (tPart (tC (.int 1))) := po_some pe_int
  have p2' : PO X (some (.Constant (.int 2) k2 p2)) (tPart (tC (.int 2))) := po_some pe_int
  refine wpAny_Slice (thn (p1'.run pins s1 σ H1 (fun o H2 => o = some 1 ∧ H2 = H1) I1 ⟨1, rfl, rfl, rfl⟩) fun vl s2 ⟨l, H2, I2, pl, el, e2⟩ => ?_)
  subst el e2
  refine thn (po_none.run pins s2 σ H2 (fun o H3 => o = none ∧ H3 = H2) I2 ⟨rfl, rfl⟩) fun vu s3 ⟨u, H3, I3, pu, eu, e3⟩ => ?_
  subst eu e3
  refine thn (p2'.run pins s3 σ H3 (fun o H4 => o = some 2 ∧ H4 = H3) I3 ⟨2, rfl, rfl, rfl⟩) fun vs s4 ⟨o, H4, I4, ps, eo, e4⟩ => ?_
  subst eo e4
  have I5 : Inv X pins σ H4 { s4 with heap := s4.heap.push { cls := .type "slice", data := .fields #[vl, vu, vs] } } := I4.kept (t' := s4.toks) fun b ob q => Heap.get?_push_of_some _ q
  obtain ⟨its, r, ht, hz⟩ := I5.list hx
  have hlen := r.length
  show wpAny (model X.prog X.w) X.A (subscriptTail e (.Slice (some (.Constant (.int 1) k1 p1)) none (some (.Constant (.int 2) k2 p2)) p3) (.ref a) (.ref s4.heap.objs.size)) (EP X pins σ Q) X.xe { s4 with heap := s4.heap.push { cls := .type "slice", data := .fields #[vl, vu, vs] } }
  refine tail_any (ops := [.ref a, .ref s4.heap.objs.size]) ht.isList.typeIs (PySem.slot_list_getitem.lookup) ?_ (by with_unfolding_all rfl)
  refine wpAny_getItem_list_slice ht.isList (Heap.IsSliceOf.new _ vl vu vs) pl pu ps (by decide) ?_ (by simp only [List.size_toArray]; omega)
  have e1 : slicePick its.toArray (some 1) none (some 2) = ((oddIx xs.length).filterMap (its[·]?)).toArray := by
    unfold slicePick
    rw [odd_range, List.size_toArray, ← hlen]
    congr 2
    funext i
    simp
  rw [e1]
  refine ⟨.ref _, _, I5.laid (t' := s4.toks) (o := .lst (odds xs)) (fun b ob q => Heap.get?_push_of_some _ q) (Nat.le_refl _) ?_, rfl, q _ (I5.hok.fresh (Nat.le_refl _))⟩
  refine ⟨?_, _, 0, vals_pick r (oddIx xs.length), Heap.get?_push_size _ rfl⟩
  have hle : (odds xs).length ≤ (oddIx xs.length).length := List.length_filterMap_le _ _
  unfold oddIx at hle
  rw [List.length_map, List.length_range] at hle
  omega
end
end LW
namespace LW
open PySem PySem.Spec PyProof.Rows L2 Evl
/-! ### for k in a dict that was just made: it stays locked -/
def iKeysN (td : TE) : TI := fun σ H R => td σ H fun x H1 => ∃ d kvs, x = .ref d ∧ H1 d = some (.dK kvs) ∧ ∀ o, R (Itk d o kvs) (upd H1 d (.frz o (.dK kvs)))
section
variable {X : Cx} {tg e : Expr} {td : TE}
theorem pi_keysN (he : PE X e td) : PI X tg e (iKeysN td) := by
  refine ⟨fun pins s σ H R I h => ?_⟩
  refine thn (he.run pins s σ H _ I h) fun u s1 ⟨x, H1, I1, rx, d, kvs, ex, hd, q⟩ => ?_
  subst ex
  obtain rfl : u = Value.ref d := rx
  obtain ⟨od, I2⟩ := I1.lock hd trivial
  obtain ⟨hs, hgd, hx, es, ep, vs, hdt, hsz, kv, hm⟩ := I2.frzK upd_same
  refine iter_keys hs hgd hx hdt (pi_one (tk := s1.toks) I2 _ (turn_keys _ hdt) ⟨_, Heap.get?_push_size _ rfl, rfl, ?_⟩ (q od))
  rw [hsz] <;> rfl
/-- the slot holds the def at f, called within a try -/
def tCallLS (i : Nat) (f : Addr) (sp : Sp) (E : L2.St → XK) (t : TA) : TE := fun σ H Q => σ[i]? = some (some (.ref f)) ∧ t σ H fun vs H1 => sp vs H1 Q (E σ)
theorem pe_callLS {CX : CXT} {k i : Nat} {f : Addr} {fd : FuncData} {ps : List Str} {sp : Sp} {E : L2.St → XK} {x : Str} {p pos : Pos} {e : Expr} {es : List Expr} {t : TA}
    (F : FnOk X.prog X.w X.K X.mg X.base CX k f fd ps sp) (hr : Room k X.A) (hN : X.N[i]? = some x) (hv : Vis X.env.scope x) (hk : PySem.W.keepIn X.K (.ref f) = true) (hb : Binds X.K fd ps []) (hx : ∀ σ, PassesAt CX X σ (E σ)) (ha : PA X (e :: es) t)
    (hdb : (x == ("__debug__" : Str)) = false := by decide) (hcd : (x == ("__classdict__" : Str)) = false := by decide)
    (he : starEach (e :: es) X.env = (false, eval e X.env) :: starEach es X.env := by rfl) (hpl : (backTo pos (starEach es X.env)).any (·.1) = false := by rfl) : PE X (.Call (.Name x p) (e :: es) [] pos) (tCallLS i f sp E t) := by
  refine ⟨fun pins s σ H Q I h => ?_⟩
  obtain ⟨hs, ht⟩ := h
  refine wpAny_Call_Name_kw (thn ((pe_var (pos := p) hN hv hdb hcd).run pins s σ H (fun v H1 => v = .ref f ∧ H1 = H) I ⟨.ref f, hs, rfl, rfl⟩) fun u s1 ⟨v, H1, I1, r1, q1⟩ => ?_)
  obtain ⟨rfl, rfl⟩ := q1
  cases r1
  refine PySem.W.callWith_K (h₀ := X.base) I.ok.mod.kin hk (thn (ha.run pos pins s1 σ _ _ I1 ht) fun us s2 ⟨vs, H2, I2, r, q⟩ => ⟨I2.kIn, ?_⟩) he hpl
  exact run_fnS F hr hb (hx σ) I2 r q
end
/-! ### what evaluates to what, further -/
/-- of the value and the heap behind it R is known -/
def EvR (te : TE) (σ : L2.St) (H : Hp) (R : V → Hp → Prop) : Prop := ∀ H1, Ex H H1 → ∀ Q : VK, (∀ y H2, Ex H1 H2 → R y H2 → Q y H2) → te σ H1 Q
/-- a target takes x; the heap stays -/
def EvG (g : TG) (x : V) (σ : L2.St) (H : Hp) (σ2 : L2.St) : Prop := ∀ Q : L2.St → Hp → Prop, Q σ2 H → g x σ H Q
section
variable {K : PySem.W.Frag} {σ : L2.St} {H H' : Hp} {ta tb te : TE} {t : TT} {x y z v : V} {a C dx : Addr} {fs : List (Str × V)} {f m : Str}
theorem er_ev (h : Ev te σ H v) : EvR te σ H (fun y _ => y = v) := fun H1 e Q q => h H1 e Q fun H2 e2 => q v H2 e2 rfl
theorem er_imp {R R' : V → Hp → Prop} (h : EvR te σ H R) (k : ∀ y H2, Ex H H2 → R y H2 → R' y H2) : EvR te σ H R' := fun H1 e Q q => h H1 e Q fun y H2 e2 r => q y H2 e2 (k y H2 (e.trans e2) r)
theorem EvR.mono {R : V → Hp → Prop} (e : Ex H H') (h : EvR te σ H R) : EvR te σ H' R := fun H1 e1 Q q => h H1 (e.trans e1) Q q
theorem er_tup {ta : TA} {vs : List V} (h : EvA ta σ H vs) (hl : vs.length ≤ 100000) : EvR (tTup ta) σ H (fun y H2 => ∃ p, y = .ref p ∧ H p = none ∧ H2 p = some (.tup vs)) := fun H1 e Q q =>
  h H1 e _ fun H2 e2 => ⟨sz_of hl, fun p hp => q _ _ (e2.trans (Ex.new hp)) ⟨p, rfl, fresh_back (e.trans e2) hp, upd_same⟩⟩
theorem er_lst {ta : TA} {vs : List V} (h : EvA ta σ H vs) (hl : vs.length ≤ 100000) : EvR (tLst ta) σ H (fun y H2 => ∃ p, y = .ref p ∧ H p = none ∧ H2 p = some (.lst vs)) := fun H1 e Q q =>
  h H1 e _ fun H2 e2 => ⟨sz_of hl, fun p hp => q _ _ (e2.trans (Ex.new hp)) ⟨p, rfl, fresh_back (e.trans e2) hp, upd_same⟩⟩
theorem er_if {b : Bool} {R : V → Hp → Prop} (h : EvT t σ H b) (h1 : b = true → EvR ta σ H R) (h2 : b = false → EvR tb σ H R) : EvR (tIf t ta tb) σ H R := fun H1 e Q q => h H1 e _ fun H2 e2 => by
  cases b with
  | true => exact h1 rfl H2 (e.trans e2) Q fun y H3 e3 => q y H3 (e2.trans e3)
  | false => exact h2 rfl H2 (e.trans e2) Q fun y H3 e3 => q y H3 (e2.trans e3)
theorem eg_name {i : Nat} : EvG (gName i) x σ H (σ.set i (some x)) := fun _ q => q
theorem eg_tup2 {i j : Nat} (h : SqT K H a [x, y]) : EvG (gTup K 2 (gCons (gName i) (gCons (gName j) gNil))) (.ref a) σ H ((σ.set i (some x)).set j (some y)) := fun _ q => ⟨a, _, rfl, h, rfl, _, _, rfl, _, _, rfl, rfl, q⟩
theorem eg_tup3 {i j k : Nat} (h : SqT K H a [x, y, z]) : EvG (gTup K 3 (gCons (gName i) (gCons (gName j) (gCons (gName k) gNil)))) (.ref a) σ H (((σ.set i (some x)).set j (some y)).set k (some z)) := fun _ q => ⟨a, _, rfl, h, rfl, _, _, rfl, _, _, rfl, _, _, rfl, rfl, q⟩
theorem ev_fld (h : Ev ta σ H (.ref a)) (ho : H a = some (.ins C dx fs)) (c : Cls K C) (n : NoAttr K C f) (l : fs.lookup f = some v) : Ev (tFld K ta f) σ H v := fun H1 e _ q =>
  h H1 e _ fun H2 e2 => ⟨a, C, dx, fs, v, rfl, (e.trans e2) a _ ho, c, n, l, q H2 e2⟩
theorem ev_ixL {p : Addr} {xs : List V} {i : Int} (h : Ev ta σ H (.ref p)) (hs : SqL K H p xs) (hi : Ev tb σ H (.int i)) (e : atI xs i = some v) : Ev (tOp (rIxL K) ta tb) σ H v := ev_op h hi (rv_ixL hs e)
theorem ev_ixT {p : Addr} {xs : List V} {i : Int} (h : Ev ta σ H (.ref p)) (hs : SqT K H p xs) (hi : Ev tb σ H (.int i)) (e : atI xs i = some v) : Ev (tOp (rIxT K) ta tb) σ H v := ev_op h hi (rv_ixT hs e)
theorem ev_meth0 {sp : Sp} {E : XK} (h : Ev ta σ H (.ref a)) (ho : H a = some (.ins C dx fs)) (l : fs.lookup m = none) (hs : SpV sp [.ref a] H v) : Ev (tMeth C m sp [] E ta tNil) σ H v := fun H1 e Q q =>
  h H1 e _ fun H2 e2 => ⟨a, dx, fs, rfl, (e.trans e2) a _ ho, l, hs H2 (e.trans e2) Q (fun H3 e3 => q H3 (e2.trans e3)) E⟩
theorem ev_meth {sp : Sp} {E : XK} {t : TA} {vs : List V} (h : Ev ta σ H (.ref a)) (ho : H a = some (.ins C dx fs)) (l : fs.lookup m = none) (ha : EvA t σ H vs) (hs : SpV sp (.ref a :: vs) H v) : Ev (tMeth C m sp [] E ta t) σ H v := fun H1 e Q q =>
  h H1 e _ fun H2 e2 => ⟨a, dx, fs, rfl, (e.trans e2) a _ ho, l, ha H2 (e.trans e2) _ fun H3 e3 => by
    rw [List.append_nil]
    exact hs H3 ((e.trans e2).trans e3) Q (fun H4 e4 => q H4 ((e2.trans e3).trans e4)) E⟩
def SpR (sp : Sp) (vs : List V) (H : Hp) (R : V → Hp → Prop) : Prop := ∀ H1, Ex H H1 → ∀ Q : VK, (∀ y H2, Ex H1 H2 → R y H2 → Q y H2) → ∀ E : XK, sp vs H1 Q E
theorem er_call {sp : Sp} {vs : List V} {E : XK} {ta : TA} {R : V → Hp → Prop} (h : EvA ta σ H vs) (hs : SpR sp vs H R) : EvR (tCall sp [] E ta) σ H R := fun H1 e Q q =>
  h H1 e _ fun H2 e2 => by
    rw [List.append_nil]
    exact hs H2 (e.trans e2) Q (fun y H3 e3 => q y H3 (e2.trans e3)) E
theorem er_meth0 {sp : Sp} {E : XK} {R : V → Hp → Prop} (h : Ev ta σ H (.ref a)) (ho : H a = some (.ins C dx fs)) (l : fs.lookup m = none) (hs : SpR sp [.ref a] H R) : EvR (tMeth C m sp [] E ta tNil) σ H R := fun H1 e Q q =>
  h H1 e _ fun H2 e2 => ⟨a, dx, fs, rfl, (e.trans e2) a _ ho, l, hs H2 (e.trans e2) Q (fun y H3 e3 => q y H3 (e2.trans e3)) E⟩
theorem er_meth {sp : Sp} {E : XK} {t : TA} {vs : List V} {R : V → Hp → Prop} (h : Ev ta σ H (.ref a)) (ho : H a = some (.ins C dx fs)) (l : fs.lookup m = none) (ha : EvA t σ H vs) (hs : SpR sp (.ref a :: vs) H R) : EvR (tMeth C m sp [] E ta t) σ H R := fun H1 e Q q =>
  h H1 e _ fun H2 e2 => ⟨a, dx, fs, rfl, (e.trans e2) a _ ho, l, ha H2 (e.trans e2) _ fun H3 e3 => by
    rw [List.append_nil]
    exact hs H3 ((e.trans e2).trans e3) Q (fun y H4 e4 => q y H4 ((e2.trans e3).trans e4)) E⟩
theorem s_asgR {D : Ends} {i : Nat} {R : V → Hp → Prop} (h : EvR te σ H R) (k : ∀ y H1, Ex H H1 → R y H1 → D.nx (σ.set i (some y)) H1) : tAsg te (gName i) D σ H := h H (Ex.refl H) _ fun y H1 e r => k y H1 e r
theorem q_asgR {D : Ends} {tz : TS} {i : Nat} {R : V → Hp → Prop} (h : EvR te σ H R) (k : ∀ y H1, Ex H H1 → R y H1 → tz D (σ.set i (some y)) H1) : tSeq (tAsg te (gName i)) tz D σ H := s_asgR (D := { D with nx := tz D }) h k
theorem s_retR {D : Ends} {R : V → Hp → Prop} (h : EvR te σ H R) (k : ∀ y H1, Ex H H1 → R y H1 → D.rt y H1) : tRet te D σ H := h H (Ex.refl H) _ k
/-- a comprehension's turns that give -/
def idx (n : Nat) (f : Nat → Bool) : List Nat := (List.range n).filter f
theorem idx_yes {n : Nat} {f : Nat → Bool} (h : f n = true) : idx (n + 1) f = idx n f ++ [n] := by
  unfold idx; rw [List.range_succ, List.filter_append, List.filter_cons, if_pos h]; rfl
theorem idx_no {n : Nat} {f : Nat → Bool} (h : f n = false) : idx (n + 1) f = idx n f := by
  unfold idx; rw [List.range_succ, List.filter_append, List.filter_cons, if_neg (by rw [h]; decide)]; simp
theorem idx_len (n : Nat) (f : Nat → Bool) : (idx n f).length ≤ n := by
  unfold idx
  have h := List.length_filter_le f (List.range n)
  rw [List.length_range] at h
  exact h
theorem idx_all (n : Nat) : idx n (fun _ => true) = List.range n := by unfold idx; rw [List.filter_eq_self]; intros; rfl
/-- the items ys are told, each by its turn -/
def Told (R : Nat → V → Hp → Prop) (H : Hp) (is : List Nat) (ys : List V) : Prop := ys.length = is.length ∧ ∀ (j i : Nat), is[j]? = some i → ∃ y, ys[j]? = some y ∧ R i y H
theorem er_lc {wi : TI} {g : TG} {vs : List Nat} {n : Nat} {G : Hp → Prop} {Y : Nat → Hp → V → Hp → Prop} (R : Nat → V → Hp → Prop) (f : Nat → Bool) (σi : Nat → L2.St)
    (mono : ∀ i y H1 H2, Ex H1 H2 → R i y H1 → R i y H2) (stay : ∀ i y H1 D xs ys, H1 D = some (.lst xs) → y ≠ .ref D → R i y H1 → R i y (upd H1 D (.lst ys))) (monoG : ∀ H1 H2, Ex H1 H2 → G H1 → G H2) (hn : n ≤ 50000)
    (hw : ∀ H1, Ex H H1 → ∀ Rs : It → Hp → Prop, (∀ J H2, Ex H1 H2 → Walk J n G Y → G H2 → Rs J H2) → wi σ H1 Rs)
    (hturn : ∀ i x H1 H2, i < n → Ex H H1 → G H1 → Y i H1 x H2 → Ex H1 H2 ∧ EvG g x (wipe σ vs) H2 (σi i) ∧ wipe (σi i) vs = wipe σ vs ∧ EvT t (σi i) H2 (f i) ∧
      (f i = true → EvR te (σi i) H2 (fun y H3 => R i y H3 ∧ ∀ D xs, H2 D = some (.lst xs) → y ≠ .ref D))) :
    EvR (tLc wi g t te vs) σ H (fun y H2 => ∃ p ys, y = .ref p ∧ H p = none ∧ H2 p = some (.lst ys) ∧ Told R H2 (idx n f) ys) := fun H0 e Q q => hw H0 e _ fun J H1 e1 w g1 D hD =>
  lc_it w (fun i H' => H1 D = none ∧ Ex H1 H' ∧ ∃ ys, H' D = some (.lst ys) ∧ Told R H' (idx i f) ys ∧ ∀ y ∈ ys, y ≠ .ref D) ⟨hD, Ex.new hD, [], upd_same, ⟨rfl, fun j i h => (by simp [idx] at h)⟩, fun y hy => (by simp at hy)⟩ (fun i H' _ p => monoG _ _ p.2.1 g1)
    (fun i x H' H2 hi p y => by
      obtain ⟨p1, p2, ys, p3, p4, p5⟩ := p
      obtain ⟨e2, hg, hwi, ht, he⟩ := hturn i x H' H2 hi ((e.trans e1).trans p2) (monoG _ _ p2 g1) y
      refine hg _ ⟨hwi, ht H2 (Ex.refl H2) _ fun H3 e3 => ?_⟩
      cases hf : f i with
      | false =>
        show H1 D = none ∧ Ex H1 H3 ∧ ∃ ys, H3 D = some (.lst ys) ∧ Told R H3 (idx (i + 1) f) ys ∧ ∀ y ∈ ys, y ≠ .ref D
        refine ⟨p1, (p2.trans e2).trans e3, ys, e3 D _ (e2 D _ p3), ?_, p5⟩
        rw [idx_no hf]
        refine ⟨p4.1, fun j k hk => ?_⟩
        obtain ⟨y', h1, h2⟩ := p4.2 j k hk
        exact ⟨y', h1, mono _ _ _ _ (e2.trans e3) h2⟩
      | true =>
        show te (σi i) H3 fun y H4 => ∃ acc, H4 D = some (.lst acc) ∧ acc.length < sizeLine ∧ (H1 D = none ∧ Ex H1 (upd H4 D (.lst (acc ++ [y]))) ∧ ∃ ys, (upd H4 D (.lst (acc ++ [y]))) D = some (.lst ys) ∧ Told R (upd H4 D (.lst (acc ++ [y]))) (idx (i + 1) f) ys ∧ ∀ y ∈ ys, y ≠ .ref D)
        refine he hf H3 e3 _ fun yv H4 e4 r => ?_
        have h4 : H4 D = some (.lst ys) := e4 D _ (e3 D _ (e2 D _ p3))
        have hne : yv ≠ .ref D := r.2 D ys (e2 D _ p3)
        refine ⟨ys, h4, sz_lt (by have := idx_len i f; have := p4.1; omega), p1, ((((p2.trans e2).trans e3).trans e4)).mut p1, ys ++ [yv], upd_same, ?_, fun y hy => ?_⟩
        · rw [idx_yes hf]
          refine ⟨by rw [List.length_append, List.length_append, p4.1]; rfl, fun j k hk => ?_⟩
          by_cases hj : j < ys.length
          · rw [List.getElem?_append_left (by rw [← p4.1]; exact hj)] at hk
            obtain ⟨y', h1, h2⟩ := p4.2 j k hk
            refine ⟨y', by rw [List.getElem?_append_left hj]; exact h1, stay _ _ _ _ _ _ h4 (p5 y' (List.mem_of_getElem? h1)) (mono _ _ _ _ ((e2.trans e3).trans e4) h2)⟩
          · rw [List.getElem?_append_right (by rw [← p4.1]; omega)] at hk
            have hj0 : j - (idx i f).length = 0 := by
              have := (List.getElem?_eq_some_iff.mp hk).1
              simpa using this
            rw [hj0] at hk
            have ek : i = k := Option.some.inj hk
            subst ek
            have ej : j - ys.length = 0 := by rw [p4.1]; exact hj0
            exact ⟨yv, by rw [List.getElem?_append_right (by omega), ej]; rfl, stay _ _ _ _ _ _ h4 hne r.1⟩
        · rcases List.mem_append.mp hy with hy | hy
          · exact p5 y hy
          · have : y = yv := by simpa using hy
            rw [this]; exact hne)
    fun H' ⟨p1, p2, ys, p3, p4, _⟩ => q _ _ (e1.trans p2) ⟨D, ys, rfl, fresh_back (e.trans e1) p1, p3, p4⟩
/-- .. whose items are values -/
theorem told_vals {H : Hp} {is : List Nat} {ys : List V} {v : Nat → V} (h : Told (fun i y _ => y = v i) H is ys) : ys = is.map v := by
  refine List.ext_getElem? fun j => ?_
  rw [List.getElem?_map]
  by_cases hj : j < is.length
  · obtain ⟨y, h1, h2⟩ := h.2 j is[j] (List.getElem?_eq_getElem hj)
    rw [h1, h2, List.getElem?_eq_getElem hj]
    rfl
  · rw [List.getElem?_eq_none (by rw [h.1]; omega), List.getElem?_eq_none (by omega)]
    rfl
theorem el_lc {wi : TI} {g : TG} {vs : List Nat} {n : Nat} {G : Hp → Prop} {Y : Nat → Hp → V → Hp → Prop} (v : Nat → V) (f : Nat → Bool) (σi : Nat → L2.St)
    (monoG : ∀ H1 H2, Ex H1 H2 → G H1 → G H2) (hn : n ≤ 50000)
    (hw : ∀ H1, Ex H H1 → ∀ Rs : It → Hp → Prop, (∀ J H2, Ex H1 H2 → Walk J n G Y → G H2 → Rs J H2) → wi σ H1 Rs)
    (hturn : ∀ i x H1 H2, i < n → Ex H H1 → G H1 → Y i H1 x H2 → Ex H1 H2 ∧ EvG g x (wipe σ vs) H2 (σi i) ∧ wipe (σi i) vs = wipe σ vs ∧ EvT t (σi i) H2 (f i) ∧
      (f i = true → Ev te (σi i) H2 (v i) ∧ ∀ D xs, H2 D = some (.lst xs) → v i ≠ .ref D)) :
    EvR (tLc wi g t te vs) σ H (fun y H2 => ∃ p, y = .ref p ∧ H p = none ∧ H2 p = some (.lst ((idx n f).map v))) :=
  er_imp (er_lc (fun i y _ => y = v i) f σi (fun _ _ _ _ _ h => h) (fun _ _ _ _ _ _ _ _ h => h) monoG hn hw fun i x H1 H2 hi e g1 y => by
      obtain ⟨h1, h2, h3, h4, h5⟩ := hturn i x H1 H2 hi e g1 y
      exact ⟨h1, h2, h3, h4, fun hf => er_imp (er_ev (h5 hf).1) fun y H3 _ hy => ⟨hy, fun D xs hD => by rw [hy]; exact (h5 hf).2 D xs hD⟩⟩)
    fun y H2 _ ⟨p, ys, h1, h2, h3, h4⟩ => ⟨p, h1, h2, by rw [h3, told_vals h4]⟩
/-- the sources -/
theorem wl_list {tl : TE} {a : Addr} {xs : List V} (h : Ev tl σ H (.ref a)) (hx : SqL K H a xs) : ∀ H1, Ex H H1 → ∀ Rs : It → Hp → Prop, (∀ J H2, Ex H1 H2 → Walk J xs.length (fun H => SqL K H a xs) (YAt xs) → SqL K H2 a xs → Rs J H2) → iList K tl σ H1 Rs := fun H1 e Rs k =>
  h H1 e _ fun H2 e2 => ⟨a, rfl, ⟨xs, ex_l (e.trans e2) hx⟩, k _ H2 e2 walk_list (ex_l (e.trans e2) hx)⟩
theorem wl_enum {tl : TE} {a : Addr} {xs : List V} (h : Ev tl σ H (.ref a)) (hx : SqL K H a xs) : ∀ H1, Ex H H1 → ∀ Rs : It → Hp → Prop, (∀ J H2, Ex H1 H2 → Walk J xs.length (fun H => SqL K H a xs) (YPair (fun i => some (.int (i : Nat))) (fun i => xs[i]?)) → SqL K H2 a xs → Rs J H2) → iEnum K (tCons tl tNil) σ H1 Rs := fun H1 e Rs k =>
  h H1 e _ fun H2 e2 => ⟨a, xs, rfl, ex_l (e.trans e2) hx, k _ H2 e2 walk_enum (ex_l (e.trans e2) hx)⟩
/-- a new list for a source -/
theorem wl_new {tl : TE} {xs : List V} (h : EvR tl σ H (fun y H2 => ∃ p, y = .ref p ∧ H p = none ∧ H2 p = some (.lst xs))) : ∀ H1, Ex H H1 → ∀ Rs : It → Hp → Prop, (∀ J H2 a, Ex H1 H2 → Walk J xs.length (fun H => SqL K H a xs) (YAt xs) → SqL K H2 a xs → Rs J H2) → iList K tl σ H1 Rs := fun H1 e Rs k =>
  h H1 e _ fun y H2 e2 ⟨p, ey, _, hp⟩ => ⟨p, ey, ⟨xs, sq_of hp⟩, k _ H2 p e2 walk_list (sq_of hp)⟩
theorem monoL {a : Addr} {xs : List V} : ∀ H1 H2, Ex H1 H2 → SqL K H1 a xs → SqL K H2 a xs := fun _ _ e h => ex_l e h
end
end LW
end
section
set_option Elab.async false
set_option linter.all false
set_option maxRecDepth 100000
set_option maxHeartbeats 4000000

namespace LW
open PySem PySem.Spec PyProof.Rows L2 Evl LF TbLtBook
/-! ### the objects' attributes -/
def fLot (v0 v1 v2 v3 v4 v5 v6 v7 v8 : V) : List (Str × V) := [("born", v0), ("made", v1), ("generation", v2), ("grade", v3), ("day", v4), ("mothers", v5), ("planted", v6), ("lost", v7), ("gone", v8)]
theorem lk_Lot_born {v0 v1 v2 v3 v4 v5 v6 v7 v8 : V} : (fLot v0 v1 v2 v3 v4 v5 v6 v7 v8).lookup ("born" : Str) = some v0 := by kernel_rfl
theorem lk_Lot_made {v0 v1 v2 v3 v4 v5 v6 v7 v8 : V} : (fLot v0 v1 v2 v3 v4 v5 v6 v7 v8).lookup ("made" : Str) = some v1 := by kernel_rfl
theorem lk_Lot_generation {v0 v1 v2 v3 v4 v5 v6 v7 v8 : V} : (fLot v0 v1 v2 v3 v4 v5 v6 v7 v8).lookup ("generation" : Str) = some v2 := by kernel_rfl
theorem lk_Lot_grade {v0 v1 v2 v3 v4 v5 v6 v7 v8 : V} : (fLot v0 v1 v2 v3 v4 v5 v6 v7 v8).lookup ("grade" : Str) = some v3 := by kernel_rfl
theorem lk_Lot_day {v0 v1 v2 v3 v4 v5 v6 v7 v8 : V} : (fLot v0 v1 v2 v3 v4 v5 v6 v7 v8).lookup ("day" : Str) = some v4 := by kernel_rfl
theorem lk_Lot_mothers {v0 v1 v2 v3 v4 v5 v6 v7 v8 : V} : (fLot v0 v1 v2 v3 v4 v5 v6 v7 v8).lookup ("mothers" : Str) = some v5 := by kernel_rfl
theorem lk_Lot_planted {v0 v1 v2 v3 v4 v5 v6 v7 v8 : V} : (fLot v0 v1 v2 v3 v4 v5 v6 v7 v8).lookup ("planted" : Str) = some v6 := by kernel_rfl
theorem lk_Lot_lost {v0 v1 v2 v3 v4 v5 v6 v7 v8 : V} : (fLot v0 v1 v2 v3 v4 v5 v6 v7 v8).lookup ("lost" : Str) = some v7 := by kernel_rfl
theorem lk_Lot_gone {v0 v1 v2 v3 v4 v5 v6 v7 v8 : V} : (fLot v0 v1 v2 v3 v4 v5 v6 v7 v8).lookup ("gone" : Str) = some v8 := by kernel_rfl
theorem lk_Lot_left {v0 v1 v2 v3 v4 v5 v6 v7 v8 : V} : (fLot v0 v1 v2 v3 v4 v5 v6 v7 v8).lookup ("left" : Str) = none := by kernel_rfl
theorem lk_Lot_is_founder {v0 v1 v2 v3 v4 v5 v6 v7 v8 : V} : (fLot v0 v1 v2 v3 v4 v5 v6 v7 v8).lookup ("is_founder" : Str) = none := by kernel_rfl
theorem put_Lot_planted {v0 v1 v2 v3 v4 v5 v6 v7 v8 : V} {x : V} : putF "planted" x (fLot v0 v1 v2 v3 v4 v5 v6 v7 v8) = fLot v0 v1 v2 v3 v4 v5 x v7 v8 := by kernel_rfl
theorem put_Lot_lost {v0 v1 v2 v3 v4 v5 v6 v7 v8 : V} {x : V} : putF "lost" x (fLot v0 v1 v2 v3 v4 v5 v6 v7 v8) = fLot v0 v1 v2 v3 v4 v5 v6 x v8 := by kernel_rfl
theorem put_Lot_gone {v0 v1 v2 v3 v4 v5 v6 v7 v8 : V} {x : V} : putF "gone" x (fLot v0 v1 v2 v3 v4 v5 v6 v7 v8) = fLot v0 v1 v2 v3 v4 v5 v6 v7 x := by kernel_rfl
theorem new_Lot {v0 v1 v2 v3 v4 v5 v6 v7 v8 : V} : (putF "gone" v8 (putF "lost" v7 (putF "planted" v6 (putF "mothers" v5 (putF "day" v4 (putF "grade" v3 (putF "generation" v2 (putF "made" v1 (putF "born" v0 []))))))))) = fLot v0 v1 v2 v3 v4 v5 v6 v7 v8 := by kernel_rfl
def fEntry (v0 v1 v2 v3 v4 : V) : List (Str × V) := [("word", v0), ("day", v1), ("weight", v2), ("grade", v3), ("rows", v4)]
theorem lk_Entry_word {v0 v1 v2 v3 v4 : V} : (fEntry v0 v1 v2 v3 v4).lookup ("word" : Str) = some v0 := by kernel_rfl
theorem lk_Entry_day {v0 v1 v2 v3 v4 : V} : (fEntry v0 v1 v2 v3 v4).lookup ("day" : Str) = some v1 := by kernel_rfl
theorem lk_Entry_weight {v0 v1 v2 v3 v4 : V} : (fEntry v0 v1 v2 v3 v4).lookup ("weight" : Str) = some v2 := by kernel_rfl
theorem lk_Entry_grade {v0 v1 v2 v3 v4 : V} : (fEntry v0 v1 v2 v3 v4).lookup ("grade" : Str) = some v3 := by kernel_rfl
theorem lk_Entry_rows {v0 v1 v2 v3 v4 : V} : (fEntry v0 v1 v2 v3 v4).lookup ("rows" : Str) = some v4 := by kernel_rfl
theorem new_Entry {v0 v1 v2 v3 v4 : V} : (putF "rows" v4 (putF "grade" v3 (putF "weight" v2 (putF "day" v1 (putF "word" v0 []))))) = fEntry v0 v1 v2 v3 v4 := by kernel_rfl
def fBook (v0 v1 : V) : List (Str × V) := [("lots", v0), ("legs", v1)]
theorem lk_Book_lots {v0 v1 : V} : (fBook v0 v1).lookup ("lots" : Str) = some v0 := by kernel_rfl
theorem lk_Book_legs {v0 v1 : V} : (fBook v0 v1).lookup ("legs" : Str) = some v1 := by kernel_rfl
theorem lk_Book_put_leg {v0 v1 : V} : (fBook v0 v1).lookup ("put_leg" : Str) = none := by kernel_rfl
theorem lk_Book_greatest {v0 v1 : V} : (fBook v0 v1).lookup ("greatest" : Str) = none := by kernel_rfl
theorem lk_Book_make {v0 v1 : V} : (fBook v0 v1).lookup ("make" : Str) = none := by kernel_rfl
theorem lk_Book_founders {v0 v1 : V} : (fBook v0 v1).lookup ("founders" : Str) = none := by kernel_rfl
theorem lk_Book_steps {v0 v1 : V} : (fBook v0 v1).lookup ("steps" : Str) = none := by kernel_rfl
theorem lk_Book_steps_from {v0 v1 : V} : (fBook v0 v1).lookup ("steps_from" : Str) = none := by kernel_rfl
theorem lk_Book_remainder {v0 v1 : V} : (fBook v0 v1).lookup ("remainder" : Str) = none := by kernel_rfl
theorem lk_Book_weight_of {v0 v1 : V} : (fBook v0 v1).lookup ("weight_of" : Str) = none := by kernel_rfl
theorem lk_Book_shares {v0 v1 : V} : (fBook v0 v1).lookup ("shares" : Str) = none := by kernel_rfl
theorem lk_Book_mixed {v0 v1 : V} : (fBook v0 v1).lookup ("mixed" : Str) = none := by kernel_rfl
theorem new_Book {v0 v1 : V} : (putF "legs" v1 (putF "lots" v0 [])) = fBook v0 v1 := by kernel_rfl
def fFlow (v0 v1 : V) : List (Str × V) := [("room", v0), ("total", v1)]
theorem lk_Flow_room {v0 v1 : V} : (fFlow v0 v1).lookup ("room" : Str) = some v0 := by kernel_rfl
theorem lk_Flow_total {v0 v1 : V} : (fFlow v0 v1).lookup ("total" : Str) = some v1 := by kernel_rfl
theorem lk_Flow_put {v0 v1 : V} : (fFlow v0 v1).lookup ("put" : Str) = none := by kernel_rfl
theorem lk_Flow_reached {v0 v1 : V} : (fFlow v0 v1).lookup ("reached" : Str) = none := by kernel_rfl
theorem lk_Flow_way {v0 v1 : V} : (fFlow v0 v1).lookup ("way" : Str) = none := by kernel_rfl
theorem lk_Flow_fill {v0 v1 : V} : (fFlow v0 v1).lookup ("fill" : Str) = none := by kernel_rfl
theorem lk_Flow_cut {v0 v1 : V} : (fFlow v0 v1).lookup ("cut" : Str) = none := by kernel_rfl
theorem put_Flow_total {v0 v1 : V} {x : V} : putF "total" x (fFlow v0 v1) = fFlow v0 x := by kernel_rfl
theorem new_Flow {v0 v1 : V} : (putF "total" v1 (putF "room" v0 [])) = fFlow v0 v1 := by kernel_rfl
def fDesk (v0 v1 : V) : List (Str × V) := [("entries", v0), ("book", v1)]
theorem lk_Desk_entries {v0 v1 : V} : (fDesk v0 v1).lookup ("entries" : Str) = some v0 := by kernel_rfl
theorem lk_Desk_book {v0 v1 : V} : (fDesk v0 v1).lookup ("book" : Str) = some v1 := by kernel_rfl
theorem lk_Desk_book_of {v0 v1 : V} : (fDesk v0 v1).lookup ("book_of" : Str) = none := by kernel_rfl
theorem put_Desk_book {v0 v1 : V} {x : V} : putF "book" x (fDesk v0 v1) = fDesk v0 x := by kernel_rfl
theorem new_Desk {v0 v1 : V} : (putF "book" v1 (putF "entries" v0 [])) = fDesk v0 v1 := by kernel_rfl

/-! ### how the data lie in the heap -/
abbrev vi (n : Nat) : V := .int (n : Int)
abbrev vis (l : List Nat) : List V := l.map vi
def lotV (l : ML) (m : Addr) : List (Str × V) := fLot (vi l.born) (vi l.made) (vi l.gen) (vi l.cls) (vi l.day) (.ref m) (vi l.planted) (vi l.lost) (vi l.gone)
/-- a lot at a; its mothers' list is neither of the book's -/
def LotAt (A : Ad) (H : Hp) (ll gl a : Addr) (l : ML) : Prop := ∃ dx m : Addr, H a = some (.ins A.c_Lot dx (lotV l m)) ∧ H m = some (.lst (vis l.mothers)) ∧ m ≠ ll ∧ m ≠ gl
def legV (g : Leg) : List V := [vi g.of, vi g.to, vi g.weight]
def LegAt (H : Hp) (a : Addr) (g : Leg) : Prop := H a = some (.tup (legV g))
/-- the book at b: its lists at ll, gl; its lots at las, its legs at gas -/
structure BookIs (A : Ad) (H : Hp) (b ll gl : Addr) (las gas : List Addr) (B : MB) : Prop where
  obj : ∃ dx : Addr, H b = some (.ins A.c_Book dx (fBook (.ref ll) (.ref gl)))
  hl : H ll = some (.lst (las.map V.ref))
  hg : H gl = some (.lst (gas.map V.ref))
  ne : ll ≠ gl
  nd : las.Nodup
  ln : las.length = B.lots.length
  gn : gas.length = B.legs.length
  lot : ∀ (i : Nat) (a : Addr) (l : ML), las[i]? = some a → B.lots[i]? = some l → LotAt A H ll gl a l
  leg : ∀ (i : Nat) (a : Addr) (g : Leg), gas[i]? = some a → B.legs[i]? = some g → LegAt H a g
def BookAt (A : Ad) (H : Hp) (b : Addr) (B : MB) : Prop := ∃ (ll gl : Addr) (las gas : List Addr), BookIs A H b ll gl las gas B
section
variable {A : Ad} {H H' : Hp} {a b ll gl : Addr} {las gas : List Addr} {B : MB} {l : ML}
theorem LotAt.mono (L : LotAt A H ll gl a l) (e : Ex H H') : LotAt A H' ll gl a l := let ⟨dx, m, h1, h2, h3⟩ := L; ⟨dx, m, e _ _ h1, e _ _ h2, h3⟩
theorem BookIs.mono (B' : BookIs A H b ll gl las gas B) (e : Ex H H') : BookIs A H' b ll gl las gas B :=
  ⟨let ⟨dx, h⟩ := B'.obj; ⟨dx, e _ _ h⟩, e _ _ B'.hl, e _ _ B'.hg, B'.ne, B'.nd, B'.ln, B'.gn, fun i a l h1 h2 => (B'.lot i a l h1 h2).mono e, fun i a g h1 h2 => e _ _ (B'.leg i a g h1 h2)⟩
theorem BookAt.mono (h : BookAt A H b B) (e : Ex H H') : BookAt A H' b B := let ⟨ll, gl, las, gas, q⟩ := h; ⟨ll, gl, las, gas, q.mono e⟩
theorem BookIs.lotN (B' : BookIs A H b ll gl las gas B) {n : Nat} (h : n < B.lots.length) : ∃ a, las[n]? = some a ∧ LotAt A H ll gl a (B.lot n) := by
  have h' : n < las.length := by rw [B'.ln]; exact h
  refine ⟨las[n], List.getElem?_eq_getElem h', B'.lot n _ _ (List.getElem?_eq_getElem h') ?_⟩
  unfold MB.lot
  rw [List.getD_eq_getElem?_getD, List.getElem?_eq_getElem h]; rfl
end
section
variable {P : Program} {w : World} {K : PySem.W.Frag} {mg : Str → Option Value} {base : Heap} {A : Ad}
theorem ev_Lot_born (T : Txt K mg A) {te : TE} {σ : L2.St} {H : Hp} {a dx : Addr} {v0 v1 v2 v3 v4 v5 v6 v7 v8 : V} (h : Ev te σ H (.ref a)) (ho : H a = some (.ins A.c_Lot dx (fLot v0 v1 v2 v3 v4 v5 v6 v7 v8))) : Ev (tFld K te "born") σ H v0 := ev_fld h ho T.cl_Lot T.no_Lot_born lk_Lot_born
theorem ev_Lot_made (T : Txt K mg A) {te : TE} {σ : L2.St} {H : Hp} {a dx : Addr} {v0 v1 v2 v3 v4 v5 v6 v7 v8 : V} (h : Ev te σ H (.ref a)) (ho : H a = some (.ins A.c_Lot dx (fLot v0 v1 v2 v3 v4 v5 v6 v7 v8))) : Ev (tFld K te "made") σ H v1 := ev_fld h ho T.cl_Lot T.no_Lot_made lk_Lot_made
theorem ev_Lot_generation (T : Txt K mg A) {te : TE} {σ : L2.St} {H : Hp} {a dx : Addr} {v0 v1 v2 v3 v4 v5 v6 v7 v8 : V} (h : Ev te σ H (.ref a)) (ho : H a = some (.ins A.c_Lot dx (fLot v0 v1 v2 v3 v4 v5 v6 v7 v8))) : Ev (tFld K te "generation") σ H v2 := ev_fld h ho T.cl_Lot T.no_Lot_generation lk_Lot_generation
theorem ev_Lot_grade (T : Txt K mg A) {te : TE} {σ : L2.St} {H : Hp} {a dx : Addr} {v0 v1 v2 v3 v4 v5 v6 v7 v8 : V} (h : Ev te σ H (.ref a)) (ho : H a = some (.ins A.c_Lot dx (fLot v0 v1 v2 v3 v4 v5 v6 v7 v8))) : Ev (tFld K te "grade") σ H v3 := ev_fld h ho T.cl_Lot T.no_Lot_grade lk_Lot_grade
theorem ev_Lot_day (T : Txt K mg A) {te : TE} {σ : L2.St} {H : Hp} {a dx : Addr} {v0 v1 v2 v3 v4 v5 v6 v7 v8 : V} (h : Ev te σ H (.ref a)) (ho : H a = some (.ins A.c_Lot dx (fLot v0 v1 v2 v3 v4 v5 v6 v7 v8))) : Ev (tFld K te "day") σ H v4 := ev_fld h ho T.cl_Lot T.no_Lot_day lk_Lot_day
theorem ev_Lot_mothers (T : Txt K mg A) {te : TE} {σ : L2.St} {H : Hp} {a dx : Addr} {v0 v1 v2 v3 v4 v5 v6 v7 v8 : V} (h : Ev te σ H (.ref a)) (ho : H a = some (.ins A.c_Lot dx (fLot v0 v1 v2 v3 v4 v5 v6 v7 v8))) : Ev (tFld K te "mothers") σ H v5 := ev_fld h ho T.cl_Lot T.no_Lot_mothers lk_Lot_mothers
theorem ev_Lot_planted (T : Txt K mg A) {te : TE} {σ : L2.St} {H : Hp} {a dx : Addr} {v0 v1 v2 v3 v4 v5 v6 v7 v8 : V} (h : Ev te σ H (.ref a)) (ho : H a = some (.ins A.c_Lot dx (fLot v0 v1 v2 v3 v4 v5 v6 v7 v8))) : Ev (tFld K te "planted") σ H v6 := ev_fld h ho T.cl_Lot T.no_Lot_planted lk_Lot_planted
theorem ev_Lot_lost (T : Txt K mg A) {te : TE} {σ : L2.St} {H : Hp} {a dx : Addr} {v0 v1 v2 v3 v4 v5 v6 v7 v8 : V} (h : Ev te σ H (.ref a)) (ho : H a = some (.ins A.c_Lot dx (fLot v0 v1 v2 v3 v4 v5 v6 v7 v8))) : Ev (tFld K te "lost") σ H v7 := ev_fld h ho T.cl_Lot T.no_Lot_lost lk_Lot_lost
theorem ev_Lot_gone (T : Txt K mg A) {te : TE} {σ : L2.St} {H : Hp} {a dx : Addr} {v0 v1 v2 v3 v4 v5 v6 v7 v8 : V} (h : Ev te σ H (.ref a)) (ho : H a = some (.ins A.c_Lot dx (fLot v0 v1 v2 v3 v4 v5 v6 v7 v8))) : Ev (tFld K te "gone") σ H v8 := ev_fld h ho T.cl_Lot T.no_Lot_gone lk_Lot_gone
theorem ev_Entry_word (T : Txt K mg A) {te : TE} {σ : L2.St} {H : Hp} {a dx : Addr} {v0 v1 v2 v3 v4 : V} (h : Ev te σ H (.ref a)) (ho : H a = some (.ins A.c_Entry dx (fEntry v0 v1 v2 v3 v4))) : Ev (tFld K te "word") σ H v0 := ev_fld h ho T.cl_Entry T.no_Entry_word lk_Entry_word
theorem ev_Entry_day (T : Txt K mg A) {te : TE} {σ : L2.St} {H : Hp} {a dx : Addr} {v0 v1 v2 v3 v4 : V} (h : Ev te σ H (.ref a)) (ho : H a = some (.ins A.c_Entry dx (fEntry v0 v1 v2 v3 v4))) : Ev (tFld K te "day") σ H v1 := ev_fld h ho T.cl_Entry T.no_Entry_day lk_Entry_day
theorem ev_Entry_weight (T : Txt K mg A) {te : TE} {σ : L2.St} {H : Hp} {a dx : Addr} {v0 v1 v2 v3 v4 : V} (h : Ev te σ H (.ref a)) (ho : H a = some (.ins A.c_Entry dx (fEntry v0 v1 v2 v3 v4))) : Ev (tFld K te "weight") σ H v2 := ev_fld h ho T.cl_Entry T.no_Entry_weight lk_Entry_weight
theorem ev_Entry_grade (T : Txt K mg A) {te : TE} {σ : L2.St} {H : Hp} {a dx : Addr} {v0 v1 v2 v3 v4 : V} (h : Ev te σ H (.ref a)) (ho : H a = some (.ins A.c_Entry dx (fEntry v0 v1 v2 v3 v4))) : Ev (tFld K te "grade") σ H v3 := ev_fld h ho T.cl_Entry T.no_Entry_grade lk_Entry_grade
theorem ev_Entry_rows (T : Txt K mg A) {te : TE} {σ : L2.St} {H : Hp} {a dx : Addr} {v0 v1 v2 v3 v4 : V} (h : Ev te σ H (.ref a)) (ho : H a = some (.ins A.c_Entry dx (fEntry v0 v1 v2 v3 v4))) : Ev (tFld K te "rows") σ H v4 := ev_fld h ho T.cl_Entry T.no_Entry_rows lk_Entry_rows
theorem ev_Book_lots (T : Txt K mg A) {te : TE} {σ : L2.St} {H : Hp} {a dx : Addr} {v0 v1 : V} (h : Ev te σ H (.ref a)) (ho : H a = some (.ins A.c_Book dx (fBook v0 v1))) : Ev (tFld K te "lots") σ H v0 := ev_fld h ho T.cl_Book T.no_Book_lots lk_Book_lots
theorem ev_Book_legs (T : Txt K mg A) {te : TE} {σ : L2.St} {H : Hp} {a dx : Addr} {v0 v1 : V} (h : Ev te σ H (.ref a)) (ho : H a = some (.ins A.c_Book dx (fBook v0 v1))) : Ev (tFld K te "legs") σ H v1 := ev_fld h ho T.cl_Book T.no_Book_legs lk_Book_legs
theorem ev_Flow_room (T : Txt K mg A) {te : TE} {σ : L2.St} {H : Hp} {a dx : Addr} {v0 v1 : V} (h : Ev te σ H (.ref a)) (ho : H a = some (.ins A.c_Flow dx (fFlow v0 v1))) : Ev (tFld K te "room") σ H v0 := ev_fld h ho T.cl_Flow T.no_Flow_room lk_Flow_room
theorem ev_Flow_total (T : Txt K mg A) {te : TE} {σ : L2.St} {H : Hp} {a dx : Addr} {v0 v1 : V} (h : Ev te σ H (.ref a)) (ho : H a = some (.ins A.c_Flow dx (fFlow v0 v1))) : Ev (tFld K te "total") σ H v1 := ev_fld h ho T.cl_Flow T.no_Flow_total lk_Flow_total
theorem ev_Desk_entries (T : Txt K mg A) {te : TE} {σ : L2.St} {H : Hp} {a dx : Addr} {v0 v1 : V} (h : Ev te σ H (.ref a)) (ho : H a = some (.ins A.c_Desk dx (fDesk v0 v1))) : Ev (tFld K te "entries") σ H v0 := ev_fld h ho T.cl_Desk T.no_Desk_entries lk_Desk_entries
theorem ev_Desk_book (T : Txt K mg A) {te : TE} {σ : L2.St} {H : Hp} {a dx : Addr} {v0 v1 : V} (h : Ev te σ H (.ref a)) (ho : H a = some (.ins A.c_Desk dx (fDesk v0 v1))) : Ev (tFld K te "book") σ H v1 := ev_fld h ho T.cl_Desk T.no_Desk_book lk_Desk_book
theorem el_born (T : Txt K mg A) {te : TE} {σ : L2.St} {H : Hp} {a ll gl : Addr} {l : ML} (h : Ev te σ H (.ref a)) (L : LotAt A H ll gl a l) : Ev (tFld K te "born") σ H (vi l.born) := let ⟨_, _, ho, _⟩ := L; ev_Lot_born T h ho
theorem el_made (T : Txt K mg A) {te : TE} {σ : L2.St} {H : Hp} {a ll gl : Addr} {l : ML} (h : Ev te σ H (.ref a)) (L : LotAt A H ll gl a l) : Ev (tFld K te "made") σ H (vi l.made) := let ⟨_, _, ho, _⟩ := L; ev_Lot_made T h ho
theorem el_generation (T : Txt K mg A) {te : TE} {σ : L2.St} {H : Hp} {a ll gl : Addr} {l : ML} (h : Ev te σ H (.ref a)) (L : LotAt A H ll gl a l) : Ev (tFld K te "generation") σ H (vi l.gen) := let ⟨_, _, ho, _⟩ := L; ev_Lot_generation T h ho
theorem el_grade (T : Txt K mg A) {te : TE} {σ : L2.St} {H : Hp} {a ll gl : Addr} {l : ML} (h : Ev te σ H (.ref a)) (L : LotAt A H ll gl a l) : Ev (tFld K te "grade") σ H (vi l.cls) := let ⟨_, _, ho, _⟩ := L; ev_Lot_grade T h ho
theorem el_day (T : Txt K mg A) {te : TE} {σ : L2.St} {H : Hp} {a ll gl : Addr} {l : ML} (h : Ev te σ H (.ref a)) (L : LotAt A H ll gl a l) : Ev (tFld K te "day") σ H (vi l.day) := let ⟨_, _, ho, _⟩ := L; ev_Lot_day T h ho
theorem el_planted (T : Txt K mg A) {te : TE} {σ : L2.St} {H : Hp} {a ll gl : Addr} {l : ML} (h : Ev te σ H (.ref a)) (L : LotAt A H ll gl a l) : Ev (tFld K te "planted") σ H (vi l.planted) := let ⟨_, _, ho, _⟩ := L; ev_Lot_planted T h ho
theorem el_lost (T : Txt K mg A) {te : TE} {σ : L2.St} {H : Hp} {a ll gl : Addr} {l : ML} (h : Ev te σ H (.ref a)) (L : LotAt A H ll gl a l) : Ev (tFld K te "lost") σ H (vi l.lost) := let ⟨_, _, ho, _⟩ := L; ev_Lot_lost T h ho
theorem el_gone (T : Txt K mg A) {te : TE} {σ : L2.St} {H : Hp} {a ll gl : Addr} {l : ML} (h : Ev te σ H (.ref a)) (L : LotAt A H ll gl a l) : Ev (tFld K te "gone") σ H (vi l.gone) := let ⟨_, _, ho, _⟩ := L; ev_Lot_gone T h ho
theorem eb_lots (T : Txt K mg A) {te : TE} {σ : L2.St} {H : Hp} {b ll gl : Addr} {las gas : List Addr} {B : MB} (h : Ev te σ H (.ref b)) (L : BookIs A H b ll gl las gas B) : Ev (tFld K te "lots") σ H (.ref ll) := let ⟨_, ho⟩ := L.obj; ev_Book_lots T h ho
theorem eb_legs (T : Txt K mg A) {te : TE} {σ : L2.St} {H : Hp} {b ll gl : Addr} {las gas : List Addr} {B : MB} (h : Ev te σ H (.ref b)) (L : BookIs A H b ll gl las gas B) : Ev (tFld K te "legs") σ H (.ref gl) := let ⟨_, ho⟩ := L.obj; ev_Book_legs T h ho
/-- book.lots[n] -/
theorem eb_lotAt {te ti : TE} {σ : L2.St} {H : Hp} {b ll gl a : Addr} {las gas : List Addr} {B : MB} {n : Nat} (h : Ev te σ H (.ref ll)) (L : BookIs A H b ll gl las gas B) (hi : Ev ti σ H (vi n)) (ha : las[n]? = some a) : Ev (tOp (rIxL K) te ti) σ H (.ref a) :=
  ev_ixL h (sq_of L.hl) hi (atI_nat (by rw [List.getElem?_map, ha]; rfl))
theorem ev_lenL {te : TE} {σ : L2.St} {H : Hp} {p : Addr} {xs : List V} (ha : Ev te σ H (.ref p)) (h : SqL K H p xs) : Ev (tCB (rLenS K) (tCons te tNil)) σ H (.int (xs.length : Int)) := ev_len ha h
/-! ### Lot -/
def spLot_init (A : Ad) : Sp := fun vs H Q _ => ∃ (p dx : Addr) (v1 v2 v3 v4 v5 v6 : V), vs = [.ref p, v1, v2, v3, v4, v5, v6] ∧ H p = some (.ins A.c_Lot dx []) ∧
  ∀ H' : Hp, H' p = some (.ins A.c_Lot dx (fLot v1 v2 v3 v4 v5 v6 (.int 0) (.int 0) (.int 0))) → (∀ b o, H b = some o → b ≠ p → H' b = some o) → Q .non H'
theorem ok_Lot_init (T : Txt K mg A) : FnOk P w K mg base CX0 1 A.f_Lot_init A.d_Lot_init ["self", "born", "made", "generation", "sort", "day", "mothers"] (spLot_init A) := by
  refine T.fn_Lot_init.ok sc_Lot_init (fun vs H Q E h => ?_) (fun cdv Ar outer s H vs Q E hr h => ⟨_, (pss_cons (ps_fld (pv 0) (pv 1) rfl)
    (pss_cons (ps_fld (pv 0) (pv 2) rfl)
    (pss_cons (ps_fld (pv 0) (pv 3) rfl)
    (pss_cons (ps_fld (pv 0) (pv 4) rfl)
    (pss_cons (ps_fld (pv 0) (pv 5) rfl)
    (pss_cons (ps_fld (pv 0) (pv 6) rfl)
    (pss_cons (ps_fld (pv 0) pe_int rfl)
    (pss_cons (ps_fld (pv 0) pe_int rfl)
    (pss_one (ps_fld (pv 0) pe_int rfl)))))))))), ?_⟩)
  · obtain ⟨_, _, _, _, _, _, _, _, rfl, _⟩ := h
    rfl
  · obtain ⟨p, dx, v1, v2, v3, v4, v5, v6, rfl, hp, k⟩ := h
    refine ⟨_, rfl, _, rfl, p, _, dx, _, rfl, hp, T.cl_Lot, T.no_Lot_born, (by decide), ?_⟩
    refine ⟨_, rfl, _, rfl, p, _, dx, _, rfl, upd_same, T.cl_Lot, T.no_Lot_made, (by show 1 < 1000; decide), ?_⟩
    refine ⟨_, rfl, _, rfl, p, _, dx, _, rfl, upd_same, T.cl_Lot, T.no_Lot_generation, (by show 2 < 1000; decide), ?_⟩
    refine ⟨_, rfl, _, rfl, p, _, dx, _, rfl, upd_same, T.cl_Lot, T.no_Lot_grade, (by show 3 < 1000; decide), ?_⟩
    refine ⟨_, rfl, _, rfl, p, _, dx, _, rfl, upd_same, T.cl_Lot, T.no_Lot_day, (by show 4 < 1000; decide), ?_⟩
    refine ⟨_, rfl, _, rfl, p, _, dx, _, rfl, upd_same, T.cl_Lot, T.no_Lot_mothers, (by show 5 < 1000; decide), ?_⟩
    refine ⟨_, rfl, p, _, dx, _, rfl, upd_same, T.cl_Lot, T.no_Lot_planted, (by show 6 < 1000; decide), ?_⟩
    refine ⟨_, rfl, p, _, dx, _, rfl, upd_same, T.cl_Lot, T.no_Lot_lost, (by show 7 < 1000; decide), ?_⟩
    refine ⟨_, rfl, p, _, dx, _, rfl, upd_same, T.cl_Lot, T.no_Lot_gone, (by show 8 < 1000; decide), ?_⟩
    refine k _ (Eq.trans upd_same (congrArg (fun q => some (HO.ins A.c_Lot dx q)) new_Lot)) fun b o e hb => ?_
    simp only [upd_ne hb]
    exact e
def spLot_left (A : Ad) : Sp := fun vs H Q _ => ∃ (a ll gl : Addr) (l : ML), vs = [.ref a] ∧ LotAt A H ll gl a l ∧ ∀ H', Ex H H' → Q (.int l.left) H'
theorem sv_left {H : Hp} {a ll gl : Addr} {l : ML} (L : LotAt A H ll gl a l) : SpV (spLot_left A) [.ref a] H (.int l.left) := fun H1 e Q q E => ⟨a, ll, gl, l, rfl, L.mono e, fun H' e' => q H' e'⟩
theorem ok_Lot_left (T : Txt K mg A) : FnOk P w K mg base CX0 1 A.f_Lot_left A.d_Lot_left ["self"] (spLot_left A) := by
  refine T.fn_Lot_left.ok sc_Lot_left (fun vs H Q E h => ?_) (fun cdv Ar outer s H vs Q E hr h => ⟨_, (pss_one (ps_ret (pe_op op_sub (pe_op op_sub (pe_op op_sub (pe_fld (pv 0) rfl) (pe_fld (pv 0) rfl)) (pe_fld (pv 0) rfl)) (pe_fld (pv 0) rfl)))), ?_⟩)
  · obtain ⟨_, _, _, _, rfl, _⟩ := h
    rfl
  · obtain ⟨a, ll, gl, l, rfl, L, k⟩ := h
    exact s_ret (ev_op (ev_op (ev_op (el_made T (ev_var rfl) L) (el_planted T (ev_var rfl) L) rv_I0) (el_lost T (ev_var rfl) L) rv_I0) (el_gone T (ev_var rfl) L) rv_I0) fun H1 e => k H1 e
def spLot_is_founder (A : Ad) : Sp := fun vs H Q _ => ∃ (a ll gl : Addr) (l : ML), vs = [.ref a] ∧ LotAt A H ll gl a l ∧ ∀ H', Ex H H' → Q (.bl l.founder) H'
theorem sv_founder {H : Hp} {a ll gl : Addr} {l : ML} (L : LotAt A H ll gl a l) : SpV (spLot_is_founder A) [.ref a] H (.bl l.founder) := fun H1 e Q q E => ⟨a, ll, gl, l, rfl, L.mono e, fun H' e' => q H' e'⟩
theorem ok_Lot_is_founder (T : Txt K mg A) : FnOk P w K mg base CX0 1 A.f_Lot_is_founder A.d_Lot_is_founder ["self"] (spLot_is_founder A) := by
  refine T.fn_Lot_is_founder.ok sc_Lot_is_founder (fun vs H Q E h => ?_) (fun cdv Ar outer s H vs Q E hr h => ⟨_, (pss_one (ps_ret (pe_cmpR op_in_seq (pe_fld (pv 0) rfl) (pe_tup (pa_cons (pe_glob (v := .int (0)) rfl T.g_FOUNDED.choose_spec ⟨_, rfl⟩) (pa_cons (pe_glob (v := .int (1)) rfl T.g_LIFTED.choose_spec ⟨_, rfl⟩) pa_nil))) (by rfl)))), ?_⟩)
  · obtain ⟨_, _, _, _, rfl, _⟩ := h
    rfl
  · obtain ⟨a, ll, gl, l, rfl, L, k⟩ := h
    refine s_ret (v := .bl l.founder) (ev_is (ev_inU (el_born T (ev_var rfl) L) (eu_tup (ea_cons ev_c (ea_cons ev_c ea_nil)) (by show 2 ≤ 100000; decide)) rfl rfl) ?_) fun H1 e => k H1 e
    show V.bl ((0 : Int) == (l.born : Int) || ((1 : Int) == (l.born : Int) || false)) = _
    unfold ML.founder
    rw [Bool.or_false]
    congr 1
    by_cases h0 : l.born = 0
    · simp [h0]
    · by_cases h1 : l.born = 1
      · simp [h1]
      · have e0 : ((0 : Int) == (l.born : Int)) = false := by rw [beq_eq_false_iff_ne]; omega
        have e1 : ((1 : Int) == (l.born : Int)) = false := by rw [beq_eq_false_iff_ne]; omega
        rw [e0, e1]; simp [h0, h1]
end
end LW
end
section
set_option Elab.async false
set_option linter.all false
set_option maxRecDepth 100000
set_option maxHeartbeats 4000000

namespace LW
open PySem PySem.Spec PyProof.Rows L2 Evl LF TbLtBook
/-! ### rows of pairs -/
def RowsAt (H : Hp) (r : Addr) (ps : List (Nat × Nat)) : Prop := ∃ as : List Addr, H r = some (.lst (as.map V.ref)) ∧ as.length = ps.length ∧ ∀ (i : Nat) (a : Addr) (p : Nat × Nat), as[i]? = some a → ps[i]? = some p → H a = some (.tup [vi p.1, vi p.2])
theorem RowsAt.mono {H H' : Hp} {r : Addr} {ps : List (Nat × Nat)} (h : RowsAt H r ps) (e : Ex H H') : RowsAt H' r ps := let ⟨as, h1, h2, h3⟩ := h; ⟨as, e _ _ h1, h2, fun i a p h4 h5 => e _ _ (h3 i a p h4 h5)⟩
theorem range_getD {α β : Type} (l : List α) (d : α) (g : α → β) : (List.range l.length).map (fun k => g (l.getD k d)) = l.map g := by
  refine List.ext_getElem? fun j => ?_
  rw [List.getElem?_map, List.getElem?_map]
  by_cases h : j < l.length
  · rw [List.getElem?_range h, List.getElem?_eq_getElem h]
    simp [List.getD_eq_getElem?_getD, List.getElem?_eq_getElem h]
  · rw [List.getElem?_eq_none (by simpa using h), List.getElem?_eq_none (by omega)]
    rfl
theorem getD_of {α : Type} {l : List α} {k : Nat} {d a : α} (h : l[k]? = some a) : l.getD k d = a := by rw [List.getD_eq_getElem?_getD, h]; rfl
theorem et_yes {σ : L2.St} {H : Hp} : EvT tYes σ H true := fun H1 _ _ q => q H1 (Ex.refl H1)
section
variable {P : Program} {w : World} {K : PySem.W.Frag} {mg : Str → Option Value} {base : Heap} {A : Ad}
/-- [e for i, j in rows ..] -/
theorem lc_rows {tl te : TE} {t : TT} {σ : L2.St} {H : Hp} {r : Addr} {ps : List (Nat × Nat)} {i j : Nat} {vs : List Nat} (v : Nat → V) (f : Nat → Bool) (h : Ev tl σ H (.ref r)) (hr : RowsAt H r ps) (hn : ps.length ≤ 50000)
    (hturn : ∀ (k : Nat) (p : Nat × Nat) (H1 : Hp), ps[k]? = some p → Ex H H1 → wipe (((wipe σ vs).set i (some (vi p.1))).set j (some (vi p.2))) vs = wipe σ vs ∧ EvT t (((wipe σ vs).set i (some (vi p.1))).set j (some (vi p.2))) H1 (f k) ∧
      (f k = true → Ev te (((wipe σ vs).set i (some (vi p.1))).set j (some (vi p.2))) H1 (v k) ∧ ∀ D xs, H1 D = some (.lst xs) → v k ≠ .ref D)) :
    EvR (tLc (iList K tl) (gTup K 2 (gCons (gName i) (gCons (gName j) gNil))) t te vs) σ H (fun y H2 => ∃ p, y = .ref p ∧ H p = none ∧ H2 p = some (.lst ((idx ps.length f).map v))) := by
  obtain ⟨as, h1, h2, h3⟩ := hr
  have e := el_lc (te := te) (t := t) (g := gTup K 2 (gCons (gName i) (gCons (gName j) gNil))) (vs := vs) (σ := σ) (H := H) (n := (as.map V.ref).length) v f
    (fun k => ((wipe σ vs).set i (some (vi (ps.getD k (0, 0)).1))).set j (some (vi (ps.getD k (0, 0)).2))) (monoL (K := K) (a := r) (xs := as.map V.ref)) (by rw [List.length_map, h2]; exact hn) (wl_list h (sq_of h1)) (fun k x H1 H2 hk e1 g1 y => by
      obtain ⟨y1, y2⟩ := y
      rw [List.getElem?_map] at y2
      cases ea : as[k]? with
      | none => rw [ea] at y2; cases y2
      | some a =>
        rw [ea] at y2
        have ex : V.ref a = x := Option.some.inj y2
        have hp : ∃ p, ps[k]? = some p := ⟨ps[k]'(by rw [List.length_map] at hk; omega), List.getElem?_eq_getElem _⟩
        obtain ⟨p, hp⟩ := hp
        rw [getD_of hp, ← ex, y1]
        obtain ⟨q1, q2, q3⟩ := hturn k p H1 hp e1
        exact ⟨Ex.refl _, eg_tup2 (st_of (e1 _ _ (h3 k a p ea hp))), q1, q2, q3⟩)
  rw [List.length_map, h2] at e
  exact e
/-- [e for x in a list ..] -/
theorem lc_items {tl te : TE} {t : TT} {σ : L2.St} {H : Hp} {r : Addr} {xs : List V} {i : Nat} {vs : List Nat} (v : Nat → V) (f : Nat → Bool) (h : Ev tl σ H (.ref r)) (hr : SqL K H r xs) (hn : xs.length ≤ 50000)
    (hturn : ∀ (k : Nat) (x : V) (H1 : Hp), xs[k]? = some x → Ex H H1 → wipe ((wipe σ vs).set i (some x)) vs = wipe σ vs ∧ EvT t ((wipe σ vs).set i (some x)) H1 (f k) ∧
      (f k = true → Ev te ((wipe σ vs).set i (some x)) H1 (v k) ∧ ∀ D ys, H1 D = some (.lst ys) → v k ≠ .ref D)) :
    EvR (tLc (iList K tl) (gName i) t te vs) σ H (fun y H2 => ∃ p, y = .ref p ∧ H p = none ∧ H2 p = some (.lst ((idx xs.length f).map v))) :=
  el_lc v f (fun k => (wipe σ vs).set i (some (xs.getD k .non))) (monoL (K := K) (a := r) (xs := xs)) hn (wl_list h hr) (fun k x H1 H2 hk e1 g1 y => by
    obtain ⟨y1, y2⟩ := y
    rw [getD_of y2, y1]
    obtain ⟨q1, q2, q3⟩ := hturn k x H1 y2 e1
    exact ⟨Ex.refl _, eg_name, q1, q2, q3⟩)
/-- max of a list just made -/
theorem ev_maxN {te : TE} {σ : L2.St} {H : Hp} {ns : List Int} {m : Int} (h : EvR te σ H (fun y H2 => ∃ p, y = .ref p ∧ H p = none ∧ H2 p = some (.lst (ns.map V.int)))) (hm : m ∈ ns) (hle : ∀ y ∈ ns, y ≤ m) : Ev (tCB (rMax K) (tCons te tNil)) σ H (.int m) := fun H1 e Q q =>
  h H1 e _ fun y H2 e2 ⟨p, ey, _, hp⟩ => ⟨p, ns, by rw [ey], sq_of hp, List.length_pos_iff.mpr (fun z => by rw [z] at hm; cases hm), fun m' hm' hle' => by
    have : m' = m := by have := hle m' hm'; have := hle' m hm; omega
    rw [this]; exact q H2 e2⟩
theorem ev_sumN {te : TE} {σ : L2.St} {H : Hp} {ns : List Int} (h : EvR te σ H (fun y H2 => ∃ p, y = .ref p ∧ H p = none ∧ H2 p = some (.lst (ns.map V.int)))) : Ev (tCB (rSum K) (tCons te tNil)) σ H (.int ns.sum) := fun H1 e Q q =>
  h H1 e _ fun y H2 e2 ⟨p, ey, _, hp⟩ => ⟨p, ns, by rw [ey], sq_of hp, q H2 e2⟩
/-! ### Entry, Book -/
def spEntry_init (A : Ad) : Sp := fun vs H Q _ => ∃ (p dx : Addr) (v1 v2 v3 v4 v5 : V), vs = [.ref p, v1, v2, v3, v4, v5] ∧ H p = some (.ins A.c_Entry dx []) ∧
  ∀ H' : Hp, H' p = some (.ins A.c_Entry dx (fEntry v1 v2 v3 v4 v5)) → (∀ b o, H b = some o → b ≠ p → H' b = some o) → Q .non H'
theorem ok_Entry_init (T : Txt K mg A) : FnOk P w K mg base CX0 1 A.f_Entry_init A.d_Entry_init ["self", "word", "day", "weight", "sort", "rows"] (spEntry_init A) := by
  refine T.fn_Entry_init.ok sc_Entry_init (fun vs H Q E h => ?_) (fun cdv Ar outer s H vs Q E hr h => ⟨_, (pss_cons (ps_fld (pv 0) (pv 1) rfl)
    (pss_cons (ps_fld (pv 0) (pv 2) rfl)
    (pss_cons (ps_fld (pv 0) (pv 3) rfl)
    (pss_cons (ps_fld (pv 0) (pv 4) rfl)
    (pss_one (ps_fld (pv 0) (pv 5) rfl)))))), ?_⟩)
  · obtain ⟨_, _, _, _, _, _, _, rfl, _⟩ := h
    rfl
  · obtain ⟨p, dx, v1, v2, v3, v4, v5, rfl, hp, k⟩ := h
    refine ⟨_, rfl, _, rfl, p, _, dx, _, rfl, hp, T.cl_Entry, T.no_Entry_word, (by decide), ?_⟩
    refine ⟨_, rfl, _, rfl, p, _, dx, _, rfl, upd_same, T.cl_Entry, T.no_Entry_day, (by show 1 < 1000; decide), ?_⟩
    refine ⟨_, rfl, _, rfl, p, _, dx, _, rfl, upd_same, T.cl_Entry, T.no_Entry_weight, (by show 2 < 1000; decide), ?_⟩
    refine ⟨_, rfl, _, rfl, p, _, dx, _, rfl, upd_same, T.cl_Entry, T.no_Entry_grade, (by show 3 < 1000; decide), ?_⟩
    refine ⟨_, rfl, _, rfl, p, _, dx, _, rfl, upd_same, T.cl_Entry, T.no_Entry_rows, (by show 4 < 1000; decide), ?_⟩
    refine k _ (Eq.trans upd_same (congrArg (fun q => some (HO.ins A.c_Entry dx q)) new_Entry)) fun b o e hb => ?_
    simp only [upd_ne hb]
    exact e
/-- an empty book: new lists -/
def spBook_init (A : Ad) : Sp := fun vs H Q _ => ∃ (p dx : Addr), vs = [.ref p] ∧ H p = some (.ins A.c_Book dx []) ∧
  ∀ (H' : Hp) (ll gl : Addr), H ll = none → H gl = none → ll ≠ gl → H' p = some (.ins A.c_Book dx (fBook (.ref ll) (.ref gl))) → H' ll = some (.lst []) → H' gl = some (.lst []) → (∀ b o, H b = some o → b ≠ p → H' b = some o) → Q .non H'
theorem ok_Book_init (T : Txt K mg A) : FnOk P w K mg base CX0 1 A.f_Book_init A.d_Book_init ["self"] (spBook_init A) := by
  refine T.fn_Book_init.ok sc_Book_init (fun vs H Q E h => ?_) (fun cdv Ar outer s H vs Q E hr h => ⟨_, (pss_cons (ps_fld (pv 0) (pe_lst pa_nil) rfl)
    (pss_one (ps_fld (pv 0) (pe_lst pa_nil) rfl))), ?_⟩)
  · obtain ⟨_, _, rfl, _⟩ := h
    rfl
  · obtain ⟨p, dx, rfl, hp, k⟩ := h
    refine ⟨Nat.zero_le _, fun ll hll => ⟨_, rfl, p, _, dx, _, rfl, (by rw [upd_ne (ne_of_none hp hll)]; exact hp), T.cl_Book, T.no_Book_lots, (by decide), ?_⟩⟩
    refine ⟨Nat.zero_le _, fun gl hgl => ⟨_, rfl, p, _, dx, _, rfl, (by rw [upd_ne (ne_of_none upd_same hgl)]; exact upd_same), T.cl_Book, T.no_Book_legs, (by show 1 < 1000; decide), ?_⟩⟩
    have n1 : ll ≠ p := fun z => by rw [z, hp] at hll; cases hll
    have n2 : gl ≠ p := fun z => by rw [z, upd_same] at hgl; cases hgl
    have n3 : gl ≠ ll := fun z => by rw [z, upd_ne n1, upd_same] at hgl; cases hgl
    have hgl' : H gl = none := by rw [upd_ne n2, upd_ne n3] at hgl; exact hgl
    refine k _ ll gl hll hgl' (Ne.symm n3) (Eq.trans upd_same (congrArg (fun q => some (HO.ins A.c_Book dx q)) new_Book)) ?_ ?_ fun b o e hb => ?_
    · rw [upd_ne n1, upd_ne (Ne.symm n3), upd_ne n1, upd_same]
    · rw [upd_ne n2, upd_same]
    · have b1 : b ≠ ll := ne_of_none e hll
      have b2 : b ≠ gl := ne_of_none e hgl'
      rw [upd_ne hb, upd_ne b2, upd_ne hb, upd_ne b1]
      exact e
/-- greatest: a new pair of both -/
def spGreatest (A : Ad) : Sp := fun vs H Q _ => ∃ (b ll gl r : Addr) (las gas : List Addr) (B : MB) (ps : List (Nat × Nat)), vs = [.ref b, .ref r] ∧ BookIs A H b ll gl las gas B ∧ RowsAt H r ps ∧ ps ≠ [] ∧ ps.length ≤ 1000 ∧ (∀ p ∈ ps, p.1 < B.lots.length) ∧
  ∀ t H', H t = none → Ex H H' → H' t = some (.tup [vi (B.genMax ps), vi (B.clsMax ps)]) → Q (.ref t) H'
theorem greatest_mem : ∀ (l : List Nat) (a : Nat), (l.foldl (fun a b => max a b) a = a ∨ l.foldl (fun a b => max a b) a ∈ l) ∧ a ≤ l.foldl (fun a b => max a b) a ∧ ∀ y ∈ l, y ≤ l.foldl (fun a b => max a b) a
  | [], a => ⟨.inl rfl, Nat.le_refl _, fun y h => by cases h⟩
  | x :: r, a => by
    obtain ⟨h1, h2, h3⟩ := greatest_mem r (max a x)
    rw [List.foldl_cons]
    refine ⟨?_, by omega, fun y hy => ?_⟩
    · rcases h1 with h1 | h1
      · rw [h1]
        by_cases c : a ≤ x
        · right; rw [Nat.max_eq_right c]; exact List.mem_cons_self
        · left; omega
      · right; exact List.mem_cons_of_mem _ h1
    · rcases List.mem_cons.mp hy with e | e
      · subst e; omega
      · exact h3 y e
theorem greatest_is {l : List Nat} (h : l ≠ []) : greatest l ∈ l ∧ ∀ y ∈ l, y ≤ greatest l := by
  unfold greatest
  obtain ⟨h1, h2, h3⟩ := greatest_mem l 0
  refine ⟨?_, h3⟩
  rcases h1 with h1 | h1
  · cases l with
    | nil => exact absurd rfl h
    | cons x r =>
      have := h3 x List.mem_cons_self
      have e : x = 0 := by omega
      rw [h1, ← e]; exact List.mem_cons_self
  · exact h1
theorem ok_Book_greatest (T : Txt K mg A) : FnOk P w K mg base CX0 1 A.f_Book_greatest A.d_Book_greatest ["self", "rows"] (spGreatest A) := by
  refine T.fn_Book_greatest.ok sc_Book_greatest (fun vs H Q E h => ?_) (fun cdv Ar outer s H vs Q E hr h => ⟨_, (pss_cons (ps_setLc (i := 2) (g := (gTup K 2 (gCons (gName 3) (gCons (gName 4) gNil)))) (tt := tYes) (te := (tOp (rIxL K) (tFld K (tVar 0) "lots") (tVar 3))) (own := [("lot", 3), ("weight", 4)]) rfl sc_Book_greatest.nd rfl rfl (sw_true rfl rfl rfl (by decide +kernel)) (pi_list (pv 1)) (blkOk_by (own := [("lot", 3), ("weight", 4)]) (N := N_Book_greatest) (sc := defScope s_Book_greatest) (by decide +kernel)) (fun _ _ _ _ _ => by exact (pg_tup rfl (pgs_cons (pg_name (i := 3) sc_Book_greatest.nd rfl (Or.inl rfl)) (pgs_cons (pg_name (i := 4) sc_Book_greatest.nd rfl (Or.inl rfl)) pgs_nil)))) (fun _ _ _ _ _ => by exact pts_nil) (fun _ _ _ _ _ => by exact (pe_ix ix_list (pe_fld (pv 0) rfl) (pv 3) (fun _ _ => rfl))))
    (pss_one (ps_ret (pe_tup (pa_cons (pe_callB (cr_max rfl) (by rfl) T.b_max (by decide +kernel) (pa_cons (pe_lc (g := (gName 3)) (tt := tYes) (te := (tFld K (tVar 3) "generation")) (own := [("lot", 3)]) rfl sc_Book_greatest.nd (pi_list (pv 2)) (blkOk_by (own := [("lot", 3)]) (N := N_Book_greatest) (sc := defScope s_Book_greatest) (by decide +kernel)) (fun _ _ _ _ _ => by exact (pg_name (i := 3) sc_Book_greatest.nd rfl (Or.inl rfl))) (fun _ _ _ _ _ => by exact pts_nil) (fun _ _ _ _ _ => by exact (pe_fld (pv 3) rfl))) pa_nil)) (pa_cons (pe_callB (cr_max rfl) (by rfl) T.b_max (by decide +kernel) (pa_cons (pe_lc (g := (gName 3)) (tt := tYes) (te := (tFld K (tVar 3) "grade")) (own := [("lot", 3)]) rfl sc_Book_greatest.nd (pi_list (pv 2)) (blkOk_by (own := [("lot", 3)]) (N := N_Book_greatest) (sc := defScope s_Book_greatest) (by decide +kernel)) (fun _ _ _ _ _ => by exact (pg_name (i := 3) sc_Book_greatest.nd rfl (Or.inl rfl))) (fun _ _ _ _ _ => by exact pts_nil) (fun _ _ _ _ _ => by exact (pe_fld (pv 3) rfl))) pa_nil)) pa_nil)))))), ?_⟩)
  · obtain ⟨_, _, _, _, _, _, _, _, rfl, _⟩ := h
    rfl
  · obtain ⟨b, ll, gl, r, las, gas, B, ps, rfl, LB, hr', hne, hlen, hps, k⟩ := h
    refine q_asgR (lc_rows (fun k => .ref (las.getD (ps.getD k (0, 0)).1 0)) (fun _ => true) (ev_var rfl) hr' (by omega) fun k p H1 hp e1 => ⟨rfl, et_yes, fun _ => ?_⟩) fun y H1 e1 ⟨q, ey, hq, hq1⟩ => ?_
    · have hlt := hps p (List.mem_of_getElem? hp)
      obtain ⟨a, ha, L⟩ := (LB.mono e1).lotN hlt
      rw [getD_of hp, getD_of ha]
      refine ⟨eb_lotAt (eb_lots T (ev_var rfl) (LB.mono e1)) (LB.mono e1) (ev_var rfl) ha, fun D xs hD z => ?_⟩
      obtain ⟨dx, m, h1, _⟩ := L
      cases z
      rw [hD] at h1; cases h1
    · subst ey
      rw [idx_all] at hq1
      have items : ∀ (g : ML → Nat) (fld : Str) (te : TE), (∀ (σ : L2.St) (H2 : Hp) (a : Addr) (l : ML), Ex H1 H2 → LotAt A H2 ll gl a l → σ[3]? = some (some (.ref a)) → Ev te σ H2 (vi (g l))) →
          EvR (tLc (iList K (tVar 2)) (gName 3) tYes te [3]) [some (.ref b), some (.ref r), some (.ref q), none, none] H1 (fun y H2 => ∃ p, y = .ref p ∧ H1 p = none ∧ H2 p = some (.lst ((ps.map fun p => ((g (B.lot p.1) : Nat) : Int)).map V.int))) := fun g fld te hte => by
        refine er_imp (lc_items (K := K) (fun k => vi (g (B.lot (ps.getD k (0, 0)).1))) (fun _ => true) (ev_var rfl) (sq_of hq1) (by rw [List.length_map, List.length_range]; omega) fun k x H2 hx e2 => ⟨rfl, et_yes, fun _ => ⟨?_, fun D xs hD z => by cases z⟩⟩) fun y H2 e2 ⟨p, h1, h2, h3⟩ => ⟨p, h1, h2, ?_⟩
        · rw [List.getElem?_map] at hx
          have hk : k < ps.length := by
            cases ek : (List.range ps.length)[k]? with
            | none => rw [ek] at hx; cases hx
            | some j => simpa using (List.getElem?_eq_some_iff.mp ek).1
          rw [List.getElem?_range hk] at hx
          have hx : V.ref (las.getD (ps.getD k (0, 0)).1 0) = x := Option.some.inj hx
          have hp : ps[k]? = some ps[k] := List.getElem?_eq_getElem hk
          have hlt := hps _ (List.mem_of_getElem? hp)
          obtain ⟨a, ha, L⟩ := ((LB.mono e1).mono e2).lotN hlt
          rw [getD_of hp] at hx ⊢
          rw [getD_of ha] at hx
          subst hx
          exact hte _ H2 a _ e2 L rfl
        · rw [h3, idx_all, List.length_map, List.length_range, range_getD ps (0, 0) (fun p => vi (g (B.lot p.1))), List.map_map]
          rfl
      have gm := greatest_is (l := ps.map fun x => (B.lot x.1).gen) (by simpa using hne)
      have cm := greatest_is (l := ps.map fun x => (B.lot x.1).cls) (by simpa using hne)
      have mem : ∀ (g : ML → Nat) (m : Nat), m ∈ ps.map (fun x => g (B.lot x.1)) → (∀ y ∈ ps.map (fun x => g (B.lot x.1)), y ≤ m) → ((m : Nat) : Int) ∈ ps.map (fun p => ((g (B.lot p.1) : Nat) : Int)) ∧ ∀ y ∈ ps.map (fun p => ((g (B.lot p.1) : Nat) : Int)), y ≤ (m : Int) := fun g m h1 h2 => by
        obtain ⟨p, hp, e⟩ := List.mem_map.mp h1
        refine ⟨List.mem_map.mpr ⟨p, hp, by rw [← e]⟩, fun y hy => ?_⟩
        obtain ⟨p', hp', e'⟩ := List.mem_map.mp hy
        have := h2 _ (List.mem_map.mpr ⟨p', hp', rfl⟩)
        omega
      have m1 := mem (fun l => l.gen) _ gm.1 gm.2
      have m2 := mem (fun l => l.cls) _ cm.1 cm.2
      refine s_retR (er_tup (ea_cons (ev_maxN (items (fun l => l.gen) "generation" _ fun σ H2 a l e2 L hs => el_generation T (ev_var hs) L) m1.1 m1.2) (ea_cons (ev_maxN (items (fun l => l.cls) "grade" _ fun σ H2 a l e2 L hs => el_grade T (ev_var hs) L) m2.1 m2.2) ea_nil)) (by show 2 ≤ 100000; decide)) fun y H2 e2 ⟨t, ey, ht, ht2⟩ => ?_
      subst ey
      exact k t H2 (fresh_back e1 ht) (e1.trans e2) ht2
end
end LW
end
section
set_option Elab.async false
set_option linter.all false
set_option maxRecDepth 100000
set_option maxHeartbeats 4000000

namespace LW
open PySem PySem.Spec PyProof.Rows L2 Evl LF TbLtBook
section
variable {K : PySem.W.Frag} {σ : L2.St} {H H' : Hp} {ta tb te : TE} {t : TT} {x y z v : V} {a C dx : Addr} {fs : List (Str × V)} {f m : Str}
/-- arguments, told by what is known of them -/
def EvAR (ta : TA) (σ : L2.St) (H : Hp) (R : List V → Hp → Prop) : Prop := ∀ H1, Ex H H1 → ∀ Q : List V → Hp → Prop, (∀ vs H2, Ex H1 H2 → R vs H2 → Q vs H2) → ta σ H1 Q
theorem ear_of {ta : TA} {vs : List V} (h : EvA ta σ H vs) : EvAR ta σ H (fun ws _ => ws = vs) := fun H1 e Q q => h H1 e Q fun H2 e2 => q vs H2 e2 rfl
theorem ear_cons {tr : TA} {R : List V → Hp → Prop} (h : Ev te σ H x) (hr : EvAR tr σ H R) : EvAR (tCons te tr) σ H (fun vs H2 => ∃ r, vs = x :: r ∧ R r H2) := fun H1 e Q q =>
  h H1 e _ fun H2 e2 => hr H2 (e.trans e2) _ fun r H3 e3 hR => q _ H3 (e2.trans e3) ⟨r, rfl, hR⟩
theorem ear_new {R : V → Hp → Prop} (h : EvR te σ H R) : EvAR (tCons te tNil) σ H (fun vs H2 => ∃ y, vs = [y] ∧ R y H2) := fun H1 e Q q =>
  h H1 e _ fun y H2 e2 hR => q _ H2 e2 ⟨y, rfl, hR⟩
theorem s_appR {D : Ends} {R : V → Hp → Prop} {l : Addr} {xs : List V} (hl : H l = some (.lst xs)) (ha : Ev ta σ H (.ref l)) (h : EvR te σ H R) (hz : xs.length < 100000) (k : ∀ y H1, Ex H H1 → R y H1 → D.nx σ (upd H1 l (.lst (xs ++ [y])))) :
    tDrop (tBM K "list" rAppend ta (tCons te tNil)) D σ H := ha H (Ex.refl H) _ fun H1 e1 =>
  ⟨Or.inl ⟨rfl, xs, sq_of (e1 l _ hl)⟩, h H1 e1 _ fun y H2 e2 r => ⟨l, xs, y, rfl, rfl, e2 l _ (e1 l _ hl), sz_lt hz, k y H2 (e1.trans e2) r⟩⟩
theorem q_appR {D : Ends} {tz : TS} {R : V → Hp → Prop} {l : Addr} {xs : List V} (hl : H l = some (.lst xs)) (ha : Ev ta σ H (.ref l)) (h : EvR te σ H R) (hz : xs.length < 100000) (k : ∀ y H1, Ex H H1 → R y H1 → tz D σ (upd H1 l (.lst (xs ++ [y])))) :
    tSeq (tDrop (tBM K "list" rAppend ta (tCons te tNil))) tz D σ H := s_appR (D := { D with nx := tz D }) hl ha h hz k
/-- t[i] of a pair just made -/
theorem ev_ixN {xs : List V} {i : Int} {R : V → Hp → Prop} (h : EvR te σ H R) (hR : ∀ y H2, R y H2 → ∃ p, y = .ref p ∧ SqT K H2 p xs) (hi : ∀ H1, Ex H H1 → Ev tb σ H1 (.int i)) (e : atI xs i = some v) : Ev (tOp (rIxT K) te tb) σ H v := fun H1 e1 Q q =>
  h H1 e1 _ fun y H2 e2 r => by
    obtain ⟨p, ey, hp⟩ := hR y H2 r
    exact hi H2 (e1.trans e2) H2 (Ex.refl _) _ fun H3 e3 => ⟨p, xs, i, v, ey, rfl, ex_t e3 hp, e, q H3 (e2.trans e3)⟩
end
/-- kept but at M -/
def Keep (M : Addr → Prop) (H H' : Hp) : Prop := ∀ x o, H x = some o → ¬ M x → H' x = some o
theorem Keep.of_ex {M : Addr → Prop} {H H' : Hp} (e : Ex H H') : Keep M H H' := fun x o h _ => e x o h
theorem Keep.trans {M : Addr → Prop} {H H1 H2 : Hp} (a : Keep M H H1) (b : Keep M H1 H2) : Keep M H H2 := fun x o h n => b x o (a x o h n) n
theorem Keep.upd {M : Addr → Prop} {H : Hp} {a : Addr} {o : HO} (h : M a) : Keep M H (L2.upd H a o) := fun x u hx n => by
  rw [upd_ne (fun z : x = a => n (by rw [z]; exact h))]; exact hx
theorem Keep.mono {M M' : Addr → Prop} {H H' : Hp} (a : Keep M H H') (h : ∀ x o, H x = some o → M x → M' x) : Keep M' H H' := fun x o hx n => a x o hx fun z => n (h x o hx z)
section
variable {A : Ad} {H H' : Hp} {a b ll gl : Addr} {las gas : List Addr} {B : MB} {l : ML}
theorem lot_book {dx dx' : Addr} {l : ML} {m : Addr} {v w : V} : HO.ins A.c_Lot dx (lotV l m) ≠ HO.ins A.c_Book dx' (fBook v w) := fun z => by
  injection z with _ _ h
  have := congrArg List.length h
  simp [lotV, fLot, fBook] at this
/-- a lot of the book is changed, its mothers' list stays -/
theorem BookIs.modLot (L : BookIs A H b ll gl las gas B) {n : Nat} {dx m : Addr} {f : ML → ML} (ha : las[n]? = some a) (hl : B.lots[n]? = some l) (ho : H a = some (.ins A.c_Lot dx (lotV l m))) (hf : (f l).mothers = l.mothers) :
    BookIs A (upd H a (.ins A.c_Lot dx (lotV (f l) m))) b ll gl las gas ⟨B.lots.modify n f, B.legs⟩ := by
  obtain ⟨dxb, hb⟩ := L.obj
  have na : ∀ x o, H x = some o → (∀ dx' m' l', o ≠ .ins A.c_Lot dx' (lotV l' m')) → x ≠ a := fun x o hx ho' z => by
    rw [z, ho] at hx
    exact ho' _ _ _ (Option.some.inj hx).symm
  refine ⟨⟨dxb, by rw [upd_ne (na b _ hb fun _ _ _ z => lot_book z.symm)]; exact hb⟩, by rw [upd_ne (na ll _ L.hl fun _ _ _ z => by cases z)]; exact L.hl, by rw [upd_ne (na gl _ L.hg fun _ _ _ z => by cases z)]; exact L.hg,
    L.ne, L.nd, by rw [List.length_modify]; exact L.ln, L.gn, fun i a' l' h1 h2 => ?_, fun i a' g h1 h2 => ?_⟩
  · by_cases hi : i = n
    · subst hi
      rw [ha] at h1
      cases h1
      have h2 : (B.lots.modify i f)[i]? = some l' := h2
      rw [List.getElem?_modify, hl] at h2
      have h2 : f l = l' := by simpa using h2
      subst h2
      obtain ⟨dx', m', k1, k2, k3, k4⟩ := L.lot i a l ha hl
      rw [ho] at k1
      have em : m = m' := by
        have z := Option.some.inj k1
        injection z with _ _ z
        unfold lotV fLot at z
        simp at z
        exact z
      subst em
      exact ⟨dx, m, upd_same, by rw [upd_ne (na m _ k2 fun _ _ _ z => by cases z), hf]; exact k2, k3, k4⟩
    · have hne : a' ≠ a := fun z => hi (by
        subst z
        obtain ⟨q1, e1⟩ := List.getElem?_eq_some_iff.mp h1
        obtain ⟨q2, e2⟩ := List.getElem?_eq_some_iff.mp ha
        exact (List.getElem_inj L.nd).mp (e1.trans e2.symm))
      have h2 : (B.lots.modify n f)[i]? = some l' := h2
      have hi' : ¬ n = i := fun z => hi z.symm
      have h2 : B.lots[i]? = some l' := by simpa [List.getElem?_modify, hi'] using h2
      obtain ⟨dx', m', k1, k2, k3, k4⟩ := L.lot i a' l' h1 h2
      exact ⟨dx', m', by rw [upd_ne hne]; exact k1, by rw [upd_ne (na m' _ k2 fun _ _ _ z => by cases z)]; exact k2, k3, k4⟩
  · have k := L.leg i a' g h1 h2
    show upd H a _ a' = _
    rw [upd_ne (na a' _ k fun _ _ _ z => by cases z)]
    exact k
theorem BookIs.addLeg (L : BookIs A H b ll gl las gas B) {t : Addr} {g : Leg} (ht : LegAt H t g) : BookIs A (upd H gl (.lst ((gas ++ [t]).map V.ref))) b ll gl las (gas ++ [t]) ⟨B.lots, B.legs ++ [g]⟩ := by
  obtain ⟨dxb, hb⟩ := L.obj
  have na : ∀ x o, H x = some o → (∀ xs, o ≠ .lst xs) → x ≠ gl := fun x o hx ho' z => by
    rw [z, L.hg] at hx
    exact ho' _ (Option.some.inj hx).symm
  refine ⟨⟨dxb, by rw [upd_ne (na b _ hb fun _ z => by cases z)]; exact hb⟩, by rw [upd_ne L.ne]; exact L.hl, upd_same, L.ne, L.nd, L.ln, by rw [List.length_append, List.length_append, L.gn]; rfl, fun i a' l' h1 h2 => ?_, fun i a' g' h1 h2 => ?_⟩
  · obtain ⟨dx', m', k1, k2, k3, k4⟩ := L.lot i a' l' h1 h2
    exact ⟨dx', m', by rw [upd_ne (na a' _ k1 fun _ z => by cases z)]; exact k1, by rw [upd_ne k4]; exact k2, k3, k4⟩
  · have key : LegAt H a' g' := by
      by_cases hi : i < gas.length
      · rw [List.getElem?_append_left hi] at h1
        have h2 : (B.legs ++ [g])[i]? = some g' := h2
        rw [List.getElem?_append_left (by rw [← L.gn]; exact hi)] at h2
        exact L.leg i a' g' h1 h2
      · rw [List.getElem?_append_right (by omega)] at h1
        have h2 : (B.legs ++ [g])[i]? = some g' := h2
        rw [List.getElem?_append_right (by rw [← L.gn]; omega), ← L.gn] at h2
        have z : i - gas.length = 0 := by
          have := (List.getElem?_eq_some_iff.mp h1).1
          simpa using this
        rw [z] at h1 h2
        cases h1; cases h2
        exact ht
    show upd H gl _ a' = _
    rw [upd_ne (na a' _ key fun _ z => by cases z)]
    exact key
theorem BookIs.addLot (L : BookIs A H b ll gl las gas B) {x : Addr} {l : ML} (hx : LotAt A H ll gl x l) (hn : x ∉ las) : BookIs A (upd H ll (.lst ((las ++ [x]).map V.ref))) b ll gl (las ++ [x]) gas (B.add l) := by
  obtain ⟨dxb, hb⟩ := L.obj
  have na : ∀ x o, H x = some o → (∀ xs, o ≠ .lst xs) → x ≠ ll := fun x o hx ho' z => by
    rw [z, L.hl] at hx
    exact ho' _ (Option.some.inj hx).symm
  refine ⟨⟨dxb, by rw [upd_ne (na b _ hb fun _ z => by cases z)]; exact hb⟩, upd_same, by rw [upd_ne (Ne.symm L.ne)]; exact L.hg, L.ne, ?_, by rw [List.length_append, L.ln]; show _ = (B.lots ++ [l]).length; rw [List.length_append]; rfl, L.gn, fun i a' l' h1 h2 => ?_, fun i a' g' h1 h2 => ?_⟩
  · rw [List.nodup_append]
    refine ⟨L.nd, by simp, fun p hp q hq z => ?_⟩
    have : q = x := by simpa using hq
    exact hn (by rw [← this, ← z]; exact hp)
  · have key : LotAt A H ll gl a' l' := by
      have h2 : (B.lots ++ [l])[i]? = some l' := h2
      by_cases hi : i < las.length
      · rw [List.getElem?_append_left hi] at h1
        rw [List.getElem?_append_left (by rw [← L.ln]; exact hi)] at h2
        exact L.lot i a' l' h1 h2
      · rw [List.getElem?_append_right (by omega)] at h1
        rw [List.getElem?_append_right (by rw [← L.ln]; omega), ← L.ln] at h2
        have z : i - las.length = 0 := by
          have := (List.getElem?_eq_some_iff.mp h1).1
          simpa using this
        rw [z] at h1 h2
        cases h1; cases h2
        exact hx
    obtain ⟨dx', m', k1, k2, k3, k4⟩ := key
    exact ⟨dx', m', by rw [upd_ne (na a' _ k1 fun _ z => by cases z)]; exact k1, by rw [upd_ne k3]; exact k2, k3, k4⟩
  · have k := L.leg i a' g' h1 h2
    show upd H ll _ a' = _
    rw [upd_ne (na a' _ k fun _ z => by cases z)]
    exact k
end
section
variable {P : Program} {w : World} {K : PySem.W.Frag} {mg : Str → Option Value} {base : Heap} {A : Ad}
/-- a lot's count grows -/
theorem u_plant (T : Txt K mg A) {D : Ends} {σ : L2.St} {H : Hp} {ta tv : TE} {a ll gl : Addr} {l : ML} {wt : Nat} (ha : Ev ta σ H (.ref a)) (L : LotAt A H ll gl a l) (hv : Ev tv σ H (vi wt))
    (k : ∀ H1 dx m, Ex H H1 → H1 a = some (.ins A.c_Lot dx (lotV l m)) → D.nx σ (upd H1 a (.ins A.c_Lot dx (lotV (l.plant wt) m)))) : sFldAug K ta tv rAdd "planted" D σ H := by
  obtain ⟨dx, m, h1, h2, h3⟩ := L
  exact ha H (Ex.refl H) _ fun H1 e1 => ⟨a, _, dx, _, _, rfl, e1 _ _ h1, T.cl_Lot, T.no_Lot_planted, lk_Lot_planted, hv H1 e1 _ fun H2 e2 => ⟨_, _, rfl, rfl, dx, _, e2 _ _ (e1 _ _ h1), (by show 9 < 1000; decide), (by
    rw [show putF "planted" (V.int ((l.planted : Int) + wt)) (lotV l m) = lotV (l.plant wt) m from put_Lot_planted]
    exact k H2 dx m (e1.trans e2) (e2 _ _ (e1 _ _ h1)))⟩⟩
theorem u_lose (T : Txt K mg A) {D : Ends} {σ : L2.St} {H : Hp} {ta tv : TE} {a ll gl : Addr} {l : ML} {wt : Nat} (ha : Ev ta σ H (.ref a)) (L : LotAt A H ll gl a l) (hv : Ev tv σ H (vi wt))
    (k : ∀ H1 dx m, Ex H H1 → H1 a = some (.ins A.c_Lot dx (lotV l m)) → D.nx σ (upd H1 a (.ins A.c_Lot dx (lotV (l.lose wt) m)))) : sFldAug K ta tv rAdd "lost" D σ H := by
  obtain ⟨dx, m, h1, h2, h3⟩ := L
  exact ha H (Ex.refl H) _ fun H1 e1 => ⟨a, _, dx, _, _, rfl, e1 _ _ h1, T.cl_Lot, T.no_Lot_lost, lk_Lot_lost, hv H1 e1 _ fun H2 e2 => ⟨_, _, rfl, rfl, dx, _, e2 _ _ (e1 _ _ h1), (by show 9 < 1000; decide), (by
    rw [show putF "lost" (V.int ((l.lost : Int) + wt)) (lotV l m) = lotV (l.lose wt) m from put_Lot_lost]
    exact k H2 dx m (e1.trans e2) (e2 _ _ (e1 _ _ h1)))⟩⟩
theorem u_go (T : Txt K mg A) {D : Ends} {σ : L2.St} {H : Hp} {ta tv : TE} {a ll gl : Addr} {l : ML} {wt : Nat} (ha : Ev ta σ H (.ref a)) (L : LotAt A H ll gl a l) (hv : Ev tv σ H (vi wt))
    (k : ∀ H1 dx m, Ex H H1 → H1 a = some (.ins A.c_Lot dx (lotV l m)) → D.nx σ (upd H1 a (.ins A.c_Lot dx (lotV (l.go wt) m)))) : sFldAug K ta tv rAdd "gone" D σ H := by
  obtain ⟨dx, m, h1, h2, h3⟩ := L
  exact ha H (Ex.refl H) _ fun H1 e1 => ⟨a, _, dx, _, _, rfl, e1 _ _ h1, T.cl_Lot, T.no_Lot_gone, lk_Lot_gone, hv H1 e1 _ fun H2 e2 => ⟨_, _, rfl, rfl, dx, _, e2 _ _ (e1 _ _ h1), (by show 9 < 1000; decide), (by
    rw [show putF "gone" (V.int ((l.gone : Int) + wt)) (lotV l m) = lotV (l.go wt) m from put_Lot_gone]
    exact k H2 dx m (e1.trans e2) (e2 _ _ (e1 _ _ h1)))⟩⟩
theorem q_go (T : Txt K mg A) {D : Ends} {tz : TS} {σ : L2.St} {H : Hp} {ta tv : TE} {a ll gl : Addr} {l : ML} {wt : Nat} (ha : Ev ta σ H (.ref a)) (L : LotAt A H ll gl a l) (hv : Ev tv σ H (vi wt))
    (k : ∀ H1 dx m, Ex H H1 → H1 a = some (.ins A.c_Lot dx (lotV l m)) → tz D σ (upd H1 a (.ins A.c_Lot dx (lotV (l.go wt) m)))) : tSeq (sFldAug K ta tv rAdd "gone") tz D σ H := u_go T (D := { D with nx := tz D }) ha L hv k
/-- what of a book may change -/
def OfBook (ll gl : Addr) (las : List Addr) : Addr → Prop := fun x => x = ll ∨ x = gl ∨ x ∈ las
def spPut_leg (A : Ad) : Sp := fun vs H Q _ => ∃ (b ll gl : Addr) (las gas : List Addr) (B : MB) (n wt : Nat), vs = [.ref b, vi n, vi wt] ∧ BookIs A H b ll gl las gas B ∧ n < B.lots.length ∧ B.lots.length ≤ 1000 ∧ B.legs.length ≤ 1000 ∧
  ∀ H' gas', BookIs A H' b ll gl las gas' (B.putLeg n wt) → Keep (OfBook ll gl las) H H' → Q .non H'
theorem ok_Book_put_leg (T : Txt K mg A) : FnOk P w K mg base CX0 1 A.f_Book_put_leg A.d_Book_put_leg ["self", "lot", "weight"] (spPut_leg A) := by
  refine T.fn_Book_put_leg.ok sc_Book_put_leg (fun vs H Q E h => ?_) (fun cdv Ar outer s H vs Q E hr h => ⟨_, (pss_cons (ps_set (i := 3) sc_Book_put_leg.nd rfl (Or.inl rfl) (pe_ix ix_list (pe_fld (pv 0) rfl) (pv 1) (fun _ _ => rfl)))
    (pss_cons (ps_fldaug (pv 3) (pv 2) in_add)
    (pss_one (ps_expr (pe_bm PySem.F.plainAttrs_list PySem.F.slot_list_append PySem.F.type_list_append mt_append (pe_fld (pv 0) rfl) (pa_cons (pe_tup (pa_cons (pv 1) (pa_cons (pe_op op_sub (pe_callB call_len_seq (by rfl) T.b_len PySem.boot_len (pa_cons (pe_fld (pv 0) rfl) pa_nil)) pe_int) (pa_cons (pv 2) pa_nil)))) pa_nil)))))), ?_⟩)
  · obtain ⟨_, _, _, _, _, _, _, _, rfl, _⟩ := h
    rfl
  · obtain ⟨b, ll, gl, las, gas, B, n, wt, rfl, L, hn, hz1, hz2, k⟩ := h
    obtain ⟨a, ha, LA⟩ := L.lotN hn
    have hl : B.lots[n]? = some (B.lot n) := by unfold MB.lot; rw [List.getD_eq_getElem?_getD, List.getElem?_eq_getElem hn]; rfl
    refine q_asg (eb_lotAt (eb_lots T (ev_var rfl) L) L (ev_var rfl) ha) fun H1 e1 => ?_
    refine q_go T (ev_var rfl) (LA.mono e1) (ev_var rfl) fun H2 dx m e2 ho => ?_
    have L2' := ((L.mono e1).mono e2).modLot (f := ML.go wt) ha hl ho rfl
    have ma : OfBook ll gl las a := .inr (.inr (List.mem_of_getElem? ha))
    have kp : Keep (OfBook ll gl las) H (upd H2 a (.ins A.c_Lot dx (lotV (ML.go wt (B.lot n)) m))) := (Keep.of_ex (e1.trans e2)).trans (Keep.upd ma)
    generalize upd H2 a (.ins A.c_Lot dx (lotV (ML.go wt (B.lot n)) m)) = H3 at L2' kp
    refine s_appR (L2'.hg) (eb_legs T (ev_var rfl) L2') (er_tup (ea_cons (ev_var rfl) (ea_cons (ev_op (ev_lenL (eb_lots T (ev_var rfl) L2') (sq_of L2'.hl)) ev_c rv_I0) (ea_cons (ev_var rfl) ea_nil))) (by show 3 ≤ 100000; decide)) (by rw [List.length_map, L.gn]; omega) fun y H4 e4 ⟨t, ey, ht, ht4⟩ => ?_
    subst ey
    have hlen : ((las.map V.ref).length : Int) - 1 = ((B.lots.length - 1 : Nat) : Int) := by
      rw [List.length_map, L.ln]; omega
    rw [hlen] at ht4
    have L4 := (L2'.mono e4).addLeg (t := t) (g := ⟨n, B.lots.length - 1, wt⟩) ht4
    rw [show (gas.map V.ref ++ [V.ref t]) = (gas ++ [t]).map V.ref by rw [List.map_append]; rfl]
    refine k _ (gas ++ [t]) ?_ ((kp.trans (Keep.of_ex e4)).trans (Keep.upd (.inr (.inl rfl))))
    exact L4
end
end LW
end
section
set_option Elab.async false
set_option linter.all false
set_option maxRecDepth 100000
set_option maxHeartbeats 4000000

namespace LW
open PySem PySem.Spec PyProof.Rows L2 Evl LF TbLtBook
abbrev Ent := TbLtBook.Entry
def wordV (e : Ent) : V := .str (PySem.Str.ofString (LF.Entry.word e))
/-- an entry at a, its rows at r -/
structure EntryIs (A : Ad) (H : Hp) (a r : Addr) (e : Ent) : Prop where
  obj : ∃ dx : Addr, H a = some (.ins A.c_Entry dx (fEntry (wordV e) (vi e.day) (vi (LF.Entry.weight e)) (vi (LF.Entry.cls e)) (.ref r)))
  rows : RowsAt H r (LF.Entry.rows e)
theorem EntryIs.mono {A : Ad} {H H' : Hp} {a r : Addr} {e : Ent} (h : EntryIs A H a r e) (x : Ex H H') : EntryIs A H' a r e := ⟨let ⟨dx, q⟩ := h.obj; ⟨dx, x _ _ q⟩, h.rows.mono x⟩
section
variable {A : Ad} {H H' : Hp} {a b ll gl r x : Addr} {las gas : List Addr} {B : MB} {e : Ent}
theorem entry_not (L : BookIs A H b ll gl las gas B) {dx : Addr} {v1 v2 v3 v4 v5 : V} (h : H x = some (.ins A.c_Entry dx (fEntry v1 v2 v3 v4 v5))) : ¬ OfBook ll gl las x := by
  rintro (z | z | z)
  · rw [z, L.hl] at h; cases h
  · rw [z, L.hg] at h; cases h
  · obtain ⟨i, hi⟩ := List.mem_iff_getElem?.mp z
    have hlt : i < B.lots.length := by rw [← L.ln]; exact (List.getElem?_eq_some_iff.mp hi).1
    obtain ⟨dx', m, h1, _⟩ := L.lot i x _ hi (List.getElem?_eq_getElem hlt)
    rw [h1] at h
    have h := Option.some.inj h
    injection h with _ _ h
    have := congrArg List.length h
    simp [lotV, fLot, fEntry] at this
theorem tup_not (L : BookIs A H b ll gl las gas B) {xs : List V} (h : H x = some (.tup xs)) : ¬ OfBook ll gl las x := by
  rintro (z | z | z)
  · rw [z, L.hl] at h; cases h
  · rw [z, L.hg] at h; cases h
  · obtain ⟨i, hi⟩ := List.mem_iff_getElem?.mp z
    have hlt : i < B.lots.length := by rw [← L.ln]; exact (List.getElem?_eq_some_iff.mp hi).1
    obtain ⟨dx', m, h1, _⟩ := L.lot i x _ hi (List.getElem?_eq_getElem hlt)
    rw [h1] at h; cases h
theorem lst_not (L : BookIs A H b ll gl las gas B) {xs : List V} (h : H x = some (.lst xs)) (h1 : x ≠ ll) (h2 : x ≠ gl) : ¬ OfBook ll gl las x := by
  rintro (z | z | z)
  · exact h1 z
  · exact h2 z
  · obtain ⟨i, hi⟩ := List.mem_iff_getElem?.mp z
    have hlt : i < B.lots.length := by rw [← L.ln]; exact (List.getElem?_eq_some_iff.mp hi).1
    obtain ⟨dx', m, h1, _⟩ := L.lot i x _ hi (List.getElem?_eq_getElem hlt)
    rw [h1] at h; cases h
/-- an entry stands while a book changes -/
theorem EntryIs.keep (E : EntryIs A H a r e) (L : BookIs A H b ll gl las gas B) (h1 : r ≠ ll) (h2 : r ≠ gl) (k : Keep (OfBook ll gl las) H H') : EntryIs A H' a r e := by
  obtain ⟨dx, ho⟩ := E.obj
  obtain ⟨as, q1, q2, q3⟩ := E.rows
  exact ⟨⟨dx, k _ _ ho (entry_not L ho)⟩, as, k _ _ q1 (lst_not L q1 h1 h2), q2, fun i a p e1 e2 => k _ _ (q3 i a p e1 e2) (tup_not L (q3 i a p e1 e2))⟩
end
section
variable {P : Program} {w : World} {K : PySem.W.Frag} {mg : Str → Option Value} {base : Heap} {A : Ad}
theorem ee_rows (T : Txt K mg A) {te : TE} {σ : L2.St} {H : Hp} {a r : Addr} {e : Ent} (h : Ev te σ H (.ref a)) (E : EntryIs A H a r e) : Ev (tFld K te "rows") σ H (.ref r) := let ⟨_, ho⟩ := E.obj; ev_Entry_rows T h ho
theorem ee_day (T : Txt K mg A) {te : TE} {σ : L2.St} {H : Hp} {a r : Addr} {e : Ent} (h : Ev te σ H (.ref a)) (E : EntryIs A H a r e) : Ev (tFld K te "day") σ H (vi e.day) := let ⟨_, ho⟩ := E.obj; ev_Entry_day T h ho
theorem ee_weight (T : Txt K mg A) {te : TE} {σ : L2.St} {H : Hp} {a r : Addr} {e : Ent} (h : Ev te σ H (.ref a)) (E : EntryIs A H a r e) : Ev (tFld K te "weight") σ H (vi (LF.Entry.weight e)) := let ⟨_, ho⟩ := E.obj; ev_Entry_weight T h ho
theorem ee_grade (T : Txt K mg A) {te : TE} {σ : L2.St} {H : Hp} {a r : Addr} {e : Ent} (h : Ev te σ H (.ref a)) (E : EntryIs A H a r e) : Ev (tFld K te "grade") σ H (vi (LF.Entry.cls e)) := let ⟨_, ho⟩ := E.obj; ev_Entry_grade T h ho
theorem ee_word (T : Txt K mg A) {te : TE} {σ : L2.St} {H : Hp} {a r : Addr} {e : Ent} (h : Ev te σ H (.ref a)) (E : EntryIs A H a r e) : Ev (tFld K te "word") σ H (wordV e) := let ⟨_, ho⟩ := E.obj; ev_Entry_word T h ho
/-- Lot(..), its mothers' list known -/
theorem er_lot {σ : L2.St} {H : Hp} {ta : TA} {born made gen cls day : Nat} {ms : List Nat} {ll gl : Addr} (hll : ∃ xs, H ll = some (.lst xs)) (hgl : ∃ xs, H gl = some (.lst xs))
    (h : EvAR ta σ H (fun vs H2 => ∃ m, vs = [vi born, vi made, vi gen, vi cls, vi day, .ref m] ∧ H2 m = some (.lst (vis ms)) ∧ m ≠ ll ∧ m ≠ gl)) :
    EvR (tMake A.c_Lot (spLot_init A) [] E0 ta) σ H (fun y H2 => ∃ x, y = .ref x ∧ H x = none ∧ LotAt A H2 ll gl x ⟨born, made, gen, cls, day, ms, 0, 0, 0⟩) := fun H1 e Q q =>
  h H1 e _ fun vs H2 e2 ⟨m, ev, hm, n1, n2⟩ x dx nx ndx ne => by
    subst ev
    refine ⟨x, dx, _, _, _, _, _, _, rfl, upd_same, fun H' hx kp => ⟨rfl, ?_⟩⟩
    have s : Ex H2 H' := Same.made nx ndx kp
    exact q _ H' (e2.trans s) ⟨x, rfl, fresh_back (e.trans e2) nx, dx, m, hx, s _ _ hm, n1, n2⟩
/-- .. with [] for mothers -/
theorem ear_lot0 {σ : L2.St} {H : Hp} {t1 t2 t3 t4 t5 : TE} {born made gen cls day : Nat} {ll gl : Addr} (hll : ∃ xs, H ll = some (.lst xs)) (hgl : ∃ xs, H gl = some (.lst xs))
    (h1 : Ev t1 σ H (vi born)) (h2 : Ev t2 σ H (vi made)) (h3 : Ev t3 σ H (vi gen)) (h4 : Ev t4 σ H (vi cls)) (h5 : Ev t5 σ H (vi day)) :
    EvAR (tCons t1 (tCons t2 (tCons t3 (tCons t4 (tCons t5 (tCons (tLst tNil) tNil)))))) σ H (fun vs H2 => ∃ m, vs = [vi born, vi made, vi gen, vi cls, vi day, .ref m] ∧ H2 m = some (.lst (vis [])) ∧ m ≠ ll ∧ m ≠ gl) := fun H1 e Q q =>
  ear_cons h1 (ear_cons h2 (ear_cons h3 (ear_cons h4 (ear_cons h5 (ear_new (er_lst ea_nil (Nat.zero_le _))))))) H1 e Q fun vs H2 e2 hR => by
    obtain ⟨r1, rfl, r2, rfl, r3, rfl, r4, rfl, r5, rfl, y, rfl, m, rfl, hm, hm2⟩ := hR
    obtain ⟨x1, q1⟩ := hll
    obtain ⟨x2, q2⟩ := hgl
    exact q _ H2 e2 ⟨m, rfl, hm2, fun z => (by rw [z, q1] at hm; cases hm), fun z => (by rw [z, q2] at hm; cases hm)⟩
def spMake (A : Ad) : Sp := fun vs H Q _ => ∃ (b ll gl a r : Addr) (las gas : List Addr) (B : MB) (e : Ent), vs = [.ref b, .ref a] ∧ BookIs A H b ll gl las gas B ∧ EntryIs A H a r e ∧ r ≠ ll ∧ r ≠ gl ∧ B.names e ∧
  B.lots.length + (LF.Entry.rows e).length ≤ 900 ∧ B.legs.length + (LF.Entry.rows e).length ≤ 900 ∧
  ∀ H' las' gas', BookIs A H' b ll gl las' gas' (B.make e) → Keep (OfBook ll gl las) H H' → (∀ x ∈ las', x ∈ las ∨ H x = none) → (∀ x ∈ las, x ∈ las') → Q .non H'
/-- the lots and legs of a book grow by so many at most -/
theorem putLeg_len (B : MB) (k w : Nat) : (B.putLeg k w).lots.length = B.lots.length ∧ (B.putLeg k w).legs.length = B.legs.length + 1 := by
  unfold MB.putLeg
  refine ⟨?_, ?_⟩
  · show (B.lots.modify _ _).length = _
    rw [List.length_modify]
  · show (B.legs ++ [_]).length = _
    rw [List.length_append]; rfl
theorem plant_len (B : MB) (p : Nat × Nat) : (B.plant p).lots.length = B.lots.length ∧ (B.plant p).legs = B.legs := by
  refine ⟨?_, rfl⟩
  show (B.lots.modify _ _).length = _
  rw [List.length_modify]
theorem plants_len : ∀ (ps : List (Nat × Nat)) (B : MB), (ps.foldl MB.plant B).lots.length = B.lots.length ∧ (ps.foldl MB.plant B).legs = B.legs
  | [], B => ⟨rfl, rfl⟩
  | p :: r, B => by
    rw [List.foldl_cons]
    obtain ⟨h1, h2⟩ := plants_len r (B.plant p)
    obtain ⟨h3, h4⟩ := plant_len B p
    exact ⟨h1.trans h3, h2.trans h4⟩
theorem putLegs_len : ∀ (ps : List (Nat × Nat)) (B : MB), (ps.foldl (fun b p => b.putLeg p.1 p.2) B).lots.length = B.lots.length ∧ (ps.foldl (fun b p => b.putLeg p.1 p.2) B).legs.length = B.legs.length + ps.length
  | [], B => ⟨rfl, rfl⟩
  | p :: r, B => by
    rw [List.foldl_cons]
    obtain ⟨h1, h2⟩ := putLegs_len r (B.putLeg p.1 p.2)
    obtain ⟨h3, h4⟩ := putLeg_len B p.1 p.2
    refine ⟨h1.trans h3, ?_⟩
    rw [h2, h4, List.length_cons]; omega
theorem splitOne_len (k d : Nat) (B : MB) (w : Nat) : (MB.splitOne k d B w).lots.length = B.lots.length + 1 ∧ (MB.splitOne k d B w).legs.length = B.legs.length + 1 := by
  unfold MB.splitOne
  obtain ⟨h3, h4⟩ := putLeg_len (B.add ⟨3, w, (B.lot k).gen, (B.lot k).cls, d, [], 0, 0, 0⟩) k w
  refine ⟨h3.trans ?_, h4⟩
  show (B.lots ++ [_]).length = _
  rw [List.length_append]; rfl
theorem splits_len (k d : Nat) : ∀ (ws : List Nat) (B : MB), (ws.foldl (MB.splitOne k d) B).lots.length = B.lots.length + ws.length ∧ (ws.foldl (MB.splitOne k d) B).legs.length = B.legs.length + ws.length
  | [], B => ⟨rfl, rfl⟩
  | w :: r, B => by
    rw [List.foldl_cons]
    obtain ⟨h1, h2⟩ := splits_len k d r (MB.splitOne k d B w)
    obtain ⟨h3, h4⟩ := splitOne_len k d B w
    rw [h1, h2, h3, h4, List.length_cons]
    omega
theorem take_more {α : Type} : ∀ {l : List α} {i : Nat} {x : α}, l[i]? = some x → l.take (i + 1) = l.take i ++ [x] := fun {l i x} h => by
  rw [List.take_add_one, h]; rfl
end
end LW
end
section
set_option Elab.async false
set_option linter.all false
set_option maxRecDepth 100000
set_option maxHeartbeats 4000000

namespace LW
open PySem PySem.Spec PyProof.Rows L2 Evl LF TbLtBook
def RowsIs (H : Hp) (r : Addr) (as : List Addr) (ps : List (Nat × Nat)) : Prop := H r = some (.lst (as.map V.ref)) ∧ as.length = ps.length ∧ ∀ (i : Nat) (a : Addr) (p : Nat × Nat), as[i]? = some a → ps[i]? = some p → H a = some (.tup [vi p.1, vi p.2])
theorem RowsIs.keep {A : Ad} {H H' : Hp} {b ll gl r : Addr} {las gas as : List Addr} {B : MB} {ps : List (Nat × Nat)} (R : RowsIs H r as ps) (L : BookIs A H b ll gl las gas B) (h1 : r ≠ ll) (h2 : r ≠ gl) (k : Keep (OfBook ll gl las) H H') : RowsIs H' r as ps :=
  ⟨k _ _ R.1 (lst_not L R.1 h1 h2), R.2.1, fun i a p e1 e2 => k _ _ (R.2.2 i a p e1 e2) (tup_not L (R.2.2 i a p e1 e2))⟩
section
variable {P : Program} {w : World} {K : PySem.W.Frag} {mg : Str → Option Value} {base : Heap} {A : Ad}
theorem s_forRows {tl : TE} {σ : L2.St} {H : Hp} {D : Ends} {tu : TS} {r : Addr} {as : List Addr} {ps : List (Nat × Nat)} {j1 j2 : Nat} (h : Ev tl σ H (.ref r)) (hr : RowsIs H r as ps) (Pv : Nat → L2.St → Hp → Prop) (h0 : ∀ H1, Ex H H1 → Pv 0 σ H1) (hst : ∀ i σ' H', Pv i σ' H' → RowsIs H' r as ps)
    (hs : ∀ i p σ' H', ps[i]? = some p → Pv i σ' H' → tu { D with nx := Pv (i + 1), ct := Pv (i + 1), bk := D.nx } ((σ'.set j1 (some (vi p.1))).set j2 (some (vi p.2))) H') (hd : ∀ σ' H', Pv ps.length σ' H' → D.nx σ' H') :
    tFor (iList K tl) (gTup K 2 (gCons (gName j1) (gCons (gName j2) gNil))) tu D σ H :=
  s_forL h (sq_of hr.1) Pv h0 (fun i σ' H' _ p => sq_of (hst i σ' H' p).1) (fun i x σ' H' hx p => by
    have R := hst i σ' H' p
    rw [List.getElem?_map] at hx
    cases ea : as[i]? with
    | none => rw [ea] at hx; cases hx
    | some a =>
      rw [ea] at hx
      have ex : V.ref a = x := Option.some.inj hx
      have hi : i < ps.length := by rw [← R.2.1]; exact (List.getElem?_eq_some_iff.mp ea).1
      subst ex
      exact eg_tup2 (st_of (R.2.2 i a _ ea (List.getElem?_eq_getElem hi))) _ (hs i _ σ' H' (List.getElem?_eq_getElem hi) p)) (fun σ' H' p => hd σ' H' (by
    have R := hst _ σ' H' p
    rw [List.length_map, R.2.1] at p
    exact p))
theorem q_forRows {tl : TE} {σ : L2.St} {H : Hp} {D : Ends} {tu tz : TS} {r : Addr} {as : List Addr} {ps : List (Nat × Nat)} {j1 j2 : Nat} (h : Ev tl σ H (.ref r)) (hr : RowsIs H r as ps) (Pv : Nat → L2.St → Hp → Prop) (h0 : ∀ H1, Ex H H1 → Pv 0 σ H1) (hst : ∀ i σ' H', Pv i σ' H' → RowsIs H' r as ps)
    (hs : ∀ i p σ' H', ps[i]? = some p → Pv i σ' H' → tu { D with nx := Pv (i + 1), ct := Pv (i + 1), bk := tz D } ((σ'.set j1 (some (vi p.1))).set j2 (some (vi p.2))) H') (hd : ∀ σ' H', Pv ps.length σ' H' → tz D σ' H') :
    tSeq (tFor (iList K tl) (gTup K 2 (gCons (gName j1) (gCons (gName j2) gNil))) tu) tz D σ H := s_forRows (D := { D with nx := tz D }) h hr Pv h0 hst hs hd
theorem las_some {H : Hp} {b ll gl a : Addr} {las gas : List Addr} {B : MB} (L : BookIs A H b ll gl las gas B) (h : a ∈ las) : ∃ o, H a = some o := by
  obtain ⟨i, hi⟩ := List.mem_iff_getElem?.mp h
  have hlt : i < B.lots.length := by rw [← L.ln]; exact (List.getElem?_eq_some_iff.mp hi).1
  obtain ⟨dx', m, h1, _⟩ := L.lot i a _ hi (List.getElem?_eq_getElem hlt)
  exact ⟨_, h1⟩
/-- self.lots.append(Lot(..)) -/
theorem s_addLot {D : Ends} {σ : L2.St} {H : Hp} {ta : TA} {tl : TE} {b ll gl : Addr} {las gas : List Addr} {B : MB} {born made gen cls day : Nat} {ms : List Nat} (L : BookIs A H b ll gl las gas B) (hb : Ev tl σ H (.ref ll))
    (h : EvAR ta σ H (fun vs H2 => ∃ m, vs = [vi born, vi made, vi gen, vi cls, vi day, .ref m] ∧ H2 m = some (.lst (vis ms)) ∧ m ≠ ll ∧ m ≠ gl)) (hz : B.lots.length ≤ 1000)
    (k : ∀ H' x, BookIs A H' b ll gl (las ++ [x]) gas (B.add ⟨born, made, gen, cls, day, ms, 0, 0, 0⟩) → Keep (OfBook ll gl las) H H' → H x = none → D.nx σ H') :
    tDrop (tBM K "list" rAppend tl (tCons (tMake A.c_Lot (spLot_init A) [] E0 ta) tNil)) D σ H := by
  refine s_appR L.hl hb (er_lot ⟨_, L.hl⟩ ⟨_, L.hg⟩ h) (by rw [List.length_map, L.ln]; omega) fun y H2 e2 ⟨x, ey, hx, LX⟩ => ?_
  subst ey
  have hn : x ∉ las := fun z => by
    obtain ⟨o, ho⟩ := las_some L z
    rw [hx] at ho; cases ho
  have := (L.mono e2).addLot LX hn
  rw [show (las.map V.ref ++ [V.ref x]) = (las ++ [x]).map V.ref by rw [List.map_append]; rfl]
  exact k _ x this ((Keep.of_ex e2).trans (Keep.upd (.inl rfl))) hx
theorem q_addLot {D : Ends} {tz : TS} {σ : L2.St} {H : Hp} {ta : TA} {tl : TE} {b ll gl : Addr} {las gas : List Addr} {B : MB} {born made gen cls day : Nat} {ms : List Nat} (L : BookIs A H b ll gl las gas B) (hb : Ev tl σ H (.ref ll))
    (h : EvAR ta σ H (fun vs H2 => ∃ m, vs = [vi born, vi made, vi gen, vi cls, vi day, .ref m] ∧ H2 m = some (.lst (vis ms)) ∧ m ≠ ll ∧ m ≠ gl)) (hz : B.lots.length ≤ 1000)
    (k : ∀ H' x, BookIs A H' b ll gl (las ++ [x]) gas (B.add ⟨born, made, gen, cls, day, ms, 0, 0, 0⟩) → Keep (OfBook ll gl las) H H' → H x = none → tz D σ H') :
    tSeq (tDrop (tBM K "list" rAppend tl (tCons (tMake A.c_Lot (spLot_init A) [] E0 ta) tNil))) tz D σ H := s_addLot (D := { D with nx := tz D }) L hb h hz k
/-- what a book may change grows with its new lots -/
theorem Keep.grown {H H1 H2 : Hp} {ll gl : Addr} {las las' : List Addr} (a : Keep (OfBook ll gl las) H H1) (b : Keep (OfBook ll gl las') H1 H2) (h : ∀ x ∈ las', x ∈ las ∨ H x = none) : Keep (OfBook ll gl las) H H2 := fun x o hx n =>
  b x o (a x o hx n) fun z => by
    rcases z with z | z | z
    · exact n (.inl z)
    · exact n (.inr (.inl z))
    · rcases h x z with q | q
      · exact n (.inr (.inr q))
      · rw [hx] at q; cases q
theorem sp_greatest {H : Hp} {b ll gl r : Addr} {las gas : List Addr} {B : MB} {ps : List (Nat × Nat)} (L : BookIs A H b ll gl las gas B) (hr : RowsAt H r ps) (hne : ps ≠ []) (hl : ps.length ≤ 1000) (hp : ∀ p ∈ ps, p.1 < B.lots.length) :
    SpR (spGreatest A) [.ref b, .ref r] H (fun y H2 => ∃ t, y = .ref t ∧ H2 t = some (.tup [vi (B.genMax ps), vi (B.clsMax ps)])) := fun H1 e Q q E =>
  ⟨b, ll, gl, r, las, gas, B, ps, rfl, L.mono e, hr.mono e, hne, hl, hp, fun t H' ht e' h' => q _ H' e' ⟨t, rfl, h'⟩⟩
theorem ev_word (T : Txt K mg A) {σ : L2.St} {H : Hp} {a r : Addr} {e : Ent} {te : TE} {s : Str} {c : Bool} (h : Ev te σ H (.ref a)) (E : EntryIs A H a r e) (hc : decide (wordV e = V.str s) = c) : EvT (tTest (tOp rEq (tFld K te "word") (tC (.str s)))) σ H c :=
  et_is (et_test (ev_op (ee_word T h E) ev_c (rv_eq rfl))) hc
end
end LW
end
section
set_option Elab.async false
set_option linter.all false
set_option maxRecDepth 100000
set_option maxHeartbeats 4000000

namespace LW
open PySem PySem.Spec PyProof.Rows L2 Evl LF TbLtBook
theorem sum_cast : ∀ l : List Nat, (l.map fun (n : Nat) => (n : Int)).sum = ((l.sum : Nat) : Int)
  | [] => rfl
  | n :: r => by
    rw [List.map_cons, List.sum_cons, List.sum_cons, sum_cast r]
    omega
section
variable {P : Program} {w : World} {K : PySem.W.Frag} {mg : Str → Option Value} {base : Heap} {A : Ad}
/-- a new lot of a book that has changed: of before, or new -/
theorem Keep.new {H H' : Hp} {b ll gl x : Addr} {las las' gas' : List Addr} {B' : MB} (kp : Keep (OfBook ll gl las) H H') (L' : BookIs A H' b ll gl las' gas' B') (hx : H' x = none) : x ∈ las ∨ H x = none := by
  cases h : H x with
  | none => exact .inr rfl
  | some o =>
    refine .inl (Classical.byContradiction fun hn => ?_)
    by_cases hb : OfBook ll gl las x
    · rcases hb with z | z | z
      · rw [z, L'.hl] at hx; cases hx
      · rw [z, L'.hg] at hx; cases hx
      · exact hn z
    · rw [kp x o h hb] at hx; cases hx
theorem ear_lotM {σ : L2.St} {H : Hp} {t1 t2 t3 t4 t5 t6 : TE} {born made gen cls day : Nat} {ms : List Nat} {ll gl m : Addr} (hm : H m = some (.lst (vis ms))) (n1 : m ≠ ll) (n2 : m ≠ gl)
    (h1 : Ev t1 σ H (vi born)) (h2 : Ev t2 σ H (vi made)) (h3 : Ev t3 σ H (vi gen)) (h4 : Ev t4 σ H (vi cls)) (h5 : Ev t5 σ H (vi day)) (h6 : Ev t6 σ H (.ref m)) :
    EvAR (tCons t1 (tCons t2 (tCons t3 (tCons t4 (tCons t5 (tCons t6 tNil)))))) σ H (fun vs H2 => ∃ m, vs = [vi born, vi made, vi gen, vi cls, vi day, .ref m] ∧ H2 m = some (.lst (vis ms)) ∧ m ≠ ll ∧ m ≠ gl) := fun H1 e Q q =>
  (ea_cons h1 (ea_cons h2 (ea_cons h3 (ea_cons h4 (ea_cons h5 (ea_cons h6 ea_nil)))))) H1 e Q fun H2 e2 => q _ H2 e2 ⟨m, rfl, (e.trans e2) _ _ hm, n1, n2⟩
/-- self.put_leg(lot, weight) -/
theorem s_putLeg {D : Ends} {σ : L2.St} {H : Hp} {to t1 t2 : TE} {b ll gl : Addr} {las gas : List Addr} {B : MB} {n wt : Nat} {E : XK} (L : BookIs A H b ll gl las gas B) (ho : Ev to σ H (.ref b)) (h1 : Ev t1 σ H (vi n)) (h2 : Ev t2 σ H (vi wt))
    (hn : n < B.lots.length) (z1 : B.lots.length ≤ 1000) (z2 : B.legs.length ≤ 1000) (k : ∀ H' gas', BookIs A H' b ll gl las gas' (B.putLeg n wt) → Keep (OfBook ll gl las) H H' → D.nx σ H') :
    tDrop (tMeth A.c_Book "put_leg" (spPut_leg A) [] E to (tCons t1 (tCons t2 tNil))) D σ H := by
  obtain ⟨dx, hobj⟩ := L.obj
  exact ho H (Ex.refl H) _ fun H1 e1 => ⟨b, dx, _, rfl, e1 _ _ hobj, lk_Book_put_leg, (ea_cons h1 (ea_cons h2 ea_nil)) H1 e1 _ fun H2 e2 => (by
    rw [List.append_nil]
    exact ⟨b, ll, gl, las, gas, B, n, wt, rfl, L.mono (e1.trans e2), hn, z1, z2, fun H' gas' LB kp => k H' gas' LB ((Keep.of_ex (e1.trans e2)).trans kp)⟩)⟩
theorem er_greatest {σ : L2.St} {H : Hp} {to tr : TE} {b ll gl r : Addr} {las gas : List Addr} {B : MB} {ps : List (Nat × Nat)} {E : XK} (L : BookIs A H b ll gl las gas B) (ho : Ev to σ H (.ref b)) (h1 : Ev tr σ H (.ref r)) (hr : RowsAt H r ps) (hne : ps ≠ []) (hl : ps.length ≤ 1000) (hp : ∀ p ∈ ps, p.1 < B.lots.length) :
    EvR (tMeth A.c_Book "greatest" (spGreatest A) [] E to (tCons tr tNil)) σ H (fun y H2 => ∃ t, y = .ref t ∧ H2 t = some (.tup [vi (B.genMax ps), vi (B.clsMax ps)])) :=
  let ⟨_, hobj⟩ := L.obj
  er_meth ho hobj lk_Book_greatest (ea_cons h1 ea_nil) (sp_greatest L hr hne hl hp)
theorem lot_some {B : MB} {n : Nat} (hn : n < B.lots.length) : B.lots[n]? = some (B.lot n) := by unfold MB.lot; rw [List.getD_eq_getElem?_getD, List.getElem?_eq_getElem hn]; rfl
theorem ok_Book_make (T : Txt K mg A) : FnOk P w K mg base CX0 3 A.f_Book_make A.d_Book_make ["self", "entry"] (spMake A) := by
  refine T.fn_Book_make.ok sc_Book_make (fun vs H Q E h => ?_) (fun cdv Ar outer s H vs Q E hr h => ⟨_, (pss_one (ps_if (pt_cmpR op_eq (pe_fld (pv 1) rfl) pe_str (nomark _)) (pss_one (ps_expr (pe_bm PySem.F.plainAttrs_list PySem.F.slot_list_append PySem.F.type_list_append mt_append (pe_fld (pv 0) rfl) (pa_cons (pe_make T.mk_Lot (ok_Lot_init T) (hr.mono (by decide)) rfl T.mg_Lot T.bi_Lot_init .nil pass0 (pa_cons (pe_glob (v := .int (0)) rfl T.g_FOUNDED.choose_spec ⟨_, rfl⟩) (pa_cons (pe_fld (pv 1) rfl) (pa_cons pe_int (pa_cons (pe_fld (pv 1) rfl) (pa_cons (pe_fld (pv 1) rfl) (pa_cons (pe_lst pa_nil) pa_nil))))))) pa_nil)))) (pss_one (ps_if (pt_cmpR op_eq (pe_fld (pv 1) rfl) pe_str (nomark _)) (pss_cons (ps_set (i := 2) sc_Book_make.nd rfl (Or.inl rfl) (pe_op op_add (pe_ix ix_tup (pe_meth (pv 0) T.cl_Book T.me_Book_greatest (ok_Book_greatest T) (hr.mono (by decide)) T.bi_Book_greatest .nil pass0 (pa_cons (pe_fld (pv 1) rfl) pa_nil)) pe_int (fun _ _ => rfl)) pe_int))
    (pss_cons (ps_for PassesOwn.never rfl (pi_list (pe_fld (pv 1) rfl)) (pg_tup rfl (pgs_cons (pg_name (i := 3) sc_Book_make.nd rfl (Or.inl rfl)) (pgs_cons (pg_name (i := 4) sc_Book_make.nd rfl (Or.inl rfl)) pgs_nil))) (pss_cons (ps_set (i := 5) sc_Book_make.nd rfl (Or.inl rfl) (pe_ix ix_list (pe_fld (pv 0) rfl) (pv 3) (fun _ _ => rfl)))
    (pss_one (ps_fldaug (pv 5) (pv 4) in_add))))
    (pss_cons (ps_setLc (i := 6) (g := (gTup K 2 (gCons (gName 3) (gCons (gName 4) gNil)))) (tt := tYes) (te := (tVar 3)) (own := [("lot", 3), ("weight", 4)]) rfl sc_Book_make.nd rfl rfl (sw_true rfl rfl rfl (by decide +kernel)) (pi_list (pe_fld (pv 1) rfl)) (blkOk_by (own := [("lot", 3), ("weight", 4)]) (N := N_Book_make) (sc := defScope s_Book_make) (by decide +kernel)) (fun _ _ _ _ _ => by exact (pg_tup rfl (pgs_cons (pg_name (i := 3) sc_Book_make.nd rfl (Or.inl rfl)) (pgs_cons (pg_name (i := 4) sc_Book_make.nd rfl (Or.inl rfl)) pgs_nil)))) (fun _ _ _ _ _ => by exact pts_nil) (fun _ _ _ _ _ => by exact (pv 3)))
    (pss_one (ps_expr (pe_bm PySem.F.plainAttrs_list PySem.F.slot_list_append PySem.F.type_list_append mt_append (pe_fld (pv 0) rfl) (pa_cons (pe_make T.mk_Lot (ok_Lot_init T) (hr.mono (by decide)) rfl T.mg_Lot T.bi_Lot_init .nil pass0 (pa_cons (pe_glob (v := .int (1)) rfl T.g_LIFTED.choose_spec ⟨_, rfl⟩) (pa_cons (pe_fld (pv 1) rfl) (pa_cons (pv 2) (pa_cons (pe_fld (pv 1) rfl) (pa_cons (pe_fld (pv 1) rfl) (pa_cons (pv 6) pa_nil))))))) pa_nil))))))) (pss_one (ps_if (pt_cmpR op_eq (pe_fld (pv 1) rfl) pe_str (nomark _)) (pss_cons (ps_asg (pe_meth (pv 0) T.cl_Book T.me_Book_greatest (ok_Book_greatest T) (hr.mono (by decide)) T.bi_Book_greatest .nil pass0 (pa_cons (pe_fld (pv 1) rfl) pa_nil)) (pg_tup rfl (pgs_cons (pg_name (i := 2) sc_Book_make.nd rfl (Or.inl rfl)) (pgs_cons (pg_name (i := 7) sc_Book_make.nd rfl (Or.inl rfl)) pgs_nil))))
    (pss_cons (ps_set (i := 8) sc_Book_make.nd rfl (Or.inl rfl) (pe_callB (cr_sum rfl) (by rfl) T.b_sum (by decide +kernel) (pa_cons (pe_lc (g := (gTup K 2 (gCons (gName 3) (gCons (gName 4) gNil)))) (tt := tYes) (te := (tVar 4)) (own := [("lot", 3), ("weight", 4)]) rfl sc_Book_make.nd (pi_list (pe_fld (pv 1) rfl)) (blkOk_by (own := [("lot", 3), ("weight", 4)]) (N := N_Book_make) (sc := defScope s_Book_make) (by decide +kernel)) (fun _ _ _ _ _ => by exact (pg_tup rfl (pgs_cons (pg_name (i := 3) sc_Book_make.nd rfl (Or.inl rfl)) (pgs_cons (pg_name (i := 4) sc_Book_make.nd rfl (Or.inl rfl)) pgs_nil)))) (fun _ _ _ _ _ => by exact pts_nil) (fun _ _ _ _ _ => by exact (pv 4))) pa_nil)))
    (pss_cons (ps_expr (pe_bm PySem.F.plainAttrs_list PySem.F.slot_list_append PySem.F.type_list_append mt_append (pe_fld (pv 0) rfl) (pa_cons (pe_make T.mk_Lot (ok_Lot_init T) (hr.mono (by decide)) rfl T.mg_Lot T.bi_Lot_init .nil pass0 (pa_cons (pe_glob (v := .int (2)) rfl T.g_MERGED.choose_spec ⟨_, rfl⟩) (pa_cons (pv 8) (pa_cons (pv 2) (pa_cons (pv 7) (pa_cons (pe_fld (pv 1) rfl) (pa_cons (pe_lst pa_nil) pa_nil))))))) pa_nil)))
    (pss_one (ps_for PassesOwn.never rfl (pi_list (pe_fld (pv 1) rfl)) (pg_tup rfl (pgs_cons (pg_name (i := 3) sc_Book_make.nd rfl (Or.inl rfl)) (pgs_cons (pg_name (i := 4) sc_Book_make.nd rfl (Or.inl rfl)) pgs_nil))) (pss_one (ps_expr (pe_meth (pv 0) T.cl_Book T.me_Book_put_leg (ok_Book_put_leg T) (hr.mono (by decide)) T.bi_Book_put_leg .nil pass0 (pa_cons (pv 3) (pa_cons (pv 4) pa_nil)))))))))) (pss_one (ps_if (pt_cmpR op_eq (pe_fld (pv 1) rfl) pe_str (nomark _)) (pss_one (ps_for PassesOwn.never rfl (pi_list (pe_fld (pv 1) rfl)) (pg_tup rfl (pgs_cons (pg_name (i := 3) sc_Book_make.nd rfl (Or.inl rfl)) (pgs_cons (pg_name (i := 4) sc_Book_make.nd rfl (Or.inl rfl)) pgs_nil))) (pss_cons (ps_set (i := 5) sc_Book_make.nd rfl (Or.inl rfl) (pe_ix ix_list (pe_fld (pv 0) rfl) (pv 3) (fun _ _ => rfl)))
    (pss_cons (ps_expr (pe_bm PySem.F.plainAttrs_list PySem.F.slot_list_append PySem.F.type_list_append mt_append (pe_fld (pv 0) rfl) (pa_cons (pe_make T.mk_Lot (ok_Lot_init T) (hr.mono (by decide)) rfl T.mg_Lot T.bi_Lot_init .nil pass0 (pa_cons (pe_glob (v := .int (3)) rfl T.g_SPLIT.choose_spec ⟨_, rfl⟩) (pa_cons (pv 4) (pa_cons (pe_fld (pv 5) rfl) (pa_cons (pe_fld (pv 5) rfl) (pa_cons (pe_fld (pv 1) rfl) (pa_cons (pe_lst pa_nil) pa_nil))))))) pa_nil)))
    (pss_one (ps_expr (pe_meth (pv 0) T.cl_Book T.me_Book_put_leg (ok_Book_put_leg T) (hr.mono (by decide)) T.bi_Book_put_leg .nil pass0 (pa_cons (pv 3) (pa_cons (pv 4) pa_nil))))))))) (pss_cons (ps_set (i := 5) sc_Book_make.nd rfl (Or.inl rfl) (pe_ix ix_list (pe_fld (pv 0) rfl) (pe_ix ix_tup (pe_ix ix_list (pe_fld (pv 1) rfl) pe_int (fun _ _ => rfl)) pe_int (fun _ _ => rfl)) (fun _ _ => rfl)))
    (pss_one (ps_fldaug (pv 5) (pe_ix ix_tup (pe_ix ix_list (pe_fld (pv 1) rfl) pe_int (fun _ _ => rfl)) pe_int (fun _ _ => rfl)) in_add))))))))))), ?_⟩)
  · obtain ⟨_, _, _, _, _, _, _, _, _, rfl, _⟩ := h
    rfl
  · obtain ⟨b, ll, gl, a, r, las, gas, B, e, rfl, L, E, r1, r2, hnm, hz1, hz2, k⟩ := h
    cases e with
    | found wt c d =>
      refine s_if (ev_word T (ev_var rfl) E (c := true) (by show decide (V.str (PySem.Str.ofString "found") = V.str _) = _; decide +kernel)) (fun _ H1 e1 => ?_) (fun z => by cases z)
      refine s_addLot (L.mono e1) (eb_lots T (ev_var rfl) (L.mono e1)) (ear_lot0 ⟨_, (L.mono e1).hl⟩ ⟨_, (L.mono e1).hg⟩ (ev_c (v := vi 0)) (ee_weight T (ev_var rfl) (E.mono e1)) (ev_c (v := vi 0)) (ee_grade T (ev_var rfl) (E.mono e1)) (ee_day T (ev_var rfl) (E.mono e1))) (by omega) fun H' x LB kp hx => ?_
      refine k H' _ _ LB ((Keep.of_ex e1).trans kp) (fun y hy => ?_) fun y hy => List.mem_append_left _ hy
      rcases List.mem_append.mp hy with hy | hy
      · exact .inl hy
      · exact .inr (by rw [show y = x by simpa using hy]; exact fresh_back e1 hx)
    | lift wt c d ms =>
      refine s_if (ev_word T (ev_var rfl) E (c := false) (by show decide (V.str (PySem.Str.ofString "lift") = V.str _) = _; decide +kernel)) (fun z => by cases z) (fun _ H0 e0 => ?_)
      refine s_if (ev_word T (ev_var rfl) (E.mono e0) (c := true) (by show decide (V.str (PySem.Str.ofString "lift") = V.str _) = _; decide +kernel)) (fun _ H1 e1 => ?_) (fun z => by cases z)
      have e01 := e0.trans e1
      have hne : ms ≠ [] := hnm.2
      have hrw : RowsAt H r ms := E.rows
      have hin : ∀ p ∈ ms, p.1 < B.lots.length := hnm.1
      have hz : ms.length ≤ 900 := by have : B.lots.length + ms.length ≤ 900 := hz1; omega
      refine q_asg (v := vi (B.genMax ms + 1)) (ev_is (ev_op (ev_ixN (er_greatest (L.mono e01) (ev_var rfl) (ee_rows T (ev_var rfl) (E.mono e01)) (hrw.mono e01) hne (by omega) hin) (fun y H2 ⟨t, q1, q2⟩ => ⟨t, q1, st_of q2⟩) (fun _ _ => ev_c) rfl) ev_c rv_I0) rfl) fun H2 e2 => ?_
      have e02 := e01.trans e2
      obtain ⟨as, hR⟩ := E.rows
      have hR : RowsIs H r as ms := hR
      have hRm : ∀ {H'}, Keep (OfBook ll gl las) H H' → RowsIs H' r as ms := fun kp => hR.keep L r1 r2 kp
      have hEm : ∀ {H'}, Keep (OfBook ll gl las) H H' → EntryIs A H' a r (.lift wt c d ms) := fun kp => E.keep L r1 r2 kp
      refine q_forRows (ee_rows T (ev_var rfl) (E.mono e02)) (hRm (Keep.of_ex e02)) (fun i σ' H' => ∃ v3 v4 v5 : Option V, σ' = [some (.ref b), some (.ref a), some (vi (B.genMax ms + 1)), v3, v4, v5, none, none, none] ∧ BookIs A H' b ll gl las gas ((ms.take i).foldl MB.plant B) ∧ Keep (OfBook ll gl las) H H')
        (fun H1 e => ⟨_, _, _, rfl, L.mono (e02.trans e), Keep.of_ex (e02.trans e)⟩) (fun i σ' H' ⟨_, _, _, _, _, kp⟩ => hRm kp) (fun i p σ' H' hp ⟨v3, v4, v5, es, LB, kp⟩ => ?_) (fun σ' H' ⟨v3, v4, v5, es, LB, kp⟩ => ?_)
      · subst es
        have hlt : p.1 < ((ms.take i).foldl MB.plant B).lots.length := by rw [(plants_len _ _).1]; exact hin p (List.mem_of_getElem? hp)
        obtain ⟨x, hx, LX⟩ := LB.lotN hlt
        refine q_asg (eb_lotAt (eb_lots T (ev_var rfl) LB) LB (ev_var rfl) hx) fun H3 e3 => ?_
        refine u_plant T (ev_var rfl) (LX.mono e3) (ev_var rfl) fun H4 dx m e4 ho => ⟨_, _, _, rfl, ?_, (kp.trans (Keep.of_ex (e3.trans e4))).trans (Keep.upd (.inr (.inr (List.mem_of_getElem? hx))))⟩
        rw [take_more hp, List.foldl_append]
        exact (LB.mono (e3.trans e4)).modLot (f := ML.plant p.2) hx (lot_some hlt) ho rfl
      · subst es
        rw [List.take_length] at LB
        refine q_asgR (lc_rows (fun k => vi (ms.getD k (0, 0)).1) (fun _ => true) (ee_rows T (ev_var rfl) (hEm kp)) ⟨as, hRm kp⟩ (by omega) fun k p H3 hp e3 => ⟨rfl, et_yes, fun _ => ⟨?_, fun D xs hD z => by cases z⟩⟩) fun y H3 e3 ⟨q, ey, hq, hq3⟩ => ?_
        · rw [getD_of hp]
          exact ev_var rfl
        · subst ey
          rw [idx_all, range_getD ms (0, 0) (fun p => vi p.1)] at hq3
          have hq3 : H3 q = some (.lst (vis (ms.map (·.1)))) := by rw [hq3, vis, List.map_map]; rfl
          have LB3 := LB.mono e3
          have E3 := (hEm kp).mono e3
          refine s_addLot LB3 (eb_lots T (ev_var rfl) LB3) (ear_lotM hq3 (fun z => by rw [z, LB.hl] at hq; cases hq) (fun z => by rw [z, LB.hg] at hq; cases hq) (ev_c (v := vi 1)) (ee_weight T (ev_var rfl) E3) (ev_var rfl) (ee_grade T (ev_var rfl) E3) (ee_day T (ev_var rfl) E3) (ev_var rfl)) (by rw [(plants_len _ _).1]; omega) fun H4 x LB4 kp4 hx => ?_
          have kp3 := kp.trans (Keep.of_ex e3)
          refine k H4 _ _ LB4 (kp3.trans kp4) (fun y hy => ?_) fun y hy => List.mem_append_left _ hy
          rcases List.mem_append.mp hy with hy | hy
          · exact .inl hy
          · rw [show y = x by simpa using hy]; exact Keep.new kp3 LB3 hx
    | merge d ps =>
      refine s_if (ev_word T (ev_var rfl) E (c := false) (by show decide (V.str (PySem.Str.ofString "merge") = V.str _) = _; decide +kernel)) (fun z => by cases z) (fun _ H0 e0 => ?_)
      refine s_if (ev_word T (ev_var rfl) (E.mono e0) (c := false) (by show decide (V.str (PySem.Str.ofString "merge") = V.str _) = _; decide +kernel)) (fun z => by cases z) (fun _ H1 e1 => ?_)
      refine s_if (ev_word T (ev_var rfl) (E.mono (e0.trans e1)) (c := true) (by show decide (V.str (PySem.Str.ofString "merge") = V.str _) = _; decide +kernel)) (fun _ H2 e2 => ?_) (fun z => by cases z)
      have e02 := (e0.trans e1).trans e2
      have hne : ps ≠ [] := hnm.2
      have hrw : RowsAt H r ps := E.rows
      have hin : ∀ p ∈ ps, p.1 < B.lots.length := hnm.1
      have hz : ps.length ≤ 900 := by have : B.lots.length + ps.length ≤ 900 := hz1; omega
      have hzg : B.legs.length + ps.length ≤ 900 := hz2
      refine er_greatest (L.mono e02) (ev_var rfl) (ee_rows T (ev_var rfl) (E.mono e02)) (hrw.mono e02) hne (by omega) hin H2 (Ex.refl H2) _ fun y H3 e3 ⟨t, ey, ht⟩ => ?_
      subst ey
      refine eg_tup2 (st_of ht) _ ?_
      have e03 := e02.trans e3
      obtain ⟨as, hR⟩ := E.rows
      have hR : RowsIs H r as ps := hR
      have hRm : ∀ {H'}, Keep (OfBook ll gl las) H H' → RowsIs H' r as ps := fun kp => hR.keep L r1 r2 kp
      have hEm : ∀ {H'}, Keep (OfBook ll gl las) H H' → EntryIs A H' a r (.merge d ps) := fun kp => E.keep L r1 r2 kp
      refine q_asg (v := vi (ps.map (·.2)).sum) (ev_is (ev_sumN (ns := (ps.map (·.2)).map fun (n : Nat) => (n : Int)) (er_imp (lc_rows (fun k => vi (ps.getD k (0, 0)).2) (fun _ => true) (ee_rows T (ev_var rfl) (E.mono e03)) (hrw.mono e03) (by omega) fun k p H4 hp e4 => ⟨rfl, et_yes, fun _ => ⟨?_, fun D xs hD z => by cases z⟩⟩) fun y H4 e4 ⟨q, h1, h2, h3⟩ => ⟨q, h1, h2, ?_⟩)) ?_) fun H4 e4 => ?_
      · rw [getD_of hp]
        exact ev_var rfl
      · rw [h3, idx_all, range_getD ps (0, 0) (fun p => vi p.2), List.map_map, List.map_map]; rfl
      · rw [sum_cast]
      have e04 := e03.trans e4
      refine q_addLot (L.mono e04) (eb_lots T (ev_var rfl) (L.mono e04)) (ear_lot0 ⟨_, (L.mono e04).hl⟩ ⟨_, (L.mono e04).hg⟩ (ev_c (v := vi 2)) (ev_var rfl) (ev_var rfl) (ev_var rfl) (ee_day T (ev_var rfl) (E.mono e04))) (by omega) fun H5 x LB5 kp5 hx => ?_
      have kp5 := (Keep.of_ex e04).trans kp5
      have hnew : ∀ y ∈ las ++ [x], y ∈ las ∨ H y = none := fun y hy => by
        rcases List.mem_append.mp hy with hy | hy
        · exact .inl hy
        · exact .inr (by rw [show y = x by simpa using hy]; exact fresh_back e04 hx)
      have LB5 : BookIs A H5 b ll gl (las ++ [x]) gas (B.add ⟨2, (ps.map (·.2)).sum, B.genMax ps, B.clsMax ps, d, [], 0, 0, 0⟩) := LB5
      generalize hB5 : B.add ⟨2, (ps.map (·.2)).sum, B.genMax ps, B.clsMax ps, d, [], 0, 0, 0⟩ = B5 at LB5
      have hl5 : B5.lots.length = B.lots.length + 1 := by rw [← hB5]; show (B.lots ++ [_]).length = _; rw [List.length_append]; rfl
      have hg5 : B5.legs.length = B.legs.length := by rw [← hB5]; rfl
      have hz1' : B.lots.length + ps.length ≤ 900 := hz1
      refine s_forRows (ee_rows T (ev_var rfl) (hEm kp5)) (hRm kp5) (fun i σ' H' => ∃ (v3 v4 : Option V) (gas' : List Addr), σ' = [some (.ref b), some (.ref a), some (vi (B.genMax ps)), v3, v4, none, none, some (vi (B.clsMax ps)), some (vi (ps.map (·.2)).sum)] ∧ BookIs A H' b ll gl (las ++ [x]) gas' ((ps.take i).foldl (fun b p => b.putLeg p.1 p.2) B5) ∧ Keep (OfBook ll gl las) H H')
        (fun H1 e => ⟨_, _, _, rfl, LB5.mono e, kp5.trans (Keep.of_ex e)⟩) (fun i σ' H' ⟨_, _, _, _, _, kp⟩ => hRm kp) (fun i p σ' H' hp ⟨v3, v4, gas', es, LB, kp⟩ => ?_) (fun σ' H' ⟨v3, v4, gas', es, LB, kp⟩ => ?_)
      · subst es
        have hl := putLegs_len (ps.take i) B5
        have hlt : p.1 < ((ps.take i).foldl (fun b p => b.putLeg p.1 p.2) B5).lots.length := by rw [hl.1, hl5]; have := hin p (List.mem_of_getElem? hp); omega
        have hti := List.length_take_le i ps
        have hti2 := List.length_take_le' i ps
        refine s_putLeg LB (ev_var rfl) (ev_var rfl) (ev_var rfl) hlt (by rw [hl.1, hl5]; omega) (by rw [hl.2, hg5]; omega) fun H6 gas6 LB6 kp6 => ⟨_, _, gas6, rfl, ?_, kp.grown kp6 hnew⟩
        rw [take_more hp, List.foldl_append]
        exact LB6
      · subst es
        rw [List.take_length, ← hB5] at LB
        exact k H' _ _ LB kp hnew fun y hy => List.mem_append_left _ hy
    | split n d ws =>
      refine s_if (ev_word T (ev_var rfl) E (c := false) (by show decide (V.str (PySem.Str.ofString "split") = V.str _) = _; decide +kernel)) (fun z => by cases z) (fun _ H0 e0 => ?_)
      refine s_if (ev_word T (ev_var rfl) (E.mono e0) (c := false) (by show decide (V.str (PySem.Str.ofString "split") = V.str _) = _; decide +kernel)) (fun z => by cases z) (fun _ H1 e1 => ?_)
      refine s_if (ev_word T (ev_var rfl) (E.mono (e0.trans e1)) (c := false) (by show decide (V.str (PySem.Str.ofString "split") = V.str _) = _; decide +kernel)) (fun z => by cases z) (fun _ H2 e2 => ?_)
      refine s_if (ev_word T (ev_var rfl) (E.mono ((e0.trans e1).trans e2)) (c := true) (by show decide (V.str (PySem.Str.ofString "split") = V.str _) = _; decide +kernel)) (fun _ H3 e3 => ?_) (fun z => by cases z)
      have e03 := ((e0.trans e1).trans e2).trans e3
      have hin : ∀ p ∈ ws.map (fun w => (n, w)), p.1 < B.lots.length := hnm.1
      have hz1' : B.lots.length + (ws.map (fun w => (n, w))).length ≤ 900 := hz1
      have hz2' : B.legs.length + (ws.map (fun w => (n, w))).length ≤ 900 := hz2
      rw [List.length_map] at hz1' hz2'
      obtain ⟨as, hR⟩ := E.rows
      have hR : RowsIs H r as (ws.map fun w => (n, w)) := hR
      have hRm : ∀ {H'}, Keep (OfBook ll gl las) H H' → RowsIs H' r as (ws.map fun w => (n, w)) := fun kp => hR.keep L r1 r2 kp
      have hEm : ∀ {H'}, Keep (OfBook ll gl las) H H' → EntryIs A H' a r (.split n d ws) := fun kp => E.keep L r1 r2 kp
      refine s_forRows (ee_rows T (ev_var rfl) (E.mono e03)) (hRm (Keep.of_ex e03)) (fun i σ' H' => ∃ (v3 v4 v5 : Option V) (las' gas' : List Addr), σ' = [some (.ref b), some (.ref a), none, v3, v4, v5, none, none, none] ∧ BookIs A H' b ll gl las' gas' ((ws.take i).foldl (MB.splitOne n d) B) ∧ Keep (OfBook ll gl las) H H' ∧ (∀ x ∈ las', x ∈ las ∨ H x = none) ∧ ∀ x ∈ las, x ∈ las')
        (fun H1 e => ⟨_, _, _, las, gas, rfl, L.mono (e03.trans e), Keep.of_ex (e03.trans e), fun x h => .inl h, fun x h => h⟩) (fun i σ' H' ⟨_, _, _, _, _, _, _, kp, _⟩ => hRm kp) (fun i p σ' H' hp ⟨v3, v4, v5, las', gas', es, LB, kp, hnew, hsub⟩ => ?_) (fun σ' H' ⟨v3, v4, v5, las', gas', es, LB, kp, hnew, hsub⟩ => ?_)
      · subst es
        rw [List.getElem?_map] at hp
        obtain ⟨wt, hw, ep⟩ := Option.map_eq_some_iff.mp hp
        subst ep
        have hn : n < B.lots.length := hin (n, wt) (List.mem_map.mpr ⟨wt, List.mem_of_getElem? hw, rfl⟩)
        have hl := splits_len n d (ws.take i) B
        have hti := List.length_take_le i ws
        have hti2 := List.length_take_le' i ws
        generalize hBi : (ws.take i).foldl (MB.splitOne n d) B = Bi at LB hl
        have hlt : n < Bi.lots.length := by omega
        obtain ⟨x, hx, LX⟩ := LB.lotN hlt
        refine q_asg (eb_lotAt (eb_lots T (ev_var rfl) LB) LB (ev_var rfl) hx) fun H4 e4 => ?_
        have kp4 := kp.trans (Keep.of_ex e4)
        refine q_addLot (LB.mono e4) (eb_lots T (ev_var rfl) (LB.mono e4)) (ear_lot0 ⟨_, (LB.mono e4).hl⟩ ⟨_, (LB.mono e4).hg⟩ (ev_c (v := vi 3)) (ev_var rfl) (el_generation T (ev_var rfl) (LX.mono e4)) (el_grade T (ev_var rfl) (LX.mono e4)) (ee_day T (ev_var rfl) (hEm kp4))) (by omega) fun H5 y LB5 kp5 hy => ?_
        have hnew5 : ∀ z ∈ las' ++ [y], z ∈ las ∨ H z = none := fun z hz => by
          rcases List.mem_append.mp hz with hz | hz
          · exact hnew z hz
          · rw [show z = y by simpa using hz]; exact Keep.new kp4 (LB.mono e4) hy
        have kp5' := kp4.grown kp5 hnew
        have LB5 : BookIs A H5 b ll gl (las' ++ [y]) gas' (Bi.add ⟨3, wt, (Bi.lot n).gen, (Bi.lot n).cls, d, [], 0, 0, 0⟩) := LB5
        have hl5 : (Bi.add ⟨3, wt, (Bi.lot n).gen, (Bi.lot n).cls, d, [], 0, 0, 0⟩).lots.length = Bi.lots.length + 1 := by show (Bi.lots ++ [_]).length = _; rw [List.length_append]; rfl
        have hg5 : (Bi.add ⟨3, wt, (Bi.lot n).gen, (Bi.lot n).cls, d, [], 0, 0, 0⟩).legs.length = Bi.legs.length := rfl
        refine s_putLeg LB5 (ev_var rfl) (ev_var rfl) (ev_var rfl) (by omega) (by omega) (by omega) fun H6 gas6 LB6 kp6 => ⟨_, _, _, _, gas6, rfl, ?_, kp5'.grown kp6 hnew5, hnew5, fun z hz => List.mem_append_left _ (hsub z hz)⟩
        rw [take_more hw, List.foldl_append, hBi]
        exact LB6
      · subst es
        rw [List.length_map, List.take_length] at LB
        exact k H' _ _ LB kp hnew hsub
    | lose n wt d =>
      refine s_if (ev_word T (ev_var rfl) E (c := false) (by show decide (V.str (PySem.Str.ofString "lose") = V.str _) = _; decide +kernel)) (fun z => by cases z) (fun _ H0 e0 => ?_)
      refine s_if (ev_word T (ev_var rfl) (E.mono e0) (c := false) (by show decide (V.str (PySem.Str.ofString "lose") = V.str _) = _; decide +kernel)) (fun z => by cases z) (fun _ H1 e1 => ?_)
      refine s_if (ev_word T (ev_var rfl) (E.mono (e0.trans e1)) (c := false) (by show decide (V.str (PySem.Str.ofString "lose") = V.str _) = _; decide +kernel)) (fun z => by cases z) (fun _ H2 e2 => ?_)
      refine s_if (ev_word T (ev_var rfl) (E.mono ((e0.trans e1).trans e2)) (c := false) (by show decide (V.str (PySem.Str.ofString "lose") = V.str _) = _; decide +kernel)) (fun z => by cases z) (fun _ H3 e3 => ?_)
      have e03 := ((e0.trans e1).trans e2).trans e3
      have hn : n < B.lots.length := hnm.1 (n, wt) List.mem_cons_self
      obtain ⟨as, hR⟩ := E.rows
      have hR : RowsIs H r as [(n, wt)] := hR
      have hal : as.length = 1 := hR.2.1
      have ha0 : as[0]? = some (as[0]'(by omega)) := List.getElem?_eq_getElem _
      have hrow : ∀ {σ : L2.St} {H' : Hp} {te : TE}, Ex H H' → Ev te σ H' (.ref a) → Ev (tOp (rIxL K) (tFld K te "rows") (tC (.int 0))) σ H' (.ref (as[0]'(by omega))) := fun e h =>
        ev_ixL (ee_rows T h (E.mono e)) (sq_of (e _ _ hR.1)) ev_c (show atI (as.map V.ref) ((0 : Nat) : Int) = _ from atI_nat (by rw [List.getElem?_map, ha0]; rfl))
      have htup := hR.2.2 0 _ (n, wt) ha0 rfl
      obtain ⟨x, hx, LX⟩ := (L.mono e03).lotN hn
      refine q_asg (eb_lotAt (eb_lots T (ev_var rfl) (L.mono e03)) (L.mono e03) (ev_ixT (hrow e03 (ev_var rfl)) (st_of (e03 _ _ htup)) (ev_c (v := .int 0)) rfl) hx) fun H4 e4 => ?_
      refine u_lose T (ev_var rfl) (LX.mono e4) (ev_ixT (hrow (e03.trans e4) (ev_var rfl)) (st_of ((e03.trans e4) _ _ htup)) (ev_c (v := .int 1)) rfl) fun H5 dx m e5 ho => ?_
      refine k _ las gas ((L.mono ((e03.trans e4).trans e5)).modLot (f := ML.lose wt) hx (lot_some hn) ho rfl) ((Keep.of_ex ((e03.trans e4).trans e5)).trans (Keep.upd (.inr (.inr (List.mem_of_getElem? hx))))) (fun y hy => .inl hy) (fun y hy => hy)
end
end LW
end
section
set_option Elab.async false
set_option linter.all false
set_option maxRecDepth 100000
set_option maxHeartbeats 4000000

namespace LW
open PySem PySem.Spec PyProof.Rows L2 Evl LF TbLtBook
/-! ### tables as dicts -/
def tab {β : Type} (g : β → V) (l : List (Int × β)) : List (Key × V) := l.map fun p => (Sum.inl p.1, g p.2)
theorem inl_dec (a b : Int) : decide ((Sum.inl a : Key) = Sum.inl b) = decide (a = b) := by
  by_cases h : a = b
  · subst h; simp
  · rw [decide_eq_false h, decide_eq_false (fun z => h (by injection z))]
theorem valV_tab {β : Type} (g : β → V) : ∀ (l : List (Int × β)) (k : Int), valV (tab g l) (Sum.inl k) = (look l k).map g
  | [], k => rfl
  | p :: r, k => by
    rw [look_cons]
    by_cases e : p.1 = k
    · rw [if_pos e]
      exact valV_pos (show (Sum.inl p.1 : Key) = _ by rw [e])
    · rw [if_neg e, ← valV_tab g r k]
      exact valV_neg (fun z => e (by injection z))
theorem putK_tab {β : Type} (g : β → V) (l : List (Int × β)) (k : Int) (v : β) : putK (tab g l) (Sum.inl k) (g v) = tab g (putA l k v) := by
  unfold putK putA
  have e : ((tab g l).any fun kv => decide (kv.1 = Sum.inl k)) = (l.any fun p => decide (p.1 = k)) := by
    unfold tab
    rw [List.any_map]
    congr 1
    funext p
    exact inl_dec _ _
  rw [e]
  split
  · unfold tab
    rw [List.map_map, List.map_map]
    apply List.map_congr_left
    intro p _
    show (if (Sum.inl p.1 : Key) = Sum.inl k then _ else _) = (Sum.inl (if p.1 = k then (p.1, v) else p).1, g (if p.1 = k then (p.1, v) else p).2)
    by_cases h : p.1 = k
    · rw [if_pos h, if_pos (by rw [h])]
    · rw [if_neg h, if_neg (fun z => h (by injection z))]
  · unfold tab
    rw [List.map_append]; rfl
theorem tab_len {β : Type} (g : β → V) (l : List (Int × β)) : (tab g l).length = l.length := List.length_map _
theorem inV_vis (n : Nat) : ∀ l : List Nat, inV (vi n) (vis l) = l.contains n
  | [] => rfl
  | m :: r => by
    show ((m : Int) == (n : Int) || inV (vi n) (vis r)) = _
    rw [inV_vis n r, List.contains_cons]
    congr 1
    by_cases h : m = n
    · subst h; simp
    · have e0 : ((m : Int) == (n : Int)) = false := by rw [beq_eq_false_iff_ne]; omega
      have e1 : (n == m) = false := by rw [beq_eq_false_iff_ne]; omega
      rw [e0, e1]
theorem flat_vis : ∀ l : List Nat, (vis l).all flatV = true
  | [] => rfl
  | m :: r => by
    show (true && (vis r).all flatV) = true
    rw [flat_vis r]; rfl
section
variable {P : Program} {w : World} {K : PySem.W.Frag} {mg : Str → Option Value} {base : Heap} {A : Ad}
theorem ev_inN {σ : L2.St} {H : Hp} {ta tb : TE} {n : Nat} {l : List Nat} {p : Addr} (ha : Ev ta σ H (vi n)) (hb : Ev tb σ H (.ref p)) (hp : H p = some (.lst (vis l))) : Ev (tOp (rIn K false) ta tb) σ H (.bl (l.contains n)) :=
  ev_is (ev_op ha hb (rv_isL (sq_of hp) rfl (flat_vis l))) (by rw [inV_vis])
theorem ev_niN {σ : L2.St} {H : Hp} {ta tb : TE} {n : Nat} {l : List Nat} {p : Addr} (ha : Ev ta σ H (vi n)) (hb : Ev tb σ H (.ref p)) (hp : H p = some (.lst (vis l))) : Ev (tOp (rIn K true) ta tb) σ H (.bl (!l.contains n)) :=
  ev_is (ev_op ha hb (rv_niL (sq_of hp) rfl (flat_vis l))) (by rw [inV_vis])
theorem ev_eqN {σ : L2.St} {H : Hp} {ta tb : TE} {n m : Int} (ha : Ev ta σ H (.int n)) (hb : Ev tb σ H (.int m)) : EvT (tTest (tOp rEq ta tb)) σ H (decide (n = m)) :=
  et_is (et_test (ev_op ha hb (rv_eq rfl))) (by
    by_cases h : n = m
    · subst h; simp
    · rw [decide_eq_false h, decide_eq_false (fun z => h (by injection z))])
/-- [e for i, x in enumerate(a list) ..] -/
theorem lc_enum {tl te : TE} {t : TT} {σ : L2.St} {H : Hp} {r : Addr} {xs : List V} {i j : Nat} {vs : List Nat} (v : Nat → V) (f : Nat → Bool) (h : Ev tl σ H (.ref r)) (hr : SqL K H r xs) (hn : xs.length ≤ 50000)
    (hturn : ∀ (k : Nat) (x : V) (H1 : Hp), xs[k]? = some x → Ex H H1 → wipe (((wipe σ vs).set i (some (vi k))).set j (some x)) vs = wipe σ vs ∧ EvT t (((wipe σ vs).set i (some (vi k))).set j (some x)) H1 (f k) ∧
      (f k = true → Ev te (((wipe σ vs).set i (some (vi k))).set j (some x)) H1 (v k) ∧ ∀ D ys, H1 D = some (.lst ys) → v k ≠ .ref D)) :
    EvR (tLc (iEnum K (tCons tl tNil)) (gTup K 2 (gCons (gName i) (gCons (gName j) gNil))) t te vs) σ H (fun y H2 => ∃ p, y = .ref p ∧ H p = none ∧ H2 p = some (.lst ((idx xs.length f).map v))) :=
  el_lc v f (fun k => ((wipe σ vs).set i (some (vi k))).set j (some (xs.getD k .non))) (monoL (K := K) (a := r) (xs := xs)) hn (wl_enum h hr) (fun k x H1 H2 hk e1 g1 ⟨tp, x1, y1, ex, hT, eH, ei, ey⟩ => by
    have ex1 : x1 = vi k := (Option.some.inj ei).symm
    subst ex eH ex1
    rw [getD_of ey]
    have e2 : Ex H1 (upd H1 tp (.tup [vi k, y1])) := Ex.new hT
    obtain ⟨q1, q2, q3⟩ := hturn k y1 _ ey (e1.trans e2)
    exact ⟨e2, eg_tup2 (st_of upd_same), q1, q2, q3⟩)
theorem s_forEnum {tl : TE} {σ : L2.St} {H : Hp} {D : Ends} {tu : TS} {a : Addr} {xs : List V} {j1 j2 : Nat} (h : Ev tl σ H (.ref a)) (hx : SqL K H a xs) (Pv : Nat → L2.St → Hp → Prop) (h0 : ∀ H1, Ex H H1 → Pv 0 σ H1) (hl : ∀ i σ' H', i ≤ xs.length → Pv i σ' H' → SqL K H' a xs)
    (hs : ∀ i x σ' H', xs[i]? = some x → Pv i σ' H' → ∀ H2, Ex H' H2 → tu { D with nx := Pv (i + 1), ct := Pv (i + 1), bk := D.nx } ((σ'.set j1 (some (vi i))).set j2 (some x)) H2) (hd : ∀ σ' H', Pv xs.length σ' H' → D.nx σ' H') :
    tFor (iEnum K (tCons tl tNil)) (gTup K 2 (gCons (gName j1) (gCons (gName j2) gNil))) tu D σ H :=
  h H (Ex.refl H) _ fun H1 e => ⟨a, xs, rfl, ex_l e hx, for_it walk_enum Pv (h0 H1 e) (fun i σ' H' hi p => hl i σ' H' hi p) (fun i x σ' H' H2 hi p ⟨tp, x1, y1, ex, hT, eH, ei, ey⟩ => by
    have ex1 : x1 = vi i := (Option.some.inj ei).symm
    subst ex eH ex1
    exact eg_tup2 (st_of upd_same) _ (hs i y1 σ' H' ey p _ (Ex.new hT))) hd⟩
theorem q_forEnum {tl : TE} {σ : L2.St} {H : Hp} {D : Ends} {tu tz : TS} {a : Addr} {xs : List V} {j1 j2 : Nat} (h : Ev tl σ H (.ref a)) (hx : SqL K H a xs) (Pv : Nat → L2.St → Hp → Prop) (h0 : ∀ H1, Ex H H1 → Pv 0 σ H1) (hl : ∀ i σ' H', i ≤ xs.length → Pv i σ' H' → SqL K H' a xs)
    (hs : ∀ i x σ' H', xs[i]? = some x → Pv i σ' H' → ∀ H2, Ex H' H2 → tu { D with nx := Pv (i + 1), ct := Pv (i + 1), bk := tz D } ((σ'.set j1 (some (vi i))).set j2 (some x)) H2) (hd : ∀ σ' H', Pv xs.length σ' H' → tz D σ' H') :
    tSeq (tFor (iEnum K (tCons tl tNil)) (gTup K 2 (gCons (gName j1) (gCons (gName j2) gNil))) tu) tz D σ H := s_forEnum (D := { D with nx := tz D }) h hx Pv h0 hl hs hd
theorem s_forZip {t1 t2 : TE} {σ : L2.St} {H : Hp} {D : Ends} {tu : TS} {a b : Addr} {xs ys : List V} {j1 j2 : Nat} (h1 : Ev t1 σ H (.ref a)) (h2 : Ev t2 σ H (.ref b)) (hx : SqL K H a xs) (hy : SqL K H b ys) (Pv : Nat → L2.St → Hp → Prop) (h0 : ∀ H1, Ex H H1 → Pv 0 σ H1)
    (hl : ∀ i σ' H', Pv i σ' H' → SqL K H' a xs ∧ SqL K H' b ys)
    (hs : ∀ i x y σ' H', xs[i]? = some x → ys[i]? = some y → Pv i σ' H' → ∀ H2, Ex H' H2 → tu { D with nx := Pv (i + 1), ct := Pv (i + 1), bk := D.nx } ((σ'.set j1 (some x)).set j2 (some y)) H2) (hd : ∀ σ' H', Pv (min xs.length ys.length) σ' H' → D.nx σ' H') :
    tFor (iZip K (tCons t1 (tCons t2 tNil))) (gTup K 2 (gCons (gName j1) (gCons (gName j2) gNil))) tu D σ H := by
  unfold tFor iZip
  exact (ea_cons h1 (ea_cons h2 ea_nil)) H (Ex.refl H) _ fun H1 e => ⟨a, b, xs, ys, rfl, ex_l e hx, ex_l e hy, for_it (walk_zip rfl) Pv (h0 H1 e) (fun i σ' H' hi p => hl i σ' H' p) (fun i x σ' H' H2 hi p ⟨tp, x1, y1, ex, hT, eH, ei, ey⟩ => by
    subst ex eH
    exact eg_tup2 (st_of upd_same) _ (hs i x1 y1 σ' H' ei ey p _ (Ex.new hT))) hd⟩
theorem q_forZip {t1 t2 : TE} {σ : L2.St} {H : Hp} {D : Ends} {tu tz : TS} {a b : Addr} {xs ys : List V} {j1 j2 : Nat} (h1 : Ev t1 σ H (.ref a)) (h2 : Ev t2 σ H (.ref b)) (hx : SqL K H a xs) (hy : SqL K H b ys) (Pv : Nat → L2.St → Hp → Prop) (h0 : ∀ H1, Ex H H1 → Pv 0 σ H1)
    (hl : ∀ i σ' H', Pv i σ' H' → SqL K H' a xs ∧ SqL K H' b ys)
    (hs : ∀ i x y σ' H', xs[i]? = some x → ys[i]? = some y → Pv i σ' H' → ∀ H2, Ex H' H2 → tu { D with nx := Pv (i + 1), ct := Pv (i + 1), bk := tz D } ((σ'.set j1 (some x)).set j2 (some y)) H2) (hd : ∀ σ' H', Pv (min xs.length ys.length) σ' H' → tz D σ' H') :
    tSeq (tFor (iZip K (tCons t1 (tCons t2 tNil))) (gTup K 2 (gCons (gName j1) (gCons (gName j2) gNil))) tu) tz D σ H := s_forZip (D := { D with nx := tz D }) h1 h2 hx hy Pv h0 hl hs hd
/-- new pairs -/
theorem rows_of_told {H : Hp} {p : Addr} {ys : List V} {is : List Nat} {wf : Nat → Nat × Nat} (h : Told (fun i y H => ∃ q, y = .ref q ∧ H q = some (.tup [vi (wf i).1, vi (wf i).2])) H is ys) (hp : H p = some (.lst ys)) : RowsAt H p (is.map wf) := by
  have hall : ∀ y ∈ ys, ∃ q, y = V.ref q := fun y hy => by
    obtain ⟨j, hj⟩ := List.mem_iff_getElem?.mp hy
    have hl : j < is.length := by rw [← h.1]; exact (List.getElem?_eq_some_iff.mp hj).1
    obtain ⟨y', h1, q, h2, _⟩ := h.2 j _ (List.getElem?_eq_getElem hl)
    rw [hj] at h1
    exact ⟨q, by rw [Option.some.inj h1, h2]⟩
  have hmap : ∀ zs : List V, (∀ y ∈ zs, ∃ q, y = V.ref q) → ∃ as : List Addr, zs = as.map V.ref := by
    intro zs
    induction zs with
    | nil => exact fun _ => ⟨[], rfl⟩
    | cons z r ih =>
      intro hz
      obtain ⟨q, hq⟩ := hz z List.mem_cons_self
      obtain ⟨as, ha⟩ := ih fun y hy => hz y (List.mem_cons_of_mem _ hy)
      exact ⟨q :: as, by rw [hq, ha]; rfl⟩
  obtain ⟨as, ha⟩ := hmap ys hall
  subst ha
  refine ⟨as, hp, by have := h.1; rw [List.length_map] at this; rw [this, List.length_map], fun i a p' h1 h2 => ?_⟩
  rw [List.getElem?_map] at h2
  obtain ⟨k, hk, ek⟩ := Option.map_eq_some_iff.mp h2
  obtain ⟨y, h3, q, h4, h5⟩ := h.2 i k hk
  rw [List.getElem?_map, h1] at h3
  have : V.ref a = y := Option.some.inj h3
  rw [h4] at this
  cases this
  rw [← ek]; exact h5
theorem er_lcP {wi : TI} {g : TG} {t : TT} {te : TE} {σ : L2.St} {H : Hp} {vs : List Nat} {n : Nat} {G : Hp → Prop} {Y : Nat → Hp → V → Hp → Prop} (wf : Nat → Nat × Nat) (f : Nat → Bool) (σi : Nat → L2.St)
    (monoG : ∀ H1 H2, Ex H1 H2 → G H1 → G H2) (hn : n ≤ 50000)
    (hw : ∀ H1, Ex H H1 → ∀ Rs : It → Hp → Prop, (∀ J H2, Ex H1 H2 → Walk J n G Y → G H2 → Rs J H2) → wi σ H1 Rs)
    (hturn : ∀ i x H1 H2, i < n → Ex H H1 → G H1 → Y i H1 x H2 → Ex H1 H2 ∧ EvG g x (wipe σ vs) H2 (σi i) ∧ wipe (σi i) vs = wipe σ vs ∧ EvT t (σi i) H2 (f i) ∧
      (f i = true → EvR te (σi i) H2 (fun y H3 => ∃ q, y = .ref q ∧ H2 q = none ∧ H3 q = some (.tup [vi (wf i).1, vi (wf i).2])))) :
    EvR (tLc wi g t te vs) σ H (fun y H2 => ∃ p, y = .ref p ∧ H p = none ∧ RowsAt H2 p ((idx n f).map wf)) :=
  er_imp (er_lc (fun i y H => ∃ q, y = .ref q ∧ H q = some (.tup [vi (wf i).1, vi (wf i).2])) f σi (fun i y H1 H2 e ⟨q, h1, h2⟩ => ⟨q, h1, e _ _ h2⟩)
      (fun i y H1 D xs ys hD hne ⟨q, h1, h2⟩ => ⟨q, h1, by rw [upd_ne (fun z => hne (by rw [h1, z]))]; exact h2⟩) monoG hn hw fun i x H1 H2 hi e g1 y => by
      obtain ⟨h1, h2, h3, h4, h5⟩ := hturn i x H1 H2 hi e g1 y
      refine ⟨h1, h2, h3, h4, fun hf => er_imp (h5 hf) fun y H3 e3 ⟨q, q1, q2, q3⟩ => ⟨⟨q, q1, q3⟩, fun D xs hD z => ?_⟩⟩
      rw [q1] at z
      cases z
      rw [hD] at q2; cases q2)
    fun y H2 _ ⟨p, ys, h1, h2, h3, h4⟩ => ⟨p, h1, h2, rows_of_told h4 h3⟩
/-! ### founders -/
def spBook_founders (A : Ad) : Sp := fun vs H Q _ => ∃ (b ll gl : Addr) (las gas : List Addr) (B : MB), vs = [.ref b] ∧ BookIs A H b ll gl las gas B ∧ B.lots.length ≤ 1000 ∧
  ∀ p H', H p = none → Ex H H' → H' p = some (.lst (vis B.founders)) → Q (.ref p) H'
theorem las_at {H : Hp} {b ll gl : Addr} {las gas : List Addr} {B : MB} (L : BookIs A H b ll gl las gas B) {k : Nat} {x : V} (h : (las.map V.ref)[k]? = some x) : ∃ a, x = .ref a ∧ las[k]? = some a ∧ k < B.lots.length ∧ LotAt A H ll gl a (B.lot k) := by
  rw [List.getElem?_map] at h
  obtain ⟨a, ha, e⟩ := Option.map_eq_some_iff.mp h
  have hk : k < B.lots.length := by rw [← L.ln]; exact (List.getElem?_eq_some_iff.mp ha).1
  obtain ⟨a', ha', L'⟩ := L.lotN hk
  rw [ha] at ha'
  cases ha'
  exact ⟨a, e.symm, ha, hk, L'⟩
theorem et_founder (T : Txt K mg A) {σ : L2.St} {H : Hp} {ta : TE} {ll gl a : Addr} {l : ML} {E : XK} (h : Ev ta σ H (.ref a)) (L : LotAt A H ll gl a l) : Ev (tMeth A.c_Lot "is_founder" (spLot_is_founder A) [] E ta tNil) σ H (.bl l.founder) :=
  let ⟨_, _, ho, _⟩ := L
  ev_meth0 h ho lk_Lot_is_founder (sv_founder L)
theorem ev_left (T : Txt K mg A) {σ : L2.St} {H : Hp} {ta : TE} {ll gl a : Addr} {l : ML} {E : XK} (h : Ev ta σ H (.ref a)) (L : LotAt A H ll gl a l) : Ev (tMeth A.c_Lot "left" (spLot_left A) [] E ta tNil) σ H (.int l.left) :=
  let ⟨_, _, ho, _⟩ := L
  ev_meth0 h ho lk_Lot_left (sv_left L)
theorem ok_Book_founders (T : Txt K mg A) : FnOk P w K mg base CX0 2 A.f_Book_founders A.d_Book_founders ["self"] (spBook_founders A) := by
  refine T.fn_Book_founders.ok sc_Book_founders (fun vs H Q E h => ?_) (fun cdv Ar outer s H vs Q E hr h => ⟨_, (pss_one (ps_ret (pe_lc (g := (gTup K 2 (gCons (gName 1) (gCons (gName 2) gNil)))) (tt := (tB (tMeth A.c_Lot "is_founder" (spLot_is_founder A) [] E0 (tVar 2) tNil))) (te := (tVar 1)) (own := [("number", 1), ("lot", 2)]) rfl sc_Book_founders.nd (pi_enum (by rfl) T.b_enumerate (pa_cons (pe_fld (pv 0) rfl) pa_nil)) (blkOk_by (own := [("number", 1), ("lot", 2)]) (N := N_Book_founders) (sc := defScope s_Book_founders) (by decide +kernel)) (fun _ _ _ _ _ => by exact (pg_tup rfl (pgs_cons (pg_name (i := 1) sc_Book_founders.nd rfl (Or.inl rfl)) (pgs_cons (pg_name (i := 2) sc_Book_founders.nd rfl (Or.inl rfl)) pgs_nil)))) (fun _ _ _ _ _ => by exact (pts_one (pt_val (pe_meth0 (pv 2) T.cl_Lot T.me_Lot_is_founder (ok_Lot_is_founder T) (hr.mono (by decide)) T.bi_Lot_is_founder .nil pass0)))) (fun _ _ _ _ _ => by exact (pv 1))))), ?_⟩)
  · obtain ⟨_, _, _, _, _, _, rfl, _⟩ := h
    rfl
  · obtain ⟨b, ll, gl, las, gas, B, rfl, L, hz, k⟩ := h
    refine s_retR (lc_enum (fun k => vi k) (fun k => (B.lot k).founder) (eb_lots T (ev_var rfl) L) (sq_of L.hl) (by rw [List.length_map, L.ln]; omega) fun k x H1 hx e1 => ?_) fun y H1 e1 ⟨p, ey, hp, hp1⟩ => ?_
    · obtain ⟨a, ex, ha, hk, LA⟩ := las_at (L.mono e1) hx
      subst ex
      exact ⟨rfl, et_B (et_founder T (ev_var rfl) LA), fun _ => ⟨ev_var rfl, fun D ys hD z => by cases z⟩⟩
    · subst ey
      rw [List.length_map, L.ln] at hp1
      exact k p H1 hp e1 hp1
end
end LW
end
section
set_option Elab.async false
set_option linter.all false
set_option maxRecDepth 100000
set_option maxHeartbeats 4000000

namespace LW
open PySem PySem.Spec PyProof.Rows L2 Evl LF TbLtBook
section
variable {P : Program} {w : World} {K : PySem.W.Frag} {mg : Str → Option Value} {base : Heap} {A : Ad}
theorem s_extR {D : Ends} {σ : L2.St} {H : Hp} {ta te : TE} {R : Addr → List V → Hp → Prop} {l : Addr} {xs : List V} (hl : H l = some (.lst xs)) (ha : Ev ta σ H (.ref l))
    (h : EvR te σ H (fun y H2 => ∃ p zs, y = .ref p ∧ (H2 p = some (.lst zs) ∨ SqT K H2 p zs) ∧ xs.length + zs.length ≤ 100000 ∧ R p zs H2)) (k : ∀ p zs H1, Ex H H1 → R p zs H1 → D.nx σ (upd H1 l (.lst (xs ++ zs)))) :
    tDrop (tBM K "list" (rExtendA K) ta (tCons te tNil)) D σ H := ha H (Ex.refl H) _ fun H1 e1 =>
  ⟨Or.inl ⟨rfl, xs, sq_of (e1 l _ hl)⟩, h H1 e1 _ fun y H2 e2 ⟨p, zs, ey, hp, hz, r⟩ => ⟨l, p, xs, zs, rfl, by rw [ey], e2 l _ (e1 l _ hl), hp, sz_of hz, k p zs H2 (e1.trans e2) r⟩⟩
theorem q_extR {D : Ends} {tz : TS} {σ : L2.St} {H : Hp} {ta te : TE} {R : Addr → List V → Hp → Prop} {l : Addr} {xs : List V} (hl : H l = some (.lst xs)) (ha : Ev ta σ H (.ref l))
    (h : EvR te σ H (fun y H2 => ∃ p zs, y = .ref p ∧ (H2 p = some (.lst zs) ∨ SqT K H2 p zs) ∧ xs.length + zs.length ≤ 100000 ∧ R p zs H2)) (k : ∀ p zs H1, Ex H H1 → R p zs H1 → tz D σ (upd H1 l (.lst (xs ++ zs)))) :
    tSeq (tDrop (tBM K "list" (rExtendA K) ta (tCons te tNil))) tz D σ H := s_extR (D := { D with nx := tz D }) hl ha h k
def MBleg (B : MB) (k : Nat) : Leg := B.legs.getD k ⟨0, 0, 0⟩
/-- the k-th leg of a book -/
theorem gas_at {H : Hp} {b ll gl : Addr} {las gas : List Addr} {B : MB} (L : BookIs A H b ll gl las gas B) {k : Nat} {x : V} (h : (gas.map V.ref)[k]? = some x) : ∃ a, x = .ref a ∧ gas[k]? = some a ∧ k < B.legs.length ∧ B.legs[k]? = some (MBleg B k) ∧ LegAt H a (MBleg B k) := by
  rw [List.getElem?_map] at h
  obtain ⟨a, ha, e⟩ := Option.map_eq_some_iff.mp h
  have hk : k < B.legs.length := by rw [← L.gn]; exact (List.getElem?_eq_some_iff.mp ha).1
  have hg : B.legs[k]? = some (MBleg B k) := by unfold MBleg; rw [List.getD_eq_getElem?_getD, List.getElem?_eq_getElem hk]; rfl
  exact ⟨a, e.symm, ha, hk, hg, L.leg k a _ ha hg⟩
theorem rows_append {H : Hp} {q : Addr} {as1 as2 : List Addr} {p1 p2 : List (Nat × Nat)} (h1 : RowsIs H q as1 p1) (h2 : as2.length = p2.length) (h3 : ∀ (i : Nat) (a : Addr) (p : Nat × Nat), as2[i]? = some a → p2[i]? = some p → H a = some (.tup [vi p.1, vi p.2])) :
    RowsIs (upd H q (.lst ((as1 ++ as2).map V.ref))) q (as1 ++ as2) (p1 ++ p2) := by
  have nq : ∀ a xs, H a = some (.tup xs) → a ≠ q := fun a xs h z => by rw [z, h1.1] at h; cases h
  refine ⟨upd_same, by rw [List.length_append, List.length_append, h1.2.1, h2], fun i a p e1 e2 => ?_⟩
  have key : H a = some (.tup [vi p.1, vi p.2]) := by
    by_cases hi : i < as1.length
    · rw [List.getElem?_append_left hi] at e1
      rw [List.getElem?_append_left (by rw [← h1.2.1]; exact hi)] at e2
      exact h1.2.2 i a p e1 e2
    · rw [List.getElem?_append_right (by omega)] at e1
      rw [List.getElem?_append_right (by rw [← h1.2.1]; omega), ← h1.2.1] at e2
      exact h3 _ a p e1 e2
  rw [upd_ne (nq a _ key)]; exact key
def spBook_steps (A : Ad) : Sp := fun vs H Q _ => ∃ (b ll gl : Addr) (las gas : List Addr) (B : MB), vs = [.ref b] ∧ BookIs A H b ll gl las gas B ∧ B.Fine ∧
  ∀ p H', H p = none → Ex H H' → RowsAt H' p B.steps → Q (.ref p) H'
theorem ok_Book_steps (T : Txt K mg A) : FnOk P w K mg base CX0 1 A.f_Book_steps A.d_Book_steps ["self"] (spBook_steps A) := by
  refine T.fn_Book_steps.ok sc_Book_steps (fun vs H Q E h => ?_) (fun cdv Ar outer s H vs Q E hr h => ⟨_, (pss_cons (ps_setLc (i := 1) (g := (gTup K 3 (gCons (gName 4) (gCons (gName 5) (gCons (gName 6) gNil))))) (tt := tYes) (te := (tTup (tCons (tVar 4) (tCons (tVar 5) tNil)))) (own := [("first", 4), ("second", 5), ("weight", 6)]) rfl sc_Book_steps.nd rfl rfl (sw_true rfl rfl rfl (by decide +kernel)) (pi_list (pe_fld (pv 0) rfl)) (blkOk_by (own := [("first", 4), ("second", 5), ("weight", 6)]) (N := N_Book_steps) (sc := defScope s_Book_steps) (by decide +kernel)) (fun _ _ _ _ _ => by exact (pg_tup rfl (pgs_cons (pg_name (i := 4) sc_Book_steps.nd rfl (Or.inl rfl)) (pgs_cons (pg_name (i := 5) sc_Book_steps.nd rfl (Or.inl rfl)) (pgs_cons (pg_name (i := 6) sc_Book_steps.nd rfl (Or.inl rfl)) pgs_nil))))) (fun _ _ _ _ _ => by exact pts_nil) (fun _ _ _ _ _ => by exact (pe_tup (pa_cons (pv 4) (pa_cons (pv 5) pa_nil)))))
    (pss_cons (ps_for PassesOwn.never rfl (pi_enum (by rfl) T.b_enumerate (pa_cons (pe_fld (pv 0) rfl) pa_nil)) (pg_tup rfl (pgs_cons (pg_name (i := 2) sc_Book_steps.nd rfl (Or.inr rfl)) (pgs_cons (pg_name (i := 3) sc_Book_steps.nd rfl (Or.inl rfl)) pgs_nil))) (pss_one (ps_expr (pe_bm PySem.F.plainAttrs_list PySem.F.slot_list_extend PySem.F.type_list_extend mt_extendA (pv 1) (pa_cons (pe_lc (g := (gName 7)) (tt := tYes) (te := (tTup (tCons (tVar 7) (tCons (tVar 2) tNil)))) (own := [("mother", 7)]) rfl sc_Book_steps.nd (pi_list (pe_fld (pv 3) rfl)) (blkOk_by (own := [("mother", 7)]) (N := N_Book_steps) (sc := defScope s_Book_steps) (by decide +kernel)) (fun _ _ _ _ _ => by exact (pg_name (i := 7) sc_Book_steps.nd rfl (Or.inl rfl))) (fun _ _ _ _ _ => by exact pts_nil) (fun _ _ _ _ _ => by exact (pe_tup (pa_cons (pv 7) (pa_cons (pv 2) pa_nil))))) pa_nil)))))
    (pss_one (ps_ret (pv 1))))), ?_⟩)
  · obtain ⟨_, _, _, _, _, _, rfl, _⟩ := h
    rfl
  · obtain ⟨b, ll, gl, las, gas, B, rfl, L, F, k⟩ := h
    have hF := F.legs
    refine q_asgR (er_lcP (fun k => ((MBleg B k).of, (MBleg B k).to)) (fun _ => true) (fun k => [some (.ref b), none, none, none, some (vi (MBleg B k).of), some (vi (MBleg B k).to), some (vi (MBleg B k).weight), none]) (monoL (K := K) (a := gl) (xs := gas.map V.ref)) (by rw [List.length_map, L.gn]; omega) (wl_list (eb_legs T (ev_var rfl) L) (sq_of L.hg))
      fun k x H1 H2 hk e1 g1 ⟨eH, hx⟩ => ?_) fun y H1 e1 ⟨q, ey, hq, hq1⟩ => ?_
    · subst eH
      obtain ⟨a, ex, ha, hk, hg, LA⟩ := gas_at (L.mono e1) hx
      subst ex
      exact ⟨Ex.refl _, eg_tup3 (st_of LA), rfl, et_yes, fun _ => er_tup (ea_cons (ev_var rfl) (ea_cons (ev_var rfl) ea_nil)) (by show 2 ≤ 100000; decide)⟩
    · subst ey
      rw [List.length_map, L.gn, idx_all, show (fun k => ((MBleg B k).of, (MBleg B k).to)) = (fun k => (fun g : Leg => (g.of, g.to)) (B.legs.getD k ⟨0, 0, 0⟩)) from rfl, range_getD B.legs ⟨0, 0, 0⟩ (fun g : Leg => (g.of, g.to))] at hq1
      refine q_forEnum (eb_lots T (ev_var rfl) (L.mono e1)) (sq_of (L.mono e1).hl) (fun i σ' H' => ∃ v2 v3, σ' = [some (.ref b), some (.ref q), v2, v3, none, none, none, none] ∧ Ex H H' ∧ RowsAt H' q ((B.legs.map fun g => (g.of, g.to)) ++ (List.range i).flatMap fun n => (B.lot n).mothers.map fun m => (m, n)))
        (fun H2 e2 => ⟨_, _, rfl, e1.trans e2, by rw [List.range_zero, List.flatMap_nil, List.append_nil]; exact hq1.mono e2⟩) (fun i σ' H' hi ⟨_, _, _, e', _⟩ => sq_of (e' _ _ L.hl)) (fun i x σ' H' hx ⟨v2, v3, es, e', hR⟩ H2 e2 => ?_) (fun σ' H' ⟨v2, v3, es, e', hR⟩ => ?_)
      · subst es
        obtain ⟨a, ex, ha, hi, dx, m, LA1, LA2, LA3⟩ := las_at (L.mono (e'.trans e2)) hx
        subst ex
        have LA : LotAt A H2 ll gl a (B.lot i) := ⟨dx, m, LA1, LA2, LA3⟩
        obtain ⟨as1, hR1⟩ := hR.mono e2
        have hR1 : RowsIs H2 q as1 _ := hR1
        have hml := F.mothers i
        have hl1 := MB.steps_le F.lots F.legs F.mothers i
        have hlots := F.lots
        refine s_extR (R := fun p zs H3 => ∃ as2 : List Addr, zs = as2.map V.ref ∧ as2.length = ((B.lot i).mothers.map fun m => (m, i)).length ∧ ∀ (j : Nat) (a : Addr) (p : Nat × Nat), as2[j]? = some a → ((B.lot i).mothers.map fun m => (m, i))[j]? = some p → H3 a = some (.tup [vi p.1, vi p.2])) hR1.1 (ev_var rfl)
          (er_imp (er_lcP (fun k => ((B.lot i).mothers.getD k 0, i)) (fun _ => true) (fun k => [some (.ref b), some (.ref q), some (vi i), some (.ref a), none, none, none, some (vi ((B.lot i).mothers.getD k 0))]) (monoL (K := K) (a := m) (xs := vis (B.lot i).mothers)) (by unfold vis; rw [List.length_map]; omega)
            (wl_list (ev_Lot_mothers T (ev_var rfl) LA1) (sq_of LA2)) fun k x H3 H4 hk e3 g1 ⟨eH, hx⟩ => ?_) fun y H3 e3 ⟨p, ey, hp, hp1⟩ => ?_) fun p zs H3 e3 ⟨as2, hz, z1, z2⟩ => ⟨_, _, rfl, ?_, ?_⟩
        · subst eH
          unfold vis at hx
          rw [List.getElem?_map] at hx
          obtain ⟨m', hm', ex⟩ := Option.map_eq_some_iff.mp hx
          rw [getD_of hm', ← ex]
          exact ⟨Ex.refl _, eg_name, rfl, et_yes, fun _ => er_tup (ea_cons (ev_var rfl) (ea_cons (ev_var rfl) ea_nil)) (by show 2 ≤ 100000; decide)⟩
        · have hlen : (vis (B.lot i).mothers).length = (B.lot i).mothers.length := List.length_map _
          rw [hlen, idx_all, range_getD (B.lot i).mothers 0 (fun m => (m, i))] at hp1
          obtain ⟨as2, p1, p2, p3⟩ := hp1
          refine ⟨p, as2.map V.ref, ey, .inl p1, ?_, as2, rfl, p2, p3⟩
          rw [List.length_map, List.length_map, hR1.2.1, p2, List.length_map]
          omega
        · exact ((e'.trans e2).trans e3).mut hq
        · rw [hz, ← List.map_append, List.range_succ, List.flatMap_append]
          have h3 := rows_append (q := q) (as1 := as1) ⟨e3 _ _ hR1.1, hR1.2.1, fun i a p h1 h2 => e3 _ _ (hR1.2.2 i a p h1 h2)⟩ z1 z2
          rw [show (List.flatMap (fun n => (B.lot n).mothers.map fun m => (m, n)) [i]) = (B.lot i).mothers.map (fun m => (m, i)) from by simp, ← List.append_assoc]
          exact ⟨_, h3⟩
      · subst es
        refine s_ret (ev_var rfl) fun H2 e2 => k q H2 hq (e'.trans e2) ?_
        rw [List.length_map, L.ln] at hR
        exact hR.mono e2
end
end LW
end
section
set_option Elab.async false
set_option linter.all false
set_option maxRecDepth 100000
set_option maxHeartbeats 4000000

namespace LW
open PySem PySem.Spec PyProof.Rows L2 Evl LF TbLtBook
section
variable {P : Program} {w : World} {K : PySem.W.Frag} {mg : Str → Option Value} {base : Heap} {A : Ad}
/-! ### dicts whose keys are ints -/
theorem ev_dget {σ : L2.St} {H : Hp} {td ty : TE} {d : Addr} {kvs : List (Key × V)} {k : Int} {v : V} (hd : H d = some (.dK kvs)) (h1 : Ev td σ H (.ref d)) (h2 : Ev ty σ H (.int k)) (hv : valV kvs (Sum.inl k) = some v) : Ev (tDGet td ty) σ H v := fun H1 e Q q =>
  h1 H1 e _ fun H2 e2 => h2 H2 (e.trans e2) _ fun H3 e3 => ⟨d, v, rfl, .inl ⟨kvs, Sum.inl k, .inl (((e.trans e2).trans e3) _ _ hd), rfl, hv.symm⟩, q H3 (e2.trans e3)⟩
theorem ev_dnotin {σ : L2.St} {H : Hp} {td ty : TE} {d : Addr} {kvs : List (Key × V)} {k : Int} (hd : H d = some (.dK kvs)) (h2 : Ev ty σ H (.int k)) (h1 : Ev td σ H (.ref d)) : Ev (tDNotIn ty td) σ H (.bl (!(valV kvs (Sum.inl k)).isSome)) := fun H1 e Q q =>
  h2 H1 e _ fun H2 e2 => h1 H2 (e.trans e2) _ fun H3 e3 => ⟨d, _, rfl, .inl ⟨kvs, Sum.inl k, .inl (((e.trans e2).trans e3) _ _ hd), rfl, rfl⟩, q H3 (e2.trans e3)⟩
theorem ev_din {σ : L2.St} {H : Hp} {td ty : TE} {d : Addr} {kvs : List (Key × V)} {k : Int} (hd : H d = some (.dK kvs)) (h2 : Ev ty σ H (.int k)) (h1 : Ev td σ H (.ref d)) : Ev (tDIn ty td) σ H (.bl (valV kvs (Sum.inl k)).isSome) := fun H1 e Q q =>
  h2 H1 e _ fun H2 e2 => h1 H2 (e.trans e2) _ fun H3 e3 => ⟨d, _, rfl, .inl ⟨kvs, Sum.inl k, .inl (((e.trans e2).trans e3) _ _ hd), rfl, rfl⟩, q H3 (e2.trans e3)⟩
theorem s_dput {D : Ends} {σ : L2.St} {H : Hp} {td ty tv : TE} {d : Addr} {kvs : List (Key × V)} {k : Int} {v : V} (hd : H d = some (.dK kvs)) (h1 : Ev td σ H (.ref d)) (h2 : Ev ty σ H (.int k)) (hv : Ev tv σ H v) (hz : kvs.length < 100000)
    (go : ∀ H1, Ex H H1 → D.nx σ (upd H1 d (.dK (putK kvs (Sum.inl k) v)))) : sDPut td ty tv D σ H :=
  hv H (Ex.refl H) _ fun H1 e1 => h1 H1 e1 _ fun H2 e2 => h2 H2 (e1.trans e2) _ fun H3 e3 => ⟨d, _, rfl, .inl ⟨kvs, Sum.inl k, ((e1.trans e2).trans e3) _ _ hd, rfl, sz_lt hz, rfl⟩, go H3 ((e1.trans e2).trans e3)⟩
theorem q_dput {D : Ends} {tz : TS} {σ : L2.St} {H : Hp} {td ty tv : TE} {d : Addr} {kvs : List (Key × V)} {k : Int} {v : V} (hd : H d = some (.dK kvs)) (h1 : Ev td σ H (.ref d)) (h2 : Ev ty σ H (.int k)) (hv : Ev tv σ H v) (hz : kvs.length < 100000)
    (go : ∀ H1, Ex H H1 → tz D σ (upd H1 d (.dK (putK kvs (Sum.inl k) v)))) : tSeq (sDPut td ty tv) tz D σ H := s_dput (D := { D with nx := tz D }) hd h1 h2 hv hz go
/-- a comprehension's source, evaluated first -/
theorem er_src {tl te : TE} {g : TG} {t : TT} {vs : List Nat} {σ : L2.St} {H : Hp} {R S : V → Hp → Prop} (h : EvR tl σ H R) (k : ∀ y H1, Ex H H1 → R y H1 → EvR (tLc (iList K (tC y)) g t te vs) σ H1 S) : EvR (tLc (iList K tl) g t te vs) σ H S := fun H1 e Q q =>
  h H1 e _ fun y H2 e2 r => (k y H2 (e.trans e2) r) H2 (Ex.refl H2) Q fun z H3 e3 s => q z H3 (e2.trans e3) s
theorem er_steps {σ : L2.St} {H : Hp} {to : TE} {b ll gl : Addr} {las gas : List Addr} {B : MB} {E : XK} (L : BookIs A H b ll gl las gas B) (F : B.Fine) (ho : Ev to σ H (.ref b)) :
    EvR (tMeth A.c_Book "steps" (spBook_steps A) [] E to tNil) σ H (fun y H2 => ∃ p, y = .ref p ∧ H p = none ∧ RowsAt H2 p B.steps) :=
  let ⟨_, hobj⟩ := L.obj
  er_meth0 ho hobj lk_Book_steps fun H1 e Q q E => ⟨b, ll, gl, las, gas, B, rfl, L.mono e, F, fun p H' hp e' h' => q _ H' e' ⟨p, rfl, fresh_back e hp, h'⟩⟩
def swapP (r : Nat × Nat) : Nat × Nat := (r.2, r.1)
def MBrows (B : MB) (back : Bool) : List (Nat × Nat) := if back = true then B.steps.map swapP else B.steps
def begTab (l : List Nat) : Tab := l.map fun (n : Nat) => ((n : Int), (0 : Int))
def spBook_steps_from (A : Ad) : Sp := fun vs H Q _ => ∃ (b ll gl p : Addr) (las gas : List Addr) (B : MB) (l : List Nat) (back : Bool), vs = [.ref b, .ref p, .bl back] ∧ BookIs A H b ll gl las gas B ∧ B.Fine ∧ H p = some (.lst (vis l)) ∧ l.Nodup ∧ (∀ n ∈ l, n < B.lots.length) ∧
  ∀ d H', H d = none → Ex H H' → H' d = some (.dK (tab V.int (bfs (MBrows B back) (B.lots.length + 1) 0 (begTab l)))) → Q (.ref d) H'
theorem putA_new {t : Tab} {k v : Int} (h : look t k = none) : putA t k v = t ++ [(k, v)] := by
  unfold putA
  rw [look_any, h]
  rfl
theorem ok_Book_steps_from (T : Txt K mg A) : FnOk P w K mg base CX0 2 A.f_Book_steps_from A.d_Book_steps_from ["self", "begins", "is_back"] (spBook_steps_from A) := by
  refine T.fn_Book_steps_from.ok sc_Book_steps_from (fun vs H Q E h => ?_) (fun cdv Ar outer s H vs Q E hr h => ⟨_, (pss_cons (ps_set (i := 3) sc_Book_steps_from.nd rfl (Or.inl rfl) pe_dnewK)
    (pss_cons (ps_set (i := 4) sc_Book_steps_from.nd rfl (Or.inl rfl) (pe_callTy call_list_of (by rfl) T.b_list (by decide +kernel) (pa_cons (pv 1) pa_nil)))
    (pss_cons (ps_for PassesOwn.never rfl (pi_list (pv 1)) (pg_name (i := 5) sc_Book_steps_from.nd rfl (Or.inl rfl)) (pss_one (ps_dput (hu_of hr) (pv 3) (pv 5) pe_int rfl)))
    (pss_cons (ps_setLc (i := 6) (g := (gTup K 2 (gCons (gName 8) (gCons (gName 9) gNil)))) (tt := tYes) (te := (tIf (tB (tVar 2)) (tTup (tCons (tVar 9) (tCons (tVar 8) tNil))) (tTup (tCons (tVar 8) (tCons (tVar 9) tNil))))) (own := [("first", 8), ("second", 9)]) rfl sc_Book_steps_from.nd rfl rfl (sw_true rfl rfl rfl (by decide +kernel)) (pi_list (pe_meth0 (pv 0) T.cl_Book T.me_Book_steps (ok_Book_steps T) (hr.mono (by decide)) T.bi_Book_steps .nil pass0)) (blkOk_by (own := [("first", 8), ("second", 9)]) (N := N_Book_steps_from) (sc := defScope s_Book_steps_from) (by decide +kernel)) (fun _ _ _ _ _ => by exact (pg_tup rfl (pgs_cons (pg_name (i := 8) sc_Book_steps_from.nd rfl (Or.inl rfl)) (pgs_cons (pg_name (i := 9) sc_Book_steps_from.nd rfl (Or.inl rfl)) pgs_nil)))) (fun _ _ _ _ _ => by exact pts_nil) (fun _ _ _ _ _ => by exact (pe_ifExp (pt_val (pv 2)) (pe_tup (pa_cons (pv 9) (pa_cons (pv 8) pa_nil))) (pe_tup (pa_cons (pv 8) (pa_cons (pv 9) pa_nil))))))
    (pss_cons (ps_set (i := 7) sc_Book_steps_from.nd rfl (Or.inl rfl) pe_int)
    (pss_cons (ps_while PassesOwn.never (pt_cmpR op_lt (pv 7) (pe_callB call_len_seq (by rfl) T.b_len PySem.boot_len (pa_cons (pv 4) pa_nil)) (nomark _)) (pss_cons (ps_for PassesOwn.never rfl (pi_list (pv 6)) (pg_tup rfl (pgs_cons (pg_name (i := 8) sc_Book_steps_from.nd rfl (Or.inl rfl)) (pgs_cons (pg_name (i := 9) sc_Book_steps_from.nd rfl (Or.inl rfl)) pgs_nil))) (pss_one (ps_if (PW.pt (pw_and (pt_cmpR op_eq (pv 8) (pe_ix ix_list (pv 4) (pv 7) (fun _ _ => rfl)) (nomark _)) (pw_and1 (pt_cmp (pc_dnotin (hu_of hr) (pv 9) (pv 3)))))) (pss_cons (ps_dput (hu_of hr) (pv 3) (pv 9) (pe_op op_add (pe_dget (hu_of hr) (pv 3) (pv 8) (fun _ _ => rfl)) pe_int) rfl)
    (pss_one (ps_expr (pe_bm PySem.F.plainAttrs_list PySem.F.slot_list_append PySem.F.type_list_append mt_append (pv 4) (pa_cons (pv 9) pa_nil))))) pss_nil)))
    (pss_one (ps_aug (i := 7) sc_Book_steps_from.nd rfl (Or.inl rfl) pe_int ip_add))))
    (pss_one (ps_ret (pv 3))))))))), ?_⟩)
  · obtain ⟨_, _, _, _, _, _, _, _, _, rfl, _⟩ := h
    rfl
  · obtain ⟨b, ll, gl, p, las, gas, B, l, back, rfl, L, F, hp, nd, hl, k⟩ := h
    have hlots := F.lots
    have hsl := F.slen
    have hll : l.length ≤ B.lots.length := nodup_lt nd hl
    intro d hd
    refine q_asgL (el_list (ev_var rfl) (sq_of (by rw [upd_ne (ne_of_none hp hd)]; exact hp))) fun u H1 hu e1 h1 => ?_
    have hdu : d ≠ u := fun z => by rw [← z, upd_same] at hu; cases hu
    have hu0 : H u = none := by rw [← hu, upd_ne (Ne.symm hdu)]
    have hd1 : H1 d = some (.dK []) := e1 _ _ upd_same
    have e01 : Ex H H1 := (Ex.new hd).trans e1
    refine q_forLn (ev_var rfl) (sq_of (e01 _ _ hp)) (fun i σ' H' => ∃ v5, σ' = [some (.ref b), some (.ref p), some (.bl back), some (.ref d), some (.ref u), v5, none, none, none, none] ∧ Ex H H' ∧ H' u = some (.lst (vis l)) ∧ H' d = some (.dK (tab V.int (begTab (l.take i)))))
      (fun H2 e2 => ⟨_, rfl, e01.trans e2, e2 _ _ h1, e2 _ _ hd1⟩) (fun i σ' H' hi ⟨_, _, e', _⟩ => sq_of (e' _ _ hp)) (fun i x σ' H' hx ⟨v5, es, e', hu', hd'⟩ => ?_) (fun σ' H' ⟨v5, es, e', hu', hd'⟩ => ?_)
    · subst es
      unfold vis at hx
      rw [List.getElem?_map] at hx
      obtain ⟨n, hn, ex⟩ := Option.map_eq_some_iff.mp hx
      subst ex
      have hli : (begTab (l.take i)).length ≤ l.length := by unfold begTab; rw [List.length_map]; exact List.length_take_le' _ _
      refine s_dput hd' (ev_var rfl) (ev_var rfl) ev_c (by rw [tab_len]; omega) fun H2 e2 => ⟨_, rfl, (e'.trans e2).mut hd, by rw [upd_ne (Ne.symm hdu)]; exact e2 _ _ hu', ?_⟩
      rw [upd_same, show (V.int 0) = V.int ((0 : Int)) from rfl, putK_tab]
      have hnone : look (begTab (l.take i)) (n : Int) = none := by
        rw [look_none]
        intro z
        obtain ⟨q, hq, ez⟩ := List.mem_map.mp z
        unfold begTab at hq
        obtain ⟨m, hm, em⟩ := List.mem_map.mp hq
        have : m = n := by rw [← em] at ez; have ez : (m : Int) = n := ez; omega
        subst this
        obtain ⟨j, hj⟩ := List.mem_iff_getElem?.mp hm
        have hji : j < i := by
          have := (List.getElem?_eq_some_iff.mp hj).1
          rw [List.length_take] at this
          omega
        rw [List.getElem?_take_of_lt hji] at hj
        obtain ⟨q1, e1⟩ := List.getElem?_eq_some_iff.mp hj
        obtain ⟨q2, e2⟩ := List.getElem?_eq_some_iff.mp hn
        have := (List.getElem_inj nd).mp (e1.trans e2.symm)
        omega
      rw [putA_new hnone, take_more hn]
      unfold begTab
      rw [List.map_append]; rfl
    · subst es
      rw [show (vis l).length = l.length from List.length_map _, List.take_length] at hd'
      have L' := L.mono e'
      refine q_asgR (R := fun y H2 => ∃ p, y = .ref p ∧ H' p = none ∧ RowsAt H2 p (MBrows B back)) (er_src (er_steps L' F (ev_var rfl)) fun y H2 e2 ⟨q, ey, hq, hR⟩ => ?_) fun y H2 e2 ⟨rw', ey, hrw, hR⟩ => ?_
      · subst ey
        obtain ⟨as, R1, R2, R3⟩ := hR
        refine er_imp (er_lcP (fun k => if back = true then swapP (B.steps.getD k (0, 0)) else B.steps.getD k (0, 0)) (fun _ => true) (fun k => [some (.ref b), some (.ref p), some (.bl back), some (.ref d), some (.ref u), v5, none, none, some (vi (B.steps.getD k (0, 0)).1), some (vi (B.steps.getD k (0, 0)).2)]) (monoL (K := K) (a := q) (xs := as.map V.ref)) (by rw [List.length_map, R2]; omega) (wl_list ev_c (sq_of R1))
          fun i x H3 H4 hi e3 g1 ⟨eH, hx⟩ => ?_) fun y H3 e3 ⟨p', ey, hp', hp1⟩ => ⟨p', ey, fresh_back e2 hp', ?_⟩
        · subst eH
          rw [List.getElem?_map] at hx
          obtain ⟨a, ha, ex⟩ := Option.map_eq_some_iff.mp hx
          have hi' : i < B.steps.length := by rw [← R2]; exact (List.getElem?_eq_some_iff.mp ha).1
          have hs : B.steps[i]? = some (B.steps.getD i (0, 0)) := by rw [List.getD_eq_getElem?_getD, List.getElem?_eq_getElem hi']; rfl
          subst ex
          refine ⟨Ex.refl _, eg_tup2 (st_of (e3 _ _ (R3 i a _ ha hs))), rfl, et_yes, fun _ => er_if (et_B (ev_var rfl)) (fun hb => ?_) fun hb => ?_⟩
          · rw [if_pos hb]
            exact er_tup (ea_cons (ev_var rfl) (ea_cons (ev_var rfl) ea_nil)) (by show 2 ≤ 100000; decide)
          · rw [if_neg (by rw [hb]; decide)]
            exact er_tup (ea_cons (ev_var rfl) (ea_cons (ev_var rfl) ea_nil)) (by show 2 ≤ 100000; decide)
        · rw [List.length_map, R2, idx_all] at hp1
          unfold MBrows
          cases back with
          | true =>
            have hp1 : RowsAt H3 p' ((List.range B.steps.length).map fun k => swapP (B.steps.getD k (0, 0))) := hp1
            rw [range_getD B.steps (0, 0) swapP] at hp1
            exact hp1
          | false =>
            have hp1 : RowsAt H3 p' ((List.range B.steps.length).map fun k => (fun r => r) (B.steps.getD k (0, 0))) := hp1
            rw [range_getD B.steps (0, 0) (fun r => r), List.map_id'] at hp1
            exact hp1
      · subst ey
        have hrlen : (MBrows B back).length = B.steps.length := by unfold MBrows; split; exact List.length_map _; rfl
        have hrr : ∀ r ∈ MBrows B back, r.1 < B.lots.length ∧ r.2 < B.lots.length := by
          intro r hr
          unfold MBrows at hr
          split at hr
          · obtain ⟨r', h', rfl⟩ := List.mem_map.mp hr
            exact ⟨(F.step r' h').2, (F.step r' h').1⟩
          · exact F.step r hr
        obtain ⟨as, R1, R2, R3⟩ := hR
        have nrd : rw' ≠ d := fun z => by rw [z, hd'] at hrw; cases hrw
        have nru : rw' ≠ u := fun z => by rw [z, hu'] at hrw; cases hrw
        have hrw0 : H rw' = none := fresh_back e' hrw
        have hRok : ∀ {H3 : Hp}, (H3 rw' = some (.lst (as.map V.ref))) → (∀ (i : Nat) (a : Addr) (r : Nat × Nat), as[i]? = some a → (MBrows B back)[i]? = some r → H3 a = some (.tup [vi r.1, vi r.2])) → RowsIs H3 rw' as (MBrows B back) := fun a b => ⟨a, R2, b⟩
        have hR0 : RowsIs H2 rw' as (MBrows B back) := ⟨R1, R2, R3⟩
        -- rows stay while the dict and the list change
        have hRk : ∀ {H3 H4 : Hp} {o : HO} {a : Addr}, RowsIs H3 rw' as (MBrows B back) → Ex H3 H4 → a ≠ rw' → (∀ xs, H3 a ≠ some (.tup xs)) → RowsIs (upd H4 a o) rw' as (MBrows B back) := fun {H3 H4 o a} hR e na nt =>
          ⟨by rw [upd_ne (Ne.symm na)]; exact e _ _ hR.1, hR.2.1, fun i x r h1 h2 => by
            have h3 := hR.2.2 i x r h1 h2
            rw [upd_ne (fun z => nt _ (by rw [← z]; exact h3))]; exact e _ _ h3⟩
        have hbt : TabOk B.lots.length (begTab l) := by
          refine ⟨?_, fun k hk => ?_⟩
          · unfold begTab
            rw [List.map_map]
            have : ((fun p : Int × Int => p.1) ∘ fun (n : Nat) => ((n : Int), (0 : Int))) = fun (n : Nat) => (n : Int) := rfl
            rw [this, List.nodup_iff_pairwise_ne, List.pairwise_map]
            rw [List.nodup_iff_pairwise_ne] at nd
            exact nd.imp fun {a b} h z => h (by omega)
          · unfold begTab at hk
            rw [List.map_map] at hk
            obtain ⟨n, hn, en⟩ := List.mem_map.mp hk
            have := hl n hn
            have en : (n : Int) = k := en
            omega
        refine q_asg ev_c fun H3 e3 => ?_
        refine q_while (fun m σ' H' => ∃ (place : Nat) (t : Tab) (v8 v9 : Option V), σ' = [some (.ref b), some (.ref p), some (.bl back), some (.ref d), some (.ref u), v5, some (.ref rw'), some (vi place), v8, v9] ∧ Ex H H' ∧ RowsIs H' rw' as (MBrows B back) ∧ H' d = some (.dK (tab V.int t)) ∧ H' u = some (.lst (t.map fun q => V.int q.1)) ∧ TabOk B.lots.length t ∧
            place ≤ t.length ∧ m + place = B.lots.length + 1 ∧ bfs (MBrows B back) m place t = bfs (MBrows B back) (B.lots.length + 1) 0 (begTab l))
          (B.lots.length + 1) ⟨0, begTab l, _, _, rfl, (e'.trans e2).trans e3, ⟨e3 _ _ hR0.1, hR0.2.1, fun i a r h1 h2 => e3 _ _ (hR0.2.2 i a r h1 h2)⟩, e3 _ _ (e2 _ _ hd'), ?_, hbt, Nat.zero_le _, rfl, rfl⟩ (fun m σ' H4 ⟨place, t, v8, v9, es, e4, hR4, hd4, hu4, ht, hpl, hm, hb⟩ => ?_)
        · have := e3 _ _ (e2 _ _ hu')
          rw [this]
          unfold vis begTab
          rw [List.map_map]; rfl
        · subst es
          have htl := ht.len
          refine ⟨decide (place < t.length), et_is (et_test (ev_op (ev_var rfl) (ev_lenL (ev_var rfl) (sq_of hu4)) rv_I0)) (by rw [List.length_map]; by_cases h : place < t.length <;> simp [h]), fun hlt H5 e5 => ?_, fun hlt H5 e5 => ?_⟩
          · have hlt := of_decide_eq_true hlt
            obtain ⟨m', em⟩ : ∃ m', m = m' + 1 := ⟨m - 1, by omega⟩
            subst em
            refine ⟨fun σ2 H2 => ∃ (t' : Tab) (v8 v9 : Option V), σ2 = [some (.ref b), some (.ref p), some (.bl back), some (.ref d), some (.ref u), v5, some (.ref rw'), some (vi (place + 1)), v8, v9] ∧ t' = bfsTurn (MBrows B back) t place ∧ Ex H H2 ∧ RowsIs H2 rw' as (MBrows B back) ∧ H2 d = some (.dK (tab V.int t')) ∧ H2 u = some (.lst (t'.map fun q => V.int q.1)), fun σ2 H6 ⟨t', v8, v9, es, et, e6, hR6, hd6, hu6⟩ => ?_, ?_⟩
            · refine ⟨m', by omega, place + 1, t', v8, v9, es, e6, hR6, hd6, hu6, ?_, ?_, by omega, ?_⟩
              · rw [et]
                exact bfsRow_ok _ ht fun r hr => (hrr r hr).2
              · have := (bfsRow_pre (t.getD place (0, 0)).1 (MBrows B back) t).length_le
                rw [et]
                unfold bfsTurn
                omega
              · rw [← hb, et]
                show _ = (if place < t.length then bfs (MBrows B back) m' (place + 1) (bfsTurn (MBrows B back) t place) else t)
                rw [if_pos hlt]
            · have hR5 : RowsIs H5 rw' as (MBrows B back) := ⟨e5 _ _ hR4.1, hR4.2.1, fun i a r h1 h2 => e5 _ _ (hR4.2.2 i a r h1 h2)⟩
              refine q_forRows (ev_var rfl) hR5 (fun i σ' H' => ∃ (t' : Tab) (v8 v9 : Option V), σ' = [some (.ref b), some (.ref p), some (.bl back), some (.ref d), some (.ref u), v5, some (.ref rw'), some (vi place), v8, v9] ∧ t' = ((MBrows B back).take i).foldl (bfsOne (t.getD place (0, 0)).1) t ∧ Ex H H' ∧ RowsIs H' rw' as (MBrows B back) ∧ H' d = some (.dK (tab V.int t')) ∧ H' u = some (.lst (t'.map fun q => V.int q.1)))
                (fun H6 e6 => ⟨t, _, _, rfl, rfl, (e4.trans e5).trans e6, ⟨e6 _ _ hR5.1, hR5.2.1, fun i a r h1 h2 => e6 _ _ (hR5.2.2 i a r h1 h2)⟩, e6 _ _ (e5 _ _ hd4), e6 _ _ (e5 _ _ hu4)⟩) (fun i σ' H' ⟨_, _, _, _, _, _, hR', _⟩ => hR') (fun i r σ' H6 hr ⟨t', v8, v9, es, et, e6, hR6, hd6, hu6⟩ => ?_) (fun σ' H6 ⟨t', v8, v9, es, et, e6, hR6, hd6, hu6⟩ => ?_)
              · subst es
                have ht' : TabOk B.lots.length t' := by rw [et]; exact bfsRow_ok _ ht fun x hx => (hrr x (List.mem_of_mem_take hx)).2
                have hpre : t <+: t' := by rw [et]; exact bfsRow_pre _ _ _
                have htl' := ht'.len
                have hat : t'[place]? = some (t.getD place (0, 0)) := by
                  obtain ⟨z, ez⟩ := hpre
                  rw [← ez, List.getElem?_append_left hlt, List.getD_eq_getElem?_getD, List.getElem?_eq_getElem hlt]; rfl
                generalize hq : t.getD place (0, 0) = q at hat et
                have hdue : Ev (tOp (rIxL K) (tVar 4) (tVar 7)) [some (.ref b), some (.ref p), some (.bl back), some (.ref d), some (.ref u), v5, some (.ref rw'), some (vi place), some (vi r.1), some (vi r.2)] H6 (.int q.1) :=
                  ev_ixL (ev_var rfl) (sq_of hu6) (ev_var rfl) (atI_nat (by rw [List.getElem?_map, hat]; rfl))
                have hnext : ∀ c : Bool, c = (decide ((r.1 : Int) = q.1) && !(look t' (r.2 : Int)).isSome) → ((MBrows B back).take (i + 1)).foldl (bfsOne q.1) t = if c = true then t' ++ [((r.2 : Int), (look t' (r.1 : Int)).getD 0 + 1)] else t' := fun c hc => by
                  rw [take_more hr, List.foldl_append, ← et]
                  show bfsOne q.1 t' r = _
                  unfold bfsOne
                  by_cases h1 : (r.1 : Int) = q.1
                  · cases h2 : (look t' (r.2 : Int)).isSome with
                    | true => rw [if_neg (fun z => by cases z.2), hc, h2, decide_eq_true h1]; rfl
                    | false => rw [if_pos ⟨h1, rfl⟩, hc, h2, decide_eq_true h1]; rfl
                  · rw [if_neg (fun z => h1 z.1), hc, decide_eq_false h1]; rfl
                refine s_when (et_is (et_and (ev_eqN (ev_var rfl) hdue) fun _ => et_test (ev_dnotin hd6 (ev_var rfl) (ev_var rfl))) rfl) (fun hc H7 e7 => ?_) (fun hc H7 e7 => ?_)
                · rw [valV_tab, Option.isSome_map] at hc
                  have hn := hnext true hc.symm
                  rw [if_pos rfl] at hn
                  rw [Bool.and_eq_true] at hc
                  have h1 := of_decide_eq_true hc.1
                  have h2 : look t' (r.2 : Int) = none := by
                    cases e : look t' (r.2 : Int) with
                    | none => rfl
                    | some x => rw [e] at hc; cases hc.2
                  obtain ⟨x, hx⟩ : ∃ x, look t' (r.1 : Int) = some x := by
                    cases e : look t' (r.1 : Int) with
                    | some x => exact ⟨x, rfl⟩
                    | none => exact absurd (List.mem_map.mpr ⟨q, List.mem_of_getElem? hat, h1.symm⟩) (look_none.mp e)
                  rw [hx, Option.getD_some] at hn
                  refine q_dput (v := V.int (x + 1)) (e7 _ _ hd6) (ev_var rfl) (ev_var rfl) (ev_op (ev_dget (e7 _ _ hd6) (ev_var rfl) (ev_var rfl) (v := V.int x) (by rw [valV_tab, hx]; rfl)) ev_c rv_I0) (by rw [tab_len]; omega) fun H8 e8 => ?_
                  rw [putK_tab, putA_new h2]
                  have hu8 : (upd H8 d (.dK (tab V.int (t' ++ [((r.2 : Int), x + 1)])))) u = some (.lst (t'.map fun q => V.int q.1)) := by rw [upd_ne (Ne.symm hdu)]; exact e8 _ _ (e7 _ _ hu6)
                  have hR8 := hRk (o := .dK (tab V.int (t' ++ [((r.2 : Int), x + 1)]))) hR6 (e7.trans e8) (Ne.symm nrd) (fun xs z => by rw [hd6] at z; cases z)
                  refine s_app hu8 (ev_var rfl) (ev_var rfl) (by rw [List.length_map]; omega) fun H9 e9 => ⟨t' ++ [((r.2 : Int), x + 1)], _, _, rfl, hn.symm, ?_, ?_, ?_, ?_⟩
                  · exact ((((e6.trans e7).trans e8).mut hd).trans e9).mut hu0
                  · exact hRk hR8 e9 (Ne.symm nru) (fun xs z => by rw [hu8] at z; cases z)
                  · rw [upd_ne hdu]; exact e9 _ _ upd_same
                  · rw [upd_same, List.map_append]; rfl
                · rw [valV_tab, Option.isSome_map] at hc
                  have hn := hnext false hc.symm
                  rw [if_neg (by decide)] at hn
                  exact ⟨t', _, _, rfl, hn.symm, e6.trans e7, ⟨e7 _ _ hR6.1, hR6.2.1, fun i a r h1 h2 => e7 _ _ (hR6.2.2 i a r h1 h2)⟩, e7 _ _ hd6, e7 _ _ hu6⟩
              · subst es
                rw [List.take_length] at et
                refine s_aug (a := (place : Int)) (b := 1) rfl ev_c fun H7 e7 => ⟨t', v8, v9, rfl, et, e6.trans e7, ⟨e7 _ _ hR6.1, hR6.2.1, fun i a r h1 h2 => e7 _ _ (hR6.2.2 i a r h1 h2)⟩, e7 _ _ hd6, e7 _ _ hu6⟩
          · have hlt := of_decide_eq_false hlt
            have hpe : place = t.length := by omega
            obtain ⟨m', em⟩ : ∃ m', m = m' + 1 := ⟨m - 1, by omega⟩
            subst em
            have hb' : t = bfs (MBrows B back) (B.lots.length + 1) 0 (begTab l) := by
              rw [← hb]
              show _ = (if place < t.length then bfs (MBrows B back) m' (place + 1) (bfsTurn (MBrows B back) t place) else t)
              rw [if_neg hlt]
            refine s_ret (ev_var rfl) fun H6 e6 => k d H6 hd ((e4.trans e5).trans e6) ?_
            rw [← hb']
            exact e6 _ _ (e5 _ _ hd4)
end
end LW
end
section
set_option Elab.async false
set_option linter.all false
set_option maxRecDepth 100000
set_option maxHeartbeats 4000000

namespace LW
open PySem PySem.Spec PyProof.Rows L2 Evl LF TbLtBook
section
variable {P : Program} {w : World} {K : PySem.W.Frag} {mg : Str → Option Value} {base : Heap} {A : Ad}
def spBook_remainder (A : Ad) : Sp := fun vs H Q _ => ∃ (b ll gl p1 p2 : Addr) (las gas : List Addr) (B : MB) (n : Nat) (fs laid : List Nat), vs = [.ref b, vi n, .ref p1, .ref p2] ∧ BookIs A H b ll gl las gas B ∧ n < B.lots.length ∧ H p1 = some (.lst (vis fs)) ∧ H p2 = some (.lst (vis laid)) ∧
  ∀ H', Ex H H' → Q (.int (B.remainder n fs laid)) H'
theorem vis_at {l : List Nat} {i : Nat} {x : V} (h : (vis l)[i]? = some x) : ∃ n, l[i]? = some n ∧ x = vi n := by
  unfold vis at h
  rw [List.getElem?_map] at h
  obtain ⟨n, hn, ex⟩ := Option.map_eq_some_iff.mp h
  exact ⟨n, hn, ex.symm⟩
theorem vis_len (l : List Nat) : (vis l).length = l.length := List.length_map _
theorem set_same {σ : L2.St} {i : Nat} {x : Option V} (h : σ[i]? = some x) : σ.set i x = σ := by
  obtain ⟨h1, h2⟩ := List.getElem?_eq_some_iff.mp h
  rw [← h2]
  exact List.set_getElem_self h1
theorem s_ifAug {D : Ends} {σ : L2.St} {H : Hp} {t : TT} {te : TE} {b : Bool} {i : Nat} {f : Int → Int → Int} {a x : Int} (hx : σ[i]? = some (some (.int a))) (h : EvT t σ H b) (h1 : b = true → Ev te σ H (.int x)) (k : ∀ H1, Ex H H1 → D.nx (σ.set i (some (.int (if b = true then f a x else a)))) H1) :
    tIfS t (tAug i te (ipI f)) tNext D σ H := s_when h (fun hb H1 e => s_aug hx ((h1 hb).mono e) fun H2 e2 => by
      have := k H2 (e.trans e2)
      rw [if_pos hb] at this
      exact this) fun hb H1 e => by
      have := k H1 e
      rw [if_neg (by rw [hb]; decide), set_same hx] at this
      exact this
theorem q_ifAug {D : Ends} {tz : TS} {σ : L2.St} {H : Hp} {t : TT} {te : TE} {b : Bool} {i : Nat} {f : Int → Int → Int} {a x : Int} (hx : σ[i]? = some (some (.int a))) (h : EvT t σ H b) (h1 : b = true → Ev te σ H (.int x)) (k : ∀ H1, Ex H H1 → tz D (σ.set i (some (.int (if b = true then f a x else a)))) H1) :
    tSeq (tIfS t (tAug i te (ipI f)) tNext) tz D σ H := s_ifAug (D := { D with nx := tz D }) hx h h1 k
theorem dec_nat (a b : Nat) : decide ((a : Int) = (b : Int)) = decide (a = b) := by
  by_cases h : a = b
  · rw [h, decide_eq_true rfl, decide_eq_true rfl]
  · rw [decide_eq_false h, decide_eq_false (by omega)]
theorem ok_Book_remainder (T : Txt K mg A) : FnOk P w K mg base CX0 2 A.f_Book_remainder A.d_Book_remainder ["self", "lot", "some", "laid"] (spBook_remainder A) := by
  refine T.fn_Book_remainder.ok sc_Book_remainder (fun vs H Q E h => ?_) (fun cdv Ar outer s H vs Q E hr h => ⟨_, (pss_cons (ps_set (i := 4) sc_Book_remainder.nd rfl (Or.inl rfl) pe_int)
    (pss_cons (ps_if (pt_cmpR op_in_seq (pv 1) (pv 2) (by rfl)) (pss_one (ps_set (i := 4) sc_Book_remainder.nd rfl (Or.inl rfl) (pe_fld (pe_ix ix_list (pe_fld (pv 0) rfl) (pv 1) (fun _ _ => rfl)) rfl))) pss_nil)
    (pss_cons (ps_for PassesOwn.never rfl (pi_zip (by rfl) T.b_zip (pa_cons (pe_fld (pv 0) rfl) (pa_cons (pv 3) pa_nil))) (pg_tup rfl (pgs_cons (pg_name (i := 5) sc_Book_remainder.nd rfl (Or.inl rfl)) (pgs_cons (pg_name (i := 6) sc_Book_remainder.nd rfl (Or.inl rfl)) pgs_nil))) (pss_cons (ps_if (PW.pt (pw_and (pt_cmpR op_eq (pe_ix ix_tup (pv 5) pe_int (fun _ _ => rfl)) (pv 1) (nomark _)) (pw_and1 (pt_not (pt_val (pe_meth0 (pe_ix ix_list (pe_fld (pv 0) rfl) (pv 1) (fun _ _ => rfl)) T.cl_Lot T.me_Lot_is_founder (ok_Lot_is_founder T) (hr.mono (by decide)) T.bi_Lot_is_founder .nil pass0)))))) (pss_one (ps_aug (i := 4) sc_Book_remainder.nd rfl (Or.inl rfl) (pv 6) ip_add)) pss_nil)
    (pss_one (ps_if (pt_cmpR op_eq (pe_ix ix_tup (pv 5) pe_int (fun _ _ => rfl)) (pv 1) (nomark _)) (pss_one (ps_aug (i := 4) sc_Book_remainder.nd rfl (Or.inl rfl) (pv 6) ip_sub)) pss_nil))))
    (pss_one (ps_ret (pv 4)))))), ?_⟩)
  · obtain ⟨_, _, _, _, _, _, _, _, _, _, _, rfl, _⟩ := h
    rfl
  · obtain ⟨b, ll, gl, p1, p2, las, gas, B, n, fs, laid, rfl, L, hn, hp1, hp2, k⟩ := h
    refine q_asg ev_c fun H1 e1 => ?_
    refine q_ifAsg (v := .int (if fs.contains n = true then ((B.lot n).made : Int) else 0)) (et_test (ev_inN (ev_var rfl) (ev_var rfl) (e1 _ _ hp1))) (fun hc => ?_) (fun hc => ?_) fun H2 e2 => ?_
    · obtain ⟨a, ha, LA⟩ := (L.mono e1).lotN hn
      rw [if_pos hc]
      exact el_made T (eb_lotAt (eb_lots T (ev_var rfl) (L.mono e1)) (L.mono e1) (ev_var rfl) ha) LA
    · rw [if_neg (by rw [hc]; decide)]; rfl
    have e02 := e1.trans e2
    refine q_forZip (eb_legs T (ev_var rfl) (L.mono e02)) (ev_var rfl) (sq_of (L.mono e02).hg) (sq_of (e02 _ _ hp2)) (fun i σ' H' => ∃ v5 v6, σ' = [some (.ref b), some (vi n), some (.ref p1), some (.ref p2), some (.int (((B.legs.zip laid).take i).foldl (B.remOne n) (if fs.contains n = true then ((B.lot n).made : Int) else 0))), v5, v6] ∧ Ex H H')
      (fun H3 e3 => ⟨_, _, rfl, e02.trans e3⟩) (fun i σ' H' ⟨_, _, _, e'⟩ => ⟨sq_of (L.mono e').hg, sq_of (e' _ _ hp2)⟩) (fun i x y σ' H' hx hy ⟨v5, v6, es, e'⟩ H3 e3 => ?_) (fun σ' H' ⟨v5, v6, es, e'⟩ => ?_)
    · subst es
      have e03 := e'.trans e3
      obtain ⟨a, ex, ha, hk, hg, LG⟩ := gas_at (L.mono e03) hx
      obtain ⟨wt, hw, ey⟩ := vis_at hy
      subst ex ey
      have hz : (B.legs.zip laid)[i]? = some (MBleg B i, wt) := by rw [List.getElem?_zip_eq_some]; exact ⟨hg, hw⟩
      rw [take_more hz, List.foldl_append]
      generalize ((B.legs.zip laid).take i).foldl (B.remOne n) (if fs.contains n = true then ((B.lot n).made : Int) else 0) = t
      generalize MBleg B i = g at LG hz
      obtain ⟨x, hx, LX⟩ := (L.mono e03).lotN hn
      refine q_ifAug rfl (et_and (ev_eqN (ev_ixT (ev_var rfl) (st_of LG) (ev_c (v := .int 1)) rfl) (ev_var rfl)) fun _ => et_not (et_B (et_founder T (eb_lotAt (eb_lots T (ev_var rfl) (L.mono e03)) (L.mono e03) (ev_var rfl) hx) LX))) (fun _ => ev_var rfl) fun H4 e4 => ?_
      refine s_ifAug rfl (ev_eqN (ev_ixT (ev_var rfl) (st_of (e4 _ _ LG)) (ev_c (v := .int 0)) rfl) (ev_var rfl)) (fun _ => ev_var rfl) fun H5 e5 => ⟨some (.ref a), some (vi wt), ?_, (e03.trans e4).trans e5⟩
      rw [dec_nat, dec_nat]
      show [_, _, _, _, some (V.int _), _, _] = [_, _, _, _, some (V.int (B.remOne n t (g, wt))), _, _]
      congr 6
      unfold MB.remOne
      by_cases h1 : g.to = n <;> by_cases h2 : g.of = n <;> cases h3 : (B.lot n).founder <;> simp [h1, h2]
    · subst es
      refine s_ret (ev_var rfl) fun H3 e3 => ?_
      have hle : min (gas.map V.ref).length (vis laid).length = (B.legs.zip laid).length := by rw [List.length_map, vis_len, L.gn, List.length_zip]
      rw [hle, List.take_length]
      exact k H3 (e'.trans e3)
def spBook_weight_of (A : Ad) : Sp := fun vs H Q _ => ∃ (b ll gl p1 p2 : Addr) (las gas : List Addr) (B : MB) (n : Nat) (fs s : List Nat), vs = [.ref b, vi n, .ref p1, .ref p2] ∧ BookIs A H b ll gl las gas B ∧ n < B.lots.length ∧ B.legs.length ≤ 1000 ∧ fs.length ≤ 1000 ∧ (∀ f ∈ fs, f < B.lots.length) ∧ H p1 = some (.lst (vis fs)) ∧ H p2 = some (.lst (vis s)) ∧
  ∀ H', Ex H H' → Q (.int (B.weightOf n fs s)) H'
theorem ok_Book_weight_of (T : Txt K mg A) : FnOk P w K mg base CX0 2 A.f_Book_weight_of A.d_Book_weight_of ["self", "lot", "some", "chosen"] (spBook_weight_of A) := by
  refine T.fn_Book_weight_of.ok sc_Book_weight_of (fun vs H Q E h => ?_) (fun cdv Ar outer s H vs Q E hr h => ⟨_, (pss_cons (ps_set (i := 4) sc_Book_weight_of.nd rfl (Or.inl rfl) (pe_callB (cr_sum rfl) (by rfl) T.b_sum (by decide +kernel) (pa_cons (pe_lc (g := (gName 5)) (tt := (tTest (tOp (rIn K true) (tVar 5) (tVar 3)))) (te := (tFld K (tOp (rIxL K) (tFld K (tVar 0) "lots") (tVar 5)) "made")) (own := [("founder", 5)]) rfl sc_Book_weight_of.nd (pi_list (pv 2)) (blkOk_by (own := [("founder", 5)]) (N := N_Book_weight_of) (sc := defScope s_Book_weight_of) (by decide +kernel)) (fun _ _ _ _ _ => by exact (pg_name (i := 5) sc_Book_weight_of.nd rfl (Or.inl rfl))) (fun _ _ _ _ _ => by exact (pts_one (pt_cmpR op_notIn_seq (pv 5) (pv 3) (by rfl)))) (fun _ _ _ _ _ => by exact (pe_fld (pe_ix ix_list (pe_fld (pv 0) rfl) (pv 5) (fun _ _ => rfl)) rfl))) pa_nil)))
    (pss_cons (ps_aug (i := 4) sc_Book_weight_of.nd rfl (Or.inl rfl) (pe_callB (cr_sum rfl) (by rfl) T.b_sum (by decide +kernel) (pa_cons (pe_lc (g := (gTup K 3 (gCons (gName 6) (gCons (gName 7) (gCons (gName 8) gNil))))) (tt := (tAnd (tTest (tOp (rIn K false) (tVar 6) (tVar 3))) (tTest (tOp (rIn K true) (tVar 7) (tVar 3))))) (te := (tVar 8)) (own := [("first", 6), ("second", 7), ("weight", 8)]) rfl sc_Book_weight_of.nd (pi_list (pe_fld (pv 0) rfl)) (blkOk_by (own := [("first", 6), ("second", 7), ("weight", 8)]) (N := N_Book_weight_of) (sc := defScope s_Book_weight_of) (by decide +kernel)) (fun _ _ _ _ _ => by exact (pg_tup rfl (pgs_cons (pg_name (i := 6) sc_Book_weight_of.nd rfl (Or.inl rfl)) (pgs_cons (pg_name (i := 7) sc_Book_weight_of.nd rfl (Or.inl rfl)) (pgs_cons (pg_name (i := 8) sc_Book_weight_of.nd rfl (Or.inl rfl)) pgs_nil))))) (fun _ _ _ _ _ => by exact (pts_one (PW.pt (pw_and (pt_cmpR op_in_seq (pv 6) (pv 3) (by rfl)) (pw_and1 (pt_cmpR op_notIn_seq (pv 7) (pv 3) (by rfl))))))) (fun _ _ _ _ _ => by exact (pv 8))) pa_nil)) ip_add)
    (pss_one (ps_ret (pe_op op_add (pv 4) (pe_ifExp (pt_cmpR op_in_seq (pv 1) (pv 3) (by rfl)) (pe_meth0 (pe_ix ix_list (pe_fld (pv 0) rfl) (pv 1) (fun _ _ => rfl)) T.cl_Lot T.me_Lot_left (ok_Lot_left T) (hr.mono (by decide)) T.bi_Lot_left .nil pass0) pe_int)))))), ?_⟩)
  · obtain ⟨_, _, _, _, _, _, _, _, _, _, _, rfl, _⟩ := h
    rfl
  · obtain ⟨b, ll, gl, p1, p2, las, gas, B, n, fs, s, rfl, L, hn, hz1, hz2, hfs, hp1, hp2, k⟩ := h
    refine q_asg (v := vi ((fs.filter fun f => !s.contains f).map fun f => (B.lot f).made).sum) (ev_is (ev_sumN (ns := (((fs.filter fun f => !s.contains f).map fun f => (B.lot f).made)).map fun (n : Nat) => (n : Int)) (er_imp (lc_items (fun k => vi (B.lot (fs.getD k 0)).made) (fun k => !s.contains (fs.getD k 0)) (ev_var rfl) (sq_of hp1) (by rw [vis_len]; omega) fun i x H1 hx e1 => ?_) fun y H1 e1 ⟨q, h1, h2, h3⟩ => ⟨q, h1, h2, ?_⟩)) (by rw [sum_cast])) fun H1 e1 => ?_
    · obtain ⟨f, hf, ex⟩ := vis_at hx
      subst ex
      rw [getD_of hf]
      refine ⟨rfl, et_test (ev_niN (ev_var rfl) (ev_var rfl) (e1 _ _ hp2)), fun _ => ⟨?_, fun D ys hD z => by cases z⟩⟩
      obtain ⟨a, ha, LA⟩ := (L.mono e1).lotN (hfs f (List.mem_of_getElem? hf))
      exact el_made T (eb_lotAt (eb_lots T (ev_var rfl) (L.mono e1)) (L.mono e1) (ev_var rfl) ha) LA
    · rw [h3, vis_len]
      unfold idx
      rw [filter_getD fs 0 (fun f => !s.contains f) (fun f => vi (B.lot f).made), List.map_map, List.map_map]; rfl
    refine q_aug rfl (ev_is (ev_sumN (ns := (((B.legs.filter fun g => s.contains g.of && !s.contains g.to).map fun g => g.weight)).map fun (n : Nat) => (n : Int)) (er_imp (el_lc (fun k => vi (MBleg B k).weight) (fun k => s.contains (MBleg B k).of && !s.contains (MBleg B k).to) (fun k => [some (.ref b), some (vi n), some (.ref p1), some (.ref p2), some (vi ((fs.filter fun f => !s.contains f).map fun f => (B.lot f).made).sum), none, some (vi (MBleg B k).of), some (vi (MBleg B k).to), some (vi (MBleg B k).weight)])
        (monoL (K := K) (a := gl) (xs := gas.map V.ref)) (by rw [List.length_map, L.gn]; omega) (wl_list (eb_legs T (ev_var rfl) (L.mono e1)) (sq_of (L.mono e1).hg)) fun i x H2 H3 hi e2 g2 ⟨eH, hx⟩ => ?_) fun y H2 e2 ⟨q, h1, h2, h3⟩ => ⟨q, h1, h2, ?_⟩)) (by rw [sum_cast])) fun H2 e2 => ?_
    · subst eH
      obtain ⟨a, ex, ha, hk, hg, LG⟩ := gas_at (L.mono (e1.trans e2)) hx
      subst ex
      exact ⟨Ex.refl _, eg_tup3 (st_of LG), rfl, et_and (et_test (ev_inN (ev_var rfl) (ev_var rfl) ((e1.trans e2) _ _ hp2))) (fun _ => et_test (ev_niN (ev_var rfl) (ev_var rfl) ((e1.trans e2) _ _ hp2))), fun _ => ⟨ev_var rfl, fun D ys hD z => by cases z⟩⟩
    · rw [h3, List.length_map, L.gn]
      unfold idx MBleg
      rw [filter_getD B.legs ⟨0, 0, 0⟩ (fun g => s.contains g.of && !s.contains g.to) (fun g => vi g.weight), List.map_map, List.map_map]; rfl
    have e02 := e1.trans e2
    obtain ⟨a, ha, LA⟩ := (L.mono e02).lotN hn
    refine s_ret (v := .int (B.weightOf n fs s)) (ev_op (ev_var rfl) (ev_if (v := .int (if s.contains n = true then (B.lot n).left else 0)) (et_test (ev_inN (ev_var rfl) (ev_var rfl) (e02 _ _ hp2))) (fun hc => ?_) fun hc => ?_) rv_I0) fun H3 e3 => k H3 (e02.trans e3)
    · rw [if_pos hc]
      exact ev_left T (eb_lotAt (eb_lots T (ev_var rfl) (L.mono e02)) (L.mono e02) (ev_var rfl) ha) LA
    · rw [if_neg (by rw [hc]; decide)]
      exact ev_c
end
end LW
end
section
set_option Elab.async false
set_option linter.all false
set_option maxRecDepth 100000
set_option maxHeartbeats 4000000

set_option exponentiation.threshold 10000
namespace LW
open PySem PySem.Spec PyProof.Rows L2 Evl LF TbLtBook
section
variable {P : Program} {w : World} {K : PySem.W.Frag} {mg : Str → Option Value} {base : Heap} {A : Ad}
theorem et_tru {σ : L2.St} {H : Hp} {te : TE} {i : Int} {b : Bool} (h : Ev te σ H (.int i)) (hb : (i != 0) = b) : EvT (fun σ H Q => te σ H fun x H' => ∃ k, TruV K x H' k ∧ Q k H') σ H b := fun H1 e Q q =>
  h H1 e _ fun H2 e2 => ⟨b, hb.symm, q H2 e2⟩
def spDivisor : Sp := fun vs H Q _ => ∃ a b : Nat, vs = [vi a, vi b] ∧ ∀ H', Ex H H' → Q (vi (Nat.gcd a b)) H'
theorem ok_divisor (T : Txt K mg A) : FnOk P w K mg base CX0 1 A.f_divisor A.d_divisor ["a", "b"] (spDivisor) := by
  refine T.fn_divisor.ok sc_divisor (fun vs H Q E h => ?_) (fun cdv Ar outer s H vs Q E hr h => ⟨_, (pss_cons (ps_while PassesOwn.never (pt_truth (pv 1) (by intro _; rfl)) (pss_one (ps_par (i := 0) (j := 1) rfl sc_divisor.nd rfl rfl (by decide) rfl rfl (pa_cons (pv 1) (pa_cons (pe_op op_mod (pv 0) (pv 1)) pa_nil)) (by rfl))))
    (pss_one (ps_ret (pv 0)))), ?_⟩)
  · obtain ⟨_, _, rfl, _⟩ := h
    rfl
  · obtain ⟨a, b, rfl, k⟩ := h
    refine q_while (fun m σ' H' => ∃ a' b' : Nat, σ' = [some (vi a'), some (vi b')] ∧ Ex H H' ∧ Nat.gcd a' b' = Nat.gcd a b ∧ m = b') b ⟨a, b, rfl, Ex.refl H, rfl, rfl⟩ fun m σ' H' ⟨a', b', es, e', hg, hm⟩ => ?_
    subst es
    subst m
    refine ⟨decide (b' ≠ 0), et_tru (i := (b' : Int)) (ev_var rfl) (by by_cases h : b' = 0 <;> simp [h]), fun hb H1 e1 => ?_, fun hb H1 e1 => ?_⟩
    · have hb := of_decide_eq_true hb
      refine ⟨fun σ2 H2 => σ2 = [some (vi b'), some (vi (a' % b'))] ∧ Ex H H2, fun σ2 H2 ⟨es, e2⟩ => ⟨a' % b', Nat.mod_lt _ (by omega), b', a' % b', es, e2, by rw [← hg, Nat.gcd_comm a' b', Nat.gcd_rec b' a', Nat.gcd_comm], rfl⟩, ?_⟩
      exact (ea_cons (ev_var rfl) (ea_cons (ev_op (ev_var rfl) (ev_var rfl) (rv_I (i := (a' : Int)) (j := (b' : Int)) (by show (0 : Int) < b'; omega))) ea_nil)) H1 (Ex.refl H1) _ fun H2 e2 => ⟨_, _, rfl, rfl, (e'.trans e1).trans e2⟩
    · have hb : b' = 0 := by have := of_decide_eq_false hb; omega
      subst hb
      rw [Nat.gcd_zero_right] at hg
      subst hg
      exact s_ret (ev_var rfl) fun H2 e2 => k H2 ((e'.trans e1).trans e2)
/-- a fraction at t -/
def FrAt (H : Hp) (t : Addr) (p : Fr) : Prop := H t = some (.tup [vi p.1, vi p.2])
def spRatio : Sp := fun vs H Q _ => ∃ a b : Nat, vs = [vi a, vi b] ∧ 0 < b ∧ b < 2 ^ 8000 ∧ ∀ t H', H t = none → Ex H H' → FrAt H' t (ratioN a b) → Q (.ref t) H'
theorem div_ok {a b : Nat} (hb : 0 < b) (hl : b < 2 ^ 8000) (i : Int) : CDivW i ((Nat.gcd a b : Nat) : Int) := by
  have hg : 0 < Nat.gcd a b := Nat.gcd_pos_of_pos_right a hb
  have hle : Nat.gcd a b ≤ b := Nat.gcd_le_right a hb
  exact wide_div (b := 8000) (by omega) (by rw [Int.natAbs_natCast]; exact Nat.lt_of_le_of_lt hle hl) (by decide) (by decide)
theorem ok_ratio (T : Txt K mg A) : FnOk P w K mg base CX0 2 A.f_ratio A.d_ratio ["above", "below"] (spRatio) := by
  refine T.fn_ratio.ok sc_ratio (fun vs H Q E h => ?_) (fun cdv Ar outer s H vs Q E hr h => ⟨_, (pss_cons (ps_set (i := 2) sc_ratio.nd rfl (Or.inl rfl) (pe_call (ok_divisor T) (hr.mono (by decide)) rfl T.mgf_divisor T.fn_divisor.kp T.bi_divisor .nil pass0 (pa_cons (pv 0) (pa_cons (pv 1) pa_nil))))
    (pss_one (ps_ret (pe_tup (pa_cons (pe_op op_fdivW (pv 0) (pv 2)) (pa_cons (pe_op op_fdivW (pv 1) (pv 2)) pa_nil)))))), ?_⟩)
  · obtain ⟨_, _, rfl, _⟩ := h
    rfl
  · obtain ⟨a, b, rfl, hb, hl, k⟩ := h
    refine q_asg (v := vi (Nat.gcd a b)) (ev_call (dvs := []) (ea_cons (ev_var rfl) (ea_cons (ev_var rfl) ea_nil)) fun H1 e Q q E => ⟨a, b, rfl, fun H' e' => q H' e'⟩) fun H1 e1 => ?_
    refine s_retR (er_tup (ea_cons (ev_op (ev_var rfl) (ev_var rfl) (rv_I (i := (a : Int)) (j := ((Nat.gcd a b : Nat) : Int)) (div_ok hb hl _))) (ea_cons (ev_op (ev_var rfl) (ev_var rfl) (rv_I (i := (b : Int)) (j := ((Nat.gcd a b : Nat) : Int)) (div_ok hb hl _))) ea_nil)) (by show 2 ≤ 100000; decide)) fun y H2 e2 ⟨t, ey, ht, ht2⟩ => ?_
    subst ey
    exact k t H2 (fresh_back e1 ht) (e1.trans e2) ht2
theorem mul_okN {a b x y : Nat} (ha : a < 2 ^ x) (hb : b < 2 ^ y) (h0 : 0 < x) (h1 : 0 < y) (h : x + y ≤ 1000000) : CMulW (a : Int) (b : Int) := wide_mul (a := x) (b := y) (by rw [Int.natAbs_natCast]; exact ha) (by rw [Int.natAbs_natCast]; exact hb) h0 h1 h
theorem pow_mul_lt {a b x y : Nat} (ha : a < 2 ^ x) (hb : b < 2 ^ y) : a * b < 2 ^ (x + y) := by
  rw [Nat.pow_add]
  exact Nat.mul_lt_mul'' ha hb
theorem pow_lt {x y : Nat} {a : Nat} (h : a < 2 ^ x) (hxy : x ≤ y) : a < 2 ^ y := Nat.lt_of_lt_of_le h (Nat.pow_le_pow_right (by decide) hxy)
theorem er_ratio {σ : L2.St} {H : Hp} {ta : TA} {a b : Nat} {E : XK} (h : EvA ta σ H [vi a, vi b]) (hb : 0 < b) (hl : b < 2 ^ 8000) : EvR (tCall spRatio [] E ta) σ H (fun y H2 => ∃ t, y = .ref t ∧ H t = none ∧ FrAt H2 t (ratioN a b)) :=
  er_call h fun H1 e Q q E => ⟨a, b, rfl, hb, hl, fun t H' ht e' h' => q _ H' e' ⟨t, rfl, fresh_back e ht, h'⟩⟩
def spPlus : Sp := fun vs H Q _ => ∃ (x y : Addr) (p q : Fr), vs = [.ref x, .ref y] ∧ FrAt H x p ∧ FrAt H y q ∧ FrS p ∧ FrS q ∧ ∀ t H', H t = none → Ex H H' → FrAt H' t (plusN p q) → Q (.ref t) H'
theorem ok_plus (T : Txt K mg A) : FnOk P w K mg base CX0 3 A.f_plus A.d_plus ["one", "other"] (spPlus) := by
  refine T.fn_plus.ok sc_plus (fun vs H Q E h => ?_) (fun cdv Ar outer s H vs Q E hr h => ⟨_, (pss_one (ps_ret (pe_call (ok_ratio T) (hr.mono (by decide)) rfl T.mgf_ratio T.fn_ratio.kp T.bi_ratio .nil pass0 (pa_cons (pe_op op_add (pe_op op_mulW (pe_ix ix_tup (pv 0) pe_int (fun _ _ => rfl)) (pe_ix ix_tup (pv 1) pe_int (fun _ _ => rfl))) (pe_op op_mulW (pe_ix ix_tup (pv 1) pe_int (fun _ _ => rfl)) (pe_ix ix_tup (pv 0) pe_int (fun _ _ => rfl)))) (pa_cons (pe_op op_mulW (pe_ix ix_tup (pv 0) pe_int (fun _ _ => rfl)) (pe_ix ix_tup (pv 1) pe_int (fun _ _ => rfl))) pa_nil))))), ?_⟩)
  · obtain ⟨_, _, _, _, rfl, _⟩ := h
    rfl
  · obtain ⟨x, y, p, q, rfl, hx, hy, hp, hq, k⟩ := h
    have g0 : ∀ {σ : L2.St} {H : Hp} {te : TE} {z : Addr} {r : Fr}, Ev te σ H (.ref z) → FrAt H z r → Ev (tOp (rIxT K) te (tC (.int 0))) σ H (vi r.1) := fun h hz => ev_ixT h (st_of hz) (ev_c (v := .int 0)) rfl
    have g1 : ∀ {σ : L2.St} {H : Hp} {te : TE} {z : Addr} {r : Fr}, Ev te σ H (.ref z) → FrAt H z r → Ev (tOp (rIxT K) te (tC (.int 1))) σ H (vi r.2) := fun h hz => ev_ixT h (st_of hz) (ev_c (v := .int 1)) rfl
    have m1 : CMulW (p.1 : Int) (q.2 : Int) := mul_okN hp.num hq.den (by decide) (by decide) (by decide)
    have m2 : CMulW (q.1 : Int) (p.2 : Int) := mul_okN hq.num hp.den (by decide) (by decide) (by decide)
    have m3 : CMulW (p.2 : Int) (q.2 : Int) := mul_okN hp.den hq.den (by decide) (by decide) (by decide)
    refine s_retR (er_ratio (a := p.1 * q.2 + q.1 * p.2) (b := p.2 * q.2) (ea_cons (ev_op (ev_op (g0 (ev_var rfl) hx) (g1 (ev_var rfl) hy) (rv_I m1)) (ev_op (g0 (ev_var rfl) hy) (g1 (ev_var rfl) hx) (rv_I m2)) rv_I0) (ea_cons (ev_op (g1 (ev_var rfl) hx) (g1 (ev_var rfl) hy) (rv_I m3)) ea_nil)) (Nat.mul_pos hp.pos hq.pos) (pow_lt (pow_mul_lt hp.den hq.den) (by decide))) fun y H2 e2 ⟨t, ey, ht, ht2⟩ => ?_
    subst ey
    exact k t H2 ht e2 ht2
theorem er_plus {σ : L2.St} {H : Hp} {ta : TA} {p q : Fr} {E : XK} (h : EvAR ta σ H (fun vs H2 => ∃ x y, vs = [.ref x, .ref y] ∧ FrAt H2 x p ∧ FrAt H2 y q)) (hp : FrS p) (hq : FrS q) : EvR (tCall spPlus [] E ta) σ H (fun y H2 => ∃ t, y = .ref t ∧ H t = none ∧ FrAt H2 t (plusN p q)) := fun H1 e Q k =>
  h H1 e _ fun vs H2 e2 ⟨x, y, ev, hx, hy⟩ => by
    subst ev
    rw [List.append_nil]
    exact ⟨x, y, p, q, rfl, hx, hy, hp, hq, fun t H' ht e' h' => k _ H' (e2.trans e') ⟨t, rfl, fresh_back (e.trans e2) ht, h'⟩⟩
end
end LW
end
section
set_option Elab.async false
set_option linter.all false
set_option maxRecDepth 100000
set_option maxHeartbeats 4000000

set_option exponentiation.threshold 10000
namespace LW
open PySem PySem.Spec PyProof.Rows L2 Evl LF TbLtBook
section
variable {P : Program} {w : World} {K : PySem.W.Frag} {mg : Str → Option Value} {base : Heap} {A : Ad}
/-- a table of fractions at d -/
def FD (H : Hp) (d : Addr) (t : FTab) : Prop := ∃ as : List (Int × Addr), H d = some (.dK (tab V.ref as)) ∧ as.map (·.1) = t.map (·.1) ∧ ∀ k a, look as k = some a → ∃ p, look t k = some p ∧ FrAt H a p
theorem FD.mono {H H' : Hp} {d : Addr} {t : FTab} (h : FD H d t) (e : Ex H H') : FD H' d t := let ⟨as, h1, h2, h3⟩ := h; ⟨as, e _ _ h1, h2, fun k a q => let ⟨p, q1, q2⟩ := h3 k a q; ⟨p, q1, e _ _ q2⟩⟩
theorem FD.put {H : Hp} {d a : Addr} {t : FTab} {as : List (Int × Addr)} {k : Int} {p : Fr} (h1 : H d = some (.dK (tab V.ref as))) (h2 : as.map (·.1) = t.map (·.1)) (h3 : ∀ k a, look as k = some a → ∃ p, look t k = some p ∧ FrAt H a p) (ha : FrAt H a p) :
    FD (upd H d (.dK (putK (tab V.ref as) (Sum.inl k) (.ref a)))) d (putA t k p) := by
  have nd : ∀ b q, FrAt H b q → b ≠ d := fun b q hb z => by
    unfold FrAt at hb
    rw [z, h1] at hb; cases hb
  refine ⟨putA as k a, by rw [upd_same, putK_tab], by rw [putA_keys, putA_keys, h2], fun j b hb => ?_⟩
  rw [look_putA] at hb
  rw [look_putA]
  by_cases e : j = k
  · rw [if_pos e] at hb
    cases hb
    refine ⟨p, by rw [if_pos e], ?_⟩
    unfold FrAt
    rw [upd_ne (nd _ _ ha)]; exact ha
  · rw [if_neg e] at hb
    obtain ⟨q, q1, q2⟩ := h3 j b hb
    refine ⟨q, by rw [if_neg e]; exact q1, ?_⟩
    unfold FrAt
    rw [upd_ne (nd _ _ q2)]; exact q2
/-- the tables of the lots so far -/
def KnownAt (H : Hp) (kl : Addr) (ds : List Addr) (known : List FTab) : Prop := H kl = some (.lst (ds.map V.ref)) ∧ ds.length = known.length ∧ ∀ (i : Nat) (d : Addr) (t : FTab), ds[i]? = some d → known[i]? = some t → FD H d t
theorem KnownAt.mono {H H' : Hp} {kl : Addr} {ds : List Addr} {known : List FTab} (h : KnownAt H kl ds known) (e : Ex H H') : KnownAt H' kl ds known := ⟨e _ _ h.1, h.2.1, fun i d t h1 h2 => (h.2.2 i d t h1 h2).mono e⟩
/-- a book stays while a dict is locked -/
theorem BookIs.lock {H H' : Hp} {b ll gl d : Addr} {las gas : List Addr} {B : MB} {kvs : List (Key × V)} (L : BookIs A H b ll gl las gas B) (hd : H d = some (.dK kvs)) (h : ∀ x o, H x = some o → x ≠ d → H' x = some o) : BookIs A H' b ll gl las gas B := by
  have st : ∀ x o, H x = some o → (∀ z, o ≠ .dK z) → H' x = some o := fun x o hx no => h x o hx fun z => by
    rw [z, hd] at hx
    exact no _ (Option.some.inj hx).symm
  obtain ⟨dx, ho⟩ := L.obj
  refine ⟨⟨dx, st _ _ ho fun z e => by cases e⟩, st _ _ L.hl fun z e => (by cases e), st _ _ L.hg fun z e => (by cases e), L.ne, L.nd, L.ln, L.gn, fun i a l h1 h2 => ?_, fun i a g h1 h2 => st _ _ (L.leg i a g h1 h2) fun z e => (by cases e)⟩
  obtain ⟨dx', m, k1, k2, k3⟩ := L.lot i a l h1 h2
  exact ⟨dx', m, st _ _ k1 fun z e => (by cases e), st _ _ k2 fun z e => (by cases e), k3⟩
/-- for k in d, the dict locked -/
theorem s_lockKeys {D : Ends} {σ : L2.St} {H : Hp} {tu : TS} {td : TE} {d : Addr} {kvs : List (Key × V)} {j : Nat} (hd : H d = some (.dK kvs)) (h : ∀ od, Ev td σ (upd H d (.frz od (.dK kvs))) (.ref d)) (Pv : Obj → Nat → L2.St → Hp → Prop)
    (h0 : ∀ od H1, Ex (upd H d (.frz od (.dK kvs))) H1 → Pv od 0 σ H1) (hl : ∀ od i σ' H', Pv od i σ' H' → H' d = some (.frz od (.dK kvs)))
    (hs : ∀ od i k v σ' H' (Dx : Ends), kvs[i]? = some (k, v) → Pv od i σ' H' → (∀ σ2 H2, Pv od (i + 1) σ2 H2 → Dx.nx σ2 H2) → tu Dx (σ'.set j (some (kV k))) H') (hdone : ∀ od σ' H', Pv od kvs.length σ' H' → D.nx σ' (upd H' d (.dK kvs))) :
    tLock (tFor (iKeys td) (gName j) tu) D σ H :=
  ⟨d, .dK kvs, hd, trivial, fun od => h od _ (Ex.refl _) _ fun H1 e1 => ⟨d, od, rfl, .inl ⟨kvs, e1 _ _ upd_same, for_it walk_keys (Pv od) (h0 od H1 e1) (fun i σ' H' _ p => hl od i σ' H' p) (fun i x σ' H' H2 hi p ⟨eH, k, v, hk, ex⟩ => by
    subst eH ex
    exact hs od i k v σ' H2 _ hk p fun _ _ q => q) fun σ' H' p => ⟨hl od _ σ' H' p, hdone od σ' H' p⟩⟩⟩⟩
theorem er_get2 {σ : L2.St} {H : Hp} {td ty tx : TE} {d : Addr} {as : List (Int × Addr)} {t : FTab} {k : Int} (hd : H d = some (.dK (tab V.ref as))) (h2 : as.map (·.1) = t.map (·.1)) (h3 : ∀ k a, look as k = some a → ∃ p, look t k = some p ∧ FrAt H a p)
    (e1 : Ev td σ H (.ref d)) (e2 : Ev ty σ H (.int k)) (e3 : EvR tx σ H (fun y H2 => ∃ q, y = .ref q ∧ FrAt H2 q (0, 1))) : EvR (tDGet2 td ty tx) σ H (fun y H2 => ∃ q, y = .ref q ∧ FrAt H2 q ((look t k).getD (0, 1))) := fun H1 x Q q =>
  e1 H1 x _ fun H2 x2 => ⟨d, rfl, .inl ⟨_, .inl ((x.trans x2) _ _ hd)⟩, e2 H2 (x.trans x2) _ fun H3 x3 => e3 H3 ((x.trans x2).trans x3) _ fun y H4 x4 ⟨r, ey, hr⟩ => by
    have x14 : Ex H H4 := ((x.trans x2).trans x3).trans x4
    refine ⟨_, .inl ⟨_, Sum.inl k, .inl (x14 _ _ hd), rfl, rfl⟩, ?_⟩
    rw [valV_tab]
    cases e : look as k with
    | none =>
      have hn : look t k = none := by
        rw [look_none, ← h2, ← look_none]; exact e
      refine q _ H4 ((x2.trans x3).trans x4) ⟨r, ey, ?_⟩
      rw [hn]; exact hr
    | some a =>
      obtain ⟨p, q1, q2⟩ := h3 k a e
      refine q _ H4 ((x2.trans x3).trans x4) ⟨a, rfl, ?_⟩
      rw [q1]
      exact x14 _ _ q2⟩
theorem s_dputR {D : Ends} {σ : L2.St} {H : Hp} {td ty tv : TE} {d : Addr} {kvs : List (Key × V)} {k : Int} {R : V → Hp → Prop} (hd : H d = some (.dK kvs)) (h1 : Ev td σ H (.ref d)) (h2 : Ev ty σ H (.int k)) (hv : EvR tv σ H R) (hR : ∀ v H1 H2, Ex H1 H2 → R v H1 → R v H2) (hz : kvs.length < 100000)
    (go : ∀ v H1, Ex H H1 → R v H1 → D.nx σ (upd H1 d (.dK (putK kvs (Sum.inl k) v)))) : sDPut td ty tv D σ H :=
  hv H (Ex.refl H) _ fun v H1 e1 r => h1 H1 e1 _ fun H2 e2 => h2 H2 (e1.trans e2) _ fun H3 e3 => ⟨d, _, rfl, .inl ⟨kvs, Sum.inl k, ((e1.trans e2).trans e3) _ _ hd, rfl, sz_lt hz, rfl⟩, go v H3 ((e1.trans e2).trans e3) (hR v H1 H3 (e2.trans e3) r)⟩
def spBook_mixed (A : Ad) : Sp := fun vs H Q _ => ∃ (b ll gl kl : Addr) (las gas ds : List Addr) (B : MB) (n : Nat) (known : List FTab), vs = [.ref b, vi n, .ref kl] ∧ BookIs A H b ll gl las gas B ∧ B.Mix ∧ n < B.lots.length ∧ KnownOk B n known ∧ KnownAt H kl ds known ∧
  ∀ d H', H d = none → Ex H H' → FD H' d (B.mixed n known) → Q (.ref d) H'
theorem ok_Book_mixed (T : Txt K mg A) : FnOk P w K mg base CX0 4 A.f_Book_mixed A.d_Book_mixed ["self", "number", "known"] (spBook_mixed A) := by
  refine T.fn_Book_mixed.ok sc_Book_mixed (fun vs H Q E h => ?_) (fun cdv Ar outer s H vs Q E hr h => ⟨_, (pss_cons (ps_set (i := 3) sc_Book_mixed.nd rfl (Or.inl rfl) pe_dnewK)
    (pss_cons (ps_for PassesOwn.never rfl (pi_list (pe_fld (pv 0) rfl)) (pg_tup rfl (pgs_cons (pg_name (i := 4) sc_Book_mixed.nd rfl (Or.inl rfl)) (pgs_cons (pg_name (i := 5) sc_Book_mixed.nd rfl (Or.inl rfl)) (pgs_cons (pg_name (i := 6) sc_Book_mixed.nd rfl (Or.inl rfl)) pgs_nil)))) (pss_one (ps_if (pt_cmpR op_eq (pv 5) (pv 1) (nomark _)) (pss_one (ps_lock (ps_for PassesOwn.never rfl (pi_keys (pe_ix ix_list (pv 2) (pv 4) (fun _ _ => rfl))) (pg_name (i := 7) sc_Book_mixed.nd rfl (Or.inl rfl)) (pss_cons (ps_asg (pe_dget (hu_of hr) (pe_ix ix_list (pv 2) (pv 4) (fun _ _ => rfl)) (pv 7) (fun _ _ => rfl)) (pg_tup rfl (pgs_cons (pg_name (i := 8) sc_Book_mixed.nd rfl (Or.inl rfl)) (pgs_cons (pg_name (i := 9) sc_Book_mixed.nd rfl (Or.inl rfl)) pgs_nil))))
    (pss_cons (ps_set (i := 10) sc_Book_mixed.nd rfl (Or.inl rfl) (pe_call (ok_ratio T) (hr.mono (by decide)) rfl T.mgf_ratio T.fn_ratio.kp T.bi_ratio .nil pass0 (pa_cons (pe_op op_mulW (pv 8) (pv 6)) (pa_cons (pe_op op_mulW (pv 9) (pe_fld (pe_ix ix_list (pe_fld (pv 0) rfl) (pv 1) (fun _ _ => rfl)) rfl)) pa_nil))))
    (pss_one (ps_dput (hu_of hr) (pv 3) (pv 7) (pe_call (ok_plus T) (hr.mono (by decide)) rfl T.mgf_plus T.fn_plus.kp T.bi_plus .nil pass0 (pa_cons (pe_dget2 (hu_of hr) (pv 3) (pv 7) (pe_tup (pa_cons pe_int (pa_cons pe_int pa_nil))) ⟨by rfl, by rfl, by rfl, by rfl⟩) (pa_cons (pv 10) pa_nil))) rfl))))))) pss_nil)))
    (pss_one (ps_ret (pv 3))))), ?_⟩)
  · obtain ⟨_, _, _, _, _, _, _, _, _, _, rfl, _⟩ := h
    rfl
  · obtain ⟨b, ll, gl, kl, las, gas, ds, B, n, known, rfl, L, X, hn, hK, hk, k⟩ := h
    have hmade := X.made n hn
    have hlots := X.lots
    intro td htd
    have L0 := L
    have kl0 : KnownAt (upd H td (.dK [])) kl ds known := hk.mono (Ex.new htd)
    refine q_forL (eb_legs T (ev_var rfl) (L.mono (Ex.new htd))) (sq_of (L.mono (Ex.new htd)).hg) (fun i σ' H' => ∃ v4 v5 v6 v7 v8 v9 v10 : Option V, σ' = [some (.ref b), some (vi n), some (.ref kl), some (.ref td), v4, v5, v6, v7, v8, v9, v10] ∧ Ex H H' ∧ FD H' td ((B.legs.take i).foldl (mixLeg (B.lot n).made n known) []))
      (fun H1 e1 => ⟨_, _, _, _, _, _, _, rfl, (Ex.new htd).trans e1, [], e1 _ _ upd_same, rfl, fun k a z => (by cases z)⟩) (fun i σ' H' _ ⟨_, _, _, _, _, _, _, _, e', _⟩ => sq_of (L.mono e').hg) (fun i x σ' H' hx ⟨v4, v5, v6, v7, v8, v9, v10, es, e', hF⟩ => ?_) (fun σ' H' ⟨v4, v5, v6, v7, v8, v9, v10, es, e', hF⟩ => ?_)
    · subst es
      obtain ⟨a, ex, ha, hi, hg, LG⟩ := gas_at (L.mono e') hx
      subst ex
      rw [take_more hg, List.foldl_append]
      generalize hgen : MBleg B i = g at hg LG
      refine eg_tup3 (st_of LG) _ ?_
      refine s_when (et_is (ev_eqN (ev_var rfl) (ev_var rfl)) (dec_nat g.to n)) (fun hc H1 e1 => ?_) (fun hc H1 e1 => ?_)
      · have hto := of_decide_eq_true hc
        have e01 := e'.trans e1
        have hof : g.of < n := by have := (X.leg g (List.mem_of_getElem? hg)).1; omega
        have hkl := hK.1
        have hTab : known[g.of]? = some (known.getD g.of []) := by rw [List.getD_eq_getElem?_getD, List.getElem?_eq_getElem (by omega)]; rfl
        have hdl : g.of < ds.length := by rw [hk.2.1]; omega
        have hds : ds[g.of]? = some (ds[g.of]'hdl) := List.getElem?_eq_getElem hdl
        generalize ds[g.of]'hdl = d at hds
        obtain ⟨as, D1, D2, D3⟩ := (hk.2.2 _ _ _ hds hTab).mono e01
        have hin := mixed_in X hn hK hg hto
        have hTok := hK.at hof
        generalize hkn : known.getD g.of [] = kn at hin D2 D3 hTok
        have hstep : List.foldl (mixLeg (B.lot n).made n known) ((B.legs.take i).foldl (mixLeg (B.lot n).made n known) []) [g] = (kn.map (·.1)).foldl (mixOne g.weight (B.lot n).made kn) ((B.legs.take i).foldl (mixLeg (B.lot n).made n known) []) := by
          show mixLeg (B.lot n).made n known _ g = _
          unfold mixLeg
          rw [if_pos hto, hkn]
        rw [hstep]
        have hF1 := hF.mono e1
        generalize (B.legs.take i).foldl (mixLeg (B.lot n).made n known) [] = t0 at hin hF1
        have hHd : ∀ o, H d = some o → o = .dK (tab V.ref as) := fun o ho => by
          have := e01 _ _ ho
          rw [D1] at this
          exact (Option.some.inj this).symm
        have hdH : H d = some (.dK (tab V.ref as)) := by
          obtain ⟨as', q1, _⟩ := hk.2.2 _ _ _ hds hTab
          rw [q1, hHd _ q1]
        have ntd : td ≠ d := fun z => by rw [← z, htd] at hdH; cases hdH
        have L1 := L.mono e01
        have hk1 := hk.mono e01
        refine s_lockKeys (kvs := tab V.ref as) D1 (fun od => ev_ixL (xs := ds.map V.ref) (ev_var rfl) (sq_of (by rw [upd_ne (fun z => by rw [← z, hk1.1] at D1; cases D1)]; exact hk1.1)) (ev_var rfl) (atI_nat (by rw [List.getElem?_map, hds]; rfl)))
          (fun od j σ' H' => ∃ v7 v8 v9 v10 : Option V, σ' = [some (.ref b), some (vi n), some (.ref kl), some (.ref td), some (vi g.of), some (vi g.to), some (vi g.weight), v7, v8, v9, v10] ∧ (∀ x o, H x = some o → x ≠ d → H' x = some o) ∧ H' d = some (.frz od (.dK (tab V.ref as))) ∧ FD H' td (((kn.map (·.1)).take j).foldl (mixOne g.weight (B.lot n).made kn) t0))
          (fun od H2 e2 => ⟨_, _, _, _, rfl, fun x o hx nx => e2 _ _ (by rw [upd_ne nx]; exact e01 _ _ hx), e2 _ _ upd_same, ?_⟩) (fun od j σ' H' ⟨_, _, _, _, _, _, q, _⟩ => q) (fun od j ky v σ' H2 Dx hj ⟨v7, v8, v9, v10, es, hx2, hd2, hF2⟩ go => ?_) (fun od σ' H2 ⟨v7, v8, v9, v10, es, hx2, hd2, hF2⟩ => ?_)
        · obtain ⟨at', F1, F2, F3⟩ := hF1
          refine ⟨at', e2 _ _ (by rw [upd_ne ntd]; exact F1), F2, fun k a q => ?_⟩
          obtain ⟨p, p1, p2⟩ := F3 k a q
          refine ⟨p, p1, e2 _ _ ?_⟩
          rw [upd_ne (fun z => by rw [FrAt, z, D1] at p2; cases p2)]
          exact p2
        · subst es
          unfold tab at hj
          rw [List.getElem?_map] at hj
          obtain ⟨⟨k0, a0⟩, ha0, ek⟩ := Option.map_eq_some_iff.mp hj
          cases ek
          have hkj : (kn.map (·.1))[j]? = some k0 := by rw [← D2, List.getElem?_map, ha0]; rfl
          have hkm : k0 ∈ kn.map (·.1) := List.mem_of_getElem? hkj
          obtain ⟨a1, hl1⟩ : ∃ a1, look as k0 = some a1 := by
            cases e : look as k0 with
            | some a1 => exact ⟨a1, rfl⟩
            | none => exact absurd (List.mem_map.mpr ⟨(k0, a0), List.mem_of_getElem? ha0, rfl⟩) (look_none.mp e)
          obtain ⟨p, hp, hpa⟩ := D3 k0 a1 hl1
          have hpa0 : FrAt H a1 p := by
            obtain ⟨as', q1, q2, q3⟩ := hk.2.2 _ _ _ hds hTab
            have eas : tab V.ref as' = tab V.ref as := by
              have := hHd _ q1
              injection this
            have hv : valV (tab V.ref as') (Sum.inl k0) = some (.ref a1) := by rw [eas, valV_tab, hl1]; rfl
            rw [valV_tab] at hv
            obtain ⟨a2, h2, e2⟩ := Option.map_eq_some_iff.mp hv
            cases e2
            obtain ⟨p', h3, h4⟩ := q3 k0 a1 h2
            rw [hkn, hp] at h3
            cases h3
            exact h4
          have hpa2 : FrAt H2 a1 p := hx2 _ _ hpa0 (fun z => by rw [FrAt, z, hdH] at hpa0; cases hpa0)
          have L2' : BookIs A H2 b ll gl las gas B := L.lock hdH hx2
          have hkl2 : H2 kl = some (.lst (ds.map V.ref)) := hx2 _ _ hk.1 (fun z => by rw [← z, hk.1] at hdH; cases hdH)
          have hFp := (hTok.fr k0 p hp)
          have hSp := hFp.small X (by omega)
          have hMore : FrS (moreN g.weight (B.lot n).made p) := by
            have h1 := moreN_ok (w := g.weight) hFp hmade.1
            have hw := (X.leg g (List.mem_of_getElem? hg)).2.2
            refine FrOk.small X (n := n + 1) (by omega) (h1.mono (Nat.dvd_refl _) ?_)
            calc Mn n * g.weight ≤ Mn n * 2 ^ 34 := Nat.mul_le_mul_left _ (Nat.le_trans hw (by decide))
              _ = Mn (n + 1) := by unfold Mn; rw [← Nat.pow_add, Nat.mul_add]
          have hOld := hin j
          generalize ht1 : ((kn.map (·.1)).take j).foldl (mixOne g.weight (B.lot n).made kn) t0 = t1 at hF2 hOld
          have hSt : FrS ((look t1 k0).getD (0, 1)) := (hOld.getD k0).small X (by omega)
          refine (show Ev (tDGet (tOp (rIxL K) (tVar 2) (tVar 4)) (tVar 7)) [some (.ref b), some (vi n), some (.ref kl), some (.ref td), some (vi g.of), some (vi g.to), some (vi g.weight), some (.int k0), v8, v9, v10] H2 (.ref a1) from fun H3 e3 Q q =>
            (ev_ixL (xs := ds.map V.ref) (ev_var rfl) (sq_of hkl2) (ev_var rfl) (atI_nat (by rw [List.getElem?_map, hds]; rfl))) H3 e3 _ fun H4 e4 => ⟨.int k0, rfl, d, _, rfl, .inl ⟨_, Sum.inl k0, .inr ⟨od, (e3.trans e4) _ _ hd2⟩, rfl, by rw [valV_tab, hl1]; rfl⟩, q H4 e4⟩) H2 (Ex.refl H2) _ fun H3 e3 => ?_
          refine eg_tup2 (st_of (e3 _ _ hpa2)) _ ?_
          have L3 := L2'.mono e3
          obtain ⟨la, hla, LA⟩ := L3.lotN hn
          have hw28 : g.weight < 2 ^ 28 := Nat.lt_of_le_of_lt (X.leg g (List.mem_of_getElem? hg)).2.2 (by decide)
          have m1 : CMulW (p.1 : Int) (g.weight : Int) := mul_okN hSp.num hw28 (by decide) (by decide) (by decide)
          have m2 : CMulW (p.2 : Int) ((B.lot n).made : Int) := mul_okN hSp.den hmade.2 (by decide) (by decide) (by decide)
          refine q_asgR (er_ratio (a := p.1 * g.weight) (b := p.2 * (B.lot n).made) (ea_cons (ev_op (ev_var rfl) (ev_var rfl) (rv_I m1)) (ea_cons (ev_op (ev_var rfl) (el_made T (eb_lotAt (eb_lots T (ev_var rfl) L3) L3 (ev_var rfl) hla) LA) (rv_I m2)) ea_nil)) (Nat.mul_pos hSp.pos hmade.1) (pow_lt (pow_mul_lt hSp.den hmade.2) (by decide))) fun y H4 e4 ⟨tm, ey, htm, hm4⟩ => ?_
          subst ey
          obtain ⟨at', F1, F2, F3⟩ := hF2.mono (e3.trans e4)
          refine s_dputR (R := fun y H => ∃ q, y = .ref q ∧ FrAt H q (plusN ((look t1 k0).getD (0, 1)) (moreN g.weight (B.lot n).made p))) F1 (ev_var rfl) (ev_var rfl) (er_imp (er_plus (fun H5 e5 Q q => (er_get2 F1 F2 F3 (ev_var rfl) (ev_var rfl) (er_imp (er_tup (ea_cons (ev_c (v := vi 0)) (ea_cons (ev_c (v := vi 1)) ea_nil)) (by show 2 ≤ 100000; decide)) fun y H6 e6 ⟨q, ey, _, hq⟩ => ⟨q, ey, hq⟩)) H5 e5 _ fun y H6 e6 ⟨q1, ey, hq1⟩ => ?_) hSt hMore) fun y H5 e5 ⟨q, ey, _, hq⟩ => ⟨q, ey, hq⟩) (fun v H5 H6 e ⟨q, h1, h2⟩ => ⟨q, h1, e _ _ h2⟩) (by rw [tab_len]; have h1 := hOld.len; have h2 := congrArg List.length F2; rw [List.length_map, List.length_map] at h2; omega) fun v H5 e5 ⟨q, ev, hq⟩ => ?_
          · exact ⟨_, rfl, q _ H6 e6 ⟨q1, tm, by rw [ey], hq1, (e5.trans e6) _ _ hm4⟩⟩
          · subst ev
            have e25 := (e3.trans e4).trans e5
            refine go _ _ ⟨_, _, _, _, rfl, fun x o hx nx => ?_, ?_, ?_⟩
            · rw [upd_ne (fun z => by rw [z, htd] at hx; cases hx)]
              exact e25 _ _ (hx2 x o hx nx)
            · rw [upd_ne (Ne.symm ntd)]
              exact e25 _ _ hd2
            · rw [take_more hkj, List.foldl_append, ht1]
              show FD _ td (mixOne g.weight (B.lot n).made kn t1 k0)
              unfold mixOne
              rw [hp]
              exact FD.put (e5 _ _ F1) F2 (fun k a q => let ⟨p, q1, q2⟩ := F3 k a q; ⟨p, q1, e5 _ _ q2⟩) hq
        · subst es
          have hlen : (tab V.ref as).length = (kn.map (·.1)).length := by rw [tab_len, ← D2, List.length_map]
          rw [hlen, List.take_length] at hF2
          refine ⟨_, _, _, _, _, _, _, rfl, fun x o hx => ?_, ?_⟩
          · by_cases nx : x = d
            · rw [nx, upd_same, hHd o (by rw [← nx]; exact hx)]
            · rw [upd_ne nx]; exact hx2 x o hx nx
          · obtain ⟨at', F1, F2, F3⟩ := hF2
            refine ⟨at', by rw [upd_ne ntd]; exact F1, F2, fun k a q => ?_⟩
            obtain ⟨p, p1, p2⟩ := F3 k a q
            refine ⟨p, p1, ?_⟩
            unfold FrAt
            rw [upd_ne (fun z => by rw [FrAt, z, hd2] at p2; cases p2)]
            exact p2
      · have hto := of_decide_eq_false hc
        refine ⟨_, _, _, _, _, _, _, rfl, e'.trans e1, ?_⟩
        show FD _ td (mixLeg (B.lot n).made n known _ g)
        unfold mixLeg
        rw [if_neg hto]
        exact hF.mono e1
    · subst es
      refine s_ret (ev_var rfl) fun H1 e1 => k td H1 htd (e'.trans e1) ?_
      rw [List.length_map, L.gn, List.take_length] at hF
      exact hF.mono e1
end
end LW
end
section
set_option Elab.async false
set_option linter.all false
set_option maxRecDepth 100000
set_option maxHeartbeats 4000000

set_option exponentiation.threshold 10000
namespace LW
open PySem PySem.Spec PyProof.Rows L2 Evl LF TbLtBook
section
variable {P : Program} {w : World} {K : PySem.W.Frag} {mg : Str → Option Value} {base : Heap} {A : Ad}
theorem cut_to (xs : List V) (k : Nat) : cutV xs none (some (k : Int)) = xs.take k := by
  unfold cutV
  rw [HT.sIx_none, HT.sIx_nat, List.drop_zero, Nat.sub_zero, List.take_eq_take_iff]
  omega
theorem cut_of (xs : List V) (a b : Nat) (ha : a ≤ xs.length) : cutV xs (some (a : Int)) (some (b : Int)) = (xs.drop a).take (b - a) := by
  unfold cutV
  rw [HT.sIx_nat, HT.sIx_nat, Nat.min_eq_left ha, List.take_eq_take_iff, List.length_drop]
  omega
theorem el_eq {te : TE} {σ : L2.St} {H : Hp} {xs ys : List V} (h : EvL te σ H xs) (e : xs = ys) : EvL te σ H ys := by rw [← e]; exact h
/-- over an enumeration of a new list -/
theorem s_forEnumL {tl : TE} {σ : L2.St} {H : Hp} {D : Ends} {tu : TS} {xs : List V} {j1 j2 : Nat} (h : EvL tl σ H xs) (Pv : Addr → Nat → L2.St → Hp → Prop) (h0 : ∀ a H1, H a = none → Ex H H1 → H1 a = some (.lst xs) → Pv a 0 σ H1) (hl : ∀ a i σ' H', Pv a i σ' H' → SqL K H' a xs)
    (hs : ∀ a i x σ' H', xs[i]? = some x → Pv a i σ' H' → ∀ H2, Ex H' H2 → tu { D with nx := Pv a (i + 1), ct := Pv a (i + 1), bk := D.nx } ((σ'.set j1 (some (vi i))).set j2 (some x)) H2) (hd : ∀ a σ' H', Pv a xs.length σ' H' → D.nx σ' H') :
    tFor (iEnum K (tCons tl tNil)) (gTup K 2 (gCons (gName j1) (gCons (gName j2) gNil))) tu D σ H :=
  h H (Ex.refl H) _ fun a H1 ha e h1 => ⟨a, xs, rfl, sq_of h1, for_it walk_enum (Pv a) (h0 a H1 ha e h1) (fun i σ' H' hi p => hl a i σ' H' p) (fun i x σ' H' H2 hi p ⟨tp, x1, y1, ex, hT, eH, ei, ey⟩ => by
    have ex1 : x1 = vi i := (Option.some.inj ei).symm
    subst ex eH ex1
    exact eg_tup2 (st_of upd_same) _ (hs a i y1 σ' H' ey p _ (Ex.new hT))) (hd a)⟩
theorem q_forEnumL {tl : TE} {σ : L2.St} {H : Hp} {D : Ends} {tu tz : TS} {xs : List V} {j1 j2 : Nat} (h : EvL tl σ H xs) (Pv : Addr → Nat → L2.St → Hp → Prop) (h0 : ∀ a H1, H a = none → Ex H H1 → H1 a = some (.lst xs) → Pv a 0 σ H1) (hl : ∀ a i σ' H', Pv a i σ' H' → SqL K H' a xs)
    (hs : ∀ a i x σ' H', xs[i]? = some x → Pv a i σ' H' → ∀ H2, Ex H' H2 → tu { D with nx := Pv a (i + 1), ct := Pv a (i + 1), bk := tz D } ((σ'.set j1 (some (vi i))).set j2 (some x)) H2) (hd : ∀ a σ' H', Pv a xs.length σ' H' → tz D σ' H') :
    tSeq (tFor (iEnum K (tCons tl tNil)) (gTup K 2 (gCons (gName j1) (gCons (gName j2) gNil))) tu) tz D σ H := s_forEnumL (D := { D with nx := tz D }) h Pv h0 hl hs hd
/-- {k: v}, one pair -/
theorem er_disp1 {σ : L2.St} {H : Hp} {tk tv : TE} {k : Int} {p : Fr} (h1 : ∀ H1, Ex H H1 → Ev tk σ H1 (.int k)) (h2 : ∀ H1, Ex H H1 → EvR tv σ H1 (fun y H2 => ∃ q, y = .ref q ∧ FrAt H2 q p)) : EvR (tDisp [(tk, tv)]) σ H (fun y H2 => ∃ d, y = .ref d ∧ H d = none ∧ FD H2 d [(k, p)]) := fun H1 e Q q d hd => by
  have e1 : Ex H1 (upd H1 d (.dK [])) := Ex.new hd
  refine (h1 _ (e.trans e1)) _ (Ex.refl _) _ fun H2 e2 => (h2 _ (e.trans e1)) H2 e2 _ fun y H3 e3 ⟨a, ey, ha⟩ => ?_
  have hd3 : H3 d = some (.dK []) := e3 _ _ (e2 _ _ upd_same)
  subst ey
  refine ⟨hd3, [(Sum.inl k, .ref a)], rfl, Nat.le_of_ble_eq_true rfl, ?_⟩
  have hm : mergeK [] [((Sum.inl k : Key), V.ref a)] = putK (tab V.ref []) (Sum.inl k) (.ref a) := rfl
  rw [hm]
  refine q _ _ (((e1.trans e2).trans e3).mut hd) ⟨d, rfl, fresh_back e hd, ?_⟩
  exact FD.put (as := []) (t := []) hd3 rfl (fun k a z => by cases z) ha
theorem FD.keepL {H H' : Hp} {d l : Addr} {t : FTab} {xs ys : List V} (h : FD H d t) (e : Ex H H') (hl : H l = some (.lst xs)) : FD (upd H' l (.lst ys)) d t := by
  obtain ⟨as, h1, h2, h3⟩ := h
  refine ⟨as, by rw [upd_ne (fun z => by rw [z, hl] at h1; cases h1)]; exact e _ _ h1, h2, fun k a q => ?_⟩
  obtain ⟨p, p1, p2⟩ := h3 k a q
  refine ⟨p, p1, ?_⟩
  unfold FrAt
  rw [upd_ne (fun z => by rw [FrAt, z, hl] at p2; cases p2)]
  exact e _ _ p2
theorem KnownAt.add {H H' : Hp} {kl d : Addr} {ds : List Addr} {known : List FTab} {t : FTab} (h : KnownAt H kl ds known) (e : Ex H H') (hF : FD H' d t) : KnownAt (upd H' kl (.lst (ds.map V.ref ++ [V.ref d]))) kl (ds ++ [d]) (known ++ [t]) := by
  refine ⟨by rw [upd_same, List.map_append]; rfl, by rw [List.length_append, List.length_append, h.2.1]; rfl, fun i d' t' h1 h2 => ?_⟩
  have hkl' := e _ _ h.1
  by_cases hi : i < ds.length
  · rw [List.getElem?_append_left hi] at h1
    rw [List.getElem?_append_left (by rw [← h.2.1]; exact hi)] at h2
    exact (h.2.2 i d' t' h1 h2).keepL e h.1
  · rw [List.getElem?_append_right (by omega)] at h1
    rw [List.getElem?_append_right (by rw [← h.2.1]; omega), ← h.2.1] at h2
    have z : i - ds.length = 0 := by
      have := (List.getElem?_eq_some_iff.mp h1).1
      simpa using this
    rw [z] at h1 h2
    cases h1; cases h2
    exact hF.keepL (Ex.refl _) hkl'
def spBook_shares (A : Ad) : Sp := fun vs H Q _ => ∃ (b ll gl : Addr) (las gas : List Addr) (B : MB) (n : Nat), vs = [.ref b, vi n] ∧ BookIs A H b ll gl las gas B ∧ B.Mix ∧ n < B.lots.length ∧
  ∀ d H', Ex H H' → FD H' d ((B.shareTabs (n + 1)).getD n []) → Q (.ref d) H'
theorem ok_Book_shares (T : Txt K mg A) : FnOk P w K mg base CX0 5 A.f_Book_shares A.d_Book_shares ["self", "lot"] (spBook_shares A) := by
  refine T.fn_Book_shares.ok sc_Book_shares (fun vs H Q E h => ?_) (fun cdv Ar outer s H vs Q E hr h => ⟨_, (pss_cons (ps_set (i := 2) sc_Book_shares.nd rfl (Or.inl rfl) (pe_lst pa_nil))
    (pss_cons (ps_for PassesOwn.never rfl (pi_enum (by rfl) T.b_enumerate (pa_cons (pe_slice sl_list (pe_fld (pv 0) rfl) po_none (po_some (pe_op op_add (pv 1) pe_int))) pa_nil)) (pg_tup rfl (pgs_cons (pg_name (i := 3) sc_Book_shares.nd rfl (Or.inl rfl)) (pgs_cons (pg_name (i := 4) sc_Book_shares.nd rfl (Or.inl rfl)) pgs_nil))) (pss_one (ps_if (pt_val (pe_meth0 (pv 4) T.cl_Lot T.me_Lot_is_founder (ok_Lot_is_founder T) (hr.mono (by decide)) T.bi_Lot_is_founder .nil pass0)) (pss_one (ps_expr (pe_bm PySem.F.plainAttrs_list PySem.F.slot_list_append PySem.F.type_list_append mt_append (pv 2) (pa_cons (pe_disp (pps_cons (pv 3) (pe_tup (pa_cons pe_int (pa_cons pe_int pa_nil))) pps_nil) (by rfl) (by rfl) (fun z => by cases z) (by decide)) pa_nil)))) (pss_one (ps_expr (pe_bm PySem.F.plainAttrs_list PySem.F.slot_list_append PySem.F.type_list_append mt_append (pv 2) (pa_cons (pe_meth (pv 0) T.cl_Book T.me_Book_mixed (ok_Book_mixed T) (hr.mono (by decide)) T.bi_Book_mixed .nil pass0 (pa_cons (pv 3) (pa_cons (pv 2) pa_nil))) pa_nil)))))))
    (pss_one (ps_ret (pe_ix ix_list (pv 2) (pv 1) (fun _ _ => rfl)))))), ?_⟩)
  · obtain ⟨_, _, _, _, _, _, _, rfl, _⟩ := h
    rfl
  · obtain ⟨b, ll, gl, las, gas, B, n, rfl, L, X, hn, k⟩ := h
    have hlots := X.lots
    refine q_asgR (er_lst ea_nil (Nat.zero_le _)) fun y H1 e1 ⟨tl, ey, htl, htl1⟩ => ?_
    subst ey
    have L1 := L.mono e1
    have hcut : cutV (las.map V.ref) none (some ((n : Int) + 1)) = (las.map V.ref).take (n + 1) := by
      have := cut_to (las.map V.ref) (n + 1)
      rw [← this]; rfl
    refine q_forEnumL (el_eq (el_sl (K := K) (eb_lots T (ev_var rfl) L1) eo_none (eo_some (ev_op (ev_var (v := .int (n : Int)) rfl) (ev_c (v := .int 1)) rv_I0)) (sq_of L1.hl)) hcut) (fun a i σ' H' => ∃ (v3 v4 : Option V) (ds : List Addr), σ' = [some (.ref b), some (vi n), some (.ref tl), v3, v4] ∧ Ex H H' ∧ a ≠ tl ∧ H' a = some (.lst ((las.map V.ref).take (n + 1))) ∧ KnownAt H' tl ds (B.shareTabs i))
      (fun a H2 ha e2 h2 => ⟨_, _, [], rfl, e1.trans e2, fun z => (by rw [z, htl1] at ha; cases ha), h2, e2 _ _ htl1, rfl, fun i d t z => (by cases z)⟩) (fun a i σ' H' ⟨_, _, _, _, _, _, q, _⟩ => sq_of q) (fun a i x σ' H' hx ⟨v3, v4, ds, es, e', na, hal, hk⟩ H2 e2 => ?_) (fun a σ' H' ⟨v3, v4, ds, es, e', na, hal, hk⟩ => ?_)
    · subst es
      have e02 := e'.trans e2
      have hi : i < n + 1 := by
        have := (List.getElem?_eq_some_iff.mp hx).1
        rw [List.length_take] at this
        omega
      rw [List.getElem?_take_of_lt hi] at hx
      obtain ⟨la, ex, hla, hil, LA⟩ := las_at (L.mono e02) hx
      subst ex
      have hk2 := hk.mono e2
      have hK := shareTabs_ok X i (by omega)
      have hkl : ds.length = i := by rw [hk2.2.1, hK.1]
      refine s_if (et_B (et_founder T (ev_var rfl) LA)) (fun hc H3 e3 => ?_) (fun hc H3 e3 => ?_)
      · refine s_appR (e3 _ _ hk2.1) (ev_var rfl) (er_disp1 (k := (i : Int)) (p := (1, 1)) (fun H4 e4 => ev_var rfl) (fun H4 e4 => er_imp (er_tup (ea_cons (ev_c (v := vi 1)) (ea_cons (ev_c (v := vi 1)) ea_nil)) (by show 2 ≤ 100000; decide)) fun y H6 e6 ⟨q, ey, _, hq⟩ => ⟨q, ey, hq⟩)) (by rw [List.length_map]; omega) fun y H4 e4 ⟨d, ey, hd, hF⟩ => ?_
        subst ey
        refine ⟨some (vi i), some (.ref la), ds ++ [d], rfl, ((e02.trans e3).trans e4).mut htl, na, by rw [upd_ne na]; exact e4 _ _ (e3 _ _ (e2 _ _ hal)), ?_⟩
        have := hk2.add (e3.trans e4) hF
        show KnownAt _ tl _ (B.shareTabs i ++ [if (B.lot i).founder = true then [((i : Int), (1, 1))] else B.mixed i (B.shareTabs i)])
        rw [if_pos hc]
        exact this
      · have L3 := L.mono (e02.trans e3)
        obtain ⟨_, hobj⟩ := L3.obj
        refine s_appR (R := fun y H => ∃ d, y = .ref d ∧ FD H d (B.mixed i (B.shareTabs i))) (e3 _ _ hk2.1) (ev_var rfl) (er_meth (ev_var rfl) hobj lk_Book_mixed (ea_cons (ev_var rfl) (ea_cons (ev_var rfl) ea_nil)) fun H4 e4 Q q E => ⟨b, ll, gl, tl, las, gas, ds, B, i, B.shareTabs i, rfl, L3.mono e4, X, hil, hK, hk2.mono (e3.trans e4), fun d H5 hd e5 hF => q _ H5 e5 ⟨d, rfl, hF⟩⟩) (by rw [List.length_map]; omega) fun y H4 e4 ⟨d, ey, hF⟩ => ?_
        subst ey
        refine ⟨some (vi i), some (.ref la), ds ++ [d], rfl, ((e02.trans e3).trans e4).mut htl, na, by rw [upd_ne na]; exact e4 _ _ (e3 _ _ (e2 _ _ hal)), ?_⟩
        have := hk2.add (e3.trans e4) hF
        show KnownAt _ tl _ (B.shareTabs i ++ [if (B.lot i).founder = true then [((i : Int), (1, 1))] else B.mixed i (B.shareTabs i)])
        rw [if_neg (by rw [hc]; decide)]
        exact this
    · subst es
      have hlen : ((las.map V.ref).take (n + 1)).length = n + 1 := by rw [List.length_take, List.length_map, L.ln]; omega
      rw [hlen] at hk
      have hK := shareTabs_ok X (n + 1) (by omega)
      have hkl : ds.length = n + 1 := by rw [hk.2.1, hK.1]
      have hds : ds[n]? = some (ds[n]'(by omega)) := List.getElem?_eq_getElem _
      have hts : (B.shareTabs (n + 1))[n]? = some ((B.shareTabs (n + 1)).getD n []) := by rw [List.getD_eq_getElem?_getD, List.getElem?_eq_getElem (by rw [hK.1]; omega)]; rfl
      refine s_ret (ev_ixL (ev_var rfl) (sq_of hk.1) (ev_var rfl) (atI_nat (by rw [List.getElem?_map, hds]; rfl))) fun H2 e2 => ?_
      exact k _ H2 (e'.trans e2) ((hk.2.2 n _ _ hds hts).mono e2)
end
end LW
end
section
set_option Elab.async false
set_option linter.all false
set_option maxRecDepth 100000
set_option maxHeartbeats 4000000

set_option exponentiation.threshold 10000
namespace LW
open PySem PySem.Spec PyProof.Rows L2 Evl LF TbLtBook
/-- the room of a flow: its dict at rm, its rows at rs; all of them newer than H0 -/
structure RoomAt (H0 H : Hp) (rm : Addr) (rs : List (Int × Addr)) (R : Room) : Prop where
  obj : H rm = some (.dK (tab V.ref rs))
  keys : rs.map (·.1) = R.map (·.1)
  row : ∀ k a, look rs k = some a → ∃ row, look R k = some row ∧ H a = some (.dK (tab V.int row))
  new : ∀ k a, look rs k = some a → H0 a = none ∧ a ≠ rm
  inj : ∀ k1 k2 a, look rs k1 = some a → look rs k2 = some a → k1 = k2
  nrm : H0 rm = none
structure FlowIs (A : Ad) (H0 H : Hp) (f rm : Addr) (rs : List (Int × Addr)) (R : Room) (tot : Int) : Prop where
  obj : ∃ dx : Addr, H f = some (.ins A.c_Flow dx (fFlow (.ref rm) (.int tot)))
  nf : H0 f = none
  ex : Ex H0 H
  room : RoomAt H0 H rm rs R
section
variable {A : Ad} {H0 H H' : Hp} {f rm : Addr} {rs : List (Int × Addr)} {R : Room} {tot : Int}
theorem RoomAt.mono (r : RoomAt H0 H rm rs R) (e : Ex H H') : RoomAt H0 H' rm rs R := ⟨e _ _ r.obj, r.keys, fun k a h => let ⟨row, h1, h2⟩ := r.row k a h; ⟨row, h1, e _ _ h2⟩, r.new, r.inj, r.nrm⟩
theorem FlowIs.mono (F : FlowIs A H0 H f rm rs R tot) (e : Ex H H') : FlowIs A H0 H' f rm rs R tot := ⟨let ⟨dx, h⟩ := F.obj; ⟨dx, e _ _ h⟩, F.nf, F.ex.trans e, F.room.mono e⟩
theorem RoomAt.find (r : RoomAt H0 H rm rs R) {k : Int} {row : RowA} (h : look R k = some row) : ∃ a, look rs k = some a ∧ H a = some (.dK (tab V.int row)) := by
  have hk : k ∈ rs.map (·.1) := by rw [r.keys, ← look_key, h]; rfl
  rw [← look_key] at hk
  cases e : look rs k with
  | none => rw [e] at hk; cases hk
  | some a =>
    obtain ⟨row', h1, h2⟩ := r.row k a e
    rw [h] at h1
    cases h1
    exact ⟨a, rfl, h2⟩
theorem RoomAt.noRow (r : RoomAt H0 H rm rs R) {k : Int} (h : look R k = none) : look rs k = none := by
  rw [look_none, r.keys, ← look_none]; exact h
theorem RoomAt.setRow (r : RoomAt H0 H rm rs R) {u v x : Int} {a : Addr} {row : RowA} (ha : look rs u = some a) (hr : look R u = some row) : RoomAt H0 (upd H a (.dK (tab V.int (putA row v x)))) rm rs (setR R u v x) := by
  have na := r.new u a ha
  have hu : u ∈ R.map (·.1) := by rw [← look_key, hr]; rfl
  unfold setR
  rw [hr, Option.getD_some]
  refine ⟨by rw [upd_ne (Ne.symm na.2)]; exact r.obj, by rw [r.keys, putA_keys, if_pos hu], fun k a' h => ?_, r.new, r.inj, r.nrm⟩
  rw [look_putA]
  by_cases e : k = u
  · rw [e] at h
    rw [ha] at h
    cases h
    exact ⟨_, by rw [if_pos e], upd_same⟩
  · obtain ⟨row', h1, h2⟩ := r.row k a' h
    refine ⟨row', by rw [if_neg e]; exact h1, ?_⟩
    rw [upd_ne (fun z => e (r.inj k u a' h (by rw [z]; exact ha)))]
    exact h2
theorem RoomAt.addRow (r : RoomAt H0 H rm rs R) (ex : Ex H0 H) {u : Int} {z : Addr} (hn : look R u = none) (hz : H z = none) : RoomAt H0 (upd (upd H z (.dK [])) rm (.dK (tab V.ref (putA rs u z)))) rm (putA rs u z) (putA R u []) := by
  have nz : z ≠ rm := fun e => by rw [e, r.obj] at hz; cases hz
  have hrn := r.noRow hn
  refine ⟨upd_same, by rw [putA_keys, putA_keys, r.keys], fun k a h => ?_, fun k a h => ?_, fun k1 k2 a h1 h2 => ?_, r.nrm⟩
  · rw [look_putA] at h ⊢
    by_cases e : k = u
    · rw [if_pos e] at h ⊢
      cases h
      exact ⟨[], rfl, by rw [upd_ne nz, upd_same]; rfl⟩
    · rw [if_neg e] at h ⊢
      obtain ⟨row, h1, h2⟩ := r.row k a h
      refine ⟨row, h1, ?_⟩
      rw [upd_ne (r.new k a h).2, upd_ne (fun e => by rw [e, hz] at h2; cases h2)]
      exact h2
  · rw [look_putA] at h
    by_cases e : k = u
    · rw [if_pos e] at h
      cases h
      exact ⟨fresh_back ex hz, nz⟩
    · rw [if_neg e] at h
      exact r.new k a h
  · have old : ∀ k, look rs k = some z → False := fun k h => by
      obtain ⟨row, _, h2⟩ := r.row k z h
      rw [hz] at h2; cases h2
    rw [look_putA] at h1 h2
    by_cases e1 : k1 = u
    · rw [if_pos e1] at h1
      cases h1
      by_cases e2 : k2 = u
      · rw [e1, e2]
      · rw [if_neg e2] at h2
        exact (old _ h2).elim
    · rw [if_neg e1] at h1
      by_cases e2 : k2 = u
      · rw [if_pos e2] at h2
        cases h2
        exact (old _ h1).elim
      · rw [if_neg e2] at h2
        exact r.inj k1 k2 a h1 h2
theorem FlowIs.setRow (F : FlowIs A H0 H f rm rs R tot) {u v x : Int} {a : Addr} {row : RowA} (ha : look rs u = some a) (hr : look R u = some row) : FlowIs A H0 (upd H a (.dK (tab V.int (putA row v x)))) f rm rs (setR R u v x) tot := by
  obtain ⟨dx, ho⟩ := F.obj
  have na := F.room.new u a ha
  obtain ⟨row', _, h2⟩ := F.room.row u a ha
  exact ⟨⟨dx, by rw [upd_ne (fun z => by rw [z, h2] at ho; cases ho)]; exact ho⟩, F.nf, F.ex.mut na.1, F.room.setRow ha hr⟩
theorem FlowIs.addRow (F : FlowIs A H0 H f rm rs R tot) {u : Int} {z : Addr} (hn : look R u = none) (hz : H z = none) : FlowIs A H0 (upd (upd H z (.dK [])) rm (.dK (tab V.ref (putA rs u z)))) f rm (putA rs u z) (putA R u []) tot := by
  obtain ⟨dx, ho⟩ := F.obj
  refine ⟨⟨dx, ?_⟩, F.nf, (F.ex.trans (Ex.new hz)).mut F.room.nrm, F.room.addRow F.ex hn hz⟩
  rw [upd_ne (fun e => by rw [e, F.room.obj] at ho; cases ho), upd_ne (fun e => by rw [e, hz] at ho; cases ho)]
  exact ho
end
section
variable {P : Program} {w : World} {K : PySem.W.Frag} {mg : Str → Option Value} {base : Heap} {A : Ad}
theorem ef_room (T : Txt K mg A) {te : TE} {σ : L2.St} {H0 H : Hp} {f rm : Addr} {rs : List (Int × Addr)} {R : Room} {tot : Int} (h : Ev te σ H (.ref f)) (F : FlowIs A H0 H f rm rs R tot) : Ev (tFld K te "room") σ H (.ref rm) := let ⟨_, ho⟩ := F.obj; ev_Flow_room T h ho
theorem q_setd {D : Ends} {tz : TS} {σ : L2.St} {H0 H : Hp} {f rm : Addr} {rs : List (Int × Addr)} {R : Room} {tot u : Int} {to tk : TE} {j : Nat} (F : FlowIs A H0 H f rm rs R tot) (ho : Ev to σ H (.ref rm)) (hk : Ev tk σ H (.int u)) (hz : R.length < 1000)
    (go : ∀ H' rs' a, FlowIs A H0 H' f rm rs' (ens R u) tot → look rs' u = some a → tz D (σ.set j (some (.ref a))) H') : tSeq (tAsg (tDSetd to tk tDNewK) (gName j)) tz D σ H :=
  ho H (Ex.refl H) _ fun H1 e1 => ⟨rm, rfl, .inl ⟨_, .inl (e1 _ _ F.room.obj)⟩, hk H1 e1 _ fun H2 e2 z hzz => by
    have F2 := F.mono (e1.trans e2)
    have F3 := F2.mono (Ex.new (o := .dK []) hzz)
    have hlen : rs.length = R.length := by have := congrArg List.length F.room.keys; rwa [List.length_map, List.length_map] at this
    refine ⟨tab V.ref rs, Sum.inl u, F3.room.obj, rfl, sz_lt (by rw [tab_len]; omega), fun v hv => ?_, fun hv => ?_⟩
    · rw [valV_tab] at hv
      obtain ⟨a, ha, ev⟩ := Option.map_eq_some_iff.mp hv
      subst ev
      obtain ⟨row, h1, h2⟩ := F.room.row u a ha
      refine go _ rs a ?_ ha
      unfold ens
      rw [if_pos (by rw [h1]; rfl)]
      exact F3
    · rw [valV_tab, Option.map_eq_none_iff] at hv
      have hn : look R u = none := by rw [look_none, ← F.room.keys, ← look_none]; exact hv
      rw [putK_tab]
      refine go _ (putA rs u z) z ?_ (by rw [look_putA, if_pos rfl])
      unfold ens
      rw [if_neg (by rw [hn]; decide)]
      exact F2.addRow hn hzz⟩
theorem ev_dget2I {σ : L2.St} {H : Hp} {td ty : TE} {d : Addr} {t : Tab} {k : Int} (hd : H d = some (.dK (tab V.int t))) (h1 : Ev td σ H (.ref d)) (h2 : Ev ty σ H (.int k)) : Ev (tDGet2 td ty (tC (.int 0))) σ H (.int ((look t k).getD 0)) := fun H1 e Q q =>
  h1 H1 e _ fun H2 e2 => ⟨d, rfl, .inl ⟨_, .inl ((e.trans e2) _ _ hd)⟩, h2 H2 (e.trans e2) _ fun H3 e3 => by
    refine ⟨_, .inl ⟨_, Sum.inl k, .inl (((e.trans e2).trans e3) _ _ hd), rfl, rfl⟩, ?_⟩
    rw [valV_tab]
    have := q H3 (e2.trans e3)
    cases el : look t k with
    | none => rw [el] at this; exact this
    | some x => rw [el] at this; exact this⟩
def spFlow_put (A : Ad) : Sp := fun vs H Q _ => ∃ (H0 : Hp) (f rm : Addr) (rs : List (Int × Addr)) (R : Room) (tot u v wt : Int), vs = [.ref f, .int u, .int v, .int wt] ∧ FlowIs A H0 H f rm rs R tot ∧ RS 900 R ∧
  ∀ H' rs', FlowIs A H0 H' f rm rs' (putE R (u, v, wt)) tot → Q .non H'
theorem ok_Flow_put (T : Txt K mg A) : FnOk P w K mg base CX0 1 A.f_Flow_put A.d_Flow_put ["self", "first", "second", "weight"] (spFlow_put A) := by
  refine T.fn_Flow_put.ok sc_Flow_put (fun vs H Q E h => ?_) (fun cdv Ar outer s H vs Q E hr h => ⟨_, (pss_cons (ps_set (i := 4) sc_Flow_put.nd rfl (Or.inl rfl) (pe_dsetd (pe_fld (pv 0) rfl) (pv 1) pe_dnewK ⟨by rfl, by rfl, by rfl, by rfl⟩))
    (pss_cons (ps_dput (hu_of hr) (pv 4) (pv 2) (pe_op op_add (pe_dget2 (hu_of hr) (pv 4) (pv 2) pe_int ⟨by rfl, by rfl, by rfl, by rfl⟩) (pv 3)) rfl)
    (pss_cons (ps_set (i := 5) sc_Flow_put.nd rfl (Or.inl rfl) (pe_dsetd (pe_fld (pv 0) rfl) (pv 2) pe_dnewK ⟨by rfl, by rfl, by rfl, by rfl⟩))
    (pss_one (ps_dput (hu_of hr) (pv 5) (pv 1) (pe_dget2 (hu_of hr) (pv 5) (pv 1) pe_int ⟨by rfl, by rfl, by rfl, by rfl⟩) rfl))))), ?_⟩)
  · obtain ⟨_, _, _, _, _, _, _, _, _, rfl, _⟩ := h
    rfl
  · obtain ⟨H0, f, rm, rs, R, tot, u, v, wt, rfl, F, hS, k⟩ := h
    refine q_setd F (ef_room T (ev_var rfl) F) (ev_var rfl) (by have := hS.1; omega) fun H1 rs1 a1 F1 ha1 => ?_
    obtain ⟨row1, hr1, hrow1⟩ := F1.room.row u a1 ha1
    have hrl1 : row1.length ≤ 900 := by
      rw [ens_look] at hr1
      cases e : look R u with
      | none => rw [e] at hr1; cases hr1; exact Nat.zero_le _
      | some r => rw [e] at hr1; cases hr1; exact hS.2 u r e
    have ec1 : (look row1 v).getD 0 = cap R u v := by
      rw [cap_row]
      rw [ens_look] at hr1
      cases hr1; rfl
    refine q_dput (v := .int (cap R u v + wt)) hrow1 (ev_var rfl) (ev_var rfl) (ev_is (ev_op (ev_dget2I hrow1 (ev_var rfl) (ev_var rfl)) (ev_var rfl) rv_I0) (by rw [ec1])) (by rw [tab_len]; omega) fun H2 e2 => ?_
    rw [putK_tab]
    have F2 := (F1.mono e2).setRow (v := v) (x := cap R u v + wt) ha1 hr1
    rw [ens_set] at F2
    generalize upd H2 a1 (.dK (tab V.int (putA row1 v (cap R u v + wt)))) = H3 at F2
    have hS2 := hS.set u v (cap R u v + wt)
    generalize hR2 : setR R u v (cap R u v + wt) = R2 at F2 hS2
    refine q_setd F2 (ef_room T (ev_var rfl) F2) (ev_var rfl) (by have := hS2.1; omega) fun H4 rs4 a4 F4 ha4 => ?_
    obtain ⟨row4, hr4, hrow4⟩ := F4.room.row v a4 ha4
    have hrl4 : row4.length ≤ 901 := by
      rw [ens_look] at hr4
      cases e : look R2 v with
      | none => rw [e] at hr4; cases hr4; exact Nat.zero_le _
      | some r => rw [e] at hr4; cases hr4; exact hS2.2 v r e
    have ec4 : (look row4 u).getD 0 = cap R2 v u := by
      rw [cap_row]
      rw [ens_look] at hr4
      cases hr4; rfl
    refine s_dput (v := .int (cap R2 v u)) hrow4 (ev_var rfl) (ev_var rfl) (ev_is (ev_dget2I hrow4 (ev_var rfl) (ev_var rfl)) (by rw [ec4])) (by rw [tab_len]; omega) fun H5 e5 => ?_
    rw [putK_tab]
    have F5 := (F4.mono e5).setRow (v := u) (x := cap R2 v u) ha4 hr4
    rw [ens_set] at F5
    refine k _ rs4 ?_
    unfold putE
    rw [hR2]
    exact F5
end
end LW
end
section
set_option Elab.async false
set_option linter.all false
set_option maxRecDepth 100000
set_option maxHeartbeats 4000000

set_option exponentiation.threshold 10000
namespace LW
open PySem PySem.Spec PyProof.Rows L2 Evl LF TbLtBook
section
variable {P : Program} {w : World} {K : PySem.W.Frag} {mg : Str → Option Value} {base : Heap} {A : Ad}
theorem ev_dgetR {σ : L2.St} {H : Hp} {td ty : TE} {d : Addr} {kvs : List (Key × V)} {k : Int} {v : V} (hd : Rd H d (.dK kvs)) (h1 : Ev td σ H (.ref d)) (h2 : Ev ty σ H (.int k)) (hv : valV kvs (Sum.inl k) = some v) : Ev (tDGet td ty) σ H v := fun H1 e Q q =>
  h1 H1 e _ fun H2 e2 => h2 H2 (e.trans e2) _ fun H3 e3 => ⟨d, v, rfl, .inl ⟨kvs, Sum.inl k, ex_rd ((e.trans e2).trans e3) hd, rfl, hv.symm⟩, q H3 (e2.trans e3)⟩
/-- self.room.get(u, {}) -/
theorem er_row {σ : L2.St} {H0 H : Hp} {f rm : Addr} {rs : List (Int × Addr)} {R : Room} {tot u : Int} {to tk : TE} (F : FlowIs A H0 H f rm rs R tot) (ho : Ev to σ H (.ref rm)) (hk : Ev tk σ H (.int u)) :
    EvR (tDGet2 to tk tDNewK) σ H (fun y H2 => ∃ a, y = .ref a ∧ (H a = none ∨ look rs u = some a) ∧ H2 a = some (.dK (tab V.int ((look R u).getD [])))) := fun H1 e Q q =>
  ho H1 e _ fun H2 e2 => ⟨rm, rfl, .inl ⟨_, .inl ((e.trans e2) _ _ F.room.obj)⟩, hk H2 (e.trans e2) _ fun H3 e3 z hz => by
    have e03 := (e.trans e2).trans e3
    have e4 : Ex H3 (upd H3 z (.dK [])) := Ex.new hz
    refine ⟨_, .inl ⟨_, Sum.inl u, .inl ((e03.trans e4) _ _ F.room.obj), rfl, rfl⟩, ?_⟩
    rw [valV_tab]
    cases el : look rs u with
    | none =>
      have hn : look R u = none := by rw [look_none, ← F.room.keys, ← look_none]; exact el
      refine q _ _ ((e2.trans e3).trans e4) ⟨z, rfl, .inl (fresh_back e03 hz), ?_⟩
      rw [hn]; exact upd_same
    | some a =>
      obtain ⟨row, h1, h2⟩ := F.room.row u a el
      refine q _ _ ((e2.trans e3).trans e4) ⟨a, rfl, .inr el, ?_⟩
      rw [h1]
      exact (e03.trans e4) _ _ h2⟩
theorem FlowIs.lock {H0 H H' : Hp} {f rm d : Addr} {rs : List (Int × Addr)} {R : Room} {tot : Int} (F : FlowIs A H0 H f rm rs R tot) (h : ∀ x o, H x = some o → x ≠ d → H' x = some o) (hd : d ≠ rm) (hf : d ≠ f) : (∃ dx : Addr, H' f = some (.ins A.c_Flow dx (fFlow (.ref rm) (.int tot)))) ∧ H' rm = some (.dK (tab V.ref rs)) :=
  let ⟨dx, ho⟩ := F.obj
  ⟨⟨dx, h _ _ ho (Ne.symm hf)⟩, h _ _ F.room.obj (Ne.symm hd)⟩
theorem q_lockKeys {D : Ends} {tz : TS} {σ : L2.St} {H : Hp} {tu : TS} {td : TE} {d : Addr} {kvs : List (Key × V)} {j : Nat} (hd : H d = some (.dK kvs)) (h : ∀ od, Ev td σ (upd H d (.frz od (.dK kvs))) (.ref d)) (Pv : Obj → Nat → L2.St → Hp → Prop)
    (h0 : ∀ od H1, Ex (upd H d (.frz od (.dK kvs))) H1 → Pv od 0 σ H1) (hl : ∀ od i σ' H', Pv od i σ' H' → H' d = some (.frz od (.dK kvs)))
    (hs : ∀ od i k v σ' H' (Dx : Ends), kvs[i]? = some (k, v) → Pv od i σ' H' → (∀ σ2 H2, Pv od (i + 1) σ2 H2 → Dx.nx σ2 H2) → tu Dx (σ'.set j (some (kV k))) H') (hdone : ∀ od σ' H', Pv od kvs.length σ' H' → tz D σ' (upd H' d (.dK kvs))) :
    tSeq (tLock (tFor (iKeys td) (gName j) tu)) tz D σ H := s_lockKeys (D := { D with nx := tz D }) hd h Pv h0 hl hs hdone
def spFlow_reached (A : Ad) : Sp := fun vs H Q _ => ∃ (H0 : Hp) (f rm : Addr) (rs : List (Int × Addr)) (R : Room) (tot : Int) (n : Nat), vs = [.ref f] ∧ FlowIs A H0 H f rm rs R tot ∧ ROk R (Uu n) ∧ n ≤ 1000 ∧
  ∀ d told H', H d = none → Ex H H' → H' d = some (.dK (tab V.int told)) → Reached R told → Q (.ref d) H'
theorem ok_Flow_reached (T : Txt K mg A) : FnOk P w K mg base CX0 1 A.f_Flow_reached A.d_Flow_reached ["self"] (spFlow_reached A) := by
  refine T.fn_Flow_reached.ok sc_Flow_reached (fun vs H Q E h => ?_) (fun cdv Ar outer s H vs Q E hr h => ⟨_, (pss_cons (ps_set (i := 1) sc_Flow_reached.nd rfl (Or.inl rfl) (pe_disp (pps_cons (pe_glob (v := .int (-1)) rfl T.g_SOURCE.choose_spec ⟨_, rfl⟩) (pe_glob (v := .int (-1)) rfl T.g_SOURCE.choose_spec ⟨_, rfl⟩) pps_nil) (by rfl) (by rfl) (fun z => by cases z) (by decide)))
    (pss_cons (ps_set (i := 2) sc_Flow_reached.nd rfl (Or.inl rfl) (pe_lst (pa_cons (pe_glob (v := .int (-1)) rfl T.g_SOURCE.choose_spec ⟨_, rfl⟩) pa_nil)))
    (pss_cons (ps_set (i := 3) sc_Flow_reached.nd rfl (Or.inl rfl) pe_int)
    (pss_cons (ps_while PassesOwn.never (pt_cmpR op_lt (pv 3) (pe_callB call_len_seq (by rfl) T.b_len PySem.boot_len (pa_cons (pv 2) pa_nil)) (nomark _)) (pss_cons (ps_set (i := 4) sc_Flow_reached.nd rfl (Or.inl rfl) (pe_dget2 (hu_of hr) (pe_fld (pv 0) rfl) (pe_ix ix_list (pv 2) (pv 3) (fun _ _ => rfl)) pe_dnewK ⟨by rfl, by rfl, by rfl, by rfl⟩))
    (pss_cons (ps_lock (ps_for PassesOwn.never rfl (pi_keys (pv 4)) (pg_name (i := 5) sc_Flow_reached.nd rfl (Or.inl rfl)) (pss_one (ps_if (PW.pt (pw_and (pt_cmpR op_gt (pe_dget (hu_of hr) (pv 4) (pv 5) (fun _ _ => rfl)) pe_int (nomark _)) (pw_and1 (pt_cmp (pc_dnotin (hu_of hr) (pv 5) (pv 1)))))) (pss_cons (ps_dput (hu_of hr) (pv 1) (pv 5) (pe_ix ix_list (pv 2) (pv 3) (fun _ _ => rfl)) rfl)
    (pss_one (ps_expr (pe_bm PySem.F.plainAttrs_list PySem.F.slot_list_append PySem.F.type_list_append mt_append (pv 2) (pa_cons (pv 5) pa_nil))))) pss_nil))))
    (pss_one (ps_aug (i := 3) sc_Flow_reached.nd rfl (Or.inl rfl) pe_int ip_add)))))
    (pss_one (ps_ret (pv 1))))))), ?_⟩)
  · obtain ⟨_, _, _, _, _, _, _, rfl, _⟩ := h
    rfl
  · obtain ⟨H0, f, rm, rs, R, tot, n, rfl, F, hok, hn, k⟩ := h
    refine q_asgR (R := fun y H2 => ∃ d, y = .ref d ∧ H d = none ∧ H2 d = some (.dK (tab V.int [(-1, -1)]))) (fun H1 e Q q d hd => ?_) fun y H1 e1 ⟨d, ey, hd, hd1⟩ => ?_
    · refine ⟨upd_same, [(Sum.inl (-1), .int (-1))], rfl, Nat.le_of_ble_eq_true rfl, ?_⟩
      exact q _ _ ((Ex.new hd).mut hd) ⟨d, rfl, fresh_back e hd, upd_same⟩
    subst ey
    refine q_asgR (er_lst (ea_cons ev_c ea_nil) (by show 1 ≤ 100000; decide)) fun y H2 e2 ⟨u, ey, hu, hu2⟩ => ?_
    subst ey
    have hdu : d ≠ u := fun z => by rw [← z, hd1] at hu; cases hu
    have hu0 : H u = none := fresh_back e1 hu
    refine q_asg ev_c fun H3 e3 => ?_
    refine q_while (fun m σ' H' => ∃ (place : Nat) (t : Tab) (v4 v5 : Option V), σ' = [some (.ref f), some (.ref d), some (.ref u), some (vi place), v4, v5] ∧ Ex H H' ∧ H' d = some (.dK (tab V.int t)) ∧ H' u = some (.lst (t.map fun q => V.int q.1)) ∧ RInv R t ∧ place ≤ t.length ∧ m + place = n + 3 ∧
        (∀ (j : Nat) (a : Int), j < place → (t.map (·.1))[j]? = some a → ∀ b, 0 < cap R a b → b ∈ t.map (·.1)))
      (n + 3) ⟨0, [(-1, -1)], _, _, rfl, (e1.trans e2).trans e3, e3 _ _ (e2 _ _ hd1), e3 _ _ hu2, RInv.start R, Nat.zero_le _, rfl, fun j a h => by omega⟩ (fun m σ' H4 ⟨place, t, v4, v5, es, e4, hd4, hu4, hI, hpl, hm, hcl⟩ => ?_)
    subst es
    have htl := hI.len hok
    refine ⟨decide (place < t.length), et_is (et_test (ev_op (ev_var rfl) (ev_lenL (ev_var rfl) (sq_of hu4)) rv_I0)) (by rw [List.length_map]; by_cases h : place < t.length <;> simp [h]), fun hlt H5 e5 => ?_, fun hlt H5 e5 => ?_⟩
    · have hlt := of_decide_eq_true hlt
      obtain ⟨a, ha⟩ : ∃ a, (t.map (·.1))[place]? = some a := ⟨_, List.getElem?_eq_getElem (by rw [List.length_map]; exact hlt)⟩
      refine ⟨fun σ2 H2 => ∃ (t' : Tab) (v4 v5 : Option V), σ2 = [some (.ref f), some (.ref d), some (.ref u), some (vi (place + 1)), v4, v5] ∧ Ex H H2 ∧ H2 d = some (.dK (tab V.int t')) ∧ H2 u = some (.lst (t'.map fun q => V.int q.1)) ∧ RInv R t' ∧ t <+: t' ∧ (∀ b, 0 < cap R a b → b ∈ t'.map (·.1)), fun σ2 H6 ⟨t', v4, v5, es, e6, hd6, hu6, hI6, hpre, hcl6⟩ => ?_, ?_⟩
      · refine ⟨n + 3 - (place + 1), by omega, place + 1, t', v4, v5, es, e6, hd6, hu6, hI6, ?_, ?_, ?_⟩
        · have := hpre.length_le; omega
        · have := hI6.len hok
          have := hpre.length_le
          omega
        · intro j a' hj hja b hb
          obtain ⟨z, ez⟩ := hpre
          by_cases hjp : j < place
          · have : (t.map (·.1))[j]? = some a' := by
              rw [← ez, List.map_append, List.getElem?_append_left (by rw [List.length_map]; omega)] at hja
              exact hja
            have := hcl j a' hjp this b hb
            rw [← ez, List.map_append]
            exact List.mem_append_left _ this
          · have : j = place := by omega
            subst this
            rw [← ez, List.map_append, List.getElem?_append_left (by rw [List.length_map]; omega), ha] at hja
            cases hja
            exact hcl6 b hb
      · have F5 := F.mono (e4.trans e5)
        have hdue : ∀ {σ : L2.St} {H' : Hp} {t' : Tab} {te ti : TE}, Ev te σ H' (.ref u) → Ev ti σ H' (vi place) → H' u = some (.lst (t'.map fun q => V.int q.1)) → t <+: t' → Ev (tOp (rIxL K) te ti) σ H' (.int a) := fun {σ H' t' te ti} h1 h2 h3 hp =>
          ev_ixL h1 (sq_of h3) h2 (atI_nat (by
            obtain ⟨z, ez⟩ := hp
            rw [List.getElem?_map] at ha
            rw [List.getElem?_map, ← ez, List.getElem?_append_left hlt]
            cases et : t[place]? with
            | none => rw [et] at ha; cases ha
            | some q => rw [et] at ha; rw [← Option.some.inj ha]; rfl))
        refine q_asgR (er_row F5 (ef_room T (ev_var rfl) F5) (hdue (ev_var rfl) (ev_var rfl) (e5 _ _ hu4) (List.prefix_refl _))) fun y H6 e6 ⟨ra, ey, hor, hra⟩ => ?_
        subst ey
        have e06 := (e4.trans e5).trans e6
        have hd6 := e6 _ _ (e5 _ _ hd4)
        have hu6 := e6 _ _ (e5 _ _ hu4)
        have nda : d ≠ ra := fun z => by
          rcases hor with h | h
          · rw [← z, e5 _ _ hd4] at h; cases h
          · obtain ⟨_, _, h2⟩ := F.room.row a ra h
            rw [← z, hd] at h2; cases h2
        have nua : u ≠ ra := fun z => by rw [z, hra] at hu6; cases hu6
        generalize hrow : (look R a).getD [] = row at hra
        have hcap : ∀ b, cap R a b = (look row b).getD 0 := fun b => by rw [cap_row, hrow]
        refine q_lockKeys (kvs := tab V.int row) hra (fun od => ev_var rfl)
          (fun od j σ' H' => ∃ (t' : Tab) (v5 : Option V), σ' = [some (.ref f), some (.ref d), some (.ref u), some (vi place), some (.ref ra), v5] ∧ (∀ x o, H x = some o → x ≠ ra → H' x = some o) ∧ H' ra = some (.frz od (.dK (tab V.int row))) ∧ H' d = some (.dK (tab V.int t')) ∧ H' u = some (.lst (t'.map fun q => V.int q.1)) ∧ RInv R t' ∧ t <+: t' ∧
            (∀ (i : Nat) (b : Int), i < j → (row.map (·.1))[i]? = some b → 0 < cap R a b → b ∈ t'.map (·.1)))
          (fun od H7 e7 => ⟨t, _, rfl, fun x o hx nx => e7 _ _ (by rw [upd_ne nx]; exact e06 _ _ hx), e7 _ _ upd_same, e7 _ _ (by rw [upd_ne nda]; exact hd6), e7 _ _ (by rw [upd_ne nua]; exact hu6), hI, List.prefix_refl _, fun i b h => by omega⟩)
          (fun od j σ' H' ⟨_, _, _, _, q, _⟩ => q) (fun od j ky v σ' H7 Dx hj ⟨t', v5, es, hx7, hra7, hd7, hu7, hI7, hpre, hcl7⟩ go => ?_) (fun od σ' H7 ⟨t', v5, es, hx7, hra7, hd7, hu7, hI7, hpre, hcl7⟩ => ?_)
        · subst es
          unfold tab at hj
          rw [List.getElem?_map] at hj
          obtain ⟨⟨b, c0⟩, hb0, ek⟩ := Option.map_eq_some_iff.mp hj
          cases ek
          have hbj : (row.map (·.1))[j]? = some b := by rw [List.getElem?_map, hb0]; rfl
          obtain ⟨c, hc⟩ : ∃ c, look row b = some c := by
            cases e : look row b with
            | some c => exact ⟨c, rfl⟩
            | none => exact absurd (List.mem_of_getElem? hbj) (look_none.mp e)
          have hcc : cap R a b = c := by rw [hcap, hc]; rfl
          have hl7 := hI7.len hok
          have hat : (t'.map (·.1))[place]? = some a := by
            obtain ⟨z, ez⟩ := hpre
            rw [← ez, List.map_append, List.getElem?_append_left (by rw [List.length_map]; exact hlt)]
            exact ha
          have hstep : ∀ t2 : Tab, (∀ x, x ∈ t'.map (·.1) → x ∈ t2.map (·.1)) → (0 < cap R a b → b ∈ t2.map (·.1)) → ∀ (i : Nat) (b' : Int), i < j + 1 → (row.map (·.1))[i]? = some b' → 0 < cap R a b' → b' ∈ t2.map (·.1) := fun t2 h1 h2 i b' hi hb' hc' => by
            by_cases hij : i < j
            · exact h1 _ (hcl7 i b' hij hb' hc')
            · have : i = j := by omega
              subst this
              rw [hbj] at hb'
              cases hb'
              exact h2 hc'
          refine s_when (et_and (et_test (ev_op (ev_dgetR (v := .int c) (.inr ⟨od, hra7⟩) (ev_var rfl) (ev_var rfl) (by rw [valV_tab, hc]; rfl)) (ev_c (v := .int 0)) rv_I0)) fun _ => et_test (ev_dnotin hd7 (ev_var rfl) (ev_var rfl))) (fun hb H8 e8 => ?_) (fun hb H8 e8 => ?_)
          · rw [Bool.and_eq_true, valV_tab, Option.isSome_map] at hb
            have h1 : 0 < c := of_decide_eq_true hb.1
            have h2 : look t' b = none := by
              cases e : look t' b with
              | none => rfl
              | some x => rw [e] at hb; cases hb.2
            refine q_dput (v := .int a) (e8 _ _ hd7) (ev_var rfl) (ev_var rfl) (hdue (ev_var rfl) (ev_var rfl) (e8 _ _ hu7) hpre) (by rw [tab_len]; omega) fun H9 e9 => ?_
            rw [putK_tab, putA_new h2]
            have hu9 : (upd H9 d (.dK (tab V.int (t' ++ [(b, a)])))) u = some (.lst (t'.map fun q => V.int q.1)) := by rw [upd_ne (Ne.symm hdu)]; exact e9 _ _ (e8 _ _ hu7)
            refine s_app hu9 (ev_var rfl) (ev_var rfl) (by rw [List.length_map]; omega) fun H10 e10 => go _ _ ⟨t' ++ [(b, a)], _, rfl, fun x o hx nx => ?_, ?_, ?_, ?_, hI7.add hat (by rw [hcc]; exact h1) h2, hpre.trans (List.prefix_append _ _), hstep _ (fun x hx => by rw [List.map_append]; exact List.mem_append_left _ hx) fun _ => by rw [List.map_append]; exact List.mem_append_right _ (by simp)⟩
            · rw [upd_ne (fun z => by rw [z, hu0] at hx; cases hx)]
              refine e10 _ _ ?_
              rw [upd_ne (fun z => by rw [z, hd] at hx; cases hx)]
              exact e9 _ _ (e8 _ _ (hx7 x o hx nx))
            · rw [upd_ne (Ne.symm nua)]
              refine e10 _ _ ?_
              rw [upd_ne (Ne.symm nda)]
              exact e9 _ _ (e8 _ _ hra7)
            · rw [upd_ne hdu]; exact e10 _ _ upd_same
            · rw [upd_same, List.map_append]; rfl
          · rw [valV_tab, Option.isSome_map] at hb
            refine go _ _ ⟨t', _, rfl, fun x o hx nx => e8 _ _ (hx7 x o hx nx), e8 _ _ hra7, e8 _ _ hd7, e8 _ _ hu7, hI7, hpre, hstep _ (fun x hx => hx) fun hc' => ?_⟩
            rw [hcc] at hc'
            rw [decide_eq_true hc', Bool.true_and] at hb
            rw [← look_key]
            cases e : (look t' b).isSome with
            | true => rfl
            | false => rw [e] at hb; cases hb
        · subst es
          have hlen : (tab V.int row).length = row.length := tab_len _ _
          refine s_aug (a := (place : Int)) (b := 1) rfl ev_c fun H8 e8 => ⟨t', _, _, rfl, fun x o hx => e8 _ _ ?_, e8 _ _ (by rw [upd_ne nda]; exact hd7), e8 _ _ (by rw [upd_ne nua]; exact hu7), hI7, hpre, fun b hb => ?_⟩
          · by_cases nx : x = ra
            · rw [nx, upd_same]
              have := e06 _ _ hx
              rw [nx, hra] at this
              exact this
            · rw [upd_ne nx]; exact hx7 x o hx nx
          · have hbr : b ∈ row.map (·.1) := by
              rw [← look_key]
              cases e : look row b with
              | some x => rfl
              | none => rw [hcap, e] at hb; exact absurd hb (by decide)
            obtain ⟨i, hi⟩ := List.mem_iff_getElem?.mp hbr
            have hil : i < row.length := by
              have := (List.getElem?_eq_some_iff.mp hi).1
              rwa [List.length_map] at this
            exact hcl7 i b (by rw [hlen]; exact hil) hi hb
    · have hlt := of_decide_eq_false hlt
      have hpe : place = t.length := by omega
      refine s_ret (ev_var rfl) fun H6 e6 => k d t H6 hd ((e4.trans e5).trans e6) (e6 _ _ (e5 _ _ hd4)) ⟨hI.head, hI.nd, hI.par, fun a b ha hb => ?_⟩
      obtain ⟨j, hj⟩ := List.mem_iff_getElem?.mp ha
      have hjl : j < t.length := by
        have := (List.getElem?_eq_some_iff.mp hj).1
        rwa [List.length_map] at this
      exact hcl j a (by omega) hj b hb
end
end LW
end
section
set_option Elab.async false
set_option linter.all false
set_option maxRecDepth 100000
set_option maxHeartbeats 4000000

set_option exponentiation.threshold 10000
namespace LW
open PySem PySem.Spec PyProof.Rows L2 Evl LF TbLtBook
/-- pairs of ints -/
def RowsI (H : Hp) (r : Addr) (as : List Addr) (ps : List (Int × Int)) : Prop := H r = some (.lst (as.map V.ref)) ∧ as.length = ps.length ∧ ∀ (i : Nat) (a : Addr) (p : Int × Int), as[i]? = some a → ps[i]? = some p → H a = some (.tup [.int p.1, .int p.2])
theorem RowsI.mono {H H' : Hp} {r : Addr} {as : List Addr} {ps : List (Int × Int)} (h : RowsI H r as ps) (e : Ex H H') : RowsI H' r as ps := ⟨e _ _ h.1, h.2.1, fun i a p h1 h2 => e _ _ (h.2.2 i a p h1 h2)⟩
theorem RowsI.add {H : Hp} {q a : Addr} {as : List Addr} {ps : List (Int × Int)} {p : Int × Int} (h1 : RowsI H q as ps) (h3 : H a = some (.tup [.int p.1, .int p.2])) : RowsI (upd H q (.lst (as.map V.ref ++ [.ref a]))) q (as ++ [a]) (ps ++ [p]) := by
  have nq : ∀ a xs, H a = some (.tup xs) → a ≠ q := fun a xs h z => by rw [z, h1.1] at h; cases h
  refine ⟨by rw [upd_same, List.map_append]; rfl, by rw [List.length_append, List.length_append, h1.2.1]; rfl, fun i b p' e1 e2 => ?_⟩
  have key : H b = some (.tup [.int p'.1, .int p'.2]) := by
    by_cases hi : i < as.length
    · rw [List.getElem?_append_left hi] at e1
      rw [List.getElem?_append_left (by rw [← h1.2.1]; exact hi)] at e2
      exact h1.2.2 i b p' e1 e2
    · rw [List.getElem?_append_right (by omega)] at e1
      rw [List.getElem?_append_right (by rw [← h1.2.1]; omega), ← h1.2.1] at e2
      have z : i - as.length = 0 := by
        have := (List.getElem?_eq_some_iff.mp e1).1
        simpa using this
      rw [z] at e1 e2
      cases e1; cases e2
      exact h3
  rw [upd_ne (nq b _ key)]; exact key
section
variable {P : Program} {w : World} {K : PySem.W.Frag} {mg : Str → Option Value} {base : Heap} {A : Ad}
theorem q_forRowsI {tl : TE} {σ : L2.St} {H : Hp} {D : Ends} {tu tz : TS} {r : Addr} {as : List Addr} {ps : List (Int × Int)} {j1 j2 : Nat} (h : Ev tl σ H (.ref r)) (hr : RowsI H r as ps) (Pv : Nat → L2.St → Hp → Prop) (h0 : ∀ H1, Ex H H1 → Pv 0 σ H1) (hst : ∀ i σ' H', Pv i σ' H' → RowsI H' r as ps)
    (hs : ∀ i p σ' H', ps[i]? = some p → Pv i σ' H' → tu { D with nx := Pv (i + 1), ct := Pv (i + 1), bk := tz D } ((σ'.set j1 (some (.int p.1))).set j2 (some (.int p.2))) H') (hd : ∀ σ' H', Pv ps.length σ' H' → tz D σ' H') :
    tSeq (tFor (iList K tl) (gTup K 2 (gCons (gName j1) (gCons (gName j2) gNil))) tu) tz D σ H :=
  s_forL (D := { D with nx := tz D }) h (sq_of hr.1) Pv h0 (fun i σ' H' _ p => sq_of (hst i σ' H' p).1) (fun i x σ' H' hx p => by
    have R := hst i σ' H' p
    rw [List.getElem?_map] at hx
    cases ea : as[i]? with
    | none => rw [ea] at hx; cases hx
    | some a =>
      rw [ea] at hx
      have ex : V.ref a = x := Option.some.inj hx
      have hi : i < ps.length := by rw [← R.2.1]; exact (List.getElem?_eq_some_iff.mp ea).1
      subst ex
      exact eg_tup2 (st_of (R.2.2 i a _ ea (List.getElem?_eq_getElem hi))) _ (hs i _ σ' H' (List.getElem?_eq_getElem hi) p)) (fun σ' H' p => hd σ' H' (by
    have R := hst _ σ' H' p
    rw [List.length_map, R.2.1] at p
    exact p))
theorem lc_rowsI {tl te : TE} {t : TT} {σ : L2.St} {H : Hp} {r : Addr} {as : List Addr} {ps : List (Int × Int)} {i j : Nat} {vs : List Nat} (v : Nat → V) (f : Nat → Bool) (h : Ev tl σ H (.ref r)) (hr : RowsI H r as ps) (hn : ps.length ≤ 50000)
    (hturn : ∀ (k : Nat) (p : Int × Int) (H1 : Hp), ps[k]? = some p → Ex H H1 → wipe (((wipe σ vs).set i (some (.int p.1))).set j (some (.int p.2))) vs = wipe σ vs ∧ EvT t (((wipe σ vs).set i (some (.int p.1))).set j (some (.int p.2))) H1 (f k) ∧
      (f k = true → Ev te (((wipe σ vs).set i (some (.int p.1))).set j (some (.int p.2))) H1 (v k) ∧ ∀ D xs, H1 D = some (.lst xs) → v k ≠ .ref D)) :
    EvR (tLc (iList K tl) (gTup K 2 (gCons (gName i) (gCons (gName j) gNil))) t te vs) σ H (fun y H2 => ∃ p, y = .ref p ∧ H p = none ∧ H2 p = some (.lst ((idx ps.length f).map v))) := by
  obtain ⟨h1, h2, h3⟩ := hr
  have e := el_lc (te := te) (t := t) (g := gTup K 2 (gCons (gName i) (gCons (gName j) gNil))) (vs := vs) (σ := σ) (H := H) (n := (as.map V.ref).length) v f
    (fun k => ((wipe σ vs).set i (some (.int (ps.getD k (0, 0)).1))).set j (some (.int (ps.getD k (0, 0)).2))) (monoL (K := K) (a := r) (xs := as.map V.ref)) (by rw [List.length_map, h2]; exact hn) (wl_list h (sq_of h1)) (fun k x H1 H2 hk e1 g1 y => by
      obtain ⟨y1, y2⟩ := y
      rw [List.getElem?_map] at y2
      cases ea : as[k]? with
      | none => rw [ea] at y2; cases y2
      | some a =>
        rw [ea] at y2
        have ex : V.ref a = x := Option.some.inj y2
        have hp : ∃ p, ps[k]? = some p := ⟨ps[k]'(by rw [List.length_map] at hk; omega), List.getElem?_eq_getElem _⟩
        obtain ⟨p, hp⟩ := hp
        rw [getD_of hp, ← ex, y1]
        obtain ⟨q1, q2, q3⟩ := hturn k p H1 hp e1
        exact ⟨Ex.refl _, eg_tup2 (st_of (e1 _ _ (h3 k a p ea hp))), q1, q2, q3⟩)
  rw [List.length_map, h2] at e
  exact e
def spFlow_way (A : Ad) : Sp := fun vs H Q _ => ∃ (f d : Addr) (told : Tab) (R : Room), vs = [.ref f, .ref d] ∧ H d = some (.dK (tab V.int told)) ∧ Reached R told ∧ (-2) ∈ told.map (·.1) ∧ told.length ≤ 10000 ∧
  ∀ p as z H', H p = none → Ex H H' → WayP R told z (-1) → RowsI H' p as z → z.length ≤ told.length → Q (.ref p) H'
theorem ok_Flow_way (T : Txt K mg A) : FnOk P w K mg base CX0 1 A.f_Flow_way A.d_Flow_way ["self", "reached"] (spFlow_way A) := by
  refine T.fn_Flow_way.ok sc_Flow_way (fun vs H Q E h => ?_) (fun cdv Ar outer s H vs Q E hr h => ⟨_, (pss_cons (ps_set (i := 2) sc_Flow_way.nd rfl (Or.inl rfl) (pe_lst pa_nil))
    (pss_cons (ps_set (i := 3) sc_Flow_way.nd rfl (Or.inl rfl) (pe_glob (v := .int (-2)) rfl T.g_SINK.choose_spec ⟨_, rfl⟩))
    (pss_cons (ps_while PassesOwn.never (pt_cmpR op_ne (pv 3) (pe_glob (v := .int (-1)) rfl T.g_SOURCE.choose_spec ⟨_, rfl⟩) (nomark _)) (pss_cons (ps_expr (pe_bm PySem.F.plainAttrs_list PySem.F.slot_list_append PySem.F.type_list_append mt_append (pv 2) (pa_cons (pe_tup (pa_cons (pe_dget (hu_of hr) (pv 1) (pv 3) (fun _ _ => rfl)) (pa_cons (pv 3) pa_nil))) pa_nil)))
    (pss_one (ps_set (i := 3) sc_Flow_way.nd rfl (Or.inl rfl) (pe_dget (hu_of hr) (pv 1) (pv 3) (fun _ _ => rfl))))))
    (pss_one (ps_ret (pv 2)))))), ?_⟩)
  · obtain ⟨_, _, _, _, rfl, _⟩ := h
    rfl
  · obtain ⟨f, d, told, R, rfl, hd, hT, hs, htl, k⟩ := h
    refine q_asgR (er_lst ea_nil (Nat.zero_le _)) fun y H1 e1 ⟨p, ey, hp, hp1⟩ => ?_
    subst ey
    refine q_asg (v := .int (-2)) ev_c fun H2 e2 => ?_
    have hlt : ∀ v : Int, v ∈ told.map (·.1) → (told.map (·.1)).idxOf v < told.length := fun v hv => by
      have := List.idxOf_lt_length_of_mem hv
      rwa [List.length_map] at this
    refine q_while (fun m σ' H' => ∃ (z : List (Int × Int)) (v : Int) (as : List Addr), σ' = [some (.ref f), some (.ref d), some (.ref p), some (.int v)] ∧ Ex H H' ∧ RowsI H' p as z ∧ WayP R told z v ∧ v ∈ told.map (·.1) ∧ m = (told.map (·.1)).idxOf v + 1 ∧ z.length + (told.map (·.1)).idxOf v < told.length)
      _ ⟨[], -2, [], rfl, e1.trans e2, ⟨e2 _ _ hp1, rfl, fun i a p z => (by cases z)⟩, .here, hs, rfl, by have := hlt _ hs; rw [List.length_nil]; omega⟩ (fun m σ' H' ⟨z, v, as, es, e', hR, hW, hv, hm, hz⟩ => ?_)
    subst es
    have hd' := e' _ _ hd
    refine ⟨decide (v ≠ -1), et_is (et_test (ev_op (ev_var rfl) ev_c (rv_ne rfl))) (by
      by_cases h : v = -1
      · subst h; simp
      · have : V.int v ≠ V.int (-1) := fun z => h (by injection z)
        simp [h, this]), fun hb H3 e3 => ?_, fun hb H3 e3 => ?_⟩
    · have h0 := of_decide_eq_true hb
      obtain ⟨q, hq, hc, hqk, hqi⟩ := way_go hT hv h0
      have e03 := e'.trans e3
      refine ⟨fun σ2 H2 => ∃ (as : List Addr), σ2 = [some (.ref f), some (.ref d), some (.ref p), some (.int q)] ∧ Ex H H2 ∧ RowsI H2 p as (z ++ [(q, v)]), fun σ2 H2 ⟨as, es, e2, hR2⟩ => ⟨_, by rw [hm]; exact Nat.add_lt_add_right hqi 1, z ++ [(q, v)], q, as, es, e2, hR2, hW.step z v q h0 hq hc, hqk, rfl, by rw [List.length_append]; show z.length + 1 + _ < _; omega⟩, ?_⟩
      refine q_appR (e3 _ _ hR.1) (ev_var rfl) (er_tup (ea_cons (ev_dget (v := .int q) (e3 _ _ hd') (ev_var rfl) (ev_var rfl) (by rw [valV_tab, hq]; rfl)) (ea_cons (ev_var rfl) ea_nil)) (by show 2 ≤ 100000; decide)) (by rw [List.length_map, hR.2.1]; omega) fun y H4 e4 ⟨a, ey, ha, ha4⟩ => ?_
      subst ey
      have hR4 := ((hR.mono e3).mono e4).add (p := (q, v)) ha4
      have hd4 : (upd H4 p (.lst (as.map V.ref ++ [V.ref a]))) d = some (.dK (tab V.int told)) := by
        rw [upd_ne (fun z => by rw [z, hp] at hd; cases hd)]
        exact e4 _ _ (e3 _ _ hd')
      refine s_asg (v := .int q) (ev_dget hd4 (ev_var rfl) (ev_var rfl) (by rw [valV_tab, hq]; rfl)) fun H5 e5 => ⟨_, rfl, (((e03.trans e4).mut hp)).trans e5, hR4.mono e5⟩
    · have h0 : v = -1 := by
        have := of_decide_eq_false hb
        omega
      subst h0
      exact s_ret (ev_var rfl) fun H4 e4 => k p as z H4 hp ((e'.trans e3).trans e4) hW ((hR.mono e3).mono e4) (by omega)
end
end LW
end
section
set_option Elab.async false
set_option linter.all false
set_option maxRecDepth 100000
set_option maxHeartbeats 4000000

set_option exponentiation.threshold 10000
namespace LW
open PySem PySem.Spec PyProof.Rows L2 Evl LF TbLtBook
theorem RowsI.keepD {H : Hp} {r a : Addr} {as : List Addr} {ps : List (Int × Int)} {kvs : List (Key × V)} {o : HO} (h : RowsI H r as ps) (ha : H a = some (.dK kvs)) : RowsI (upd H a o) r as ps :=
  ⟨by rw [upd_ne (fun z => by rw [← z, h.1] at ha; cases ha)]; exact h.1, h.2.1, fun i b p h1 h2 => by
    have h3 := h.2.2 i b p h1 h2
    rw [upd_ne (fun z => by rw [z, ha] at h3; cases h3)]; exact h3⟩
section
variable {P : Program} {w : World} {K : PySem.W.Frag} {mg : Str → Option Value} {base : Heap} {A : Ad}
theorem FlowIs.setTot {H0 H : Hp} {f rm dx : Addr} {rs : List (Int × Addr)} {R : Room} {tot x : Int} (F : FlowIs A H0 H f rm rs R tot) (ho : H f = some (.ins A.c_Flow dx (fFlow (.ref rm) (.int tot)))) : FlowIs A H0 (upd H f (.ins A.c_Flow dx (fFlow (.ref rm) (.int x)))) f rm rs R x :=
  ⟨⟨dx, upd_same⟩, F.nf, F.ex.mut F.nf, ⟨by rw [upd_ne (fun z => by rw [← z, F.room.obj] at ho; cases ho)]; exact F.room.obj, F.room.keys, fun k a h => by
    obtain ⟨row, h1, h2⟩ := F.room.row k a h
    exact ⟨row, h1, by rw [upd_ne (fun z => by rw [← z, h2] at ho; cases ho)]; exact h2⟩, F.room.new, F.room.inj, F.room.nrm⟩⟩
theorem er_reached {σ : L2.St} {H0 H : Hp} {f rm : Addr} {rs : List (Int × Addr)} {R : Room} {tot : Int} {n : Nat} {to : TE} {E : XK} (F : FlowIs A H0 H f rm rs R tot) (hok : ROk R (Uu n)) (hn : n ≤ 1000) (ho : Ev to σ H (.ref f)) :
    EvR (tMeth A.c_Flow "reached" (spFlow_reached A) [] E to tNil) σ H (fun y H2 => ∃ d told, y = .ref d ∧ H d = none ∧ H2 d = some (.dK (tab V.int told)) ∧ Reached R told) :=
  let ⟨_, hobj⟩ := F.obj
  er_meth0 ho hobj lk_Flow_reached fun H1 e Q q E => ⟨H0, f, rm, rs, R, tot, n, rfl, F.mono e, hok, hn, fun d told H' hd e' h1 h2 => q _ H' e' ⟨d, told, rfl, fresh_back e hd, h1, h2⟩⟩
theorem er_minN {te : TE} {σ : L2.St} {H : Hp} {ns : List Int} (h : EvR te σ H (fun y H2 => ∃ p, y = .ref p ∧ H p = none ∧ H2 p = some (.lst (ns.map V.int)))) (hne : ns ≠ []) : EvR (tCB (rMin K) (tCons te tNil)) σ H (fun y _ => ∃ m, y = .int m ∧ m ∈ ns ∧ ∀ y ∈ ns, m ≤ y) := fun H1 e Q q =>
  h H1 e _ fun y H2 e2 ⟨p, ey, _, hp⟩ => ⟨p, ns, by rw [ey], sq_of hp, List.length_pos_iff.mpr hne, fun m hm hle => q _ H2 e2 ⟨m, rfl, hm, hle⟩⟩
/-- self.room[u][v] -/
theorem ev_cap (T : Txt K mg A) {σ : L2.St} {H0 H : Hp} {f rm : Addr} {rs : List (Int × Addr)} {R : Room} {tot u v : Int} {to t1 t2 : TE} (F : FlowIs A H0 H f rm rs R tot) (ho : Ev to σ H (.ref f)) (h1 : Ev t1 σ H (.int u)) (h2 : Ev t2 σ H (.int v)) (hh : hasR R u v) :
    Ev (tDGet (tDGet (tFld K to "room") t1) t2) σ H (.int (cap R u v)) := by
  obtain ⟨row, hr, hv⟩ := hh
  obtain ⟨a, ha, hrow⟩ := F.room.find hr
  refine ev_dget hrow (ev_dget F.room.obj (ef_room T ho F) h1 (by rw [valV_tab, ha]; rfl)) h2 ?_
  rw [valV_tab, cap_row, hr]
  cases e : look row v with
  | none => rw [e] at hv; cases hv
  | some c => show some _ = some (V.int ((look row v).getD 0)); rw [e]; rfl
/-- self.room[u][v] += or -= -/
theorem s_daug (T : Txt K mg A) {D : Ends} {σ : L2.St} {H0 H : Hp} {f rm : Addr} {rs : List (Int × Addr)} {R : Room} {tot u v x : Int} {to t1 t2 t3 : TE} {rd : V → V → Hp → VK → Prop} {g : Int → Int → Int} (hrd : ∀ i j H' Q, Q (.int (g i j)) H' → rd (.int i) (.int j) H' Q) (F : FlowIs A H0 H f rm rs R tot) (hS : RS 900 R) (ho : Ev to σ H (.ref f)) (h1 : Ev t1 σ H (.int u)) (h2 : Ev t2 σ H (.int v)) (h3 : Ev t3 σ H (.int x)) (hh : hasR R u v)
    (go : ∀ H1 H2 a kvs, Ex H H1 → H1 a = some (.dK kvs) → (∃ o, H2 = upd H1 a o) → FlowIs A H0 H2 f rm rs (setR R u v (g (cap R u v) x)) tot → D.nx σ H2) : sDAug (tDGet (tFld K to "room") t1) t2 t3 rd D σ H := by
  obtain ⟨row, hr, hv⟩ := hh
  obtain ⟨a, ha, hrow⟩ := F.room.find hr
  have hlk : look row v = some (cap R u v) := by
    rw [cap_row, hr]
    cases e : look row v with
    | none => rw [e] at hv; cases hv
    | some c => show _ = some ((look row v).getD 0); rw [e]; rfl
  refine (ev_dget (v := .ref a) F.room.obj (ef_room T ho F) h1 (by rw [valV_tab, ha]; rfl)) H (Ex.refl H) _ fun H1 e1 => h2 H1 e1 _ fun H2 e2 => ?_
  refine ⟨a, .int (cap R u v), rfl, .inl ⟨_, Sum.inl v, .inl ((e1.trans e2) _ _ hrow), rfl, by rw [valV_tab, hlk]; rfl⟩, h3 H2 (e1.trans e2) _ fun H3 e3 => hrd _ _ _ _ ?_⟩
  have e03 := (e1.trans e2).trans e3
  refine ⟨_, .inl ⟨_, Sum.inl v, e03 _ _ hrow, rfl, sz_lt (by rw [tab_len]; have := hS.2 u row hr; omega), rfl⟩, ?_⟩
  refine go H3 _ a _ e03 (e03 _ _ hrow) ⟨_, rfl⟩ ?_
  rw [putK_tab]
  exact (F.mono e03).setRow ha hr
theorem q_daug (T : Txt K mg A) {D : Ends} {tz : TS} {σ : L2.St} {H0 H : Hp} {f rm : Addr} {rs : List (Int × Addr)} {R : Room} {tot u v x : Int} {to t1 t2 t3 : TE} {rd : V → V → Hp → VK → Prop} {g : Int → Int → Int} (hrd : ∀ i j H' Q, Q (.int (g i j)) H' → rd (.int i) (.int j) H' Q) (F : FlowIs A H0 H f rm rs R tot) (hS : RS 900 R) (ho : Ev to σ H (.ref f)) (h1 : Ev t1 σ H (.int u)) (h2 : Ev t2 σ H (.int v)) (h3 : Ev t3 σ H (.int x)) (hh : hasR R u v)
    (go : ∀ H1 H2 a kvs, Ex H H1 → H1 a = some (.dK kvs) → (∃ o, H2 = upd H1 a o) → FlowIs A H0 H2 f rm rs (setR R u v (g (cap R u v) x)) tot → tz D σ H2) : tSeq (sDAug (tDGet (tFld K to "room") t1) t2 t3 rd) tz D σ H := s_daug (D := { D with nx := tz D }) T hrd F hS ho h1 h2 h3 hh go
theorem wayP_ne {R : Room} {told z : List (Int × Int)} {v : Int} (h : WayP R told z v) (hv : v ≠ -2) : z ≠ [] := by
  cases h with
  | here => exact absurd rfl hv
  | step z v p => simp
theorem s_tot (T : Txt K mg A) {D : Ends} {σ : L2.St} {H0 H : Hp} {f rm : Addr} {rs : List (Int × Addr)} {R : Room} {tot x : Int} {to tv : TE} (F : FlowIs A H0 H f rm rs R tot) (ho : Ev to σ H (.ref f)) (h : Ev tv σ H (.int x))
    (go : ∀ H1, FlowIs A H0 H1 f rm rs R (tot + x) → D.nx σ H1) : sFldAug K to tv rAdd "total" D σ H := by
  obtain ⟨dx, hobj⟩ := F.obj
  exact ho H (Ex.refl H) _ fun H1 e1 => ⟨f, _, dx, _, _, rfl, e1 _ _ hobj, T.cl_Flow, T.no_Flow_total, lk_Flow_total, h H1 e1 _ fun H2 e2 => ⟨_, _, rfl, rfl, dx, _, (e1.trans e2) _ _ hobj, (by show 2 < 1000; decide), (by
    rw [put_Flow_total]
    exact go _ ((F.mono (e1.trans e2)).setTot ((e1.trans e2) _ _ hobj)))⟩⟩
theorem q_tot (T : Txt K mg A) {D : Ends} {tz : TS} {σ : L2.St} {H0 H : Hp} {f rm : Addr} {rs : List (Int × Addr)} {R : Room} {tot x : Int} {to tv : TE} (F : FlowIs A H0 H f rm rs R tot) (ho : Ev to σ H (.ref f)) (h : Ev tv σ H (.int x))
    (go : ∀ H1, FlowIs A H0 H1 f rm rs R (tot + x) → tz D σ H1) : tSeq (sFldAug K to tv rAdd "total") tz D σ H := s_tot T (D := { D with nx := tz D }) F ho h go
/-- the flow is filled: no more can be laid -/
def Filled (R : Room) : Prop := ∃ told, Reached R told ∧ ¬ (-2 : Int) ∈ told.map (·.1)
def spFlow_fill (A : Ad) : Sp := fun vs H Q _ => ∃ (H0 : Hp) (f rm : Addr) (rs : List (Int × Addr)) (R : Room) (tot : Int) (b : Book) (fs : List Nat) (x : Nat), vs = [.ref f] ∧ FlowIs A H0 H f rm rs R tot ∧ FlowInv b fs x R tot ∧ RS 900 R ∧ b.lots.length ≤ 60 ∧
  ∀ H' R' tot', FlowIs A H0 H' f rm rs R' tot' → FlowInv b fs x R' tot' → Filled R' → Q .non H'
theorem ok_Flow_fill (T : Txt K mg A) : FnOk P w K mg base CX0 2 A.f_Flow_fill A.d_Flow_fill ["self"] (spFlow_fill A) := by
  refine T.fn_Flow_fill.ok sc_Flow_fill (fun vs H Q E h => ?_) (fun cdv Ar outer s H vs Q E hr h => ⟨_, (pss_cons (ps_set (i := 1) sc_Flow_fill.nd rfl (Or.inl rfl) (pe_meth0 (pv 0) T.cl_Flow T.me_Flow_reached (ok_Flow_reached T) (hr.mono (by decide)) T.bi_Flow_reached .nil pass0))
    (pss_one (ps_while PassesOwn.never (pt_cmp (pc_din (hu_of hr) (pe_glob (v := .int (-2)) rfl T.g_SINK.choose_spec ⟨_, rfl⟩) (pv 1))) (pss_cons (ps_set (i := 2) sc_Flow_fill.nd rfl (Or.inl rfl) (pe_meth (pv 0) T.cl_Flow T.me_Flow_way (ok_Flow_way T) (hr.mono (by decide)) T.bi_Flow_way .nil pass0 (pa_cons (pv 1) pa_nil)))
    (pss_cons (ps_set (i := 3) sc_Flow_fill.nd rfl (Or.inl rfl) (pe_callB (cr_min rfl) (by rfl) T.b_min (by decide +kernel) (pa_cons (pe_lc (g := (gTup K 2 (gCons (gName 4) (gCons (gName 5) gNil)))) (tt := tYes) (te := (tDGet (tDGet (tFld K (tVar 0) "room") (tVar 4)) (tVar 5))) (own := [("first", 4), ("second", 5)]) rfl sc_Flow_fill.nd (pi_list (pv 2)) (blkOk_by (own := [("first", 4), ("second", 5)]) (N := N_Flow_fill) (sc := defScope s_Flow_fill) (by decide +kernel)) (fun _ _ _ _ _ => by exact (pg_tup rfl (pgs_cons (pg_name (i := 4) sc_Flow_fill.nd rfl (Or.inl rfl)) (pgs_cons (pg_name (i := 5) sc_Flow_fill.nd rfl (Or.inl rfl)) pgs_nil)))) (fun _ _ _ _ _ => by exact pts_nil) (fun _ _ _ _ _ => by exact (pe_dget (hu_of hr) (pe_dget (hu_of hr) (pe_fld (pv 0) rfl) (pv 4) (fun _ _ => rfl)) (pv 5) (fun _ _ => rfl)))) pa_nil)))
    (pss_cons (ps_for PassesOwn.never rfl (pi_list (pv 2)) (pg_tup rfl (pgs_cons (pg_name (i := 4) sc_Flow_fill.nd rfl (Or.inl rfl)) (pgs_cons (pg_name (i := 5) sc_Flow_fill.nd rfl (Or.inl rfl)) pgs_nil))) (pss_cons (ps_daug (hu_of hr) (pe_dget (hu_of hr) (pe_fld (pv 0) rfl) (pv 4) (fun _ _ => rfl)) (pv 5) (pv 3) in_sub (fun _ _ _ => rfl))
    (pss_one (ps_daug (hu_of hr) (pe_dget (hu_of hr) (pe_fld (pv 0) rfl) (pv 5) (fun _ _ => rfl)) (pv 4) (pv 3) in_add (fun _ _ _ => rfl)))))
    (pss_cons (ps_fldaug (pv 0) (pv 3) in_add)
    (pss_one (ps_set (i := 1) sc_Flow_fill.nd rfl (Or.inl rfl) (pe_meth0 (pv 0) T.cl_Flow T.me_Flow_reached (ok_Flow_reached T) (hr.mono (by decide)) T.bi_Flow_reached .nil pass0)))))))))), ?_⟩)
  · obtain ⟨_, _, _, _, _, _, _, _, _, rfl, _⟩ := h
    rfl
  · obtain ⟨H0, f, rm, rs, R, tot, b, fs, x, rfl, F, FI, hS, hb, k⟩ := h
    refine q_asgR (er_reached F FI.ok (by omega) (ev_var rfl)) fun y H1 e1 ⟨d, told, ey, hd, hd1, hT⟩ => ?_
    subst ey
    refine s_while (fun m σ' H' => ∃ (R' : Room) (tot' : Int) (d : Addr) (told : Tab) (v2 v3 v4 v5 : Option V), σ' = [some (.ref f), some (.ref d), v2, v3, v4, v5] ∧ FlowIs A H0 H' f rm rs R' tot' ∧ FlowInv b fs x R' tot' ∧ RS 900 R' ∧ H' d = some (.dK (tab V.int told)) ∧ Reached R' told ∧ m = (LF.W b fs x (fun _ => true) - tot').toNat)
      _ ⟨R, tot, d, told, _, _, _, _, rfl, F.mono e1, FI, hS, hd1, hT, rfl⟩ (fun m σ' H2 ⟨R', tot', d, told, v2, v3, v4, v5, es, F2, FI2, hS2, hd2, hT2, hm⟩ => ?_)
    subst es
    refine ⟨(look told (-2)).isSome, et_is (et_test (ev_din hd2 ev_c (ev_var rfl))) (by rw [valV_tab, Option.isSome_map]), fun hs H3 e3 => ?_, fun hs H3 e3 => ?_⟩
    · have hs := look_key.mp hs
      have F3 := F2.mono e3
      obtain ⟨_, hobj⟩ := F3.obj
      have htl := hT2.inv.len FI2.ok
      refine ⟨fun σ5 H5 => ∃ (R5 : Room) (tot5 : Int) (d : Addr) (told : Tab) (v2 v3 v4 v5 : Option V), σ5 = [some (.ref f), some (.ref d), v2, v3, v4, v5] ∧ FlowIs A H0 H5 f rm rs R5 tot5 ∧ FlowInv b fs x R5 tot5 ∧ RS 900 R5 ∧ H5 d = some (.dK (tab V.int told)) ∧ Reached R5 told ∧ tot' < tot5, fun σ5 H5 ⟨R5, tot5, d5, told5, u2, u3, u4, u5, es, F5, FI5, hS5, hd5, hT5, hlt⟩ => ⟨_, ?_, R5, tot5, d5, told5, u2, u3, u4, u5, es, F5, FI5, hS5, hd5, hT5, rfl⟩, ?_⟩
      · have := flow_bound FI5
        rw [hm]
        omega
      refine q_asgR (er_meth (R := fun y H2 => ∃ p as z, y = .ref p ∧ WayP R' told z (-1) ∧ RowsI H2 p as z ∧ z.length ≤ told.length) (ev_var rfl) hobj lk_Flow_way (ea_cons (ev_var rfl) ea_nil) fun H4 e4 Q q E => ⟨f, d, told, R', rfl, (e3.trans e4) _ _ hd2, hT2, hs, by omega, fun p as z H5 hp e5 hW hR hz => q _ H5 e5 ⟨p, as, z, rfl, hW, hR, hz⟩⟩) fun y H4 e4 ⟨p, as, z, ey, hW, hR, hz⟩ => ?_
      subst ey
      have F4 := F3.mono e4
      obtain ⟨_, _, _, hpos⟩ := way_nd hT2 hs hW
      have hhas : ∀ q ∈ z, hasR R' q.1 q.2 ∧ hasR R' q.2 q.1 := fun q hq => by
        have h1 := cap_has (R := R') (u := q.1) (v := q.2) (by have := hpos q hq; omega)
        exact ⟨h1, FI2.ok.back _ _ h1⟩
      have hzne : z ≠ [] := wayP_ne hW (by decide)
      refine q_asgR (er_minN (ns := z.map fun q => cap R' q.1 q.2) (er_imp (lc_rowsI (fun k => .int (cap R' (z.getD k (0, 0)).1 (z.getD k (0, 0)).2)) (fun _ => true) (ev_var rfl) hR (by omega) fun k q H5 hq e5 => ⟨rfl, et_yes, fun _ => ⟨?_, fun D xs hD z => by cases z⟩⟩) fun y H5 e5 ⟨p', h1, h2, h3⟩ => ⟨p', h1, h2, ?_⟩) (by simpa using hzne)) fun y H5 e5 ⟨more, ey, hmem, hle⟩ => ?_
      · rw [getD_of hq]
        exact ev_cap T (F4.mono e5) (ev_var rfl) (ev_var rfl) (ev_var rfl) (hhas q (List.mem_of_getElem? hq)).1
      · rw [h3, idx_all, range_getD z (0, 0) (fun q => V.int (cap R' q.1 q.2)), List.map_map]; rfl
      subst ey
      have hmore : 0 < more := by
        obtain ⟨q, hq, e⟩ := List.mem_map.mp hmem
        rw [← e]; exact hpos q hq
      have hle' : ∀ q ∈ z, more ≤ cap R' q.1 q.2 := fun q hq => hle _ (List.mem_map.mpr ⟨q, hq, rfl⟩)
      have FI' := flow_step FI2 hT2 hs hW hmore hle'
      have hS' := hS2.pushs (more := more) z hhas
      refine q_forRowsI (ev_var rfl) (hR.mono e5) (fun i σ' H' => ∃ v4 v5 : Option V, σ' = [some (.ref f), some (.ref d), some (.ref p), some (.int more), v4, v5] ∧ FlowIs A H0 H' f rm rs ((z.take i).foldl (pushP more) R') tot' ∧ RowsI H' p as z)
        (fun H6 e6 => ⟨_, _, rfl, (F4.mono e5).mono e6, (hR.mono e5).mono e6⟩) (fun i σ' H' ⟨_, _, _, _, h⟩ => h) (fun i q σ' H6 hq ⟨v4, v5, es, F6, hR6⟩ => ?_) (fun σ' H6 ⟨v4, v5, es, F6, hR6⟩ => ?_)
      · subst es
        have hqm := List.mem_of_getElem? hq
        rw [take_more hq, List.foldl_append]
        have hh1 := pushs_has (more := more) (z.take i) (hhas q hqm).1
        have hh2 := pushs_has (more := more) (z.take i) (hhas q hqm).2
        have hS6 := hS2.pushs (more := more) (z.take i) fun q hq => hhas q (List.mem_of_mem_take hq)
        generalize (z.take i).foldl (pushP more) R' = Ri at F6 hh1 hh2 hS6
        refine q_daug T (g := fun i j => i - j) (fun i j H' Q q => ⟨i, j, rfl, rfl, q⟩) F6 hS6 (ev_var rfl) (ev_var rfl) (ev_var rfl) (ev_var rfl) hh1 fun H7 H8 a kvs e7 ha ⟨o, e8⟩ F8 => ?_
        have hR8 : RowsI H8 p as z := by rw [e8]; exact (hR6.mono e7).keepD ha
        refine s_daug T (g := fun i j => i + j) (fun i j H' Q q => ⟨i, j, rfl, rfl, q⟩) F8 (hS6.setHas _ hh1) (ev_var rfl) (ev_var rfl) (ev_var rfl) (ev_var rfl) (by rw [has_setR]; exact .inr hh2) fun H9 H10 a' kvs' e9 ha' ⟨o', e10⟩ F10 => ?_
        refine ⟨_, _, rfl, F10, ?_⟩
        rw [e10]
        exact (hR8.mono e9).keepD ha'
      · subst es
        rw [List.take_length] at F6
        refine q_tot T F6 (ev_var rfl) (ev_var rfl) fun H8 F8 => ?_
        refine s_asgR (er_reached F8 FI'.ok (by omega) (ev_var rfl)) fun y H9 e9 ⟨d9, told9, ey, _, hd9, hT9⟩ => ?_
        subst ey
        exact ⟨_, _, d9, told9, _, _, _, _, rfl, F8.mono e9, FI', hS', hd9, hT9, by omega⟩
    · refine k H3 R' tot' (F2.mono e3) FI2 ⟨told, hT2, fun z => ?_⟩
      rw [look_key.mpr z] at hs
      cases hs
end
end LW
end
section
set_option Elab.async false
set_option linter.all false
set_option maxRecDepth 100000
set_option maxHeartbeats 4000000

set_option exponentiation.threshold 10000
namespace LW
open PySem PySem.Spec PyProof.Rows L2 Evl LF TbLtBook
section
variable {P : Program} {w : World} {K : PySem.W.Frag} {mg : Str → Option Value} {base : Heap} {A : Ad}
theorem s_flowput {D : Ends} {σ : L2.St} {H0 H : Hp} {f rm : Addr} {rs : List (Int × Addr)} {R : Room} {tot u v x : Int} {to t1 t2 t3 : TE} {E : XK} (F : FlowIs A H0 H f rm rs R tot) (hS : RS 900 R) (ho : Ev to σ H (.ref f)) (h1 : Ev t1 σ H (.int u)) (h2 : Ev t2 σ H (.int v)) (h3 : Ev t3 σ H (.int x))
    (go : ∀ H1 rs', FlowIs A H0 H1 f rm rs' (putE R (u, v, x)) tot → D.nx σ H1) : tDrop (tMeth A.c_Flow "put" (spFlow_put A) [] E to (tCons t1 (tCons t2 (tCons t3 tNil)))) D σ H := by
  obtain ⟨dx, hobj⟩ := F.obj
  exact ho H (Ex.refl H) _ fun H1 e1 => ⟨f, dx, _, rfl, e1 _ _ hobj, lk_Flow_put, (ea_cons h1 (ea_cons h2 (ea_cons h3 ea_nil))) H1 e1 _ fun H2 e2 => (by
    rw [List.append_nil]
    exact ⟨H0, f, rm, rs, R, tot, u, v, x, rfl, F.mono (e1.trans e2), hS, fun H' rs' F' => go H' rs' F'⟩)⟩
theorem q_flowput {D : Ends} {tz : TS} {σ : L2.St} {H0 H : Hp} {f rm : Addr} {rs : List (Int × Addr)} {R : Room} {tot u v x : Int} {to t1 t2 t3 : TE} {E : XK} (F : FlowIs A H0 H f rm rs R tot) (hS : RS 900 R) (ho : Ev to σ H (.ref f)) (h1 : Ev t1 σ H (.int u)) (h2 : Ev t2 σ H (.int v)) (h3 : Ev t3 σ H (.int x))
    (go : ∀ H1 rs', FlowIs A H0 H1 f rm rs' (putE R (u, v, x)) tot → tz D σ H1) : tSeq (tDrop (tMeth A.c_Flow "put" (spFlow_put A) [] E to (tCons t1 (tCons t2 (tCons t3 tNil))))) tz D σ H := s_flowput (D := { D with nx := tz D }) F hS ho h1 h2 h3 go
theorem s_fill {D : Ends} {σ : L2.St} {H0 H : Hp} {f rm : Addr} {rs : List (Int × Addr)} {R : Room} {tot : Int} {b : Book} {fs : List Nat} {x : Nat} {to : TE} {E : XK} (F : FlowIs A H0 H f rm rs R tot) (FI : FlowInv b fs x R tot) (hS : RS 900 R) (hb : b.lots.length ≤ 60) (ho : Ev to σ H (.ref f))
    (go : ∀ H' R' tot', FlowIs A H0 H' f rm rs R' tot' → FlowInv b fs x R' tot' → Filled R' → D.nx σ H') : tDrop (tMeth A.c_Flow "fill" (spFlow_fill A) [] E to tNil) D σ H := by
  obtain ⟨dx, hobj⟩ := F.obj
  exact ho H (Ex.refl H) _ fun H1 e1 => ⟨f, dx, _, rfl, e1 _ _ hobj, lk_Flow_fill, H0, f, rm, rs, R, tot, b, fs, x, rfl, F.mono e1, FI, hS, hb, fun H' R' tot' F' FI' hF => go H' R' tot' F' FI' hF⟩
/-- what a flow is made of -/
structure FlowArgs (A : Ad) (H : Hp) (bk ll gl s : Addr) (las gas : List Addr) (B : MB) (b : Book) (n : Nat) (fs : List Nat) : Prop where
  L : BookIs A H bk ll gl las gas B
  rel : B.Rel b
  net : Net b fs n
  lots : B.lots.length ≤ 60
  legs : B.legs.length ≤ 160
  hs : H s = some (.lst (vis fs))
theorem FlowArgs.mono {H H' : Hp} {bk ll gl s : Addr} {las gas : List Addr} {B : MB} {b : Book} {n : Nat} {fs : List Nat} (F : FlowArgs A H bk ll gl s las gas B b n fs) (e : Ex H H') : FlowArgs A H' bk ll gl s las gas B b n fs := ⟨F.L.mono e, F.rel, F.net, F.lots, F.legs, e _ _ F.hs⟩
def spFlow_init (A : Ad) : Sp := fun vs H Q _ => ∃ (H0 : Hp) (f dx bk ll gl s : Addr) (las gas : List Addr) (B : MB) (b : Book) (n : Nat) (fs : List Nat), vs = [.ref f, .ref bk, vi n, .ref s] ∧ Ex H0 H ∧ H0 f = none ∧ H f = some (.ins A.c_Flow dx []) ∧ FlowArgs A H0 bk ll gl s las gas B b n fs ∧
  ∀ H' rm rs R tot, FlowIs A H0 H' f rm rs R tot → FlowInv b fs n R tot → Filled R → Q .non H'
theorem ok_Flow_init (T : Txt K mg A) : FnOk P w K mg base CX0 3 A.f_Flow_init A.d_Flow_init ["self", "book", "lot", "some"] (spFlow_init A) := by
  refine T.fn_Flow_init.ok sc_Flow_init (fun vs H Q E h => ?_) (fun cdv Ar outer s H vs Q E hr h => ⟨_, (pss_cons (ps_fld (pv 0) pe_dnewK rfl)
    (pss_cons (ps_fld (pv 0) pe_int rfl)
    (pss_cons (ps_for PassesOwn.never rfl (pi_list (pv 3)) (pg_name (i := 4) sc_Flow_init.nd rfl (Or.inl rfl)) (pss_one (ps_expr (pe_meth (pv 0) T.cl_Flow T.me_Flow_put (ok_Flow_put T) (hr.mono (by decide)) T.bi_Flow_put .nil pass0 (pa_cons (pe_glob (v := .int (-1)) rfl T.g_SOURCE.choose_spec ⟨_, rfl⟩) (pa_cons (pv 4) (pa_cons (pe_fld (pe_ix ix_list (pe_fld (pv 1) rfl) (pv 4) (fun _ _ => rfl)) rfl) pa_nil)))))))
    (pss_cons (ps_for PassesOwn.never rfl (pi_list (pe_fld (pv 1) rfl)) (pg_tup rfl (pgs_cons (pg_name (i := 5) sc_Flow_init.nd rfl (Or.inl rfl)) (pgs_cons (pg_name (i := 6) sc_Flow_init.nd rfl (Or.inl rfl)) (pgs_cons (pg_name (i := 7) sc_Flow_init.nd rfl (Or.inl rfl)) pgs_nil)))) (pss_one (ps_expr (pe_meth (pv 0) T.cl_Flow T.me_Flow_put (ok_Flow_put T) (hr.mono (by decide)) T.bi_Flow_put .nil pass0 (pa_cons (pv 5) (pa_cons (pv 6) (pa_cons (pv 7) pa_nil)))))))
    (pss_cons (ps_expr (pe_meth (pv 0) T.cl_Flow T.me_Flow_put (ok_Flow_put T) (hr.mono (by decide)) T.bi_Flow_put .nil pass0 (pa_cons (pv 2) (pa_cons (pe_glob (v := .int (-2)) rfl T.g_SINK.choose_spec ⟨_, rfl⟩) (pa_cons (pe_meth0 (pe_ix ix_list (pe_fld (pv 1) rfl) (pv 2) (fun _ _ => rfl)) T.cl_Lot T.me_Lot_left (ok_Lot_left T) (hr.mono (by decide)) T.bi_Lot_left .nil pass0) pa_nil)))))
    (pss_one (ps_expr (pe_meth0 (pv 0) T.cl_Flow T.me_Flow_fill (ok_Flow_fill T) (hr.mono (by decide)) T.bi_Flow_fill .nil pass0)))))))), ?_⟩)
  · obtain ⟨_, _, _, _, _, _, _, _, _, _, _, _, _, rfl, _⟩ := h
    rfl
  · obtain ⟨H0, f, dx, bk, ll, gl, s, las, gas, B, b, n, fs, rfl, ex, nf, hf, FA, k⟩ := h
    have hfl : fs.length ≤ 60 := by
      have h1 := nodup_lt FA.net.nd FA.net.fsl
      have h2 := FA.rel.lots
      have h3 := FA.lots
      omega
    refine fun rm hrm => ⟨_, rfl, f, _, dx, _, rfl, (by rw [upd_ne (ne_of_none hf hrm)]; exact hf), T.cl_Flow, T.no_Flow_room, (by decide), ?_⟩
    refine ⟨_, rfl, f, _, dx, _, rfl, upd_same, T.cl_Flow, T.no_Flow_total, (by show 1 < 1000; decide), ?_⟩
    have nrf : rm ≠ f := fun z => by rw [z, hf] at hrm; cases hrm
    have F0 : FlowIs A H0 (upd (upd (upd H rm (.dK [])) f (.ins A.c_Flow dx (putF "room" (.ref rm) []))) f (.ins A.c_Flow dx (putF "total" (.int 0) (putF "room" (.ref rm) [])))) f rm [] [] 0 := by
      refine ⟨⟨dx, Eq.trans upd_same (congrArg (fun q => some (HO.ins A.c_Flow dx q)) new_Flow)⟩, nf, ((ex.trans (Ex.new hrm)).mut nf).mut nf, ?_, rfl, fun k a h => (by cases h), fun k a h => (by cases h), fun k1 k2 a h => (by cases h), fresh_back ex hrm⟩
      rw [upd_ne nrf, upd_ne nrf, upd_same]; rfl
    generalize upd (upd (upd H rm (.dK [])) f (.ins A.c_Flow dx (putF "room" (.ref rm) []))) f (.ins A.c_Flow dx (putF "total" (.int 0) (putF "room" (.ref rm) []))) = H1 at F0
    have rs0 : RS 0 ([] : Room) := ⟨Nat.le_refl _, fun k r h => by cases h⟩
    refine q_forLn (ev_var rfl) (sq_of (F0.ex _ _ FA.hs)) (fun i σ' H' => ∃ (v4 : Option V) (rs : List (Int × Addr)), σ' = [some (.ref f), some (.ref bk), some (vi n), some (.ref s), v4, none, none, none] ∧ FlowIs A H0 H' f rm rs (((fs.take i).map fun (j : Nat) => ((-1 : Int), (j : Int), ((b.lot j).made : Int))).foldl putE []) 0)
      (fun H2 e2 => ⟨_, [], rfl, F0.mono e2⟩) (fun i σ' H' _ ⟨_, _, _, F'⟩ => sq_of (F'.ex _ _ FA.hs)) (fun i x σ' H' hx ⟨v4, rs, es, F'⟩ => ?_) (fun σ' H' ⟨v4, rs, es, F'⟩ => ?_)
    · subst es
      obtain ⟨j, hj, ex⟩ := vis_at hx
      subst ex
      have hjl : j < B.lots.length := by have := FA.net.fsl j (List.mem_of_getElem? hj); have := FA.rel.lots; omega
      have L' := FA.L.mono F'.ex
      obtain ⟨a, ha, LA⟩ := L'.lotN hjl
      have hS := rs_puts ((fs.take i).map fun (j : Nat) => ((-1 : Int), (j : Int), ((b.lot j).made : Int))) rs0
      rw [List.length_map] at hS
      refine s_flowput F' (hS.mono (by have := List.length_take_le' i fs; omega)) (ev_var rfl) ev_c (ev_var rfl) (el_made T (eb_lotAt (eb_lots T (ev_var rfl) L') L' (ev_var rfl) ha) LA) fun H2 rs2 F2 => ⟨_, rs2, rfl, ?_⟩
      rw [take_more hj, List.map_append, List.foldl_append]
      rw [← FA.rel.made j hjl] at F2
      exact F2
    · subst es
      rw [vis_len, List.take_length] at F'
      have L' := FA.L.mono F'.ex
      have hlegs := FA.legs
      refine q_forL (eb_legs T (ev_var rfl) L') (sq_of L'.hg) (fun i σ' H' => ∃ (v5 v6 v7 : Option V) (rs : List (Int × Addr)), σ' = [some (.ref f), some (.ref bk), some (vi n), some (.ref s), v4, v5, v6, v7] ∧ FlowIs A H0 H' f rm rs (((B.legs.take i).map fun g => ((g.of : Int), (g.to : Int), (g.weight : Int))).foldl putE ((fs.map fun (j : Nat) => ((-1 : Int), (j : Int), ((b.lot j).made : Int))).foldl putE [])) 0)
        (fun H2 e2 => ⟨_, _, _, rs, rfl, F'.mono e2⟩) (fun i σ' H' _ ⟨_, _, _, _, _, F'⟩ => sq_of (FA.L.mono F'.ex).hg) (fun i x σ' H' hx ⟨v5, v6, v7, rs, es, F'⟩ => ?_) (fun σ' H' ⟨v5, v6, v7, rs, es, F'⟩ => ?_)
      · subst es
        obtain ⟨a, ex, ha, hi, hg, LG⟩ := gas_at (FA.L.mono F'.ex) hx
        subst ex
        have hS := rs_puts ((B.legs.take i).map fun g => ((g.of : Int), (g.to : Int), (g.weight : Int))) (rs_puts (fs.map fun (j : Nat) => ((-1 : Int), (j : Int), ((b.lot j).made : Int))) rs0)
        rw [List.length_map, List.length_map] at hS
        refine eg_tup3 (st_of LG) _ ?_
        refine s_flowput F' (hS.mono (by have := List.length_take_le' i B.legs; omega)) (ev_var rfl) (ev_var rfl) (ev_var rfl) (ev_var rfl) fun H2 rs2 F2 => ⟨_, _, _, rs2, rfl, ?_⟩
        rw [take_more hg, List.map_append, List.foldl_append]
        exact F2
      · subst es
        rw [List.length_map, FA.L.gn, List.take_length] at F'
        have L' := FA.L.mono F'.ex
        have hnl : n < B.lots.length := by have := FA.net.xl; have := FA.rel.lots; omega
        obtain ⟨a, ha, LA⟩ := L'.lotN hnl
        have hS := rs_puts (B.legs.map fun g => ((g.of : Int), (g.to : Int), (g.weight : Int))) (rs_puts (fs.map fun (j : Nat) => ((-1 : Int), (j : Int), ((b.lot j).made : Int))) rs0)
        rw [List.length_map, List.length_map] at hS
        refine q_flowput F' (hS.mono (by omega)) (ev_var rfl) (ev_var rfl) ev_c (ev_left T (eb_lotAt (eb_lots T (ev_var rfl) L') L' (ev_var rfl) ha) LA) fun H2 rs2 F2 => ?_
        have FI := flow_start FA.net
        have eE : (edges b fs n).foldl putE [] = putE ((B.legs.map fun g => ((g.of : Int), (g.to : Int), (g.weight : Int))).foldl putE ((fs.map fun (j : Nat) => ((-1 : Int), (j : Int), ((b.lot j).made : Int))).foldl putE [])) ((n : Int), (-2 : Int), (B.lot n).left) := by
          unfold edges
          rw [List.foldl_append, List.foldl_append, FA.rel.legs, FA.rel.left n hnl]
          rfl
        rw [eE] at FI
        have hS2 := hS.put ((n : Int), (-2 : Int), (B.lot n).left)
        have hl60 := FA.lots
        exact s_fill F2 FI (hS2.mono (by omega)) (by rw [FA.rel.lots]; exact hl60) (ev_var rfl) fun H4 R4 tot4 F4 FI4 hF4 => k H4 rm rs2 R4 tot4 F4 FI4 hF4
theorem er_flow {σ : L2.St} {H : Hp} {t1 t2 t3 : TE} {bk ll gl s : Addr} {las gas : List Addr} {B : MB} {b : Book} {n : Nat} {fs : List Nat} {E : XK} (FA : FlowArgs A H bk ll gl s las gas B b n fs) (h1 : Ev t1 σ H (.ref bk)) (h2 : Ev t2 σ H (vi n)) (h3 : Ev t3 σ H (.ref s)) :
    EvR (tMake A.c_Flow (spFlow_init A) [] E (tCons t1 (tCons t2 (tCons t3 tNil)))) σ H (fun y H2 => ∃ H0 f rm rs R tot, y = .ref f ∧ FlowIs A H0 H2 f rm rs R tot ∧ FlowInv b fs n R tot ∧ Filled R) := fun H1 e Q q =>
  (ea_cons h1 (ea_cons h2 (ea_cons h3 ea_nil))) H1 e _ fun H2 e2 f dx nf ndx ne => by
    rw [List.append_nil]
    exact ⟨H2, f, dx, bk, ll, gl, s, las, gas, B, b, n, fs, rfl, Same.made nf ndx (fun b o h _ => h), nf, upd_same, FA.mono (e.trans e2), fun H' rm rs R tot F FI hF => ⟨rfl, q _ H' (e2.trans F.ex) ⟨H2, f, rm, rs, R, tot, rfl, F, FI, hF⟩⟩⟩
theorem Filled.least {b : Book} {fs : List Nat} {n : Nat} {R : Room} {tot : Int} (FI : FlowInv b fs n R tot) (h : Filled R) (N : Net b fs n) (h1 : b.lots.length ≤ 60) (h2 : b.legs.length ≤ 160) : tot = (TbLtFlow.most b fs n : Int) ∧ ∀ told, Reached R told → (fun i : Nat => decide ((i : Int) ∈ told.map (·.1))) = TbLtFlow.cameTo (TbLtFlow.stillTo b fs (TbLtFlow.flow b fs n)) := by
  obtain ⟨told, hT, hs⟩ := h
  have hl := flow_least N h1 h2
  refine ⟨((flow_end FI hT hs).same hl).1, fun t ht => ((flow_end FI ht fun z => hs (ht.keys hT _ z)).same hl).2⟩
theorem er_tot (T : Txt K mg A) {te : TE} {σ : L2.St} {H : Hp} {b : Book} {fs : List Nat} {n : Nat} (h : EvR te σ H (fun y H2 => ∃ H0 f rm rs R tot, y = .ref f ∧ FlowIs A H0 H2 f rm rs R tot ∧ FlowInv b fs n R tot ∧ Filled R)) :
    EvR (tFld K te "total") σ H (fun y H2 => ∃ (tot : Int) (R : Room), y = .int tot ∧ FlowInv b fs n R tot ∧ Filled R) := fun H1 e Q q =>
  h H1 e _ fun y H2 e2 ⟨H0, f, rm, rs, R, tot, ey, F, FI, hF⟩ => by
    obtain ⟨dx, hobj⟩ := F.obj
    exact ⟨f, _, dx, _, _, ey, hobj, T.cl_Flow, T.no_Flow_total, lk_Flow_total, q _ H2 e2 ⟨tot, R, rfl, FI, hF⟩⟩
def spMost (A : Ad) : Sp := fun vs H Q _ => ∃ (bk ll gl s : Addr) (las gas : List Addr) (B : MB) (b : Book) (n : Nat) (fs : List Nat), vs = [.ref bk, vi n, .ref s] ∧ FlowArgs A H bk ll gl s las gas B b n fs ∧
  ∀ H', Ex H H' → Q (vi (TbLtFlow.most b fs n)) H'
theorem ok_most (T : Txt K mg A) : FnOk P w K mg base CX0 5 A.f_most A.d_most ["book", "lot", "some"] (spMost A) := by
  refine T.fn_most.ok sc_most (fun vs H Q E h => ?_) (fun cdv Ar outer s H vs Q E hr h => ⟨_, (pss_one (ps_ret (pe_fld (pe_make T.mk_Flow (ok_Flow_init T) (hr.mono (by decide)) rfl T.mg_Flow T.bi_Flow_init .nil pass0 (pa_cons (pv 0) (pa_cons (pv 1) (pa_cons (pv 2) pa_nil)))) rfl))), ?_⟩)
  · obtain ⟨_, _, _, _, _, _, _, _, _, _, rfl, _⟩ := h
    rfl
  · obtain ⟨bk, ll, gl, s, las, gas, B, b, n, fs, rfl, FA, k⟩ := h
    have hl := FA.rel.lots
    have h60 := FA.lots
    have hg := congrArg List.length FA.rel.legs
    have h160 := FA.legs
    refine s_retR (er_tot T (er_flow FA (ev_var rfl) (ev_var rfl) (ev_var rfl))) fun y H1 e1 ⟨tot, R, ey, FI, hF⟩ => ?_
    obtain ⟨et, _⟩ := hF.least FI FA.net (by omega) (by omega)
    rw [ey, et]
    exact k H1 e1
theorem ev_most {σ : L2.St} {H : Hp} {ta : TA} {bk ll gl s : Addr} {las gas : List Addr} {B : MB} {b : Book} {n : Nat} {fs : List Nat} {E : XK} (FA : FlowArgs A H bk ll gl s las gas B b n fs) (h : EvA ta σ H [.ref bk, vi n, .ref s]) : Ev (tCall (spMost A) [] E ta) σ H (vi (TbLtFlow.most b fs n)) :=
  ev_call (dvs := []) h fun H1 e Q q E => ⟨bk, ll, gl, s, las, gas, B, b, n, fs, rfl, FA.mono e, fun H' e' => q H' e'⟩
theorem er_founders {σ : L2.St} {H : Hp} {to : TE} {b ll gl : Addr} {las gas : List Addr} {B : MB} {E : XK} (L : BookIs A H b ll gl las gas B) (hz : B.lots.length ≤ 1000) (ho : Ev to σ H (.ref b)) :
    EvR (tMeth A.c_Book "founders" (spBook_founders A) [] E to tNil) σ H (fun y H2 => ∃ p, y = .ref p ∧ H p = none ∧ H2 p = some (.lst (vis B.founders))) :=
  let ⟨_, hobj⟩ := L.obj
  er_meth0 ho hobj lk_Book_founders fun H1 e Q q E => ⟨b, ll, gl, las, gas, B, rfl, L.mono e, hz, fun p H' hp e' h' => q _ H' e' ⟨p, rfl, fresh_back e hp, h'⟩⟩
def spLeast (A : Ad) : Sp := fun vs H Q _ => ∃ (bk ll gl s : Addr) (las gas : List Addr) (B : MB) (b : Book) (n : Nat) (fs : List Nat), vs = [.ref bk, vi n, .ref s] ∧ FlowArgs A H bk ll gl s las gas B b n fs ∧
  ∀ H', Ex H H' → Q (.int ((B.lot n).left - (TbLtFlow.most b (TbLtFlow.others b fs) n : Int))) H'
theorem others_is {B : MB} {b : Book} (r : B.Rel b) (fs : List Nat) : TbLtFlow.others b fs = B.founders.filter fun f => !fs.contains f := by
  unfold TbLtFlow.others MB.founders
  rw [r.lots, List.filter_filter]
  apply List.filter_congr
  intro n hn
  rw [r.founder n (List.mem_range.mp hn), Bool.and_comm]
theorem ok_least (T : Txt K mg A) : FnOk P w K mg base CX0 6 A.f_least A.d_least ["book", "lot", "some"] (spLeast A) := by
  refine T.fn_least.ok sc_least (fun vs H Q E h => ?_) (fun cdv Ar outer s H vs Q E hr h => ⟨_, (pss_cons (ps_setLc (i := 3) (g := (gName 4)) (tt := (tTest (tOp (rIn K true) (tVar 4) (tVar 2)))) (te := (tVar 4)) (own := [("founder", 4)]) rfl sc_least.nd rfl rfl (sw_true rfl rfl rfl (by decide +kernel)) (pi_list (pe_meth0 (pv 0) T.cl_Book T.me_Book_founders (ok_Book_founders T) (hr.mono (by decide)) T.bi_Book_founders .nil pass0)) (blkOk_by (own := [("founder", 4)]) (N := N_least) (sc := defScope s_least) (by decide +kernel)) (fun _ _ _ _ _ => by exact (pg_name (i := 4) sc_least.nd rfl (Or.inl rfl))) (fun _ _ _ _ _ => by exact (pts_one (pt_cmpR op_notIn_seq (pv 4) (pv 2) (by rfl)))) (fun _ _ _ _ _ => by exact (pv 4)))
    (pss_one (ps_ret (pe_op op_sub (pe_meth0 (pe_ix ix_list (pe_fld (pv 0) rfl) (pv 1) (fun _ _ => rfl)) T.cl_Lot T.me_Lot_left (ok_Lot_left T) (hr.mono (by decide)) T.bi_Lot_left .nil pass0) (pe_call (ok_most T) (hr.mono (by decide)) rfl T.mgf_most T.fn_most.kp T.bi_most .nil pass0 (pa_cons (pv 0) (pa_cons (pv 1) (pa_cons (pv 3) pa_nil)))))))), ?_⟩)
  · obtain ⟨_, _, _, _, _, _, _, _, _, _, rfl, _⟩ := h
    rfl
  · obtain ⟨bk, ll, gl, s, las, gas, B, b, n, fs, rfl, FA, k⟩ := h
    have h60 := FA.lots
    have hfl : B.founders.length ≤ 60 := by
      unfold MB.founders
      have := List.length_filter_le (fun n => (B.lot n).founder) (List.range B.lots.length)
      rw [List.length_range] at this
      omega
    refine q_asgR (R := fun y H2 => ∃ p, y = .ref p ∧ H2 p = some (.lst (vis (TbLtFlow.others b fs)))) (er_src (er_founders FA.L (by omega) (ev_var rfl)) fun y H1 e1 ⟨q, ey, hq, hq1⟩ => ?_) fun y H1 e1 ⟨p, ey, hp⟩ => ?_
    · subst ey
      refine er_imp (lc_items (K := K) (fun k => vi (B.founders.getD k 0)) (fun k => !fs.contains (B.founders.getD k 0)) ev_c (sq_of hq1) (by rw [vis_len]; omega) fun i x H2 hx e2 => ?_) fun y H2 e2 ⟨p, h1, h2, h3⟩ => ⟨p, h1, ?_⟩
      · obtain ⟨m, hm, ex⟩ := vis_at hx
        subst ex
        rw [getD_of hm]
        exact ⟨rfl, et_test (ev_niN (ev_var rfl) (ev_var rfl) (e2 _ _ (e1 _ _ FA.hs))), fun _ => ⟨ev_var rfl, fun D xs hD z => by cases z⟩⟩
      · rw [h3, vis_len]
        unfold idx
        rw [filter_getD B.founders 0 (fun f => !fs.contains f) vi, others_is FA.rel]
    · subst ey
      have L1 := FA.L.mono e1
      have hnl : n < B.lots.length := by have := FA.net.xl; have := FA.rel.lots; omega
      obtain ⟨a, ha, LA⟩ := L1.lotN hnl
      have hN : Net b (TbLtFlow.others b fs) n := by
        refine ⟨FA.net.legsl, fun f hf => ?_, ?_, FA.net.xl⟩
        · unfold TbLtFlow.others at hf
          exact List.mem_range.mp (List.mem_filter.mp hf).1
        · unfold TbLtFlow.others
          rw [List.nodup_iff_pairwise_ne]; exact (List.nodup_iff_pairwise_ne.mp List.nodup_range).filter _
      exact s_ret (ev_op (ev_left T (eb_lotAt (eb_lots T (ev_var rfl) L1) L1 (ev_var rfl) ha) LA) (ev_most ⟨L1, FA.rel, hN, FA.lots, FA.legs, hp⟩ (ea_cons (ev_var rfl) (ea_cons (ev_var rfl) (ea_cons (ev_var rfl) ea_nil)))) rv_I0) fun H2 e2 => k H2 (e1.trans e2)
theorem er_keysN {td te : TE} {g : TG} {t : TT} {vs : List Nat} {σ : L2.St} {H : Hp} {Pr : List (Key × V) → Prop} {S : V → Hp → Prop} (h : ∀ H1, Ex H H1 → EvR td σ H1 (fun y H2 => ∃ d kvs, y = .ref d ∧ H1 d = none ∧ H2 d = some (.dK kvs) ∧ Pr kvs))
    (k : ∀ d kvs od H1, Ex H H1 → H1 d = some (.frz od (.dK kvs)) → Pr kvs → EvR (tLc (fun _ H R => R (Itk d od kvs) H) g t te vs) σ H1 S) : EvR (tLc (iKeysN td) g t te vs) σ H S := fun H1 e Q q =>
  (h H1 e) H1 (Ex.refl _) _ fun y H2 e2 ⟨d, kvs, ey, hd, hd2, hp⟩ => by
    subst ey
    exact ⟨d, kvs, rfl, hd2, fun od => (k d kvs od _ (e.trans (e2.mut hd)) upd_same hp) _ (Ex.refl _) Q fun z H3 e3 s => q z H3 ((e2.mut hd).trans e3) s⟩
theorem er_sorted {te : TE} {σ : L2.St} {H : Hp} {R : List Int → Prop} (h : EvR te σ H (fun y H2 => ∃ (p : Addr) (ns : List Int), y = .ref p ∧ H2 p = some (.lst (ns.map V.int)) ∧ ns.length < 64 ∧ R ns)) :
    EvR (tCB (rSorted K) (tCons te tNil)) σ H (fun y H2 => ∃ (q : Addr) (ns ns' : List Int), y = .ref q ∧ H q = none ∧ H2 q = some (.lst (ns'.map V.int)) ∧ ns'.Perm ns ∧ ns'.Pairwise (· ≤ ·) ∧ R ns) := fun H1 e Q k =>
  h H1 e _ fun y H2 e2 ⟨p, ns, ey, hp, hl, hR⟩ => ⟨p, ns, by rw [ey], sq_of hp, hl, fun ns' q h1 h2 hq => k _ _ (e2.trans (Ex.new hq)) ⟨q, ns, ns', rfl, fresh_back (e.trans e2) hq, upd_same, h1, h2, hR⟩⟩
def spFlow_cut (A : Ad) : Sp := fun vs H Q _ => ∃ (H0 : Hp) (f rm : Addr) (rs : List (Int × Addr)) (R : Room) (tot : Int) (n : Nat) (S : Nat → Bool), vs = [.ref f] ∧ FlowIs A H0 H f rm rs R tot ∧ ROk R (Uu n) ∧ n ≤ 60 ∧ (∀ told, Reached R told → (fun i : Nat => decide ((i : Int) ∈ told.map (·.1))) = S) ∧ Filled R ∧
  ∀ p H', H p = none → Ex H H' → H' p = some (.lst (vis ((List.range n).filter S))) → Q (.ref p) H'
theorem ok_Flow_cut (T : Txt K mg A) : FnOk P w K mg base CX0 2 A.f_Flow_cut A.d_Flow_cut ["self"] (spFlow_cut A) := by
  refine T.fn_Flow_cut.ok sc_Flow_cut (fun vs H Q E h => ?_) (fun cdv Ar outer s H vs Q E hr h => ⟨_, (pss_one (ps_ret (pe_callB cr_sorted (by rfl) T.b_sorted (by decide +kernel) (pa_cons (pe_lc (g := (gName 1)) (tt := (tTest (tOp (rI0 fun i j => .bl (decide (j ≤ i))) (tVar 1) (tC (.int 0))))) (te := (tVar 1)) (own := [("lot", 1)]) rfl sc_Flow_cut.nd (pi_keysN (pe_meth0 (pv 0) T.cl_Flow T.me_Flow_reached (ok_Flow_reached T) (hr.mono (by decide)) T.bi_Flow_reached .nil pass0)) (blkOk_by (own := [("lot", 1)]) (N := N_Flow_cut) (sc := defScope s_Flow_cut) (by decide +kernel)) (fun _ _ _ _ _ => by exact (pg_name (i := 1) sc_Flow_cut.nd rfl (Or.inl rfl))) (fun _ _ _ _ _ => by exact (pts_one (pt_cmpR op_ge (pv 1) pe_int (nomark _)))) (fun _ _ _ _ _ => by exact (pv 1))) pa_nil)))), ?_⟩)
  · obtain ⟨_, _, _, _, _, _, _, _, rfl, _⟩ := h
    rfl
  · obtain ⟨H0, f, rm, rs, R, tot, n, S, rfl, F, hok, hn, hS, hF, k⟩ := h
    refine s_retR (er_sorted (R := fun ns => ∃ told, Reached R told ∧ ns = (told.filter fun q => decide (0 ≤ q.1)).map (·.1)) (er_keysN (Pr := fun kvs => ∃ told, kvs = tab V.int told ∧ Reached R told) (fun H1 e1 => er_imp (er_reached (F.mono e1) hok (by omega) (ev_var rfl)) fun y H2 e2 ⟨d, told, h1, h2, h3, h4⟩ => ⟨d, _, h1, h2, h3, told, rfl, h4⟩) fun d kvs od H1 e1 hd ⟨told, ek, hT⟩ => ?_)) fun y H2 e2 ⟨q, ns, ns', ey, hq, hq2, hperm, hsort, told, hT, hns⟩ => ?_
    · subst ek
      have hlen : told.length ≤ n + 2 := hT.inv.len hok
      refine er_imp (el_lc (n := (tab V.int told).length) (G := fun H => H d = some (.frz od (.dK (tab V.int told)))) (Y := fun i H x H' => H' = H ∧ ∃ k v, (tab V.int told)[i]? = some (k, v) ∧ x = kV k)
        (fun i => .int (told.getD i (0, 0)).1) (fun i => decide (0 ≤ (told.getD i (0, 0)).1)) (fun i => [some (.ref f), some (.int (told.getD i (0, 0)).1)]) (fun H1 H2 e h => e _ _ h) (by rw [tab_len]; omega) (fun H1 e Rs k => k _ H1 (Ex.refl H1) walk_keys (e _ _ hd)) (fun i x H1 H2 hi e g1 ⟨eH, ky, v, hk, ex⟩ => ?_)) fun y H3 e4 ⟨p, ey, hp, hp3⟩ => ⟨p, _, ey, ?_, ?_, told, hT, rfl⟩
      · subst eH
        unfold tab at hk
        rw [List.getElem?_map] at hk
        obtain ⟨⟨b, c⟩, hb, ek⟩ := Option.map_eq_some_iff.mp hk
        cases ek
        rw [getD_of hb, ex]
        exact ⟨Ex.refl _, eg_name, rfl, et_test (ev_op (ev_var rfl) (ev_c (v := .int 0)) rv_I0), fun _ => ⟨ev_var rfl, fun D xs hD z => by cases z⟩⟩
      · rw [hp3, tab_len]
        unfold idx
        rw [filter_getD told (0, 0) (fun q => decide (0 ≤ q.1)) (fun q => V.int q.1), List.map_map]; rfl
      · rw [List.length_map]
        have := List.length_filter_le (fun q : Int × Int => decide (0 ≤ q.1)) told
        omega
    · subst ey hns
      have hsub : ((told.filter fun q => decide (0 ≤ q.1)).map (·.1)).Sublist (told.map (·.1)) := (List.filter_sublist).map _
      have he : ns' = ((List.range n).filter S).map fun (i : Nat) => (i : Int) := by
        refine sorted_perm (hT.nd.sublist hsub) hperm hsort (range_filter_sorted n S) fun x => ?_
        have hSS := fun i : Nat => congrFun (hS told hT) i
        constructor
        · intro hx
          obtain ⟨r, hr, er⟩ := List.mem_map.mp hx
          obtain ⟨hr1, hr2⟩ := List.mem_filter.mp hr
          have hr2 := of_decide_eq_true hr2
          have er : r.1 = x := er
          have hk : x ∈ told.map (·.1) := List.mem_map.mpr ⟨r, hr1, er⟩
          rcases hT.inv.uni hok x hk with h | h | h
          · omega
          · omega
          · refine List.mem_map.mpr ⟨x.toNat, List.mem_filter.mpr ⟨List.mem_range.mpr (by omega), ?_⟩, by omega⟩
            rw [← hSS]
            refine decide_eq_true ?_
            rw [show ((x.toNat : Nat) : Int) = x by omega]
            exact hk
        · intro hx
          obtain ⟨i, hi, ei⟩ := List.mem_map.mp hx
          obtain ⟨_, hi2⟩ := List.mem_filter.mp hi
          rw [← hSS] at hi2
          have hi2 := of_decide_eq_true hi2
          have ei : (i : Int) = x := ei
          rw [ei] at hi2
          obtain ⟨r, hr, er⟩ := List.mem_map.mp hi2
          have er : r.1 = x := er
          exact List.mem_map.mpr ⟨r, List.mem_filter.mpr ⟨hr, decide_eq_true (by omega)⟩, er⟩
      refine k q H2 hq e2 ?_
      rw [hq2, he, List.map_map]; rfl
end
end LW
end
section
set_option Elab.async false
set_option linter.all false
set_option maxRecDepth 100000
set_option maxHeartbeats 4000000

set_option exponentiation.threshold 10000
namespace LW
open PySem PySem.Spec PyProof.Rows L2 Evl LF TbLtBook
/-- the refusal leaves: its numbers in a new list -/
def Refd (A : Ad) (ns : List Int) (E : XK) (H : Hp) : Prop := ∀ (d l : Addr) (H' : Hp), H l = none → Ex H H' → H' d = some (.xd [(("numbers" : Str), .ref l)]) → H' l = some (.lst (ns.map V.int)) → E (.ref A.c_Refused) (some d) H'
theorem Refd.mono {A : Ad} {ns : List Int} {E : XK} {H H' : Hp} (h : Refd A ns E H) (e : Ex H H') : Refd A ns E H' := fun d l H2 hl e2 h1 h2 => h d l H2 (fresh_back e hl) (e.trans e2) h1 h2
/-- what a check tells: a refusal, or none -/
def Chk (A : Ad) (o : Option (List Int)) (H : Hp) (Q : VK) (E : XK) : Prop := (∀ ns, o = some ns → Refd A ns E H) ∧ (o = none → ∀ H', Ex H H' → Q .non H')
section
variable {P : Program} {w : World} {K : PySem.W.Frag} {mg : Str → Option Value} {base : Heap} {A : Ad}
theorem s_raiseR {D : Ends} {σ : L2.St} {H : Hp} {te : TE} {ns : List Int} {E : XK} (h : EvR te σ H (fun y H2 => ∃ p, y = .ref p ∧ H p = none ∧ H2 p = some (.lst (ns.map V.int)))) (hr : Refd A ns E H) : tRaiseRef A.c_Refused (fun cls d _ H => E cls d H) (tCons te tNil) D σ H :=
  h H (Ex.refl H) _ fun y H1 e1 ⟨p, ey, hp, hp1⟩ => ⟨y, rfl, fun d hd => by
    rw [ey]
    exact hr d p _ hp (e1.trans (Ex.new hd)) upd_same (by rw [upd_ne (fun z => by rw [z, hd] at hp1; cases hp1)]; exact hp1)⟩
theorem s_chk {D : Ends} {σ : L2.St} {H : Hp} {sp : Sp} {ta : TA} {vs : List V} {o : Option (List Int)} {E : XK} (ha : EvA ta σ H vs) (hs : ∀ H1, Ex H H1 → ∀ Q E, Chk A o H1 Q E → sp vs H1 Q E)
    (h1 : ∀ ns, o = some ns → Refd A ns E H) (h2 : o = none → ∀ H', Ex H H' → D.nx σ H') : tDrop (tCall sp [] E ta) D σ H :=
  ha H (Ex.refl H) _ fun H1 e1 => by
    rw [List.append_nil]
    exact hs H1 e1 _ _ ⟨fun ns h => (h1 ns h).mono e1, fun h H' e' => h2 h H' (e1.trans e')⟩
theorem q_chk {D : Ends} {tz : TS} {σ : L2.St} {H : Hp} {sp : Sp} {ta : TA} {vs : List V} {o : Option (List Int)} {E : XK} (ha : EvA ta σ H vs) (hs : ∀ H1, Ex H H1 → ∀ Q E, Chk A o H1 Q E → sp vs H1 Q E)
    (h1 : ∀ ns, o = some ns → Refd A ns E H) (h2 : o = none → ∀ H', Ex H H' → tz D σ H') : tSeq (tDrop (tCall sp [] E ta)) tz D σ H := s_chk (D := { D with nx := tz D }) ha hs h1 h2
theorem er_ints1 {σ : L2.St} {H : Hp} {t1 : TE} {i : Int} (h1 : Ev t1 σ H (.int i)) : EvR (tLst (tCons t1 tNil)) σ H (fun y H2 => ∃ p, y = .ref p ∧ H p = none ∧ H2 p = some (.lst ([i].map V.int))) := er_lst (ea_cons h1 ea_nil) (by show 1 ≤ 100000; decide)
theorem er_ints2 {σ : L2.St} {H : Hp} {t1 t2 : TE} {i j : Int} (h1 : Ev t1 σ H (.int i)) (h2 : Ev t2 σ H (.int j)) : EvR (tLst (tCons t1 (tCons t2 tNil))) σ H (fun y H2 => ∃ p, y = .ref p ∧ H p = none ∧ H2 p = some (.lst ([i, j].map V.int))) := er_lst (ea_cons h1 (ea_cons h2 ea_nil)) (by show 2 ≤ 100000; decide)
def spRefuse (A : Ad) : Sp := fun vs H Q E => ∃ (c : Bool) (code : Int), vs = [.bl c, .int code] ∧ Chk A (gd c code) H Q E
theorem ok_refuse (T : Txt K mg A) : FnOk P w K mg base (L2.CX P w) 4 A.f_refuse A.d_refuse ["holds", "code"] (spRefuse A) := by
  refine T.fn_refuse.okX sc_refuse (fun vs H Q E h => ?_) (fun cdv Ar outer s H vs Q E hr h => ⟨_, (pss_one (ps_if (pt_val (pv 0)) (pss_one (ps_raiseRef rfl T.low (hr.mono (by decide) : Room 3 _) takesR (pa_cons (pe_lst (pa_cons (pv 1) pa_nil)) pa_nil))) pss_nil)), ?_⟩)
  · obtain ⟨_, _, rfl, _⟩ := h
    rfl
  · obtain ⟨c, code, rfl, hc⟩ := h
    refine s_when (et_B (ev_var rfl)) (fun h H1 e1 => ?_) (fun h H1 e1 => ?_)
    · exact s_raiseR (er_ints1 (ev_var rfl)) ((hc.1 [code] (by unfold gd; rw [if_pos h])).mono e1)
    · exact hc.2 (by unfold gd; rw [if_neg (by rw [h]; decide)]) H1 e1
theorem q_refuse {D : Ends} {tz : TS} {σ : L2.St} {H : Hp} {t1 t2 : TE} {c : Bool} {code : Int} {E : XK} (h1 : Ev t1 σ H (.bl c)) (h2 : Ev t2 σ H (.int code)) (k1 : ∀ ns, gd c code = some ns → Refd A ns E H) (k2 : gd c code = none → ∀ H', Ex H H' → tz D σ H') :
    tSeq (tDrop (tCall (spRefuse A) [] E (tCons t1 (tCons t2 tNil)))) tz D σ H := q_chk (ea_cons h1 (ea_cons h2 ea_nil)) (fun H1 e Q E h => ⟨c, code, rfl, h⟩) k1 k2
theorem w_refuse {D : Ends} {σ : L2.St} {H : Hp} {t1 t2 : TE} {c : Bool} {code : Int} {E : XK} (h1 : Ev t1 σ H (.bl c)) (h2 : Ev t2 σ H (.int code)) (k1 : ∀ ns, gd c code = some ns → Refd A ns E H) (k2 : gd c code = none → ∀ H', Ex H H' → D.nx σ H') :
    tDrop (tCall (spRefuse A) [] E (tCons t1 (tCons t2 tNil))) D σ H := s_chk (ea_cons h1 (ea_cons h2 ea_nil)) (fun H1 e Q E h => ⟨c, code, rfl, h⟩) k1 k2
theorem ev_chain {σ : L2.St} {H : Hp} {ta tb tc : TE} {i j k : Int} {g1 g2 : Int → Int → V} {b1 b2 : Bool} (ha : Ev ta σ H (.int i)) (hb : Ev tb σ H (.int j)) (hc : Ev tc σ H (.int k)) (h1 : g1 i j = .bl b1) (h2 : g2 j k = .bl b2) : Ev (tChain (rI0 g1) (rI0 g2) ta tb tc) σ H (.bl (b1 && b2)) := fun H1 e Q q =>
  ha H1 e _ fun H2 e2 => hb H2 (e.trans e2) _ fun H3 e3 => ⟨i, j, rfl, rfl, b1, h1, by
    cases b1 with
    | true => exact hc H3 ((e.trans e2).trans e3) _ fun H4 e4 => ⟨j, k, rfl, rfl, by rw [h2]; exact q H4 ((e2.trans e3).trans e4)⟩
    | false => exact q H3 (e2.trans e3)⟩
def spIs_weight : Sp := fun vs H Q _ => ∃ n : Nat, vs = [vi n] ∧ ∀ H', Ex H H' → Q (.bl (isW10 n)) H'
theorem ok_is_weight (T : Txt K mg A) : FnOk P w K mg base CX0 1 A.f_is_weight A.d_is_weight ["weight"] (spIs_weight) := by
  refine T.fn_is_weight.ok sc_is_weight (fun vs H Q E h => ?_) (fun cdv Ar outer s H vs Q E hr h => ⟨_, (pss_one (ps_ret (pe_chain op_le op_le pe_int (pv 0) (pe_glob (v := .int (1000000)) rfl T.g_MOST_WEIGHT.choose_spec ⟨_, rfl⟩)))), ?_⟩)
  · obtain ⟨_, rfl, _⟩ := h
    rfl
  · obtain ⟨n, rfl, k⟩ := h
    refine s_ret (ev_chain (i := 1) (j := (n : Int)) (k := 1000000) (b1 := decide (1 ≤ n)) (b2 := decide (n ≤ 1000000)) ev_c (ev_var rfl) ev_c ?_ ?_) fun H1 e1 => k H1 e1
    · show V.bl (decide ((1 : Int) ≤ (n : Int))) = _
      congr 1
      by_cases h : 1 ≤ n
      · rw [decide_eq_true h, decide_eq_true (by omega)]
      · rw [decide_eq_false h, decide_eq_false (by omega)]
    · show V.bl (decide ((n : Int) ≤ 1000000)) = _
      congr 1
      by_cases h : n ≤ 1000000
      · rw [decide_eq_true h, decide_eq_true (by omega)]
      · rw [decide_eq_false h, decide_eq_false (by omega)]
theorem ev_isw {σ : L2.St} {H : Hp} {te : TE} {n : Nat} {E : XK} (h : Ev te σ H (vi n)) : Ev (tCall spIs_weight [] E (tCons te tNil)) σ H (.bl (isW10 n)) :=
  ev_call (dvs := []) (ea_cons h ea_nil) fun H1 e Q q E => ⟨n, rfl, fun H' e' => q H' e'⟩
/-! ### the desk -/
structure DeskIs (A : Ad) (H : Hp) (d el bk ll gl : Addr) (eas ers las gas : List Addr) (es : Es) : Prop where
  obj : ∃ dx : Addr, H d = some (.ins A.c_Desk dx (fDesk (.ref el) (.ref bk)))
  ent : H el = some (.lst (eas.map V.ref))
  len : eas.length = es.length
  lenr : ers.length = es.length
  entry : ∀ (i : Nat) (a r : Addr) (e : Ent), eas[i]? = some a → ers[i]? = some r → es[i]? = some e → EntryIs A H a r e ∧ r ≠ ll ∧ r ≠ gl ∧ r ≠ el
  book : BookIs A H bk ll gl las gas (mbookOf es)
  nel : el ≠ ll ∧ el ≠ gl
theorem DeskIs.mono {H H' : Hp} {d el bk ll gl : Addr} {eas ers las gas : List Addr} {es : Es} (D : DeskIs A H d el bk ll gl eas ers las gas es) (e : Ex H H') : DeskIs A H' d el bk ll gl eas ers las gas es :=
  ⟨let ⟨dx, h⟩ := D.obj; ⟨dx, e _ _ h⟩, e _ _ D.ent, D.len, D.lenr, fun i a r x h1 h2 h3 => let ⟨q, q2⟩ := D.entry i a r x h1 h2 h3; ⟨q.mono e, q2⟩, D.book.mono e, D.nel⟩
theorem ed_entries (T : Txt K mg A) {te : TE} {σ : L2.St} {H : Hp} {d el bk ll gl : Addr} {eas ers las gas : List Addr} {es : Es} (h : Ev te σ H (.ref d)) (D : DeskIs A H d el bk ll gl eas ers las gas es) : Ev (tFld K te "entries") σ H (.ref el) := let ⟨_, ho⟩ := D.obj; ev_Desk_entries T h ho
theorem ed_book (T : Txt K mg A) {te : TE} {σ : L2.St} {H : Hp} {d el bk ll gl : Addr} {eas ers las gas : List Addr} {es : Es} (h : Ev te σ H (.ref d)) (D : DeskIs A H d el bk ll gl eas ers las gas es) : Ev (tFld K te "book") σ H (.ref bk) := let ⟨_, ho⟩ := D.obj; ev_Desk_book T h ho
theorem ed_lots (T : Txt K mg A) {te : TE} {σ : L2.St} {H : Hp} {d el bk ll gl : Addr} {eas ers las gas : List Addr} {es : Es} (h : Ev te σ H (.ref d)) (D : DeskIs A H d el bk ll gl eas ers las gas es) : Ev (tFld K (tFld K te "book") "lots") σ H (.ref ll) := eb_lots T (ed_book T h D) D.book
theorem ed_legs (T : Txt K mg A) {te : TE} {σ : L2.St} {H : Hp} {d el bk ll gl : Addr} {eas ers las gas : List Addr} {es : Es} (h : Ev te σ H (.ref d)) (D : DeskIs A H d el bk ll gl eas ers las gas es) : Ev (tFld K (tFld K te "book") "legs") σ H (.ref gl) := eb_legs T (ed_book T h D) D.book
/-- len(desk.book.lots) .. -/
theorem ed_nlots (T : Txt K mg A) {te : TE} {σ : L2.St} {H : Hp} {d el bk ll gl : Addr} {eas ers las gas : List Addr} {es : Es} (h : Ev te σ H (.ref d)) (D : DeskIs A H d el bk ll gl eas ers las gas es) : Ev (tCB (rLenS K) (tCons (tFld K (tFld K te "book") "lots") tNil)) σ H (vi (mbookOf es).lots.length) :=
  ev_is (ev_lenL (ed_lots T h D) (sq_of D.book.hl)) (by rw [List.length_map, D.book.ln])
theorem ed_nlegs (T : Txt K mg A) {te : TE} {σ : L2.St} {H : Hp} {d el bk ll gl : Addr} {eas ers las gas : List Addr} {es : Es} (h : Ev te σ H (.ref d)) (D : DeskIs A H d el bk ll gl eas ers las gas es) : Ev (tCB (rLenS K) (tCons (tFld K (tFld K te "book") "legs") tNil)) σ H (vi (mbookOf es).legs.length) :=
  ev_is (ev_lenL (ed_legs T h D) (sq_of D.book.hg)) (by rw [List.length_map, D.book.gn])
theorem ed_nents (T : Txt K mg A) {te : TE} {σ : L2.St} {H : Hp} {d el bk ll gl : Addr} {eas ers las gas : List Addr} {es : Es} (h : Ev te σ H (.ref d)) (D : DeskIs A H d el bk ll gl eas ers las gas es) : Ev (tCB (rLenS K) (tCons (tFld K te "entries") tNil)) σ H (vi es.length) :=
  ev_is (ev_lenL (ed_entries T h D) (sq_of D.ent)) (by rw [List.length_map, D.len])
/-- desk.book.lots[n] -/
theorem ed_lot (T : Txt K mg A) {te ti : TE} {σ : L2.St} {H : Hp} {d el bk ll gl : Addr} {eas ers las gas : List Addr} {es : Es} {n : Nat} (h : Ev te σ H (.ref d)) (D : DeskIs A H d el bk ll gl eas ers las gas es) (hi : Ev ti σ H (vi n)) (hn : n < (mbookOf es).lots.length) :
    ∃ a, LotAt A H ll gl a ((mbookOf es).lot n) ∧ Ev (tOp (rIxL K) (tFld K (tFld K te "book") "lots") ti) σ H (.ref a) :=
  let ⟨a, ha, LA⟩ := D.book.lotN hn
  ⟨a, LA, eb_lotAt (ed_lots T h D) D.book hi ha⟩
theorem ltN (a b : Nat) : decide ((a : Int) < (b : Int)) = decide (a < b) := by
  by_cases h : a < b
  · rw [decide_eq_true h, decide_eq_true (by omega)]
  · rw [decide_eq_false h, decide_eq_false (by omega)]
theorem leN (a b : Nat) : decide ((a : Int) ≤ (b : Int)) = decide (a ≤ b) := by
  by_cases h : a ≤ b
  · rw [decide_eq_true h, decide_eq_true (by omega)]
  · rw [decide_eq_false h, decide_eq_false (by omega)]
theorem ev_ltN {σ : L2.St} {H : Hp} {ta tb : TE} {a b : Nat} (ha : Ev ta σ H (vi a)) (hb : Ev tb σ H (vi b)) : Ev (tOp (rI0 fun i j => .bl (decide (i < j))) ta tb) σ H (.bl (decide (a < b))) := ev_is (ev_op ha hb rv_I0) (by rw [ltN])
theorem ev_gtN {σ : L2.St} {H : Hp} {ta tb : TE} {a b : Nat} (ha : Ev ta σ H (vi a)) (hb : Ev tb σ H (vi b)) : Ev (tOp (rI0 fun i j => .bl (decide (j < i))) ta tb) σ H (.bl (decide (b < a))) := ev_is (ev_op ha hb rv_I0) (by rw [ltN])
theorem ev_geN {σ : L2.St} {H : Hp} {ta tb : TE} {a b : Nat} (ha : Ev ta σ H (vi a)) (hb : Ev tb σ H (vi b)) : Ev (tOp (rI0 fun i j => .bl (decide (j ≤ i))) ta tb) σ H (.bl (decide (b ≤ a))) := ev_is (ev_op ha hb rv_I0) (by rw [leN])
theorem ev_leN {σ : L2.St} {H : Hp} {ta tb : TE} {a b : Nat} (ha : Ev ta σ H (vi a)) (hb : Ev tb σ H (vi b)) : Ev (tOp (rI0 fun i j => .bl (decide (i ≤ j))) ta tb) σ H (.bl (decide (a ≤ b))) := ev_is (ev_op ha hb rv_I0) (by rw [leN])
theorem ev_eqV {σ : L2.St} {H : Hp} {ta tb : TE} {a b : Nat} (ha : Ev ta σ H (vi a)) (hb : Ev tb σ H (vi b)) : Ev (tOp rEq ta tb) σ H (.bl (decide (a = b))) := ev_is (ev_op ha hb (rv_eq rfl)) (by
  congr 1
  by_cases h : a = b
  · subst h; simp
  · rw [decide_eq_false h, decide_eq_false (fun z => h (by injection z with z; omega))])
theorem ev_addN {σ : L2.St} {H : Hp} {ta tb : TE} {a b : Nat} (ha : Ev ta σ H (vi a)) (hb : Ev tb σ H (vi b)) : Ev (tOp (rI0 fun i j => .int (i + j)) ta tb) σ H (vi (a + b)) := ev_is (ev_op ha hb rv_I0) rfl
theorem atI_end {xs : List V} {v : V} (h : xs.getLast? = some v) : atI xs (-1) = some v := by
  obtain ⟨ys, e⟩ := List.getLast?_eq_some_iff.mp h
  rw [e]
  exact L2.atI_last ys v
/-- desk.entries[-1] -/
theorem ed_last (T : Txt K mg A) {te ti : TE} {σ : L2.St} {H : Hp} {d el bk ll gl : Addr} {eas ers las gas : List Addr} {es : Es} (h : Ev te σ H (.ref d)) (D : DeskIs A H d el bk ll gl eas ers las gas es) (hi : Ev ti σ H (.int (-1))) (hne : 0 < es.length) :
    ∃ a r e, EntryIs A H a r e ∧ lastDay es = e.day ∧ Ev (tOp (rIxL K) (tFld K te "entries") ti) σ H (.ref a) := by
  have l1 := D.len
  have l2 := D.lenr
  obtain ⟨a, h1⟩ : ∃ a, eas[es.length - 1]? = some a := ⟨_, List.getElem?_eq_getElem (by omega)⟩
  obtain ⟨r, h2⟩ : ∃ r, ers[es.length - 1]? = some r := ⟨_, List.getElem?_eq_getElem (by omega)⟩
  obtain ⟨e, h3⟩ : ∃ e, es[es.length - 1]? = some e := ⟨_, List.getElem?_eq_getElem (by omega)⟩
  refine ⟨_, _, _, (D.entry _ _ _ _ h1 h2 h3).1, ?_, ev_ixL (ed_entries T h D) (sq_of D.ent) hi (atI_end ?_)⟩
  · unfold lastDay
    rw [List.getLast?_eq_getElem?, h3]; rfl
  · rw [List.getLast?_eq_getElem?, List.length_map, List.getElem?_map, l1, h1]; rfl
theorem q_asgT2 {D : Ends} {tz : TS} {σ : L2.St} {H : Hp} {te : TE} {a : Addr} {x y : V} {i j : Nat} (h : Ev te σ H (.ref a)) (hs : SqT K H a [x, y]) (k : ∀ H1, Ex H H1 → tz D ((σ.set i (some x)).set j (some y)) H1) : tSeq (tAsg te (gTup K 2 (gCons (gName i) (gCons (gName j) gNil)))) tz D σ H :=
  h H (Ex.refl H) _ fun H1 e => eg_tup2 (ex_t e hs) _ (k H1 e)
theorem q_asgL2 {D : Ends} {tz : TS} {σ : L2.St} {H : Hp} {te : TE} {a : Addr} {x y : V} {i j : Nat} (h : Ev te σ H (.ref a)) (hs : H a = some (.lst [x, y])) (k : ∀ H1, Ex H H1 → tz D ((σ.set i (some x)).set j (some y)) H1) : tSeq (tAsg te (gLst K 2 (gCons (gName i) (gCons (gName j) gNil)))) tz D σ H :=
  h H (Ex.refl H) _ fun H1 e => ⟨a, _, rfl, sq_of (e _ _ hs), rfl, _, _, rfl, _, _, rfl, rfl, k H1 e⟩
theorem q_asgL3 {D : Ends} {tz : TS} {σ : L2.St} {H : Hp} {te : TE} {a : Addr} {x y z : V} {i j l : Nat} (h : Ev te σ H (.ref a)) (hs : H a = some (.lst [x, y, z])) (k : ∀ H1, Ex H H1 → tz D (((σ.set i (some x)).set j (some y)).set l (some z)) H1) : tSeq (tAsg te (gLst K 3 (gCons (gName i) (gCons (gName j) (gCons (gName l) gNil))))) tz D σ H :=
  h H (Ex.refl H) _ fun H1 e => ⟨a, _, rfl, sq_of (e _ _ hs), rfl, _, _, rfl, _, _, rfl, _, _, rfl, rfl, k H1 e⟩
def spCheck_entry (A : Ad) : Sp := fun vs H Q E => ∃ (d el bk ll gl : Addr) (eas ers las gas : List Addr) (es : Es) (day lots legs : Nat), vs = [.ref d, vi day, vi lots, vi legs] ∧ DeskIs A H d el bk ll gl eas ers las gas es ∧ Chk A (chkEntry es day lots legs) H Q E
theorem ok_check_entry (T : Txt K mg A) : FnOk P w K mg base (L2.CX P w) 5 A.f_check_entry A.d_check_entry ["desk", "day", "lots", "legs"] (spCheck_entry A) := by
  refine T.fn_check_entry.okX sc_check_entry (fun vs H Q E h => ?_) (fun cdv Ar outer s H vs Q E hr h => ⟨_, (pss_cons (ps_expr (pe_call (ok_refuse T) (hr.mono (by decide)) rfl T.mgf_refuse T.fn_refuse.kp T.bi_refuse .nil passR (pa_cons (pe_and (pe_cmpR op_gt (pe_callB call_len_seq (by rfl) T.b_len PySem.boot_len (pa_cons (pe_fld (pv 0) rfl) pa_nil)) pe_int (nomark _)) (pe_one (pe_cmpR op_lt (pv 1) (pe_fld (pe_ix ix_list (pe_fld (pv 0) rfl) (pe_un un_neg pe_int) (fun _ _ => rfl)) rfl) (nomark _)))) (pa_cons (pe_un un_neg pe_int) pa_nil))))
    (pss_cons (ps_set (i := 4) sc_check_entry.nd rfl (Or.inl rfl) (pe_or (pe_cmpR op_eq (pe_callB call_len_seq (by rfl) T.b_len PySem.boot_len (pa_cons (pe_fld (pv 0) rfl) pa_nil)) (pe_glob (v := .int (200)) rfl T.g_MOST_ENTRIES.choose_spec ⟨_, rfl⟩) (nomark _)) (pe_one (pe_cmpR op_gt (pe_op op_add (pe_callB call_len_seq (by rfl) T.b_len PySem.boot_len (pa_cons (pe_fld (pe_fld (pv 0) rfl) rfl) pa_nil)) (pv 2)) (pe_glob (v := .int (60)) rfl T.g_MOST_LOTS.choose_spec ⟨_, rfl⟩) (nomark _)))))
    (pss_one (ps_expr (pe_call (ok_refuse T) (hr.mono (by decide)) rfl T.mgf_refuse T.fn_refuse.kp T.bi_refuse .nil passR (pa_cons (pe_or (pv 4) (pe_one (pe_cmpR op_gt (pe_op op_add (pe_callB call_len_seq (by rfl) T.b_len PySem.boot_len (pa_cons (pe_fld (pe_fld (pv 0) rfl) rfl) pa_nil)) (pv 3)) (pe_glob (v := .int (160)) rfl T.g_MOST_LEGS.choose_spec ⟨_, rfl⟩) (nomark _)))) (pa_cons (pe_un un_neg pe_int) pa_nil))))))), ?_⟩)
  · obtain ⟨_, _, _, _, _, _, _, _, _, _, _, _, _, rfl, _⟩ := h
    rfl
  · obtain ⟨d, el, bk, ll, gl, eas, ers, las, gas, es, day, lots, legs, rfl, D, hc⟩ := h
    refine q_refuse (c := decide (0 < es.length) && decide (day < lastDay es)) (code := -8) (ev_andV (ev_gtN (ed_nents T (ev_var rfl) D) (ev_c (v := vi 0))) fun h0 => ?_) (ev_un ev_c ru_neg) (fun ns h => hc.1 ns (by unfold chkEntry orNext; rw [h])) fun hg H1 e1 => ?_
    · have h0 := of_decide_eq_true h0
      obtain ⟨a, r, e, E1, hd, hev⟩ := ed_last T (te := tVar 0) (σ := [some (.ref d), some (vi day), some (vi lots), some (vi legs), none]) (ev_var rfl) D (ev_un (ev_c (v := .int 1)) ru_neg) h0
      rw [hd]
      exact ev_ltN (ev_var rfl) (ee_day T hev E1)
    · have D1 := D.mono e1
      refine q_asg (ev_orV (ev_eqV (ed_nents T (ev_var rfl) D1) (ev_c (v := vi 200))) fun _ => ev_gtN (ev_addN (ed_nlots T (ev_var rfl) D1) (ev_var rfl)) (ev_c (v := vi 60))) fun H2 e2 => ?_
      have D2 := D1.mono e2
      have hck : chkEntry es day lots legs = gd ((decide (es.length = 200) || decide (60 < (mbookOf es).lots.length + lots)) || decide (160 < (mbookOf es).legs.length + legs)) (-7) := by unfold chkEntry orNext; rw [hg]
      exact w_refuse (ev_orV (ev_var rfl) fun _ => ev_gtN (ev_addN (ed_nlegs T (ev_var rfl) D2) (ev_var rfl)) (ev_c (v := vi 160))) (ev_un ev_c ru_neg) (fun ns h => (hc.1 ns (by rw [hck]; exact h)).mono (e1.trans e2)) fun h H3 e3 => hc.2 (by rw [hck]; exact h) H3 ((e1.trans e2).trans e3)
def spCheck_lot (A : Ad) : Sp := fun vs H Q E => ∃ (d el bk ll gl : Addr) (eas ers las gas : List Addr) (es : Es) (n : Nat), vs = [.ref d, vi n] ∧ DeskIs A H d el bk ll gl eas ers las gas es ∧ Chk A (chkLot (mbookOf es) n) H Q E
theorem ok_check_lot (T : Txt K mg A) : FnOk P w K mg base (L2.CX P w) 5 A.f_check_lot A.d_check_lot ["desk", "number"] (spCheck_lot A) := by
  refine T.fn_check_lot.okX sc_check_lot (fun vs H Q E h => ?_) (fun cdv Ar outer s H vs Q E hr h => ⟨_, (pss_one (ps_expr (pe_call (ok_refuse T) (hr.mono (by decide)) rfl T.mgf_refuse T.fn_refuse.kp T.bi_refuse .nil passR (pa_cons (pe_cmpR op_ge (pv 1) (pe_callB call_len_seq (by rfl) T.b_len PySem.boot_len (pa_cons (pe_fld (pe_fld (pv 0) rfl) rfl) pa_nil)) (nomark _)) (pa_cons (pe_un un_neg pe_int) pa_nil))))), ?_⟩)
  · obtain ⟨_, _, _, _, _, _, _, _, _, _, _, rfl, _⟩ := h
    rfl
  · obtain ⟨d, el, bk, ll, gl, eas, ers, las, gas, es, n, rfl, D, hc⟩ := h
    exact w_refuse (c := decide ((mbookOf es).lots.length ≤ n)) (code := -4) (ev_geN (ev_var rfl) (ed_nlots T (ev_var rfl) D)) (ev_un ev_c ru_neg) (fun ns h => hc.1 ns h) fun h H1 e1 => hc.2 h H1 e1
def spCheck_rows (A : Ad) : Sp := fun vs H Q E => ∃ (d el bk ll gl r : Addr) (eas ers las gas : List Addr) (es : Es) (ps : List (Nat × Nat)), vs = [.ref d, .ref r] ∧ DeskIs A H d el bk ll gl eas ers las gas es ∧ RowsAt H r ps ∧ ps.length ≤ 1000 ∧ Chk A (chkRows (mbookOf es) 0 [] ps) H Q E
theorem ok_check_rows (T : Txt K mg A) : FnOk P w K mg base (L2.CX P w) 4 A.f_check_rows A.d_check_rows ["desk", "rows"] (spCheck_rows A) := by
  refine T.fn_check_rows.okX sc_check_rows (fun vs H Q E h => ?_) (fun cdv Ar outer s H vs Q E hr h => ⟨_, (pss_cons (ps_set (i := 2) sc_check_rows.nd rfl (Or.inl rfl) (pe_lst pa_nil))
    (pss_one (ps_for (passes_of rfl) rfl (pi_enum (by rfl) T.b_enumerate (pa_cons (pv 1) pa_nil)) (pg_tup rfl (pgs_cons (pg_name (i := 3) sc_check_rows.nd rfl (Or.inl rfl)) (pgs_cons (pg_name (i := 4) sc_check_rows.nd rfl (Or.inl rfl)) pgs_nil))) (pss_cons (ps_asg (pv 4) (pg_tup rfl (pgs_cons (pg_name (i := 5) sc_check_rows.nd rfl (Or.inl rfl)) (pgs_cons (pg_name (i := 6) sc_check_rows.nd rfl (Or.inl rfl)) pgs_nil))))
    (pss_cons (ps_if (pt_cmpR op_ge (pv 5) (pe_callB call_len_seq (by rfl) T.b_len PySem.boot_len (pa_cons (pe_fld (pe_fld (pv 0) rfl) rfl) pa_nil)) (nomark _)) (pss_one (ps_raiseRef rfl T.low (hr.mono (by decide) : Room 3 _) takesR (pa_cons (pe_lst (pa_cons (pe_un un_neg pe_int) (pa_cons (pv 3) pa_nil))) pa_nil))) pss_nil)
    (pss_cons (ps_if (pt_cmpR op_in_seq (pv 5) (pv 2) (by rfl)) (pss_one (ps_raiseRef rfl T.low (hr.mono (by decide) : Room 3 _) takesR (pa_cons (pe_lst (pa_cons (pe_un un_neg pe_int) (pa_cons (pv 3) pa_nil))) pa_nil))) pss_nil)
    (pss_cons (ps_if (pt_cmpR op_gt (pv 6) (pe_meth0 (pe_ix ix_list (pe_fld (pe_fld (pv 0) rfl) rfl) (pv 5) (fun _ _ => rfl)) T.cl_Lot T.me_Lot_left (ok_Lot_left T) (hr.mono (by decide)) T.bi_Lot_left .nil pass0) (nomark _)) (pss_one (ps_raiseRef rfl T.low (hr.mono (by decide) : Room 3 _) takesR (pa_cons (pe_lst (pa_cons (pe_un un_neg pe_int) (pa_cons (pv 3) pa_nil))) pa_nil))) pss_nil)
    (pss_one (ps_expr (pe_bm PySem.F.plainAttrs_list PySem.F.slot_list_append PySem.F.type_list_append mt_append (pv 2) (pa_cons (pv 5) pa_nil))))))))))), ?_⟩)
  · obtain ⟨_, _, _, _, _, _, _, _, _, _, _, _, rfl, _⟩ := h
    rfl
  · obtain ⟨d, el, bk, ll, gl, r, eas, ers, las, gas, es, ps, rfl, D, hr', hl, hc⟩ := h
    refine q_asgR (er_lst ea_nil (Nat.zero_le _)) fun y H1 e1 ⟨sl, ey, hs, hs1⟩ => ?_
    subst ey
    obtain ⟨as, R1, R2, R3⟩ := hr'
    refine s_forEnum (ev_var rfl) (sq_of (e1 _ _ R1)) (fun i σ' H' => ∃ v3 v4 v5 v6 : Option V, σ' = [some (.ref d), some (.ref r), some (.ref sl), v3, v4, v5, v6] ∧ Ex H H' ∧ H' sl = some (.lst (vis ((ps.take i).map (·.1)))) ∧ chkRows (mbookOf es) 0 [] ps = chkRows (mbookOf es) i ((ps.take i).map (·.1)) (ps.drop i))
      (fun H2 e2 => ⟨_, _, _, _, rfl, e1.trans e2, e2 _ _ hs1, rfl⟩) (fun i σ' H' _ ⟨_, _, _, _, _, e', _⟩ => sq_of (e' _ _ R1)) (fun i x σ' H' hx ⟨v3, v4, v5, v6, es', e', hsl, hck⟩ H2 e2 => ?_) (fun σ' H' ⟨v3, v4, v5, v6, es', e', hsl, hck⟩ => ?_)
    · subst es'
      rw [List.getElem?_map] at hx
      obtain ⟨a, ha, ex⟩ := Option.map_eq_some_iff.mp hx
      subst ex
      have hi : i < ps.length := by rw [← R2]; exact (List.getElem?_eq_some_iff.mp ha).1
      have hp : ps[i]? = some ps[i] := List.getElem?_eq_getElem hi
      generalize ps[i] = p at hp
      have e02 := e'.trans e2
      have D2 := D.mono e02
      have hdrop : ps.drop i = p :: ps.drop (i + 1) := by rw [List.drop_eq_getElem_cons hi]; congr 1; rw [List.getElem?_eq_getElem hi] at hp; exact Option.some.inj hp
      rw [hdrop] at hck
      have htup := e02 _ _ (R3 i a p ha hp)
      refine q_asgT2 (ev_var rfl) (st_of htup) fun H3 e3 => ?_
      have e03 := e02.trans e3
      have D3 := D.mono e03
      refine q_when (et_test (ev_geN (ev_var rfl) (ed_nlots T (ev_var rfl) D3))) (fun hb H4 e4 => ?_) (fun hb H4 e4 => ?_)
      · have hb := of_decide_eq_true hb
        refine s_raiseR (er_ints2 (ev_un ev_c ru_neg) (ev_var rfl)) ((hc.1 [-4, (i : Int)] ?_).mono (e03.trans e4))
        rw [hck]
        unfold chkRows
        rw [if_pos hb]
      · have hb := of_decide_eq_false hb
        have D4 := D3.mono e4
        have hsl4 := e4 _ _ (e3 _ _ (e2 _ _ hsl))
        refine q_when (et_test (ev_inN (ev_var rfl) (ev_var rfl) hsl4)) (fun hm H5 e5 => ?_) (fun hm H5 e5 => ?_)
        · refine s_raiseR (er_ints2 (ev_un ev_c ru_neg) (ev_var rfl)) ((hc.1 [-9, (i : Int)] ?_).mono ((e03.trans e4).trans e5))
          rw [hck]
          unfold chkRows
          rw [if_neg hb, if_pos hm]
        · have D5 := D4.mono e5
          obtain ⟨la, LA, hev⟩ := ed_lot T (te := tVar 0) (ti := tVar 5) (σ := [some (.ref d), some (.ref r), some (.ref sl), some (vi i), some (.ref a), some (vi p.1), some (vi p.2)]) (n := p.1) (ev_var rfl) D5 (ev_var rfl) (by omega)
          refine q_when (et_test (ev_op (ev_var rfl) (ev_left T hev LA) rv_I0)) (fun hw H6 e6 => ?_) (fun hw H6 e6 => ?_)
          · have hw := of_decide_eq_true hw
            refine s_raiseR (er_ints2 (ev_un ev_c ru_neg) (ev_var rfl)) ((hc.1 [-5, (i : Int)] ?_).mono (((e03.trans e4).trans e5).trans e6))
            rw [hck]
            unfold chkRows
            rw [if_neg hb, if_neg (by rw [hm]; decide), if_pos hw]
          · have hw := of_decide_eq_false hw
            have hsl6 := e6 _ _ (e5 _ _ hsl4)
            refine s_app hsl6 (ev_var rfl) (ev_var rfl) (by rw [vis_len, List.length_map]; have := List.length_take_le' i ps; omega) fun H7 e7 => ⟨_, _, _, _, rfl, ((((e03.trans e4).trans e5).trans e6).trans e7).mut hs, ?_, ?_⟩
            · rw [upd_same, take_more hp, List.map_append]
              unfold vis
              rw [List.map_append]; rfl
            · rw [hck, take_more hp, List.map_append]
              conv => lhs; unfold chkRows
              rw [if_neg hb, if_neg (by rw [hm]; decide), if_neg hw]
              rfl
    · subst es'
      refine hc.2 ?_ H' e'
      rw [hck, List.length_map, R2, List.drop_length]
      rfl
end
end LW
end
section
set_option Elab.async false
set_option linter.all false
set_option maxRecDepth 100000
set_option maxHeartbeats 4000000

set_option exponentiation.threshold 10000
namespace LW
open PySem PySem.Spec PyProof.Rows L2 Evl LF TbLtBook
section
variable {P : Program} {w : World} {K : PySem.W.Frag} {mg : Str → Option Value} {base : Heap} {A : Ad}
/-- n into the list -/
theorem vis_some {l : List Nat} {i n : Nat} (h : l[i]? = some n) : (vis l)[i]? = some (vi n) := by unfold vis; rw [List.getElem?_map, h]; rfl
theorem ev_ixV {σ : L2.St} {H : Hp} {ta tb : TE} {p : Addr} {l : List Nat} {i n : Nat} (ha : Ev ta σ H (.ref p)) (hp : H p = some (.lst (vis l))) (hb : Ev tb σ H (vi i)) (h : l[i]? = some n) : Ev (tOp (rIxL K) ta tb) σ H (vi n) :=
  ev_ixL ha (sq_of hp) hb (atI_nat (vis_some h))
theorem ev_lenV {σ : L2.St} {H : Hp} {ta : TE} {p : Addr} {l : List Nat} (ha : Ev ta σ H (.ref p)) (hp : H p = some (.lst (vis l))) : Ev (tCB (rLenS K) (tCons ta tNil)) σ H (vi l.length) := ev_is (ev_lenL ha (sq_of hp)) (by rw [vis_len])
theorem rise_step {f : Nat → Bool} {code before : Int} {i n : Nat} {l : List Nat} (h : l[i]? = some n) : riseFrom f code before i (l.drop i) = if (decide ((n : Int) ≤ before) || !f n) = true then some [code, (i : Int)] else riseFrom f code n (i + 1) (l.drop (i + 1)) := by
  have hi : i < l.length := (List.getElem?_eq_some_iff.mp h).1
  have hdrop : l.drop i = n :: l.drop (i + 1) := by rw [List.drop_eq_getElem_cons hi]; congr 1; rw [List.getElem?_eq_getElem hi] at h; exact Option.some.inj h
  rw [hdrop]
  conv => lhs; unfold riseFrom
theorem et_lotF (T : Txt K mg A) {te ti : TE} {σ : L2.St} {H : Hp} {d el bk ll gl : Addr} {eas ers las gas : List Addr} {es : Es} {n : Nat} {E : XK} (h : Ev te σ H (.ref d)) (D : DeskIs A H d el bk ll gl eas ers las gas es) (hi : Ev ti σ H (vi n)) (hn : n < (mbookOf es).lots.length) :
    Ev (tMeth A.c_Lot "is_founder" (spLot_is_founder A) [] E (tOp (rIxL K) (tFld K (tFld K te "book") "lots") ti) tNil) σ H (.bl ((mbookOf es).lot n).founder) :=
  let ⟨_, LA, hev⟩ := ed_lot T h D hi hn
  et_founder T hev LA
theorem ed_left (T : Txt K mg A) {te ti : TE} {σ : L2.St} {H : Hp} {d el bk ll gl : Addr} {eas ers las gas : List Addr} {es : Es} {n : Nat} {E : XK} (h : Ev te σ H (.ref d)) (D : DeskIs A H d el bk ll gl eas ers las gas es) (hi : Ev ti σ H (vi n)) (hn : n < (mbookOf es).lots.length) :
    Ev (tMeth A.c_Lot "left" (spLot_left A) [] E (tOp (rIxL K) (tFld K (tFld K te "book") "lots") ti) tNil) σ H (.int ((mbookOf es).lot n).left) :=
  let ⟨_, LA, hev⟩ := ed_lot T h D hi hn
  ev_left T hev LA
def spCheck_set (A : Ad) : Sp := fun vs H Q E => ∃ (d el bk ll gl r : Addr) (eas ers las gas : List Addr) (es : Es) (l : List Nat), vs = [.ref d, .ref r] ∧ DeskIs A H d el bk ll gl eas ers las gas es ∧ H r = some (.lst (vis l)) ∧ Chk A (chkSet (mbookOf es) l) H Q E
theorem ok_check_set (T : Txt K mg A) : FnOk P w K mg base (L2.CX P w) 4 A.f_check_set A.d_check_set ["desk", "row"] (spCheck_set A) := by
  refine T.fn_check_set.okX sc_check_set (fun vs H Q E h => ?_) (fun cdv Ar outer s H vs Q E hr h => ⟨_, (pss_cons (ps_set (i := 2) sc_check_set.nd rfl (Or.inl rfl) (pe_un un_neg pe_int))
    (pss_one (ps_for (passes_of rfl) rfl (pi_enum (by rfl) T.b_enumerate (pa_cons (pv 1) pa_nil)) (pg_tup rfl (pgs_cons (pg_name (i := 3) sc_check_set.nd rfl (Or.inl rfl)) (pgs_cons (pg_name (i := 4) sc_check_set.nd rfl (Or.inl rfl)) pgs_nil))) (pss_cons (ps_if (PW.pt (pw_or (pt_cmpR op_le (pv 4) (pv 2) (nomark _)) (pw_or1 (pt_cmpR op_ge (pv 4) (pe_callB call_len_seq (by rfl) T.b_len PySem.boot_len (pa_cons (pe_fld (pe_fld (pv 0) rfl) rfl) pa_nil)) (nomark _))))) (pss_one (ps_raiseRef rfl T.low (hr.mono (by decide) : Room 3 _) takesR (pa_cons (pe_lst (pa_cons (pe_un un_neg pe_int) (pa_cons (pv 3) pa_nil))) pa_nil))) pss_nil)
    (pss_one (ps_set (i := 2) sc_check_set.nd rfl (Or.inl rfl) (pv 4))))))), ?_⟩)
  · obtain ⟨_, _, _, _, _, _, _, _, _, _, _, _, rfl, _⟩ := h
    rfl
  · obtain ⟨d, el, bk, ll, gl, r, eas, ers, las, gas, es, l, rfl, D, hr', hc⟩ := h
    refine q_asg (v := .int (-1)) (ev_un ev_c ru_neg) fun H1 e1 => ?_
    refine s_forEnum (ev_var rfl) (sq_of (e1 _ _ hr')) (fun i σ' H' => ∃ (b : Int) (v3 v4 : Option V), σ' = [some (.ref d), some (.ref r), some (.int b), v3, v4] ∧ Ex H H' ∧ chkSet (mbookOf es) l = riseFrom (fun n => decide (n < (mbookOf es).lots.length)) (-12) b i (l.drop i))
      (fun H2 e2 => ⟨_, _, _, rfl, e1.trans e2, rfl⟩) (fun i σ' H' _ ⟨_, _, _, _, e', _⟩ => sq_of (e' _ _ hr')) (fun i x σ' H' hx ⟨b, v3, v4, es', e', hck⟩ H2 e2 => ?_) (fun σ' H' ⟨b, v3, v4, es', e', hck⟩ => ?_)
    · subst es'
      obtain ⟨n, hn, ex⟩ := vis_at hx
      subst ex
      have e02 := e'.trans e2
      have D2 := D.mono e02
      rw [rise_step hn] at hck
      refine q_when (et_or (et_test (ev_op (ev_var rfl) (ev_var rfl) rv_I0)) fun _ => et_test (ev_geN (ev_var rfl) (ed_nlots T (ev_var rfl) D2))) (fun hb H3 e3 => ?_) (fun hb H3 e3 => ?_)
      · refine s_raiseR (er_ints2 (ev_un ev_c ru_neg) (ev_var rfl)) ((hc.1 [-12, (i : Int)] ?_).mono (e02.trans e3))
        rw [hck, if_pos]
        rw [Bool.or_eq_true] at hb ⊢
        rcases hb with hb | hb
        · exact .inl hb
        · refine .inr ?_
          have := of_decide_eq_true hb
          rw [decide_eq_false (by omega)]; rfl
      · refine s_asg (ev_var rfl) fun H4 e4 => ⟨_, _, _, rfl, (e02.trans e3).trans e4, ?_⟩
        rw [hck, if_neg]
        rw [Bool.or_eq_false_iff] at hb
        rw [Bool.or_eq_true]
        rintro (z | z)
        · rw [hb.1] at z; cases z
        · have := of_decide_eq_false hb.2
          rw [decide_eq_true (by omega)] at z; cases z
    · subst es'
      refine hc.2 ?_ H' e'
      rw [hck, vis_len, List.drop_length]
      rfl
def spCheck_some (A : Ad) : Sp := fun vs H Q E => ∃ (d el bk ll gl p r : Addr) (eas ers las gas : List Addr) (es : Es) (args l : List Nat) (x : Nat), vs = [.ref d, .ref p, .ref r] ∧ DeskIs A H d el bk ll gl eas ers las gas es ∧ H p = some (.lst (vis args)) ∧ args[0]? = some x ∧ H r = some (.lst (vis l)) ∧ Chk A (chkSome (mbookOf es) x l) H Q E
theorem ok_check_some (T : Txt K mg A) : FnOk P w K mg base (L2.CX P w) 6 A.f_check_some A.d_check_some ["desk", "args", "row"] (spCheck_some A) := by
  refine T.fn_check_some.okX sc_check_some (fun vs H Q E h => ?_) (fun cdv Ar outer s H vs Q E hr h => ⟨_, (pss_cons (ps_expr (pe_call (ok_check_lot T) (hr.mono (by decide)) rfl T.mgf_check_lot T.fn_check_lot.kp T.bi_check_lot .nil passR (pa_cons (pv 0) (pa_cons (pe_ix ix_list (pv 1) pe_int (fun _ _ => rfl)) pa_nil))))
    (pss_cons (ps_set (i := 3) sc_check_some.nd rfl (Or.inl rfl) (pe_un un_neg pe_int))
    (pss_one (ps_for (passes_of rfl) rfl (pi_enum (by rfl) T.b_enumerate (pa_cons (pv 2) pa_nil)) (pg_tup rfl (pgs_cons (pg_name (i := 4) sc_check_some.nd rfl (Or.inl rfl)) (pgs_cons (pg_name (i := 5) sc_check_some.nd rfl (Or.inl rfl)) pgs_nil))) (pss_cons (ps_if (PW.pt (pw_or (pt_cmpR op_le (pv 5) (pv 3) (nomark _)) (pw_or (pt_cmpR op_ge (pv 5) (pe_callB call_len_seq (by rfl) T.b_len PySem.boot_len (pa_cons (pe_fld (pe_fld (pv 0) rfl) rfl) pa_nil)) (nomark _)) (pw_or1 (pt_not (pt_val (pe_meth0 (pe_ix ix_list (pe_fld (pe_fld (pv 0) rfl) rfl) (pv 5) (fun _ _ => rfl)) T.cl_Lot T.me_Lot_is_founder (ok_Lot_is_founder T) (hr.mono (by decide)) T.bi_Lot_is_founder .nil pass0))))))) (pss_one (ps_raiseRef rfl T.low (hr.mono (by decide) : Room 3 _) takesR (pa_cons (pe_lst (pa_cons (pe_un un_neg pe_int) (pa_cons (pv 4) pa_nil))) pa_nil))) pss_nil)
    (pss_one (ps_set (i := 3) sc_check_some.nd rfl (Or.inl rfl) (pv 5)))))))), ?_⟩)
  · obtain ⟨_, _, _, _, _, _, _, _, _, _, _, _, _, _, _, rfl, _⟩ := h
    rfl
  · obtain ⟨d, el, bk, ll, gl, p, r, eas, ers, las, gas, es, args, l, x, rfl, D, hp, hx0, hr', hc⟩ := h
    refine q_chk (sp := spCheck_lot A) (o := chkLot (mbookOf es) x) (ea_cons (ev_var rfl) (ea_cons (ev_ixV (ev_var rfl) hp (ev_c (v := vi 0)) hx0) ea_nil)) (fun H1 e Q E h => ⟨d, el, bk, ll, gl, eas, ers, las, gas, es, x, rfl, D.mono e, h⟩) (fun ns h => hc.1 ns (by unfold chkSome orNext; rw [h])) fun hlot H1 e1 => ?_
    have hcs : chkSome (mbookOf es) x l = riseFrom (fun n => decide (n < (mbookOf es).lots.length) && ((mbookOf es).lot n).founder) (-11) (-1) 0 l := by unfold chkSome orNext; rw [hlot]
    refine q_asg (v := .int (-1)) (ev_un ev_c ru_neg) fun H2 e2 => ?_
    refine s_forEnum (ev_var rfl) (sq_of ((e1.trans e2) _ _ hr')) (fun i σ' H' => ∃ (b : Int) (v3 v4 : Option V), σ' = [some (.ref d), some (.ref p), some (.ref r), some (.int b), v3, v4] ∧ Ex H H' ∧ chkSome (mbookOf es) x l = riseFrom (fun n => decide (n < (mbookOf es).lots.length) && ((mbookOf es).lot n).founder) (-11) b i (l.drop i))
      (fun H3 e3 => ⟨_, _, _, rfl, (e1.trans e2).trans e3, hcs⟩) (fun i σ' H' _ ⟨_, _, _, _, e', _⟩ => sq_of (e' _ _ hr')) (fun i x σ' H' hx ⟨b, v3, v4, es', e', hck⟩ H2 e2 => ?_) (fun σ' H' ⟨b, v3, v4, es', e', hck⟩ => ?_)
    · subst es'
      obtain ⟨n, hn, ex⟩ := vis_at hx
      subst ex
      have e02 := e'.trans e2
      have D2 := D.mono e02
      rw [rise_step hn] at hck
      have hval : (decide ((n : Int) ≤ b) || (decide ((mbookOf es).lots.length ≤ n) || !((mbookOf es).lot n).founder)) = (decide ((n : Int) ≤ b) || !(decide (n < (mbookOf es).lots.length) && ((mbookOf es).lot n).founder)) := by
        congr 1
        by_cases h : n < (mbookOf es).lots.length
        · rw [decide_eq_true h, decide_eq_false (by omega)]; rfl
        · rw [decide_eq_false h, decide_eq_true (by omega)]; rfl
      refine q_when (et_is (et_or (et_test (ev_op (ev_var rfl) (ev_var rfl) rv_I0)) fun _ => et_or (et_test (ev_geN (ev_var rfl) (ed_nlots T (ev_var rfl) D2))) fun h => et_not (et_B (et_lotF T (ev_var rfl) D2 (ev_var rfl) (by have := of_decide_eq_false h; omega)))) hval) (fun hb H3 e3 => ?_) (fun hb H3 e3 => ?_)
      · refine s_raiseR (er_ints2 (ev_un ev_c ru_neg) (ev_var rfl)) ((hc.1 [-11, (i : Int)] ?_).mono (e02.trans e3))
        rw [hck, if_pos hb]
      · refine s_asg (ev_var rfl) fun H4 e4 => ⟨_, _, _, rfl, (e02.trans e3).trans e4, ?_⟩
        rw [hck, if_neg (by rw [hb]; decide)]
    · subst es'
      refine hc.2 ?_ H' e'
      rw [hck, vis_len, List.drop_length]
      rfl
theorem rgc_two {n : Nat} (h : n ≤ 1000000) : RgC 0 ((n : Int) - 1) 2 (n / 2) := by
  have hs : Builtin.Range.rangeSize 0 ((n : Int) - 1) 2 = ((n / 2 : Nat) : Int) := by
    unfold Builtin.Range.rangeSize
    rw [if_pos (by decide)]
    split <;> omega
  refine ⟨by decide, by decide, ?_, hs⟩
  unfold Builtin.Range.small
  rw [hs]
  simp only [Builtin.Range.rangeFitsLong, Bool.and_eq_true, Bool.or_eq_true, decide_eq_true_eq, beq_iff_eq, show ((2 : Int) > 0) by decide, if_true]
  omega
def spPairs : Sp := fun vs H Q _ => ∃ (r : Addr) (l : List Nat), vs = [.ref r] ∧ H r = some (.lst (vis l)) ∧ l.length ≤ 1000 ∧ ∀ p H', H p = none → Ex H H' → RowsAt H' p (pairsOf l) → Q (.ref p) H'
theorem ok_pairs (T : Txt K mg A) : FnOk P w K mg base CX0 1 A.f_pairs A.d_pairs ["row"] (spPairs) := by
  refine T.fn_pairs.ok sc_pairs (fun vs H Q E h => ?_) (fun cdv Ar outer s H vs Q E hr h => ⟨_, (pss_one (ps_ret (pe_lc (g := (gName 1)) (tt := tYes) (te := (tTup (tCons (tOp (rIxL K) (tVar 0) (tVar 1)) (tCons (tOp (rIxL K) (tVar 0) (tOp (rI0 fun i j => .int (i + j)) (tVar 1) (tC (.int 1)))) tNil)))) (own := [("place", 1)]) rfl sc_pairs.nd (pi_range3 rfl T.b_range (pa_cons pe_int (pa_cons (pe_op op_sub (pe_callB call_len_seq (by rfl) T.b_len PySem.boot_len (pa_cons (pv 0) pa_nil)) pe_int) (pa_cons pe_int pa_nil)))) (blkOk_by (own := [("place", 1)]) (N := N_pairs) (sc := defScope s_pairs) (by decide +kernel)) (fun _ _ _ _ _ => by exact (pg_name (i := 1) sc_pairs.nd rfl (Or.inl rfl))) (fun _ _ _ _ _ => by exact pts_nil) (fun _ _ _ _ _ => by exact (pe_tup (pa_cons (pe_ix ix_list (pv 0) (pv 1) (fun _ _ => rfl)) (pa_cons (pe_ix ix_list (pv 0) (pe_op op_add (pv 1) pe_int) (fun _ _ => rfl)) pa_nil))))))), ?_⟩)
  · obtain ⟨_, _, rfl, _⟩ := h
    rfl
  · obtain ⟨r, l, rfl, hr', hl, k⟩ := h
    refine s_retR (er_lcP (n := l.length / 2) (G := fun _ => True) (Y := YFn fun i => .int ((0 : Int) + (i : Nat) * 2)) (fun k => (l.getD (2 * k) 0, l.getD (2 * k + 1) 0)) (fun _ => true) (fun k => [some (.ref r), some (vi (2 * k))]) (fun _ _ _ h => h) (by omega)
      (fun H1 e Rs k => (ea_cons ev_c (ea_cons (ev_op (ev_lenV (ev_var rfl) hr') ev_c rv_I0) (ea_cons ev_c ea_nil))) H1 e _ fun H2 e2 => ⟨0, (l.length : Int) - 1, 2, l.length / 2, rfl, rgc_two (by omega), k _ H2 e2 walk_rangeC trivial⟩) fun i x H1 H2 hi e1 _ ⟨eH, ex⟩ => ?_) fun y H1 e1 ⟨p, ey, hp, hp1⟩ => ?_
    · subst eH
      have ex : x = vi (2 * i) := by
        rw [ex]
        show V.int ((0 : Int) + (i : Int) * 2) = V.int ((2 * i : Nat) : Int)
        congr 1
        omega
      subst ex
      have h1 : l[2 * i]? = some (l.getD (2 * i) 0) := by rw [List.getD_eq_getElem?_getD, List.getElem?_eq_getElem (by omega)]; rfl
      have h2 : l[2 * i + 1]? = some (l.getD (2 * i + 1) 0) := by rw [List.getD_eq_getElem?_getD, List.getElem?_eq_getElem (by omega)]; rfl
      exact ⟨Ex.refl _, eg_name, rfl, et_yes, fun _ => er_tup (ea_cons (ev_ixV (ev_var rfl) (e1 _ _ hr') (ev_var rfl) h1) (ea_cons (ev_ixV (ev_var rfl) (e1 _ _ hr') (ev_addN (ev_var rfl) (ev_c (v := vi 1))) h2) ea_nil)) (by show 2 ≤ 100000; decide)⟩
    · subst ey
      rw [idx_all] at hp1
      exact k p H1 hp e1 hp1
theorem odds_vis (l : List Nat) : odds (vis l) = vis (oddsOf l) := by
  unfold odds oddsOf oddIx
  rw [vis_len]
  unfold vis
  rw [List.map_map]
  have : ∀ n, n ≤ l.length / 2 → ((List.range n).map fun k => 2 * k + 1).filterMap (fun i => (l.map vi)[i]?) = (List.range n).map (vi ∘ fun k => l.getD (2 * k + 1) 0) := by
    intro n
    induction n with
    | zero => intro _; rfl
    | succ n ih =>
      intro hn
      rw [List.range_succ, List.map_append, List.filterMap_append, List.map_append, ih (by omega)]
      congr 1
      have h : (l.map vi)[2 * n + 1]? = some (vi (l.getD (2 * n + 1) 0)) := by rw [List.getElem?_map, List.getD_eq_getElem?_getD, List.getElem?_eq_getElem (by omega)]; rfl
      simp only [List.map_cons, List.map_nil, List.filterMap_cons, h, List.filterMap_nil]
      rfl
  exact this _ (Nat.le_refl _)
def spAre_pairs : Sp := fun vs H Q _ => ∃ (r : Addr) (l : List Nat) (n : Nat), vs = [.ref r, vi n] ∧ H r = some (.lst (vis l)) ∧ l.length ≤ 1000 ∧ n ≤ 1000 ∧ ∀ H', Ex H H' → Q (.bl (arePairs l n)) H'
theorem ev_allN {te : TE} {σ : L2.St} {H : Hp} {bs : List Bool} (h : EvR te σ H (fun y H2 => ∃ p, y = .ref p ∧ H p = none ∧ H2 p = some (.lst (bs.map V.bl)))) : Ev (tCB (rAll K) (tCons te tNil)) σ H (.bl (bs.all id)) := fun H1 e Q q =>
  h H1 e _ fun y H2 e2 ⟨p, ey, _, hp⟩ => ⟨p, bs, by rw [ey], sq_of hp, q H2 e2⟩
theorem ev_anyN {te : TE} {σ : L2.St} {H : Hp} {bs : List Bool} (h : EvR te σ H (fun y H2 => ∃ p, y = .ref p ∧ H p = none ∧ H2 p = some (.lst (bs.map V.bl)))) : Ev (tCB (rAny K) (tCons te tNil)) σ H (.bl (bs.any id)) := fun H1 e Q q =>
  h H1 e _ fun y H2 e2 ⟨p, ey, _, hp⟩ => ⟨p, bs, by rw [ey], sq_of hp, q H2 e2⟩
/-- [is_weight(x) for x in a list] -/
theorem er_weights {tl : TE} {σ : L2.St} {H : Hp} {p : Addr} {l : List Nat} {i : Nat} {vs : List Nat} {E : XK} (h : Ev tl σ H (.ref p)) (hp : H p = some (.lst (vis l))) (hl : l.length ≤ 1000) (hw : ∀ x : V, wipe ((wipe σ vs).set i (some x)) vs = wipe σ vs) (hi : i < (wipe σ vs).length) :
    EvR (tLc (iList K tl) (gName i) tYes (tCall spIs_weight [] E (tCons (tVar i) tNil)) vs) σ H (fun y H2 => ∃ q, y = .ref q ∧ H q = none ∧ H2 q = some (.lst ((l.map isW10).map V.bl))) := by
  refine er_imp (lc_items (K := K) (fun k => .bl (isW10 (l.getD k 0))) (fun _ => true) h (sq_of hp) (by rw [vis_len]; omega) fun k x H1 hx e1 => ?_) fun y H1 e1 ⟨q, h1, h2, h3⟩ => ⟨q, h1, h2, ?_⟩
  · obtain ⟨n, hn, ex⟩ := vis_at hx
    subst ex
    rw [getD_of hn]
    refine ⟨hw _, et_yes, fun _ => ⟨ev_isw (ev_var ?_), fun D ys hD z => by cases z⟩⟩
    rw [List.getElem?_set_self hi]
  · rw [h3, vis_len, idx_all, range_getD l 0 (fun n => V.bl (isW10 n)), List.map_map]; rfl
theorem all_map_id (l : List Nat) : (l.map isW10).all id = l.all isW10 := by rw [List.all_map]; rfl
theorem er_odds {te : TE} {σ : L2.St} {H : Hp} {r : Addr} {l : List Nat} (h : Ev te σ H (.ref r)) (hr : H r = some (.lst (vis l))) : EvR (tOdds K te) σ H (fun y H2 => ∃ p, y = .ref p ∧ H p = none ∧ H2 p = some (.lst (vis (oddsOf l)))) := fun H1 e Q q =>
  h H1 e _ fun H2 e2 => ⟨r, vis l, rfl, sq_of ((e.trans e2) _ _ hr), fun p hp => q _ _ (e2.trans (Ex.new hp)) ⟨p, rfl, fresh_back (e.trans e2) hp, by rw [upd_same, odds_vis]⟩⟩
theorem ok_are_pairs (T : Txt K mg A) : FnOk P w K mg base CX0 2 A.f_are_pairs A.d_are_pairs ["row", "least_many"] (spAre_pairs) := by
  refine T.fn_are_pairs.ok sc_are_pairs (fun vs H Q E h => ?_) (fun cdv Ar outer s H vs Q E hr h => ⟨_, (pss_one (ps_ret (pe_and (pe_cmpR op_eq (pe_op op_mod (pe_callB call_len_seq (by rfl) T.b_len PySem.boot_len (pa_cons (pv 0) pa_nil)) pe_int) pe_int (nomark _)) (pe_and (pe_cmpR op_ge (pe_callB call_len_seq (by rfl) T.b_len PySem.boot_len (pa_cons (pv 0) pa_nil)) (pe_op op_mul pe_int (pv 1)) (nomark _)) (pe_one (pe_callB (cr_all rfl) (by rfl) T.b_all (by decide +kernel) (pa_cons (pe_lc (g := (gName 2)) (tt := tYes) (te := (tCall (spIs_weight) [] E0 (tCons (tVar 2) tNil))) (own := [("weight", 2)]) rfl sc_are_pairs.nd (pi_list (pe_odds (pv 0))) (blkOk_by (own := [("weight", 2)]) (N := N_are_pairs) (sc := defScope s_are_pairs) (by decide +kernel)) (fun _ _ _ _ _ => by exact (pg_name (i := 2) sc_are_pairs.nd rfl (Or.inl rfl))) (fun _ _ _ _ _ => by exact pts_nil) (fun _ _ _ _ _ => by exact (pe_call (ok_is_weight T) (hr.mono (by decide)) rfl T.mgf_is_weight T.fn_is_weight.kp T.bi_is_weight .nil pass0 (pa_cons (pv 2) pa_nil)))) pa_nil))))))), ?_⟩)
  · obtain ⟨_, _, _, rfl, _⟩ := h
    rfl
  · obtain ⟨r, l, n, rfl, hr', hl, hn, k⟩ := h
    have hol : (oddsOf l).length ≤ 1000 := by unfold oddsOf; rw [List.length_map, List.length_range]; omega
    have hm : Ev (tOp rEq (tOp (rI (fun _ j => 0 < j) fun i j => .int (i % j)) (tCB (rLenS K) (tCons (tVar 0) tNil)) (tC (.int 2))) (tC (.int 0))) [some (.ref r), some (vi n), none] H (.bl (decide (l.length % 2 = 0))) :=
      ev_eqV (a := l.length % 2) (b := 0) (ev_is (ev_op (ev_lenV (ev_var rfl) hr') (ev_c (v := .int 2)) (rv_I (by decide))) rfl) (ev_c (v := vi 0))
    have hg : Ev (tOp (rI0 fun i j => .bl (decide (j ≤ i))) (tCB (rLenS K) (tCons (tVar 0) tNil)) (tOp (rI CMul fun i j => .int (i * j)) (tC (.int 2)) (tVar 1))) [some (.ref r), some (vi n), none] H (.bl (decide (2 * n ≤ l.length))) :=
      ev_geN (ev_lenV (ev_var rfl) hr') (ev_is (ev_op (ev_c (v := .int 2)) (ev_var rfl) (rv_I (.inl (by decide)))) rfl)
    refine s_ret (v := .bl (arePairs l n)) (ev_andV hm fun _ => ev_andV hg fun _ => ?_) fun H1 e1 => k H1 e1
    refine ev_is (ev_allN (er_src (er_odds (ev_var rfl) hr') fun y H1 e1 ⟨p, ey, hp, hp1⟩ => ?_)) (by rw [all_map_id])
    subst ey
    exact er_imp (er_weights ev_c hp1 hol (fun x => rfl) (by show 2 < 3; decide)) fun y H2 e2 ⟨q, h1, h2, h3⟩ => ⟨q, h1, fresh_back e1 h2, h3⟩
end
end LW
end
section
set_option Elab.async false
set_option linter.all false
set_option maxRecDepth 100000
set_option maxHeartbeats 4000000

set_option exponentiation.threshold 10000
namespace LW
open PySem PySem.Spec PyProof.Rows L2 Evl LF TbLtBook
section
variable {P : Program} {w : World} {K : PySem.W.Frag} {mg : Str → Option Value} {base : Heap} {A : Ad}
/-- what of a desk may change -/
def OfDesk (d el ll gl : Addr) (las : List Addr) : Addr → Prop := fun x => x = d ∨ x = el ∨ OfBook ll gl las x
theorem desk_not {H : Hp} {b ll gl x : Addr} {las gas : List Addr} {B : MB} (L : BookIs A H b ll gl las gas B) {dx : Addr} {v1 v2 : V} (h : H x = some (.ins A.c_Desk dx (fDesk v1 v2))) : ¬ OfBook ll gl las x := by
  rintro (z | z | z)
  · rw [z, L.hl] at h; cases h
  · rw [z, L.hg] at h; cases h
  · obtain ⟨i, hi⟩ := List.mem_iff_getElem?.mp z
    have hlt : i < B.lots.length := by rw [← L.ln]; exact (List.getElem?_eq_some_iff.mp hi).1
    obtain ⟨dx', m, h1, _⟩ := L.lot i x _ hi (List.getElem?_eq_getElem hlt)
    rw [h1] at h
    have h := Option.some.inj h
    injection h with _ _ h
    have := congrArg List.length h
    simp [lotV, fLot, fDesk] at this
/-- the entries' list changes: the book stays -/
theorem BookIs.updEl {H : Hp} {b ll gl el : Addr} {las gas : List Addr} {B : MB} {xs : List V} {o : HO} (L : BookIs A H b ll gl las gas B) (hel : H el = some (.lst xs)) (n1 : el ≠ ll) (n2 : el ≠ gl) (hne : 0 < B.lots.length → ∃ a r, xs = V.ref a :: r) : BookIs A (upd H el o) b ll gl las gas B := by
  have st : ∀ x o', H x = some o' → (∀ z, o' ≠ .lst z) → (upd H el o) x = some o' := fun x o' hx no => by
    rw [upd_ne (fun z => by rw [z, hel] at hx; exact no _ (Option.some.inj hx).symm)]; exact hx
  obtain ⟨dx, ho⟩ := L.obj
  refine ⟨⟨dx, st _ _ ho fun z e => by cases e⟩, by rw [upd_ne (Ne.symm n1)]; exact L.hl, by rw [upd_ne (Ne.symm n2)]; exact L.hg, L.ne, L.nd, L.ln, L.gn, fun i a l h1 h2 => ?_, fun i a g h1 h2 => st _ _ (L.leg i a g h1 h2) fun z e => (by cases e)⟩
  obtain ⟨dx', m, k1, k2, k3⟩ := L.lot i a l h1 h2
  have hl : 0 < B.lots.length := by have := (List.getElem?_eq_some_iff.mp h2).1; omega
  obtain ⟨a0, r0, hx⟩ := hne hl
  refine ⟨dx', m, st _ _ k1 fun z e => (by cases e), ?_, k3⟩
  rw [upd_ne (fun z => by
    rw [z, hel, hx] at k2
    have k2 := Option.some.inj k2
    injection k2 with k2
    cases hm : l.mothers with
    | nil => rw [hm] at k2; cases k2
    | cons x r => rw [hm] at k2; injection k2 with k2 _; cases k2)]
  exact k2
theorem EntryIs.updEl {H : Hp} {a r el : Addr} {e : Ent} {xs : List V} {o : HO} (E : EntryIs A H a r e) (hel : H el = some (.lst xs)) (h : r ≠ el) : EntryIs A (upd H el o) a r e := by
  obtain ⟨dx, ho⟩ := E.obj
  obtain ⟨as, q1, q2, q3⟩ := E.rows
  exact ⟨⟨dx, by rw [upd_ne (fun z => by rw [z, hel] at ho; cases ho)]; exact ho⟩, as, by rw [upd_ne h]; exact q1, q2, fun i a p e1 e2 => by
    have q := q3 i a p e1 e2
    rw [upd_ne (fun z => by rw [z, hel] at q; cases q)]; exact q⟩
theorem mb_pos {es : Es} (h : 0 < (mbookOf es).lots.length) : es ≠ [] := fun z => by rw [z] at h; exact absurd h (by decide)
theorem s_make {D : Ends} {σ : L2.St} {H : Hp} {to te : TE} {b ll gl a r : Addr} {las gas : List Addr} {B : MB} {e : Ent} {E : XK} (L : BookIs A H b ll gl las gas B) (En : EntryIs A H a r e) (n1 : r ≠ ll) (n2 : r ≠ gl) (hn : B.names e) (z1 : B.lots.length + (LF.Entry.rows e).length ≤ 900) (z2 : B.legs.length + (LF.Entry.rows e).length ≤ 900)
    (ho : Ev to σ H (.ref b)) (h1 : Ev te σ H (.ref a)) (go : ∀ H' las' gas', BookIs A H' b ll gl las' gas' (B.make e) → Keep (OfBook ll gl las) H H' → (∀ x ∈ las', x ∈ las ∨ H x = none) → (∀ x ∈ las, x ∈ las') → D.nx σ H') : tDrop (tMeth A.c_Book "make" (spMake A) [] E to (tCons te tNil)) D σ H := by
  obtain ⟨dx, hobj⟩ := L.obj
  exact ho H (Ex.refl H) _ fun H1 e1 => ⟨b, dx, _, rfl, e1 _ _ hobj, lk_Book_make, (ea_cons h1 ea_nil) H1 e1 _ fun H2 e2 => (by
    rw [List.append_nil]
    have e12 := e1.trans e2
    exact ⟨b, ll, gl, a, r, las, gas, B, e, rfl, L.mono e12, En.mono e12, n1, n2, hn, z1, z2, fun H' las' gas' LB kp hx hy => go H' las' gas' LB ((Keep.of_ex e12).trans kp) (fun x h => (hx x h).imp id (fresh_back e12)) hy⟩)⟩
theorem q_make {D : Ends} {tz : TS} {σ : L2.St} {H : Hp} {to te : TE} {b ll gl a r : Addr} {las gas : List Addr} {B : MB} {e : Ent} {E : XK} (L : BookIs A H b ll gl las gas B) (En : EntryIs A H a r e) (n1 : r ≠ ll) (n2 : r ≠ gl) (hn : B.names e) (z1 : B.lots.length + (LF.Entry.rows e).length ≤ 900) (z2 : B.legs.length + (LF.Entry.rows e).length ≤ 900)
    (ho : Ev to σ H (.ref b)) (h1 : Ev te σ H (.ref a)) (go : ∀ H' las' gas', BookIs A H' b ll gl las' gas' (B.make e) → Keep (OfBook ll gl las) H H' → (∀ x ∈ las', x ∈ las ∨ H x = none) → (∀ x ∈ las, x ∈ las') → tz D σ H') : tSeq (tDrop (tMeth A.c_Book "make" (spMake A) [] E to (tCons te tNil))) tz D σ H := s_make (D := { D with nx := tz D }) L En n1 n2 hn z1 z2 ho h1 go
def spPut (A : Ad) : Sp := fun vs H Q _ => ∃ (d el bk ll gl a r : Addr) (eas ers las gas : List Addr) (es : Es) (e : Ent), vs = [.ref d, .ref a] ∧ DeskIs A H d el bk ll gl eas ers las gas es ∧ EntryIs A H a r e ∧ r ≠ ll ∧ r ≠ gl ∧ r ≠ el ∧ (mbookOf es).names e ∧ es.length ≤ 900 ∧
  (mbookOf es).lots.length + (LF.Entry.rows e).length ≤ 900 ∧ (mbookOf es).legs.length + (LF.Entry.rows e).length ≤ 900 ∧
  ∀ p H' las' gas', H p = none → DeskIs A H' d el bk ll gl (eas ++ [a]) (ers ++ [r]) las' gas' (es ++ [e]) → Keep (OfDesk d el ll gl las) H H' → (∀ x ∈ las', x ∈ las ∨ H x = none) → (∀ x, H' x = none → H x = none) → H' p = some (.lst [vi (mbookOf es).lots.length]) → Q (.ref p) H'
theorem ok_put (T : Txt K mg A) : FnOk P w K mg base CX0 4 A.f_put A.d_put ["desk", "entry"] (spPut A) := by
  refine T.fn_put.ok sc_put (fun vs H Q E h => ?_) (fun cdv Ar outer s H vs Q E hr h => ⟨_, (pss_cons (ps_set (i := 2) sc_put.nd rfl (Or.inl rfl) (pe_callB call_len_seq (by rfl) T.b_len PySem.boot_len (pa_cons (pe_fld (pe_fld (pv 0) rfl) rfl) pa_nil)))
    (pss_cons (ps_expr (pe_bm PySem.F.plainAttrs_list PySem.F.slot_list_append PySem.F.type_list_append mt_append (pe_fld (pv 0) rfl) (pa_cons (pv 1) pa_nil)))
    (pss_cons (ps_expr (pe_meth (pe_fld (pv 0) rfl) T.cl_Book T.me_Book_make (ok_Book_make T) (hr.mono (by decide)) T.bi_Book_make .nil pass0 (pa_cons (pv 1) pa_nil)))
    (pss_one (ps_ret (pe_lst (pa_cons (pv 2) pa_nil))))))), ?_⟩)
  · obtain ⟨_, _, _, _, _, _, _, _, _, _, _, _, _, rfl, _⟩ := h
    rfl
  · obtain ⟨d, el, bk, ll, gl, a, r, eas, ers, las, gas, es, e, rfl, D, En, r1, r2, r3, hnm, hz0, hz1, hz2, k⟩ := h
    refine q_asg (ed_nlots T (ev_var rfl) D) fun H1 e1 => ?_
    have D1 := D.mono e1
    have En1 := En.mono e1
    have hlen := D.len
    refine q_app D1.ent (ed_entries T (ev_var rfl) D1) (ev_var rfl) (by rw [List.length_map]; omega) fun H2 e2 => ?_
    have D2 := D1.mono e2
    have En2 := En1.mono e2
    have hent2 := D2.ent
    have hne : 0 < (mbookOf es).lots.length → ∃ a r, eas.map V.ref = V.ref a :: r := fun h => by
      cases hE : eas with
      | nil => rw [hE] at hlen; exact absurd (List.length_eq_zero_iff.mp hlen.symm) (mb_pos h)
      | cons x y => exact ⟨_, _, rfl⟩
    have L3 := D2.book.updEl (o := .lst (eas.map V.ref ++ [V.ref a])) hent2 D.nel.1 D.nel.2 hne
    have En3 := En2.updEl (o := .lst (eas.map V.ref ++ [V.ref a])) hent2 r3
    obtain ⟨dx, hobj⟩ := D2.obj
    have nd : d ≠ el := fun z => by rw [z, hent2] at hobj; cases hobj
    have hobj3 : (upd H2 el (.lst (eas.map V.ref ++ [V.ref a]))) d = some (.ins A.c_Desk dx (fDesk (.ref el) (.ref bk))) := by rw [upd_ne nd]; exact hobj
    have hold3 : ∀ (i : Nat) (a' r' : Addr) (x : Ent), eas[i]? = some a' → ers[i]? = some r' → es[i]? = some x → EntryIs A (upd H2 el (.lst (eas.map V.ref ++ [V.ref a]))) a' r' x ∧ r' ≠ ll ∧ r' ≠ gl ∧ r' ≠ el := fun i a' r' x h1 h2 h3 => by
      obtain ⟨q1, q2, q3, q4⟩ := D2.entry i a' r' x h1 h2 h3
      exact ⟨q1.updEl hent2 q4, q2, q3, q4⟩
    have hel3 : (upd H2 el (.lst (eas.map V.ref ++ [V.ref a]))) el = some (.lst (eas.map V.ref ++ [V.ref a])) := upd_same
    have kp3 : Keep (OfDesk d el ll gl las) H (upd H2 el (.lst (eas.map V.ref ++ [V.ref a]))) := (Keep.of_ex (e1.trans e2)).trans (Keep.upd (.inr (.inl rfl)))
    have back3 : ∀ x, (upd H2 el (.lst (eas.map V.ref ++ [V.ref a]))) x = none → H x = none := fun x hx => by
      by_cases z : x = el
      · rw [z, upd_same] at hx; cases hx
      · rw [upd_ne z] at hx; exact fresh_back (e1.trans e2) hx
    generalize upd H2 el (.lst (eas.map V.ref ++ [V.ref a])) = H3 at L3 En3 hobj3 hold3 hel3 kp3 back3
    refine q_make L3 En3 r1 r2 hnm hz1 hz2 (ev_Desk_book T (ev_var rfl) hobj3) (ev_var rfl) fun H4 las' gas' L4 kp4 hnew hsub => ?_
    refine s_retR (er_lst (ea_cons (ev_var rfl) ea_nil) (by show 1 ≤ 100000; decide)) fun y H5 e5 ⟨p, ey, hp, hp5⟩ => ?_
    subst ey
    have hback : ∀ p, H4 p = none → H3 p = none := fun p hp => by
      cases h : H3 p with
      | none => rfl
      | some o =>
        by_cases hb : OfBook ll gl las p
        · rcases hb with z | z | z
          · rw [z, L4.hl] at hp; cases hp
          · rw [z, L4.hg] at hp; cases hp
          · obtain ⟨o', ho'⟩ := las_some L4 (hsub p z)
            rw [ho'] at hp; cases hp
        · rw [kp4 p o h hb] at hp; cases hp
    have kp4' : Keep (OfDesk d el ll gl las) H3 H4 := kp4.mono fun x o _ h => .inr (.inr h)
    have D4 : DeskIs A H4 d el bk ll gl (eas ++ [a]) (ers ++ [r]) las' gas' (es ++ [e]) := by
      refine ⟨⟨dx, kp4 _ _ hobj3 (desk_not L3 hobj3)⟩, ?_, ?_, ?_, fun i a' r' x h1 h2 h3 => ?_, ?_, D.nel⟩
      · rw [List.map_append]
        exact kp4 _ _ hel3 (lst_not L3 hel3 D.nel.1 D.nel.2)
      · rw [List.length_append, List.length_append, D.len]; rfl
      · rw [List.length_append, List.length_append, D.lenr]; rfl
      · have key : EntryIs A H3 a' r' x ∧ r' ≠ ll ∧ r' ≠ gl ∧ r' ≠ el := by
          by_cases hi : i < es.length
          · rw [List.getElem?_append_left (by rw [D.len]; exact hi)] at h1
            rw [List.getElem?_append_left (by rw [D.lenr]; exact hi)] at h2
            rw [List.getElem?_append_left hi] at h3
            exact hold3 i a' r' x h1 h2 h3
          · rw [List.getElem?_append_right (by rw [D.len]; omega), D.len] at h1
            rw [List.getElem?_append_right (by rw [D.lenr]; omega), D.lenr] at h2
            rw [List.getElem?_append_right (by omega)] at h3
            have z : i - es.length = 0 := by
              have := (List.getElem?_eq_some_iff.mp h3).1
              simpa using this
            rw [z] at h1 h2 h3
            cases h1; cases h2; cases h3
            exact ⟨En3, r1, r2, r3⟩
        exact ⟨key.1.keep L3 key.2.1 key.2.2.1 kp4, key.2⟩
      · rw [mbookOf_snoc]; exact L4
    exact k p H5 las' gas' (back3 p (hback p hp)) (D4.mono e5) ((kp3.trans kp4').trans (Keep.of_ex e5)) (fun x hx => (hnew x hx).imp id (back3 x)) (fun x hx => back3 x (hback x (fresh_back e5 hx))) hp5
end
end LW
end
section
set_option Elab.async false
set_option linter.all false
set_option maxRecDepth 100000
set_option maxHeartbeats 4000000

set_option exponentiation.threshold 10000
namespace LW
open PySem PySem.Spec PyProof.Rows L2 Evl LF TbLtBook
section
variable {P : Program} {w : World} {K : PySem.W.Frag} {mg : Str → Option Value} {base : Heap} {A : Ad}
theorem er_bookNew {σ : L2.St} {H : Hp} {E : XK} : EvR (tMake A.c_Book (spBook_init A) [] E tNil) σ H (fun y H2 => ∃ b ll gl, y = .ref b ∧ BookIs A H2 b ll gl [] [] MB.empty ∧ H b = none ∧ H ll = none ∧ H gl = none) := fun H1 e Q q b dx nb ndx ne => by
  have e1 : Ex H1 (upd (upd H1 dx (.own b)) b (.ins A.c_Book dx [])) := Same.made nb ndx fun b o h _ => h
  refine ⟨b, dx, rfl, upd_same, fun H' ll gl hll hgl nlg hb h1 h2 kp => ⟨rfl, ?_⟩⟩
  refine q _ H' (Same.made nb ndx kp) ⟨b, ll, gl, rfl, ⟨⟨dx, hb⟩, h1, h2, nlg, List.nodup_nil, rfl, rfl, fun i a l h => (by cases h), fun i a g h => (by cases h)⟩, fresh_back e nb, fresh_back (e.trans e1) hll, fresh_back (e.trans e1) hgl⟩
theorem s_fldR {D : Ends} {σ : L2.St} {H : Hp} {ta tv : TE} {R : V → Hp → Prop} {a C dx : Addr} {fs : List (Str × V)} {f : Str} (h : EvR tv σ H R) (ha : Ev ta σ H (.ref a)) (ho : H a = some (.ins C dx fs)) (c : Cls K C) (n : NoAttr K C f) (hl : fs.length < 1000) (hR : ∀ y H1 H2, Ex H1 H2 → R y H1 → R y H2)
    (k : ∀ y H1, Ex H H1 → R y H1 → D.nx σ (upd H1 a (.ins C dx (putF f y fs)))) : sFld K ta tv f D σ H :=
  h H (Ex.refl H) _ fun y H1 e1 r => ha H1 e1 _ fun H2 e2 => ⟨a, C, dx, fs, rfl, (e1.trans e2) _ _ ho, c, n, hl, k y H2 (e1.trans e2) (hR y H1 H2 e2 r)⟩
theorem q_fldR {D : Ends} {tz : TS} {σ : L2.St} {H : Hp} {ta tv : TE} {R : V → Hp → Prop} {a C dx : Addr} {fs : List (Str × V)} {f : Str} (h : EvR tv σ H R) (ha : Ev ta σ H (.ref a)) (ho : H a = some (.ins C dx fs)) (c : Cls K C) (n : NoAttr K C f) (hl : fs.length < 1000) (hR : ∀ y H1 H2, Ex H1 H2 → R y H1 → R y H2)
    (k : ∀ y H1, Ex H H1 → R y H1 → tz D σ (upd H1 a (.ins C dx (putF f y fs)))) : tSeq (sFld K ta tv f) tz D σ H := s_fldR (D := { D with nx := tz D }) h ha ho c n hl hR k
def spDesk_init (A : Ad) : Sp := fun vs H Q _ => ∃ (p dx : Addr), vs = [.ref p] ∧ H p = some (.ins A.c_Desk dx []) ∧
  ∀ (H' : Hp) (el bk ll gl : Addr), H el = none → H ll = none → H gl = none → DeskIs A H' p el bk ll gl [] [] [] [] [] → (∀ b o, H b = some o → b ≠ p → H' b = some o) → Q .non H'
theorem ok_Desk_init (T : Txt K mg A) : FnOk P w K mg base CX0 3 A.f_Desk_init A.d_Desk_init ["self"] (spDesk_init A) := by
  refine T.fn_Desk_init.ok sc_Desk_init (fun vs H Q E h => ?_) (fun cdv Ar outer s H vs Q E hr h => ⟨_, (pss_cons (ps_fld (pv 0) (pe_lst pa_nil) rfl)
    (pss_one (ps_fld (pv 0) (pe_make0 T.mk_Book (ok_Book_init T) (hr.mono (by decide)) rfl T.mg_Book T.bi_Book_init .nil pass0) rfl))), ?_⟩)
  · obtain ⟨_, _, rfl, _⟩ := h
    rfl
  · obtain ⟨p, dx, rfl, hp, k⟩ := h
    refine q_fldR (R := fun y H2 => ∃ el, y = .ref el ∧ H el = none ∧ H2 el = some (.lst [])) (er_lst ea_nil (Nat.zero_le _)) (ev_var rfl) hp T.cl_Desk T.no_Desk_entries (by decide) (fun y H1 H2 e ⟨q, h1, h2, h3⟩ => ⟨q, h1, h2, e _ _ h3⟩) fun y H1 e1 ⟨el, ey, hel, hel1⟩ => ?_
    subst ey
    have nel : el ≠ p := fun z => by rw [z, hp] at hel; cases hel
    refine s_fldR (R := fun y H2 => ∃ b ll gl, y = .ref b ∧ BookIs A H2 b ll gl [] [] MB.empty ∧ (upd H1 p (.ins A.c_Desk dx (putF "entries" (.ref el) []))) b = none ∧ (upd H1 p (.ins A.c_Desk dx (putF "entries" (.ref el) []))) ll = none ∧ (upd H1 p (.ins A.c_Desk dx (putF "entries" (.ref el) []))) gl = none) er_bookNew (ev_var rfl) upd_same T.cl_Desk T.no_Desk_book (by show 1 < 1000; decide) (fun y H1 H2 e ⟨b, ll, gl, h1, h2, h3⟩ => ⟨b, ll, gl, h1, h2.mono e, h3⟩) fun y H2 e2 ⟨b, ll, gl, ey, L, hb, hll, hgl⟩ => ?_
    subst ey
    have hel2 : H2 el = some (.lst []) := e2 _ _ (by rw [upd_ne nel]; exact hel1)
    have nb : ∀ x, (upd H1 p (.ins A.c_Desk dx (putF "entries" (.ref el) []))) x = none → x ≠ p ∧ x ≠ el ∧ H x = none := fun x hx => by
      have h1 : x ≠ p := fun z => by rw [z, upd_same] at hx; cases hx
      rw [upd_ne h1] at hx
      have h2 : x ≠ el := fun z => by rw [z, hel1] at hx; cases hx
      exact ⟨h1, h2, fresh_back e1 hx⟩
    obtain ⟨l1, l2, l3⟩ := nb ll hll
    obtain ⟨g1, g2, g3⟩ := nb gl hgl
    obtain ⟨b1, b2, b3⟩ := nb b hb
    obtain ⟨bdx, hbo⟩ := L.obj
    refine k _ el b ll gl hel l3 g3 ⟨⟨dx, Eq.trans upd_same (congrArg (fun q => some (HO.ins A.c_Desk dx q)) new_Desk)⟩, by rw [upd_ne nel]; exact hel2, rfl, rfl, fun i a r e h => (by cases h), ?_, Ne.symm l2, Ne.symm g2⟩ fun x o hx hnx => ?_
    · exact ⟨⟨bdx, by rw [upd_ne b1]; exact hbo⟩, by rw [upd_ne l1]; exact L.hl, by rw [upd_ne g1]; exact L.hg, L.ne, List.nodup_nil, rfl, rfl, fun i a l h => (by cases h), fun i a g h => (by cases h)⟩
    · rw [upd_ne hnx]
      refine e2 _ _ ?_
      rw [upd_ne hnx]
      exact e1 _ _ hx
def spDesk_book_of (A : Ad) : Sp := fun vs H Q _ => ∃ (x : V) (r : Addr) (eas ers : List Addr) (es : Es), vs = [x, .ref r] ∧ H r = some (.lst (eas.map V.ref)) ∧ eas.length = es.length ∧ ers.length = es.length ∧
  (∀ (i : Nat) (a r : Addr) (e : Ent), eas[i]? = some a → ers[i]? = some r → es[i]? = some e → EntryIs A H a r e) ∧ Good es ∧
  ∀ H' b ll gl las gas, Ex H H' → BookIs A H' b ll gl las gas (mbookOf es) → H b = none → H ll = none → H gl = none → (∀ x ∈ las, H x = none) → Q (.ref b) H'
theorem ok_Desk_book_of (T : Txt K mg A) : FnOk P w K mg base CX0 4 A.f_Desk_book_of A.d_Desk_book_of ["self", "entries"] (spDesk_book_of A) := by
  refine T.fn_Desk_book_of.ok sc_Desk_book_of (fun vs H Q E h => ?_) (fun cdv Ar outer s H vs Q E hr h => ⟨_, (pss_cons (ps_set (i := 2) sc_Desk_book_of.nd rfl (Or.inl rfl) (pe_make0 T.mk_Book (ok_Book_init T) (hr.mono (by decide)) rfl T.mg_Book T.bi_Book_init .nil pass0))
    (pss_cons (ps_for PassesOwn.never rfl (pi_list (pv 1)) (pg_name (i := 3) sc_Desk_book_of.nd rfl (Or.inl rfl)) (pss_one (ps_expr (pe_meth (pv 2) T.cl_Book T.me_Book_make (ok_Book_make T) (hr.mono (by decide)) T.bi_Book_make .nil pass0 (pa_cons (pv 3) pa_nil)))))
    (pss_one (ps_ret (pv 2))))), ?_⟩)
  · obtain ⟨_, _, _, _, _, rfl, _⟩ := h
    rfl
  · obtain ⟨x, r, eas, ers, es, rfl, hr', hl1, hl2, hE, hG, k⟩ := h
    refine q_asgR er_bookNew fun y H1 e1 ⟨b, ll, gl, ey, L, hb, hll, hgl⟩ => ?_
    subst ey
    refine q_forLn (ev_var rfl) (sq_of (e1 _ _ hr')) (fun i σ' H' => ∃ (v3 : Option V) (las gas : List Addr), σ' = [some x, some (.ref r), some (.ref b), v3] ∧ Ex H H' ∧ BookIs A H' b ll gl las gas (mbookOf (es.take i)) ∧ ∀ x ∈ las, H x = none)
      (fun H2 e2 => ⟨_, [], [], rfl, e1.trans e2, L.mono e2, fun x h => by cases h⟩) (fun i σ' H' _ ⟨_, _, _, _, e', _⟩ => sq_of (e' _ _ hr')) (fun i y σ' H' hy ⟨v3, las, gas, es', e', L', hnew⟩ => ?_) (fun σ' H' ⟨v3, las, gas, es', e', L', hnew⟩ => ?_)
    · subst es'
      rw [List.getElem?_map] at hy
      obtain ⟨a, ha, ey⟩ := Option.map_eq_some_iff.mp hy
      subst ey
      have hi : i < es.length := by rw [← hl1]; exact (List.getElem?_eq_some_iff.mp ha).1
      obtain ⟨e, he⟩ : ∃ e, es[i]? = some e := ⟨_, List.getElem?_eq_getElem hi⟩
      obtain ⟨er, her⟩ : ∃ r, ers[i]? = some r := ⟨_, List.getElem?_eq_getElem (by omega)⟩
      have En := hE i a er e ha her he
      obtain ⟨g1, g2⟩ := hG.at he
      obtain ⟨n1, n2, n3⟩ := names_of g1.is (accept_of g2)
      obtain ⟨as, q1, _⟩ := En.rows
      refine s_make L' (En.mono e') (fun z => by rw [z, hll] at q1; cases q1) (fun z => by rw [z, hgl] at q1; cases q1) n1 n2 n3 (ev_var rfl) (ev_var rfl) fun H2 las' gas' L2' kp hx hsub => ⟨_, las', gas', rfl, fun x o ho => kp x o (e' x o ho) ?_, ?_, fun x hx' => ?_⟩
      · rintro (z | z | z)
        · rw [z, hll] at ho; cases ho
        · rw [z, hgl] at ho; cases ho
        · rw [hnew x z] at ho; cases ho
      · rw [take_more he, mbookOf_snoc]; exact L2'
      · rcases hx x hx' with z | z
        · exact hnew x z
        · exact fresh_back e' z
    · subst es'
      rw [List.length_map, hl1, List.take_length] at L'
      exact s_ret (ev_var rfl) fun H2 e2 => k H2 b ll gl las gas (e'.trans e2) (L'.mono e2) hb hll hgl hnew
/-- lists or tuples of ints -/
def IntsAt (H : Hp) (r : Addr) (nss : List (List Int)) : Prop := ∃ as : List Addr, H r = some (.lst (as.map V.ref)) ∧ as.length = nss.length ∧ ∀ (i : Nat) (a : Addr) (ns : List Int), as[i]? = some a → nss[i]? = some ns → H a = some (.lst (ns.map V.int)) ∨ H a = some (.tup (ns.map V.int))
theorem IntsAt.mono {H H' : Hp} {r : Addr} {nss : List (List Int)} (h : IntsAt H r nss) (e : Ex H H') : IntsAt H' r nss := let ⟨as, h1, h2, h3⟩ := h; ⟨as, e _ _ h1, h2, fun i a ns q1 q2 => (h3 i a ns q1 q2).imp (e _ _) (e _ _)⟩
def spFlat : Sp := fun vs H Q _ => ∃ (r : Addr) (nss : List (List Int)), vs = [.ref r] ∧ IntsAt H r nss ∧ nss.flatten.length ≤ 90000 ∧ ∀ p H', H p = none → Ex H H' → H' p = some (.lst (nss.flatten.map V.int)) → Q (.ref p) H'
theorem flat_take_le {nss : List (List Int)} (i : Nat) : (nss.take i).flatten.length ≤ nss.flatten.length := by
  conv => rhs; rw [← List.take_append_drop i nss]
  rw [List.flatten_append, List.length_append]
  omega
theorem ok_flat (T : Txt K mg A) : FnOk P w K mg base CX0 1 A.f_flat A.d_flat ["rows"] (spFlat) := by
  refine T.fn_flat.ok sc_flat (fun vs H Q E h => ?_) (fun cdv Ar outer s H vs Q E hr h => ⟨_, (pss_cons (ps_set (i := 1) sc_flat.nd rfl (Or.inl rfl) (pe_lst pa_nil))
    (pss_cons (ps_for PassesOwn.never rfl (pi_list (pv 0)) (pg_name (i := 2) sc_flat.nd rfl (Or.inl rfl)) (pss_one (ps_expr (pe_bm PySem.F.plainAttrs_list PySem.F.slot_list_extend PySem.F.type_list_extend mt_extendA (pv 1) (pa_cons (pv 2) pa_nil)))))
    (pss_one (ps_ret (pv 1))))), ?_⟩)
  · obtain ⟨_, _, rfl, _⟩ := h
    rfl
  · obtain ⟨r, nss, rfl, hI, hz, k⟩ := h
    obtain ⟨as, h1, h2, h3⟩ := hI
    refine q_asgR (er_lst ea_nil (Nat.zero_le _)) fun y H1 e1 ⟨p, ey, hp, hp1⟩ => ?_
    subst ey
    refine q_forLn (ev_var rfl) (sq_of (e1 _ _ h1)) (fun i σ' H' => ∃ (v2 : Option V), σ' = [some (.ref r), some (.ref p), v2] ∧ Ex H H' ∧ H' p = some (.lst ((nss.take i).flatten.map V.int)))
      (fun H2 e2 => ⟨_, rfl, e1.trans e2, e2 _ _ hp1⟩) (fun i σ' H' _ ⟨_, _, e', _⟩ => sq_of (e' _ _ h1)) (fun i y σ' H' hy ⟨v2, es', e', hp'⟩ => ?_) (fun σ' H' ⟨v2, es', e', hp'⟩ => ?_)
    · subst es'
      rw [List.getElem?_map] at hy
      obtain ⟨a, ha, ey⟩ := Option.map_eq_some_iff.mp hy
      subst ey
      have hi : i < nss.length := by rw [← h2]; exact (List.getElem?_eq_some_iff.mp ha).1
      obtain ⟨ns, hns⟩ : ∃ ns, nss[i]? = some ns := ⟨_, List.getElem?_eq_getElem hi⟩
      have hle := flat_take_le (nss := nss) (i + 1)
      rw [take_more hns, List.flatten_append, List.length_append] at hle
      simp only [List.flatten_cons, List.flatten_nil, List.append_nil] at hle
      refine s_extR (R := fun _ zs _ => zs = ns.map V.int) hp' (ev_var rfl) (er_imp (er_ev (ev_var rfl)) fun y H2 e2 ey => ⟨a, ns.map V.int, ey, ?_, by rw [List.length_map, List.length_map]; omega, rfl⟩) fun q zs H2 e2 hzs => ⟨_, rfl, (e'.trans e2).mut hp, ?_⟩
      · rcases h3 i a ns ha hns with h | h
        · exact .inl (e2 _ _ (e' _ _ h))
        · exact .inr (st_of (e2 _ _ (e' _ _ h)))
      · rw [upd_same, hzs, take_more hns, List.flatten_append, List.map_append]
        simp
    · subst es'
      rw [List.length_map, h2, List.take_length] at hp'
      exact s_ret (ev_var rfl) fun H2 e2 => k p H2 hp (e'.trans e2) (e2 _ _ hp')
end
end LW
end
section
set_option Elab.async false
set_option linter.all false
set_option maxRecDepth 100000
set_option maxHeartbeats 4000000

set_option exponentiation.threshold 10000
namespace LW
open PySem PySem.Spec PyProof.Rows L2 Evl LF TbLtBook
/-- a desk, all of what it may change within M -/
def DeskAt (A : Ad) (H : Hp) (d : Addr) (M : Addr → Prop) (es : Es) : Prop := ∃ (el bk ll gl : Addr) (eas ers las gas : List Addr), DeskIs A H d el bk ll gl eas ers las gas es ∧ ∀ x, OfDesk d el ll gl las x → M x
/-- what a deed does: it answers, or it refuses with the numbers -/
def DeedTo (A : Ad) (H : Hp) (d : Addr) (M : Addr → Prop) (es : Es) (out : Es × List Int) (Q : VK) (E : XK) : Prop :=
  (∀ (p : Addr) (H' : Hp) (M' : Addr → Prop), H p = none → DeskAt A H' d M' out.1 → Keep M H H' → (∀ x, M' x → M x ∨ H x = none) → H' p = some (.lst (out.2.map V.int)) → Q (.ref p) H') ∧ (out.1 = es → Refd A out.2 E H)
def RowsV (H : Hp) (pr : Addr) (rows : List (List Nat)) : Prop := ∃ as : List Addr, H pr = some (.lst (as.map V.ref)) ∧ as.length = rows.length ∧ ∀ (i : Nat) (a : Addr) (l : List Nat), as[i]? = some a → rows[i]? = some l → H a = some (.lst (vis l))
def Shp (n c : Nat) (args : List Nat) (rows : List (List Nat)) : Prop := args.length = n ∧ rows.length = c ∧ ∀ r ∈ rows, r.length ≤ 200
def spDeed (A : Ad) (k : Deed) (n c : Nat) : Sp := fun vs H Q E => ∃ (d pa pr : Addr) (M : Addr → Prop) (es : Es) (args : List Nat) (rows : List (List Nat)), vs = [.ref d, .ref pa, .ref pr] ∧ DeskAt A H d M es ∧ Good es ∧ H pa = some (.lst (vis args)) ∧ RowsV H pr rows ∧ Shp n c args rows ∧ DeedTo A H d M es (k es args rows) Q E
section
variable {A : Ad} {H H' : Hp} {d : Addr} {M : Addr → Prop} {es : Es} {o : Option (List Int)} {k : Es × List Int} {Q : VK} {E : XK} {ns : List Int}
theorem DeedTo.no (h : DeedTo A H d M es (outOf o es k) Q E) (ho : o = some ns) : Refd A ns E H := by rw [out_some ho] at h; exact h.2 rfl
theorem DeedTo.yes (h : DeedTo A H d M es (outOf o es k) Q E) (ho : o = none) : DeedTo A H d M es k Q E := by rw [out_none ho] at h; exact h
theorem DeedTo.read (h : DeedTo A H d M es (es, ns) Q E) (D : DeskAt A H d M es) {p : Addr} (hp : H p = none) (e : Ex H H') (h1 : H' p = some (.lst (ns.map V.int))) : Q (.ref p) H' :=
  h.1 p H' M hp (let ⟨el, bk, ll, gl, eas, ers, las, gas, q1, q2⟩ := D; ⟨el, bk, ll, gl, eas, ers, las, gas, q1.mono e, q2⟩) (Keep.of_ex e) (fun x hx => .inl hx) h1
end
section
variable {P : Program} {w : World} {K : PySem.W.Frag} {mg : Str → Option Value} {base : Heap} {A : Ad}
theorem args3 {l : List Nat} (h : l.length = 3) : ∃ a b c, l = [a, b, c] := by
  match l, h with
  | [a, b, c], _ => exact ⟨a, b, c, rfl⟩
theorem args2 {l : List Nat} (h : l.length = 2) : ∃ a b, l = [a, b] := by
  match l, h with
  | [a, b], _ => exact ⟨a, b, rfl⟩
theorem args1 {l : List Nat} (h : l.length = 1) : ∃ a, l = [a] := by
  match l, h with
  | [a], _ => exact ⟨a, rfl⟩
theorem rows1 {l : List (List Nat)} (h : l.length = 1) : ∃ a, l = [a] := by
  match l, h with
  | [a], _ => exact ⟨a, rfl⟩
theorem rows2 {l : List (List Nat)} (h : l.length = 2) : ∃ a b, l = [a, b] := by
  match l, h with
  | [a, b], _ => exact ⟨a, b, rfl⟩
/-- rows[i] -/
theorem ev_row {σ : L2.St} {H : Hp} {ta tb : TE} {pr : Addr} {rows : List (List Nat)} {i : Nat} {l : List Nat} (hr : RowsV H pr rows) (h : Ev ta σ H (.ref pr)) (hi : Ev tb σ H (vi i)) (hl : rows[i]? = some l) : ∃ a, H a = some (.lst (vis l)) ∧ Ev (tOp (rIxL K) ta tb) σ H (.ref a) := by
  obtain ⟨as, h1, h2, h3⟩ := hr
  have hlt : i < rows.length := (List.getElem?_eq_some_iff.mp hl).1
  obtain ⟨a, ha⟩ : ∃ a, as[i]? = some a := ⟨_, List.getElem?_eq_getElem (by omega)⟩
  exact ⟨a, h3 i a l ha hl, ev_ixL h (sq_of h1) hi (atI_nat (by rw [List.getElem?_map, ha]; rfl))⟩
/-- put(desk, Entry(..)) -/
theorem put_core {σ : L2.St} {H0 H : Hp} {td : TE} {ta : TA} {d el bk ll gl : Addr} {eas ers las gas : List Addr} {es : Es} {e : Ent} {E : XK} {Q : VK} (D : DeskIs A H0 d el bk ll gl eas ers las gas es) (ex : Ex H0 H) (hd : Ev td σ H (.ref d))
    (ha : EvAR ta σ H (fun vs H2 => ∃ r, vs = [wordV e, vi e.day, vi (LF.Entry.weight e), vi (LF.Entry.cls e), .ref r] ∧ H0 r = none ∧ RowsAt H2 r (LF.Entry.rows e))) (hn : (mbookOf es).names e) (hz : es.length ≤ 900) (z1 : (mbookOf es).lots.length + (LF.Entry.rows e).length ≤ 900) (z2 : (mbookOf es).legs.length + (LF.Entry.rows e).length ≤ 900)
    (go : ∀ p H' a r las' gas', H0 p = none → DeskIs A H' d el bk ll gl (eas ++ [a]) (ers ++ [r]) las' gas' (es ++ [e]) → Keep (OfDesk d el ll gl las) H0 H' → (∀ x ∈ las', x ∈ las ∨ H0 x = none) → (∀ x, H' x = none → H0 x = none) → H' p = some (.lst [vi (mbookOf es).lots.length]) → Q (.ref p) H') :
    tCall (spPut A) [] E (tCons td (tCons (tMake A.c_Entry (spEntry_init A) [] E0 ta) tNil)) σ H Q :=
  hd H (Ex.refl H) _ fun H1 e1 => ha H1 e1 _ fun vs H2 e2 ⟨r, ev, hr, hR⟩ x dx nx ndx ne => by
    subst ev
    refine ⟨x, dx, _, _, _, _, _, rfl, upd_same, fun H3 hx kp => ⟨rfl, ?_⟩⟩
    have s : Ex H2 H3 := Same.made nx ndx kp
    have e03 : Ex H0 H3 := ((ex.trans e1).trans e2).trans s
    show spPut A _ H3 Q E
    have hll := D.book.hl
    have hgl := D.book.hg
    have hel := D.ent
    exact ⟨d, el, bk, ll, gl, x, r, eas, ers, las, gas, es, e, rfl, D.mono e03, ⟨⟨dx, hx⟩, hR.mono s⟩, fun z => (by rw [z, hll] at hr; cases hr), fun z => (by rw [z, hgl] at hr; cases hr), fun z => (by rw [z, hel] at hr; cases hr), hn, hz, z1, z2,
      fun p H' las' gas' hp D' kp' hnew hbk hp' => go p H' x r las' gas' (fresh_back e03 hp) D' ((Keep.of_ex e03).trans kp') (fun y hy => (hnew y hy).imp id (fresh_back e03)) (fun y hy => fresh_back e03 (hbk y hy)) hp'⟩
/-- .. as a deed's end -/
theorem s_putRet {Dn : Ends} {σ : L2.St} {H0 H : Hp} {td : TE} {ta : TA} {d el bk ll gl : Addr} {eas ers las gas : List Addr} {es : Es} {e : Ent} {E E2 : XK} {Q : VK} {M : Addr → Prop} (hrt : Dn.rt = Q) (D : DeskIs A H0 d el bk ll gl eas ers las gas es) (hM : ∀ x, OfDesk d el ll gl las x → M x) (ex : Ex H0 H) (hd : Ev td σ H (.ref d))
    (ha : EvAR ta σ H (fun vs H2 => ∃ r, vs = [wordV e, vi e.day, vi (LF.Entry.weight e), vi (LF.Entry.cls e), .ref r] ∧ H0 r = none ∧ RowsAt H2 r (LF.Entry.rows e))) (hn : (mbookOf es).names e) (hz : es.length ≤ 900) (z1 : (mbookOf es).lots.length + (LF.Entry.rows e).length ≤ 900) (z2 : (mbookOf es).legs.length + (LF.Entry.rows e).length ≤ 900)
    (hto : DeedTo A H0 d M es (es ++ [e], [vz (mbookOf es).lots.length]) Q E2) : tRet (tCall (spPut A) [] E (tCons td (tCons (tMake A.c_Entry (spEntry_init A) [] E0 ta) tNil))) Dn σ H := by
  show tCall _ _ _ _ σ H Dn.rt
  rw [hrt]
  refine put_core D ex hd ha hn hz z1 z2 fun p H' a r las' gas' hp D' kp hnew hbk hp' => ?_
  refine hto.1 p H' (fun x => OfDesk d el ll gl las' x) hp ⟨el, bk, ll, gl, _, _, las', gas', D', fun x h => h⟩ (kp.mono fun x o _ h => hM x h) (fun x hx => ?_) hp'
  rcases hx with z | z | z | z | z
  · exact .inl (hM x (.inl z))
  · exact .inl (hM x (.inr (.inl z)))
  · exact .inl (hM x (.inr (.inr (.inl z))))
  · exact .inl (hM x (.inr (.inr (.inr (.inl z)))))
  · exact (hnew x z).imp (fun q => hM x (.inr (.inr (.inr (.inr q))))) id
theorem rowsAt_nil {H : Hp} {r : Addr} (h : H r = some (.lst [])) : RowsAt H r [] := ⟨[], h, rfl, fun i a p z => (by cases z)⟩
theorem ok_found (T : Txt K mg A) : FnOk P w K mg base (L2.CX P w) 6 A.f_found A.d_found ["desk", "args", "rows"] (spDeed A foundM 3 0) := by
  refine T.fn_found.okX sc_found (fun vs H Q E h => ?_) (fun cdv Ar outer s H vs Q E hr h => ⟨_, (pss_cons (ps_asg (pv 1) (pg_lst rfl (pgs_cons (pg_name (i := 3) sc_found.nd rfl (Or.inl rfl)) (pgs_cons (pg_name (i := 4) sc_found.nd rfl (Or.inl rfl)) (pgs_cons (pg_name (i := 5) sc_found.nd rfl (Or.inl rfl)) pgs_nil)))))
    (pss_cons (ps_expr (pe_call (ok_refuse T) (hr.mono (by decide)) rfl T.mgf_refuse T.fn_refuse.kp T.bi_refuse .nil passR (pa_cons (pe_or (pe_not (pe_call (ok_is_weight T) (hr.mono (by decide)) rfl T.mgf_is_weight T.fn_is_weight.kp T.bi_is_weight .nil pass0 (pa_cons (pv 3) pa_nil))) (pe_or (pe_cmpR op_gt (pv 4) pe_int (nomark _)) (pe_one (pe_cmpR op_gt (pv 5) (pe_glob (v := .int (36524)) rfl T.g_LAST_DAY.choose_spec ⟨_, rfl⟩) (nomark _))))) (pa_cons (pe_un un_neg pe_int) pa_nil))))
    (pss_cons (ps_expr (pe_call (ok_check_entry T) (hr.mono (by decide)) rfl T.mgf_check_entry T.fn_check_entry.kp T.bi_check_entry .nil passR (pa_cons (pv 0) (pa_cons (pv 5) (pa_cons pe_int (pa_cons pe_int pa_nil))))))
    (pss_one (ps_ret (pe_call (ok_put T) (hr.mono (by decide)) rfl T.mgf_put T.fn_put.kp T.bi_put .nil pass0 (pa_cons (pv 0) (pa_cons (pe_make T.mk_Entry (ok_Entry_init T) (hr.mono (by decide)) rfl T.mg_Entry T.bi_Entry_init .nil pass0 (pa_cons pe_str (pa_cons (pv 5) (pa_cons (pv 3) (pa_cons (pv 4) (pa_cons (pe_lst pa_nil) pa_nil)))))) pa_nil)))))))), ?_⟩)
  · obtain ⟨_, _, _, _, _, _, _, rfl, _⟩ := h
    rfl
  · obtain ⟨d, pa, pr, M, es, args, rows, rfl, ⟨el, bk, ll, gl, eas, ers, las, gas, D, hM⟩, hG, ha, hr', ⟨hs1, hs2, hs3⟩, hto⟩ := h
    obtain ⟨wt, c, day, rfl⟩ := args3 hs1
    have hI := hG.is
    have hlots := hI.lots
    have hlegs := hI.legs
    have hlen := hI.len
    refine q_asgL3 (ev_var rfl) ha fun H1 e1 => ?_
    refine q_refuse (c := !isW10 wt || (decide (9 < c) || decide (36524 < day))) (code := -1) (ev_orV (ev_notV (ev_isw (ev_var rfl))) fun _ => ev_orV (ev_gtN (ev_var rfl) (ev_c (v := vi 9))) fun _ => ev_gtN (ev_var rfl) (ev_c (v := vi 36524))) (ev_un ev_c ru_neg) (fun ns h => (hto.no (next_some h)).mono e1) fun hg H2 e2 => ?_
    have e02 := e1.trans e2
    refine q_chk (sp := spCheck_entry A) (o := chkEntry es day 1 0) (ea_cons (ev_var rfl) (ea_cons (ev_var rfl) (ea_cons (ev_c (v := vi 1)) (ea_cons (ev_c (v := vi 0)) ea_nil)))) (fun H3 e Q E h => ⟨d, el, bk, ll, gl, eas, ers, las, gas, es, day, 1, 0, rfl, (D.mono e02).mono e, h⟩) (fun ns h => (hto.no ((next_none hg).trans h)).mono e02) fun hck H3 e3 => ?_
    have e03 := e02.trans e3
    refine s_putRet (e := .found wt c day) rfl D hM e03 (ev_var rfl) (fun H4 e4 Q q => ear_cons (x := wordV (.found wt c day)) ev_c (ear_cons (ev_var rfl) (ear_cons (ev_var rfl) (ear_cons (ev_var rfl) (ear_new (er_lst ea_nil (Nat.zero_le _)))))) H4 e4 Q fun vs H5 e5 hR => ?_) ⟨fun p hp => (by cases hp), trivial⟩ (by omega) (by show _ + 0 ≤ _; omega) (by show _ + 0 ≤ _; omega) (hto.yes ((next_none hg).trans hck))
    obtain ⟨r1, rfl, r2, rfl, r3, rfl, r4, rfl, y, rfl, m, rfl, hm, hm2⟩ := hR
    exact q _ H5 e5 ⟨m, rfl, fresh_back e03 hm, rowsAt_nil hm2⟩
end
end LW
end
section
set_option Elab.async false
set_option linter.all false
set_option maxRecDepth 100000
set_option maxHeartbeats 4000000

set_option exponentiation.threshold 10000
namespace LW
open PySem PySem.Spec PyProof.Rows L2 Evl LF TbLtBook
section
variable {P : Program} {w : World} {K : PySem.W.Frag} {mg : Str → Option Value} {base : Heap} {A : Ad}
theorem rowsV1 {H : Hp} {pr : Addr} {l : List Nat} (h : RowsV H pr [l]) : ∃ a, H pr = some (.lst [.ref a]) ∧ H a = some (.lst (vis l)) := by
  obtain ⟨as, h1, h2, h3⟩ := h
  match as, h2 with
  | [a], _ => exact ⟨a, h1, h3 0 a l rfl rfl⟩
theorem rowsV2 {H : Hp} {pr : Addr} {l m : List Nat} (h : RowsV H pr [l, m]) : ∃ a b, H pr = some (.lst [.ref a, .ref b]) ∧ H a = some (.lst (vis l)) ∧ H b = some (.lst (vis m)) := by
  obtain ⟨as, h1, h2, h3⟩ := h
  match as, h2 with
  | [a, b], _ => exact ⟨a, b, h1, h3 0 a l rfl rfl, h3 1 b m rfl rfl⟩
theorem ev_arep {σ : L2.St} {H : Hp} {t1 t2 : TE} {r : Addr} {l : List Nat} {n : Nat} {E : XK} (h1 : Ev t1 σ H (.ref r)) (h2 : Ev t2 σ H (vi n)) (hr : H r = some (.lst (vis l))) (hl : l.length ≤ 1000) (hn : n ≤ 1000) : Ev (tCall spAre_pairs [] E (tCons t1 (tCons t2 tNil))) σ H (.bl (arePairs l n)) :=
  ev_call (dvs := []) (ea_cons h1 (ea_cons h2 ea_nil)) fun H1 e Q q E => ⟨r, l, n, rfl, e _ _ hr, hl, hn, fun H' e' => q H' e'⟩
theorem er_pairs {σ : L2.St} {H : Hp} {t1 : TE} {r : Addr} {l : List Nat} {E : XK} (h1 : Ev t1 σ H (.ref r)) (hr : H r = some (.lst (vis l))) (hl : l.length ≤ 1000) : EvR (tCall spPairs [] E (tCons t1 tNil)) σ H (fun y H2 => ∃ p, y = .ref p ∧ H p = none ∧ RowsAt H2 p (LF.pairsOf l)) :=
  er_call (ea_cons h1 ea_nil) fun H1 e Q q E => ⟨r, l, rfl, e _ _ hr, hl, fun p H' hp e' h' => q _ H' e' ⟨p, rfl, fresh_back e hp, h'⟩⟩
theorem chkRows_none {B : MB} : ∀ (ps : List (Nat × Nat)) (i : Nat) (seen : List Nat), chkRows B i seen ps = none → ∀ p ∈ ps, p.1 < B.lots.length
  | [], _, _, _, p, h => by cases h
  | q :: r, i, seen, h, p, hp => by
    unfold chkRows at h
    split at h
    · cases h
    · rename_i h1
      split at h
      · cases h
      · split at h
        · cases h
        · rcases List.mem_cons.mp hp with e | hp
          · rw [e]; omega
          · exact chkRows_none r _ _ h p hp
theorem gd_none {c : Bool} {code : Int} (h : gd c code = none) : c = false := by
  unfold gd at h
  cases c with
  | true => cases h
  | false => rfl
theorem pairsOf_len (l : List Nat) : (LF.pairsOf l).length = l.length / 2 := by unfold LF.pairsOf; rw [List.length_map, List.length_range]
theorem arePairs_len {l : List Nat} {n : Nat} (h : arePairs l n = true) : 2 * n ≤ l.length := by
  unfold arePairs at h
  simp only [Bool.and_eq_true] at h
  exact of_decide_eq_true h.2.1
theorem ear_word {e : Ent} {σ : L2.St} {H0 H : Hp} {t2 t3 t4 t5 : TE} {x : V} (ex : Ex H0 H) (hw : x = wordV e) (h2 : Ev t2 σ H (vi e.day)) (h3 : Ev t3 σ H (vi (LF.Entry.weight e))) (h4 : Ev t4 σ H (vi (LF.Entry.cls e))) (h5 : EvR t5 σ H (fun y H2 => ∃ r, y = .ref r ∧ H0 r = none ∧ RowsAt H2 r (LF.Entry.rows e))) :
    EvAR (tCons (tC x) (tCons t2 (tCons t3 (tCons t4 (tCons t5 tNil))))) σ H (fun vs H2 => ∃ r, vs = [wordV e, vi e.day, vi (LF.Entry.weight e), vi (LF.Entry.cls e), .ref r] ∧ H0 r = none ∧ RowsAt H2 r (LF.Entry.rows e)) := fun H4 e4 Q q =>
  (ear_cons (x := wordV e) (by rw [hw]; exact ev_c) (ear_cons h2 (ear_cons h3 (ear_cons h4 (ear_new h5))))) H4 e4 Q fun vs H5 e5 hR => by
    obtain ⟨r1, rfl, r2, rfl, r3, rfl, r4, rfl, y, rfl, m, rfl, hm, hm2⟩ := hR
    exact q _ H5 e5 ⟨m, rfl, hm, hm2⟩
theorem ok_lift (T : Txt K mg A) : FnOk P w K mg base (L2.CX P w) 6 A.f_lift A.d_lift ["desk", "args", "rows"] (spDeed A liftM 3 1) := by
  refine T.fn_lift.okX sc_lift (fun vs H Q E h => ?_) (fun cdv Ar outer s H vs Q E hr h => ⟨_, (pss_cons (ps_asg (pv 1) (pg_lst rfl (pgs_cons (pg_name (i := 3) sc_lift.nd rfl (Or.inl rfl)) (pgs_cons (pg_name (i := 4) sc_lift.nd rfl (Or.inr rfl)) (pgs_cons (pg_name (i := 5) sc_lift.nd rfl (Or.inl rfl)) pgs_nil)))))
    (pss_cons (ps_expr (pe_call (ok_refuse T) (hr.mono (by decide)) rfl T.mgf_refuse T.fn_refuse.kp T.bi_refuse .nil passR (pa_cons (pe_or (pe_not (pe_call (ok_is_weight T) (hr.mono (by decide)) rfl T.mgf_is_weight T.fn_is_weight.kp T.bi_is_weight .nil pass0 (pa_cons (pv 3) pa_nil))) (pe_or (pe_cmpR op_gt (pv 4) pe_int (nomark _)) (pe_or (pe_cmpR op_gt (pv 5) (pe_glob (v := .int (36524)) rfl T.g_LAST_DAY.choose_spec ⟨_, rfl⟩) (nomark _)) (pe_one (pe_not (pe_call (ok_are_pairs T) (hr.mono (by decide)) rfl T.mgf_are_pairs T.fn_are_pairs.kp T.bi_are_pairs .nil pass0 (pa_cons (pe_ix ix_list (pv 2) pe_int (fun _ _ => rfl)) (pa_cons pe_int pa_nil)))))))) (pa_cons (pe_un un_neg pe_int) pa_nil))))
    (pss_cons (ps_set (i := 6) sc_lift.nd rfl (Or.inl rfl) (pe_call (ok_pairs T) (hr.mono (by decide)) rfl T.mgf_pairs T.fn_pairs.kp T.bi_pairs .nil pass0 (pa_cons (pe_ix ix_list (pv 2) pe_int (fun _ _ => rfl)) pa_nil)))
    (pss_cons (ps_expr (pe_call (ok_check_entry T) (hr.mono (by decide)) rfl T.mgf_check_entry T.fn_check_entry.kp T.bi_check_entry .nil passR (pa_cons (pv 0) (pa_cons (pv 5) (pa_cons pe_int (pa_cons pe_int pa_nil))))))
    (pss_cons (ps_expr (pe_call (ok_check_rows T) (hr.mono (by decide)) rfl T.mgf_check_rows T.fn_check_rows.kp T.bi_check_rows .nil passR (pa_cons (pv 0) (pa_cons (pv 6) pa_nil))))
    (pss_cons (ps_expr (pe_call (ok_refuse T) (hr.mono (by decide)) rfl T.mgf_refuse T.fn_refuse.kp T.bi_refuse .nil passR (pa_cons (pe_callB (cr_any rfl) (by rfl) T.b_any (by decide +kernel) (pa_cons (pe_lc (g := (gTup K 2 (gCons (gName 7) (gCons (gName 8) gNil)))) (tt := tYes) (te := (tOp (rI0 fun i j => .bl (decide (j < i))) (tFld K (tOp (rIxL K) (tFld K (tFld K (tVar 0) "book") "lots") (tVar 7)) "grade") (tVar 4))) (own := [("lot", 7), ("planted", 8)]) rfl sc_lift.nd (pi_list (pv 6)) (blkOk_by (own := [("lot", 7), ("planted", 8)]) (N := N_lift) (sc := defScope s_lift) (by decide +kernel)) (fun _ _ _ _ _ => by exact (pg_tup rfl (pgs_cons (pg_name (i := 7) sc_lift.nd rfl (Or.inl rfl)) (pgs_cons (pg_name (i := 8) sc_lift.nd rfl (Or.inl rfl)) pgs_nil)))) (fun _ _ _ _ _ => by exact pts_nil) (fun _ _ _ _ _ => by exact (pe_cmpR op_gt (pe_fld (pe_ix ix_list (pe_fld (pe_fld (pv 0) rfl) rfl) (pv 7) (fun _ _ => rfl)) rfl) (pv 4) (nomark _)))) pa_nil)) (pa_cons (pe_un un_neg pe_int) pa_nil))))
    (pss_one (ps_ret (pe_call (ok_put T) (hr.mono (by decide)) rfl T.mgf_put T.fn_put.kp T.bi_put .nil pass0 (pa_cons (pv 0) (pa_cons (pe_make T.mk_Entry (ok_Entry_init T) (hr.mono (by decide)) rfl T.mg_Entry T.bi_Entry_init .nil pass0 (pa_cons pe_str (pa_cons (pv 5) (pa_cons (pv 3) (pa_cons (pv 4) (pa_cons (pv 6) pa_nil)))))) pa_nil))))))))))), ?_⟩)
  · obtain ⟨_, _, _, _, _, _, _, rfl, _⟩ := h
    rfl
  · obtain ⟨d, pa, pr, M, es, args, rows, rfl, ⟨el, bk, ll, gl, eas, ers, las, gas, D, hM⟩, hG, ha, hr', ⟨hs1, hs2, hs3⟩, hto⟩ := h
    obtain ⟨wt, c, day, rfl⟩ := args3 hs1
    obtain ⟨row, rfl⟩ := rows1 hs2
    obtain ⟨ra, hpr, hra⟩ := rowsV1 hr'
    have hI := hG.is
    have hlots := hI.lots
    have hlegs := hI.legs
    have hlen := hI.len
    have hrl := hs3 row List.mem_cons_self
    have hpl := pairsOf_len row
    refine q_asgL3 (ev_var rfl) ha fun H1 e1 => ?_
    refine q_refuse (c := !isW10 wt || (decide (9 < c) || (decide (36524 < day) || !arePairs row 1))) (code := -1) (ev_orV (ev_notV (ev_isw (ev_var rfl))) fun _ => ev_orV (ev_gtN (ev_var rfl) (ev_c (v := vi 9))) fun _ => ev_orV (ev_gtN (ev_var rfl) (ev_c (v := vi 36524))) fun _ =>
      ev_notV (ev_arep (ev_ixL (ev_var rfl) (sq_of (e1 _ _ hpr)) (ev_c (v := .int 0)) rfl) (ev_c (v := vi 1)) (e1 _ _ hra) (by omega) (by omega))) (ev_un ev_c ru_neg) (fun ns h => (hto.no (next_some h)).mono e1) fun hg H2 e2 => ?_
    have e02 := e1.trans e2
    refine q_asgR (er_pairs (ev_ixL (ev_var rfl) (sq_of (e02 _ _ hpr)) (ev_c (v := .int 0)) rfl) (e02 _ _ hra) (by omega)) fun y H3 e3 ⟨mp, ey, hmp, hm3⟩ => ?_
    subst ey
    have e03 := e02.trans e3
    have hmp0 : H mp = none := fresh_back e02 hmp
    refine q_chk (sp := spCheck_entry A) (o := chkEntry es day 1 0) (ea_cons (ev_var rfl) (ea_cons (ev_var rfl) (ea_cons (ev_c (v := vi 1)) (ea_cons (ev_c (v := vi 0)) ea_nil)))) (fun H3 e Q E h => ⟨d, el, bk, ll, gl, eas, ers, las, gas, es, day, 1, 0, rfl, (D.mono e03).mono e, h⟩) (fun ns h => (hto.no ((next_none hg).trans (next_some h))).mono e03) fun hck H4 e4 => ?_
    have e04 := e03.trans e4
    refine q_chk (sp := spCheck_rows A) (o := chkRows (mbookOf es) 0 [] (LF.pairsOf row)) (ea_cons (ev_var rfl) (ea_cons (ev_var rfl) ea_nil)) (fun H3 e Q E h => ⟨d, el, bk, ll, gl, mp, eas, ers, las, gas, es, LF.pairsOf row, rfl, (D.mono e04).mono e, (hm3.mono e4).mono e, by omega, h⟩) (fun ns h => (hto.no ((next_none hg).trans ((next_none hck).trans (next_some h)))).mono e04) fun hrw H5 e5 => ?_
    have e05 := e04.trans e5
    have hm5 := (hm3.mono e4).mono e5
    have hin := chkRows_none _ _ _ hrw
    have D5 := D.mono e05
    refine q_refuse (c := (LF.pairsOf row).any fun p => decide (c < ((mbookOf es).lot p.1).cls)) (code := -6) (ev_is (ev_anyN (bs := (LF.pairsOf row).map fun p => decide (c < ((mbookOf es).lot p.1).cls)) (er_imp (lc_rows (fun k => .bl (decide (c < ((mbookOf es).lot ((LF.pairsOf row).getD k (0, 0)).1).cls))) (fun _ => true) (ev_var rfl) hm5 (by omega) fun k p H6 hp e6 => ⟨rfl, et_yes, fun _ => ⟨?_, fun D xs hD z => by cases z⟩⟩) fun y H6 e6 ⟨q, h1, h2, h3⟩ => ⟨q, h1, h2, ?_⟩)) (by rw [List.any_map]; rfl)) (ev_un ev_c ru_neg)
      (fun ns h => (hto.no ((next_none hg).trans ((next_none hck).trans ((next_none hrw).trans h)))).mono e05) fun hbt H6 e6 => ?_
    · rw [getD_of hp]
      obtain ⟨la, LA, hev⟩ := ed_lot T (te := tVar 0) (ti := tVar 7) (σ := [some (.ref d), some (.ref pa), some (.ref pr), some (vi wt), some (vi c), some (vi day), some (.ref mp), some (vi p.1), some (vi p.2)]) (n := p.1) (ev_var rfl) (D5.mono e6) (ev_var rfl) (hin p (List.mem_of_getElem? hp))
      exact ev_gtN (el_grade T hev LA) (ev_var rfl)
    · rw [h3, idx_all, range_getD (LF.pairsOf row) (0, 0) (fun p => V.bl (decide (c < ((mbookOf es).lot p.1).cls))), List.map_map]; rfl
    have e06 := e05.trans e6
    have hpos : 1 ≤ (LF.pairsOf row).length := by
      have hb := gd_none hg
      simp only [Bool.or_eq_false_iff, Bool.not_eq_false'] at hb
      have := arePairs_len hb.2.2.2
      omega
    have hne : LF.pairsOf row ≠ [] := fun z => by rw [z] at hpos; exact absurd hpos (by decide)
    exact s_putRet (e := .lift wt c day (LF.pairsOf row)) rfl D hM e06 (ev_var rfl) (ear_word e06 rfl (ev_var rfl) (ev_var rfl) (ev_var rfl) (er_imp (er_ev (ev_var rfl)) fun y H7 e7 ey => ⟨mp, ey, hmp0, (hm5.mono e6).mono e7⟩)) ⟨hin, hne⟩ (by omega) (by show _ + (LF.pairsOf row).length ≤ _; omega) (by show _ + (LF.pairsOf row).length ≤ _; omega)
      (hto.yes ((next_none hg).trans ((next_none hck).trans ((next_none hrw).trans hbt))))
theorem ok_merge (T : Txt K mg A) : FnOk P w K mg base (L2.CX P w) 6 A.f_merge A.d_merge ["desk", "args", "rows"] (spDeed A mergeM 1 1) := by
  refine T.fn_merge.okX sc_merge (fun vs H Q E h => ?_) (fun cdv Ar outer s H vs Q E hr h => ⟨_, (pss_cons (ps_expr (pe_call (ok_refuse T) (hr.mono (by decide)) rfl T.mgf_refuse T.fn_refuse.kp T.bi_refuse .nil passR (pa_cons (pe_or (pe_cmpR op_gt (pe_ix ix_list (pv 1) pe_int (fun _ _ => rfl)) (pe_glob (v := .int (36524)) rfl T.g_LAST_DAY.choose_spec ⟨_, rfl⟩) (nomark _)) (pe_one (pe_not (pe_call (ok_are_pairs T) (hr.mono (by decide)) rfl T.mgf_are_pairs T.fn_are_pairs.kp T.bi_are_pairs .nil pass0 (pa_cons (pe_ix ix_list (pv 2) pe_int (fun _ _ => rfl)) (pa_cons pe_int pa_nil)))))) (pa_cons (pe_un un_neg pe_int) pa_nil))))
    (pss_cons (ps_set (i := 3) sc_merge.nd rfl (Or.inl rfl) (pe_call (ok_pairs T) (hr.mono (by decide)) rfl T.mgf_pairs T.fn_pairs.kp T.bi_pairs .nil pass0 (pa_cons (pe_ix ix_list (pv 2) pe_int (fun _ _ => rfl)) pa_nil)))
    (pss_cons (ps_expr (pe_call (ok_check_entry T) (hr.mono (by decide)) rfl T.mgf_check_entry T.fn_check_entry.kp T.bi_check_entry .nil passR (pa_cons (pv 0) (pa_cons (pe_ix ix_list (pv 1) pe_int (fun _ _ => rfl)) (pa_cons pe_int (pa_cons (pe_callB call_len_seq (by rfl) T.b_len PySem.boot_len (pa_cons (pv 3) pa_nil)) pa_nil))))))
    (pss_cons (ps_expr (pe_call (ok_check_rows T) (hr.mono (by decide)) rfl T.mgf_check_rows T.fn_check_rows.kp T.bi_check_rows .nil passR (pa_cons (pv 0) (pa_cons (pv 3) pa_nil))))
    (pss_one (ps_ret (pe_call (ok_put T) (hr.mono (by decide)) rfl T.mgf_put T.fn_put.kp T.bi_put .nil pass0 (pa_cons (pv 0) (pa_cons (pe_make T.mk_Entry (ok_Entry_init T) (hr.mono (by decide)) rfl T.mg_Entry T.bi_Entry_init .nil pass0 (pa_cons pe_str (pa_cons (pe_ix ix_list (pv 1) pe_int (fun _ _ => rfl)) (pa_cons pe_int (pa_cons pe_int (pa_cons (pv 3) pa_nil)))))) pa_nil))))))))), ?_⟩)
  · obtain ⟨_, _, _, _, _, _, _, rfl, _⟩ := h
    rfl
  · obtain ⟨d, pa, pr, M, es, args, rows, rfl, ⟨el, bk, ll, gl, eas, ers, las, gas, D, hM⟩, hG, ha, hr', ⟨hs1, hs2, hs3⟩, hto⟩ := h
    obtain ⟨day, rfl⟩ := args1 hs1
    obtain ⟨row, rfl⟩ := rows1 hs2
    obtain ⟨ra, hpr, hra⟩ := rowsV1 hr'
    have hI := hG.is
    have hlots := hI.lots
    have hlegs := hI.legs
    have hlen := hI.len
    have hrl := hs3 row List.mem_cons_self
    have hpl := pairsOf_len row
    refine q_refuse (c := decide (36524 < day) || !arePairs row 2) (code := -1) (ev_orV (ev_gtN (ev_ixV (i := 0) (ev_var rfl) ha (ev_c (v := vi 0)) rfl) (ev_c (v := vi 36524))) fun _ =>
      ev_notV (ev_arep (ev_ixL (ev_var rfl) (sq_of hpr) (ev_c (v := .int 0)) rfl) (ev_c (v := vi 2)) hra (by omega) (by omega))) (ev_un ev_c ru_neg) (fun ns h => (hto.no (next_some h))) fun hg H2 e2 => ?_
    refine q_asgR (er_pairs (ev_ixL (ev_var rfl) (sq_of (e2 _ _ hpr)) (ev_c (v := .int 0)) rfl) (e2 _ _ hra) (by omega)) fun y H3 e3 ⟨mp, ey, hmp, hm3⟩ => ?_
    subst ey
    have e03 := e2.trans e3
    have hmp0 : H mp = none := fresh_back e2 hmp
    have hm3' := hm3
    obtain ⟨as, hm31, hm32, _⟩ := hm3'
    refine q_chk (sp := spCheck_entry A) (o := chkEntry es day 1 (LF.pairsOf row).length) (ea_cons (ev_var rfl) (ea_cons (ev_ixV (i := 0) (ev_var rfl) (e03 _ _ ha) (ev_c (v := vi 0)) rfl) (ea_cons (ev_c (v := vi 1)) (ea_cons (ev_is (ev_lenL (ev_var rfl) (sq_of hm31)) (by rw [List.length_map, hm32])) ea_nil)))) (fun H3 e Q E h => ⟨d, el, bk, ll, gl, eas, ers, las, gas, es, day, 1, (LF.pairsOf row).length, rfl, (D.mono e03).mono e, h⟩) (fun ns h => (hto.no ((next_none hg).trans (next_some h))).mono e03) fun hck H4 e4 => ?_
    have e04 := e03.trans e4
    refine q_chk (sp := spCheck_rows A) (o := chkRows (mbookOf es) 0 [] (LF.pairsOf row)) (ea_cons (ev_var rfl) (ea_cons (ev_var rfl) ea_nil)) (fun H3 e Q E h => ⟨d, el, bk, ll, gl, mp, eas, ers, las, gas, es, LF.pairsOf row, rfl, (D.mono e04).mono e, (hm3.mono e4).mono e, by omega, h⟩) (fun ns h => (hto.no ((next_none hg).trans ((next_none hck).trans h))).mono e04) fun hrw H5 e5 => ?_
    have e05 := e04.trans e5
    have hm5 := (hm3.mono e4).mono e5
    have hin := chkRows_none _ _ _ hrw
    have hpos : 1 ≤ (LF.pairsOf row).length := by
      have hb := gd_none hg
      simp only [Bool.or_eq_false_iff, Bool.not_eq_false'] at hb
      have := arePairs_len hb.2
      omega
    have hne : LF.pairsOf row ≠ [] := fun z => by rw [z] at hpos; exact absurd hpos (by decide)
    exact s_putRet (e := .merge day (LF.pairsOf row)) rfl D hM e05 (ev_var rfl) (ear_word e05 rfl (ev_ixV (i := 0) (ev_var rfl) (e05 _ _ ha) (ev_c (v := vi 0)) rfl) (ev_c (v := vi 0)) (ev_c (v := vi 0)) (er_imp (er_ev (ev_var rfl)) fun y H7 e7 ey => ⟨mp, ey, hmp0, hm5.mono e7⟩)) ⟨hin, hne⟩ (by omega) (by show _ + (LF.pairsOf row).length ≤ _; omega) (by show _ + (LF.pairsOf row).length ≤ _; omega)
      (hto.yes ((next_none hg).trans ((next_none hck).trans hrw)))
theorem ev_sumV {σ : L2.St} {H : Hp} {te : TE} {p : Addr} {l : List Nat} (h : Ev te σ H (.ref p)) (hp : H p = some (.lst (vis l))) : Ev (tCB (rSum K) (tCons te tNil)) σ H (vi l.sum) := fun H1 e Q q =>
  h H1 e _ fun H2 e2 => ⟨p, l.map fun (n : Nat) => (n : Int), rfl, sq_of (by rw [(e.trans e2) _ _ hp]; unfold vis; rw [List.map_map]; rfl), by rw [sum_cast]; exact q H2 e2⟩
theorem ok_split (T : Txt K mg A) : FnOk P w K mg base (L2.CX P w) 6 A.f_split A.d_split ["desk", "args", "rows"] (spDeed A splitM 2 1) := by
  refine T.fn_split.okX sc_split (fun vs H Q E h => ?_) (fun cdv Ar outer s H vs Q E hr h => ⟨_, (pss_cons (ps_asg (pv 1) (pg_lst rfl (pgs_cons (pg_name (i := 3) sc_split.nd rfl (Or.inr rfl)) (pgs_cons (pg_name (i := 4) sc_split.nd rfl (Or.inl rfl)) pgs_nil))))
    (pss_cons (ps_set (i := 5) sc_split.nd rfl (Or.inl rfl) (pe_ix ix_list (pv 2) pe_int (fun _ _ => rfl)))
    (pss_cons (ps_expr (pe_call (ok_refuse T) (hr.mono (by decide)) rfl T.mgf_refuse T.fn_refuse.kp T.bi_refuse .nil passR (pa_cons (pe_or (pe_cmpR op_gt (pv 4) (pe_glob (v := .int (36524)) rfl T.g_LAST_DAY.choose_spec ⟨_, rfl⟩) (nomark _)) (pe_or (pe_cmpR op_eq (pe_callB call_len_seq (by rfl) T.b_len PySem.boot_len (pa_cons (pv 5) pa_nil)) pe_int (nomark _)) (pe_one (pe_not (pe_callB (cr_all rfl) (by rfl) T.b_all (by decide +kernel) (pa_cons (pe_lc (g := (gName 6)) (tt := tYes) (te := (tCall (spIs_weight) [] E0 (tCons (tVar 6) tNil))) (own := [("weight", 6)]) rfl sc_split.nd (pi_list (pv 5)) (blkOk_by (own := [("weight", 6)]) (N := N_split) (sc := defScope s_split) (by decide +kernel)) (fun _ _ _ _ _ => by exact (pg_name (i := 6) sc_split.nd rfl (Or.inl rfl))) (fun _ _ _ _ _ => by exact pts_nil) (fun _ _ _ _ _ => by exact (pe_call (ok_is_weight T) (hr.mono (by decide)) rfl T.mgf_is_weight T.fn_is_weight.kp T.bi_is_weight .nil pass0 (pa_cons (pv 6) pa_nil)))) pa_nil)))))) (pa_cons (pe_un un_neg pe_int) pa_nil))))
    (pss_cons (ps_expr (pe_call (ok_check_entry T) (hr.mono (by decide)) rfl T.mgf_check_entry T.fn_check_entry.kp T.bi_check_entry .nil passR (pa_cons (pv 0) (pa_cons (pv 4) (pa_cons (pe_callB call_len_seq (by rfl) T.b_len PySem.boot_len (pa_cons (pv 5) pa_nil)) (pa_cons (pe_callB call_len_seq (by rfl) T.b_len PySem.boot_len (pa_cons (pv 5) pa_nil)) pa_nil))))))
    (pss_cons (ps_expr (pe_call (ok_refuse T) (hr.mono (by decide)) rfl T.mgf_refuse T.fn_refuse.kp T.bi_refuse .nil passR (pa_cons (pe_cmpR op_ge (pv 3) (pe_callB call_len_seq (by rfl) T.b_len PySem.boot_len (pa_cons (pe_fld (pe_fld (pv 0) rfl) rfl) pa_nil)) (nomark _)) (pa_cons (pe_un un_neg pe_int) pa_nil))))
    (pss_cons (ps_expr (pe_call (ok_refuse T) (hr.mono (by decide)) rfl T.mgf_refuse T.fn_refuse.kp T.bi_refuse .nil passR (pa_cons (pe_cmpR op_gt (pe_callB (cr_sum rfl) (by rfl) T.b_sum (by decide +kernel) (pa_cons (pv 5) pa_nil)) (pe_meth0 (pe_ix ix_list (pe_fld (pe_fld (pv 0) rfl) rfl) (pv 3) (fun _ _ => rfl)) T.cl_Lot T.me_Lot_left (ok_Lot_left T) (hr.mono (by decide)) T.bi_Lot_left .nil pass0) (nomark _)) (pa_cons (pe_un un_neg pe_int) pa_nil))))
    (pss_one (ps_ret (pe_call (ok_put T) (hr.mono (by decide)) rfl T.mgf_put T.fn_put.kp T.bi_put .nil pass0 (pa_cons (pv 0) (pa_cons (pe_make T.mk_Entry (ok_Entry_init T) (hr.mono (by decide)) rfl T.mg_Entry T.bi_Entry_init .nil pass0 (pa_cons pe_str (pa_cons (pv 4) (pa_cons pe_int (pa_cons pe_int (pa_cons (pe_lc (g := (gName 6)) (tt := tYes) (te := (tTup (tCons (tVar 3) (tCons (tVar 6) tNil)))) (own := [("weight", 6)]) rfl sc_split.nd (pi_list (pv 5)) (blkOk_by (own := [("weight", 6)]) (N := N_split) (sc := defScope s_split) (by decide +kernel)) (fun _ _ _ _ _ => by exact (pg_name (i := 6) sc_split.nd rfl (Or.inl rfl))) (fun _ _ _ _ _ => by exact pts_nil) (fun _ _ _ _ _ => by exact (pe_tup (pa_cons (pv 3) (pa_cons (pv 6) pa_nil))))) pa_nil)))))) pa_nil))))))))))), ?_⟩)
  · obtain ⟨_, _, _, _, _, _, _, rfl, _⟩ := h
    rfl
  · obtain ⟨d, pa, pr, M, es, args, rows, rfl, ⟨el, bk, ll, gl, eas, ers, las, gas, D, hM⟩, hG, ha, hr', ⟨hs1, hs2, hs3⟩, hto⟩ := h
    obtain ⟨lot, day, rfl⟩ := args2 hs1
    obtain ⟨row, rfl⟩ := rows1 hs2
    obtain ⟨ra, hpr, hra⟩ := rowsV1 hr'
    have hI := hG.is
    have hlots := hI.lots
    have hlegs := hI.legs
    have hlen := hI.len
    have hrl := hs3 row List.mem_cons_self
    refine q_asgL2 (ev_var rfl) ha fun H1 e1 => ?_
    refine q_asg (ev_ixL (ev_var rfl) (sq_of (e1 _ _ hpr)) (ev_c (v := .int 0)) rfl) fun H2 e2 => ?_
    have e02 := e1.trans e2
    refine q_refuse (c := decide (36524 < day) || (decide (row.length = 0) || !row.all isW10)) (code := -1) (ev_orV (ev_gtN (ev_var rfl) (ev_c (v := vi 36524))) fun _ => ev_orV (ev_eqV (ev_lenV (ev_var rfl) (e02 _ _ hra)) (ev_c (v := vi 0))) fun _ =>
      ev_notV (ev_is (ev_allN (er_weights (ev_var rfl) (e02 _ _ hra) (by omega) (fun x => rfl) (by show 6 < 7; decide))) (by rw [all_map_id]))) (ev_un ev_c ru_neg) (fun ns h => (hto.no (next_some h)).mono e02) fun hg H3 e3 => ?_
    have e03 := e02.trans e3
    refine q_chk (sp := spCheck_entry A) (o := chkEntry es day row.length row.length) (ea_cons (ev_var rfl) (ea_cons (ev_var rfl) (ea_cons (ev_lenV (ev_var rfl) (e03 _ _ hra)) (ea_cons (ev_lenV (ev_var rfl) (e03 _ _ hra)) ea_nil)))) (fun H3 e Q E h => ⟨d, el, bk, ll, gl, eas, ers, las, gas, es, day, row.length, row.length, rfl, (D.mono e03).mono e, h⟩) (fun ns h => (hto.no ((next_none hg).trans (next_some h))).mono e03) fun hck H4 e4 => ?_
    have e04 := e03.trans e4
    refine q_refuse (c := decide ((mbookOf es).lots.length ≤ lot)) (code := -4) (ev_geN (ev_var rfl) (ed_nlots T (ev_var rfl) (D.mono e04))) (ev_un ev_c ru_neg) (fun ns h => (hto.no ((next_none hg).trans ((next_none hck).trans (next_some h)))).mono e04) fun hlt H5 e5 => ?_
    have e05 := e04.trans e5
    have hlot : lot < (mbookOf es).lots.length := by have := of_decide_eq_false (gd_none hlt); omega
    refine q_refuse (c := decide (((mbookOf es).lot lot).left < ((row.sum : Nat) : Int))) (code := -5) (ev_op (ev_sumV (ev_var rfl) (e05 _ _ hra)) (ed_left T (ev_var rfl) (D.mono e05) (ev_var rfl) hlot) rv_I0) (ev_un ev_c ru_neg) (fun ns h => (hto.no ((next_none hg).trans ((next_none hck).trans ((next_none hlt).trans h)))).mono e05) fun hlf H6 e6 => ?_
    have e06 := e05.trans e6
    have hal : (row.map fun w => (lot, w)).length = row.length := List.length_map _
    refine s_putRet (e := .split lot day row) rfl D hM e06 (ev_var rfl) (ear_word e06 rfl (ev_var rfl) (ev_c (v := vi 0)) (ev_c (v := vi 0)) (er_imp (er_lcP (fun k => (lot, row.getD k 0)) (fun _ => true) (fun k => [some (.ref d), some (.ref pa), some (.ref pr), some (vi lot), some (vi day), some (.ref ra), some (vi (row.getD k 0))]) (monoL (K := K) (a := ra) (xs := vis row)) (by rw [vis_len]; omega) (wl_list (ev_var rfl) (sq_of (e06 _ _ hra))) fun i x H7 H8 hi e7 g1 ⟨eH, hx⟩ => ?_) fun y H7 e7 ⟨q, h1, h2, h3⟩ => ⟨q, h1, fresh_back e06 h2, ?_⟩))
      ⟨fun p hp => ?_, trivial⟩ (by omega) (by show _ + (row.map fun w => (lot, w)).length ≤ _; omega) (by show _ + (row.map fun w => (lot, w)).length ≤ _; omega) (hto.yes ((next_none hg).trans ((next_none hck).trans ((next_none hlt).trans hlf))))
    · subst eH
      obtain ⟨n, hn, ex⟩ := vis_at hx
      rw [getD_of hn, ex]
      exact ⟨Ex.refl _, eg_name, rfl, et_yes, fun _ => er_tup (ea_cons (ev_var rfl) (ea_cons (ev_var rfl) ea_nil)) (by show 2 ≤ 100000; decide)⟩
    · rw [vis_len, idx_all, range_getD row 0 (fun w => (lot, w))] at h3
      exact h3
    · obtain ⟨w', hw', ep⟩ := List.mem_map.mp (show p ∈ row.map fun w => (lot, w) from hp)
      rw [← ep]; exact hlot
end
end LW
end
section
set_option Elab.async false
set_option linter.all false
set_option maxRecDepth 100000
set_option maxHeartbeats 4000000

set_option exponentiation.threshold 10000
namespace LW
open PySem PySem.Spec PyProof.Rows L2 Evl LF TbLtBook
section
variable {P : Program} {w : World} {K : PySem.W.Frag} {mg : Str → Option Value} {base : Heap} {A : Ad}
theorem q_putDrop {D : Ends} {tz : TS} {te : TE} {σ : L2.St} {H : Hp} (h : te σ H fun _ H1 => tz D σ H1) : tSeq (tDrop te) tz D σ H := h
theorem lotsOf_make {B : MB} (k w d : Nat) : (B.make (.lose k w d)).lots.length = B.lots.length := by show (B.lots.modify _ _).length = _; rw [List.length_modify]
theorem er_lstR {σ : L2.St} {H : Hp} {ta : TA} {R : List V → Hp → Prop} (h : EvAR ta σ H R) (hl : ∀ vs H2, R vs H2 → vs.length ≤ 100000) : EvR (tLst ta) σ H (fun y H2 => ∃ p vs H', y = .ref p ∧ H p = none ∧ H' p = none ∧ R vs H' ∧ H2 = upd H' p (.lst vs)) := fun H1 e Q q =>
  h H1 e _ fun vs H2 e2 r => ⟨sz_of (hl vs H2 r), fun p hp => q _ _ (e2.trans (Ex.new hp)) ⟨p, vs, H2, rfl, fresh_back (e.trans e2) hp, hp, r, rfl⟩⟩
theorem er_pair1 {σ : L2.St} {H : Hp} {t1 t2 : TE} {a b : Nat} (h1 : Ev t1 σ H (vi a)) (h2 : Ev t2 σ H (vi b)) : EvR (tLst (tCons (tTup (tCons t1 (tCons t2 tNil))) tNil)) σ H (fun y H2 => ∃ r, y = .ref r ∧ H r = none ∧ RowsAt H2 r [(a, b)]) :=
  er_imp (er_lstR (ear_new (er_tup (ea_cons h1 (ea_cons h2 ea_nil)) (by show 2 ≤ 100000; decide))) (fun vs H2 ⟨y, ev, _⟩ => by rw [ev]; show 1 ≤ 100000; decide)) fun y H2 e2 ⟨r, vs, H', ey, hr, hr', ⟨y', ev, t, et, _, ht⟩, eH⟩ => by
    subst ev et eH
    refine ⟨r, ey, hr, [t], upd_same, rfl, fun i x p q1 q2 => ?_⟩
    match i, q1, q2 with
    | 0, q1, q2 =>
      cases q1; cases q2
      rw [upd_ne (fun z => by rw [z, hr'] at ht; cases ht)]
      exact ht
theorem ok_lose (T : Txt K mg A) : FnOk P w K mg base (L2.CX P w) 6 A.f_lose A.d_lose ["desk", "args", "rows"] (spDeed A loseM 3 0) := by
  refine T.fn_lose.okX sc_lose (fun vs H Q E h => ?_) (fun cdv Ar outer s H vs Q E hr h => ⟨_, (pss_cons (ps_asg (pv 1) (pg_lst rfl (pgs_cons (pg_name (i := 3) sc_lose.nd rfl (Or.inl rfl)) (pgs_cons (pg_name (i := 4) sc_lose.nd rfl (Or.inl rfl)) (pgs_cons (pg_name (i := 5) sc_lose.nd rfl (Or.inl rfl)) pgs_nil)))))
    (pss_cons (ps_expr (pe_call (ok_refuse T) (hr.mono (by decide)) rfl T.mgf_refuse T.fn_refuse.kp T.bi_refuse .nil passR (pa_cons (pe_or (pe_not (pe_call (ok_is_weight T) (hr.mono (by decide)) rfl T.mgf_is_weight T.fn_is_weight.kp T.bi_is_weight .nil pass0 (pa_cons (pv 4) pa_nil))) (pe_one (pe_cmpR op_gt (pv 5) (pe_glob (v := .int (36524)) rfl T.g_LAST_DAY.choose_spec ⟨_, rfl⟩) (nomark _)))) (pa_cons (pe_un un_neg pe_int) pa_nil))))
    (pss_cons (ps_expr (pe_call (ok_check_entry T) (hr.mono (by decide)) rfl T.mgf_check_entry T.fn_check_entry.kp T.bi_check_entry .nil passR (pa_cons (pv 0) (pa_cons (pv 5) (pa_cons pe_int (pa_cons pe_int pa_nil))))))
    (pss_cons (ps_expr (pe_call (ok_refuse T) (hr.mono (by decide)) rfl T.mgf_refuse T.fn_refuse.kp T.bi_refuse .nil passR (pa_cons (pe_cmpR op_ge (pv 3) (pe_callB call_len_seq (by rfl) T.b_len PySem.boot_len (pa_cons (pe_fld (pe_fld (pv 0) rfl) rfl) pa_nil)) (nomark _)) (pa_cons (pe_un un_neg pe_int) pa_nil))))
    (pss_cons (ps_expr (pe_call (ok_refuse T) (hr.mono (by decide)) rfl T.mgf_refuse T.fn_refuse.kp T.bi_refuse .nil passR (pa_cons (pe_cmpR op_gt (pv 4) (pe_meth0 (pe_ix ix_list (pe_fld (pe_fld (pv 0) rfl) rfl) (pv 3) (fun _ _ => rfl)) T.cl_Lot T.me_Lot_left (ok_Lot_left T) (hr.mono (by decide)) T.bi_Lot_left .nil pass0) (nomark _)) (pa_cons (pe_un un_neg pe_int) pa_nil))))
    (pss_cons (ps_expr (pe_call (ok_put T) (hr.mono (by decide)) rfl T.mgf_put T.fn_put.kp T.bi_put .nil pass0 (pa_cons (pv 0) (pa_cons (pe_make T.mk_Entry (ok_Entry_init T) (hr.mono (by decide)) rfl T.mg_Entry T.bi_Entry_init .nil pass0 (pa_cons pe_str (pa_cons (pv 5) (pa_cons pe_int (pa_cons pe_int (pa_cons (pe_lst (pa_cons (pe_tup (pa_cons (pv 3) (pa_cons (pv 4) pa_nil))) pa_nil)) pa_nil)))))) pa_nil))))
    (pss_one (ps_ret (pe_lst (pa_cons (pe_meth0 (pe_ix ix_list (pe_fld (pe_fld (pv 0) rfl) rfl) (pv 3) (fun _ _ => rfl)) T.cl_Lot T.me_Lot_left (ok_Lot_left T) (hr.mono (by decide)) T.bi_Lot_left .nil pass0) pa_nil)))))))))), ?_⟩)
  · obtain ⟨_, _, _, _, _, _, _, rfl, _⟩ := h
    rfl
  · obtain ⟨d, pa, pr, M, es, args, rows, rfl, ⟨el, bk, ll, gl, eas, ers, las, gas, D, hM⟩, hG, ha, hr', ⟨hs1, hs2, hs3⟩, hto⟩ := h
    obtain ⟨lot, wt, day, rfl⟩ := args3 hs1
    have hI := hG.is
    have hlots := hI.lots
    have hlegs := hI.legs
    have hlen := hI.len
    refine q_asgL3 (ev_var rfl) ha fun H1 e1 => ?_
    refine q_refuse (c := !isW10 wt || decide (36524 < day)) (code := -1) (ev_orV (ev_notV (ev_isw (ev_var rfl))) fun _ => ev_gtN (ev_var rfl) (ev_c (v := vi 36524))) (ev_un ev_c ru_neg) (fun ns h => (hto.no (next_some h)).mono e1) fun hg H2 e2 => ?_
    have e02 := e1.trans e2
    refine q_chk (sp := spCheck_entry A) (o := chkEntry es day 0 0) (ea_cons (ev_var rfl) (ea_cons (ev_var rfl) (ea_cons (ev_c (v := vi 0)) (ea_cons (ev_c (v := vi 0)) ea_nil)))) (fun H3 e Q E h => ⟨d, el, bk, ll, gl, eas, ers, las, gas, es, day, 0, 0, rfl, (D.mono e02).mono e, h⟩) (fun ns h => (hto.no ((next_none hg).trans (next_some h))).mono e02) fun hck H4 e4 => ?_
    have e04 := e02.trans e4
    refine q_refuse (c := decide ((mbookOf es).lots.length ≤ lot)) (code := -4) (ev_geN (ev_var rfl) (ed_nlots T (ev_var rfl) (D.mono e04))) (ev_un ev_c ru_neg) (fun ns h => (hto.no ((next_none hg).trans ((next_none hck).trans (next_some h)))).mono e04) fun hlt H5 e5 => ?_
    have e05 := e04.trans e5
    have hlot : lot < (mbookOf es).lots.length := by have := of_decide_eq_false (gd_none hlt); omega
    refine q_refuse (c := decide (((mbookOf es).lot lot).left < (wt : Int))) (code := -5) (ev_op (ev_var rfl) (ed_left T (ev_var rfl) (D.mono e05) (ev_var rfl) hlot) rv_I0) (ev_un ev_c ru_neg) (fun ns h => (hto.no ((next_none hg).trans ((next_none hck).trans ((next_none hlt).trans h)))).mono e05) fun hlf H6 e6 => ?_
    have e06 := e05.trans e6
    have hto' := hto.yes ((next_none hg).trans ((next_none hck).trans ((next_none hlt).trans hlf)))
    refine q_putDrop (put_core (e := .lose lot wt day) D e06 (ev_var rfl) (ear_word e06 rfl (ev_var rfl) (ev_c (v := vi 0)) (ev_c (v := vi 0)) (er_imp (er_pair1 (a := lot) (b := wt) (ev_var rfl) (ev_var rfl)) fun y H7 e7 ⟨r, h1, h2, h3⟩ => ⟨r, h1, fresh_back e06 h2, h3⟩)) ⟨fun p hp => ?_, trivial⟩ (by omega) (by show _ + 1 ≤ _; omega) (by show _ + 1 ≤ _; omega) fun p H' a r las' gas' hp D' kp hnew hbk hp' => ?_)
    · have : p = (lot, wt) := by simpa [LF.Entry.rows] using hp
      rw [this]; exact hlot
    · have hl' : lot < (mbookOf (es ++ [.lose lot wt day])).lots.length := by rw [mbookOf_snoc, lotsOf_make]; exact hlot
      refine s_retR (er_ints1 (ed_left T (ev_var rfl) D' (ev_var rfl) hl')) fun y H8 e8 ⟨p2, ey, hp2, hp8⟩ => ?_
      subst ey
      refine hto'.1 p2 H8 (fun x => OfDesk d el ll gl las' x) (hbk p2 hp2) ⟨el, bk, ll, gl, _, _, las', gas', D'.mono e8, fun x h => h⟩ ((kp.mono fun x o _ h => hM x h).trans (Keep.of_ex e8)) (fun x hx => ?_) hp8
      rcases hx with z | z | z | z | z
      · exact .inl (hM x (.inl z))
      · exact .inl (hM x (.inr (.inl z)))
      · exact .inl (hM x (.inr (.inr (.inl z))))
      · exact .inl (hM x (.inr (.inr (.inr (.inl z)))))
      · exact (hnew x z).imp (fun q => hM x (.inr (.inr (.inr (.inr q))))) id
theorem desk_book {dx dx' : Addr} {v w v' w' : V} : HO.ins A.c_Desk dx (fDesk v w) ≠ HO.ins A.c_Book dx' (fBook v' w') := fun z => by
  injection z with _ _ h
  unfold fDesk fBook at h
  injection h with h _
  injection h with h _
  exact absurd h (by decide +kernel)
theorem desk_lot {dx dx' : Addr} {l : ML} {m : Addr} {v w : V} : HO.ins A.c_Desk dx (fDesk v w) ≠ HO.ins A.c_Lot dx' (lotV l m) := fun z => by
  injection z with _ _ h
  have := congrArg List.length h
  simp [lotV, fLot, fDesk] at this
/-- the desk's attribute changes: a book stays -/
theorem BookIs.updDesk {H : Hp} {b ll gl d dx : Addr} {las gas : List Addr} {B : MB} {v w : V} {o : HO} (L : BookIs A H b ll gl las gas B) (hd : H d = some (.ins A.c_Desk dx (fDesk v w))) : BookIs A (upd H d o) b ll gl las gas B := by
  have st : ∀ x o', H x = some o' → o' ≠ .ins A.c_Desk dx (fDesk v w) → (upd H d o) x = some o' := fun x o' hx no => by
    rw [upd_ne (fun z => by rw [z, hd] at hx; exact no (Option.some.inj hx).symm)]; exact hx
  obtain ⟨dx', ho⟩ := L.obj
  refine ⟨⟨dx', st _ _ ho fun z => desk_book z.symm⟩, st _ _ L.hl fun z => (by cases z), st _ _ L.hg fun z => (by cases z), L.ne, L.nd, L.ln, L.gn, fun i a l h1 h2 => ?_, fun i a g h1 h2 => st _ _ (L.leg i a g h1 h2) fun z => (by cases z)⟩
  obtain ⟨dx2, m, k1, k2, k3⟩ := L.lot i a l h1 h2
  exact ⟨dx2, m, st _ _ k1 fun z => desk_lot z.symm, st _ _ k2 fun z => (by cases z), k3⟩
theorem EntryIs.updDesk {H : Hp} {a r d dx : Addr} {e : Ent} {v w : V} {o : HO} (E : EntryIs A H a r e) (hd : H d = some (.ins A.c_Desk dx (fDesk v w))) : EntryIs A (upd H d o) a r e := by
  have st : ∀ x o', H x = some o' → o' ≠ .ins A.c_Desk dx (fDesk v w) → (upd H d o) x = some o' := fun x o' hx no => by
    rw [upd_ne (fun z => by rw [z, hd] at hx; exact no (Option.some.inj hx).symm)]; exact hx
  obtain ⟨dx', ho⟩ := E.obj
  obtain ⟨as, q1, q2, q3⟩ := E.rows
  exact ⟨⟨dx', st _ _ ho fun z => by
    injection z with _ _ h
    have := congrArg List.length h
    simp [fEntry, fDesk] at this⟩, as, st _ _ q1 fun z => (by cases z), q2, fun i a p e1 e2 => st _ _ (q3 i a p e1 e2) fun z => (by cases z)⟩
theorem ok_undo (T : Txt K mg A) : FnOk P w K mg base (L2.CX P w) 5 A.f_undo A.d_undo ["desk", "args", "rows"] (spDeed A undoM 0 0) := by
  refine T.fn_undo.okX sc_undo (fun vs H Q E h => ?_) (fun cdv Ar outer s H vs Q E hr h => ⟨_, (pss_cons (ps_expr (pe_call (ok_refuse T) (hr.mono (by decide)) rfl T.mgf_refuse T.fn_refuse.kp T.bi_refuse .nil passR (pa_cons (pe_cmpR op_eq (pe_callB call_len_seq (by rfl) T.b_len PySem.boot_len (pa_cons (pe_fld (pv 0) rfl) pa_nil)) pe_int (nomark _)) (pa_cons (pe_un un_neg pe_int) pa_nil))))
    (pss_cons (ps_expr (pe_bm0 PySem.F.plainAttrs_list PySem.F.slot_list_pop PySem.F.type_list_pop mt_pop (pe_fld (pv 0) rfl)))
    (pss_cons (ps_fld (pv 0) (pe_meth (pv 0) T.cl_Desk T.me_Desk_book_of (ok_Desk_book_of T) (hr.mono (by decide)) T.bi_Desk_book_of .nil pass0 (pa_cons (pe_fld (pv 0) rfl) pa_nil)) rfl)
    (pss_one (ps_ret (pe_lst (pa_cons (pe_callB call_len_seq (by rfl) T.b_len PySem.boot_len (pa_cons (pe_fld (pv 0) rfl) pa_nil)) pa_nil))))))), ?_⟩)
  · obtain ⟨_, _, _, _, _, _, _, rfl, _⟩ := h
    rfl
  · obtain ⟨d, pa, pr, M, es, args, rows, rfl, ⟨el, bk, ll, gl, eas, ers, las, gas, D, hM⟩, hG, ha, hr', ⟨hs1, hs2, hs3⟩, hto⟩ := h
    refine q_refuse (c := decide (es.length = 0)) (code := -10) (ev_eqV (ed_nents T (ev_var rfl) D) (ev_c (v := vi 0))) (ev_un ev_c ru_neg) (fun ns h => hto.no h) fun hg H1 e1 => ?_
    have hto' := hto.yes hg
    have hne : es.length ≠ 0 := of_decide_eq_false (gd_none hg)
    have D1 := D.mono e1
    have hent := D1.ent
    have hl1 := D.len
    have hl2 := D.lenr
    obtain ⟨la, hla⟩ : ∃ a, (eas.map V.ref)[(eas.map V.ref).length - 1]? = some a := ⟨_, List.getElem?_eq_getElem (by rw [List.length_map]; omega)⟩
    refine q_putDrop ((ed_entries T (ev_var rfl) D1 : Ev (tFld K (tVar 0) "entries") [some (.ref d), some (.ref pa), some (.ref pr)] H1 (.ref el)) H1 (Ex.refl H1) _ fun H2 e2 => ⟨Or.inl ⟨rfl, _, sq_of (e2 _ _ hent)⟩, el, _, la, rfl, rfl, e2 _ _ hent, hla, ?_⟩)
    have D2 := D1.mono e2
    have e02 := e1.trans e2
    have hent2 := D2.ent
    obtain ⟨dx, hobj⟩ := D2.obj
    have nde : d ≠ el := fun z => by rw [z, hent2] at hobj; cases hobj
    rw [show (eas.map V.ref).dropLast = eas.dropLast.map V.ref from List.map_dropLast.symm]
    have hobj3 : (upd H2 el (.lst (eas.dropLast.map V.ref))) d = some (.ins A.c_Desk dx (fDesk (.ref el) (.ref bk))) := by rw [upd_ne nde]; exact hobj
    have hel3 : (upd H2 el (.lst (eas.dropLast.map V.ref))) el = some (.lst (eas.dropLast.map V.ref)) := upd_same
    have hE3 : ∀ (i : Nat) (a r : Addr) (e : Ent), eas.dropLast[i]? = some a → ers.dropLast[i]? = some r → es.dropLast[i]? = some e → EntryIs A (upd H2 el (.lst (eas.dropLast.map V.ref))) a r e ∧ r ≠ el ∧ ∃ o, H r = some o := fun i a r e h1 h2 h3 => by
      rw [List.getElem?_dropLast] at h1 h2 h3
      split at h1
      · split at h2
        · split at h3
          · obtain ⟨q1, q2, q3, q4⟩ := D2.entry i a r e h1 h2 h3
            obtain ⟨q5, _⟩ := D.entry i a r e h1 h2 h3
            obtain ⟨as, q6, _⟩ := q5.rows
            exact ⟨q1.updEl hent2 q4, q4, _, q6⟩
          · cases h3
        · cases h2
      · cases h1
    have kp3 : Keep M H (upd H2 el (.lst (eas.dropLast.map V.ref))) := (Keep.of_ex e02).trans (Keep.upd (hM el (.inr (.inl rfl))))
    have back3 : ∀ x, (upd H2 el (.lst (eas.dropLast.map V.ref))) x = none → H x = none := fun x hx => by
      by_cases z : x = el
      · rw [z, upd_same] at hx; cases hx
      · rw [upd_ne z] at hx; exact fresh_back e02 hx
    generalize upd H2 el (.lst (eas.dropLast.map V.ref)) = H3 at hobj3 hel3 hE3 kp3 back3
    have hGd : Good es.dropLast := by rw [List.dropLast_eq_take]; exact hG.pre _
    refine q_fldR (R := fun y H4 => ∃ b' ll' gl' las' gas', y = .ref b' ∧ BookIs A H4 b' ll' gl' las' gas' (mbookOf es.dropLast) ∧ H3 ll' = none ∧ H3 gl' = none ∧ ∀ x ∈ las', H3 x = none)
      (er_meth (ev_var rfl) hobj3 lk_Desk_book_of (ea_cons (ev_Desk_entries T (ev_var rfl) hobj3) ea_nil) fun H4 e4 Q q E => ⟨.ref d, el, eas.dropLast, ers.dropLast, es.dropLast, rfl, e4 _ _ hel3, by rw [List.length_dropLast, List.length_dropLast, hl1], by rw [List.length_dropLast, List.length_dropLast, hl2], fun i a r e h1 h2 h3 => (hE3 i a r e h1 h2 h3).1.mono e4, hGd, fun H5 b' ll' gl' las' gas' e5 L5 hb' hll' hgl' hlas' => q _ H5 e5 ⟨b', ll', gl', las', gas', rfl, L5, fresh_back e4 hll', fresh_back e4 hgl', fun x hx => fresh_back e4 (hlas' x hx)⟩⟩)
      (ev_var rfl) hobj3 T.cl_Desk T.no_Desk_book (by show 2 < 1000; decide) (fun y Ha Hb e ⟨b', ll', gl', las', gas', h1, h2, h3⟩ => ⟨b', ll', gl', las', gas', h1, h2.mono e, h3⟩) fun y H4 e4 ⟨b', ll', gl', las', gas', ey, L4, hll', hgl', hlas'⟩ => ?_
    subst ey
    rw [put_Desk_book]
    have hobj4 := e4 _ _ hobj3
    have D5 : DeskIs A (upd H4 d (.ins A.c_Desk dx (fDesk (.ref el) (.ref b')))) d el b' ll' gl' eas.dropLast ers.dropLast las' gas' es.dropLast := by
      refine ⟨⟨dx, upd_same⟩, by rw [upd_ne (Ne.symm nde)]; exact e4 _ _ hel3, by rw [List.length_dropLast, List.length_dropLast, hl1], by rw [List.length_dropLast, List.length_dropLast, hl2], fun i a r e h1 h2 h3 => ?_, L4.updDesk hobj4, fun z => (by rw [← z, hel3] at hll'; cases hll'), fun z => (by rw [← z, hel3] at hgl'; cases hgl')⟩
      obtain ⟨q1, q2, o, q3⟩ := hE3 i a r e h1 h2 h3
      exact ⟨(q1.mono e4).updDesk hobj4, fun z => (by rw [z, back3 _ hll'] at q3; cases q3), fun z => (by rw [z, back3 _ hgl'] at q3; cases q3), q2⟩
    have kp5 : Keep M H (upd H4 d (.ins A.c_Desk dx (fDesk (.ref el) (.ref b')))) := (kp3.trans (Keep.of_ex e4)).trans (Keep.upd (hM d (.inl rfl)))
    have back5 : ∀ x, (upd H4 d (.ins A.c_Desk dx (fDesk (.ref el) (.ref b')))) x = none → H x = none := fun x hx => by
      by_cases z : x = d
      · rw [z, upd_same] at hx; cases hx
      · rw [upd_ne z] at hx; exact back3 x (fresh_back e4 hx)
    refine s_retR (er_ints1 (ed_nents T (ev_var rfl) D5)) fun y H6 e6 ⟨p2, ey, hp2, hp6⟩ => ?_
    subst ey
    rw [List.length_dropLast] at hp6
    refine hto'.1 p2 H6 (fun x => OfDesk d el ll' gl' las' x) (back5 p2 hp2) ⟨el, b', ll', gl', _, _, las', gas', D5.mono e6, fun x h => h⟩ (kp5.trans (Keep.of_ex e6)) (fun x hx => ?_) hp6
    rcases hx with z | z | z | z | z
    · exact .inl (hM x (.inl z))
    · exact .inl (hM x (.inr (.inl z)))
    · exact .inr (by rw [z]; exact back3 _ hll')
    · exact .inr (by rw [z]; exact back3 _ hgl')
    · exact .inr (back3 _ (hlas' x z))
end
end LW
end
section
set_option Elab.async false
set_option linter.all false
set_option maxRecDepth 100000
set_option maxHeartbeats 4000000

set_option exponentiation.threshold 10000
namespace LW
open PySem PySem.Spec PyProof.Rows L2 Evl LF TbLtBook
/-- a new list of ints -/
def NewI (H : Hp) (ns : List Int) : V → Hp → Prop := fun y H2 => ∃ p, y = .ref p ∧ H p = none ∧ H2 p = some (.lst (ns.map V.int))
section
variable {P : Program} {w : World} {K : PySem.W.Frag} {mg : Str → Option Value} {base : Heap} {A : Ad}
theorem er_ints {σ : L2.St} {H : Hp} {ta : TA} {ns : List Int} (h : EvA ta σ H (ns.map V.int)) (hl : ns.length ≤ 100) : EvR (tLst ta) σ H (NewI H ns) := er_lst h (by rw [List.length_map]; omega)
theorem er_catI {σ : L2.St} {H : Hp} {ta tb : TE} {a b : List Int} (h1 : EvR ta σ H (fun y H2 => ∃ p, y = .ref p ∧ H2 p = some (.lst (a.map V.int)))) (h2 : EvR tb σ H (fun y H2 => ∃ p, y = .ref p ∧ H2 p = some (.lst (b.map V.int)))) (hl : a.length + b.length ≤ 100000) : EvR (tOp rCat ta tb) σ H (NewI H (a ++ b)) := fun H1 e Q q =>
  h1 H1 e _ fun y H2 e2 ⟨p, ey, hp⟩ => h2 H2 (e.trans e2) _ fun z H3 e3 ⟨p', ez, hp'⟩ => ⟨p, p', _, _, ey, ez, e3 _ _ hp, hp', sz_of (by rw [List.length_map, List.length_map]; exact hl), fun r hr => q _ _ ((e2.trans e3).trans (Ex.new hr)) ⟨r, rfl, fresh_back ((e.trans e2).trans e3) hr, by rw [upd_same, List.map_append]⟩⟩
theorem newI_old {σ : L2.St} {H H0 : Hp} {te : TE} {ns : List Int} (h : EvR te σ H (NewI H0 ns)) : EvR te σ H (fun y H2 => ∃ p, y = .ref p ∧ H2 p = some (.lst (ns.map V.int))) := er_imp h fun y H2 e ⟨p, h1, h2, h3⟩ => ⟨p, h1, h3⟩
theorem s_deedRet {Dn : Ends} {σ : L2.St} {H H1 : Hp} {te : TE} {d : Addr} {M : Addr → Prop} {es : Es} {ns : List Int} {E : XK} {Q : VK} (hrt : Dn.rt = Q) (hto : DeedTo A H d M es (es, ns) Q E) (Dk : DeskAt A H d M es) (ex : Ex H H1) (h : EvR te σ H1 (NewI H1 ns)) : tRet te Dn σ H1 :=
  s_retR h fun y H2 e2 ⟨p, ey, hp, hp2⟩ => by
    rw [ey, hrt]
    exact hto.read Dk (fresh_back ex hp) (ex.trans e2) hp2
theorem er_flat {σ : L2.St} {H : Hp} {t1 : TE} {r : Addr} {nss : List (List Int)} {E : XK} (h1 : Ev t1 σ H (.ref r)) (hI : IntsAt H r nss) (hz : nss.flatten.length ≤ 90000) : EvR (tCall spFlat [] E (tCons t1 tNil)) σ H (NewI H nss.flatten) :=
  er_call (ea_cons h1 ea_nil) fun H1 e Q q E => ⟨r, nss, rfl, hI.mono e, hz, fun p H' hp e' h' => q _ H' e' ⟨p, rfl, fresh_back e hp, h'⟩⟩
theorem ok_show_lot (T : Txt K mg A) : FnOk P w K mg base (L2.CX P w) 6 A.f_show_lot A.d_show_lot ["desk", "args", "rows"] (spDeed A lotM 1 0) := by
  refine T.fn_show_lot.okX sc_show_lot (fun vs H Q E h => ?_) (fun cdv Ar outer s H vs Q E hr h => ⟨_, (pss_cons (ps_expr (pe_call (ok_check_lot T) (hr.mono (by decide)) rfl T.mgf_check_lot T.fn_check_lot.kp T.bi_check_lot .nil passR (pa_cons (pv 0) (pa_cons (pe_ix ix_list (pv 1) pe_int (fun _ _ => rfl)) pa_nil))))
    (pss_cons (ps_set (i := 3) sc_show_lot.nd rfl (Or.inl rfl) (pe_ix ix_list (pe_fld (pe_fld (pv 0) rfl) rfl) (pe_ix ix_list (pv 1) pe_int (fun _ _ => rfl)) (fun _ _ => rfl)))
    (pss_one (ps_ret (pe_lst (pa_cons (pe_meth0 (pv 3) T.cl_Lot T.me_Lot_left (ok_Lot_left T) (hr.mono (by decide)) T.bi_Lot_left .nil pass0) (pa_cons (pe_fld (pv 3) rfl) (pa_cons (pe_fld (pv 3) rfl) (pa_cons (pe_fld (pv 3) rfl) (pa_cons (pe_fld (pv 3) rfl) (pa_cons (pe_fld (pv 3) rfl) (pa_cons (pe_fld (pv 3) rfl) (pa_cons (pe_fld (pv 3) rfl) pa_nil))))))))))))), ?_⟩)
  · obtain ⟨_, _, _, _, _, _, _, rfl, _⟩ := h
    rfl
  · obtain ⟨d, pa, pr, M, es, args, rows, rfl, Dk, hG, ha, hr', ⟨hs1, hs2, hs3⟩, hto⟩ := h
    obtain ⟨el, bk, ll, gl, eas, ers, las, gas, D, hM⟩ := Dk
    have Dk : DeskAt A H d M es := ⟨el, bk, ll, gl, eas, ers, las, gas, D, hM⟩
    obtain ⟨n, rfl⟩ := args1 hs1
    refine q_chk (sp := spCheck_lot A) (o := chkLot (mbookOf es) n) (ea_cons (ev_var rfl) (ea_cons (ev_ixV (i := 0) (ev_var rfl) ha (ev_c (v := vi 0)) rfl) ea_nil)) (fun H1 e Q E h => ⟨d, el, bk, ll, gl, eas, ers, las, gas, es, n, rfl, D.mono e, h⟩) (fun ns h => hto.no h) fun hlt H1 e1 => ?_
    have hn := chkLot_none hlt
    have D1 := D.mono e1
    obtain ⟨a, hla, LA⟩ := D1.book.lotN hn
    refine q_asg (eb_lotAt (ed_lots T (ev_var rfl) D1) D1.book (ev_ixV (i := 0) (ev_var rfl) (e1 _ _ ha) (ev_c (v := vi 0)) rfl) hla) fun H2 e2 => ?_
    have LA2 := LA.mono e2
    exact s_deedRet rfl (hto.yes hlt) Dk (e1.trans e2) (er_ints (ea_cons (ev_left T (ev_var rfl) LA2) (ea_cons (el_made T (ev_var rfl) LA2) (ea_cons (el_planted T (ev_var rfl) LA2) (ea_cons (el_lost T (ev_var rfl) LA2) (ea_cons (el_generation T (ev_var rfl) LA2) (ea_cons (el_grade T (ev_var rfl) LA2) (ea_cons (el_day T (ev_var rfl) LA2) (ea_cons (el_born T (ev_var rfl) LA2) ea_nil)))))))) (by show 8 ≤ 100; decide))
theorem ok_legs (T : Txt K mg A) : FnOk P w K mg base CX0 2 A.f_legs A.d_legs ["desk", "args", "rows"] (spDeed A legsM 0 0) := by
  refine T.fn_legs.ok sc_legs (fun vs H Q E h => ?_) (fun cdv Ar outer s H vs Q E hr h => ⟨_, (pss_one (ps_ret (pe_op op_cat (pe_lst (pa_cons (pe_callB call_len_seq (by rfl) T.b_len PySem.boot_len (pa_cons (pe_fld (pe_fld (pv 0) rfl) rfl) pa_nil)) pa_nil)) (pe_call (ok_flat T) (hr.mono (by decide)) rfl T.mgf_flat T.fn_flat.kp T.bi_flat .nil pass0 (pa_cons (pe_fld (pe_fld (pv 0) rfl) rfl) pa_nil))))), ?_⟩)
  · obtain ⟨_, _, _, _, _, _, _, rfl, _⟩ := h
    rfl
  · obtain ⟨d, pa, pr, M, es, args, rows, rfl, Dk, hG, ha, hr', ⟨hs1, hs2, hs3⟩, hto⟩ := h
    obtain ⟨el, bk, ll, gl, eas, ers, las, gas, D, hM⟩ := Dk
    have Dk : DeskAt A H d M es := ⟨el, bk, ll, gl, eas, ers, las, gas, D, hM⟩
    have hI := hG.is
    have hlegs := hI.legs
    have hints : IntsAt H gl ((mbookOf es).legs.map fun g => [vz g.of, vz g.to, vz g.weight]) := by
      refine ⟨gas, D.book.hg, by rw [List.length_map, D.book.gn], fun i a ns h1 h2 => ?_⟩
      rw [List.getElem?_map] at h2
      obtain ⟨g, hg, eg⟩ := Option.map_eq_some_iff.mp h2
      rw [← eg]
      exact .inr (D.book.leg i a g h1 hg)
    have hflat : ((mbookOf es).legs.map fun g => [vz g.of, vz g.to, vz g.weight]).flatten = (mbookOf es).legs.flatMap fun g => [vz g.of, vz g.to, vz g.weight] := rfl
    have hfl : ∀ l : List Leg, (l.map fun g => [vz g.of, vz g.to, vz g.weight]).flatten.length = 3 * l.length := fun l => by
      induction l with
      | nil => rfl
      | cons g r ih => rw [List.map_cons, List.flatten_cons, List.length_append, ih]; show 3 + 3 * r.length = 3 * (r.length + 1); omega
    have hz := hfl (mbookOf es).legs
    refine s_deedRet rfl hto Dk (Ex.refl H) (er_catI (a := [vz (mbookOf es).legs.length]) (newI_old (er_ints1 (ed_nlegs T (ev_var rfl) D))) (newI_old (er_flat (ed_legs T (ev_var rfl) D) hints (by omega))) (by rw [hz]; show 1 + _ ≤ _; omega))
/-- [f of each lot of the list] -/
theorem er_lotItems {tl te : TE} {t : TT} {σ : L2.St} {H : Hp} {b ll gl : Addr} {las gas : List Addr} {B : MB} {i : Nat} {vs : List Nat} (L : BookIs A H b ll gl las gas B) (hz : B.lots.length ≤ 1000) (v : ML → Int) (f : ML → Bool) (h : Ev tl σ H (.ref ll))
    (hturn : ∀ (a : Addr) (l : ML) (H1 : Hp), Ex H H1 → LotAt A H1 ll gl a l → wipe ((wipe σ vs).set i (some (.ref a))) vs = wipe σ vs ∧ EvT t ((wipe σ vs).set i (some (.ref a))) H1 (f l) ∧ (f l = true → Ev te ((wipe σ vs).set i (some (.ref a))) H1 (.int (v l)))) :
    EvR (tLc (iList K tl) (gName i) t te vs) σ H (NewI H ((((List.range B.lots.length).map B.lot).filter f).map v)) := by
  refine er_imp (lc_items (K := K) (fun k => .int (v (B.lot k))) (fun k => f (B.lot k)) h (sq_of L.hl) (by rw [List.length_map, L.ln]; omega) fun k x H1 hx e1 => ?_) fun y H1 e1 ⟨p, h1, h2, h3⟩ => ⟨p, h1, h2, ?_⟩
  · obtain ⟨a, ex, ha, hk, LA⟩ := las_at (L.mono e1) hx
    subst ex
    obtain ⟨q1, q2, q3⟩ := hturn a (B.lot k) H1 e1 LA
    exact ⟨q1, q2, fun hf => ⟨q3 hf, fun D xs hD z => by cases z⟩⟩
  · rw [h3, List.length_map, L.ln]
    unfold idx
    rw [List.filter_map, List.map_map, List.map_map]
    rfl
theorem ok_then (T : Txt K mg A) : FnOk P w K mg base CX0 5 A.f_then A.d_then ["desk", "args", "rows"] (spDeed A thenM 1 0) := by
  refine T.fn_then.ok sc_then (fun vs H Q E h => ?_) (fun cdv Ar outer s H vs Q E hr h => ⟨_, (pss_cons (ps_set (i := 3) sc_then.nd rfl (Or.inl rfl) (pe_meth (pv 0) T.cl_Desk T.me_Desk_book_of (ok_Desk_book_of T) (hr.mono (by decide)) T.bi_Desk_book_of .nil pass0 (pa_cons (pe_lc (g := (gName 4)) (tt := (tTest (tOp (rI0 fun i j => .bl (decide (i ≤ j))) (tFld K (tVar 4) "day") (tOp (rIxL K) (tVar 1) (tC (.int 0)))))) (te := (tVar 4)) (own := [("entry", 4)]) rfl sc_then.nd (pi_list (pe_fld (pv 0) rfl)) (blkOk_by (own := [("entry", 4)]) (N := N_then) (sc := defScope s_then) (by decide +kernel)) (fun _ _ _ _ _ => by exact (pg_name (i := 4) sc_then.nd rfl (Or.inl rfl))) (fun _ _ _ _ _ => by exact (pts_one (pt_cmpR op_le (pe_fld (pv 4) rfl) (pe_ix ix_list (pv 1) pe_int (fun _ _ => rfl)) (nomark _)))) (fun _ _ _ _ _ => by exact (pv 4))) pa_nil)))
    (pss_one (ps_ret (pe_op op_cat (pe_lst (pa_cons (pe_callB call_len_seq (by rfl) T.b_len PySem.boot_len (pa_cons (pe_fld (pv 3) rfl) pa_nil)) pa_nil)) (pe_lc (g := (gName 5)) (tt := tYes) (te := (tMeth A.c_Lot "left" (spLot_left A) [] E0 (tVar 5) tNil)) (own := [("lot", 5)]) rfl sc_then.nd (pi_list (pe_fld (pv 3) rfl)) (blkOk_by (own := [("lot", 5)]) (N := N_then) (sc := defScope s_then) (by decide +kernel)) (fun _ _ _ _ _ => by exact (pg_name (i := 5) sc_then.nd rfl (Or.inl rfl))) (fun _ _ _ _ _ => by exact pts_nil) (fun _ _ _ _ _ => by exact (pe_meth0 (pv 5) T.cl_Lot T.me_Lot_left (ok_Lot_left T) (hr.mono (by decide)) T.bi_Lot_left .nil pass0))))))), ?_⟩)
  · obtain ⟨_, _, _, _, _, _, _, rfl, _⟩ := h
    rfl
  · obtain ⟨d, pa, pr, M, es, args, rows, rfl, Dk, hG, ha, hr', ⟨hs1, hs2, hs3⟩, hto⟩ := h
    obtain ⟨el, bk, ll, gl, eas, ers, las, gas, D, hM⟩ := Dk
    have Dk : DeskAt A H d M es := ⟨el, bk, ll, gl, eas, ers, las, gas, D, hM⟩
    obtain ⟨day, rfl⟩ := args1 hs1
    have hI := hG.is
    have hlen := hI.len
    have hl1 := D.len
    have hl2 := D.lenr
    obtain ⟨dx, hobj⟩ := D.obj
    obtain ⟨ci, hci⟩ := hG.filter day
    have hGf : Good (es.filter fun e => decide (e.day ≤ day)) := by rw [hci]; exact hG.pre _
    have hIf := hGf.is
    let f : Nat → Bool := fun k => decide ((es.getD k (.found 0 0 0)).day ≤ day)
    have hes : es.filter (fun e => decide (e.day ≤ day)) = (idx es.length f).map (fun k => es.getD k (.found 0 0 0)) := by
      have := filter_getD es (.found 0 0 0) (fun e => decide (e.day ≤ day)) (fun e => e)
      rw [List.map_id'] at this
      exact this.symm
    refine q_asgR (R := fun y H2 => ∃ b' ll' gl' las' gas', y = .ref b' ∧ BookIs A H2 b' ll' gl' las' gas' (mbookOf (es.filter fun e => decide (e.day ≤ day)))) (fun H1 e1 Q q => ?_) fun y H1 e1 ⟨b', ll', gl', las', gas', ey, L1⟩ => ?_
    · refine (ev_var rfl : Ev (tVar 0) [some (.ref d), some (.ref pa), some (.ref pr), none, none, none] H (.ref d)) H1 e1 _ fun H2 e2 => ⟨d, dx, _, rfl, (e1.trans e2) _ _ hobj, lk_Desk_book_of, ?_⟩
      have e02 := e1.trans e2
      have D2 := D.mono e02
      refine (ear_new (lc_items (K := K) (σ := [some (.ref d), some (.ref pa), some (.ref pr), none, none, none]) (vs := [4]) (fun k => .ref (eas.getD k 0)) f (ed_entries T (ev_var rfl) D2) (sq_of D2.ent) (by rw [List.length_map]; omega) fun k x H3 hx e3 => ?_)) H2 (Ex.refl H2) _ fun vs H3 e3 ⟨y, ev, p, ey, hp, hp3⟩ => ?_
      · rw [List.getElem?_map] at hx
        obtain ⟨a, hak, ex⟩ := Option.map_eq_some_iff.mp hx
        subst ex
        have hk : k < es.length := by rw [← hl1]; exact (List.getElem?_eq_some_iff.mp hak).1
        obtain ⟨e, he⟩ : ∃ e, es[k]? = some e := ⟨_, List.getElem?_eq_getElem hk⟩
        obtain ⟨r, hr⟩ : ∃ r, ers[k]? = some r := ⟨_, List.getElem?_eq_getElem (by omega)⟩
        have En := ((D2.mono e3).entry k a r e hak hr he).1
        refine ⟨rfl, ?_, fun _ => ⟨by rw [getD_of hak]; exact ev_var rfl, fun D xs hD z => ?_⟩⟩
        · show EvT _ _ H3 (decide ((es.getD k (.found 0 0 0)).day ≤ day))
          rw [getD_of he]
          exact et_test (ev_leN (ee_day T (ev_var rfl) En) (ev_ixV (i := 0) (ev_var rfl) ((e02.trans e3) _ _ ha) (ev_c (v := vi 0)) rfl))
        · rw [getD_of hak] at z
          cases z
          obtain ⟨_, ho⟩ := En.obj
          rw [hD] at ho; cases ho
      · subst ev ey
        rw [List.length_map, hl1] at hp3
        have e03 := e02.trans e3
        show spDesk_book_of A _ H3 _ _
        refine ⟨.ref d, p, (idx es.length f).map (fun k => eas.getD k 0), (idx es.length f).map (fun k => ers.getD k 0), es.filter (fun e => decide (e.day ≤ day)), rfl, by rw [hp3, List.map_map]; rfl, by rw [hes, List.length_map, List.length_map], by rw [hes, List.length_map, List.length_map], fun i a r e h1 h2 h3 => ?_, hGf, fun H4 b' ll' gl' las' gas' e4 L4 _ _ _ _ => q _ H4 ((e2.trans e3).trans e4) ⟨b', ll', gl', las', gas', rfl, L4⟩⟩
        rw [hes] at h3
        rw [List.getElem?_map] at h1 h2 h3
        obtain ⟨k, hk, e1'⟩ := Option.map_eq_some_iff.mp h1
        rw [hk] at h2 h3
        have hkl : k < es.length := by
          have := List.mem_of_getElem? hk
          unfold idx at this
          exact List.mem_range.mp (List.mem_filter.mp this).1
        obtain ⟨a', ha'⟩ : ∃ e, eas[k]? = some e := ⟨_, List.getElem?_eq_getElem (by omega)⟩
        obtain ⟨r', hr''⟩ : ∃ r, ers[k]? = some r := ⟨_, List.getElem?_eq_getElem (by omega)⟩
        obtain ⟨e', he'⟩ : ∃ e, es[k]? = some e := ⟨_, List.getElem?_eq_getElem hkl⟩
        have q1 : eas.getD k 0 = a := e1'
        have q2 : ers.getD k 0 = r := Option.some.inj h2
        have q3 : es.getD k (.found 0 0 0) = e := Option.some.inj h3
        rw [getD_of ha'] at q1
        rw [getD_of hr''] at q2
        rw [getD_of he'] at q3
        subst q1 q2 q3
        exact ((D.mono e03).entry k _ _ _ ha' hr'' he').1
    · subst ey
      have hlots := hIf.lots
      have hto : DeedTo A H d M es (es, vz (mbookOf (es.filter fun e => decide (e.day ≤ day))).lots.length :: (List.range (mbookOf (es.filter fun e => decide (e.day ≤ day))).lots.length).map fun n => ((mbookOf (es.filter fun e => decide (e.day ≤ day))).lot n).left) Q E := hto
      refine s_deedRet rfl hto Dk e1 (er_catI (a := [vz (mbookOf (es.filter fun e => decide (e.day ≤ day))).lots.length]) (newI_old (er_ints1 (ev_is (ev_lenL (eb_lots T (ev_var rfl) L1) (sq_of L1.hl)) (by rw [List.length_map, L1.ln]; rfl)))) (er_imp (newI_old (er_lotItems L1 (by omega) ML.left (fun _ => true) (eb_lots T (ev_var rfl) L1) fun a l H2 e2 LA => ⟨rfl, et_yes, fun _ => ev_left T (ev_var rfl) LA⟩)) fun y H2 e2 ⟨p, h1, h2⟩ => ⟨p, h1, ?_⟩) ?_)
      · rw [h2, List.filter_eq_self.mpr (fun _ _ => rfl)]
        simp only [List.map_map]
        rfl
      · rw [List.length_map, List.length_range]
        show 1 + _ ≤ _
        omega
end
end LW
end
section
set_option Elab.async false
set_option linter.all false
set_option maxRecDepth 100000
set_option maxHeartbeats 4000000

set_option exponentiation.threshold 10000
namespace LW
open PySem PySem.Spec PyProof.Rows L2 Evl LF TbLtBook
section
variable {P : Program} {w : World} {K : PySem.W.Frag} {mg : Str → Option Value} {base : Heap} {A : Ad}
theorem flowArgs {H : Hp} {d el bk ll gl s : Addr} {eas ers las gas : List Addr} {es : Es} {n : Nat} {fs : List Nat} (D : DeskIs A H d el bk ll gl eas ers las gas es) (hI : GoodIs es) (hc : chkSome (mbookOf es) n fs = none) (hs : H s = some (.lst (vis fs))) : FlowArgs A H bk ll gl s las gas (mbookOf es) (bookOf es) n fs :=
  ⟨D.book, hI.rel.rel, net_of hI hc, hI.lots, hI.legs, hs⟩
theorem q_chkSome {D0 : Ends} {tz : TS} {σ : L2.St} {H : Hp} {t1 t2 t3 : TE} {d el bk ll gl p r : Addr} {eas ers las gas : List Addr} {es : Es} {args l : List Nat} {x : Nat} {E : XK} (D : DeskIs A H d el bk ll gl eas ers las gas es) (h1 : Ev t1 σ H (.ref d)) (h2 : Ev t2 σ H (.ref p)) (h3 : Ev t3 σ H (.ref r)) (hp : H p = some (.lst (vis args))) (hx : args[0]? = some x) (hr : H r = some (.lst (vis l)))
    (k1 : ∀ ns, chkSome (mbookOf es) x l = some ns → Refd A ns E H) (k2 : chkSome (mbookOf es) x l = none → ∀ H', Ex H H' → tz D0 σ H') : tSeq (tDrop (tCall (spCheck_some A) [] E (tCons t1 (tCons t2 (tCons t3 tNil))))) tz D0 σ H :=
  q_chk (ea_cons h1 (ea_cons h2 (ea_cons h3 ea_nil))) (fun H1 e Q E h => ⟨d, el, bk, ll, gl, p, r, eas, ers, las, gas, es, args, l, x, rfl, D.mono e, e _ _ hp, hx, e _ _ hr, h⟩) k1 k2
theorem ev_least {σ : L2.St} {H : Hp} {ta : TA} {bk ll gl s : Addr} {las gas : List Addr} {B : MB} {b : Book} {n : Nat} {fs : List Nat} {E : XK} (FA : FlowArgs A H bk ll gl s las gas B b n fs) (h : EvA ta σ H [.ref bk, vi n, .ref s]) : Ev (tCall (spLeast A) [] E ta) σ H (.int ((B.lot n).left - (TbLtFlow.most b (TbLtFlow.others b fs) n : Int))) :=
  ev_call (dvs := []) h fun H1 e Q q E => ⟨bk, ll, gl, s, las, gas, B, b, n, fs, rfl, FA.mono e, fun H' e' => q H' e'⟩
theorem ok_may (T : Txt K mg A) : FnOk P w K mg base (L2.CX P w) 7 A.f_may A.d_may ["desk", "args", "rows"] (spDeed A mayM 1 1) := by
  refine T.fn_may.okX sc_may (fun vs H Q E h => ?_) (fun cdv Ar outer s H vs Q E hr h => ⟨_, (pss_cons (ps_expr (pe_call (ok_check_some T) (hr.mono (by decide)) rfl T.mgf_check_some T.fn_check_some.kp T.bi_check_some .nil passR (pa_cons (pv 0) (pa_cons (pv 1) (pa_cons (pe_ix ix_list (pv 2) pe_int (fun _ _ => rfl)) pa_nil)))))
    (pss_one (ps_ret (pe_lst (pa_cons (pe_call (ok_most T) (hr.mono (by decide)) rfl T.mgf_most T.fn_most.kp T.bi_most .nil pass0 (pa_cons (pe_fld (pv 0) rfl) (pa_cons (pe_ix ix_list (pv 1) pe_int (fun _ _ => rfl)) (pa_cons (pe_ix ix_list (pv 2) pe_int (fun _ _ => rfl)) pa_nil)))) (pa_cons (pe_call (ok_least T) (hr.mono (by decide)) rfl T.mgf_least T.fn_least.kp T.bi_least .nil pass0 (pa_cons (pe_fld (pv 0) rfl) (pa_cons (pe_ix ix_list (pv 1) pe_int (fun _ _ => rfl)) (pa_cons (pe_ix ix_list (pv 2) pe_int (fun _ _ => rfl)) pa_nil)))) pa_nil)))))), ?_⟩)
  · obtain ⟨_, _, _, _, _, _, _, rfl, _⟩ := h
    rfl
  · obtain ⟨d, pa, pr, M, es, args, rows, rfl, Dk, hG, ha, hr', ⟨hs1, hs2, hs3⟩, hto⟩ := h
    obtain ⟨el, bk, ll, gl, eas, ers, las, gas, D, hM⟩ := Dk
    have Dk : DeskAt A H d M es := ⟨el, bk, ll, gl, eas, ers, las, gas, D, hM⟩
    obtain ⟨n, rfl⟩ := args1 hs1
    obtain ⟨row, rfl⟩ := rows1 hs2
    obtain ⟨ra, hpr, hra⟩ := rowsV1 hr'
    refine q_chkSome D (ev_var rfl) (ev_var rfl) (ev_ixL (ev_var rfl) (sq_of hpr) (ev_c (v := .int 0)) rfl) ha rfl hra (fun ns h => hto.no h) fun hc H1 e1 => ?_
    have FA := flowArgs (D.mono e1) hG.is hc (e1 _ _ hra)
    have hargs : ∀ {σ : L2.St}, σ[0]? = some (some (.ref d)) → σ[1]? = some (some (.ref pa)) → σ[2]? = some (some (.ref pr)) → EvA (tCons (tFld K (tVar 0) "book") (tCons (tOp (rIxL K) (tVar 1) (tC (.int 0))) (tCons (tOp (rIxL K) (tVar 2) (tC (.int 0))) tNil))) σ H1 [.ref bk, vi n, .ref ra] := fun h1 h2 h3 =>
      ea_cons (ed_book T (ev_var h1) (D.mono e1)) (ea_cons (ev_ixV (i := 0) (ev_var h2) (e1 _ _ ha) (ev_c (v := vi 0)) rfl) (ea_cons (ev_ixL (ev_var h3) (sq_of (e1 _ _ hpr)) (ev_c (v := .int 0)) rfl) ea_nil))
    exact s_deedRet rfl (hto.yes hc) Dk e1 (er_ints (ea_cons (ev_most FA (hargs rfl rfl rfl)) (ea_cons (ev_least FA (hargs rfl rfl rfl)) ea_nil)) (by show 2 ≤ 100; decide))
theorem er_cut {σ : L2.St} {H0 H : Hp} {to : TE} {f rm : Addr} {rs : List (Int × Addr)} {R : Room} {tot : Int} {n : Nat} {S : Nat → Bool} {E : XK} (F : FlowIs A H0 H f rm rs R tot) (hok : ROk R (Uu n)) (hn : n ≤ 60) (hS : ∀ told, Reached R told → (fun i : Nat => decide ((i : Int) ∈ told.map (·.1))) = S) (hF : Filled R) (ho : Ev to σ H (.ref f)) :
    EvR (tMeth A.c_Flow "cut" (spFlow_cut A) [] E to tNil) σ H (NewI H (((List.range n).filter S).map vz)) :=
  let ⟨_, hobj⟩ := F.obj
  er_meth0 ho hobj lk_Flow_cut fun H1 e Q q E => ⟨H0, f, rm, rs, R, tot, n, S, rfl, F.mono e, hok, hn, hS, hF, fun p H' hp e' h' => q _ H' e' ⟨p, rfl, fresh_back e hp, by rw [h', List.map_map]; rfl⟩⟩
theorem ok_cut (T : Txt K mg A) : FnOk P w K mg base (L2.CX P w) 7 A.f_cut A.d_cut ["desk", "args", "rows"] (spDeed A cutM 1 1) := by
  refine T.fn_cut.okX sc_cut (fun vs H Q E h => ?_) (fun cdv Ar outer s H vs Q E hr h => ⟨_, (pss_cons (ps_expr (pe_call (ok_check_some T) (hr.mono (by decide)) rfl T.mgf_check_some T.fn_check_some.kp T.bi_check_some .nil passR (pa_cons (pv 0) (pa_cons (pv 1) (pa_cons (pe_ix ix_list (pv 2) pe_int (fun _ _ => rfl)) pa_nil)))))
    (pss_cons (ps_set (i := 3) sc_cut.nd rfl (Or.inl rfl) (pe_make T.mk_Flow (ok_Flow_init T) (hr.mono (by decide)) rfl T.mg_Flow T.bi_Flow_init .nil pass0 (pa_cons (pe_fld (pv 0) rfl) (pa_cons (pe_ix ix_list (pv 1) pe_int (fun _ _ => rfl)) (pa_cons (pe_ix ix_list (pv 2) pe_int (fun _ _ => rfl)) pa_nil)))))
    (pss_one (ps_ret (pe_op op_cat (pe_lst (pa_cons (pe_fld (pv 3) rfl) pa_nil)) (pe_meth0 (pv 3) T.cl_Flow T.me_Flow_cut (ok_Flow_cut T) (hr.mono (by decide)) T.bi_Flow_cut .nil pass0)))))), ?_⟩)
  · obtain ⟨_, _, _, _, _, _, _, rfl, _⟩ := h
    rfl
  · obtain ⟨d, pa, pr, M, es, args, rows, rfl, Dk, hG, ha, hr', ⟨hs1, hs2, hs3⟩, hto⟩ := h
    obtain ⟨el, bk, ll, gl, eas, ers, las, gas, D, hM⟩ := Dk
    have Dk : DeskAt A H d M es := ⟨el, bk, ll, gl, eas, ers, las, gas, D, hM⟩
    obtain ⟨n, rfl⟩ := args1 hs1
    obtain ⟨row, rfl⟩ := rows1 hs2
    obtain ⟨ra, hpr, hra⟩ := rowsV1 hr'
    have hI := hG.is
    have h60 := hI.lots
    have h160 := hI.legs
    have hbl := hI.rel.len
    have hbg := congrArg List.length hI.rel.legs
    refine q_chkSome D (ev_var rfl) (ev_var rfl) (ev_ixL (ev_var rfl) (sq_of hpr) (ev_c (v := .int 0)) rfl) ha rfl hra (fun ns h => hto.no h) fun hc H1 e1 => ?_
    have FA := flowArgs (D.mono e1) hG.is hc (e1 _ _ hra)
    refine q_asgR (er_flow FA (ed_book T (ev_var rfl) (D.mono e1)) (ev_ixV (i := 0) (ev_var rfl) (e1 _ _ ha) (ev_c (v := vi 0)) rfl) (ev_ixL (ev_var rfl) (sq_of (e1 _ _ hpr)) (ev_c (v := .int 0)) rfl)) fun y H2 e2 ⟨H0, f, rm, rs, R, tot, ey, F, FI, hF⟩ => ?_
    subst ey
    obtain ⟨et, hcut⟩ := hF.least FI FA.net (by omega) (by omega)
    obtain ⟨dx, hobj⟩ := F.obj
    have hto' := hto.yes hc
    refine s_deedRet rfl hto' Dk (e1.trans e2) (er_catI (a := [vz (TbLtFlow.most (bookOf es) row n)]) (newI_old (er_ints1 (ev_is (ev_Flow_total T (ev_var rfl) hobj) (by rw [et]; rfl)))) (newI_old (er_cut (n := (mbookOf es).lots.length) F (by rw [← hbl]; exact FI.ok) h60 hcut hF (ev_var rfl))) ?_)
    rw [List.length_map]
    refine Nat.le_trans (Nat.add_le_add_left (List.length_filter_le _ _) 1) ?_
    rw [List.length_range]
    omega
theorem ok_weigh (T : Txt K mg A) : FnOk P w K mg base (L2.CX P w) 7 A.f_weigh A.d_weigh ["desk", "args", "rows"] (spDeed A weighM 1 2) := by
  refine T.fn_weigh.okX sc_weigh (fun vs H Q E h => ?_) (fun cdv Ar outer s H vs Q E hr h => ⟨_, (pss_cons (ps_expr (pe_call (ok_check_some T) (hr.mono (by decide)) rfl T.mgf_check_some T.fn_check_some.kp T.bi_check_some .nil passR (pa_cons (pv 0) (pa_cons (pv 1) (pa_cons (pe_ix ix_list (pv 2) pe_int (fun _ _ => rfl)) pa_nil)))))
    (pss_cons (ps_expr (pe_call (ok_check_set T) (hr.mono (by decide)) rfl T.mgf_check_set T.fn_check_set.kp T.bi_check_set .nil passR (pa_cons (pv 0) (pa_cons (pe_ix ix_list (pv 2) pe_int (fun _ _ => rfl)) pa_nil))))
    (pss_one (ps_ret (pe_lst (pa_cons (pe_meth (pe_fld (pv 0) rfl) T.cl_Book T.me_Book_weight_of (ok_Book_weight_of T) (hr.mono (by decide)) T.bi_Book_weight_of .nil pass0 (pa_cons (pe_ix ix_list (pv 1) pe_int (fun _ _ => rfl)) (pa_cons (pe_ix ix_list (pv 2) pe_int (fun _ _ => rfl)) (pa_cons (pe_ix ix_list (pv 2) pe_int (fun _ _ => rfl)) pa_nil)))) pa_nil)))))), ?_⟩)
  · obtain ⟨_, _, _, _, _, _, _, rfl, _⟩ := h
    rfl
  · obtain ⟨d, pa, pr, M, es, args, rows, rfl, Dk, hG, ha, hr', ⟨hs1, hs2, hs3⟩, hto⟩ := h
    obtain ⟨el, bk, ll, gl, eas, ers, las, gas, D, hM⟩ := Dk
    have Dk : DeskAt A H d M es := ⟨el, bk, ll, gl, eas, ers, las, gas, D, hM⟩
    obtain ⟨n, rfl⟩ := args1 hs1
    obtain ⟨row, set, rfl⟩ := rows2 hs2
    obtain ⟨ra, rb, hpr, hra, hrb⟩ := rowsV2 hr'
    have hI := hG.is
    have h160 := hI.legs
    have hrl := hs3 row List.mem_cons_self
    refine q_chkSome D (ev_var rfl) (ev_var rfl) (ev_ixL (ev_var rfl) (sq_of hpr) (ev_c (v := .int 0)) rfl) ha rfl hra (fun ns h => hto.no (next_some h)) fun hc H1 e1 => ?_
    refine q_chk (sp := spCheck_set A) (o := chkSet (mbookOf es) set) (ea_cons (ev_var rfl) (ea_cons (ev_ixL (ev_var rfl) (sq_of (e1 _ _ hpr)) (ev_c (v := .int 1)) rfl) ea_nil)) (fun H2 e Q E h => ⟨d, el, bk, ll, gl, rb, eas, ers, las, gas, es, set, rfl, (D.mono e1).mono e, (e1.trans e) _ _ hrb, h⟩) (fun ns h => (hto.no ((next_none hc).trans h)).mono e1) fun hset H2 e2 => ?_
    have e02 := e1.trans e2
    have D2 := D.mono e02
    obtain ⟨c1, c2, c3⟩ := chkSome_none hc
    obtain ⟨_, hobj⟩ := D2.book.obj
    refine s_deedRet rfl (hto.yes ((next_none hc).trans hset)) Dk e02 (er_ints1 (ev_meth (ed_book T (ev_var rfl) D2) hobj lk_Book_weight_of (ea_cons (ev_ixV (i := 0) (ev_var rfl) (e02 _ _ ha) (ev_c (v := vi 0)) rfl) (ea_cons (ev_ixL (ev_var rfl) (sq_of (e02 _ _ hpr)) (ev_c (v := .int 0)) rfl) (ea_cons (ev_ixL (ev_var rfl) (sq_of (e02 _ _ hpr)) (ev_c (v := .int 1)) rfl) ea_nil))) ?_))
    intro H3 e3 Q q E
    exact ⟨bk, ll, gl, ra, rb, las, gas, mbookOf es, n, row, set, rfl, D2.book.mono e3, c1, by omega, by omega, fun f hf => (c2 f hf).1, (e02.trans e3) _ _ hra, (e02.trans e3) _ _ hrb, fun H' e' => q H' e'⟩
theorem ev_sumI {te : TE} {σ : L2.St} {H : Hp} {ns : List Int} (h : EvR te σ H (NewI H ns)) : Ev (tCB (rSum K) (tCons te tNil)) σ H (.int ns.sum) := ev_sumN h
theorem filter_true {α : Type} (l : List α) : l.filter (fun _ => true) = l := List.filter_eq_self.mpr fun _ _ => rfl
theorem ev_sumL {tl te : TE} {t : TT} {σ : L2.St} {H : Hp} {b ll gl : Addr} {las gas : List Addr} {B : MB} {i : Nat} {vs : List Nat} (L : BookIs A H b ll gl las gas B) (hz : B.lots.length ≤ 1000) (v : ML → Nat) (f : ML → Bool) (h : Ev tl σ H (.ref ll))
    (hturn : ∀ (a : Addr) (l : ML) (H1 : Hp), Ex H H1 → LotAt A H1 ll gl a l → wipe ((wipe σ vs).set i (some (.ref a))) vs = wipe σ vs ∧ EvT t ((wipe σ vs).set i (some (.ref a))) H1 (f l) ∧ (f l = true → Ev te ((wipe σ vs).set i (some (.ref a))) H1 (vi (v l)))) :
    Ev (tCB (rSum K) (tCons (tLc (iList K tl) (gName i) t te vs) tNil)) σ H (vi ((((List.range B.lots.length).map B.lot).filter f).map v).sum) := by
  refine ev_is (ev_sumI (er_lotItems L hz (fun l => ((v l : Nat) : Int)) f h hturn)) ?_
  show V.int _ = V.int (((((((List.range B.lots.length).map B.lot).filter f).map v).sum : Nat)) : Int)
  rw [← sum_cast, List.map_map]; rfl
theorem ok_sums (T : Txt K mg A) : FnOk P w K mg base CX0 2 A.f_sums A.d_sums ["desk", "args", "rows"] (spDeed A sumsM 0 0) := by
  refine T.fn_sums.ok sc_sums (fun vs H Q E h => ?_) (fun cdv Ar outer s H vs Q E hr h => ⟨_, (pss_cons (ps_set (i := 3) sc_sums.nd rfl (Or.inl rfl) (pe_fld (pe_fld (pv 0) rfl) rfl))
    (pss_cons (ps_set (i := 4) sc_sums.nd rfl (Or.inl rfl) (pe_callB (cr_sum rfl) (by rfl) T.b_sum (by decide +kernel) (pa_cons (pe_lc (g := (gName 6)) (tt := (tB (tMeth A.c_Lot "is_founder" (spLot_is_founder A) [] E0 (tVar 6) tNil))) (te := (tFld K (tVar 6) "made")) (own := [("lot", 6)]) rfl sc_sums.nd (pi_list (pv 3)) (blkOk_by (own := [("lot", 6)]) (N := N_sums) (sc := defScope s_sums) (by decide +kernel)) (fun _ _ _ _ _ => by exact (pg_name (i := 6) sc_sums.nd rfl (Or.inl rfl))) (fun _ _ _ _ _ => by exact (pts_one (pt_val (pe_meth0 (pv 6) T.cl_Lot T.me_Lot_is_founder (ok_Lot_is_founder T) (hr.mono (by decide)) T.bi_Lot_is_founder .nil pass0)))) (fun _ _ _ _ _ => by exact (pe_fld (pv 6) rfl))) pa_nil)))
    (pss_cons (ps_set (i := 5) sc_sums.nd rfl (Or.inl rfl) (pe_lst (pa_cons (pv 4) (pa_cons (pe_callB (cr_sum rfl) (by rfl) T.b_sum (by decide +kernel) (pa_cons (pe_lc (g := (gName 6)) (tt := tYes) (te := (tFld K (tVar 6) "planted")) (own := [("lot", 6)]) rfl sc_sums.nd (pi_list (pv 3)) (blkOk_by (own := [("lot", 6)]) (N := N_sums) (sc := defScope s_sums) (by decide +kernel)) (fun _ _ _ _ _ => by exact (pg_name (i := 6) sc_sums.nd rfl (Or.inl rfl))) (fun _ _ _ _ _ => by exact pts_nil) (fun _ _ _ _ _ => by exact (pe_fld (pv 6) rfl))) pa_nil)) (pa_cons (pe_callB (cr_sum rfl) (by rfl) T.b_sum (by decide +kernel) (pa_cons (pe_lc (g := (gName 6)) (tt := tYes) (te := (tFld K (tVar 6) "lost")) (own := [("lot", 6)]) rfl sc_sums.nd (pi_list (pv 3)) (blkOk_by (own := [("lot", 6)]) (N := N_sums) (sc := defScope s_sums) (by decide +kernel)) (fun _ _ _ _ _ => by exact (pg_name (i := 6) sc_sums.nd rfl (Or.inl rfl))) (fun _ _ _ _ _ => by exact pts_nil) (fun _ _ _ _ _ => by exact (pe_fld (pv 6) rfl))) pa_nil)) pa_nil)))))
    (pss_one (ps_ret (pe_op op_cat (pv 5) (pe_lst (pa_cons (pe_callB (cr_sum rfl) (by rfl) T.b_sum (by decide +kernel) (pa_cons (pe_lc (g := (gName 6)) (tt := tYes) (te := (tMeth A.c_Lot "left" (spLot_left A) [] E0 (tVar 6) tNil)) (own := [("lot", 6)]) rfl sc_sums.nd (pi_list (pv 3)) (blkOk_by (own := [("lot", 6)]) (N := N_sums) (sc := defScope s_sums) (by decide +kernel)) (fun _ _ _ _ _ => by exact (pg_name (i := 6) sc_sums.nd rfl (Or.inl rfl))) (fun _ _ _ _ _ => by exact pts_nil) (fun _ _ _ _ _ => by exact (pe_meth0 (pv 6) T.cl_Lot T.me_Lot_left (ok_Lot_left T) (hr.mono (by decide)) T.bi_Lot_left .nil pass0))) pa_nil)) pa_nil)))))))), ?_⟩)
  · obtain ⟨_, _, _, _, _, _, _, rfl, _⟩ := h
    rfl
  · obtain ⟨d, pa, pr, M, es, args, rows, rfl, Dk, hG, ha, hr', ⟨hs1, hs2, hs3⟩, hto⟩ := h
    obtain ⟨el, bk, ll, gl, eas, ers, las, gas, D, hM⟩ := Dk
    have Dk : DeskAt A H d M es := ⟨el, bk, ll, gl, eas, ers, las, gas, D, hM⟩
    have hI := hG.is
    have h60 := hI.lots
    refine q_asg (ed_lots T (ev_var rfl) D) fun H1 e1 => ?_
    refine q_asg (ev_sumL (D.mono e1).book (by omega) ML.made ML.founder (ev_var rfl) fun a l H2 e2 LA => ⟨rfl, et_B (et_founder T (ev_var rfl) LA), fun _ => el_made T (ev_var rfl) LA⟩) fun H2 e2 => ?_
    have L2' := ((D.mono e1).mono e2).book
    refine q_asgR (er_ints (ns := [vz ((((List.range (mbookOf es).lots.length).map (mbookOf es).lot).filter ML.founder).map ML.made).sum, vz ((((List.range (mbookOf es).lots.length).map (mbookOf es).lot).filter fun _ => true).map ML.planted).sum, vz ((((List.range (mbookOf es).lots.length).map (mbookOf es).lot).filter fun _ => true).map ML.lost).sum])
      (ea_cons (ev_var rfl) (ea_cons (ev_sumL L2' (by omega) ML.planted (fun _ => true) (ev_var rfl) fun a l H2 e2 LA => ⟨rfl, et_yes, fun _ => el_planted T (ev_var rfl) LA⟩) (ea_cons (ev_sumL L2' (by omega) ML.lost (fun _ => true) (ev_var rfl) fun a l H2 e2 LA => ⟨rfl, et_yes, fun _ => el_lost T (ev_var rfl) LA⟩) ea_nil))) (by show 3 ≤ 100; decide)) fun y H3 e3 ⟨p, ey, hp, hp3⟩ => ?_
    subst ey
    rw [filter_true] at hp3
    have L3 := L2'.mono e3
    exact s_deedRet rfl hto Dk ((e1.trans e2).trans e3) (er_catI (er_imp (er_ev (ev_var rfl)) fun y H4 e4 ey => ⟨p, ey, e4 _ _ hp3⟩) (newI_old (er_ints1 (ev_is (ev_sumI (er_lotItems L3 (by omega) ML.left (fun _ => true) (ev_var rfl) fun a l H2 e2 LA => ⟨rfl, et_yes, fun _ => ev_left T (ev_var rfl) LA⟩)) (by rw [filter_true])))) (by show 3 + 1 ≤ _; decide))
end
end LW
end
section
set_option Elab.async false
set_option linter.all false
set_option maxRecDepth 100000
set_option maxHeartbeats 4000000

set_option exponentiation.threshold 10000
namespace LW
open PySem PySem.Spec PyProof.Rows L2 Evl LF TbLtBook
section
variable {P : Program} {w : World} {K : PySem.W.Frag} {mg : Str → Option Value} {base : Heap} {A : Ad}
theorem ev_neV {σ : L2.St} {H : Hp} {ta tb : TE} {a b : Nat} (ha : Ev ta σ H (vi a)) (hb : Ev tb σ H (vi b)) : Ev (tOp rNe ta tb) σ H (.bl (!decide (a = b))) := ev_is (ev_op ha hb (rv_ne rfl)) (by
  congr 2
  by_cases h : a = b
  · subst h; simp
  · rw [decide_eq_false h, decide_eq_false (fun z => h (by injection z with z; omega))])
theorem ev_rem {σ : L2.St} {H : Hp} {to t1 t2 t3 : TE} {b ll gl p1 p2 : Addr} {las gas : List Addr} {B : MB} {n : Nat} {fs laid : List Nat} {E : XK} (L : BookIs A H b ll gl las gas B) (ho : Ev to σ H (.ref b)) (h1 : Ev t1 σ H (vi n)) (h2 : Ev t2 σ H (.ref p1)) (h3 : Ev t3 σ H (.ref p2)) (hn : n < B.lots.length) (hp1 : H p1 = some (.lst (vis fs))) (hp2 : H p2 = some (.lst (vis laid))) :
    Ev (tMeth A.c_Book "remainder" (spBook_remainder A) [] E to (tCons t1 (tCons t2 (tCons t3 tNil)))) σ H (.int (B.remainder n fs laid)) :=
  let ⟨_, hobj⟩ := L.obj
  ev_meth ho hobj lk_Book_remainder (ea_cons h1 (ea_cons h2 (ea_cons h3 ea_nil))) fun H1 e Q q E => ⟨b, ll, gl, p1, p2, las, gas, B, n, fs, laid, rfl, L.mono e, hn, e _ _ hp1, e _ _ hp2, fun H' e' => q H' e'⟩
theorem ev_max2' {σ : L2.St} {H : Hp} {ta tb : TE} {i j : Int} (ha : Ev ta σ H (.int i)) (hb : Ev tb σ H (.int j)) : Ev (tCB (fun xs H Q => ∃ i j, xs = [.int i, .int j] ∧ Q (.int (if j > i then j else i)) H) (tCons ta (tCons tb tNil))) σ H (.int (if j > i then j else i)) :=
  ev_cb (ea_cons ha (ea_cons hb ea_nil)) fun H1 e Q q => ⟨i, j, rfl, q H1 (Ex.refl H1)⟩
theorem ev_min2' {σ : L2.St} {H : Hp} {ta tb : TE} {i j : Int} (ha : Ev ta σ H (.int i)) (hb : Ev tb σ H (.int j)) : Ev (tCB (fun xs H Q => ∃ i j, xs = [.int i, .int j] ∧ Q (.int (if j < i then j else i)) H) (tCons ta (tCons tb tNil))) σ H (.int (if j < i then j else i)) :=
  ev_cb (ea_cons ha (ea_cons hb ea_nil)) fun H1 e Q q => ⟨i, j, rfl, q H1 (Ex.refl H1)⟩
theorem ok_lay (T : Txt K mg A) : FnOk P w K mg base (L2.CX P w) 7 A.f_lay A.d_lay ["desk", "args", "rows"] (spDeed A layM 1 2) := by
  refine T.fn_lay.okX sc_lay (fun vs H Q E h => ?_) (fun cdv Ar outer s H vs Q E hr h => ⟨_, (pss_cons (ps_expr (pe_call (ok_check_some T) (hr.mono (by decide)) rfl T.mgf_check_some T.fn_check_some.kp T.bi_check_some .nil passR (pa_cons (pv 0) (pa_cons (pv 1) (pa_cons (pe_ix ix_list (pv 2) pe_int (fun _ _ => rfl)) pa_nil)))))
    (pss_cons (ps_set (i := 3) sc_lay.nd rfl (Or.inl rfl) (pe_fld (pv 0) rfl))
    (pss_cons (ps_set (i := 4) sc_lay.nd rfl (Or.inl rfl) (pe_ix ix_list (pv 2) pe_int (fun _ _ => rfl)))
    (pss_cons (ps_expr (pe_call (ok_refuse T) (hr.mono (by decide)) rfl T.mgf_refuse T.fn_refuse.kp T.bi_refuse .nil passR (pa_cons (pe_cmpR op_ne (pe_callB call_len_seq (by rfl) T.b_len PySem.boot_len (pa_cons (pv 4) pa_nil)) (pe_callB call_len_seq (by rfl) T.b_len PySem.boot_len (pa_cons (pe_fld (pv 3) rfl) pa_nil)) (nomark _)) (pa_cons (pe_un un_neg pe_int) pa_nil))))
    (pss_cons (ps_for (passes_of rfl) rfl (pi_enum (by rfl) T.b_enumerate (pa_cons (pe_fld (pv 3) rfl) pa_nil)) (pg_tup rfl (pgs_cons (pg_name (i := 5) sc_lay.nd rfl (Or.inl rfl)) (pgs_cons (pg_name (i := 6) sc_lay.nd rfl (Or.inl rfl)) pgs_nil))) (pss_one (ps_if (pt_cmpR op_gt (pe_ix ix_list (pv 4) (pv 5) (fun _ _ => rfl)) (pe_ix ix_tup (pv 6) pe_int (fun _ _ => rfl)) (nomark _)) (pss_one (ps_raiseRef rfl T.low (hr.mono (by decide) : Room 3 _) takesR (pa_cons (pe_lst (pa_cons (pe_un un_neg pe_int) (pa_cons (pv 5) pa_nil))) pa_nil))) pss_nil)))
    (pss_cons (ps_for (passes_of rfl) rfl (pi_enum (by rfl) T.b_enumerate (pa_cons (pe_fld (pv 3) rfl) pa_nil)) (pg_tup rfl (pgs_cons (pg_name (i := 5) sc_lay.nd rfl (Or.inl rfl)) (pgs_cons (pg_name (i := 7) sc_lay.nd rfl (Or.inl rfl)) pgs_nil))) (pss_one (ps_if (pt_not (pt_chain op_le op_le pe_int (pe_meth (pv 3) T.cl_Book T.me_Book_remainder (ok_Book_remainder T) (hr.mono (by decide)) T.bi_Book_remainder .nil pass0 (pa_cons (pv 5) (pa_cons (pe_ix ix_list (pv 2) pe_int (fun _ _ => rfl)) (pa_cons (pv 4) pa_nil)))) (pe_op op_add (pe_op op_add (pe_meth0 (pv 7) T.cl_Lot T.me_Lot_left (ok_Lot_left T) (hr.mono (by decide)) T.bi_Lot_left .nil pass0) (pe_fld (pv 7) rfl)) (pe_fld (pv 7) rfl)))) (pss_one (ps_raiseRef rfl T.low (hr.mono (by decide) : Room 3 _) takesR (pa_cons (pe_lst (pa_cons (pe_un un_neg pe_int) (pa_cons (pv 5) pa_nil))) pa_nil))) pss_nil)))
    (pss_cons (ps_set (i := 8) sc_lay.nd rfl (Or.inl rfl) (pe_ix ix_list (pe_fld (pv 3) rfl) (pe_ix ix_list (pv 1) pe_int (fun _ _ => rfl)) (fun _ _ => rfl)))
    (pss_cons (ps_set (i := 9) sc_lay.nd rfl (Or.inl rfl) (pe_meth (pv 3) T.cl_Book T.me_Book_remainder (ok_Book_remainder T) (hr.mono (by decide)) T.bi_Book_remainder .nil pass0 (pa_cons (pe_ix ix_list (pv 1) pe_int (fun _ _ => rfl)) (pa_cons (pe_ix ix_list (pv 2) pe_int (fun _ _ => rfl)) (pa_cons (pv 4) pa_nil)))))
    (pss_one (ps_ret (pe_lst (pa_cons (pe_callB (call_max2 rfl) (by rfl) T.b_max (by decide +kernel) (pa_cons pe_int (pa_cons (pe_op op_sub (pe_op op_sub (pv 9) (pe_fld (pv 8) rfl)) (pe_fld (pv 8) rfl)) pa_nil))) (pa_cons (pe_callB (call_min2 rfl) (by rfl) T.b_min (by decide +kernel) (pa_cons (pv 9) (pa_cons (pe_meth0 (pv 8) T.cl_Lot T.me_Lot_left (ok_Lot_left T) (hr.mono (by decide)) T.bi_Lot_left .nil pass0) pa_nil))) pa_nil))))))))))))), ?_⟩)
  · obtain ⟨_, _, _, _, _, _, _, rfl, _⟩ := h
    rfl
  · obtain ⟨d, pa, pr, M, es, args, rows, rfl, Dk, hG, ha, hr', ⟨hs1, hs2, hs3⟩, hto⟩ := h
    obtain ⟨el, bk, ll, gl, eas, ers, las, gas, D, hM⟩ := Dk
    have Dk : DeskAt A H d M es := ⟨el, bk, ll, gl, eas, ers, las, gas, D, hM⟩
    obtain ⟨n, rfl⟩ := args1 hs1
    obtain ⟨row, laid, rfl⟩ := rows2 hs2
    obtain ⟨ra, rb, hpr, hra, hrb⟩ := rowsV2 hr'
    refine q_chkSome D (ev_var rfl) (ev_var rfl) (ev_ixL (ev_var rfl) (sq_of hpr) (ev_c (v := .int 0)) rfl) ha rfl hra (fun ns h => hto.no (next_some h)) fun hc H1 e1 => ?_
    obtain ⟨c1, c2, c3⟩ := chkSome_none hc
    refine q_asg (ed_book T (ev_var rfl) (D.mono e1)) fun H2 e2 => ?_
    refine q_asg (ev_ixL (ev_var rfl) (sq_of ((e1.trans e2) _ _ hpr)) (ev_c (v := .int 1)) rfl) fun H3 e3 => ?_
    have e03 := (e1.trans e2).trans e3
    have L3 := D.book.mono e03
    refine q_refuse (c := !decide (laid.length = (mbookOf es).legs.length)) (code := -13) (ev_neV (ev_lenV (ev_var rfl) (e03 _ _ hrb)) (ev_is (ev_lenL (eb_legs T (ev_var rfl) L3) (sq_of L3.hg)) (by rw [List.length_map, L3.gn]))) (ev_un ev_c ru_neg) (fun ns h => (hto.no ((next_none hc).trans (next_some h))).mono e03) fun hlen H4 e4 => ?_
    have e04 := e03.trans e4
    have hleq : laid.length = (mbookOf es).legs.length := by
      have := gdf hlen
      rw [Bool.not_eq_false', decide_eq_true_eq] at this
      exact this
    refine q_forEnum (eb_legs T (ev_var rfl) (D.book.mono e04)) (sq_of (D.book.mono e04).hg) (fun i σ' H' => ∃ v5 v6 : Option V, σ' = [some (.ref d), some (.ref pa), some (.ref pr), some (.ref bk), some (.ref rb), v5, v6, none, none, none] ∧ Ex H H' ∧ overM laid 0 (mbookOf es).legs = overM laid i ((mbookOf es).legs.drop i))
      (fun H5 e5 => ⟨_, _, rfl, e04.trans e5, rfl⟩) (fun i σ' H' _ ⟨_, _, _, e', _⟩ => sq_of (D.book.mono e').hg) (fun i x σ' H' hx ⟨v5, v6, es', e', hov⟩ H5 e5 => ?_) (fun σ' H5 ⟨v5, v6, es', e05, hov⟩ => ?_)
    · subst es'
      have e05 := e'.trans e5
      obtain ⟨a, ex, hga, hi, hg, LG⟩ := gas_at (D.book.mono e05) hx
      subst ex
      rw [over_drop hg] at hov
      have hl : laid[i]? = some (laid.getD i 0) := by rw [List.getD_eq_getElem?_getD, List.getElem?_eq_getElem (by omega)]; rfl
      refine s_when (et_test (ev_gtN (ev_ixV (ev_var rfl) (e05 _ _ hrb) (ev_var rfl) hl) (ev_ixT (ev_var rfl) (st_of LG) (ev_c (v := .int 2)) rfl))) (fun hb H6 e6 => ?_) (fun hb H6 e6 => ⟨_, _, rfl, e05.trans e6, ?_⟩)
      · have hb := of_decide_eq_true hb
        rw [if_pos hb] at hov
        exact s_raiseR (er_ints2 (ev_un ev_c ru_neg) (ev_var rfl)) ((hto.no ((next_none hc).trans ((next_none hlen).trans (next_some hov)))).mono (e05.trans e6))
      · have hb := of_decide_eq_false hb
        rw [if_neg hb] at hov
        exact hov
    · subst es'
      rw [List.length_map, D.book.gn, List.drop_length] at hov
      have hov : overM laid 0 (mbookOf es).legs = none := hov
      refine q_forEnum (eb_lots T (ev_var rfl) (D.book.mono e05)) (sq_of (D.book.mono e05).hl) (fun i σ' H' => ∃ v5 v7 : Option V, σ' = [some (.ref d), some (.ref pa), some (.ref pr), some (.ref bk), some (.ref rb), v5, v6, v7, none, none] ∧ Ex H H' ∧ wrongM (mbookOf es) row laid (mbookOf es).lots.length 0 = wrongM (mbookOf es) row laid ((mbookOf es).lots.length - i) i)
        (fun H6 e6 => ⟨_, _, rfl, e05.trans e6, rfl⟩) (fun i σ' H' _ ⟨_, _, _, e', _⟩ => sq_of (D.book.mono e').hl) (fun i x σ' H' hx ⟨v5, v7, es', e', hwr⟩ H6 e6 => ?_) (fun σ' H6 ⟨v5, v7, es', e06, hwr⟩ => ?_)
      · subst es'
        have e06 := e'.trans e6
        obtain ⟨a, ex, hla, hi, LA⟩ := las_at (D.book.mono e06) hx
        subst ex
        rw [show (mbookOf es).lots.length - i = ((mbookOf es).lots.length - (i + 1)) + 1 by omega] at hwr
        have hst : wrongM (mbookOf es) row laid (((mbookOf es).lots.length - (i + 1)) + 1) i = if remOk (mbookOf es) row laid i = true then wrongM (mbookOf es) row laid ((mbookOf es).lots.length - (i + 1)) (i + 1) else some [-15, (i : Int)] := rfl
        rw [hst] at hwr
        refine s_when (b := !remOk (mbookOf es) row laid i) (et_not (et_test (ev_chain (b1 := decide (0 ≤ (mbookOf es).remainder i row laid)) (b2 := decide ((mbookOf es).remainder i row laid ≤ ((mbookOf es).lot i).left + ((mbookOf es).lot i).planted + ((mbookOf es).lot i).lost)) ev_c (ev_rem (D.book.mono e06) (ev_var rfl) (ev_var rfl) (ev_ixL (ev_var rfl) (sq_of (e06 _ _ hpr)) (ev_c (v := .int 0)) rfl) (ev_var rfl) hi (e06 _ _ hra) (e06 _ _ hrb))
          (ev_op (ev_op (ev_left T (ev_var rfl) LA) (el_planted T (ev_var rfl) LA) rv_I0) (el_lost T (ev_var rfl) LA) rv_I0) rfl rfl))) (fun hb H7 e7 => ?_) (fun hb H7 e7 => ⟨_, _, rfl, e06.trans e7, ?_⟩)
        · rw [Bool.not_eq_true'] at hb
          rw [if_neg (by rw [hb]; decide)] at hwr
          exact s_raiseR (er_ints2 (ev_un ev_c ru_neg) (ev_var rfl)) ((hto.no ((next_none hc).trans ((next_none hlen).trans ((next_none hov).trans hwr)))).mono (e06.trans e7))
        · rw [Bool.not_eq_false'] at hb
          rw [if_pos hb] at hwr
          exact hwr
      · subst es'
        rw [List.length_map, D.book.ln, Nat.sub_self] at hwr
        have hwr : wrongM (mbookOf es) row laid (mbookOf es).lots.length 0 = none := hwr
        have L6 := D.book.mono e06
        obtain ⟨a, hla, LA⟩ := L6.lotN c1
        refine q_asg (eb_lotAt (eb_lots T (ev_var rfl) L6) L6 (ev_ixV (i := 0) (ev_var rfl) (e06 _ _ ha) (ev_c (v := vi 0)) rfl) hla) fun H7 e7 => ?_
        have e07 := e06.trans e7
        refine q_asg (ev_rem (D.book.mono e07) (ev_var rfl) (ev_ixV (i := 0) (ev_var rfl) (e07 _ _ ha) (ev_c (v := vi 0)) rfl) (ev_ixL (ev_var rfl) (sq_of (e07 _ _ hpr)) (ev_c (v := .int 0)) rfl) (ev_var rfl) c1 (e07 _ _ hra) (e07 _ _ hrb)) fun H8 e8 => ?_
        have LA8 := (LA.mono e7).mono e8
        exact s_deedRet rfl (hto.yes ((next_none hc).trans ((next_none hlen).trans ((next_none hov).trans hwr)))) Dk (e07.trans e8) (er_ints (ea_cons (ev_max2' ev_c (ev_op (ev_op (ev_var rfl) (el_planted T (ev_var rfl) LA8) rv_I0) (el_lost T (ev_var rfl) LA8) rv_I0)) (ea_cons (ev_min2' (ev_var rfl) (ev_left T (ev_var rfl) LA8)) ea_nil)) (by show 2 ≤ 100; decide))
end
end LW
end
section
set_option Elab.async false
set_option linter.all false
set_option maxRecDepth 100000
set_option maxHeartbeats 4000000

set_option exponentiation.threshold 10000
namespace LW
open PySem PySem.Spec PyProof.Rows L2 Evl LF TbLtBook
section
variable {P : Program} {w : World} {K : PySem.W.Frag} {mg : Str → Option Value} {base : Heap} {A : Ad}
theorem el_of_er {te : TE} {σ : L2.St} {H : Hp} {ns : List Int} (h : ∀ H1, Ex H H1 → EvR te σ H1 (NewI H1 ns)) : EvL te σ H (ns.map V.int) := fun H1 e Q q =>
  (h H1 e) H1 (Ex.refl H1) Q fun y H2 e2 ⟨p, ey, hp, h2⟩ => by rw [ey]; exact q p H2 hp e2 h2
/-- len(d) -/
theorem ev_lenD {te : TE} {σ : L2.St} {H : Hp} {d : Addr} {kvs : List (Key × V)} (h : Ev te σ H (.ref d)) (hd : H d = some (.dK kvs)) : Ev (tCB (fun xs H Q => ∃ a kvs, xs = [V.ref a] ∧ H a = some (.dK kvs) ∧ Q (.int kvs.length) H) (tCons te tNil)) σ H (vi kvs.length) := fun H1 e Q q =>
  h H1 e _ fun H2 e2 => ⟨d, kvs, rfl, (e.trans e2) _ _ hd, q H2 e2⟩
/-- sorted(d) -/
theorem er_sortedD {te : TE} {σ : L2.St} {H : Hp} {d : Addr} {kvs : List (Key × V)} {ks : List Int} {ns : List Int} (h : Ev te σ H (.ref d)) (hd : H d = some (.dK kvs)) (hk : kvs.map (·.1) = ks.map Sum.inl) (hl : ks.length < 64) (hs : ∀ ys : List Int, ys.Perm ks → ys.Pairwise (· ≤ ·) → ys = ns) :
    EvR (tCB (fun xs H Q => ∃ (a : Addr) (kvs : List (Key × V)) (ks : List Int), xs = [.ref a] ∧ Rd H a (.dK kvs) ∧ kvs.map (·.1) = ks.map Sum.inl ∧ ks.length < 64 ∧
      ∀ (ys : List Int) (p : Addr), ys.Perm ks → ys.Pairwise (· ≤ ·) → H p = none → Q (.ref p) (upd H p (.lst (ys.map V.int)))) (tCons te tNil)) σ H (NewI H ns) := fun H1 e Q q =>
  h H1 e _ fun H2 e2 => ⟨d, kvs, ks, rfl, .inl ((e.trans e2) _ _ hd), hk, hl, fun ys p h1 h2 hp => q _ _ (e2.trans (Ex.new hp)) ⟨p, rfl, fresh_back (e.trans e2) hp, by rw [upd_same, hs ys h1 h2]⟩⟩
theorem tab_keys {β : Type} (g : β → V) (t : List (Int × β)) : (tab g t).map (·.1) = (t.map (·.1)).map Sum.inl := by unfold tab; rw [List.map_map, List.map_map]; rfl
/-- list(ratio(a, b)) -/
theorem er_listFr {te : TE} {σ : L2.St} {H H0 : Hp} {p : Fr} (h : EvR te σ H (fun y H2 => ∃ t, y = .ref t ∧ H0 t = none ∧ FrAt H2 t p)) : EvR (tCB (rListS K) (tCons te tNil)) σ H (NewI H [vz p.1, vz p.2]) := fun H1 e Q q =>
  h H1 e _ fun y H2 e2 ⟨t, ey, _, ht⟩ => by
    subst ey
    exact ⟨t, _, rfl, .inr (st_of ht), fun l hl => q _ _ (e2.trans (Ex.new hl)) ⟨l, rfl, fresh_back (e.trans e2) hl, upd_same⟩⟩
theorem ok_shares (T : Txt K mg A) : FnOk P w K mg base (L2.CX P w) 6 A.f_shares A.d_shares ["desk", "args", "rows"] (spDeed A sharesM 1 0) := by
  refine T.fn_shares.okX sc_shares (fun vs H Q E h => ?_) (fun cdv Ar outer s H vs Q E hr h => ⟨_, (pss_cons (ps_expr (pe_call (ok_check_lot T) (hr.mono (by decide)) rfl T.mgf_check_lot T.fn_check_lot.kp T.bi_check_lot .nil passR (pa_cons (pv 0) (pa_cons (pe_ix ix_list (pv 1) pe_int (fun _ _ => rfl)) pa_nil))))
    (pss_cons (ps_set (i := 3) sc_shares.nd rfl (Or.inl rfl) (pe_meth (pe_fld (pv 0) rfl) T.cl_Book T.me_Book_shares (ok_Book_shares T) (hr.mono (by decide)) T.bi_Book_shares .nil pass0 (pa_cons (pe_ix ix_list (pv 1) pe_int (fun _ _ => rfl)) pa_nil)))
    (pss_cons (ps_set (i := 4) sc_shares.nd rfl (Or.inl rfl) (pe_meth0 (pe_ix ix_list (pe_fld (pe_fld (pv 0) rfl) rfl) (pe_ix ix_list (pv 1) pe_int (fun _ _ => rfl)) (fun _ _ => rfl)) T.cl_Lot T.me_Lot_left (ok_Lot_left T) (hr.mono (by decide)) T.bi_Lot_left .nil pass0))
    (pss_cons (ps_set (i := 5) sc_shares.nd rfl (Or.inl rfl) (pe_lst (pa_cons (pe_callB call_lenD (by rfl) T.b_len PySem.boot_len (pa_cons (pv 3) pa_nil)) pa_nil)))
    (pss_cons (ps_for (passes_of rfl) rfl (pi_list (pe_callB (call_sortedDI rfl) (by rfl) T.b_sorted (by decide +kernel) (pa_cons (pv 3) pa_nil))) (pg_name (i := 6) sc_shares.nd rfl (Or.inl rfl)) (pss_cons (ps_asg (pe_dget (hu_of hr) (pv 3) (pv 6) (fun _ _ => rfl)) (pg_tup rfl (pgs_cons (pg_name (i := 7) sc_shares.nd rfl (Or.inl rfl)) (pgs_cons (pg_name (i := 8) sc_shares.nd rfl (Or.inl rfl)) pgs_nil))))
    (pss_one (ps_expr (pe_bm PySem.F.plainAttrs_list PySem.F.slot_list_extend PySem.F.type_list_extend mt_extendA (pv 5) (pa_cons (pe_op op_cat (pe_lst (pa_cons (pv 6) pa_nil)) (pe_callTy call_list_of (by rfl) T.b_list (by decide +kernel) (pa_cons (pe_call (ok_ratio T) (hr.mono (by decide)) rfl T.mgf_ratio T.fn_ratio.kp T.bi_ratio .nil pass0 (pa_cons (pe_op op_mulW (pv 7) (pv 4)) (pa_cons (pv 8) pa_nil))) pa_nil))) pa_nil))))))
    (pss_one (ps_ret (pv 5)))))))), ?_⟩)
  · obtain ⟨_, _, _, _, _, _, _, rfl, _⟩ := h
    rfl
  · obtain ⟨d, pa, pr, M, es, args, rows, rfl, Dk, hG, ha, hr', ⟨hs1, hs2, hs3⟩, hto⟩ := h
    obtain ⟨el, bk, ll, gl, eas, ers, las, gas, D, hM⟩ := Dk
    have Dk : DeskAt A H d M es := ⟨el, bk, ll, gl, eas, ers, las, gas, D, hM⟩
    obtain ⟨n, rfl⟩ := args1 hs1
    have hI := hG.is
    have h60 := hI.lots
    have X := Good.mix hI
    refine q_chk (sp := spCheck_lot A) (o := chkLot (mbookOf es) n) (ea_cons (ev_var rfl) (ea_cons (ev_ixV (i := 0) (ev_var rfl) ha (ev_c (v := vi 0)) rfl) ea_nil)) (fun H1 e Q E h => ⟨d, el, bk, ll, gl, eas, ers, las, gas, es, n, rfl, D.mono e, h⟩) (fun ns h => hto.no h) fun hlt H1 e1 => ?_
    have hn := chkLot_none hlt
    have D1 := D.mono e1
    obtain ⟨_, hobj⟩ := D1.book.obj
    refine q_asgR (er_meth (R := fun y H2 => ∃ dd, y = .ref dd ∧ FD H2 dd (((mbookOf es).shareTabs (n + 1)).getD n [])) (ed_book T (ev_var rfl) D1) hobj lk_Book_shares (ea_cons (ev_ixV (i := 0) (ev_var rfl) (e1 _ _ ha) (ev_c (v := vi 0)) rfl) ea_nil) fun H2 e Q q E => ⟨bk, ll, gl, las, gas, mbookOf es, n, rfl, D1.book.mono e, X, hn, fun dd H' e' h' => q _ H' e' ⟨dd, rfl, h'⟩⟩) fun y H2 e2 ⟨dd, ey, hF⟩ => ?_
    subst ey
    have hto' := hto.yes hlt
    have hKn := shareTabs_ok X (n + 1) (by omega)
    have hTn : TabF (mbookOf es).lots.length ((mbookOf es).Dn (n + 1)) (Mn (n + 1)) (((mbookOf es).shareTabs (n + 1)).getD n []) := hKn.at (by omega)
    have hto' : DeedTo A H d M es (es, vz (((mbookOf es).shareTabs (n + 1)).getD n []).length :: (keysIn (((mbookOf es).shareTabs (n + 1)).getD n []) (mbookOf es).lots.length).flatMap fun (i : Nat) => [vz i, vz (ratioN (((look (((mbookOf es).shareTabs (n + 1)).getD n []) (i : Int)).getD (0, 1)).1 * ((mbookOf es).lot n).left.toNat) ((look (((mbookOf es).shareTabs (n + 1)).getD n []) (i : Int)).getD (0, 1)).2).1, vz (ratioN (((look (((mbookOf es).shareTabs (n + 1)).getD n []) (i : Int)).getD (0, 1)).1 * ((mbookOf es).lot n).left.toNat) ((look (((mbookOf es).shareTabs (n + 1)).getD n []) (i : Int)).getD (0, 1)).2).2]) Q E := hto'
    generalize ((mbookOf es).shareTabs (n + 1)).getD n [] = t at hF hTn hto'
    have e02 := e1.trans e2
    have D2 := D.mono e02
    have hlf := hI.rel.left n hn
    have hlm : ((mbookOf es).lot n).left.toNat < 2 ^ 28 := by
      have h1 := (X.made n hn).2
      have h2 : ((mbookOf es).lot n).left ≤ ((mbookOf es).lot n).made := by unfold ML.left; omega
      omega
    refine q_asg (v := vi ((mbookOf es).lot n).left.toNat) (ev_is (ed_left T (ev_var rfl) D2 (ev_ixV (i := 0) (ev_var rfl) (e02 _ _ ha) (ev_c (v := vi 0)) rfl) hn) (by show V.int _ = V.int _; congr 1; omega)) fun H3 e3 => ?_
    generalize ((mbookOf es).lot n).left.toNat = lf at hlm hto'
    obtain ⟨as, F1, F2, F3⟩ := hF.mono e3
    have hal : as.length = t.length := by have := congrArg List.length F2; rwa [List.length_map, List.length_map] at this
    have htl := hTn.len
    refine q_asgR (er_ints1 (i := vz t.length) (ev_is (ev_lenD (ev_var rfl) F1) (by rw [tab_len, hal]; rfl))) fun y H4 e4 ⟨np, ey, hnp, hnp4⟩ => ?_
    subst ey
    have e04 := (e02.trans e3).trans e4
    have hnp0 : H np = none := fresh_back (e02.trans e3) hnp
    have hkl := keysIn_le t (mbookOf es).lots.length
    have fin : ∀ (σ : L2.St) (H5 : Hp), Ex H H5 → σ[5]? = some (some (.ref np)) → H5 np = some (.lst ((vz t.length :: (keysIn t (mbookOf es).lots.length).flatMap fun (i : Nat) => [vz i, vz (ratioN (((look t (i : Int)).getD (0, 1)).1 * lf) ((look t (i : Int)).getD (0, 1)).2).1, vz (ratioN (((look t (i : Int)).getD (0, 1)).1 * lf) ((look t (i : Int)).getD (0, 1)).2).2]).map V.int)) → tRet (tVar 5) { nx := fun x H' => Q V.non H', rt := Q } σ H5 := fun σ H5 e5 h5 hp5 =>
      s_ret (ev_var h5) fun H6 e6 => hto'.read Dk hnp0 (e5.trans e6) (e6 _ _ hp5)
    refine q_forNLn (xs := ((keysIn t (mbookOf es).lots.length).map vz).map V.int) (el_of_er fun H5 e5 => er_sortedD (ks := as.map (·.1)) (ev_var rfl) (e5 _ _ (e4 _ _ F1)) (tab_keys _ _) (by rw [List.length_map]; omega) fun ys h1 h2 => keys_sorted hTn.nd hTn.rng (by rw [← F2]; exact h1) h2)
      (fun sp i σ' H' => ∃ v6 v7 v8 : Option V, σ' = [some (.ref d), some (.ref pa), some (.ref pr), some (.ref dd), some (vi lf), some (.ref np), v6, v7, v8] ∧ Ex H H' ∧ sp ≠ np ∧ H' sp = some (.lst (((keysIn t (mbookOf es).lots.length).map vz).map V.int)) ∧ H' dd = some (.dK (tab V.ref as)) ∧ (∀ k a, look as k = some a → ∃ p, look t k = some p ∧ FrAt H' a p) ∧
        H' np = some (.lst ((vz t.length :: ((keysIn t (mbookOf es).lots.length).take i).flatMap fun (i : Nat) => [vz i, vz (ratioN (((look t (i : Int)).getD (0, 1)).1 * lf) ((look t (i : Int)).getD (0, 1)).2).1, vz (ratioN (((look t (i : Int)).getD (0, 1)).1 * lf) ((look t (i : Int)).getD (0, 1)).2).2]).map V.int)))
      (fun sp H5 hsp e5 h5 => ⟨_, _, _, rfl, e04.trans e5, fun z => (by rw [z, hnp4] at hsp; cases hsp), h5, e5 _ _ (e4 _ _ F1), fun k a q => (let ⟨p, p1, p2⟩ := F3 k a q; ⟨p, p1, (e4.trans e5) _ _ p2⟩), e5 _ _ hnp4⟩) (fun sp i σ' H' _ ⟨_, _, _, _, _, _, q, _⟩ => sq_of q) (fun sp i x σ' H5 hx ⟨v6, v7, v8, es', e05, nsp, hsp, hdd, hlk, hnp5⟩ => ?_) (fun sp σ' H5 ⟨v6, v7, v8, es', e05, nsp, hsp, hdd, hlk, hnp5⟩ => ?_)
    · subst es'
      rw [List.getElem?_map, List.getElem?_map] at hx
      obtain ⟨y, hy, ex⟩ := Option.map_eq_some_iff.mp hx
      obtain ⟨k, hk, ek⟩ := Option.map_eq_some_iff.mp hy
      subst ex ek
      obtain ⟨hkn, p, hp⟩ := keysIn_mem (List.mem_of_getElem? hk)
      obtain ⟨a, ha'⟩ : ∃ a, look as (k : Int) = some a := by
        cases e : look as (k : Int) with
        | some a => exact ⟨a, rfl⟩
        | none =>
          have h1 := look_none.mp e
          rw [F2] at h1
          exact absurd (look_key.mp (by rw [hp]; rfl)) h1
      obtain ⟨p', hp1, hp2⟩ := hlk (k : Int) a ha'
      rw [hp] at hp1
      cases hp1
      have hfr := (hTn.fr (k : Int) p hp).small X (by omega)
      refine q_asgT2 (ev_dget (v := .ref a) (k := (k : Int)) hdd (ev_var rfl) (ev_var rfl) (by rw [valV_tab, ha']; rfl)) (st_of hp2) fun H6 e6 => ?_
      have m1 : CMulW (p.1 : Int) (lf : Int) := mul_okN hfr.num hlm (by decide) (by decide) (by decide)
      have htk := List.length_take_le' i (keysIn t (mbookOf es).lots.length)
      refine s_extR (R := fun _ zs _ => zs = ([vz k] ++ [vz (ratioN (p.1 * lf) p.2).1, vz (ratioN (p.1 * lf) p.2).2]).map V.int) (e6 _ _ hnp5) (ev_var rfl) (er_imp (er_catI (a := [vz k]) (b := [vz (ratioN (p.1 * lf) p.2).1, vz (ratioN (p.1 * lf) p.2).2]) (newI_old (er_ints1 (ev_var rfl))) (newI_old (er_listFr (er_ratio (a := p.1 * lf) (b := p.2) (ea_cons (ev_op (ev_var rfl) (ev_var rfl) (rv_I m1)) (ea_cons (ev_var rfl) ea_nil)) hfr.pos (pow_lt hfr.den (by decide))))) (by show 1 + 2 ≤ _; decide)) fun y H7 e7 ⟨q, ey, _, hq⟩ => ⟨q, _, ey, .inl hq, ?_, rfl⟩) fun q zs H7 e7 hzs => ⟨_, _, _, rfl, (e05.trans (e6.trans e7)).mut hnp0, nsp, ?_, ?_, fun k' a' q' => ?_, ?_⟩
      · rw [List.length_map, List.length_map, List.length_cons, flatMap_len (c := 3) _ (fun _ _ => rfl)]
        show _ + 1 + 3 ≤ 100000
        omega
      · rw [upd_ne nsp]; exact (e6.trans e7) _ _ hsp
      · rw [upd_ne (fun z => by rw [z, hnp5] at hdd; cases hdd)]; exact (e6.trans e7) _ _ hdd
      · obtain ⟨p2, q1, q2⟩ := hlk k' a' q'
        refine ⟨p2, q1, ?_⟩
        unfold FrAt
        rw [upd_ne (fun z => by rw [FrAt, z, hnp5] at q2; cases q2)]
        exact (e6.trans e7) _ _ q2
      · rw [upd_same, hzs, take_more hk, List.flatMap_append, ← List.map_append, ← List.cons_append]
        congr 2
        simp [hp]
    · subst es'
      rw [List.length_map, List.length_map, List.take_length] at hnp5
      exact fin _ H5 e05 rfl hnp5
/-- new lists of ints -/
theorem ints_of_told {H : Hp} {p : Addr} {ys : List V} {is : List Nat} {wf : Nat → List Int} (h : Told (fun i y H => ∃ q, y = .ref q ∧ H q = some (.lst ((wf i).map V.int))) H is ys) (hp : H p = some (.lst ys)) : IntsAt H p (is.map wf) := by
  have hall : ∀ y ∈ ys, ∃ q, y = V.ref q := fun y hy => by
    obtain ⟨j, hj⟩ := List.mem_iff_getElem?.mp hy
    have hl : j < is.length := by rw [← h.1]; exact (List.getElem?_eq_some_iff.mp hj).1
    obtain ⟨y', h1, q, h2, _⟩ := h.2 j _ (List.getElem?_eq_getElem hl)
    rw [hj] at h1
    exact ⟨q, by rw [Option.some.inj h1, h2]⟩
  have hmap : ∀ zs : List V, (∀ y ∈ zs, ∃ q, y = V.ref q) → ∃ as : List Addr, zs = as.map V.ref := by
    intro zs
    induction zs with
    | nil => exact fun _ => ⟨[], rfl⟩
    | cons z r ih =>
      intro hz
      obtain ⟨q, hq⟩ := hz z List.mem_cons_self
      obtain ⟨as, ha⟩ := ih fun y hy => hz y (List.mem_cons_of_mem _ hy)
      exact ⟨q :: as, by rw [hq, ha]; rfl⟩
  obtain ⟨as, ha⟩ := hmap ys hall
  subst ha
  refine ⟨as, hp, by have := h.1; rw [List.length_map] at this; rw [this, List.length_map], fun i a p' h1 h2 => ?_⟩
  rw [List.getElem?_map] at h2
  obtain ⟨k, hk, ek⟩ := Option.map_eq_some_iff.mp h2
  obtain ⟨y, h3, q, h4, h5⟩ := h.2 i k hk
  rw [List.getElem?_map, h1] at h3
  have : V.ref a = y := Option.some.inj h3
  rw [h4] at this
  cases this
  rw [← ek]; exact .inl h5
/-- [[..] for i in a list of naturals] -/
theorem er_lcI {tl te : TE} {σ : L2.St} {H : Hp} {r : Addr} {l : List Nat} {i : Nat} {vs : List Nat} (wf : Nat → List Int) (h : Ev tl σ H (.ref r)) (hr : H r = some (.lst (vis l))) (hn : l.length ≤ 50000)
    (hturn : ∀ (k : Nat) (n : Nat) (H1 : Hp), l[k]? = some n → Ex H H1 → wipe ((wipe σ vs).set i (some (vi n))) vs = wipe σ vs ∧ EvR te ((wipe σ vs).set i (some (vi n))) H1 (NewI H1 (wf n))) :
    EvR (tLc (iList K tl) (gName i) tYes te vs) σ H (fun y H2 => ∃ p, y = .ref p ∧ IntsAt H2 p (l.map wf)) := by
  refine er_imp (er_lc (fun k y H => ∃ q, y = .ref q ∧ H q = some (.lst ((wf (l.getD k 0)).map V.int))) (fun _ => true) (fun k => (wipe σ vs).set i (some (vi (l.getD k 0)))) (fun i y H1 H2 e ⟨q, h1, h2⟩ => ⟨q, h1, e _ _ h2⟩)
      (fun i y H1 D xs ys hD hne ⟨q, h1, h2⟩ => ⟨q, h1, by rw [upd_ne (fun z => hne (by rw [h1, z]))]; exact h2⟩) (monoL (K := K) (a := r) (xs := vis l)) (by rw [vis_len]; exact hn) (wl_list h (sq_of hr)) fun k x H1 H2 hk e1 g1 ⟨eH, hx⟩ => ?_) fun y H2 _ ⟨p, ys, h1, h2, h3, h4⟩ => ⟨p, h1, ?_⟩
  · subst eH
    obtain ⟨n, hn', ex⟩ := vis_at hx
    rw [getD_of hn', ex]
    obtain ⟨q1, q2⟩ := hturn k n H2 hn' e1
    refine ⟨Ex.refl _, eg_name, q1, et_yes, fun _ => er_imp q2 fun y H3 e3 ⟨q, z1, z2, z3⟩ => ⟨⟨q, z1, z3⟩, fun D xs hD z => ?_⟩⟩
    rw [z1] at z
    cases z
    rw [hD] at z2; cases z2
  · have := ints_of_told (wf := fun k => wf (l.getD k 0)) h4 h3
    rw [vis_len, idx_all, range_getD l 0 wf] at this
    exact this
theorem er_flatR {σ : L2.St} {H : Hp} {te : TE} {nss : List (List Int)} {E : XK} (h : EvR te σ H (fun y H2 => ∃ p, y = .ref p ∧ IntsAt H2 p nss)) (hz : nss.flatten.length ≤ 90000) : EvR (tCall spFlat [] E (tCons te tNil)) σ H (NewI H nss.flatten) := fun H1 e Q q =>
  (ear_new h) H1 e _ fun vs H2 e2 ⟨y, ev, p, ey, hI⟩ => by
    subst ev ey
    show spFlat _ H2 Q E
    exact ⟨p, nss, rfl, hI, hz, fun r H' hr e' h' => q _ H' (e2.trans e') ⟨r, rfl, fresh_back (e.trans e2) hr, h'⟩⟩
theorem er_stepsFrom {σ : L2.St} {H : Hp} {to : TE} {ta : TA} {b ll gl : Addr} {las gas : List Addr} {B : MB} {l : List Nat} {back : Bool} {E : XK} (L : BookIs A H b ll gl las gas B) (F : B.Fine) (ho : Ev to σ H (.ref b)) (h : EvAR ta σ H (fun vs H2 => ∃ p, vs = [.ref p, .bl back] ∧ H2 p = some (.lst (vis l)))) (nd : l.Nodup) (hl : ∀ n ∈ l, n < B.lots.length) :
    EvR (tMeth A.c_Book "steps_from" (spBook_steps_from A) [] E to ta) σ H (fun y H2 => ∃ d, y = .ref d ∧ H2 d = some (.dK (tab V.int (fallT B l back)))) := fun H1 e Q q => by
  obtain ⟨dx, hobj⟩ := L.obj
  exact ho H1 e _ fun H2 e2 => ⟨b, dx, _, rfl, (e.trans e2) _ _ hobj, lk_Book_steps_from, h H2 (e.trans e2) _ fun vs H3 e3 ⟨p, ev, hp⟩ => (by
    subst ev
    rw [List.append_nil]
    exact ⟨b, ll, gl, p, las, gas, B, l, back, rfl, L.mono ((e.trans e2).trans e3), F, hp, nd, hl, fun d H' hd e' h' => q _ H' ((e2.trans e3).trans e') ⟨d, rfl, h'⟩⟩)⟩
theorem ok_falls (T : Txt K mg A) : FnOk P w K mg base (L2.CX P w) 5 A.f_falls A.d_falls ["desk", "args", "rows"] (spDeed A fallsM 0 1) := by
  refine T.fn_falls.okX sc_falls (fun vs H Q E h => ?_) (fun cdv Ar outer s H vs Q E hr h => ⟨_, (pss_cons (ps_expr (pe_call (ok_check_set T) (hr.mono (by decide)) rfl T.mgf_check_set T.fn_check_set.kp T.bi_check_set .nil passR (pa_cons (pv 0) (pa_cons (pe_ix ix_list (pv 2) pe_int (fun _ _ => rfl)) pa_nil))))
    (pss_cons (ps_set (i := 3) sc_falls.nd rfl (Or.inr rfl) (pe_meth (pe_fld (pv 0) rfl) T.cl_Book T.me_Book_steps_from (ok_Book_steps_from T) (hr.mono (by decide)) T.bi_Book_steps_from .nil pass0 (pa_cons (pe_ix ix_list (pv 2) pe_int (fun _ _ => rfl)) (pa_cons pe_bl pa_nil))))
    (pss_one (ps_ret (pe_op op_cat (pe_lst (pa_cons (pe_callB call_lenD (by rfl) T.b_len PySem.boot_len (pa_cons (pv 3) pa_nil)) pa_nil)) (pe_call (ok_flat T) (hr.mono (by decide)) rfl T.mgf_flat T.fn_flat.kp T.bi_flat .nil pass0 (pa_cons (pe_lc (g := (gName 4)) (tt := tYes) (te := (tLst (tCons (tVar 4) (tCons (tDGet (tVar 3) (tVar 4)) (tCons (tMeth A.c_Lot "left" (spLot_left A) [] E0 (tOp (rIxL K) (tFld K (tFld K (tVar 0) "book") "lots") (tVar 4)) tNil) tNil))))) (own := [("lot", 4)]) rfl sc_falls.nd (pi_list (pe_callB (call_sortedDI rfl) (by rfl) T.b_sorted (by decide +kernel) (pa_cons (pv 3) pa_nil))) (blkOk_by (own := [("lot", 4)]) (N := N_falls) (sc := defScope s_falls) (by decide +kernel)) (fun _ _ _ _ _ => by exact (pg_name (i := 4) sc_falls.nd rfl (Or.inl rfl))) (fun _ _ _ _ _ => by exact pts_nil) (fun _ _ _ _ _ => by exact (pe_lst (pa_cons (pv 4) (pa_cons (pe_dget (hu_of hr) (pv 3) (pv 4) (fun _ _ => rfl)) (pa_cons (pe_meth0 (pe_ix ix_list (pe_fld (pe_fld (pv 0) rfl) rfl) (pv 4) (fun _ _ => rfl)) T.cl_Lot T.me_Lot_left (ok_Lot_left T) (hr.mono (by decide)) T.bi_Lot_left .nil pass0) pa_nil)))))) pa_nil))))))), ?_⟩)
  · obtain ⟨_, _, _, _, _, _, _, rfl, _⟩ := h
    rfl
  · obtain ⟨d, pa, pr, M, es, args, rows, rfl, Dk, hG, ha, hr', ⟨hs1, hs2, hs3⟩, hto⟩ := h
    obtain ⟨el, bk, ll, gl, eas, ers, las, gas, D, hM⟩ := Dk
    have Dk : DeskAt A H d M es := ⟨el, bk, ll, gl, eas, ers, las, gas, D, hM⟩
    obtain ⟨row, rfl⟩ := rows1 hs2
    obtain ⟨ra, hpr, hra⟩ := rowsV1 hr'
    have hI := hG.is
    have h60 := hI.lots
    have F := Good.fine hI
    refine q_chk (sp := spCheck_set A) (o := chkSet (mbookOf es) row) (ea_cons (ev_var rfl) (ea_cons (ev_ixL (ev_var rfl) (sq_of hpr) (ev_c (v := .int 0)) rfl) ea_nil)) (fun H2 e Q E h => ⟨d, el, bk, ll, gl, ra, eas, ers, las, gas, es, row, rfl, D.mono e, e _ _ hra, h⟩) (fun ns h => hto.no h) fun hset H1 e1 => ?_
    obtain ⟨s1, s2⟩ := chkSet_none hset
    have hTk := fall_ok F s2 s1 false
    have htl := hTk.len
    have hkl := keysIn_le (fallT (mbookOf es) row false) (mbookOf es).lots.length
    refine q_asgR (er_stepsFrom (back := false) (D.mono e1).book F (ed_book T (ev_var rfl) (D.mono e1)) (fun H2 e Q q => (ea_cons (ev_ixL (ev_var rfl) (sq_of (e1 _ _ hpr)) (ev_c (v := .int 0)) rfl) (ea_cons ev_c ea_nil)) H2 e _ fun H3 e3 => q _ H3 e3 ⟨ra, rfl, (e1.trans (e.trans e3)) _ _ hra⟩) s2 s1) fun y H2 e2 ⟨dd, ey, hdd⟩ => ?_
    subst ey
    have e02 := e1.trans e2
    have hfl : ((keysIn (fallT (mbookOf es) row false) (mbookOf es).lots.length).map fun (i : Nat) => [vz i, (look (fallT (mbookOf es) row false) (i : Int)).getD 0, ((mbookOf es).lot i).left]).flatten.length ≤ 200 := by
      have := flatMap_len (f := fun (i : Nat) => [vz i, (look (fallT (mbookOf es) row false) (i : Int)).getD 0, ((mbookOf es).lot i).left]) (c := 3) (keysIn (fallT (mbookOf es) row false) (mbookOf es).lots.length) (fun _ _ => rfl)
      have e : ((keysIn (fallT (mbookOf es) row false) (mbookOf es).lots.length).map fun (i : Nat) => [vz i, (look (fallT (mbookOf es) row false) (i : Int)).getD 0, ((mbookOf es).lot i).left]).flatten = (keysIn (fallT (mbookOf es) row false) (mbookOf es).lots.length).flatMap fun (i : Nat) => [vz i, (look (fallT (mbookOf es) row false) (i : Int)).getD 0, ((mbookOf es).lot i).left] := rfl
      rw [e, this]
      omega
    have hto' : DeedTo A H d M es (es, [vz (fallT (mbookOf es) row false).length] ++ ((keysIn (fallT (mbookOf es) row false) (mbookOf es).lots.length).map fun (i : Nat) => [vz i, (look (fallT (mbookOf es) row false) (i : Int)).getD 0, ((mbookOf es).lot i).left]).flatten) Q E := hto.yes hset
    refine s_deedRet rfl hto' Dk e02 (er_catI (a := [vz (fallT (mbookOf es) row false).length]) (newI_old (er_ints1 (ev_is (ev_lenD (ev_var rfl) hdd) (by rw [tab_len]; rfl)))) (newI_old (er_flatR (er_src (er_sortedD (ks := (fallT (mbookOf es) row false).map (·.1)) (ev_var rfl) hdd (tab_keys _ _) (by rw [List.length_map]; omega) fun ys h1 h2 => keys_sorted hTk.nd hTk.rng h1 h2) fun y H3 e3 ⟨q, ey, hq, hq3⟩ => ?_) (by omega))) (by show 1 + _ ≤ _; omega))
    subst ey
    refine er_lcI (fun (i : Nat) => [vz i, (look (fallT (mbookOf es) row false) (i : Int)).getD 0, ((mbookOf es).lot i).left]) ev_c (by rw [hq3, List.map_map]; rfl) (by omega) fun k n H4 hk e4 => ⟨rfl, ?_⟩
    obtain ⟨hn, v, hv⟩ := keysIn_mem (List.mem_of_getElem? hk)
    exact er_ints (ea_cons (ev_var rfl) (ea_cons (ev_dget (k := (n : Int)) (e4 _ _ (e3 _ _ hdd)) (ev_var rfl) (ev_var rfl) (by rw [valV_tab, hv]; rfl)) (ea_cons (ed_left T (ev_var rfl) (D.mono ((e02.trans e3).trans e4)) (ev_var rfl) hn) ea_nil))) (by show 3 ≤ 100; decide)
theorem ok_mothers_of (T : Txt K mg A) : FnOk P w K mg base (L2.CX P w) 6 A.f_mothers_of A.d_mothers_of ["desk", "args", "rows"] (spDeed A mothersM 1 0) := by
  refine T.fn_mothers_of.okX sc_mothers_of (fun vs H Q E h => ?_) (fun cdv Ar outer s H vs Q E hr h => ⟨_, (pss_cons (ps_expr (pe_call (ok_check_lot T) (hr.mono (by decide)) rfl T.mgf_check_lot T.fn_check_lot.kp T.bi_check_lot .nil passR (pa_cons (pv 0) (pa_cons (pe_ix ix_list (pv 1) pe_int (fun _ _ => rfl)) pa_nil))))
    (pss_cons (ps_set (i := 3) sc_mothers_of.nd rfl (Or.inr rfl) (pe_meth (pe_fld (pv 0) rfl) T.cl_Book T.me_Book_steps_from (ok_Book_steps_from T) (hr.mono (by decide)) T.bi_Book_steps_from .nil pass0 (pa_cons (pe_lst (pa_cons (pe_ix ix_list (pv 1) pe_int (fun _ _ => rfl)) pa_nil)) (pa_cons pe_bl pa_nil))))
    (pss_one (ps_ret (pe_op op_cat (pe_lst (pa_cons (pe_callB call_lenD (by rfl) T.b_len PySem.boot_len (pa_cons (pv 3) pa_nil)) pa_nil)) (pe_call (ok_flat T) (hr.mono (by decide)) rfl T.mgf_flat T.fn_flat.kp T.bi_flat .nil pass0 (pa_cons (pe_lc (g := (gName 4)) (tt := tYes) (te := (tLst (tCons (tVar 4) (tCons (tDGet (tVar 3) (tVar 4)) tNil)))) (own := [("lot", 4)]) rfl sc_mothers_of.nd (pi_list (pe_callB (call_sortedDI rfl) (by rfl) T.b_sorted (by decide +kernel) (pa_cons (pv 3) pa_nil))) (blkOk_by (own := [("lot", 4)]) (N := N_mothers_of) (sc := defScope s_mothers_of) (by decide +kernel)) (fun _ _ _ _ _ => by exact (pg_name (i := 4) sc_mothers_of.nd rfl (Or.inl rfl))) (fun _ _ _ _ _ => by exact pts_nil) (fun _ _ _ _ _ => by exact (pe_lst (pa_cons (pv 4) (pa_cons (pe_dget (hu_of hr) (pv 3) (pv 4) (fun _ _ => rfl)) pa_nil))))) pa_nil))))))), ?_⟩)
  · obtain ⟨_, _, _, _, _, _, _, rfl, _⟩ := h
    rfl
  · obtain ⟨d, pa, pr, M, es, args, rows, rfl, Dk, hG, ha, hr', ⟨hs1, hs2, hs3⟩, hto⟩ := h
    obtain ⟨el, bk, ll, gl, eas, ers, las, gas, D, hM⟩ := Dk
    have Dk : DeskAt A H d M es := ⟨el, bk, ll, gl, eas, ers, las, gas, D, hM⟩
    obtain ⟨n, rfl⟩ := args1 hs1
    have hI := hG.is
    have h60 := hI.lots
    have F := Good.fine hI
    refine q_chk (sp := spCheck_lot A) (o := chkLot (mbookOf es) n) (ea_cons (ev_var rfl) (ea_cons (ev_ixV (i := 0) (ev_var rfl) ha (ev_c (v := vi 0)) rfl) ea_nil)) (fun H1 e Q E h => ⟨d, el, bk, ll, gl, eas, ers, las, gas, es, n, rfl, D.mono e, h⟩) (fun ns h => hto.no h) fun hlt H1 e1 => ?_
    have hn := chkLot_none hlt
    have s2 : [n].Nodup := by simp
    have s1 : ∀ x ∈ [n], x < (mbookOf es).lots.length := fun x hx => by rw [show x = n by simpa using hx]; exact hn
    have hTk := fall_ok F s2 s1 true
    have htl := hTk.len
    have hkl := keysIn_le (fallT (mbookOf es) [n] true) (mbookOf es).lots.length
    refine q_asgR (er_stepsFrom (l := [n]) (back := true) (D.mono e1).book F (ed_book T (ev_var rfl) (D.mono e1)) (fun H2 e Q q => (er_ints1 (i := (n : Int)) (ev_ixV (i := 0) (ev_var rfl) (e1 _ _ ha) (ev_c (v := vi 0)) rfl)) H2 e _ fun y H3 e3 ⟨p, ey, hp, hp3⟩ => (ea_cons ev_c ea_nil) H3 (e.trans e3) _ fun H4 e4 => q _ H4 (e3.trans e4) ⟨p, by rw [ey], e4 _ _ hp3⟩) s2 s1) fun y H2 e2 ⟨dd, ey, hdd⟩ => ?_
    subst ey
    have e02 := e1.trans e2
    have hfl : ((keysIn (fallT (mbookOf es) [n] true) (mbookOf es).lots.length).map fun (i : Nat) => [vz i, (look (fallT (mbookOf es) [n] true) (i : Int)).getD 0]).flatten.length ≤ 200 := by
      have := flatMap_len (f := fun (i : Nat) => [vz i, (look (fallT (mbookOf es) [n] true) (i : Int)).getD 0]) (c := 2) (keysIn (fallT (mbookOf es) [n] true) (mbookOf es).lots.length) (fun _ _ => rfl)
      have e : ((keysIn (fallT (mbookOf es) [n] true) (mbookOf es).lots.length).map fun (i : Nat) => [vz i, (look (fallT (mbookOf es) [n] true) (i : Int)).getD 0]).flatten = (keysIn (fallT (mbookOf es) [n] true) (mbookOf es).lots.length).flatMap fun (i : Nat) => [vz i, (look (fallT (mbookOf es) [n] true) (i : Int)).getD 0] := rfl
      rw [e, this]
      omega
    have hto' : DeedTo A H d M es (es, [vz (fallT (mbookOf es) [n] true).length] ++ ((keysIn (fallT (mbookOf es) [n] true) (mbookOf es).lots.length).map fun (i : Nat) => [vz i, (look (fallT (mbookOf es) [n] true) (i : Int)).getD 0]).flatten) Q E := hto.yes hlt
    refine s_deedRet rfl hto' Dk e02 (er_catI (a := [vz (fallT (mbookOf es) [n] true).length]) (newI_old (er_ints1 (ev_is (ev_lenD (ev_var rfl) hdd) (by rw [tab_len]; rfl)))) (newI_old (er_flatR (er_src (er_sortedD (ks := (fallT (mbookOf es) [n] true).map (·.1)) (ev_var rfl) hdd (tab_keys _ _) (by rw [List.length_map]; omega) fun ys h1 h2 => keys_sorted hTk.nd hTk.rng h1 h2) fun y H3 e3 ⟨q, ey, hq, hq3⟩ => ?_) (by omega))) (by show 1 + _ ≤ _; omega))
    subst ey
    refine er_lcI (fun (i : Nat) => [vz i, (look (fallT (mbookOf es) [n] true) (i : Int)).getD 0]) ev_c (by rw [hq3, List.map_map]; rfl) (by omega) fun k m H4 hk e4 => ⟨rfl, ?_⟩
    obtain ⟨hn, v, hv⟩ := keysIn_mem (List.mem_of_getElem? hk)
    exact er_ints (ea_cons (ev_var rfl) (ea_cons (ev_dget (k := (m : Int)) (e4 _ _ (e3 _ _ hdd)) (ev_var rfl) (ev_var rfl) (by rw [valV_tab, hv]; rfl)) ea_nil)) (by show 2 ≤ 100; decide)
end
end LW
end
section
set_option Elab.async false
set_option linter.all false
set_option maxRecDepth 100000
set_option maxHeartbeats 4000000

set_option exponentiation.threshold 10000
namespace LW
open PySem PySem.Spec PyProof.Rows L2 Evl LF TbLtBook
/-- the deeds: mirror, how many numbers, how many rows -/
def deedL : List (Deed × Nat × Nat) := [(foundM, 3, 0), (liftM, 3, 1), (mergeM, 1, 1), (splitM, 2, 1), (loseM, 3, 0), (undoM, 0, 0), (lotM, 1, 0), (legsM, 0, 0), (thenM, 1, 0), (mayM, 1, 1), (cutM, 1, 1), (weighM, 1, 2), (layM, 1, 2), (sharesM, 1, 0), (fallsM, 0, 1), (mothersM, 1, 0), (sumsM, 0, 0)]
section
variable {P : Program} {w : World} {K : PySem.W.Frag} {mg : Str → Option Value} {base : Heap} {A : Ad}
def spAnswer_of (A : Ad) : Sp := fun vs H Q _ => ∃ (d pa pr : Addr) (i : Nat) (M : Addr → Prop) (es : Es) (args : List Nat) (rows : List (List Nat)) (kM : Deed) (na nc : Nat), vs = [.ref d, vi (i + 1), .ref pa, .ref pr] ∧ deedL[i]? = some (kM, na, nc) ∧ DeskAt A H d M es ∧ Good es ∧ H pa = some (.lst (vis args)) ∧ RowsV H pr rows ∧ Shp na nc args rows ∧
  ∀ (p : Addr) (H' : Hp) (M' : Addr → Prop), H p = none → DeskAt A H' d M' (kM es args rows).1 → Keep M H H' → (∀ x, M' x → M x ∨ H x = none) → H' p = some (.lst ((kM es args rows).2.map V.int)) → Q (.ref p) H'
theorem DeskAt.mono {H H' : Hp} {d : Addr} {M : Addr → Prop} {es : Es} (h : DeskAt A H d M es) (e : Ex H H') : DeskAt A H' d M es := let ⟨el, bk, ll, gl, eas, ers, las, gas, q1, q2⟩ := h; ⟨el, bk, ll, gl, eas, ers, las, gas, q1.mono e, q2⟩
theorem RowsV.mono {H H' : Hp} {pr : Addr} {rows : List (List Nat)} (h : RowsV H pr rows) (e : Ex H H') : RowsV H' pr rows := let ⟨as, h1, h2, h3⟩ := h; ⟨as, e _ _ h1, h2, fun i a l q1 q2 => e _ _ (h3 i a l q1 q2)⟩
theorem pass_none {X : Cx} {W : WX} (σ : L2.St) : PassesAt CX0 X σ (WE W σ) := fun _ _ _ _ _ _ c => c.elim
theorem ev_numRef {C a d : Addr} {te : TE} {σ : L2.St} {H : Hp} {v : V} (h : Ev te σ H (.ref a)) (hd : H d = some (.xd [(("numbers" : Str), v)])) : Ev (tNumRef C a (.ref C) (some d) te) σ H v := fun H1 e Q q =>
  h H1 e _ fun H2 e2 => ⟨rfl, rfl, d, v, rfl, (e.trans e2) _ _ hd, q H2 e2⟩
theorem aof_read (T : Txt K mg A) {f d pa pr : Addr} {kM : Deed} {na nc n : Nat} {M : Addr → Prop} {es : Es} {args : List Nat} {rows : List (List Nat)} {H : Hp} {Q : VK} (hf : atI (V.non :: (deedsOf A).map V.ref) (n : Int) = some (.ref f)) (Dk : DeskAt A H d M es) (hG : Good es) (ha : H pa = some (.lst (vis args))) (hr : RowsV H pr rows) (hs : Shp na nc args rows)
    (k : ∀ (p : Addr) (H' : Hp) (M' : Addr → Prop), H p = none → DeskAt A H' d M' (kM es args rows).1 → Keep M H H' → (∀ x, M' x → M x ∨ H x = none) → H' p = some (.lst ((kM es args rows).2.map V.int)) → Q (.ref p) H') :
    tSeq (tAsg (tOp (rIxT K) (tC (.ref A.a_DEEDS)) (tVar 1)) (gName 4)) (fun D σ H => (fun W => tRet (tCallLS 4 f (spDeed A kM na nc) (WE W) (tCons (tVar 0) (tCons (tVar 2) (tCons (tVar 3) tNil))))) (wAs K (.ref A.c_Refused) 5 (fun a cls d => tRet (tNumRef A.c_Refused a cls d (tVar 5))) (fun _ _ _ _ => False) D) D σ H)
      { nx := fun _ H' => Q .non H', rt := Q } [some (.ref d), some (vi n), some (.ref pa), some (.ref pr), none, none] H := by
  refine q_asg (v := .ref f) (ev_ixT ev_c (T.deeds H) (ev_var (v := .int (n : Int)) rfl) hf) fun H1 e1 => ?_
  refine ⟨rfl, (ea_cons (ev_var rfl) (ea_cons (ev_var rfl) (ea_cons (ev_var rfl) ea_nil))) H1 (Ex.refl H1) _ fun H2 e2 => ?_⟩
  have e02 := e1.trans e2
  refine ⟨d, pa, pr, M, es, args, rows, rfl, Dk.mono e02, hG, e02 _ _ ha, hr.mono e02, hs, fun p H' M' hp hD kp hM hp' => k p H' M' (fresh_back e02 hp) hD ((Keep.of_ex e02).trans kp) (fun x hx => (hM x hx).imp id (fresh_back e02)) hp', fun hes => ?_⟩
  intro d' l H' hl e' h1 h2
  refine ⟨true, T.low.te, fun _ a0 _ => ?_, fun q => Bool.noConfusion q⟩
  show tRet (tNumRef A.c_Refused a0 (.ref A.c_Refused) (some d') (tVar 5)) _ _ H'
  refine s_ret (v := .ref l) (ev_numRef (ev_var rfl) h1) fun H3 e3 => ?_
  have e03 := (e02.trans e').trans e3
  exact k l H3 M (fresh_back e02 hl) (by rw [hes]; exact Dk.mono e03) (Keep.of_ex e03) (fun x hx => .inl hx) (e3 _ _ h2)
theorem ok_answer_of (T : Txt K mg A) : FnOk P w K mg base CX0 8 A.f_answer_of A.d_answer_of ["desk", "number", "args", "rows"] (spAnswer_of A) := by
  refine T.fn_answer_of.ok sc_answer_of (fun vs H Q E h => ?_) (fun cdv Ar outer s H vs Q E hr h => ?_)
  · obtain ⟨_, _, _, _, _, _, _, _, _, _, _, rfl, _⟩ := h
    rfl
  · obtain ⟨d, pa, pr, i, M, es, args, rows, kM, na, nc, rfl, hi, Dk, hG, ha, hr', hs, k⟩ := h
    match i, hi with
    | 0, hi =>
      cases hi
      exact ⟨_, (pss_cons (ps_set (i := 4) sc_answer_of.nd rfl (Or.inl rfl) (pe_ix ix_tup (pe_glob (v := .ref A.a_DEEDS) rfl T.g_DEEDS rfl) (pv 1) (fun _ _ => rfl)))
        (pss_one (ps_try_as (i := 5) (tb := fun W => tRet (tCallLS 4 A.f_found (spDeed A foundM 3 0) (WE W) (tCons (tVar 0) (tCons (tVar 2) (tCons (tVar 3) tNil))))) (ts := fun a cls d => tRet (tNumRef A.c_Refused a cls d (tVar 5))) (Wout := fun _ _ _ _ => False) rfl rfl sc_answer_of.nd rfl rfl ⟨rfl, by decide, Or.inl T.low.gC⟩ takes0
          (fun W pn xe tk _ => pss_one (ps_ret (by exact (pe_callLS (ok_found T) (hr.mono (by decide)) rfl (Or.inl rfl) T.fn_found.kp T.bi_found (fun σ => passAt tk σ) (by exact (pa_cons (pv 0) (pa_cons (pv 2) (pa_cons (pv 3) pa_nil))))))))
          (fun a oe cls d pn hz hf => pss_one (ps_ret (by exact (pe_numRef T.low hz hf (pv 5)))))))), aof_read T rfl Dk hG ha hr' hs k⟩
    | 1, hi =>
      cases hi
      exact ⟨_, (pss_cons (ps_set (i := 4) sc_answer_of.nd rfl (Or.inl rfl) (pe_ix ix_tup (pe_glob (v := .ref A.a_DEEDS) rfl T.g_DEEDS rfl) (pv 1) (fun _ _ => rfl)))
        (pss_one (ps_try_as (i := 5) (tb := fun W => tRet (tCallLS 4 A.f_lift (spDeed A liftM 3 1) (WE W) (tCons (tVar 0) (tCons (tVar 2) (tCons (tVar 3) tNil))))) (ts := fun a cls d => tRet (tNumRef A.c_Refused a cls d (tVar 5))) (Wout := fun _ _ _ _ => False) rfl rfl sc_answer_of.nd rfl rfl ⟨rfl, by decide, Or.inl T.low.gC⟩ takes0
          (fun W pn xe tk _ => pss_one (ps_ret (by exact (pe_callLS (ok_lift T) (hr.mono (by decide)) rfl (Or.inl rfl) T.fn_lift.kp T.bi_lift (fun σ => passAt tk σ) (by exact (pa_cons (pv 0) (pa_cons (pv 2) (pa_cons (pv 3) pa_nil))))))))
          (fun a oe cls d pn hz hf => pss_one (ps_ret (by exact (pe_numRef T.low hz hf (pv 5)))))))), aof_read T rfl Dk hG ha hr' hs k⟩
    | 2, hi =>
      cases hi
      exact ⟨_, (pss_cons (ps_set (i := 4) sc_answer_of.nd rfl (Or.inl rfl) (pe_ix ix_tup (pe_glob (v := .ref A.a_DEEDS) rfl T.g_DEEDS rfl) (pv 1) (fun _ _ => rfl)))
        (pss_one (ps_try_as (i := 5) (tb := fun W => tRet (tCallLS 4 A.f_merge (spDeed A mergeM 1 1) (WE W) (tCons (tVar 0) (tCons (tVar 2) (tCons (tVar 3) tNil))))) (ts := fun a cls d => tRet (tNumRef A.c_Refused a cls d (tVar 5))) (Wout := fun _ _ _ _ => False) rfl rfl sc_answer_of.nd rfl rfl ⟨rfl, by decide, Or.inl T.low.gC⟩ takes0
          (fun W pn xe tk _ => pss_one (ps_ret (by exact (pe_callLS (ok_merge T) (hr.mono (by decide)) rfl (Or.inl rfl) T.fn_merge.kp T.bi_merge (fun σ => passAt tk σ) (by exact (pa_cons (pv 0) (pa_cons (pv 2) (pa_cons (pv 3) pa_nil))))))))
          (fun a oe cls d pn hz hf => pss_one (ps_ret (by exact (pe_numRef T.low hz hf (pv 5)))))))), aof_read T rfl Dk hG ha hr' hs k⟩
    | 3, hi =>
      cases hi
      exact ⟨_, (pss_cons (ps_set (i := 4) sc_answer_of.nd rfl (Or.inl rfl) (pe_ix ix_tup (pe_glob (v := .ref A.a_DEEDS) rfl T.g_DEEDS rfl) (pv 1) (fun _ _ => rfl)))
        (pss_one (ps_try_as (i := 5) (tb := fun W => tRet (tCallLS 4 A.f_split (spDeed A splitM 2 1) (WE W) (tCons (tVar 0) (tCons (tVar 2) (tCons (tVar 3) tNil))))) (ts := fun a cls d => tRet (tNumRef A.c_Refused a cls d (tVar 5))) (Wout := fun _ _ _ _ => False) rfl rfl sc_answer_of.nd rfl rfl ⟨rfl, by decide, Or.inl T.low.gC⟩ takes0
          (fun W pn xe tk _ => pss_one (ps_ret (by exact (pe_callLS (ok_split T) (hr.mono (by decide)) rfl (Or.inl rfl) T.fn_split.kp T.bi_split (fun σ => passAt tk σ) (by exact (pa_cons (pv 0) (pa_cons (pv 2) (pa_cons (pv 3) pa_nil))))))))
          (fun a oe cls d pn hz hf => pss_one (ps_ret (by exact (pe_numRef T.low hz hf (pv 5)))))))), aof_read T rfl Dk hG ha hr' hs k⟩
    | 4, hi =>
      cases hi
      exact ⟨_, (pss_cons (ps_set (i := 4) sc_answer_of.nd rfl (Or.inl rfl) (pe_ix ix_tup (pe_glob (v := .ref A.a_DEEDS) rfl T.g_DEEDS rfl) (pv 1) (fun _ _ => rfl)))
        (pss_one (ps_try_as (i := 5) (tb := fun W => tRet (tCallLS 4 A.f_lose (spDeed A loseM 3 0) (WE W) (tCons (tVar 0) (tCons (tVar 2) (tCons (tVar 3) tNil))))) (ts := fun a cls d => tRet (tNumRef A.c_Refused a cls d (tVar 5))) (Wout := fun _ _ _ _ => False) rfl rfl sc_answer_of.nd rfl rfl ⟨rfl, by decide, Or.inl T.low.gC⟩ takes0
          (fun W pn xe tk _ => pss_one (ps_ret (by exact (pe_callLS (ok_lose T) (hr.mono (by decide)) rfl (Or.inl rfl) T.fn_lose.kp T.bi_lose (fun σ => passAt tk σ) (by exact (pa_cons (pv 0) (pa_cons (pv 2) (pa_cons (pv 3) pa_nil))))))))
          (fun a oe cls d pn hz hf => pss_one (ps_ret (by exact (pe_numRef T.low hz hf (pv 5)))))))), aof_read T rfl Dk hG ha hr' hs k⟩
    | 5, hi =>
      cases hi
      exact ⟨_, (pss_cons (ps_set (i := 4) sc_answer_of.nd rfl (Or.inl rfl) (pe_ix ix_tup (pe_glob (v := .ref A.a_DEEDS) rfl T.g_DEEDS rfl) (pv 1) (fun _ _ => rfl)))
        (pss_one (ps_try_as (i := 5) (tb := fun W => tRet (tCallLS 4 A.f_undo (spDeed A undoM 0 0) (WE W) (tCons (tVar 0) (tCons (tVar 2) (tCons (tVar 3) tNil))))) (ts := fun a cls d => tRet (tNumRef A.c_Refused a cls d (tVar 5))) (Wout := fun _ _ _ _ => False) rfl rfl sc_answer_of.nd rfl rfl ⟨rfl, by decide, Or.inl T.low.gC⟩ takes0
          (fun W pn xe tk _ => pss_one (ps_ret (by exact (pe_callLS (ok_undo T) (hr.mono (by decide)) rfl (Or.inl rfl) T.fn_undo.kp T.bi_undo (fun σ => passAt tk σ) (by exact (pa_cons (pv 0) (pa_cons (pv 2) (pa_cons (pv 3) pa_nil))))))))
          (fun a oe cls d pn hz hf => pss_one (ps_ret (by exact (pe_numRef T.low hz hf (pv 5)))))))), aof_read T rfl Dk hG ha hr' hs k⟩
    | 6, hi =>
      cases hi
      exact ⟨_, (pss_cons (ps_set (i := 4) sc_answer_of.nd rfl (Or.inl rfl) (pe_ix ix_tup (pe_glob (v := .ref A.a_DEEDS) rfl T.g_DEEDS rfl) (pv 1) (fun _ _ => rfl)))
        (pss_one (ps_try_as (i := 5) (tb := fun W => tRet (tCallLS 4 A.f_show_lot (spDeed A lotM 1 0) (WE W) (tCons (tVar 0) (tCons (tVar 2) (tCons (tVar 3) tNil))))) (ts := fun a cls d => tRet (tNumRef A.c_Refused a cls d (tVar 5))) (Wout := fun _ _ _ _ => False) rfl rfl sc_answer_of.nd rfl rfl ⟨rfl, by decide, Or.inl T.low.gC⟩ takes0
          (fun W pn xe tk _ => pss_one (ps_ret (by exact (pe_callLS (ok_show_lot T) (hr.mono (by decide)) rfl (Or.inl rfl) T.fn_show_lot.kp T.bi_show_lot (fun σ => passAt tk σ) (by exact (pa_cons (pv 0) (pa_cons (pv 2) (pa_cons (pv 3) pa_nil))))))))
          (fun a oe cls d pn hz hf => pss_one (ps_ret (by exact (pe_numRef T.low hz hf (pv 5)))))))), aof_read T rfl Dk hG ha hr' hs k⟩
    | 7, hi =>
      cases hi
      exact ⟨_, (pss_cons (ps_set (i := 4) sc_answer_of.nd rfl (Or.inl rfl) (pe_ix ix_tup (pe_glob (v := .ref A.a_DEEDS) rfl T.g_DEEDS rfl) (pv 1) (fun _ _ => rfl)))
        (pss_one (ps_try_as (i := 5) (tb := fun W => tRet (tCallLS 4 A.f_legs (spDeed A legsM 0 0) (WE W) (tCons (tVar 0) (tCons (tVar 2) (tCons (tVar 3) tNil))))) (ts := fun a cls d => tRet (tNumRef A.c_Refused a cls d (tVar 5))) (Wout := fun _ _ _ _ => False) rfl rfl sc_answer_of.nd rfl rfl ⟨rfl, by decide, Or.inl T.low.gC⟩ takes0
          (fun W pn xe tk _ => pss_one (ps_ret (by exact (pe_callLS (ok_legs T) (hr.mono (by decide)) rfl (Or.inl rfl) T.fn_legs.kp T.bi_legs (fun σ => pass_none σ) (by exact (pa_cons (pv 0) (pa_cons (pv 2) (pa_cons (pv 3) pa_nil))))))))
          (fun a oe cls d pn hz hf => pss_one (ps_ret (by exact (pe_numRef T.low hz hf (pv 5)))))))), aof_read T rfl Dk hG ha hr' hs k⟩
    | 8, hi =>
      cases hi
      exact ⟨_, (pss_cons (ps_set (i := 4) sc_answer_of.nd rfl (Or.inl rfl) (pe_ix ix_tup (pe_glob (v := .ref A.a_DEEDS) rfl T.g_DEEDS rfl) (pv 1) (fun _ _ => rfl)))
        (pss_one (ps_try_as (i := 5) (tb := fun W => tRet (tCallLS 4 A.f_then (spDeed A thenM 1 0) (WE W) (tCons (tVar 0) (tCons (tVar 2) (tCons (tVar 3) tNil))))) (ts := fun a cls d => tRet (tNumRef A.c_Refused a cls d (tVar 5))) (Wout := fun _ _ _ _ => False) rfl rfl sc_answer_of.nd rfl rfl ⟨rfl, by decide, Or.inl T.low.gC⟩ takes0
          (fun W pn xe tk _ => pss_one (ps_ret (by exact (pe_callLS (ok_then T) (hr.mono (by decide)) rfl (Or.inl rfl) T.fn_then.kp T.bi_then (fun σ => pass_none σ) (by exact (pa_cons (pv 0) (pa_cons (pv 2) (pa_cons (pv 3) pa_nil))))))))
          (fun a oe cls d pn hz hf => pss_one (ps_ret (by exact (pe_numRef T.low hz hf (pv 5)))))))), aof_read T rfl Dk hG ha hr' hs k⟩
    | 9, hi =>
      cases hi
      exact ⟨_, (pss_cons (ps_set (i := 4) sc_answer_of.nd rfl (Or.inl rfl) (pe_ix ix_tup (pe_glob (v := .ref A.a_DEEDS) rfl T.g_DEEDS rfl) (pv 1) (fun _ _ => rfl)))
        (pss_one (ps_try_as (i := 5) (tb := fun W => tRet (tCallLS 4 A.f_may (spDeed A mayM 1 1) (WE W) (tCons (tVar 0) (tCons (tVar 2) (tCons (tVar 3) tNil))))) (ts := fun a cls d => tRet (tNumRef A.c_Refused a cls d (tVar 5))) (Wout := fun _ _ _ _ => False) rfl rfl sc_answer_of.nd rfl rfl ⟨rfl, by decide, Or.inl T.low.gC⟩ takes0
          (fun W pn xe tk _ => pss_one (ps_ret (by exact (pe_callLS (ok_may T) (hr.mono (by decide)) rfl (Or.inl rfl) T.fn_may.kp T.bi_may (fun σ => passAt tk σ) (by exact (pa_cons (pv 0) (pa_cons (pv 2) (pa_cons (pv 3) pa_nil))))))))
          (fun a oe cls d pn hz hf => pss_one (ps_ret (by exact (pe_numRef T.low hz hf (pv 5)))))))), aof_read T rfl Dk hG ha hr' hs k⟩
    | 10, hi =>
      cases hi
      exact ⟨_, (pss_cons (ps_set (i := 4) sc_answer_of.nd rfl (Or.inl rfl) (pe_ix ix_tup (pe_glob (v := .ref A.a_DEEDS) rfl T.g_DEEDS rfl) (pv 1) (fun _ _ => rfl)))
        (pss_one (ps_try_as (i := 5) (tb := fun W => tRet (tCallLS 4 A.f_cut (spDeed A cutM 1 1) (WE W) (tCons (tVar 0) (tCons (tVar 2) (tCons (tVar 3) tNil))))) (ts := fun a cls d => tRet (tNumRef A.c_Refused a cls d (tVar 5))) (Wout := fun _ _ _ _ => False) rfl rfl sc_answer_of.nd rfl rfl ⟨rfl, by decide, Or.inl T.low.gC⟩ takes0
          (fun W pn xe tk _ => pss_one (ps_ret (by exact (pe_callLS (ok_cut T) (hr.mono (by decide)) rfl (Or.inl rfl) T.fn_cut.kp T.bi_cut (fun σ => passAt tk σ) (by exact (pa_cons (pv 0) (pa_cons (pv 2) (pa_cons (pv 3) pa_nil))))))))
          (fun a oe cls d pn hz hf => pss_one (ps_ret (by exact (pe_numRef T.low hz hf (pv 5)))))))), aof_read T rfl Dk hG ha hr' hs k⟩
    | 11, hi =>
      cases hi
      exact ⟨_, (pss_cons (ps_set (i := 4) sc_answer_of.nd rfl (Or.inl rfl) (pe_ix ix_tup (pe_glob (v := .ref A.a_DEEDS) rfl T.g_DEEDS rfl) (pv 1) (fun _ _ => rfl)))
        (pss_one (ps_try_as (i := 5) (tb := fun W => tRet (tCallLS 4 A.f_weigh (spDeed A weighM 1 2) (WE W) (tCons (tVar 0) (tCons (tVar 2) (tCons (tVar 3) tNil))))) (ts := fun a cls d => tRet (tNumRef A.c_Refused a cls d (tVar 5))) (Wout := fun _ _ _ _ => False) rfl rfl sc_answer_of.nd rfl rfl ⟨rfl, by decide, Or.inl T.low.gC⟩ takes0
          (fun W pn xe tk _ => pss_one (ps_ret (by exact (pe_callLS (ok_weigh T) (hr.mono (by decide)) rfl (Or.inl rfl) T.fn_weigh.kp T.bi_weigh (fun σ => passAt tk σ) (by exact (pa_cons (pv 0) (pa_cons (pv 2) (pa_cons (pv 3) pa_nil))))))))
          (fun a oe cls d pn hz hf => pss_one (ps_ret (by exact (pe_numRef T.low hz hf (pv 5)))))))), aof_read T rfl Dk hG ha hr' hs k⟩
    | 12, hi =>
      cases hi
      exact ⟨_, (pss_cons (ps_set (i := 4) sc_answer_of.nd rfl (Or.inl rfl) (pe_ix ix_tup (pe_glob (v := .ref A.a_DEEDS) rfl T.g_DEEDS rfl) (pv 1) (fun _ _ => rfl)))
        (pss_one (ps_try_as (i := 5) (tb := fun W => tRet (tCallLS 4 A.f_lay (spDeed A layM 1 2) (WE W) (tCons (tVar 0) (tCons (tVar 2) (tCons (tVar 3) tNil))))) (ts := fun a cls d => tRet (tNumRef A.c_Refused a cls d (tVar 5))) (Wout := fun _ _ _ _ => False) rfl rfl sc_answer_of.nd rfl rfl ⟨rfl, by decide, Or.inl T.low.gC⟩ takes0
          (fun W pn xe tk _ => pss_one (ps_ret (by exact (pe_callLS (ok_lay T) (hr.mono (by decide)) rfl (Or.inl rfl) T.fn_lay.kp T.bi_lay (fun σ => passAt tk σ) (by exact (pa_cons (pv 0) (pa_cons (pv 2) (pa_cons (pv 3) pa_nil))))))))
          (fun a oe cls d pn hz hf => pss_one (ps_ret (by exact (pe_numRef T.low hz hf (pv 5)))))))), aof_read T rfl Dk hG ha hr' hs k⟩
    | 13, hi =>
      cases hi
      exact ⟨_, (pss_cons (ps_set (i := 4) sc_answer_of.nd rfl (Or.inl rfl) (pe_ix ix_tup (pe_glob (v := .ref A.a_DEEDS) rfl T.g_DEEDS rfl) (pv 1) (fun _ _ => rfl)))
        (pss_one (ps_try_as (i := 5) (tb := fun W => tRet (tCallLS 4 A.f_shares (spDeed A sharesM 1 0) (WE W) (tCons (tVar 0) (tCons (tVar 2) (tCons (tVar 3) tNil))))) (ts := fun a cls d => tRet (tNumRef A.c_Refused a cls d (tVar 5))) (Wout := fun _ _ _ _ => False) rfl rfl sc_answer_of.nd rfl rfl ⟨rfl, by decide, Or.inl T.low.gC⟩ takes0
          (fun W pn xe tk _ => pss_one (ps_ret (by exact (pe_callLS (ok_shares T) (hr.mono (by decide)) rfl (Or.inl rfl) T.fn_shares.kp T.bi_shares (fun σ => passAt tk σ) (by exact (pa_cons (pv 0) (pa_cons (pv 2) (pa_cons (pv 3) pa_nil))))))))
          (fun a oe cls d pn hz hf => pss_one (ps_ret (by exact (pe_numRef T.low hz hf (pv 5)))))))), aof_read T rfl Dk hG ha hr' hs k⟩
    | 14, hi =>
      cases hi
      exact ⟨_, (pss_cons (ps_set (i := 4) sc_answer_of.nd rfl (Or.inl rfl) (pe_ix ix_tup (pe_glob (v := .ref A.a_DEEDS) rfl T.g_DEEDS rfl) (pv 1) (fun _ _ => rfl)))
        (pss_one (ps_try_as (i := 5) (tb := fun W => tRet (tCallLS 4 A.f_falls (spDeed A fallsM 0 1) (WE W) (tCons (tVar 0) (tCons (tVar 2) (tCons (tVar 3) tNil))))) (ts := fun a cls d => tRet (tNumRef A.c_Refused a cls d (tVar 5))) (Wout := fun _ _ _ _ => False) rfl rfl sc_answer_of.nd rfl rfl ⟨rfl, by decide, Or.inl T.low.gC⟩ takes0
          (fun W pn xe tk _ => pss_one (ps_ret (by exact (pe_callLS (ok_falls T) (hr.mono (by decide)) rfl (Or.inl rfl) T.fn_falls.kp T.bi_falls (fun σ => passAt tk σ) (by exact (pa_cons (pv 0) (pa_cons (pv 2) (pa_cons (pv 3) pa_nil))))))))
          (fun a oe cls d pn hz hf => pss_one (ps_ret (by exact (pe_numRef T.low hz hf (pv 5)))))))), aof_read T rfl Dk hG ha hr' hs k⟩
    | 15, hi =>
      cases hi
      exact ⟨_, (pss_cons (ps_set (i := 4) sc_answer_of.nd rfl (Or.inl rfl) (pe_ix ix_tup (pe_glob (v := .ref A.a_DEEDS) rfl T.g_DEEDS rfl) (pv 1) (fun _ _ => rfl)))
        (pss_one (ps_try_as (i := 5) (tb := fun W => tRet (tCallLS 4 A.f_mothers_of (spDeed A mothersM 1 0) (WE W) (tCons (tVar 0) (tCons (tVar 2) (tCons (tVar 3) tNil))))) (ts := fun a cls d => tRet (tNumRef A.c_Refused a cls d (tVar 5))) (Wout := fun _ _ _ _ => False) rfl rfl sc_answer_of.nd rfl rfl ⟨rfl, by decide, Or.inl T.low.gC⟩ takes0
          (fun W pn xe tk _ => pss_one (ps_ret (by exact (pe_callLS (ok_mothers_of T) (hr.mono (by decide)) rfl (Or.inl rfl) T.fn_mothers_of.kp T.bi_mothers_of (fun σ => passAt tk σ) (by exact (pa_cons (pv 0) (pa_cons (pv 2) (pa_cons (pv 3) pa_nil))))))))
          (fun a oe cls d pn hz hf => pss_one (ps_ret (by exact (pe_numRef T.low hz hf (pv 5)))))))), aof_read T rfl Dk hG ha hr' hs k⟩
    | 16, hi =>
      cases hi
      exact ⟨_, (pss_cons (ps_set (i := 4) sc_answer_of.nd rfl (Or.inl rfl) (pe_ix ix_tup (pe_glob (v := .ref A.a_DEEDS) rfl T.g_DEEDS rfl) (pv 1) (fun _ _ => rfl)))
        (pss_one (ps_try_as (i := 5) (tb := fun W => tRet (tCallLS 4 A.f_sums (spDeed A sumsM 0 0) (WE W) (tCons (tVar 0) (tCons (tVar 2) (tCons (tVar 3) tNil))))) (ts := fun a cls d => tRet (tNumRef A.c_Refused a cls d (tVar 5))) (Wout := fun _ _ _ _ => False) rfl rfl sc_answer_of.nd rfl rfl ⟨rfl, by decide, Or.inl T.low.gC⟩ takes0
          (fun W pn xe tk _ => pss_one (ps_ret (by exact (pe_callLS (ok_sums T) (hr.mono (by decide)) rfl (Or.inl rfl) T.fn_sums.kp T.bi_sums (fun σ => pass_none σ) (by exact (pa_cons (pv 0) (pa_cons (pv 2) (pa_cons (pv 3) pa_nil))))))))
          (fun a oe cls d pn hz hf => pss_one (ps_ret (by exact (pe_numRef T.low hz hf (pv 5)))))))), aof_read T rfl Dk hG ha hr' hs k⟩
    | j + 17, hi => simp [deedL] at hi
end
end LW
end
section
set_option Elab.async false
set_option linter.all false
set_option maxRecDepth 100000
set_option maxHeartbeats 4000000

set_option exponentiation.threshold 10000
namespace LW
open PySem PySem.Spec PyProof.Rows L2 Evl LF TbLtBook
section
variable {P : Program} {w : World} {K : PySem.W.Frag} {mg : Str → Option Value} {base : Heap} {A : Ad}
def castL (N : List Nat) : List Int := N.map fun (n : Nat) => (n : Int)
theorem natL_cast (N : List Nat) : natL (castL N) = N := by
  unfold natL castL
  rw [List.map_map]
  conv => rhs; rw [← List.map_id N]
  apply List.map_congr_left
  intro n _
  show ((n : Int)).toNat = n
  omega
theorem castL_drop (N : List Nat) (k : Nat) : (castL N).drop k = castL (N.drop k) := by unfold castL; rw [List.map_drop]
theorem castL_take (N : List Nat) (k : Nat) : (castL N).take k = castL (N.take k) := by unfold castL; rw [List.map_take]
theorem castL_cons {N : List Nat} {x : Int} {r : List Int} (h : castL N = x :: r) : ∃ n N', N = n :: N' ∧ x = (n : Int) ∧ r = castL N' := by
  cases N with
  | nil => cases h
  | cons n N' =>
    unfold castL at h
    rw [List.map_cons] at h
    injection h with h1 h2
    exact ⟨n, N', rfl, h1.symm, h2.symm⟩
theorem drop_cons {N R : List Nat} {k n : Nat} (h : N.drop k = n :: R) : N[k]? = some n ∧ N.drop (k + 1) = R ∧ k < N.length := by
  have hk : k < N.length := by
    refine Classical.byContradiction fun z => ?_
    rw [List.drop_of_length_le (by omega)] at h
    cases h
  rw [List.drop_eq_getElem_cons hk] at h
  injection h with h1 h2
  exact ⟨by rw [List.getElem?_eq_getElem hk, h1], h2, hk⟩
theorem slice_vis (N : List Nat) (a m : Nat) (ha : a ≤ N.length) : cutV (vis N) (some (a : Int)) (some ((a + m : Nat) : Int)) = vis ((N.drop a).take m) := by
  rw [cut_of _ _ _ (by rw [vis_len]; exact ha), Nat.add_sub_cancel_left]
  unfold vis
  rw [List.map_take, List.map_drop]
theorem er_deskNew {σ : L2.St} {H : Hp} {E : XK} : EvR (tMake A.c_Desk (spDesk_init A) [] E tNil) σ H (fun y H2 => ∃ d el bk ll gl, y = .ref d ∧ DeskIs A H2 d el bk ll gl [] [] [] [] [] ∧ H d = none ∧ H el = none ∧ H ll = none ∧ H gl = none) := fun H1 e Q q d dx nd ndx ne => by
  have e1 : Ex H1 (upd (upd H1 dx (.own d)) d (.ins A.c_Desk dx [])) := Same.made nd ndx fun b o h _ => h
  refine ⟨d, dx, rfl, upd_same, fun H' el bk ll gl hel hll hgl D kp => ⟨rfl, ?_⟩⟩
  exact q _ H' (Same.made nd ndx kp) ⟨d, el, bk, ll, gl, rfl, D, fresh_back e nd, fresh_back (e.trans e1) hel, fresh_back (e.trans e1) hll, fresh_back (e.trans e1) hgl⟩
/-- a desk stands where what is locked changes -/
theorem DeskAt.refrz {H H' : Hp} {d tl : Addr} {M : Addr → Prop} {es : Es} {od : Obj} {u : HO} (h : DeskAt A H d M es) (ht : H tl = some (.frz od u)) (e : ∀ x o, H x = some o → x ≠ tl → H' x = some o) : DeskAt A H' d M es := by
  obtain ⟨el, bk, ll, gl, eas, ers, las, gas, D, hM⟩ := h
  have st : ∀ x o, H x = some o → (∀ z w, o ≠ .frz z w) → H' x = some o := fun x o hx no => e x o hx fun z => by
    rw [z, ht] at hx
    exact no _ _ (Option.some.inj hx).symm
  obtain ⟨dx, ho⟩ := D.obj
  obtain ⟨bdx, hbo⟩ := D.book.obj
  refine ⟨el, bk, ll, gl, eas, ers, las, gas, ⟨⟨dx, st _ _ ho fun z w q => (by cases q)⟩, st _ _ D.ent fun z w q => (by cases q), D.len, D.lenr, fun i a r x h1 h2 h3 => ?_, ?_, D.nel⟩, hM⟩
  · obtain ⟨En, q2⟩ := D.entry i a r x h1 h2 h3
    obtain ⟨edx, eo⟩ := En.obj
    obtain ⟨as, z1, z2, z3⟩ := En.rows
    exact ⟨⟨⟨edx, st _ _ eo fun z w q => (by cases q)⟩, as, st _ _ z1 fun z w q => (by cases q), z2, fun i a p w1 w2 => st _ _ (z3 i a p w1 w2) fun z w q => (by cases q)⟩, q2⟩
  · refine ⟨⟨bdx, st _ _ hbo fun z w q => (by cases q)⟩, st _ _ D.book.hl fun z w q => (by cases q), st _ _ D.book.hg fun z w q => (by cases q), D.book.ne, D.book.nd, D.book.ln, D.book.gn, fun i a l h1 h2 => ?_, fun i a g h1 h2 => st _ _ (D.book.leg i a g h1 h2) fun z w q => (by cases q)⟩
    obtain ⟨dx', m, k1, k2, k3⟩ := D.book.lot i a l h1 h2
    exact ⟨dx', m, st _ _ k1 fun z w q => (by cases q), st _ _ k2 fun z w q => (by cases q), k3⟩
/-- answer = answer_of(desk, number, args, rows), the told list locked -/
theorem q_answer {Dn : Ends} {tz : TS} {σ : L2.St} {H : Hp} {t1 t2 t3 t4 : TE} {j : Nat} {d pa pr tl : Addr} {i : Nat} {M : Addr → Prop} {es : Es} {args : List Nat} {rows : List (List Nat)} {kM : Deed} {na nc : Nat} {E : XK} {xs : List V} (htl : H tl = some (.lst xs)) (hMt : ¬ M tl) (h1 : ∀ H1, Ev t1 σ H1 (.ref d)) (h2 : ∀ H1, Ev t2 σ H1 (vi (i + 1))) (h3 : ∀ H1, Ev t3 σ H1 (.ref pa)) (h4 : ∀ H1, Ev t4 σ H1 (.ref pr))
    (hi : deedL[i]? = some (kM, na, nc)) (Dk : ∀ od, DeskAt A (upd H tl (.frz od (.lst xs))) d M es) (hG : Good es) (ha : H pa = some (.lst (vis args))) (hpa : pa ≠ tl) (hr : ∀ od, RowsV (upd H tl (.frz od (.lst xs))) pr rows) (hs : Shp na nc args rows)
    (go : ∀ (p : Addr) (H' : Hp) (M' : Addr → Prop), H p = none → p ≠ tl → (∀ od, DeskAt A (upd H' tl (.frz od (.lst xs))) d M' (kM es args rows).1) → (∀ x o, H x = some o → ¬ M x → H' x = some o) → ¬ M' tl → (∀ x, M' x → M x ∨ H x = none) → H' p = some (.lst ((kM es args rows).2.map V.int)) → tz Dn (σ.set j (some (.ref p))) H') :
    tSeq (tLock (tAsg (tCall (spAnswer_of A) [] E (tCons t1 (tCons t2 (tCons t3 (tCons t4 tNil))))) (gName j))) tz Dn σ H := by
  refine ⟨tl, .lst xs, htl, trivial, fun od => ?_⟩
  unfold tAsg tCall
  refine (ea_cons (h1 _) (ea_cons (h2 _) (ea_cons (h3 _) (ea_cons (h4 _) ea_nil)))) (upd H tl (.frz od (.lst xs))) (Ex.refl _) _ fun H1 e1 => ?_
  rw [List.append_nil]
  refine ⟨d, pa, pr, i, M, es, args, rows, kM, na, nc, rfl, hi, (Dk od).mono e1, hG, e1 _ _ (by rw [upd_ne hpa]; exact ha), (hr od).mono e1, hs, fun p H' M' hp hD kp hM hp' => ?_⟩
  have ht1 : H1 tl = some (.frz od (.lst xs)) := e1 _ _ upd_same
  have ht' := kp tl _ ht1 hMt
  have hp0 := fresh_back e1 hp
  have npt : p ≠ tl := fun z => by rw [z, upd_same] at hp0; cases hp0
  rw [upd_ne npt] at hp0
  have hM'0 : ∀ x, M' x → M x ∨ (H x = none ∧ x ≠ tl) := fun x hx => (hM x hx).imp id fun q => by
    have q := fresh_back e1 q
    have n : x ≠ tl := fun z => by rw [z, upd_same] at q; cases q
    rw [upd_ne n] at q
    exact ⟨q, n⟩
  refine ⟨ht', ?_⟩
  refine go p (upd H' tl (.lst xs)) M' hp0 npt (fun od2 => hD.refrz ht' fun x o hx nx => ?_) (fun x o hx nM => ?_) (fun hx => ?_) (fun x hx => (hM'0 x hx).imp id (·.1)) (by rw [upd_ne npt]; exact hp')
  · rw [upd_ne nx, upd_ne nx]; exact hx
  · by_cases z : x = tl
    · rw [z, htl] at hx
      rw [z, upd_same]; exact hx
    · rw [upd_ne z]
      exact kp x o (e1 _ _ (by rw [upd_ne z]; exact hx)) nM
  · rcases hM'0 tl hx with q | q
    · exact hMt q
    · exact q.2 rfl
theorem exUpd2 {H H' : Hp} {a : Addr} {o : HO} (e : Ex H H') : Ex (upd H a o) (upd H' a o) := fun x u hx => by
  by_cases z : x = a
  · rw [z, upd_same] at hx ⊢; exact hx
  · rw [upd_ne z] at hx ⊢; exact e x u hx
theorem sizes_tail : SIZES = (0, 0) :: deedP.map (fun z => (((z.2.1 : Nat) : Int), ((z.2.2 : Nat) : Int))) := rfl
theorem q_appZ {D : Ends} {tz : TS} {σ : L2.St} {H : Hp} {ta te : TE} {l : Addr} {xs : List V} {v : V} (hl : H l = some (.lst xs)) (ha : Ev ta σ H (.ref l)) (h : Ev te σ H v) (hz : xs.length < sizeLine) (k : ∀ H1, Ex H H1 → tz D σ (upd H1 l (.lst (xs ++ [v])))) :
    tSeq (tDrop (tBM K "list" rAppend ta (tCons te tNil))) tz D σ H := ha H (Ex.refl H) _ fun H1 e1 =>
  ⟨Or.inl ⟨rfl, xs, sq_of (e1 l _ hl)⟩, h H1 e1 _ fun H2 e2 => ⟨l, xs, v, rfl, rfl, e2 l _ (e1 l _ hl), hz, k H2 (e1.trans e2)⟩⟩
theorem s_extZ {D : Ends} {σ : L2.St} {H : Hp} {ta te : TE} {l p : Addr} {xs zs : List V} (hl : H l = some (.lst xs)) (ha : Ev ta σ H (.ref l)) (h : Ev te σ H (.ref p)) (hp : H p = some (.lst zs)) (hz : xs.length + zs.length ≤ sizeLine) (k : ∀ H1, Ex H H1 → D.nx σ (upd H1 l (.lst (xs ++ zs)))) :
    tDrop (tBM K "list" (rExtendA K) ta (tCons te tNil)) D σ H := ha H (Ex.refl H) _ fun H1 e1 =>
  ⟨Or.inl ⟨rfl, xs, sq_of (e1 l _ hl)⟩, h H1 e1 _ fun H2 e2 => ⟨l, p, xs, zs, rfl, rfl, (e1.trans e2) l _ hl, .inl ((e1.trans e2) _ _ hp), hz, k H2 (e1.trans e2)⟩⟩
theorem RowsV.add {H H' : Hp} {pr a : Addr} {rows : List (List Nat)} {as : List Addr} {l : List Nat} (h1 : H pr = some (.lst (as.map V.ref))) (h2 : as.length = rows.length) (h3 : ∀ (i : Nat) (a : Addr) (l : List Nat), as[i]? = some a → rows[i]? = some l → H a = some (.lst (vis l)) ∧ a ≠ pr) (e : Ex H H') (ha : H' a = some (.lst (vis l))) (hn : a ≠ pr) :
    (upd H' pr (.lst ((as ++ [a]).map V.ref))) pr = some (.lst ((as ++ [a]).map V.ref)) ∧ (as ++ [a]).length = (rows ++ [l]).length ∧ ∀ (i : Nat) (x : Addr) (m : List Nat), (as ++ [a])[i]? = some x → (rows ++ [l])[i]? = some m → (upd H' pr (.lst ((as ++ [a]).map V.ref))) x = some (.lst (vis m)) ∧ x ≠ pr := by
  refine ⟨upd_same, by rw [List.length_append, List.length_append, h2]; rfl, fun i x m q1 q2 => ?_⟩
  have key : H' x = some (.lst (vis m)) ∧ x ≠ pr := by
    by_cases hi : i < as.length
    · rw [List.getElem?_append_left hi] at q1
      rw [List.getElem?_append_left (by omega)] at q2
      obtain ⟨z1, z2⟩ := h3 i x m q1 q2
      exact ⟨e _ _ z1, z2⟩
    · rw [List.getElem?_append_right (by omega)] at q1
      rw [List.getElem?_append_right (by omega), ← h2] at q2
      have z : i - as.length = 0 := by
        have := (List.getElem?_eq_some_iff.mp q1).1
        simpa using this
      rw [z] at q1 q2
      cases q1; cases q2
      exact ⟨ha, hn⟩
  exact ⟨by rw [upd_ne key.2]; exact key.1, key.2⟩
theorem told_cons (a : List Int) (l : List (List Int)) : PyFlat.told (a :: l) = ((a.length : Int) :: a) ++ PyFlat.told l := by
  unfold PyFlat.told
  rw [List.flatMap_cons]
theorem sz7 : 10000000 < sizeLine := by rw [sizeLine_eq]; decide
def spAnswers (K : PySem.W.Frag) : Sp := fun vs H Q _ => ∃ (a : Addr) (N : List Nat) (f : Nat) (raw : List (List (List Int))), vs = [.ref a] ∧ SqL K H a (vis N) ∧ N.length ≤ 100000 ∧ PyFlat.calls PyWrtblt.shape f (castL N) = some raw ∧ (∀ c ∈ raw, ∀ r ∈ c, r.length ≤ 200) ∧ (∀ es, Good es → ∀ c ∈ raw, Good (stepM es c).1) ∧
  (PyFlat.told (PyFlat.played stepM [] raw)).length ≤ 10000000 ∧ ∀ (H' : Hp) (p : Addr), H' p = some (.lst ((PyFlat.told (PyFlat.played stepM [] raw)).map V.int)) → Q (.ref p) H'
theorem ok_answers (T : Txt K mg A) : FnOk P w K mg base CX0 9 A.f_answers A.d_answers ["calls"] (spAnswers K) := by
  refine T.fn_answers.ok sc_answers (fun vs H Q E h => ?_) (fun cdv Ar outer s H vs Q E hr h => ⟨_, (pss_cons (ps_set (i := 1) sc_answers.nd rfl (Or.inl rfl) (pe_make0 T.mk_Desk (ok_Desk_init T) (hr.mono (by decide)) rfl T.mg_Desk T.bi_Desk_init .nil pass0))
    (pss_cons (ps_set (i := 2) sc_answers.nd rfl (Or.inl rfl) (pe_lst pa_nil))
    (pss_cons (ps_set (i := 3) sc_answers.nd rfl (Or.inl rfl) pe_int)
    (pss_cons (ps_while PassesOwn.never (pt_cmpR op_lt (pv 3) (pe_callB call_len_seq (by rfl) T.b_len PySem.boot_len (pa_cons (pv 0) pa_nil)) (nomark _)) (pss_cons (ps_set (i := 4) sc_answers.nd rfl (Or.inl rfl) (pe_ix ix_list (pv 0) (pv 3) (fun _ _ => rfl)))
    (pss_cons (ps_asg (pe_ix ix_tup (pe_glob (v := .ref A.a_SIZES) rfl T.g_SIZES rfl) (pv 4) (fun _ _ => rfl)) (pg_tup rfl (pgs_cons (pg_name (i := 5) sc_answers.nd rfl (Or.inl rfl)) (pgs_cons (pg_name (i := 6) sc_answers.nd rfl (Or.inl rfl)) pgs_nil))))
    (pss_cons (ps_set (i := 7) sc_answers.nd rfl (Or.inl rfl) (pe_slice sl_list (pv 0) (po_some (pe_op op_add (pv 3) pe_int)) (po_some (pe_op op_add (pe_op op_add (pv 3) pe_int) (pv 5)))))
    (pss_cons (ps_aug (i := 3) sc_answers.nd rfl (Or.inl rfl) (pe_op op_add pe_int (pv 5)) ip_add)
    (pss_cons (ps_set (i := 8) sc_answers.nd rfl (Or.inl rfl) (pe_lst pa_nil))
    (pss_cons (ps_for PassesOwn.never rfl (pi_range1 rfl T.b_range (pa_cons (pv 6) pa_nil)) (pg_name (i := 9) sc_answers.nd rfl (Or.inl rfl)) (pss_cons (ps_set (i := 10) sc_answers.nd rfl (Or.inl rfl) (pe_op op_add (pe_op op_add (pv 3) pe_int) (pe_ix ix_list (pv 0) (pv 3) (fun _ _ => rfl))))
    (pss_cons (ps_expr (pe_bm PySem.F.plainAttrs_list PySem.F.slot_list_append PySem.F.type_list_append mt_append (pv 8) (pa_cons (pe_slice sl_list (pv 0) (po_some (pe_op op_add (pv 3) pe_int)) (po_some (pv 10))) pa_nil)))
    (pss_one (ps_set (i := 3) sc_answers.nd rfl (Or.inl rfl) (pv 10))))))
    (pss_cons (ps_lock (ps_set (i := 11) sc_answers.nd rfl (Or.inl rfl) (pe_call (ok_answer_of T) (hr.mono (by decide)) rfl T.mgf_answer_of T.fn_answer_of.kp T.bi_answer_of .nil pass0 (pa_cons (pv 1) (pa_cons (pv 4) (pa_cons (pv 7) (pa_cons (pv 8) pa_nil)))))))
    (pss_cons (ps_expr (pe_bm PySem.F.plainAttrs_list PySem.F.slot_list_append PySem.F.type_list_append mt_append (pv 2) (pa_cons (pe_callB call_len_seq (by rfl) T.b_len PySem.boot_len (pa_cons (pv 11) pa_nil)) pa_nil)))
    (pss_one (ps_expr (pe_bm PySem.F.plainAttrs_list PySem.F.slot_list_extend PySem.F.type_list_extend mt_extendA (pv 2) (pa_cons (pv 11) pa_nil)))))))))))))
    (pss_one (ps_ret (pv 2))))))), ?_⟩)
  · obtain ⟨_, _, _, _, rfl, _⟩ := h
    rfl
  · obtain ⟨a, N, f, raw, rfl, hS, hNl, hraw, hrow, hgood, hshort, k⟩ := h
    refine q_asgR er_deskNew fun y H1 e1 ⟨d, el, bk, ll, gl, ey, D1, hd, hel, hll, hgl⟩ => ?_
    subst ey
    refine q_asgR (er_lst ea_nil (Nat.zero_le _)) fun y H2 e2 ⟨tl, ey, htl, htl2⟩ => ?_
    subst ey
    refine q_asg (v := vi 0) ev_c fun H3 e3 => ?_
    have e03 := (e1.trans e2).trans e3
    have hM0 : ∀ x, OfDesk d el ll gl [] x → H x = none := fun x hx => by
      rcases hx with z | z | z | z | z
      · rw [z]; exact hd
      · rw [z]; exact hel
      · rw [z]; exact hll
      · rw [z]; exact hgl
      · cases z
    have hMtl : ¬ OfDesk d el ll gl [] tl := fun hx => by
      obtain ⟨dx, ho⟩ := D1.obj
      rcases hx with z | z | z | z | z
      · rw [z, ho] at htl; cases htl
      · rw [z, D1.ent] at htl; cases htl
      · rw [z, D1.book.hl] at htl; cases htl
      · rw [z, D1.book.hg] at htl; cases htl
      · cases z
    refine q_while (fun m σ' H' => ∃ (place : Nat) (es : Es) (M : Addr → Prop) (out : List Int) (f' : Nat) (rest : List (List (List Int))) (v4 v5 v6 v7 v8 v9 v10 v11 : Option V), σ' = [some (.ref a), some (.ref d), some (.ref tl), some (vi place), v4, v5, v6, v7, v8, v9, v10, v11] ∧ Ex H H' ∧ (∀ x, M x → H x = none) ∧ ¬ M tl ∧ (∀ od, DeskAt A (upd H' tl (.frz od (.lst (out.map V.int)))) d M es) ∧ Good es ∧ H' tl = some (.lst (out.map V.int)) ∧
        PyFlat.calls PyWrtblt.shape f' (castL (N.drop place)) = some rest ∧ (∀ c ∈ rest, c ∈ raw) ∧ PyFlat.told (PyFlat.played stepM [] raw) = out ++ PyFlat.told (PyFlat.played stepM es rest) ∧ place ≤ N.length ∧ m = N.length - place)
      _ ⟨0, [], OfDesk d el ll gl [], [], f, raw, _, _, _, _, _, _, _, _, rfl, e03, hM0, hMtl, fun od => ⟨el, bk, ll, gl, [], [], [], [], D1.mono ((e2.trans e3).mut htl), fun x h => h⟩, .nil, e3 _ _ htl2, hraw, fun c h => h, rfl, Nat.zero_le _, rfl⟩ (fun m σ' H4 ⟨place, es, M, out, f', rest, v4, v5, v6, v7, v8, v9, v10, v11, es', e4, hM, hMt, Dk, hG, htl4, hcs, hsub, hfin, hpl, hm⟩ => ?_)
    subst es'
    refine ⟨decide (place < N.length), et_test (ev_ltN (ev_var rfl) (ev_is (ev_lenL (ev_var rfl) (ex_l e4 hS)) (by rw [vis_len]))), fun hlt H5 e5 => ?_, fun hlt H5 e5 => ?_⟩
    · have hlt := of_decide_eq_true hlt
      obtain ⟨n0, R, hR⟩ : ∃ n0 R, N.drop place = n0 :: R := ⟨_, _, List.drop_eq_getElem_cons hlt⟩
      obtain ⟨hn0, hR1, _⟩ := drop_cons hR
      rw [hR] at hcs
      obtain ⟨f2, na, nc, xs, t, cs', hsh, hna, hrows, hcs', ers⟩ := calls_cons (show PyFlat.calls PyWrtblt.shape f' ((n0 : Int) :: castL R) = some rest from hcs)
      obtain ⟨i, kM, hi17, hp, hdeed⟩ := shape_deed hsh
      have hn0' : n0 = i + 1 := by omega
      subst hn0'
      have hRl : (castL R).length = R.length := List.length_map _
      rw [hRl] at hna
      have hNR : N.length = place + 1 + R.length := by
        have := congrArg List.length hR
        rw [List.length_drop, List.length_cons] at this
        omega
      have hS5 : SqL K H5 a (vis N) := ex_l (e4.trans e5) hS
      have e05 := e4.trans e5
      have htl5 := e5 _ _ htl4
      have Dk5 : ∀ od, DeskAt A (upd H5 tl (.frz od (.lst (out.map V.int)))) d M es := fun od => (Dk od).mono (exUpd2 e5)
      refine ⟨_, fun σ2 H2 h => h, ?_⟩
      refine q_asg (v := vi (i + 1)) (ev_ixL (ev_var rfl) hS5 (ev_var rfl) (atI_nat (vis_some hn0))) fun H6 e6 => ?_
      obtain ⟨sas, hsz, hszi⟩ := T.sizes H6
      have hsi : SIZES[i + 1]? = some ((na : Int), (nc : Int)) := by
        rw [sizes_tail, List.getElem?_cons_succ, List.getElem?_map, hdeed]; rfl
      obtain ⟨sa, hsa, hst⟩ := hszi (i + 1) _ hsi
      refine q_asgT2 (ev_ixT ev_c hsz (ev_var rfl) (atI_nat (j := i + 1) (by rw [List.getElem?_map, hsa]; rfl))) hst fun H7 e7 => ?_
      have e57 := e6.trans e7
      have hS7 := ex_l e57 hS5
      refine q_asgL (el_eq (el_sl (ev_var rfl) (eo_some (ev_addN (ev_var rfl) (ev_c (v := vi 1)))) (eo_some (ev_addN (ev_addN (ev_var rfl) (ev_c (v := vi 1))) (ev_var (v := vi na) rfl))) hS7) (slice_vis N (place + 1) na (by omega))) fun pa H8 hpa e8 hpa8 => ?_
      rw [hR1] at hpa8
      have htl7 := e57 _ _ htl5
      have npa : pa ≠ tl := fun z => by rw [z, htl7] at hpa; cases hpa
      have e58 := e57.trans e8
      refine q_aug (a := (place : Int)) (b := ((1 + na : Nat) : Int)) rfl (ev_addN (ev_c (v := vi 1)) (ev_var (v := vi na) rfl)) fun H9 e9 => ?_
      refine q_asgR (er_lst ea_nil (Nat.zero_le _)) fun y H10 e10 ⟨pr, ey, hpr, hpr10⟩ => ?_
      subst ey
      have e59 := e58.trans e9
      have htl9 := e59 _ _ htl5
      have npr : pr ≠ tl := fun z => by rw [z, htl9] at hpr; cases hpr
      have hpa9 := e9 _ _ hpa8
      have npra : pa ≠ pr := fun z => by rw [← z, hpa9] at hpr; cases hpr
      have hxl := rows_len hrows
      have e2t : (castL R).drop na = castL (N.drop (place + (1 + na))) := by
        rw [castL_drop, ← hR1, List.drop_drop, show place + 1 + na = place + (1 + na) by omega]
      have hc0 : (((i + 1 : Nat) : Int) :: (castL R).take na) :: xs ∈ raw := hsub _ (by rw [ers]; exact List.mem_cons_self)
      have hnc : nc ≤ 2 := by
        have : ∀ z ∈ deedP, z.2.2 ≤ 2 := by
          intro z hz
          have hz' : z.2.2 ∈ deedP.map (fun z => z.2.2) := List.mem_map.mpr ⟨z, hz, rfl⟩
          have : ∀ q ∈ deedP.map (fun z => z.2.2), q ≤ 2 := by decide
          exact this _ hz'
        exact this _ (List.mem_of_getElem? hdeed)
      refine q_forR1 (n := (nc : Int)) (ea_cons (ev_var rfl) ea_nil) ⟨by omega, by omega⟩ (fun j σ' H' => ∃ (pl : Nat) (v9 v10 : Option V) (as : List Addr), σ' = [some (.ref a), some (.ref d), some (.ref tl), some (vi pl), some (vi (i + 1)), some (.int na), some (.int nc), some (.ref pa), some (.ref pr), v9, v10, v11] ∧ Ex H9 H' ∧
          H' pr = some (.lst (as.map V.ref)) ∧ as.length = ((xs.take j).map natL).length ∧ (∀ (q : Nat) (x : Addr) (l : List Nat), as[q]? = some x → ((xs.take j).map natL)[q]? = some l → H' x = some (.lst (vis l)) ∧ x ≠ pr) ∧ (∀ x ∈ as, x ≠ tl) ∧
          PyFlat.rows (nc - j) (castL (N.drop pl)) = some (xs.drop j, t) ∧ place < pl ∧ pl ≤ N.length)
        (fun H11 e11 => ⟨place + (1 + na), _, _, [], rfl, e10.trans e11, e11 _ _ hpr10, rfl, fun q x l z => (by cases z), fun x z => (by cases z), by rw [← e2t]; exact hrows, by omega, by omega⟩) (fun j σ' H11 hj ⟨pl, v9, v10, as, es', e11, hpr11, hal, hai, hat, hrw, hpl1, hpl2⟩ => ?_) (fun σ' H11 ⟨pl, v9, v10, as, es', e11, hpr11, hal, hai, hat, hrw, hpl1, hpl2⟩ => ?_)
      · subst es'
        have hj' : j < nc := by omega
        rw [show nc - j = (nc - (j + 1)) + 1 by omega] at hrw
        obtain ⟨x, s', ys, hrow1, hrw2, exs⟩ := rows_succ hrw
        obtain ⟨m1, r1, hl1, hm0, hm1, ex1, es1⟩ := row_is hrow1
        obtain ⟨n1, N', hN', em1, er1⟩ := castL_cons hl1
        subst em1 er1
        obtain ⟨hn1, hN1, hpll⟩ := drop_cons hN'
        have hm1' : n1 ≤ N'.length := by
          have h : ((n1 : Int)).toNat ≤ (castL N').length := hm1
          unfold castL at h
          rw [List.length_map] at h
          omega
        have hNN : N.length = pl + 1 + N'.length := by
          have := congrArg List.length hN'
          rw [List.length_drop, List.length_cons] at this
          omega
        have hxv : natL x = N'.take n1 := by
          rw [ex1, castL_take, natL_cast]
          rfl
        have hsv : s' = castL (N.drop (pl + 1 + n1)) := by
          rw [es1, castL_drop, ← hN1, List.drop_drop]
          rfl
        have hxj : xs[j]? = some x := by
          have : (xs.drop j)[0]? = some x := by rw [exs]; rfl
          rw [List.getElem?_drop] at this
          exact this
        have hS11 := ex_l (e59.trans e11) hS5
        refine q_asg (v := vi (pl + 1 + n1)) (ev_addN (ev_addN (ev_var rfl) (ev_c (v := vi 1))) (ev_ixL (ev_var rfl) hS11 (ev_var rfl) (atI_nat (vis_some hn1)))) fun H12 e12 => ?_
        refine q_appL (e12 _ _ hpr11) (ev_var rfl) (el_eq (el_sl (ev_var rfl) (eo_some (ev_addN (ev_var rfl) (ev_c (v := vi 1)))) (eo_some (ev_var (v := vi (pl + 1 + n1)) rfl)) (ex_l e12 hS11)) (slice_vis N (pl + 1) n1 (by omega))) (by rw [List.length_map, hal, List.length_map]; have := List.length_take_le' j xs; omega) fun q H13 hq e13 hq13 => ?_
        rw [hN1] at hq13
        have nq : q ≠ pr := fun z => by rw [z, e12 _ _ hpr11] at hq; cases hq
        have nqt : q ≠ tl := fun z => by rw [z, e12 _ _ (e11 _ _ htl9)] at hq; cases hq
        obtain ⟨a1, a2, a3⟩ := RowsV.add (l := N'.take n1) hpr11 hal hai (e12.trans e13) hq13 nq
        rw [show (as.map V.ref ++ [V.ref q]) = (as ++ [q]).map V.ref by rw [List.map_append]; rfl]
        refine s_asg (ev_var rfl) fun H14 e14 => ⟨pl + 1 + n1, _, _, as ++ [q], rfl, (((e11.trans e12).trans e13).mut hpr).trans e14, e14 _ _ a1, ?_, fun q' x' l' w1 w2 => ?_, fun x' hx' => ?_, ?_, by omega, by omega⟩
        · rw [take_more hxj, List.map_append, List.map_cons, List.map_nil, hxv]; exact a2
        · rw [take_more hxj, List.map_append, List.map_cons, List.map_nil, hxv] at w2
          obtain ⟨z1, z2⟩ := a3 q' x' l' w1 w2
          exact ⟨e14 _ _ z1, z2⟩
        · rcases List.mem_append.mp hx' with h | h
          · exact hat x' h
          · rw [show x' = q by simpa using h]; exact nqt
        · rw [← hsv, hrw2]
          have : xs.drop (j + 1) = ys := by
            have := congrArg List.tail exs
            rw [List.tail_drop] at this
            exact this
          rw [this]
      · subst es'
        have hnat : ((nc : Int)).toNat = nc := by omega
        rw [hnat] at hal hai hrw
        have htk : xs.take nc = xs := List.take_of_length_le (by omega)
        rw [htk] at hal hai
        rw [Nat.sub_self] at hrw
        obtain ⟨_, ht⟩ := rows_zero hrw
        subst ht
        have htl11 := e11 _ _ htl9
        have hc200 := hrow _ hc0
        have e511 := e59.trans e11
        have hst : stepM es ((((i + 1 : Nat) : Int) :: (castL R).take na) :: xs) = kM es (R.take na) (xs.map natL) := by
          show (match deedP[(((i + 1 : Nat) : Int) - 1).toNat]? with
            | some z => z.1 es (natL ((castL R).take na)) (xs.map natL)
            | none => (es, [])) = _
          rw [show ((((i + 1 : Nat) : Int) - 1).toNat) = i by omega, hdeed]
          show kM es (natL ((castL R).take na)) (xs.map natL) = _
          rw [castL_take, natL_cast]
        refine q_answer (kM := kM) (na := na) (nc := nc) (args := R.take na) (rows := xs.map natL) htl11 hMt (fun _ => ev_var rfl) (fun _ => ev_var rfl) (fun _ => ev_var rfl) (fun _ => ev_var rfl) hdeed (fun od => (Dk5 od).mono (exUpd2 e511)) hG (e11 _ _ hpa9) npa
          (fun od => ⟨as, by rw [upd_ne npr]; exact hpr11, hal, fun q x l w1 w2 => by rw [upd_ne (hat x (List.mem_of_getElem? w1))]; exact (hai q x l w1 w2).1⟩)
          ⟨by rw [List.length_take]; omega, by rw [List.length_map]; exact hxl, fun r hr => by
            obtain ⟨r', hr', er⟩ := List.mem_map.mp hr
            rw [← er]
            have := hc200 r' (List.mem_cons_of_mem _ hr')
            unfold natL
            rw [List.length_map]; exact this⟩ fun p H12 M' hp npt Dk' kp hMt' hM' hp' => ?_
        rw [← hst] at Dk' hp'
        generalize hstv : stepM es ((((i + 1 : Nat) : Int) :: (castL R).take na) :: xs) = st at Dk' hp'
        have hG' : Good st.1 := by rw [← hstv]; exact hgood es hG _ hc0
        have hMn : ∀ x, M' x → H x = none := fun x hx => by
          rcases hM' x hx with q | q
          · exact hM x q
          · exact fresh_back (e05.trans e511) q
        have eH12 : Ex H H12 := fun x o hx => kp x o ((e05.trans e511) x o hx) fun z => by rw [hM x z] at hx; cases hx
        have htl12 : H12 tl = some (.lst (out.map V.int)) := kp tl _ htl11 hMt
        have hfin2 : PyFlat.told (PyFlat.played stepM [] raw) = (out ++ ((st.2.length : Int) :: st.2)) ++ PyFlat.told (PyFlat.played stepM st.1 cs') := by
          rw [hfin, ers]
          show out ++ PyFlat.told ((stepM es ((((i + 1 : Nat) : Int) :: (castL R).take na) :: xs)).2 :: PyFlat.played stepM (stepM es ((((i + 1 : Nat) : Int) :: (castL R).take na) :: xs)).1 cs') = _
          rw [hstv, told_cons, List.append_assoc]
        have hlen2 := congrArg List.length hfin2
        rw [List.length_append, List.length_append, List.length_cons] at hlen2
        have hz7 := sz7
        have htl0 : H tl = none := fresh_back e1 htl
        refine q_appZ (v := .int (st.2.length : Int)) htl12 (ev_var rfl) (ev_is (ev_lenL (ev_var rfl) (sq_of hp')) (by rw [List.length_map])) (by rw [List.length_map]; omega) fun H13 e13 => ?_
        have hp13 : (upd H13 tl (.lst (out.map V.int ++ [.int (st.2.length : Int)]))) p = some (.lst (st.2.map V.int)) := by rw [upd_ne npt]; exact e13 _ _ hp'
        refine s_extZ upd_same (ev_var rfl) (ev_var rfl) hp13 (by rw [List.length_append, List.length_map, List.length_map]; show out.length + 1 + st.2.length ≤ sizeLine; omega) fun H14 e14 => ?_
        refine ⟨N.length - pl, by omega, pl, st.1, M', out ++ ((st.2.length : Int) :: st.2), f2, cs', _, _, _, _, _, _, _, _, rfl, ?_, hMn, hMt', fun od => ?_, hG', ?_, hcs', fun c hc => hsub c (by rw [ers]; exact List.mem_cons_of_mem _ hc), hfin2, hpl2, rfl⟩
        · exact ((((eH12.trans e13).mut htl0).trans e14).mut htl0)
        · refine (Dk' od).refrz upd_same fun x o hx nx => ?_
          rw [upd_ne nx] at hx
          rw [upd_ne nx, upd_ne nx]
          refine e14 _ _ ?_
          rw [upd_ne nx]
          exact e13 _ _ hx
        · rw [upd_same, List.map_append, List.map_cons, List.append_assoc]; rfl
    · have hlt := of_decide_eq_false hlt
      have hpe : place = N.length := by omega
      subst hpe
      rw [List.drop_length] at hcs
      have hr0 := calls_nil hcs
      subst hr0
      refine s_ret (ev_var rfl) fun H6 e6 => k H6 tl ?_
      have he : out ++ PyFlat.told (PyFlat.played stepM es []) = out := List.append_nil out
      rw [hfin, he]
      exact e6 _ _ (e5 _ _ htl4)
end
end LW
end
section
set_option Elab.async false
set_option linter.all false
set_option exponentiation.threshold 10000
theorem LW.fin_of {P : PySem.Program} {w : PySem.World} {K : PySem.W.Frag} {mg : PySem.Str → Option PySem.Value} {fa : PySem.Addr} (h : ∃ A : LW.Ad, LW.Txt K mg A ∧ mg "answers" = some (.ref A.f_answers)) (hfa : mg "answers" = some (.ref fa)) :
    ∃ fd : PySem.FuncData, (∀ (s : PySem.Shared) (us : List PySem.Value), us.length = (["calls"] : List PySem.Str).length → PySem.BindsTo s fd ⟨us, []⟩ ((["calls"] : List PySem.Str).zip us)) ∧ ∀ base : PySem.Heap, K.In base → base.Ns PySem.mainGlobals mg → L2.FnOk P w K mg base L2.CX0 9 fa fd ["calls"] (LW.spAnswers K) := by
  obtain ⟨A, T, hA⟩ := h
  have e : fa = A.f_answers := by
    rw [hA] at hfa
    injection hfa with hfa
    injection hfa with hfa
    exact hfa.symm
  subst e
  obtain ⟨oc, od, kV, doc, pm, an, cdv, ct, osl, efd, _, _⟩ := T.fn_answers.ex
  exact ⟨A.d_answers, fun s us hu => by
    rw [efd]
    exact match us, hu with | [_], _ => .of_eq rfl, fun base _ _ => LW.ok_answers T⟩
open LF L2 in
theorem LW.sp_S {K : PySem.W.Frag} {H : Hp} {a : PySem.Addr} {ns : List Int} {Q : VK} {E : XK} (h0 : ∀ z ∈ ns, 0 ≤ z) (hl : ns.length ≤ 100000) (hask : PyWrtblt.answers_asked ns = true) (hs : SqL K H a (ns.map V.int))
    (k : ∀ H' p, H' p = some (.lst ((PyWrtblt.answers ns).map V.int)) → Q (.ref p) H') : LW.spAnswers K [.ref a] H Q E := by
  obtain ⟨raw, h1, h2, h3, h4, h5⟩ := asked_law hask
  have hc : LW.castL (natL ns) = ns := by
    unfold LW.castL natL
    rw [List.map_map]
    conv => rhs; rw [← List.map_id ns]
    refine List.map_congr_left fun z hz => ?_
    have := h0 z hz
    show ((z.toNat : Nat) : Int) = z
    omega
  have hv : LW.vis (natL ns) = ns.map V.int := by
    conv => rhs; rw [← hc]
    unfold LW.castL
    rw [List.map_map]
    rfl
  refine ⟨a, natL ns, ns.length, raw, rfl, by rw [hv]; exact hs, by unfold natL; rw [List.length_map]; exact hl, by rw [hc]; exact h1, h2, h3, h5, fun H' p hp => k H' p ?_⟩
  rw [h4]; exact hp
end
section
open PySem PySem.Spec PySem.W
theorem LW.within_ints {l m : Nat} {hi : Int} (hm : m ≤ 100000) {a : Codec.denoteAll [.list l m (.int 0 hi)]} (h : Codec.withinAll [.list l m (.int 0 hi)] a = true) : (∀ z ∈ a.1, (0 : Int) ≤ z) ∧ a.1.length ≤ 100000 := by
  have h1 : Codec.inList l m (Codec.inInt 0 hi) a.1 = true := (Bool.and_eq_true _ _ ▸ h : _ ∧ _).1
  unfold Codec.inList Codec.inLen Codec.inNat Codec.inInt at h1
  simp only [Bool.and_eq_true, List.all_eq_true, decide_eq_true_eq] at h1
  exact ⟨fun z hz => (h1.2 z hz).1, Nat.le_trans h1.1.2 hm⟩
end
section
set_option Elab.async false
set_option linter.all false
set_option maxRecDepth 100000
set_option maxHeartbeats 4000000
namespace LW
open PySem PySem.Spec PyProof.Rows L2
theorem exm_selfR {K : PySem.W.Frag} {S : Addr} (h1 : PySem.W.subIn K (.ref S) (.type "BaseException") = some true) (h2 : PySem.W.isClsIn K S = true) (h3 : PySem.W.typeIn K (.ref S) = some (.type "type")) (h4 : PySem.W.subIn K (.ref S) (.ref S) = some true) :
    PySem.W.exmOne K (.ref S) (.ref S) = some true := by
  have e1 : (PySem.W.subIn K (.ref S) (.type "BaseException") == some true) = true := by rw [h1] <;> rfl
  have e2 : ((PySem.W.clsIn K S).isSome && PySem.W.typeIn K (.ref S) == some (.type "type")) = true := by
    have h2' : (PySem.W.clsIn K S).isSome = true := h2
    rw [h2', h3] <;> rfl
  show (if (PySem.W.subIn K (.ref S) (.type "BaseException") == some true) = true then (if ((PySem.W.clsIn K S).isSome && PySem.W.typeIn K (.ref S) == some (.type "type")) = true then PySem.W.subIn K (.ref S) (.ref S) else none) else none) = some true
  rw [if_pos e1, if_pos e2]
  exact h4
theorem seqT_mk {K : PySem.W.Frag} {H : Hp} {a : Addr} {od : Option Addr} {its : List Value} {n : Nat} {sl : Array (Option Value)} {xs : List V} (h : K.lookup a = some ⟨.type "tuple", od, .seq its.toArray n, sl⟩) (hz : its.length ≤ 100) (r : Vals xs its) : SqT K H a xs :=
  Or.inr ⟨_, its.toArray, n, h, rfl, rfl, Nat.le_trans (by simpa using hz) (by decide : 100 ≤ sizeLine), by simpa using r⟩
/-! ### what the top has written, gathered (printed by gen.py) -/
theorem txt_mk {K : PySem.W.Frag} {h : Heap} {mg : Str → Option Value} (X : K.In h) (G : h.Ns mainGlobals mg)
    {c_Lot c_Entry c_Book c_Flow c_Refused c_Desk f_Lot_init f_Lot_left f_Lot_is_founder f_Entry_init f_Book_init f_Book_put_leg f_Book_greatest f_Book_make f_Book_founders f_Book_steps f_Book_steps_from f_Book_remainder f_Book_weight_of f_Book_shares f_Book_mixed f_divisor f_ratio f_plus f_Flow_init f_Flow_put f_Flow_reached f_Flow_way f_Flow_fill f_Flow_cut f_most f_least f_Refused_init f_Desk_init f_Desk_book_of f_refuse f_is_weight f_pairs f_check_entry f_check_rows f_put f_found f_are_pairs f_lift f_merge f_split f_lose f_undo f_check_lot f_show_lot f_flat f_legs f_then f_check_some f_check_set f_may f_cut f_weigh f_lay f_shares f_falls f_mothers_of f_sums f_answer_of f_answers a_S a_D a_S0 a_S1 a_S2 a_S3 a_S4 a_S5 a_S6 a_S7 a_S8 a_S9 a_S10 a_S11 a_S12 a_S13 a_S14 a_S15 a_S16 a_S17 : Addr}
    {od_Lot_init od_Lot_left od_Lot_is_founder od_Entry_init od_Book_init od_Book_put_leg od_Book_greatest od_Book_make od_Book_founders od_Book_steps od_Book_steps_from od_Book_remainder od_Book_weight_of od_Book_shares od_Book_mixed od_divisor od_ratio od_plus od_Flow_init od_Flow_put od_Flow_reached od_Flow_way od_Flow_fill od_Flow_cut od_most od_least od_Desk_init od_Desk_book_of od_refuse od_is_weight od_pairs od_check_entry od_check_rows od_put od_found od_are_pairs od_lift od_merge od_split od_lose od_undo od_check_lot od_show_lot od_flat od_legs od_then od_check_some od_check_set od_may od_cut od_weigh od_lay od_shares od_falls od_mothers_of od_sums od_answer_of od_answers an_Lot_init an_Lot_left an_Lot_is_founder an_Entry_init an_Book_init an_Book_put_leg an_Book_greatest an_Book_make an_Book_founders an_Book_steps an_Book_steps_from an_Book_remainder an_Book_weight_of an_Book_shares an_Book_mixed an_divisor an_ratio an_plus an_Flow_init an_Flow_put an_Flow_reached an_Flow_way an_Flow_fill an_Flow_cut an_most an_least an_Desk_init an_Desk_book_of an_refuse an_is_weight an_pairs an_check_entry an_check_rows an_put an_found an_are_pairs an_lift an_merge an_split an_lose an_undo an_check_lot an_show_lot an_flat an_legs an_then an_check_some an_check_set an_may an_cut an_weigh an_lay an_shares an_falls an_mothers_of an_sums an_answer_of an_answers od_S od_D od_S0 od_S1 od_S2 od_S3 od_S4 od_S5 od_S6 od_S7 od_S8 od_S9 od_S10 od_S11 od_S12 od_S13 od_S14 od_S15 od_S16 od_S17 : Option Addr}
    {sl_Lot_init sl_Lot_left sl_Lot_is_founder sl_Entry_init sl_Book_init sl_Book_put_leg sl_Book_greatest sl_Book_make sl_Book_founders sl_Book_steps sl_Book_steps_from sl_Book_remainder sl_Book_weight_of sl_Book_shares sl_Book_mixed sl_divisor sl_ratio sl_plus sl_Flow_init sl_Flow_put sl_Flow_reached sl_Flow_way sl_Flow_fill sl_Flow_cut sl_most sl_least sl_Desk_init sl_Desk_book_of sl_refuse sl_is_weight sl_pairs sl_check_entry sl_check_rows sl_put sl_found sl_are_pairs sl_lift sl_merge sl_split sl_lose sl_undo sl_check_lot sl_show_lot sl_flat sl_legs sl_then sl_check_some sl_check_set sl_may sl_cut sl_weigh sl_lay sl_shares sl_falls sl_mothers_of sl_sums sl_answer_of sl_answers sl_S sl_D sl_S0 sl_S1 sl_S2 sl_S3 sl_S4 sl_S5 sl_S6 sl_S7 sl_S8 sl_S9 sl_S10 sl_S11 sl_S12 sl_S13 sl_S14 sl_S15 sl_S16 sl_S17 : Array (Option Value)}
    {oc_Lot_init kV_Lot_init dc_Lot_init pm_Lot_init cd_Lot_init ct_Lot_init oc_Lot_left kV_Lot_left dc_Lot_left pm_Lot_left cd_Lot_left ct_Lot_left oc_Lot_is_founder kV_Lot_is_founder dc_Lot_is_founder pm_Lot_is_founder cd_Lot_is_founder ct_Lot_is_founder oc_Entry_init kV_Entry_init dc_Entry_init pm_Entry_init cd_Entry_init ct_Entry_init oc_Book_init kV_Book_init dc_Book_init pm_Book_init cd_Book_init ct_Book_init oc_Book_put_leg kV_Book_put_leg dc_Book_put_leg pm_Book_put_leg cd_Book_put_leg ct_Book_put_leg oc_Book_greatest kV_Book_greatest dc_Book_greatest pm_Book_greatest cd_Book_greatest ct_Book_greatest oc_Book_make kV_Book_make dc_Book_make pm_Book_make cd_Book_make ct_Book_make oc_Book_founders kV_Book_founders dc_Book_founders pm_Book_founders cd_Book_founders ct_Book_founders oc_Book_steps kV_Book_steps dc_Book_steps pm_Book_steps cd_Book_steps ct_Book_steps oc_Book_steps_from kV_Book_steps_from dc_Book_steps_from pm_Book_steps_from cd_Book_steps_from ct_Book_steps_from oc_Book_remainder kV_Book_remainder dc_Book_remainder pm_Book_remainder cd_Book_remainder ct_Book_remainder oc_Book_weight_of kV_Book_weight_of dc_Book_weight_of pm_Book_weight_of cd_Book_weight_of ct_Book_weight_of oc_Book_shares kV_Book_shares dc_Book_shares pm_Book_shares cd_Book_shares ct_Book_shares oc_Book_mixed kV_Book_mixed dc_Book_mixed pm_Book_mixed cd_Book_mixed ct_Book_mixed oc_divisor kV_divisor dc_divisor pm_divisor cd_divisor ct_divisor oc_ratio kV_ratio dc_ratio pm_ratio cd_ratio ct_ratio oc_plus kV_plus dc_plus pm_plus cd_plus ct_plus oc_Flow_init kV_Flow_init dc_Flow_init pm_Flow_init cd_Flow_init ct_Flow_init oc_Flow_put kV_Flow_put dc_Flow_put pm_Flow_put cd_Flow_put ct_Flow_put oc_Flow_reached kV_Flow_reached dc_Flow_reached pm_Flow_reached cd_Flow_reached ct_Flow_reached oc_Flow_way kV_Flow_way dc_Flow_way pm_Flow_way cd_Flow_way ct_Flow_way oc_Flow_fill kV_Flow_fill dc_Flow_fill pm_Flow_fill cd_Flow_fill ct_Flow_fill oc_Flow_cut kV_Flow_cut dc_Flow_cut pm_Flow_cut cd_Flow_cut ct_Flow_cut oc_most kV_most dc_most pm_most cd_most ct_most oc_least kV_least dc_least pm_least cd_least ct_least oc_Desk_init kV_Desk_init dc_Desk_init pm_Desk_init cd_Desk_init ct_Desk_init oc_Desk_book_of kV_Desk_book_of dc_Desk_book_of pm_Desk_book_of cd_Desk_book_of ct_Desk_book_of oc_refuse kV_refuse dc_refuse pm_refuse cd_refuse ct_refuse oc_is_weight kV_is_weight dc_is_weight pm_is_weight cd_is_weight ct_is_weight oc_pairs kV_pairs dc_pairs pm_pairs cd_pairs ct_pairs oc_check_entry kV_check_entry dc_check_entry pm_check_entry cd_check_entry ct_check_entry oc_check_rows kV_check_rows dc_check_rows pm_check_rows cd_check_rows ct_check_rows oc_put kV_put dc_put pm_put cd_put ct_put oc_found kV_found dc_found pm_found cd_found ct_found oc_are_pairs kV_are_pairs dc_are_pairs pm_are_pairs cd_are_pairs ct_are_pairs oc_lift kV_lift dc_lift pm_lift cd_lift ct_lift oc_merge kV_merge dc_merge pm_merge cd_merge ct_merge oc_split kV_split dc_split pm_split cd_split ct_split oc_lose kV_lose dc_lose pm_lose cd_lose ct_lose oc_undo kV_undo dc_undo pm_undo cd_undo ct_undo oc_check_lot kV_check_lot dc_check_lot pm_check_lot cd_check_lot ct_check_lot oc_show_lot kV_show_lot dc_show_lot pm_show_lot cd_show_lot ct_show_lot oc_flat kV_flat dc_flat pm_flat cd_flat ct_flat oc_legs kV_legs dc_legs pm_legs cd_legs ct_legs oc_then kV_then dc_then pm_then cd_then ct_then oc_check_some kV_check_some dc_check_some pm_check_some cd_check_some ct_check_some oc_check_set kV_check_set dc_check_set pm_check_set cd_check_set ct_check_set oc_may kV_may dc_may pm_may cd_may ct_may oc_cut kV_cut dc_cut pm_cut cd_cut ct_cut oc_weigh kV_weigh dc_weigh pm_weigh cd_weigh ct_weigh oc_lay kV_lay dc_lay pm_lay cd_lay ct_lay oc_shares kV_shares dc_shares pm_shares cd_shares ct_shares oc_falls kV_falls dc_falls pm_falls cd_falls ct_falls oc_mothers_of kV_mothers_of dc_mothers_of pm_mothers_of cd_mothers_of ct_mothers_of oc_sums kV_sums dc_sums pm_sums cd_sums ct_sums oc_answer_of kV_answer_of dc_answer_of pm_answer_of cd_answer_of ct_answer_of oc_answers kV_answers dc_answers pm_answers cd_answers ct_answers : Value}
    {t_FOUNDED t_LIFTED t_MERGED t_SPLIT t_SOURCE t_SINK t_MOST_WEIGHT t_LAST_DAY t_MOST_ENTRIES t_MOST_LOTS t_MOST_LEGS ta_S0 ta_S1 ta_S2 ta_S3 ta_S4 ta_S5 ta_S6 ta_S7 ta_S8 ta_S9 ta_S10 ta_S11 ta_S12 ta_S13 ta_S14 ta_S15 ta_S16 ta_S17 tb_S0 tb_S1 tb_S2 tb_S3 tb_S4 tb_S5 tb_S6 tb_S7 tb_S8 tb_S9 tb_S10 tb_S11 tb_S12 tb_S13 tb_S14 tb_S15 tb_S16 tb_S17 : Tok} {n_S n_D n_S0 n_S1 n_S2 n_S3 n_S4 n_S5 n_S6 n_S7 n_S8 n_S9 n_S10 n_S11 n_S12 n_S13 n_S14 n_S15 n_S16 n_S17 : Nat}
    {r_nm r_q : Str} {r_N : Addr} {r_bs : List Value} {r_sn : List Str} {r_sub : List Value} {r_ab : Bool} {r_col : Option Bool} {r_dd : Option Addr} {r_m0 r_m1 r_m2 r_m3 r_m5 : Option Value} {r_od r_an : Option Addr} {r_sl : Array (Option Value)} {r_oc r_dc r_pm r_cd r_ct : Value}
    (a_Lot : PySem.W.nsIn K mainGlobals "Lot" = some (some (.ref c_Lot)))
    (pg_Lot : PySem.W.plainGet K c_Lot Str.empty = true)
    (hd_Lot : PySem.W.hasDictIn K c_Lot = true)
    (po_Lot : PySem.W.plainOver K c_Lot = true)
    (sa_Lot : PySem.W.findIn K (.ref c_Lot) "__setattr__" = some (some (.builtin "object.__setattr__")))
    (mk_Lot : PySem.W.makesIn K c_Lot = true)
    (kc_Lot : PySem.W.keepIn K (.ref c_Lot) = true)
    (n_Lot_born : PySem.W.findIn K (.ref c_Lot) "born" = some none)
    (n_Lot_made : PySem.W.findIn K (.ref c_Lot) "made" = some none)
    (n_Lot_generation : PySem.W.findIn K (.ref c_Lot) "generation" = some none)
    (n_Lot_grade : PySem.W.findIn K (.ref c_Lot) "grade" = some none)
    (n_Lot_day : PySem.W.findIn K (.ref c_Lot) "day" = some none)
    (n_Lot_mothers : PySem.W.findIn K (.ref c_Lot) "mothers" = some none)
    (n_Lot_planted : PySem.W.findIn K (.ref c_Lot) "planted" = some none)
    (n_Lot_lost : PySem.W.findIn K (.ref c_Lot) "lost" = some none)
    (n_Lot_gone : PySem.W.findIn K (.ref c_Lot) "gone" = some none)
    (a_Entry : PySem.W.nsIn K mainGlobals "Entry" = some (some (.ref c_Entry)))
    (pg_Entry : PySem.W.plainGet K c_Entry Str.empty = true)
    (hd_Entry : PySem.W.hasDictIn K c_Entry = true)
    (po_Entry : PySem.W.plainOver K c_Entry = true)
    (sa_Entry : PySem.W.findIn K (.ref c_Entry) "__setattr__" = some (some (.builtin "object.__setattr__")))
    (mk_Entry : PySem.W.makesIn K c_Entry = true)
    (kc_Entry : PySem.W.keepIn K (.ref c_Entry) = true)
    (n_Entry_word : PySem.W.findIn K (.ref c_Entry) "word" = some none)
    (n_Entry_day : PySem.W.findIn K (.ref c_Entry) "day" = some none)
    (n_Entry_weight : PySem.W.findIn K (.ref c_Entry) "weight" = some none)
    (n_Entry_grade : PySem.W.findIn K (.ref c_Entry) "grade" = some none)
    (n_Entry_rows : PySem.W.findIn K (.ref c_Entry) "rows" = some none)
    (a_Book : PySem.W.nsIn K mainGlobals "Book" = some (some (.ref c_Book)))
    (pg_Book : PySem.W.plainGet K c_Book Str.empty = true)
    (hd_Book : PySem.W.hasDictIn K c_Book = true)
    (po_Book : PySem.W.plainOver K c_Book = true)
    (sa_Book : PySem.W.findIn K (.ref c_Book) "__setattr__" = some (some (.builtin "object.__setattr__")))
    (mk_Book : PySem.W.makesIn K c_Book = true)
    (kc_Book : PySem.W.keepIn K (.ref c_Book) = true)
    (n_Book_lots : PySem.W.findIn K (.ref c_Book) "lots" = some none)
    (n_Book_legs : PySem.W.findIn K (.ref c_Book) "legs" = some none)
    (a_Flow : PySem.W.nsIn K mainGlobals "Flow" = some (some (.ref c_Flow)))
    (pg_Flow : PySem.W.plainGet K c_Flow Str.empty = true)
    (hd_Flow : PySem.W.hasDictIn K c_Flow = true)
    (po_Flow : PySem.W.plainOver K c_Flow = true)
    (sa_Flow : PySem.W.findIn K (.ref c_Flow) "__setattr__" = some (some (.builtin "object.__setattr__")))
    (mk_Flow : PySem.W.makesIn K c_Flow = true)
    (kc_Flow : PySem.W.keepIn K (.ref c_Flow) = true)
    (n_Flow_room : PySem.W.findIn K (.ref c_Flow) "room" = some none)
    (n_Flow_total : PySem.W.findIn K (.ref c_Flow) "total" = some none)
    (a_Refused : PySem.W.nsIn K mainGlobals "Refused" = some (some (.ref c_Refused)))
    (a_Desk : PySem.W.nsIn K mainGlobals "Desk" = some (some (.ref c_Desk)))
    (pg_Desk : PySem.W.plainGet K c_Desk Str.empty = true)
    (hd_Desk : PySem.W.hasDictIn K c_Desk = true)
    (po_Desk : PySem.W.plainOver K c_Desk = true)
    (sa_Desk : PySem.W.findIn K (.ref c_Desk) "__setattr__" = some (some (.builtin "object.__setattr__")))
    (mk_Desk : PySem.W.makesIn K c_Desk = true)
    (kc_Desk : PySem.W.keepIn K (.ref c_Desk) = true)
    (n_Desk_entries : PySem.W.findIn K (.ref c_Desk) "entries" = some none)
    (n_Desk_book : PySem.W.findIn K (.ref c_Desk) "book" = some none)
    (a_Lot_init : PySem.W.findIn K (.ref c_Lot) "__init__" = some (some (.ref f_Lot_init)))
    (i_Lot_init : PySem.W.isFn K (.ref f_Lot_init) = true)
    (l_Lot_init : K.lookup f_Lot_init = some ⟨oc_Lot_init, od_Lot_init, .func (PySem.W.fnOf "__init__" "Lot.__init__" (defArgs s_Lot_init) (defBody s_Lot_init) (defScope s_Lot_init) .none kV_Lot_init dc_Lot_init pm_Lot_init an_Lot_init cd_Lot_init ct_Lot_init), sl_Lot_init⟩)
    (x_Lot_init : PySem.W.codeIn K cd_Lot_init "Lot.__init__" = true)
    (k_Lot_init : PySem.W.keepIn K (.ref f_Lot_init) = true)
    (a_Lot_left : PySem.W.findIn K (.ref c_Lot) "left" = some (some (.ref f_Lot_left)))
    (i_Lot_left : PySem.W.isFn K (.ref f_Lot_left) = true)
    (l_Lot_left : K.lookup f_Lot_left = some ⟨oc_Lot_left, od_Lot_left, .func (PySem.W.fnOf "left" "Lot.left" (defArgs s_Lot_left) (defBody s_Lot_left) (defScope s_Lot_left) .none kV_Lot_left dc_Lot_left pm_Lot_left an_Lot_left cd_Lot_left ct_Lot_left), sl_Lot_left⟩)
    (x_Lot_left : PySem.W.codeIn K cd_Lot_left "Lot.left" = true)
    (k_Lot_left : PySem.W.keepIn K (.ref f_Lot_left) = true)
    (a_Lot_is_founder : PySem.W.findIn K (.ref c_Lot) "is_founder" = some (some (.ref f_Lot_is_founder)))
    (i_Lot_is_founder : PySem.W.isFn K (.ref f_Lot_is_founder) = true)
    (l_Lot_is_founder : K.lookup f_Lot_is_founder = some ⟨oc_Lot_is_founder, od_Lot_is_founder, .func (PySem.W.fnOf "is_founder" "Lot.is_founder" (defArgs s_Lot_is_founder) (defBody s_Lot_is_founder) (defScope s_Lot_is_founder) .none kV_Lot_is_founder dc_Lot_is_founder pm_Lot_is_founder an_Lot_is_founder cd_Lot_is_founder ct_Lot_is_founder), sl_Lot_is_founder⟩)
    (x_Lot_is_founder : PySem.W.codeIn K cd_Lot_is_founder "Lot.is_founder" = true)
    (k_Lot_is_founder : PySem.W.keepIn K (.ref f_Lot_is_founder) = true)
    (a_Entry_init : PySem.W.findIn K (.ref c_Entry) "__init__" = some (some (.ref f_Entry_init)))
    (i_Entry_init : PySem.W.isFn K (.ref f_Entry_init) = true)
    (l_Entry_init : K.lookup f_Entry_init = some ⟨oc_Entry_init, od_Entry_init, .func (PySem.W.fnOf "__init__" "Entry.__init__" (defArgs s_Entry_init) (defBody s_Entry_init) (defScope s_Entry_init) .none kV_Entry_init dc_Entry_init pm_Entry_init an_Entry_init cd_Entry_init ct_Entry_init), sl_Entry_init⟩)
    (x_Entry_init : PySem.W.codeIn K cd_Entry_init "Entry.__init__" = true)
    (k_Entry_init : PySem.W.keepIn K (.ref f_Entry_init) = true)
    (a_Book_init : PySem.W.findIn K (.ref c_Book) "__init__" = some (some (.ref f_Book_init)))
    (i_Book_init : PySem.W.isFn K (.ref f_Book_init) = true)
    (l_Book_init : K.lookup f_Book_init = some ⟨oc_Book_init, od_Book_init, .func (PySem.W.fnOf "__init__" "Book.__init__" (defArgs s_Book_init) (defBody s_Book_init) (defScope s_Book_init) .none kV_Book_init dc_Book_init pm_Book_init an_Book_init cd_Book_init ct_Book_init), sl_Book_init⟩)
    (x_Book_init : PySem.W.codeIn K cd_Book_init "Book.__init__" = true)
    (k_Book_init : PySem.W.keepIn K (.ref f_Book_init) = true)
    (a_Book_put_leg : PySem.W.findIn K (.ref c_Book) "put_leg" = some (some (.ref f_Book_put_leg)))
    (i_Book_put_leg : PySem.W.isFn K (.ref f_Book_put_leg) = true)
    (l_Book_put_leg : K.lookup f_Book_put_leg = some ⟨oc_Book_put_leg, od_Book_put_leg, .func (PySem.W.fnOf "put_leg" "Book.put_leg" (defArgs s_Book_put_leg) (defBody s_Book_put_leg) (defScope s_Book_put_leg) .none kV_Book_put_leg dc_Book_put_leg pm_Book_put_leg an_Book_put_leg cd_Book_put_leg ct_Book_put_leg), sl_Book_put_leg⟩)
    (x_Book_put_leg : PySem.W.codeIn K cd_Book_put_leg "Book.put_leg" = true)
    (k_Book_put_leg : PySem.W.keepIn K (.ref f_Book_put_leg) = true)
    (a_Book_greatest : PySem.W.findIn K (.ref c_Book) "greatest" = some (some (.ref f_Book_greatest)))
    (i_Book_greatest : PySem.W.isFn K (.ref f_Book_greatest) = true)
    (l_Book_greatest : K.lookup f_Book_greatest = some ⟨oc_Book_greatest, od_Book_greatest, .func (PySem.W.fnOf "greatest" "Book.greatest" (defArgs s_Book_greatest) (defBody s_Book_greatest) (defScope s_Book_greatest) .none kV_Book_greatest dc_Book_greatest pm_Book_greatest an_Book_greatest cd_Book_greatest ct_Book_greatest), sl_Book_greatest⟩)
    (x_Book_greatest : PySem.W.codeIn K cd_Book_greatest "Book.greatest" = true)
    (k_Book_greatest : PySem.W.keepIn K (.ref f_Book_greatest) = true)
    (a_Book_make : PySem.W.findIn K (.ref c_Book) "make" = some (some (.ref f_Book_make)))
    (i_Book_make : PySem.W.isFn K (.ref f_Book_make) = true)
    (l_Book_make : K.lookup f_Book_make = some ⟨oc_Book_make, od_Book_make, .func (PySem.W.fnOf "make" "Book.make" (defArgs s_Book_make) (defBody s_Book_make) (defScope s_Book_make) .none kV_Book_make dc_Book_make pm_Book_make an_Book_make cd_Book_make ct_Book_make), sl_Book_make⟩)
    (x_Book_make : PySem.W.codeIn K cd_Book_make "Book.make" = true)
    (k_Book_make : PySem.W.keepIn K (.ref f_Book_make) = true)
    (a_Book_founders : PySem.W.findIn K (.ref c_Book) "founders" = some (some (.ref f_Book_founders)))
    (i_Book_founders : PySem.W.isFn K (.ref f_Book_founders) = true)
    (l_Book_founders : K.lookup f_Book_founders = some ⟨oc_Book_founders, od_Book_founders, .func (PySem.W.fnOf "founders" "Book.founders" (defArgs s_Book_founders) (defBody s_Book_founders) (defScope s_Book_founders) .none kV_Book_founders dc_Book_founders pm_Book_founders an_Book_founders cd_Book_founders ct_Book_founders), sl_Book_founders⟩)
    (x_Book_founders : PySem.W.codeIn K cd_Book_founders "Book.founders" = true)
    (k_Book_founders : PySem.W.keepIn K (.ref f_Book_founders) = true)
    (a_Book_steps : PySem.W.findIn K (.ref c_Book) "steps" = some (some (.ref f_Book_steps)))
    (i_Book_steps : PySem.W.isFn K (.ref f_Book_steps) = true)
    (l_Book_steps : K.lookup f_Book_steps = some ⟨oc_Book_steps, od_Book_steps, .func (PySem.W.fnOf "steps" "Book.steps" (defArgs s_Book_steps) (defBody s_Book_steps) (defScope s_Book_steps) .none kV_Book_steps dc_Book_steps pm_Book_steps an_Book_steps cd_Book_steps ct_Book_steps), sl_Book_steps⟩)
    (x_Book_steps : PySem.W.codeIn K cd_Book_steps "Book.steps" = true)
    (k_Book_steps : PySem.W.keepIn K (.ref f_Book_steps) = true)
    (a_Book_steps_from : PySem.W.findIn K (.ref c_Book) "steps_from" = some (some (.ref f_Book_steps_from)))
    (i_Book_steps_from : PySem.W.isFn K (.ref f_Book_steps_from) = true)
    (l_Book_steps_from : K.lookup f_Book_steps_from = some ⟨oc_Book_steps_from, od_Book_steps_from, .func (PySem.W.fnOf "steps_from" "Book.steps_from" (defArgs s_Book_steps_from) (defBody s_Book_steps_from) (defScope s_Book_steps_from) .none kV_Book_steps_from dc_Book_steps_from pm_Book_steps_from an_Book_steps_from cd_Book_steps_from ct_Book_steps_from), sl_Book_steps_from⟩)
    (x_Book_steps_from : PySem.W.codeIn K cd_Book_steps_from "Book.steps_from" = true)
    (k_Book_steps_from : PySem.W.keepIn K (.ref f_Book_steps_from) = true)
    (a_Book_remainder : PySem.W.findIn K (.ref c_Book) "remainder" = some (some (.ref f_Book_remainder)))
    (i_Book_remainder : PySem.W.isFn K (.ref f_Book_remainder) = true)
    (l_Book_remainder : K.lookup f_Book_remainder = some ⟨oc_Book_remainder, od_Book_remainder, .func (PySem.W.fnOf "remainder" "Book.remainder" (defArgs s_Book_remainder) (defBody s_Book_remainder) (defScope s_Book_remainder) .none kV_Book_remainder dc_Book_remainder pm_Book_remainder an_Book_remainder cd_Book_remainder ct_Book_remainder), sl_Book_remainder⟩)
    (x_Book_remainder : PySem.W.codeIn K cd_Book_remainder "Book.remainder" = true)
    (k_Book_remainder : PySem.W.keepIn K (.ref f_Book_remainder) = true)
    (a_Book_weight_of : PySem.W.findIn K (.ref c_Book) "weight_of" = some (some (.ref f_Book_weight_of)))
    (i_Book_weight_of : PySem.W.isFn K (.ref f_Book_weight_of) = true)
    (l_Book_weight_of : K.lookup f_Book_weight_of = some ⟨oc_Book_weight_of, od_Book_weight_of, .func (PySem.W.fnOf "weight_of" "Book.weight_of" (defArgs s_Book_weight_of) (defBody s_Book_weight_of) (defScope s_Book_weight_of) .none kV_Book_weight_of dc_Book_weight_of pm_Book_weight_of an_Book_weight_of cd_Book_weight_of ct_Book_weight_of), sl_Book_weight_of⟩)
    (x_Book_weight_of : PySem.W.codeIn K cd_Book_weight_of "Book.weight_of" = true)
    (k_Book_weight_of : PySem.W.keepIn K (.ref f_Book_weight_of) = true)
    (a_Book_shares : PySem.W.findIn K (.ref c_Book) "shares" = some (some (.ref f_Book_shares)))
    (i_Book_shares : PySem.W.isFn K (.ref f_Book_shares) = true)
    (l_Book_shares : K.lookup f_Book_shares = some ⟨oc_Book_shares, od_Book_shares, .func (PySem.W.fnOf "shares" "Book.shares" (defArgs s_Book_shares) (defBody s_Book_shares) (defScope s_Book_shares) .none kV_Book_shares dc_Book_shares pm_Book_shares an_Book_shares cd_Book_shares ct_Book_shares), sl_Book_shares⟩)
    (x_Book_shares : PySem.W.codeIn K cd_Book_shares "Book.shares" = true)
    (k_Book_shares : PySem.W.keepIn K (.ref f_Book_shares) = true)
    (a_Book_mixed : PySem.W.findIn K (.ref c_Book) "mixed" = some (some (.ref f_Book_mixed)))
    (i_Book_mixed : PySem.W.isFn K (.ref f_Book_mixed) = true)
    (l_Book_mixed : K.lookup f_Book_mixed = some ⟨oc_Book_mixed, od_Book_mixed, .func (PySem.W.fnOf "mixed" "Book.mixed" (defArgs s_Book_mixed) (defBody s_Book_mixed) (defScope s_Book_mixed) .none kV_Book_mixed dc_Book_mixed pm_Book_mixed an_Book_mixed cd_Book_mixed ct_Book_mixed), sl_Book_mixed⟩)
    (x_Book_mixed : PySem.W.codeIn K cd_Book_mixed "Book.mixed" = true)
    (k_Book_mixed : PySem.W.keepIn K (.ref f_Book_mixed) = true)
    (a_divisor : PySem.W.nsIn K mainGlobals "divisor" = some (some (.ref f_divisor)))
    (l_divisor : K.lookup f_divisor = some ⟨oc_divisor, od_divisor, .func (PySem.W.fnOf "divisor" "divisor" (defArgs s_divisor) (defBody s_divisor) (defScope s_divisor) .none kV_divisor dc_divisor pm_divisor an_divisor cd_divisor ct_divisor), sl_divisor⟩)
    (x_divisor : PySem.W.codeIn K cd_divisor "divisor" = true)
    (k_divisor : PySem.W.keepIn K (.ref f_divisor) = true)
    (a_ratio : PySem.W.nsIn K mainGlobals "ratio" = some (some (.ref f_ratio)))
    (l_ratio : K.lookup f_ratio = some ⟨oc_ratio, od_ratio, .func (PySem.W.fnOf "ratio" "ratio" (defArgs s_ratio) (defBody s_ratio) (defScope s_ratio) .none kV_ratio dc_ratio pm_ratio an_ratio cd_ratio ct_ratio), sl_ratio⟩)
    (x_ratio : PySem.W.codeIn K cd_ratio "ratio" = true)
    (k_ratio : PySem.W.keepIn K (.ref f_ratio) = true)
    (a_plus : PySem.W.nsIn K mainGlobals "plus" = some (some (.ref f_plus)))
    (l_plus : K.lookup f_plus = some ⟨oc_plus, od_plus, .func (PySem.W.fnOf "plus" "plus" (defArgs s_plus) (defBody s_plus) (defScope s_plus) .none kV_plus dc_plus pm_plus an_plus cd_plus ct_plus), sl_plus⟩)
    (x_plus : PySem.W.codeIn K cd_plus "plus" = true)
    (k_plus : PySem.W.keepIn K (.ref f_plus) = true)
    (a_Flow_init : PySem.W.findIn K (.ref c_Flow) "__init__" = some (some (.ref f_Flow_init)))
    (i_Flow_init : PySem.W.isFn K (.ref f_Flow_init) = true)
    (l_Flow_init : K.lookup f_Flow_init = some ⟨oc_Flow_init, od_Flow_init, .func (PySem.W.fnOf "__init__" "Flow.__init__" (defArgs s_Flow_init) (defBody s_Flow_init) (defScope s_Flow_init) .none kV_Flow_init dc_Flow_init pm_Flow_init an_Flow_init cd_Flow_init ct_Flow_init), sl_Flow_init⟩)
    (x_Flow_init : PySem.W.codeIn K cd_Flow_init "Flow.__init__" = true)
    (k_Flow_init : PySem.W.keepIn K (.ref f_Flow_init) = true)
    (a_Flow_put : PySem.W.findIn K (.ref c_Flow) "put" = some (some (.ref f_Flow_put)))
    (i_Flow_put : PySem.W.isFn K (.ref f_Flow_put) = true)
    (l_Flow_put : K.lookup f_Flow_put = some ⟨oc_Flow_put, od_Flow_put, .func (PySem.W.fnOf "put" "Flow.put" (defArgs s_Flow_put) (defBody s_Flow_put) (defScope s_Flow_put) .none kV_Flow_put dc_Flow_put pm_Flow_put an_Flow_put cd_Flow_put ct_Flow_put), sl_Flow_put⟩)
    (x_Flow_put : PySem.W.codeIn K cd_Flow_put "Flow.put" = true)
    (k_Flow_put : PySem.W.keepIn K (.ref f_Flow_put) = true)
    (a_Flow_reached : PySem.W.findIn K (.ref c_Flow) "reached" = some (some (.ref f_Flow_reached)))
    (i_Flow_reached : PySem.W.isFn K (.ref f_Flow_reached) = true)
    (l_Flow_reached : K.lookup f_Flow_reached = some ⟨oc_Flow_reached, od_Flow_reached, .func (PySem.W.fnOf "reached" "Flow.reached" (defArgs s_Flow_reached) (defBody s_Flow_reached) (defScope s_Flow_reached) .none kV_Flow_reached dc_Flow_reached pm_Flow_reached an_Flow_reached cd_Flow_reached ct_Flow_reached), sl_Flow_reached⟩)
    (x_Flow_reached : PySem.W.codeIn K cd_Flow_reached "Flow.reached" = true)
    (k_Flow_reached : PySem.W.keepIn K (.ref f_Flow_reached) = true)
    (a_Flow_way : PySem.W.findIn K (.ref c_Flow) "way" = some (some (.ref f_Flow_way)))
    (i_Flow_way : PySem.W.isFn K (.ref f_Flow_way) = true)
    (l_Flow_way : K.lookup f_Flow_way = some ⟨oc_Flow_way, od_Flow_way, .func (PySem.W.fnOf "way" "Flow.way" (defArgs s_Flow_way) (defBody s_Flow_way) (defScope s_Flow_way) .none kV_Flow_way dc_Flow_way pm_Flow_way an_Flow_way cd_Flow_way ct_Flow_way), sl_Flow_way⟩)
    (x_Flow_way : PySem.W.codeIn K cd_Flow_way "Flow.way" = true)
    (k_Flow_way : PySem.W.keepIn K (.ref f_Flow_way) = true)
    (a_Flow_fill : PySem.W.findIn K (.ref c_Flow) "fill" = some (some (.ref f_Flow_fill)))
    (i_Flow_fill : PySem.W.isFn K (.ref f_Flow_fill) = true)
    (l_Flow_fill : K.lookup f_Flow_fill = some ⟨oc_Flow_fill, od_Flow_fill, .func (PySem.W.fnOf "fill" "Flow.fill" (defArgs s_Flow_fill) (defBody s_Flow_fill) (defScope s_Flow_fill) .none kV_Flow_fill dc_Flow_fill pm_Flow_fill an_Flow_fill cd_Flow_fill ct_Flow_fill), sl_Flow_fill⟩)
    (x_Flow_fill : PySem.W.codeIn K cd_Flow_fill "Flow.fill" = true)
    (k_Flow_fill : PySem.W.keepIn K (.ref f_Flow_fill) = true)
    (a_Flow_cut : PySem.W.findIn K (.ref c_Flow) "cut" = some (some (.ref f_Flow_cut)))
    (i_Flow_cut : PySem.W.isFn K (.ref f_Flow_cut) = true)
    (l_Flow_cut : K.lookup f_Flow_cut = some ⟨oc_Flow_cut, od_Flow_cut, .func (PySem.W.fnOf "cut" "Flow.cut" (defArgs s_Flow_cut) (defBody s_Flow_cut) (defScope s_Flow_cut) .none kV_Flow_cut dc_Flow_cut pm_Flow_cut an_Flow_cut cd_Flow_cut ct_Flow_cut), sl_Flow_cut⟩)
    (x_Flow_cut : PySem.W.codeIn K cd_Flow_cut "Flow.cut" = true)
    (k_Flow_cut : PySem.W.keepIn K (.ref f_Flow_cut) = true)
    (a_most : PySem.W.nsIn K mainGlobals "most" = some (some (.ref f_most)))
    (l_most : K.lookup f_most = some ⟨oc_most, od_most, .func (PySem.W.fnOf "most" "most" (defArgs s_most) (defBody s_most) (defScope s_most) .none kV_most dc_most pm_most an_most cd_most ct_most), sl_most⟩)
    (x_most : PySem.W.codeIn K cd_most "most" = true)
    (k_most : PySem.W.keepIn K (.ref f_most) = true)
    (a_least : PySem.W.nsIn K mainGlobals "least" = some (some (.ref f_least)))
    (l_least : K.lookup f_least = some ⟨oc_least, od_least, .func (PySem.W.fnOf "least" "least" (defArgs s_least) (defBody s_least) (defScope s_least) .none kV_least dc_least pm_least an_least cd_least ct_least), sl_least⟩)
    (x_least : PySem.W.codeIn K cd_least "least" = true)
    (k_least : PySem.W.keepIn K (.ref f_least) = true)
    (a_Desk_init : PySem.W.findIn K (.ref c_Desk) "__init__" = some (some (.ref f_Desk_init)))
    (i_Desk_init : PySem.W.isFn K (.ref f_Desk_init) = true)
    (l_Desk_init : K.lookup f_Desk_init = some ⟨oc_Desk_init, od_Desk_init, .func (PySem.W.fnOf "__init__" "Desk.__init__" (defArgs s_Desk_init) (defBody s_Desk_init) (defScope s_Desk_init) .none kV_Desk_init dc_Desk_init pm_Desk_init an_Desk_init cd_Desk_init ct_Desk_init), sl_Desk_init⟩)
    (x_Desk_init : PySem.W.codeIn K cd_Desk_init "Desk.__init__" = true)
    (k_Desk_init : PySem.W.keepIn K (.ref f_Desk_init) = true)
    (a_Desk_book_of : PySem.W.findIn K (.ref c_Desk) "book_of" = some (some (.ref f_Desk_book_of)))
    (i_Desk_book_of : PySem.W.isFn K (.ref f_Desk_book_of) = true)
    (l_Desk_book_of : K.lookup f_Desk_book_of = some ⟨oc_Desk_book_of, od_Desk_book_of, .func (PySem.W.fnOf "book_of" "Desk.book_of" (defArgs s_Desk_book_of) (defBody s_Desk_book_of) (defScope s_Desk_book_of) .none kV_Desk_book_of dc_Desk_book_of pm_Desk_book_of an_Desk_book_of cd_Desk_book_of ct_Desk_book_of), sl_Desk_book_of⟩)
    (x_Desk_book_of : PySem.W.codeIn K cd_Desk_book_of "Desk.book_of" = true)
    (k_Desk_book_of : PySem.W.keepIn K (.ref f_Desk_book_of) = true)
    (a_refuse : PySem.W.nsIn K mainGlobals "refuse" = some (some (.ref f_refuse)))
    (l_refuse : K.lookup f_refuse = some ⟨oc_refuse, od_refuse, .func (PySem.W.fnOf "refuse" "refuse" (defArgs s_refuse) (defBody s_refuse) (defScope s_refuse) .none kV_refuse dc_refuse pm_refuse an_refuse cd_refuse ct_refuse), sl_refuse⟩)
    (x_refuse : PySem.W.codeIn K cd_refuse "refuse" = true)
    (k_refuse : PySem.W.keepIn K (.ref f_refuse) = true)
    (a_is_weight : PySem.W.nsIn K mainGlobals "is_weight" = some (some (.ref f_is_weight)))
    (l_is_weight : K.lookup f_is_weight = some ⟨oc_is_weight, od_is_weight, .func (PySem.W.fnOf "is_weight" "is_weight" (defArgs s_is_weight) (defBody s_is_weight) (defScope s_is_weight) .none kV_is_weight dc_is_weight pm_is_weight an_is_weight cd_is_weight ct_is_weight), sl_is_weight⟩)
    (x_is_weight : PySem.W.codeIn K cd_is_weight "is_weight" = true)
    (k_is_weight : PySem.W.keepIn K (.ref f_is_weight) = true)
    (a_pairs : PySem.W.nsIn K mainGlobals "pairs" = some (some (.ref f_pairs)))
    (l_pairs : K.lookup f_pairs = some ⟨oc_pairs, od_pairs, .func (PySem.W.fnOf "pairs" "pairs" (defArgs s_pairs) (defBody s_pairs) (defScope s_pairs) .none kV_pairs dc_pairs pm_pairs an_pairs cd_pairs ct_pairs), sl_pairs⟩)
    (x_pairs : PySem.W.codeIn K cd_pairs "pairs" = true)
    (k_pairs : PySem.W.keepIn K (.ref f_pairs) = true)
    (a_check_entry : PySem.W.nsIn K mainGlobals "check_entry" = some (some (.ref f_check_entry)))
    (l_check_entry : K.lookup f_check_entry = some ⟨oc_check_entry, od_check_entry, .func (PySem.W.fnOf "check_entry" "check_entry" (defArgs s_check_entry) (defBody s_check_entry) (defScope s_check_entry) .none kV_check_entry dc_check_entry pm_check_entry an_check_entry cd_check_entry ct_check_entry), sl_check_entry⟩)
    (x_check_entry : PySem.W.codeIn K cd_check_entry "check_entry" = true)
    (k_check_entry : PySem.W.keepIn K (.ref f_check_entry) = true)
    (a_check_rows : PySem.W.nsIn K mainGlobals "check_rows" = some (some (.ref f_check_rows)))
    (l_check_rows : K.lookup f_check_rows = some ⟨oc_check_rows, od_check_rows, .func (PySem.W.fnOf "check_rows" "check_rows" (defArgs s_check_rows) (defBody s_check_rows) (defScope s_check_rows) .none kV_check_rows dc_check_rows pm_check_rows an_check_rows cd_check_rows ct_check_rows), sl_check_rows⟩)
    (x_check_rows : PySem.W.codeIn K cd_check_rows "check_rows" = true)
    (k_check_rows : PySem.W.keepIn K (.ref f_check_rows) = true)
    (a_put : PySem.W.nsIn K mainGlobals "put" = some (some (.ref f_put)))
    (l_put : K.lookup f_put = some ⟨oc_put, od_put, .func (PySem.W.fnOf "put" "put" (defArgs s_put) (defBody s_put) (defScope s_put) .none kV_put dc_put pm_put an_put cd_put ct_put), sl_put⟩)
    (x_put : PySem.W.codeIn K cd_put "put" = true)
    (k_put : PySem.W.keepIn K (.ref f_put) = true)
    (a_found : PySem.W.nsIn K mainGlobals "found" = some (some (.ref f_found)))
    (l_found : K.lookup f_found = some ⟨oc_found, od_found, .func (PySem.W.fnOf "found" "found" (defArgs s_found) (defBody s_found) (defScope s_found) .none kV_found dc_found pm_found an_found cd_found ct_found), sl_found⟩)
    (x_found : PySem.W.codeIn K cd_found "found" = true)
    (k_found : PySem.W.keepIn K (.ref f_found) = true)
    (a_are_pairs : PySem.W.nsIn K mainGlobals "are_pairs" = some (some (.ref f_are_pairs)))
    (l_are_pairs : K.lookup f_are_pairs = some ⟨oc_are_pairs, od_are_pairs, .func (PySem.W.fnOf "are_pairs" "are_pairs" (defArgs s_are_pairs) (defBody s_are_pairs) (defScope s_are_pairs) .none kV_are_pairs dc_are_pairs pm_are_pairs an_are_pairs cd_are_pairs ct_are_pairs), sl_are_pairs⟩)
    (x_are_pairs : PySem.W.codeIn K cd_are_pairs "are_pairs" = true)
    (k_are_pairs : PySem.W.keepIn K (.ref f_are_pairs) = true)
    (a_lift : PySem.W.nsIn K mainGlobals "lift" = some (some (.ref f_lift)))
    (l_lift : K.lookup f_lift = some ⟨oc_lift, od_lift, .func (PySem.W.fnOf "lift" "lift" (defArgs s_lift) (defBody s_lift) (defScope s_lift) .none kV_lift dc_lift pm_lift an_lift cd_lift ct_lift), sl_lift⟩)
    (x_lift : PySem.W.codeIn K cd_lift "lift" = true)
    (k_lift : PySem.W.keepIn K (.ref f_lift) = true)
    (a_merge : PySem.W.nsIn K mainGlobals "merge" = some (some (.ref f_merge)))
    (l_merge : K.lookup f_merge = some ⟨oc_merge, od_merge, .func (PySem.W.fnOf "merge" "merge" (defArgs s_merge) (defBody s_merge) (defScope s_merge) .none kV_merge dc_merge pm_merge an_merge cd_merge ct_merge), sl_merge⟩)
    (x_merge : PySem.W.codeIn K cd_merge "merge" = true)
    (k_merge : PySem.W.keepIn K (.ref f_merge) = true)
    (a_split : PySem.W.nsIn K mainGlobals "split" = some (some (.ref f_split)))
    (l_split : K.lookup f_split = some ⟨oc_split, od_split, .func (PySem.W.fnOf "split" "split" (defArgs s_split) (defBody s_split) (defScope s_split) .none kV_split dc_split pm_split an_split cd_split ct_split), sl_split⟩)
    (x_split : PySem.W.codeIn K cd_split "split" = true)
    (k_split : PySem.W.keepIn K (.ref f_split) = true)
    (a_lose : PySem.W.nsIn K mainGlobals "lose" = some (some (.ref f_lose)))
    (l_lose : K.lookup f_lose = some ⟨oc_lose, od_lose, .func (PySem.W.fnOf "lose" "lose" (defArgs s_lose) (defBody s_lose) (defScope s_lose) .none kV_lose dc_lose pm_lose an_lose cd_lose ct_lose), sl_lose⟩)
    (x_lose : PySem.W.codeIn K cd_lose "lose" = true)
    (k_lose : PySem.W.keepIn K (.ref f_lose) = true)
    (a_undo : PySem.W.nsIn K mainGlobals "undo" = some (some (.ref f_undo)))
    (l_undo : K.lookup f_undo = some ⟨oc_undo, od_undo, .func (PySem.W.fnOf "undo" "undo" (defArgs s_undo) (defBody s_undo) (defScope s_undo) .none kV_undo dc_undo pm_undo an_undo cd_undo ct_undo), sl_undo⟩)
    (x_undo : PySem.W.codeIn K cd_undo "undo" = true)
    (k_undo : PySem.W.keepIn K (.ref f_undo) = true)
    (a_check_lot : PySem.W.nsIn K mainGlobals "check_lot" = some (some (.ref f_check_lot)))
    (l_check_lot : K.lookup f_check_lot = some ⟨oc_check_lot, od_check_lot, .func (PySem.W.fnOf "check_lot" "check_lot" (defArgs s_check_lot) (defBody s_check_lot) (defScope s_check_lot) .none kV_check_lot dc_check_lot pm_check_lot an_check_lot cd_check_lot ct_check_lot), sl_check_lot⟩)
    (x_check_lot : PySem.W.codeIn K cd_check_lot "check_lot" = true)
    (k_check_lot : PySem.W.keepIn K (.ref f_check_lot) = true)
    (a_show_lot : PySem.W.nsIn K mainGlobals "show_lot" = some (some (.ref f_show_lot)))
    (l_show_lot : K.lookup f_show_lot = some ⟨oc_show_lot, od_show_lot, .func (PySem.W.fnOf "show_lot" "show_lot" (defArgs s_show_lot) (defBody s_show_lot) (defScope s_show_lot) .none kV_show_lot dc_show_lot pm_show_lot an_show_lot cd_show_lot ct_show_lot), sl_show_lot⟩)
    (x_show_lot : PySem.W.codeIn K cd_show_lot "show_lot" = true)
    (k_show_lot : PySem.W.keepIn K (.ref f_show_lot) = true)
    (a_flat : PySem.W.nsIn K mainGlobals "flat" = some (some (.ref f_flat)))
    (l_flat : K.lookup f_flat = some ⟨oc_flat, od_flat, .func (PySem.W.fnOf "flat" "flat" (defArgs s_flat) (defBody s_flat) (defScope s_flat) .none kV_flat dc_flat pm_flat an_flat cd_flat ct_flat), sl_flat⟩)
    (x_flat : PySem.W.codeIn K cd_flat "flat" = true)
    (k_flat : PySem.W.keepIn K (.ref f_flat) = true)
    (a_legs : PySem.W.nsIn K mainGlobals "legs" = some (some (.ref f_legs)))
    (l_legs : K.lookup f_legs = some ⟨oc_legs, od_legs, .func (PySem.W.fnOf "legs" "legs" (defArgs s_legs) (defBody s_legs) (defScope s_legs) .none kV_legs dc_legs pm_legs an_legs cd_legs ct_legs), sl_legs⟩)
    (x_legs : PySem.W.codeIn K cd_legs "legs" = true)
    (k_legs : PySem.W.keepIn K (.ref f_legs) = true)
    (a_then : PySem.W.nsIn K mainGlobals "then" = some (some (.ref f_then)))
    (l_then : K.lookup f_then = some ⟨oc_then, od_then, .func (PySem.W.fnOf "then" "then" (defArgs s_then) (defBody s_then) (defScope s_then) .none kV_then dc_then pm_then an_then cd_then ct_then), sl_then⟩)
    (x_then : PySem.W.codeIn K cd_then "then" = true)
    (k_then : PySem.W.keepIn K (.ref f_then) = true)
    (a_check_some : PySem.W.nsIn K mainGlobals "check_some" = some (some (.ref f_check_some)))
    (l_check_some : K.lookup f_check_some = some ⟨oc_check_some, od_check_some, .func (PySem.W.fnOf "check_some" "check_some" (defArgs s_check_some) (defBody s_check_some) (defScope s_check_some) .none kV_check_some dc_check_some pm_check_some an_check_some cd_check_some ct_check_some), sl_check_some⟩)
    (x_check_some : PySem.W.codeIn K cd_check_some "check_some" = true)
    (k_check_some : PySem.W.keepIn K (.ref f_check_some) = true)
    (a_check_set : PySem.W.nsIn K mainGlobals "check_set" = some (some (.ref f_check_set)))
    (l_check_set : K.lookup f_check_set = some ⟨oc_check_set, od_check_set, .func (PySem.W.fnOf "check_set" "check_set" (defArgs s_check_set) (defBody s_check_set) (defScope s_check_set) .none kV_check_set dc_check_set pm_check_set an_check_set cd_check_set ct_check_set), sl_check_set⟩)
    (x_check_set : PySem.W.codeIn K cd_check_set "check_set" = true)
    (k_check_set : PySem.W.keepIn K (.ref f_check_set) = true)
    (a_may : PySem.W.nsIn K mainGlobals "may" = some (some (.ref f_may)))
    (l_may : K.lookup f_may = some ⟨oc_may, od_may, .func (PySem.W.fnOf "may" "may" (defArgs s_may) (defBody s_may) (defScope s_may) .none kV_may dc_may pm_may an_may cd_may ct_may), sl_may⟩)
    (x_may : PySem.W.codeIn K cd_may "may" = true)
    (k_may : PySem.W.keepIn K (.ref f_may) = true)
    (a_cut : PySem.W.nsIn K mainGlobals "cut" = some (some (.ref f_cut)))
    (l_cut : K.lookup f_cut = some ⟨oc_cut, od_cut, .func (PySem.W.fnOf "cut" "cut" (defArgs s_cut) (defBody s_cut) (defScope s_cut) .none kV_cut dc_cut pm_cut an_cut cd_cut ct_cut), sl_cut⟩)
    (x_cut : PySem.W.codeIn K cd_cut "cut" = true)
    (k_cut : PySem.W.keepIn K (.ref f_cut) = true)
    (a_weigh : PySem.W.nsIn K mainGlobals "weigh" = some (some (.ref f_weigh)))
    (l_weigh : K.lookup f_weigh = some ⟨oc_weigh, od_weigh, .func (PySem.W.fnOf "weigh" "weigh" (defArgs s_weigh) (defBody s_weigh) (defScope s_weigh) .none kV_weigh dc_weigh pm_weigh an_weigh cd_weigh ct_weigh), sl_weigh⟩)
    (x_weigh : PySem.W.codeIn K cd_weigh "weigh" = true)
    (k_weigh : PySem.W.keepIn K (.ref f_weigh) = true)
    (a_lay : PySem.W.nsIn K mainGlobals "lay" = some (some (.ref f_lay)))
    (l_lay : K.lookup f_lay = some ⟨oc_lay, od_lay, .func (PySem.W.fnOf "lay" "lay" (defArgs s_lay) (defBody s_lay) (defScope s_lay) .none kV_lay dc_lay pm_lay an_lay cd_lay ct_lay), sl_lay⟩)
    (x_lay : PySem.W.codeIn K cd_lay "lay" = true)
    (k_lay : PySem.W.keepIn K (.ref f_lay) = true)
    (a_shares : PySem.W.nsIn K mainGlobals "shares" = some (some (.ref f_shares)))
    (l_shares : K.lookup f_shares = some ⟨oc_shares, od_shares, .func (PySem.W.fnOf "shares" "shares" (defArgs s_shares) (defBody s_shares) (defScope s_shares) .none kV_shares dc_shares pm_shares an_shares cd_shares ct_shares), sl_shares⟩)
    (x_shares : PySem.W.codeIn K cd_shares "shares" = true)
    (k_shares : PySem.W.keepIn K (.ref f_shares) = true)
    (a_falls : PySem.W.nsIn K mainGlobals "falls" = some (some (.ref f_falls)))
    (l_falls : K.lookup f_falls = some ⟨oc_falls, od_falls, .func (PySem.W.fnOf "falls" "falls" (defArgs s_falls) (defBody s_falls) (defScope s_falls) .none kV_falls dc_falls pm_falls an_falls cd_falls ct_falls), sl_falls⟩)
    (x_falls : PySem.W.codeIn K cd_falls "falls" = true)
    (k_falls : PySem.W.keepIn K (.ref f_falls) = true)
    (a_mothers_of : PySem.W.nsIn K mainGlobals "mothers_of" = some (some (.ref f_mothers_of)))
    (l_mothers_of : K.lookup f_mothers_of = some ⟨oc_mothers_of, od_mothers_of, .func (PySem.W.fnOf "mothers_of" "mothers_of" (defArgs s_mothers_of) (defBody s_mothers_of) (defScope s_mothers_of) .none kV_mothers_of dc_mothers_of pm_mothers_of an_mothers_of cd_mothers_of ct_mothers_of), sl_mothers_of⟩)
    (x_mothers_of : PySem.W.codeIn K cd_mothers_of "mothers_of" = true)
    (k_mothers_of : PySem.W.keepIn K (.ref f_mothers_of) = true)
    (a_sums : PySem.W.nsIn K mainGlobals "sums" = some (some (.ref f_sums)))
    (l_sums : K.lookup f_sums = some ⟨oc_sums, od_sums, .func (PySem.W.fnOf "sums" "sums" (defArgs s_sums) (defBody s_sums) (defScope s_sums) .none kV_sums dc_sums pm_sums an_sums cd_sums ct_sums), sl_sums⟩)
    (x_sums : PySem.W.codeIn K cd_sums "sums" = true)
    (k_sums : PySem.W.keepIn K (.ref f_sums) = true)
    (a_answer_of : PySem.W.nsIn K mainGlobals "answer_of" = some (some (.ref f_answer_of)))
    (l_answer_of : K.lookup f_answer_of = some ⟨oc_answer_of, od_answer_of, .func (PySem.W.fnOf "answer_of" "answer_of" (defArgs s_answer_of) (defBody s_answer_of) (defScope s_answer_of) .none kV_answer_of dc_answer_of pm_answer_of an_answer_of cd_answer_of ct_answer_of), sl_answer_of⟩)
    (x_answer_of : PySem.W.codeIn K cd_answer_of "answer_of" = true)
    (k_answer_of : PySem.W.keepIn K (.ref f_answer_of) = true)
    (a_answers : PySem.W.nsIn K mainGlobals "answers" = some (some (.ref f_answers)))
    (l_answers : K.lookup f_answers = some ⟨oc_answers, od_answers, .func (PySem.W.fnOf "answers" "answers" (defArgs s_answers) (defBody s_answers) (defScope s_answers) .none kV_answers dc_answers pm_answers an_answers cd_answers ct_answers), sl_answers⟩)
    (x_answers : PySem.W.codeIn K cd_answers "answers" = true)
    (k_answers : PySem.W.keepIn K (.ref f_answers) = true)
    (z_len : PySem.W.nsIn K mainGlobals "len" = some none)
    (z_max : PySem.W.nsIn K mainGlobals "max" = some none)
    (z_min : PySem.W.nsIn K mainGlobals "min" = some none)
    (z_sum : PySem.W.nsIn K mainGlobals "sum" = some none)
    (z_any : PySem.W.nsIn K mainGlobals "any" = some none)
    (z_all : PySem.W.nsIn K mainGlobals "all" = some none)
    (z_sorted : PySem.W.nsIn K mainGlobals "sorted" = some none)
    (z_list : PySem.W.nsIn K mainGlobals "list" = some none)
    (z_range : PySem.W.nsIn K mainGlobals "range" = some none)
    (z_enumerate : PySem.W.nsIn K mainGlobals "enumerate" = some none)
    (z_zip : PySem.W.nsIn K mainGlobals "zip" = some none)
    (v_FOUNDED : PySem.W.nsIn K mainGlobals "FOUNDED" = some (some (.int (0) t_FOUNDED)))
    (v_LIFTED : PySem.W.nsIn K mainGlobals "LIFTED" = some (some (.int (1) t_LIFTED)))
    (v_MERGED : PySem.W.nsIn K mainGlobals "MERGED" = some (some (.int (2) t_MERGED)))
    (v_SPLIT : PySem.W.nsIn K mainGlobals "SPLIT" = some (some (.int (3) t_SPLIT)))
    (v_SOURCE : PySem.W.nsIn K mainGlobals "SOURCE" = some (some (.int (-1) t_SOURCE)))
    (v_SINK : PySem.W.nsIn K mainGlobals "SINK" = some (some (.int (-2) t_SINK)))
    (v_MOST_WEIGHT : PySem.W.nsIn K mainGlobals "MOST_WEIGHT" = some (some (.int (1000000) t_MOST_WEIGHT)))
    (v_LAST_DAY : PySem.W.nsIn K mainGlobals "LAST_DAY" = some (some (.int (36524) t_LAST_DAY)))
    (v_MOST_ENTRIES : PySem.W.nsIn K mainGlobals "MOST_ENTRIES" = some (some (.int (200) t_MOST_ENTRIES)))
    (v_MOST_LOTS : PySem.W.nsIn K mainGlobals "MOST_LOTS" = some (some (.int (60) t_MOST_LOTS)))
    (v_MOST_LEGS : PySem.W.nsIn K mainGlobals "MOST_LEGS" = some (some (.int (160) t_MOST_LEGS)))
    (v_SIZES : PySem.W.nsIn K mainGlobals "SIZES" = some (some (.ref a_S)))
    (l_SIZES : K.lookup a_S = some ⟨.type "tuple", od_S, .seq #[.ref a_S0, .ref a_S1, .ref a_S2, .ref a_S3, .ref a_S4, .ref a_S5, .ref a_S6, .ref a_S7, .ref a_S8, .ref a_S9, .ref a_S10, .ref a_S11, .ref a_S12, .ref a_S13, .ref a_S14, .ref a_S15, .ref a_S16, .ref a_S17] n_S, sl_S⟩)
    (l_S0 : K.lookup a_S0 = some ⟨.type "tuple", od_S0, .seq #[.int (0) ta_S0, .int (0) tb_S0] n_S0, sl_S0⟩)
    (l_S1 : K.lookup a_S1 = some ⟨.type "tuple", od_S1, .seq #[.int (3) ta_S1, .int (0) tb_S1] n_S1, sl_S1⟩)
    (l_S2 : K.lookup a_S2 = some ⟨.type "tuple", od_S2, .seq #[.int (3) ta_S2, .int (1) tb_S2] n_S2, sl_S2⟩)
    (l_S3 : K.lookup a_S3 = some ⟨.type "tuple", od_S3, .seq #[.int (1) ta_S3, .int (1) tb_S3] n_S3, sl_S3⟩)
    (l_S4 : K.lookup a_S4 = some ⟨.type "tuple", od_S4, .seq #[.int (2) ta_S4, .int (1) tb_S4] n_S4, sl_S4⟩)
    (l_S5 : K.lookup a_S5 = some ⟨.type "tuple", od_S5, .seq #[.int (3) ta_S5, .int (0) tb_S5] n_S5, sl_S5⟩)
    (l_S6 : K.lookup a_S6 = some ⟨.type "tuple", od_S6, .seq #[.int (0) ta_S6, .int (0) tb_S6] n_S6, sl_S6⟩)
    (l_S7 : K.lookup a_S7 = some ⟨.type "tuple", od_S7, .seq #[.int (1) ta_S7, .int (0) tb_S7] n_S7, sl_S7⟩)
    (l_S8 : K.lookup a_S8 = some ⟨.type "tuple", od_S8, .seq #[.int (0) ta_S8, .int (0) tb_S8] n_S8, sl_S8⟩)
    (l_S9 : K.lookup a_S9 = some ⟨.type "tuple", od_S9, .seq #[.int (1) ta_S9, .int (0) tb_S9] n_S9, sl_S9⟩)
    (l_S10 : K.lookup a_S10 = some ⟨.type "tuple", od_S10, .seq #[.int (1) ta_S10, .int (1) tb_S10] n_S10, sl_S10⟩)
    (l_S11 : K.lookup a_S11 = some ⟨.type "tuple", od_S11, .seq #[.int (1) ta_S11, .int (1) tb_S11] n_S11, sl_S11⟩)
    (l_S12 : K.lookup a_S12 = some ⟨.type "tuple", od_S12, .seq #[.int (1) ta_S12, .int (2) tb_S12] n_S12, sl_S12⟩)
    (l_S13 : K.lookup a_S13 = some ⟨.type "tuple", od_S13, .seq #[.int (1) ta_S13, .int (2) tb_S13] n_S13, sl_S13⟩)
    (l_S14 : K.lookup a_S14 = some ⟨.type "tuple", od_S14, .seq #[.int (1) ta_S14, .int (0) tb_S14] n_S14, sl_S14⟩)
    (l_S15 : K.lookup a_S15 = some ⟨.type "tuple", od_S15, .seq #[.int (0) ta_S15, .int (1) tb_S15] n_S15, sl_S15⟩)
    (l_S16 : K.lookup a_S16 = some ⟨.type "tuple", od_S16, .seq #[.int (1) ta_S16, .int (0) tb_S16] n_S16, sl_S16⟩)
    (l_S17 : K.lookup a_S17 = some ⟨.type "tuple", od_S17, .seq #[.int (0) ta_S17, .int (0) tb_S17] n_S17, sl_S17⟩)
    (v_DEEDS : PySem.W.nsIn K mainGlobals "DEEDS" = some (some (.ref a_D)))
    (l_DEEDS : K.lookup a_D = some ⟨.type "tuple", od_D, .seq #[.none, .ref f_found, .ref f_lift, .ref f_merge, .ref f_split, .ref f_lose, .ref f_undo, .ref f_show_lot, .ref f_legs, .ref f_then, .ref f_may, .ref f_cut, .ref f_weigh, .ref f_lay, .ref f_shares, .ref f_falls, .ref f_mothers_of, .ref f_sums] n_D, sl_D⟩)
    (r_xL : K.lookup c_Refused = some (excClassObj r_nm r_q c_Refused r_N r_bs [.type "ValueError", .type "Exception", .type "BaseException", .type "object"] true r_sn r_sub r_ab r_col r_dd r_m0 r_m1 r_m2 r_m3 r_m5 "ValueError.__new__"))
    (r_sa : PySem.W.findIn K (.ref c_Refused) "__setattr__" = some (some (.builtin "object.__setattr__")))
    (r_ga : PySem.W.findIn K (.ref c_Refused) "__getattribute__" = some (some (.builtin "BaseException.__getattribute__")))
    (r_gg : PySem.W.findIn K (.ref c_Refused) "__getattr__" = some none)
    (r_nb : PySem.W.findIn K (.ref c_Refused) "numbers" = some none)
    (r_a1 : PySem.W.findIn K (.ref c_Refused) "__init__" = some (some (.ref f_Refused_init)))
    (r_t1 : PySem.W.typeIn K (.ref f_Refused_init) = some (.type "function"))
    (r_l1 : K.lookup f_Refused_init = some ⟨r_oc, r_od, .func (PySem.W.fnOf "__init__" "Refused.__init__" (PySem.RefX.iA ⟨208, 17, 208, 21⟩ ⟨208, 23, 208, 30⟩) (PySem.RefX.iB ⟨209, 8, 209, 12⟩ ⟨209, 8, 209, 20⟩ ⟨209, 23, 209, 30⟩ ⟨209, 8, 209, 30⟩) PySem.RefX.iS .none .none r_dc r_pm r_an r_cd r_ct), r_sl⟩)
    (r_c1 : PySem.W.codeIn K r_cd "Refused.__init__" = true)
    (r_kC : PySem.W.keepIn K (.ref c_Refused) = true)
    (r_eC : PySem.W.subIn K (.ref c_Refused) (.type "BaseException") = some true)
    (r_tC : PySem.W.typeIn K (.ref c_Refused) = some (.type "type"))
    (r_hC : PySem.W.hasDictIn K c_Refused = true)
    (r_iC : PySem.W.isClsIn K c_Refused = true)
    (r_sC : PySem.W.subIn K (.ref c_Refused) (.ref c_Refused) = some true)
    : ∃ A : Ad, Txt K mg A ∧ mg "answers" = some (.ref A.f_answers) := by
  have low : PySem.RefX.RefTxt K mg c_Refused f_Refused_init :=
    { gC := PySem.W.mg_of X G a_Refused, cls := ⟨r_nm, r_q, r_N, r_bs, _, r_sn, r_sub, r_ab, r_col, r_dd, r_m0, r_m1, r_m2, r_m3, r_m5, r_xL, by decide +kernel⟩, sa := r_sa, ga := r_ga, gg := r_gg, noN := r_nb, iC := r_a1, tC := r_t1, kC := r_kC, exC := r_eC, tyC := r_tC, hdC := r_hC, te := exm_selfR r_eC r_iC r_tC r_sC,
      fn := ⟨_, _, _, _, _, _, _, _, _, _, _, _, _, _, r_l1, r_c1⟩ }
  have F_Lot_init := fun_mk (st := s_Lot_init) l_Lot_init x_Lot_init k_Lot_init
  have F_Lot_left := fun_mk (st := s_Lot_left) l_Lot_left x_Lot_left k_Lot_left
  have F_Lot_is_founder := fun_mk (st := s_Lot_is_founder) l_Lot_is_founder x_Lot_is_founder k_Lot_is_founder
  have F_Entry_init := fun_mk (st := s_Entry_init) l_Entry_init x_Entry_init k_Entry_init
  have F_Book_init := fun_mk (st := s_Book_init) l_Book_init x_Book_init k_Book_init
  have F_Book_put_leg := fun_mk (st := s_Book_put_leg) l_Book_put_leg x_Book_put_leg k_Book_put_leg
  have F_Book_greatest := fun_mk (st := s_Book_greatest) l_Book_greatest x_Book_greatest k_Book_greatest
  have F_Book_make := fun_mk (st := s_Book_make) l_Book_make x_Book_make k_Book_make
  have F_Book_founders := fun_mk (st := s_Book_founders) l_Book_founders x_Book_founders k_Book_founders
  have F_Book_steps := fun_mk (st := s_Book_steps) l_Book_steps x_Book_steps k_Book_steps
  have F_Book_steps_from := fun_mk (st := s_Book_steps_from) l_Book_steps_from x_Book_steps_from k_Book_steps_from
  have F_Book_remainder := fun_mk (st := s_Book_remainder) l_Book_remainder x_Book_remainder k_Book_remainder
  have F_Book_weight_of := fun_mk (st := s_Book_weight_of) l_Book_weight_of x_Book_weight_of k_Book_weight_of
  have F_Book_shares := fun_mk (st := s_Book_shares) l_Book_shares x_Book_shares k_Book_shares
  have F_Book_mixed := fun_mk (st := s_Book_mixed) l_Book_mixed x_Book_mixed k_Book_mixed
  have F_divisor := fun_mk (st := s_divisor) l_divisor x_divisor k_divisor
  have F_ratio := fun_mk (st := s_ratio) l_ratio x_ratio k_ratio
  have F_plus := fun_mk (st := s_plus) l_plus x_plus k_plus
  have F_Flow_init := fun_mk (st := s_Flow_init) l_Flow_init x_Flow_init k_Flow_init
  have F_Flow_put := fun_mk (st := s_Flow_put) l_Flow_put x_Flow_put k_Flow_put
  have F_Flow_reached := fun_mk (st := s_Flow_reached) l_Flow_reached x_Flow_reached k_Flow_reached
  have F_Flow_way := fun_mk (st := s_Flow_way) l_Flow_way x_Flow_way k_Flow_way
  have F_Flow_fill := fun_mk (st := s_Flow_fill) l_Flow_fill x_Flow_fill k_Flow_fill
  have F_Flow_cut := fun_mk (st := s_Flow_cut) l_Flow_cut x_Flow_cut k_Flow_cut
  have F_most := fun_mk (st := s_most) l_most x_most k_most
  have F_least := fun_mk (st := s_least) l_least x_least k_least
  have F_Desk_init := fun_mk (st := s_Desk_init) l_Desk_init x_Desk_init k_Desk_init
  have F_Desk_book_of := fun_mk (st := s_Desk_book_of) l_Desk_book_of x_Desk_book_of k_Desk_book_of
  have F_refuse := fun_mk (st := s_refuse) l_refuse x_refuse k_refuse
  have F_is_weight := fun_mk (st := s_is_weight) l_is_weight x_is_weight k_is_weight
  have F_pairs := fun_mk (st := s_pairs) l_pairs x_pairs k_pairs
  have F_check_entry := fun_mk (st := s_check_entry) l_check_entry x_check_entry k_check_entry
  have F_check_rows := fun_mk (st := s_check_rows) l_check_rows x_check_rows k_check_rows
  have F_put := fun_mk (st := s_put) l_put x_put k_put
  have F_found := fun_mk (st := s_found) l_found x_found k_found
  have F_are_pairs := fun_mk (st := s_are_pairs) l_are_pairs x_are_pairs k_are_pairs
  have F_lift := fun_mk (st := s_lift) l_lift x_lift k_lift
  have F_merge := fun_mk (st := s_merge) l_merge x_merge k_merge
  have F_split := fun_mk (st := s_split) l_split x_split k_split
  have F_lose := fun_mk (st := s_lose) l_lose x_lose k_lose
  have F_undo := fun_mk (st := s_undo) l_undo x_undo k_undo
  have F_check_lot := fun_mk (st := s_check_lot) l_check_lot x_check_lot k_check_lot
  have F_show_lot := fun_mk (st := s_show_lot) l_show_lot x_show_lot k_show_lot
  have F_flat := fun_mk (st := s_flat) l_flat x_flat k_flat
  have F_legs := fun_mk (st := s_legs) l_legs x_legs k_legs
  have F_then := fun_mk (st := s_then) l_then x_then k_then
  have F_check_some := fun_mk (st := s_check_some) l_check_some x_check_some k_check_some
  have F_check_set := fun_mk (st := s_check_set) l_check_set x_check_set k_check_set
  have F_may := fun_mk (st := s_may) l_may x_may k_may
  have F_cut := fun_mk (st := s_cut) l_cut x_cut k_cut
  have F_weigh := fun_mk (st := s_weigh) l_weigh x_weigh k_weigh
  have F_lay := fun_mk (st := s_lay) l_lay x_lay k_lay
  have F_shares := fun_mk (st := s_shares) l_shares x_shares k_shares
  have F_falls := fun_mk (st := s_falls) l_falls x_falls k_falls
  have F_mothers_of := fun_mk (st := s_mothers_of) l_mothers_of x_mothers_of k_mothers_of
  have F_sums := fun_mk (st := s_sums) l_sums x_sums k_sums
  have F_answer_of := fun_mk (st := s_answer_of) l_answer_of x_answer_of k_answer_of
  have F_answers := fun_mk (st := s_answers) l_answers x_answers k_answers
  refine ⟨{ c_Lot := c_Lot, c_Entry := c_Entry, c_Book := c_Book, c_Flow := c_Flow, c_Refused := c_Refused, c_Desk := c_Desk, f_Lot_init := f_Lot_init, d_Lot_init := PySem.W.fnOf "__init__" "Lot.__init__" (defArgs s_Lot_init) (defBody s_Lot_init) (defScope s_Lot_init) .none kV_Lot_init dc_Lot_init pm_Lot_init an_Lot_init cd_Lot_init ct_Lot_init, f_Lot_left := f_Lot_left, d_Lot_left := PySem.W.fnOf "left" "Lot.left" (defArgs s_Lot_left) (defBody s_Lot_left) (defScope s_Lot_left) .none kV_Lot_left dc_Lot_left pm_Lot_left an_Lot_left cd_Lot_left ct_Lot_left, f_Lot_is_founder := f_Lot_is_founder, d_Lot_is_founder := PySem.W.fnOf "is_founder" "Lot.is_founder" (defArgs s_Lot_is_founder) (defBody s_Lot_is_founder) (defScope s_Lot_is_founder) .none kV_Lot_is_founder dc_Lot_is_founder pm_Lot_is_founder an_Lot_is_founder cd_Lot_is_founder ct_Lot_is_founder, f_Entry_init := f_Entry_init, d_Entry_init := PySem.W.fnOf "__init__" "Entry.__init__" (defArgs s_Entry_init) (defBody s_Entry_init) (defScope s_Entry_init) .none kV_Entry_init dc_Entry_init pm_Entry_init an_Entry_init cd_Entry_init ct_Entry_init, f_Book_init := f_Book_init, d_Book_init := PySem.W.fnOf "__init__" "Book.__init__" (defArgs s_Book_init) (defBody s_Book_init) (defScope s_Book_init) .none kV_Book_init dc_Book_init pm_Book_init an_Book_init cd_Book_init ct_Book_init, f_Book_put_leg := f_Book_put_leg, d_Book_put_leg := PySem.W.fnOf "put_leg" "Book.put_leg" (defArgs s_Book_put_leg) (defBody s_Book_put_leg) (defScope s_Book_put_leg) .none kV_Book_put_leg dc_Book_put_leg pm_Book_put_leg an_Book_put_leg cd_Book_put_leg ct_Book_put_leg, f_Book_greatest := f_Book_greatest, d_Book_greatest := PySem.W.fnOf "greatest" "Book.greatest" (defArgs s_Book_greatest) (defBody s_Book_greatest) (defScope s_Book_greatest) .none kV_Book_greatest dc_Book_greatest pm_Book_greatest an_Book_greatest cd_Book_greatest ct_Book_greatest, f_Book_make := f_Book_make, d_Book_make := PySem.W.fnOf "make" "Book.make" (defArgs s_Book_make) (defBody s_Book_make) (defScope s_Book_make) .none kV_Book_make dc_Book_make pm_Book_make an_Book_make cd_Book_make ct_Book_make, f_Book_founders := f_Book_founders, d_Book_founders := PySem.W.fnOf "founders" "Book.founders" (defArgs s_Book_founders) (defBody s_Book_founders) (defScope s_Book_founders) .none kV_Book_founders dc_Book_founders pm_Book_founders an_Book_founders cd_Book_founders ct_Book_founders, f_Book_steps := f_Book_steps, d_Book_steps := PySem.W.fnOf "steps" "Book.steps" (defArgs s_Book_steps) (defBody s_Book_steps) (defScope s_Book_steps) .none kV_Book_steps dc_Book_steps pm_Book_steps an_Book_steps cd_Book_steps ct_Book_steps, f_Book_steps_from := f_Book_steps_from, d_Book_steps_from := PySem.W.fnOf "steps_from" "Book.steps_from" (defArgs s_Book_steps_from) (defBody s_Book_steps_from) (defScope s_Book_steps_from) .none kV_Book_steps_from dc_Book_steps_from pm_Book_steps_from an_Book_steps_from cd_Book_steps_from ct_Book_steps_from, f_Book_remainder := f_Book_remainder, d_Book_remainder := PySem.W.fnOf "remainder" "Book.remainder" (defArgs s_Book_remainder) (defBody s_Book_remainder) (defScope s_Book_remainder) .none kV_Book_remainder dc_Book_remainder pm_Book_remainder an_Book_remainder cd_Book_remainder ct_Book_remainder, f_Book_weight_of := f_Book_weight_of, d_Book_weight_of := PySem.W.fnOf "weight_of" "Book.weight_of" (defArgs s_Book_weight_of) (defBody s_Book_weight_of) (defScope s_Book_weight_of) .none kV_Book_weight_of dc_Book_weight_of pm_Book_weight_of an_Book_weight_of cd_Book_weight_of ct_Book_weight_of, f_Book_shares := f_Book_shares, d_Book_shares := PySem.W.fnOf "shares" "Book.shares" (defArgs s_Book_shares) (defBody s_Book_shares) (defScope s_Book_shares) .none kV_Book_shares dc_Book_shares pm_Book_shares an_Book_shares cd_Book_shares ct_Book_shares, f_Book_mixed := f_Book_mixed, d_Book_mixed := PySem.W.fnOf "mixed" "Book.mixed" (defArgs s_Book_mixed) (defBody s_Book_mixed) (defScope s_Book_mixed) .none kV_Book_mixed dc_Book_mixed pm_Book_mixed an_Book_mixed cd_Book_mixed ct_Book_mixed, f_divisor := f_divisor, d_divisor := PySem.W.fnOf "divisor" "divisor" (defArgs s_divisor) (defBody s_divisor) (defScope s_divisor) .none kV_divisor dc_divisor pm_divisor an_divisor cd_divisor ct_divisor, f_ratio := f_ratio, d_ratio := PySem.W.fnOf "ratio" "ratio" (defArgs s_ratio) (defBody s_ratio) (defScope s_ratio) .none kV_ratio dc_ratio pm_ratio an_ratio cd_ratio ct_ratio, f_plus := f_plus, d_plus := PySem.W.fnOf "plus" "plus" (defArgs s_plus) (defBody s_plus) (defScope s_plus) .none kV_plus dc_plus pm_plus an_plus cd_plus ct_plus, f_Flow_init := f_Flow_init, d_Flow_init := PySem.W.fnOf "__init__" "Flow.__init__" (defArgs s_Flow_init) (defBody s_Flow_init) (defScope s_Flow_init) .none kV_Flow_init dc_Flow_init pm_Flow_init an_Flow_init cd_Flow_init ct_Flow_init, f_Flow_put := f_Flow_put, d_Flow_put := PySem.W.fnOf "put" "Flow.put" (defArgs s_Flow_put) (defBody s_Flow_put) (defScope s_Flow_put) .none kV_Flow_put dc_Flow_put pm_Flow_put an_Flow_put cd_Flow_put ct_Flow_put, f_Flow_reached := f_Flow_reached, d_Flow_reached := PySem.W.fnOf "reached" "Flow.reached" (defArgs s_Flow_reached) (defBody s_Flow_reached) (defScope s_Flow_reached) .none kV_Flow_reached dc_Flow_reached pm_Flow_reached an_Flow_reached cd_Flow_reached ct_Flow_reached, f_Flow_way := f_Flow_way, d_Flow_way := PySem.W.fnOf "way" "Flow.way" (defArgs s_Flow_way) (defBody s_Flow_way) (defScope s_Flow_way) .none kV_Flow_way dc_Flow_way pm_Flow_way an_Flow_way cd_Flow_way ct_Flow_way, f_Flow_fill := f_Flow_fill, d_Flow_fill := PySem.W.fnOf "fill" "Flow.fill" (defArgs s_Flow_fill) (defBody s_Flow_fill) (defScope s_Flow_fill) .none kV_Flow_fill dc_Flow_fill pm_Flow_fill an_Flow_fill cd_Flow_fill ct_Flow_fill, f_Flow_cut := f_Flow_cut, d_Flow_cut := PySem.W.fnOf "cut" "Flow.cut" (defArgs s_Flow_cut) (defBody s_Flow_cut) (defScope s_Flow_cut) .none kV_Flow_cut dc_Flow_cut pm_Flow_cut an_Flow_cut cd_Flow_cut ct_Flow_cut, f_most := f_most, d_most := PySem.W.fnOf "most" "most" (defArgs s_most) (defBody s_most) (defScope s_most) .none kV_most dc_most pm_most an_most cd_most ct_most, f_least := f_least, d_least := PySem.W.fnOf "least" "least" (defArgs s_least) (defBody s_least) (defScope s_least) .none kV_least dc_least pm_least an_least cd_least ct_least, f_Refused_init := f_Refused_init, d_Refused_init := PySem.W.fnOf "__init__" "Refused.__init__" (PySem.RefX.iA ⟨208, 17, 208, 21⟩ ⟨208, 23, 208, 30⟩) (PySem.RefX.iB ⟨209, 8, 209, 12⟩ ⟨209, 8, 209, 20⟩ ⟨209, 23, 209, 30⟩ ⟨209, 8, 209, 30⟩) PySem.RefX.iS .none .none r_dc r_pm r_an r_cd r_ct, f_Desk_init := f_Desk_init, d_Desk_init := PySem.W.fnOf "__init__" "Desk.__init__" (defArgs s_Desk_init) (defBody s_Desk_init) (defScope s_Desk_init) .none kV_Desk_init dc_Desk_init pm_Desk_init an_Desk_init cd_Desk_init ct_Desk_init, f_Desk_book_of := f_Desk_book_of, d_Desk_book_of := PySem.W.fnOf "book_of" "Desk.book_of" (defArgs s_Desk_book_of) (defBody s_Desk_book_of) (defScope s_Desk_book_of) .none kV_Desk_book_of dc_Desk_book_of pm_Desk_book_of an_Desk_book_of cd_Desk_book_of ct_Desk_book_of, f_refuse := f_refuse, d_refuse := PySem.W.fnOf "refuse" "refuse" (defArgs s_refuse) (defBody s_refuse) (defScope s_refuse) .none kV_refuse dc_refuse pm_refuse an_refuse cd_refuse ct_refuse, f_is_weight := f_is_weight, d_is_weight := PySem.W.fnOf "is_weight" "is_weight" (defArgs s_is_weight) (defBody s_is_weight) (defScope s_is_weight) .none kV_is_weight dc_is_weight pm_is_weight an_is_weight cd_is_weight ct_is_weight, f_pairs := f_pairs, d_pairs := PySem.W.fnOf "pairs" "pairs" (defArgs s_pairs) (defBody s_pairs) (defScope s_pairs) .none kV_pairs dc_pairs pm_pairs an_pairs cd_pairs ct_pairs, f_check_entry := f_check_entry, d_check_entry := PySem.W.fnOf "check_entry" "check_entry" (defArgs s_check_entry) (defBody s_check_entry) (defScope s_check_entry) .none kV_check_entry dc_check_entry pm_check_entry an_check_entry cd_check_entry ct_check_entry, f_check_rows := f_check_rows, d_check_rows := PySem.W.fnOf "check_rows" "check_rows" (defArgs s_check_rows) (defBody s_check_rows) (defScope s_check_rows) .none kV_check_rows dc_check_rows pm_check_rows an_check_rows cd_check_rows ct_check_rows, f_put := f_put, d_put := PySem.W.fnOf "put" "put" (defArgs s_put) (defBody s_put) (defScope s_put) .none kV_put dc_put pm_put an_put cd_put ct_put, f_found := f_found, d_found := PySem.W.fnOf "found" "found" (defArgs s_found) (defBody s_found) (defScope s_found) .none kV_found dc_found pm_found an_found cd_found ct_found, f_are_pairs := f_are_pairs, d_are_pairs := PySem.W.fnOf "are_pairs" "are_pairs" (defArgs s_are_pairs) (defBody s_are_pairs) (defScope s_are_pairs) .none kV_are_pairs dc_are_pairs pm_are_pairs an_are_pairs cd_are_pairs ct_are_pairs, f_lift := f_lift, d_lift := PySem.W.fnOf "lift" "lift" (defArgs s_lift) (defBody s_lift) (defScope s_lift) .none kV_lift dc_lift pm_lift an_lift cd_lift ct_lift, f_merge := f_merge, d_merge := PySem.W.fnOf "merge" "merge" (defArgs s_merge) (defBody s_merge) (defScope s_merge) .none kV_merge dc_merge pm_merge an_merge cd_merge ct_merge, f_split := f_split, d_split := PySem.W.fnOf "split" "split" (defArgs s_split) (defBody s_split) (defScope s_split) .none kV_split dc_split pm_split an_split cd_split ct_split, f_lose := f_lose, d_lose := PySem.W.fnOf "lose" "lose" (defArgs s_lose) (defBody s_lose) (defScope s_lose) .none kV_lose dc_lose pm_lose an_lose cd_lose ct_lose, f_undo := f_undo, d_undo := PySem.W.fnOf "undo" "undo" (defArgs s_undo) (defBody s_undo) (defScope s_undo) .none kV_undo dc_undo pm_undo an_undo cd_undo ct_undo, f_check_lot := f_check_lot, d_check_lot := PySem.W.fnOf "check_lot" "check_lot" (defArgs s_check_lot) (defBody s_check_lot) (defScope s_check_lot) .none kV_check_lot dc_check_lot pm_check_lot an_check_lot cd_check_lot ct_check_lot, f_show_lot := f_show_lot, d_show_lot := PySem.W.fnOf "show_lot" "show_lot" (defArgs s_show_lot) (defBody s_show_lot) (defScope s_show_lot) .none kV_show_lot dc_show_lot pm_show_lot an_show_lot cd_show_lot ct_show_lot, f_flat := f_flat, d_flat := PySem.W.fnOf "flat" "flat" (defArgs s_flat) (defBody s_flat) (defScope s_flat) .none kV_flat dc_flat pm_flat an_flat cd_flat ct_flat, f_legs := f_legs, d_legs := PySem.W.fnOf "legs" "legs" (defArgs s_legs) (defBody s_legs) (defScope s_legs) .none kV_legs dc_legs pm_legs an_legs cd_legs ct_legs, f_then := f_then, d_then := PySem.W.fnOf "then" "then" (defArgs s_then) (defBody s_then) (defScope s_then) .none kV_then dc_then pm_then an_then cd_then ct_then, f_check_some := f_check_some, d_check_some := PySem.W.fnOf "check_some" "check_some" (defArgs s_check_some) (defBody s_check_some) (defScope s_check_some) .none kV_check_some dc_check_some pm_check_some an_check_some cd_check_some ct_check_some, f_check_set := f_check_set, d_check_set := PySem.W.fnOf "check_set" "check_set" (defArgs s_check_set) (defBody s_check_set) (defScope s_check_set) .none kV_check_set dc_check_set pm_check_set an_check_set cd_check_set ct_check_set, f_may := f_may, d_may := PySem.W.fnOf "may" "may" (defArgs s_may) (defBody s_may) (defScope s_may) .none kV_may dc_may pm_may an_may cd_may ct_may, f_cut := f_cut, d_cut := PySem.W.fnOf "cut" "cut" (defArgs s_cut) (defBody s_cut) (defScope s_cut) .none kV_cut dc_cut pm_cut an_cut cd_cut ct_cut, f_weigh := f_weigh, d_weigh := PySem.W.fnOf "weigh" "weigh" (defArgs s_weigh) (defBody s_weigh) (defScope s_weigh) .none kV_weigh dc_weigh pm_weigh an_weigh cd_weigh ct_weigh, f_lay := f_lay, d_lay := PySem.W.fnOf "lay" "lay" (defArgs s_lay) (defBody s_lay) (defScope s_lay) .none kV_lay dc_lay pm_lay an_lay cd_lay ct_lay, f_shares := f_shares, d_shares := PySem.W.fnOf "shares" "shares" (defArgs s_shares) (defBody s_shares) (defScope s_shares) .none kV_shares dc_shares pm_shares an_shares cd_shares ct_shares, f_falls := f_falls, d_falls := PySem.W.fnOf "falls" "falls" (defArgs s_falls) (defBody s_falls) (defScope s_falls) .none kV_falls dc_falls pm_falls an_falls cd_falls ct_falls, f_mothers_of := f_mothers_of, d_mothers_of := PySem.W.fnOf "mothers_of" "mothers_of" (defArgs s_mothers_of) (defBody s_mothers_of) (defScope s_mothers_of) .none kV_mothers_of dc_mothers_of pm_mothers_of an_mothers_of cd_mothers_of ct_mothers_of, f_sums := f_sums, d_sums := PySem.W.fnOf "sums" "sums" (defArgs s_sums) (defBody s_sums) (defScope s_sums) .none kV_sums dc_sums pm_sums an_sums cd_sums ct_sums, f_answer_of := f_answer_of, d_answer_of := PySem.W.fnOf "answer_of" "answer_of" (defArgs s_answer_of) (defBody s_answer_of) (defScope s_answer_of) .none kV_answer_of dc_answer_of pm_answer_of an_answer_of cd_answer_of ct_answer_of, f_answers := f_answers, d_answers := PySem.W.fnOf "answers" "answers" (defArgs s_answers) (defBody s_answers) (defScope s_answers) .none kV_answers dc_answers pm_answers an_answers cd_answers ct_answers, a_SIZES := a_S, a_DEEDS := a_D }, ?_, PySem.W.mg_of X G a_answers⟩
  exact {
    cl_Lot := ⟨pg_Lot, hd_Lot, po_Lot, sa_Lot⟩
    no_Lot_born := n_Lot_born
    no_Lot_made := n_Lot_made
    no_Lot_generation := n_Lot_generation
    no_Lot_grade := n_Lot_grade
    no_Lot_day := n_Lot_day
    no_Lot_mothers := n_Lot_mothers
    no_Lot_planted := n_Lot_planted
    no_Lot_lost := n_Lot_lost
    no_Lot_gone := n_Lot_gone
    mg_Lot := PySem.W.mg_of X G a_Lot
    mk_Lot := ⟨mk_Lot, a_Lot_init, i_Lot_init, kc_Lot⟩
    cl_Entry := ⟨pg_Entry, hd_Entry, po_Entry, sa_Entry⟩
    no_Entry_word := n_Entry_word
    no_Entry_day := n_Entry_day
    no_Entry_weight := n_Entry_weight
    no_Entry_grade := n_Entry_grade
    no_Entry_rows := n_Entry_rows
    mg_Entry := PySem.W.mg_of X G a_Entry
    mk_Entry := ⟨mk_Entry, a_Entry_init, i_Entry_init, kc_Entry⟩
    cl_Book := ⟨pg_Book, hd_Book, po_Book, sa_Book⟩
    no_Book_lots := n_Book_lots
    no_Book_legs := n_Book_legs
    mg_Book := PySem.W.mg_of X G a_Book
    mk_Book := ⟨mk_Book, a_Book_init, i_Book_init, kc_Book⟩
    cl_Flow := ⟨pg_Flow, hd_Flow, po_Flow, sa_Flow⟩
    no_Flow_room := n_Flow_room
    no_Flow_total := n_Flow_total
    mg_Flow := PySem.W.mg_of X G a_Flow
    mk_Flow := ⟨mk_Flow, a_Flow_init, i_Flow_init, kc_Flow⟩
    cl_Desk := ⟨pg_Desk, hd_Desk, po_Desk, sa_Desk⟩
    no_Desk_entries := n_Desk_entries
    no_Desk_book := n_Desk_book
    mg_Desk := PySem.W.mg_of X G a_Desk
    mk_Desk := ⟨mk_Desk, a_Desk_init, i_Desk_init, kc_Desk⟩
    low := low
    fn_Lot_init := F_Lot_init
    bi_Lot_init := F_Lot_init.binds (ps := ["self", "born", "made", "generation", "sort", "day", "mothers"]) fun _ _ _ _ _ _ us hl => match us, hl with | [_, _, _, _, _, _, _], _ => rfl
    fn_Lot_left := F_Lot_left
    bi_Lot_left := F_Lot_left.binds (ps := ["self"]) fun _ _ _ _ _ _ us hl => match us, hl with | [_], _ => rfl
    me_Lot_left := ⟨a_Lot_left, i_Lot_left, k_Lot_left⟩
    fn_Lot_is_founder := F_Lot_is_founder
    bi_Lot_is_founder := F_Lot_is_founder.binds (ps := ["self"]) fun _ _ _ _ _ _ us hl => match us, hl with | [_], _ => rfl
    me_Lot_is_founder := ⟨a_Lot_is_founder, i_Lot_is_founder, k_Lot_is_founder⟩
    fn_Entry_init := F_Entry_init
    bi_Entry_init := F_Entry_init.binds (ps := ["self", "word", "day", "weight", "sort", "rows"]) fun _ _ _ _ _ _ us hl => match us, hl with | [_, _, _, _, _, _], _ => rfl
    fn_Book_init := F_Book_init
    bi_Book_init := F_Book_init.binds (ps := ["self"]) fun _ _ _ _ _ _ us hl => match us, hl with | [_], _ => rfl
    fn_Book_put_leg := F_Book_put_leg
    bi_Book_put_leg := F_Book_put_leg.binds (ps := ["self", "lot", "weight"]) fun _ _ _ _ _ _ us hl => match us, hl with | [_, _, _], _ => rfl
    me_Book_put_leg := ⟨a_Book_put_leg, i_Book_put_leg, k_Book_put_leg⟩
    fn_Book_greatest := F_Book_greatest
    bi_Book_greatest := F_Book_greatest.binds (ps := ["self", "rows"]) fun _ _ _ _ _ _ us hl => match us, hl with | [_, _], _ => rfl
    me_Book_greatest := ⟨a_Book_greatest, i_Book_greatest, k_Book_greatest⟩
    fn_Book_make := F_Book_make
    bi_Book_make := F_Book_make.binds (ps := ["self", "entry"]) fun _ _ _ _ _ _ us hl => match us, hl with | [_, _], _ => rfl
    me_Book_make := ⟨a_Book_make, i_Book_make, k_Book_make⟩
    fn_Book_founders := F_Book_founders
    bi_Book_founders := F_Book_founders.binds (ps := ["self"]) fun _ _ _ _ _ _ us hl => match us, hl with | [_], _ => rfl
    me_Book_founders := ⟨a_Book_founders, i_Book_founders, k_Book_founders⟩
    fn_Book_steps := F_Book_steps
    bi_Book_steps := F_Book_steps.binds (ps := ["self"]) fun _ _ _ _ _ _ us hl => match us, hl with | [_], _ => rfl
    me_Book_steps := ⟨a_Book_steps, i_Book_steps, k_Book_steps⟩
    fn_Book_steps_from := F_Book_steps_from
    bi_Book_steps_from := F_Book_steps_from.binds (ps := ["self", "begins", "is_back"]) fun _ _ _ _ _ _ us hl => match us, hl with | [_, _, _], _ => rfl
    me_Book_steps_from := ⟨a_Book_steps_from, i_Book_steps_from, k_Book_steps_from⟩
    fn_Book_remainder := F_Book_remainder
    bi_Book_remainder := F_Book_remainder.binds (ps := ["self", "lot", "some", "laid"]) fun _ _ _ _ _ _ us hl => match us, hl with | [_, _, _, _], _ => rfl
    me_Book_remainder := ⟨a_Book_remainder, i_Book_remainder, k_Book_remainder⟩
    fn_Book_weight_of := F_Book_weight_of
    bi_Book_weight_of := F_Book_weight_of.binds (ps := ["self", "lot", "some", "chosen"]) fun _ _ _ _ _ _ us hl => match us, hl with | [_, _, _, _], _ => rfl
    me_Book_weight_of := ⟨a_Book_weight_of, i_Book_weight_of, k_Book_weight_of⟩
    fn_Book_shares := F_Book_shares
    bi_Book_shares := F_Book_shares.binds (ps := ["self", "lot"]) fun _ _ _ _ _ _ us hl => match us, hl with | [_, _], _ => rfl
    me_Book_shares := ⟨a_Book_shares, i_Book_shares, k_Book_shares⟩
    fn_Book_mixed := F_Book_mixed
    bi_Book_mixed := F_Book_mixed.binds (ps := ["self", "number", "known"]) fun _ _ _ _ _ _ us hl => match us, hl with | [_, _, _], _ => rfl
    me_Book_mixed := ⟨a_Book_mixed, i_Book_mixed, k_Book_mixed⟩
    fn_divisor := F_divisor
    bi_divisor := F_divisor.binds (ps := ["a", "b"]) fun _ _ _ _ _ _ us hl => match us, hl with | [_, _], _ => rfl
    mgf_divisor := PySem.W.mg_of X G a_divisor
    fn_ratio := F_ratio
    bi_ratio := F_ratio.binds (ps := ["above", "below"]) fun _ _ _ _ _ _ us hl => match us, hl with | [_, _], _ => rfl
    mgf_ratio := PySem.W.mg_of X G a_ratio
    fn_plus := F_plus
    bi_plus := F_plus.binds (ps := ["one", "other"]) fun _ _ _ _ _ _ us hl => match us, hl with | [_, _], _ => rfl
    mgf_plus := PySem.W.mg_of X G a_plus
    fn_Flow_init := F_Flow_init
    bi_Flow_init := F_Flow_init.binds (ps := ["self", "book", "lot", "some"]) fun _ _ _ _ _ _ us hl => match us, hl with | [_, _, _, _], _ => rfl
    fn_Flow_put := F_Flow_put
    bi_Flow_put := F_Flow_put.binds (ps := ["self", "first", "second", "weight"]) fun _ _ _ _ _ _ us hl => match us, hl with | [_, _, _, _], _ => rfl
    me_Flow_put := ⟨a_Flow_put, i_Flow_put, k_Flow_put⟩
    fn_Flow_reached := F_Flow_reached
    bi_Flow_reached := F_Flow_reached.binds (ps := ["self"]) fun _ _ _ _ _ _ us hl => match us, hl with | [_], _ => rfl
    me_Flow_reached := ⟨a_Flow_reached, i_Flow_reached, k_Flow_reached⟩
    fn_Flow_way := F_Flow_way
    bi_Flow_way := F_Flow_way.binds (ps := ["self", "reached"]) fun _ _ _ _ _ _ us hl => match us, hl with | [_, _], _ => rfl
    me_Flow_way := ⟨a_Flow_way, i_Flow_way, k_Flow_way⟩
    fn_Flow_fill := F_Flow_fill
    bi_Flow_fill := F_Flow_fill.binds (ps := ["self"]) fun _ _ _ _ _ _ us hl => match us, hl with | [_], _ => rfl
    me_Flow_fill := ⟨a_Flow_fill, i_Flow_fill, k_Flow_fill⟩
    fn_Flow_cut := F_Flow_cut
    bi_Flow_cut := F_Flow_cut.binds (ps := ["self"]) fun _ _ _ _ _ _ us hl => match us, hl with | [_], _ => rfl
    me_Flow_cut := ⟨a_Flow_cut, i_Flow_cut, k_Flow_cut⟩
    fn_most := F_most
    bi_most := F_most.binds (ps := ["book", "lot", "some"]) fun _ _ _ _ _ _ us hl => match us, hl with | [_, _, _], _ => rfl
    mgf_most := PySem.W.mg_of X G a_most
    fn_least := F_least
    bi_least := F_least.binds (ps := ["book", "lot", "some"]) fun _ _ _ _ _ _ us hl => match us, hl with | [_, _, _], _ => rfl
    mgf_least := PySem.W.mg_of X G a_least
    fn_Desk_init := F_Desk_init
    bi_Desk_init := F_Desk_init.binds (ps := ["self"]) fun _ _ _ _ _ _ us hl => match us, hl with | [_], _ => rfl
    fn_Desk_book_of := F_Desk_book_of
    bi_Desk_book_of := F_Desk_book_of.binds (ps := ["self", "entries"]) fun _ _ _ _ _ _ us hl => match us, hl with | [_, _], _ => rfl
    me_Desk_book_of := ⟨a_Desk_book_of, i_Desk_book_of, k_Desk_book_of⟩
    fn_refuse := F_refuse
    bi_refuse := F_refuse.binds (ps := ["holds", "code"]) fun _ _ _ _ _ _ us hl => match us, hl with | [_, _], _ => rfl
    mgf_refuse := PySem.W.mg_of X G a_refuse
    fn_is_weight := F_is_weight
    bi_is_weight := F_is_weight.binds (ps := ["weight"]) fun _ _ _ _ _ _ us hl => match us, hl with | [_], _ => rfl
    mgf_is_weight := PySem.W.mg_of X G a_is_weight
    fn_pairs := F_pairs
    bi_pairs := F_pairs.binds (ps := ["row"]) fun _ _ _ _ _ _ us hl => match us, hl with | [_], _ => rfl
    mgf_pairs := PySem.W.mg_of X G a_pairs
    fn_check_entry := F_check_entry
    bi_check_entry := F_check_entry.binds (ps := ["desk", "day", "lots", "legs"]) fun _ _ _ _ _ _ us hl => match us, hl with | [_, _, _, _], _ => rfl
    mgf_check_entry := PySem.W.mg_of X G a_check_entry
    fn_check_rows := F_check_rows
    bi_check_rows := F_check_rows.binds (ps := ["desk", "rows"]) fun _ _ _ _ _ _ us hl => match us, hl with | [_, _], _ => rfl
    mgf_check_rows := PySem.W.mg_of X G a_check_rows
    fn_put := F_put
    bi_put := F_put.binds (ps := ["desk", "entry"]) fun _ _ _ _ _ _ us hl => match us, hl with | [_, _], _ => rfl
    mgf_put := PySem.W.mg_of X G a_put
    fn_found := F_found
    bi_found := F_found.binds (ps := ["desk", "args", "rows"]) fun _ _ _ _ _ _ us hl => match us, hl with | [_, _, _], _ => rfl
    mgf_found := PySem.W.mg_of X G a_found
    fn_are_pairs := F_are_pairs
    bi_are_pairs := F_are_pairs.binds (ps := ["row", "least_many"]) fun _ _ _ _ _ _ us hl => match us, hl with | [_, _], _ => rfl
    mgf_are_pairs := PySem.W.mg_of X G a_are_pairs
    fn_lift := F_lift
    bi_lift := F_lift.binds (ps := ["desk", "args", "rows"]) fun _ _ _ _ _ _ us hl => match us, hl with | [_, _, _], _ => rfl
    mgf_lift := PySem.W.mg_of X G a_lift
    fn_merge := F_merge
    bi_merge := F_merge.binds (ps := ["desk", "args", "rows"]) fun _ _ _ _ _ _ us hl => match us, hl with | [_, _, _], _ => rfl
    mgf_merge := PySem.W.mg_of X G a_merge
    fn_split := F_split
    bi_split := F_split.binds (ps := ["desk", "args", "rows"]) fun _ _ _ _ _ _ us hl => match us, hl with | [_, _, _], _ => rfl
    mgf_split := PySem.W.mg_of X G a_split
    fn_lose := F_lose
    bi_lose := F_lose.binds (ps := ["desk", "args", "rows"]) fun _ _ _ _ _ _ us hl => match us, hl with | [_, _, _], _ => rfl
    mgf_lose := PySem.W.mg_of X G a_lose
    fn_undo := F_undo
    bi_undo := F_undo.binds (ps := ["desk", "args", "rows"]) fun _ _ _ _ _ _ us hl => match us, hl with | [_, _, _], _ => rfl
    mgf_undo := PySem.W.mg_of X G a_undo
    fn_check_lot := F_check_lot
    bi_check_lot := F_check_lot.binds (ps := ["desk", "number"]) fun _ _ _ _ _ _ us hl => match us, hl with | [_, _], _ => rfl
    mgf_check_lot := PySem.W.mg_of X G a_check_lot
    fn_show_lot := F_show_lot
    bi_show_lot := F_show_lot.binds (ps := ["desk", "args", "rows"]) fun _ _ _ _ _ _ us hl => match us, hl with | [_, _, _], _ => rfl
    mgf_show_lot := PySem.W.mg_of X G a_show_lot
    fn_flat := F_flat
    bi_flat := F_flat.binds (ps := ["rows"]) fun _ _ _ _ _ _ us hl => match us, hl with | [_], _ => rfl
    mgf_flat := PySem.W.mg_of X G a_flat
    fn_legs := F_legs
    bi_legs := F_legs.binds (ps := ["desk", "args", "rows"]) fun _ _ _ _ _ _ us hl => match us, hl with | [_, _, _], _ => rfl
    mgf_legs := PySem.W.mg_of X G a_legs
    fn_then := F_then
    bi_then := F_then.binds (ps := ["desk", "args", "rows"]) fun _ _ _ _ _ _ us hl => match us, hl with | [_, _, _], _ => rfl
    mgf_then := PySem.W.mg_of X G a_then
    fn_check_some := F_check_some
    bi_check_some := F_check_some.binds (ps := ["desk", "args", "row"]) fun _ _ _ _ _ _ us hl => match us, hl with | [_, _, _], _ => rfl
    mgf_check_some := PySem.W.mg_of X G a_check_some
    fn_check_set := F_check_set
    bi_check_set := F_check_set.binds (ps := ["desk", "row"]) fun _ _ _ _ _ _ us hl => match us, hl with | [_, _], _ => rfl
    mgf_check_set := PySem.W.mg_of X G a_check_set
    fn_may := F_may
    bi_may := F_may.binds (ps := ["desk", "args", "rows"]) fun _ _ _ _ _ _ us hl => match us, hl with | [_, _, _], _ => rfl
    mgf_may := PySem.W.mg_of X G a_may
    fn_cut := F_cut
    bi_cut := F_cut.binds (ps := ["desk", "args", "rows"]) fun _ _ _ _ _ _ us hl => match us, hl with | [_, _, _], _ => rfl
    mgf_cut := PySem.W.mg_of X G a_cut
    fn_weigh := F_weigh
    bi_weigh := F_weigh.binds (ps := ["desk", "args", "rows"]) fun _ _ _ _ _ _ us hl => match us, hl with | [_, _, _], _ => rfl
    mgf_weigh := PySem.W.mg_of X G a_weigh
    fn_lay := F_lay
    bi_lay := F_lay.binds (ps := ["desk", "args", "rows"]) fun _ _ _ _ _ _ us hl => match us, hl with | [_, _, _], _ => rfl
    mgf_lay := PySem.W.mg_of X G a_lay
    fn_shares := F_shares
    bi_shares := F_shares.binds (ps := ["desk", "args", "rows"]) fun _ _ _ _ _ _ us hl => match us, hl with | [_, _, _], _ => rfl
    mgf_shares := PySem.W.mg_of X G a_shares
    fn_falls := F_falls
    bi_falls := F_falls.binds (ps := ["desk", "args", "rows"]) fun _ _ _ _ _ _ us hl => match us, hl with | [_, _, _], _ => rfl
    mgf_falls := PySem.W.mg_of X G a_falls
    fn_mothers_of := F_mothers_of
    bi_mothers_of := F_mothers_of.binds (ps := ["desk", "args", "rows"]) fun _ _ _ _ _ _ us hl => match us, hl with | [_, _, _], _ => rfl
    mgf_mothers_of := PySem.W.mg_of X G a_mothers_of
    fn_sums := F_sums
    bi_sums := F_sums.binds (ps := ["desk", "args", "rows"]) fun _ _ _ _ _ _ us hl => match us, hl with | [_, _, _], _ => rfl
    mgf_sums := PySem.W.mg_of X G a_sums
    fn_answer_of := F_answer_of
    bi_answer_of := F_answer_of.binds (ps := ["desk", "number", "args", "rows"]) fun _ _ _ _ _ _ us hl => match us, hl with | [_, _, _, _], _ => rfl
    mgf_answer_of := PySem.W.mg_of X G a_answer_of
    fn_answers := F_answers
    bi_answers := F_answers.binds (ps := ["calls"]) fun _ _ _ _ _ _ us hl => match us, hl with | [_], _ => rfl
    mgf_answers := PySem.W.mg_of X G a_answers
    b_len := PySem.W.mg_none_of X G z_len
    b_max := PySem.W.mg_none_of X G z_max
    b_min := PySem.W.mg_none_of X G z_min
    b_sum := PySem.W.mg_none_of X G z_sum
    b_any := PySem.W.mg_none_of X G z_any
    b_all := PySem.W.mg_none_of X G z_all
    b_sorted := PySem.W.mg_none_of X G z_sorted
    b_list := PySem.W.mg_none_of X G z_list
    b_range := PySem.W.mg_none_of X G z_range
    b_enumerate := PySem.W.mg_none_of X G z_enumerate
    b_zip := PySem.W.mg_none_of X G z_zip
    g_FOUNDED := ⟨_, PySem.W.mg_of X G v_FOUNDED⟩
    g_LIFTED := ⟨_, PySem.W.mg_of X G v_LIFTED⟩
    g_MERGED := ⟨_, PySem.W.mg_of X G v_MERGED⟩
    g_SPLIT := ⟨_, PySem.W.mg_of X G v_SPLIT⟩
    g_SOURCE := ⟨_, PySem.W.mg_of X G v_SOURCE⟩
    g_SINK := ⟨_, PySem.W.mg_of X G v_SINK⟩
    g_MOST_WEIGHT := ⟨_, PySem.W.mg_of X G v_MOST_WEIGHT⟩
    g_LAST_DAY := ⟨_, PySem.W.mg_of X G v_LAST_DAY⟩
    g_MOST_ENTRIES := ⟨_, PySem.W.mg_of X G v_MOST_ENTRIES⟩
    g_MOST_LOTS := ⟨_, PySem.W.mg_of X G v_MOST_LOTS⟩
    g_MOST_LEGS := ⟨_, PySem.W.mg_of X G v_MOST_LEGS⟩
    g_SIZES := PySem.W.mg_of X G v_SIZES
    g_DEEDS := PySem.W.mg_of X G v_DEEDS
    sizes := fun H => ⟨[a_S0, a_S1, a_S2, a_S3, a_S4, a_S5, a_S6, a_S7, a_S8, a_S9, a_S10, a_S11, a_S12, a_S13, a_S14, a_S15, a_S16, a_S17], seqT_mk l_SIZES (by simp) (.cons rfl (.cons rfl (.cons rfl (.cons rfl (.cons rfl (.cons rfl (.cons rfl (.cons rfl (.cons rfl (.cons rfl (.cons rfl (.cons rfl (.cons rfl (.cons rfl (.cons rfl (.cons rfl (.cons rfl (.cons rfl (.nil))))))))))))))))))), fun i p e => by
      match i, e with
      | 0, e => cases e; exact ⟨_, rfl, seqT_mk l_S0 (by simp) (.cons ⟨_, rfl⟩ (.cons ⟨_, rfl⟩ .nil))⟩
      | 1, e => cases e; exact ⟨_, rfl, seqT_mk l_S1 (by simp) (.cons ⟨_, rfl⟩ (.cons ⟨_, rfl⟩ .nil))⟩
      | 2, e => cases e; exact ⟨_, rfl, seqT_mk l_S2 (by simp) (.cons ⟨_, rfl⟩ (.cons ⟨_, rfl⟩ .nil))⟩
      | 3, e => cases e; exact ⟨_, rfl, seqT_mk l_S3 (by simp) (.cons ⟨_, rfl⟩ (.cons ⟨_, rfl⟩ .nil))⟩
      | 4, e => cases e; exact ⟨_, rfl, seqT_mk l_S4 (by simp) (.cons ⟨_, rfl⟩ (.cons ⟨_, rfl⟩ .nil))⟩
      | 5, e => cases e; exact ⟨_, rfl, seqT_mk l_S5 (by simp) (.cons ⟨_, rfl⟩ (.cons ⟨_, rfl⟩ .nil))⟩
      | 6, e => cases e; exact ⟨_, rfl, seqT_mk l_S6 (by simp) (.cons ⟨_, rfl⟩ (.cons ⟨_, rfl⟩ .nil))⟩
      | 7, e => cases e; exact ⟨_, rfl, seqT_mk l_S7 (by simp) (.cons ⟨_, rfl⟩ (.cons ⟨_, rfl⟩ .nil))⟩
      | 8, e => cases e; exact ⟨_, rfl, seqT_mk l_S8 (by simp) (.cons ⟨_, rfl⟩ (.cons ⟨_, rfl⟩ .nil))⟩
      | 9, e => cases e; exact ⟨_, rfl, seqT_mk l_S9 (by simp) (.cons ⟨_, rfl⟩ (.cons ⟨_, rfl⟩ .nil))⟩
      | 10, e => cases e; exact ⟨_, rfl, seqT_mk l_S10 (by simp) (.cons ⟨_, rfl⟩ (.cons ⟨_, rfl⟩ .nil))⟩
      | 11, e => cases e; exact ⟨_, rfl, seqT_mk l_S11 (by simp) (.cons ⟨_, rfl⟩ (.cons ⟨_, rfl⟩ .nil))⟩
      | 12, e => cases e; exact ⟨_, rfl, seqT_mk l_S12 (by simp) (.cons ⟨_, rfl⟩ (.cons ⟨_, rfl⟩ .nil))⟩
      | 13, e => cases e; exact ⟨_, rfl, seqT_mk l_S13 (by simp) (.cons ⟨_, rfl⟩ (.cons ⟨_, rfl⟩ .nil))⟩
      | 14, e => cases e; exact ⟨_, rfl, seqT_mk l_S14 (by simp) (.cons ⟨_, rfl⟩ (.cons ⟨_, rfl⟩ .nil))⟩
      | 15, e => cases e; exact ⟨_, rfl, seqT_mk l_S15 (by simp) (.cons ⟨_, rfl⟩ (.cons ⟨_, rfl⟩ .nil))⟩
      | 16, e => cases e; exact ⟨_, rfl, seqT_mk l_S16 (by simp) (.cons ⟨_, rfl⟩ (.cons ⟨_, rfl⟩ .nil))⟩
      | 17, e => cases e; exact ⟨_, rfl, seqT_mk l_S17 (by simp) (.cons ⟨_, rfl⟩ (.cons ⟨_, rfl⟩ .nil))⟩
      | n + 18, e => cases e⟩
    deeds := fun H => seqT_mk l_DEEDS (by simp) (.cons rfl (.cons rfl (.cons rfl (.cons rfl (.cons rfl (.cons rfl (.cons rfl (.cons rfl (.cons rfl (.cons rfl (.cons rfl (.cons rfl (.cons rfl (.cons rfl (.cons rfl (.cons rfl (.cons rfl (.cons rfl (.nil)))))))))))))))))))
  }

end LW
end
section
set_option Elab.async false
set_option linter.all false
open PySem PySem.W PyProof.Rows
set_option maxRecDepth 100000 in
set_option maxHeartbeats 8000000 in
theorem PySem.Challenge.cw_lotfounders_s01_answers_holds : PySem.Challenge.rw_lotfounders_s01_answers.Holds := by
  w_on; k_headS; (case hw => exact ⟨[.list [.int 6]], by decide +kernel, by decide +kernel⟩)
  k_fillS
  refine L2.walk_specK (r := PySem.Challenge.rw_lotfounders_s01_answers) (k := 9) (CX := L2.CX0) (ps := ["calls"]) (sp := LW.spAnswers) (by decide +kernel) rfl rfl ⟨rfl, by decide, by decide⟩ (fun w h Y => PySem.W.kIn_of Y) ?F ?S (fun _ _ _ _ z => z)
  case F =>
    intro w mg fa h Y KX G hmg
    refine' LW.fin_of (LW.txt_mk KX G ?a_Lot ?pg_Lot ?hd_Lot ?po_Lot ?sa_Lot ?mk_Lot ?kc_Lot ?n_Lot_born ?n_Lot_made ?n_Lot_generation ?n_Lot_grade ?n_Lot_day ?n_Lot_mothers ?n_Lot_planted ?n_Lot_lost ?n_Lot_gone ?a_Entry ?pg_Entry ?hd_Entry ?po_Entry ?sa_Entry ?mk_Entry ?kc_Entry ?n_Entry_word ?n_Entry_day ?n_Entry_weight ?n_Entry_grade ?n_Entry_rows ?a_Book ?pg_Book ?hd_Book ?po_Book ?sa_Book ?mk_Book ?kc_Book ?n_Book_lots ?n_Book_legs ?a_Flow ?pg_Flow ?hd_Flow ?po_Flow ?sa_Flow ?mk_Flow ?kc_Flow ?n_Flow_room ?n_Flow_total ?a_Refused ?a_Desk ?pg_Desk ?hd_Desk ?po_Desk ?sa_Desk ?mk_Desk ?kc_Desk ?n_Desk_entries ?n_Desk_book ?a_Lot_init ?i_Lot_init ?l_Lot_init ?x_Lot_init ?k_Lot_init ?a_Lot_left ?i_Lot_left ?l_Lot_left ?x_Lot_left ?k_Lot_left ?a_Lot_is_founder ?i_Lot_is_founder ?l_Lot_is_founder ?x_Lot_is_founder ?k_Lot_is_founder ?a_Entry_init ?i_Entry_init ?l_Entry_init ?x_Entry_init ?k_Entry_init ?a_Book_init ?i_Book_init ?l_Book_init ?x_Book_init ?k_Book_init ?a_Book_put_leg ?i_Book_put_leg ?l_Book_put_leg ?x_Book_put_leg ?k_Book_put_leg ?a_Book_greatest ?i_Book_greatest ?l_Book_greatest ?x_Book_greatest ?k_Book_greatest ?a_Book_make ?i_Book_make ?l_Book_make ?x_Book_make ?k_Book_make ?a_Book_founders ?i_Book_founders ?l_Book_founders ?x_Book_founders ?k_Book_founders ?a_Book_steps ?i_Book_steps ?l_Book_steps ?x_Book_steps ?k_Book_steps ?a_Book_steps_from ?i_Book_steps_from ?l_Book_steps_from ?x_Book_steps_from ?k_Book_steps_from ?a_Book_remainder ?i_Book_remainder ?l_Book_remainder ?x_Book_remainder ?k_Book_remainder ?a_Book_weight_of ?i_Book_weight_of ?l_Book_weight_of ?x_Book_weight_of ?k_Book_weight_of ?a_Book_shares ?i_Book_shares ?l_Book_shares ?x_Book_shares ?k_Book_shares ?a_Book_mixed ?i_Book_mixed ?l_Book_mixed ?x_Book_mixed ?k_Book_mixed ?a_divisor ?l_divisor ?x_divisor ?k_divisor ?a_ratio ?l_ratio ?x_ratio ?k_ratio ?a_plus ?l_plus ?x_plus ?k_plus ?a_Flow_init ?i_Flow_init ?l_Flow_init ?x_Flow_init ?k_Flow_init ?a_Flow_put ?i_Flow_put ?l_Flow_put ?x_Flow_put ?k_Flow_put ?a_Flow_reached ?i_Flow_reached ?l_Flow_reached ?x_Flow_reached ?k_Flow_reached ?a_Flow_way ?i_Flow_way ?l_Flow_way ?x_Flow_way ?k_Flow_way ?a_Flow_fill ?i_Flow_fill ?l_Flow_fill ?x_Flow_fill ?k_Flow_fill ?a_Flow_cut ?i_Flow_cut ?l_Flow_cut ?x_Flow_cut ?k_Flow_cut ?a_most ?l_most ?x_most ?k_most ?a_least ?l_least ?x_least ?k_least ?a_Desk_init ?i_Desk_init ?l_Desk_init ?x_Desk_init ?k_Desk_init ?a_Desk_book_of ?i_Desk_book_of ?l_Desk_book_of ?x_Desk_book_of ?k_Desk_book_of ?a_refuse ?l_refuse ?x_refuse ?k_refuse ?a_is_weight ?l_is_weight ?x_is_weight ?k_is_weight ?a_pairs ?l_pairs ?x_pairs ?k_pairs ?a_check_entry ?l_check_entry ?x_check_entry ?k_check_entry ?a_check_rows ?l_check_rows ?x_check_rows ?k_check_rows ?a_put ?l_put ?x_put ?k_put ?a_found ?l_found ?x_found ?k_found ?a_are_pairs ?l_are_pairs ?x_are_pairs ?k_are_pairs ?a_lift ?l_lift ?x_lift ?k_lift ?a_merge ?l_merge ?x_merge ?k_merge ?a_split ?l_split ?x_split ?k_split ?a_lose ?l_lose ?x_lose ?k_lose ?a_undo ?l_undo ?x_undo ?k_undo ?a_check_lot ?l_check_lot ?x_check_lot ?k_check_lot ?a_show_lot ?l_show_lot ?x_show_lot ?k_show_lot ?a_flat ?l_flat ?x_flat ?k_flat ?a_legs ?l_legs ?x_legs ?k_legs ?a_then ?l_then ?x_then ?k_then ?a_check_some ?l_check_some ?x_check_some ?k_check_some ?a_check_set ?l_check_set ?x_check_set ?k_check_set ?a_may ?l_may ?x_may ?k_may ?a_cut ?l_cut ?x_cut ?k_cut ?a_weigh ?l_weigh ?x_weigh ?k_weigh ?a_lay ?l_lay ?x_lay ?k_lay ?a_shares ?l_shares ?x_shares ?k_shares ?a_falls ?l_falls ?x_falls ?k_falls ?a_mothers_of ?l_mothers_of ?x_mothers_of ?k_mothers_of ?a_sums ?l_sums ?x_sums ?k_sums ?a_answer_of ?l_answer_of ?x_answer_of ?k_answer_of ?a_answers ?l_answers ?x_answers ?k_answers ?z_len ?z_max ?z_min ?z_sum ?z_any ?z_all ?z_sorted ?z_list ?z_range ?z_enumerate ?z_zip ?v_FOUNDED ?v_LIFTED ?v_MERGED ?v_SPLIT ?v_SOURCE ?v_SINK ?v_MOST_WEIGHT ?v_LAST_DAY ?v_MOST_ENTRIES ?v_MOST_LOTS ?v_MOST_LEGS ?v_SIZES ?l_SIZES ?l_S0 ?l_S1 ?l_S2 ?l_S3 ?l_S4 ?l_S5 ?l_S6 ?l_S7 ?l_S8 ?l_S9 ?l_S10 ?l_S11 ?l_S12 ?l_S13 ?l_S14 ?l_S15 ?l_S16 ?l_S17 ?v_DEEDS ?l_DEEDS ?r_xL ?r_sa ?r_ga ?r_gg ?r_nb ?r_a1 ?r_t1 ?r_l1 ?r_c1 ?r_kC ?r_eC ?r_tC ?r_hC ?r_iC ?r_sC) hmg
    (case a_Lot => k_is)
    (case pg_Lot => k_is)
    (case hd_Lot => k_is)
    (case po_Lot => k_is)
    (case sa_Lot => k_is)
    (case mk_Lot => k_is)
    (case kc_Lot => k_is)
    (case n_Lot_born => k_is)
    (case n_Lot_made => k_is)
    (case n_Lot_generation => k_is)
    (case n_Lot_grade => k_is)
    (case n_Lot_day => k_is)
    (case n_Lot_mothers => k_is)
    (case n_Lot_planted => k_is)
    (case n_Lot_lost => k_is)
    (case n_Lot_gone => k_is)
    (case a_Entry => k_is)
    (case pg_Entry => k_is)
    (case hd_Entry => k_is)
    (case po_Entry => k_is)
    (case sa_Entry => k_is)
    (case mk_Entry => k_is)
    (case kc_Entry => k_is)
    (case n_Entry_word => k_is)
    (case n_Entry_day => k_is)
    (case n_Entry_weight => k_is)
    (case n_Entry_grade => k_is)
    (case n_Entry_rows => k_is)
    (case a_Book => k_is)
    (case pg_Book => k_is)
    (case hd_Book => k_is)
    (case po_Book => k_is)
    (case sa_Book => k_is)
    (case mk_Book => k_is)
    (case kc_Book => k_is)
    (case n_Book_lots => k_is)
    (case n_Book_legs => k_is)
    (case a_Flow => k_is)
    (case pg_Flow => k_is)
    (case hd_Flow => k_is)
    (case po_Flow => k_is)
    (case sa_Flow => k_is)
    (case mk_Flow => k_is)
    (case kc_Flow => k_is)
    (case n_Flow_room => k_is)
    (case n_Flow_total => k_is)
    (case a_Refused => k_is)
    (case a_Desk => k_is)
    (case pg_Desk => k_is)
    (case hd_Desk => k_is)
    (case po_Desk => k_is)
    (case sa_Desk => k_is)
    (case mk_Desk => k_is)
    (case kc_Desk => k_is)
    (case n_Desk_entries => k_is)
    (case n_Desk_book => k_is)
    (case a_Lot_init => k_is)
    (case i_Lot_init => k_is)
    (case l_Lot_init => k_is)
    (case x_Lot_init => k_is)
    (case k_Lot_init => k_is)
    (case a_Lot_left => k_is)
    (case i_Lot_left => k_is)
    (case l_Lot_left => k_is)
    (case x_Lot_left => k_is)
    (case k_Lot_left => k_is)
    (case a_Lot_is_founder => k_is)
    (case i_Lot_is_founder => k_is)
    (case l_Lot_is_founder => k_is)
    (case x_Lot_is_founder => k_is)
    (case k_Lot_is_founder => k_is)
    (case a_Entry_init => k_is)
    (case i_Entry_init => k_is)
    (case l_Entry_init => k_is)
    (case x_Entry_init => k_is)
    (case k_Entry_init => k_is)
    (case a_Book_init => k_is)
    (case i_Book_init => k_is)
    (case l_Book_init => k_is)
    (case x_Book_init => k_is)
    (case k_Book_init => k_is)
    (case a_Book_put_leg => k_is)
    (case i_Book_put_leg => k_is)
    (case l_Book_put_leg => k_is)
    (case x_Book_put_leg => k_is)
    (case k_Book_put_leg => k_is)
    (case a_Book_greatest => k_is)
    (case i_Book_greatest => k_is)
    (case l_Book_greatest => k_is)
    (case x_Book_greatest => k_is)
    (case k_Book_greatest => k_is)
    (case a_Book_make => k_is)
    (case i_Book_make => k_is)
    (case l_Book_make => k_is)
    (case x_Book_make => k_is)
    (case k_Book_make => k_is)
    (case a_Book_founders => k_is)
    (case i_Book_founders => k_is)
    (case l_Book_founders => k_is)
    (case x_Book_founders => k_is)
    (case k_Book_founders => k_is)
    (case a_Book_steps => k_is)
    (case i_Book_steps => k_is)
    (case l_Book_steps => k_is)
    (case x_Book_steps => k_is)
    (case k_Book_steps => k_is)
    (case a_Book_steps_from => k_is)
    (case i_Book_steps_from => k_is)
    (case l_Book_steps_from => k_is)
    (case x_Book_steps_from => k_is)
    (case k_Book_steps_from => k_is)
    (case a_Book_remainder => k_is)
    (case i_Book_remainder => k_is)
    (case l_Book_remainder => k_is)
    (case x_Book_remainder => k_is)
    (case k_Book_remainder => k_is)
    (case a_Book_weight_of => k_is)
    (case i_Book_weight_of => k_is)
    (case l_Book_weight_of => k_is)
    (case x_Book_weight_of => k_is)
    (case k_Book_weight_of => k_is)
    (case a_Book_shares => k_is)
    (case i_Book_shares => k_is)
    (case l_Book_shares => k_is)
    (case x_Book_shares => k_is)
    (case k_Book_shares => k_is)
    (case a_Book_mixed => k_is)
    (case i_Book_mixed => k_is)
    (case l_Book_mixed => k_is)
    (case x_Book_mixed => k_is)
    (case k_Book_mixed => k_is)
    (case a_divisor => k_is)
    (case l_divisor => k_is)
    (case x_divisor => k_is)
    (case k_divisor => k_is)
    (case a_ratio => k_is)
    (case l_ratio => k_is)
    (case x_ratio => k_is)
    (case k_ratio => k_is)
    (case a_plus => k_is)
    (case l_plus => k_is)
    (case x_plus => k_is)
    (case k_plus => k_is)
    (case a_Flow_init => k_is)
    (case i_Flow_init => k_is)
    (case l_Flow_init => k_is)
    (case x_Flow_init => k_is)
    (case k_Flow_init => k_is)
    (case a_Flow_put => k_is)
    (case i_Flow_put => k_is)
    (case l_Flow_put => k_is)
    (case x_Flow_put => k_is)
    (case k_Flow_put => k_is)
    (case a_Flow_reached => k_is)
    (case i_Flow_reached => k_is)
    (case l_Flow_reached => k_is)
    (case x_Flow_reached => k_is)
    (case k_Flow_reached => k_is)
    (case a_Flow_way => k_is)
    (case i_Flow_way => k_is)
    (case l_Flow_way => k_is)
    (case x_Flow_way => k_is)
    (case k_Flow_way => k_is)
    (case a_Flow_fill => k_is)
    (case i_Flow_fill => k_is)
    (case l_Flow_fill => k_is)
    (case x_Flow_fill => k_is)
    (case k_Flow_fill => k_is)
    (case a_Flow_cut => k_is)
    (case i_Flow_cut => k_is)
    (case l_Flow_cut => k_is)
    (case x_Flow_cut => k_is)
    (case k_Flow_cut => k_is)
    (case a_most => k_is)
    (case l_most => k_is)
    (case x_most => k_is)
    (case k_most => k_is)
    (case a_least => k_is)
    (case l_least => k_is)
    (case x_least => k_is)
    (case k_least => k_is)
    (case a_Desk_init => k_is)
    (case i_Desk_init => k_is)
    (case l_Desk_init => k_is)
    (case x_Desk_init => k_is)
    (case k_Desk_init => k_is)
    (case a_Desk_book_of => k_is)
    (case i_Desk_book_of => k_is)
    (case l_Desk_book_of => k_is)
    (case x_Desk_book_of => k_is)
    (case k_Desk_book_of => k_is)
    (case a_refuse => k_is)
    (case l_refuse => k_is)
    (case x_refuse => k_is)
    (case k_refuse => k_is)
    (case a_is_weight => k_is)
    (case l_is_weight => k_is)
    (case x_is_weight => k_is)
    (case k_is_weight => k_is)
    (case a_pairs => k_is)
    (case l_pairs => k_is)
    (case x_pairs => k_is)
    (case k_pairs => k_is)
    (case a_check_entry => k_is)
    (case l_check_entry => k_is)
    (case x_check_entry => k_is)
    (case k_check_entry => k_is)
    (case a_check_rows => k_is)
    (case l_check_rows => k_is)
    (case x_check_rows => k_is)
    (case k_check_rows => k_is)
    (case a_put => k_is)
    (case l_put => k_is)
    (case x_put => k_is)
    (case k_put => k_is)
    (case a_found => k_is)
    (case l_found => k_is)
    (case x_found => k_is)
    (case k_found => k_is)
    (case a_are_pairs => k_is)
    (case l_are_pairs => k_is)
    (case x_are_pairs => k_is)
    (case k_are_pairs => k_is)
    (case a_lift => k_is)
    (case l_lift => k_is)
    (case x_lift => k_is)
    (case k_lift => k_is)
    (case a_merge => k_is)
    (case l_merge => k_is)
    (case x_merge => k_is)
    (case k_merge => k_is)
    (case a_split => k_is)
    (case l_split => k_is)
    (case x_split => k_is)
    (case k_split => k_is)
    (case a_lose => k_is)
    (case l_lose => k_is)
    (case x_lose => k_is)
    (case k_lose => k_is)
    (case a_undo => k_is)
    (case l_undo => k_is)
    (case x_undo => k_is)
    (case k_undo => k_is)
    (case a_check_lot => k_is)
    (case l_check_lot => k_is)
    (case x_check_lot => k_is)
    (case k_check_lot => k_is)
    (case a_show_lot => k_is)
    (case l_show_lot => k_is)
    (case x_show_lot => k_is)
    (case k_show_lot => k_is)
    (case a_flat => k_is)
    (case l_flat => k_is)
    (case x_flat => k_is)
    (case k_flat => k_is)
    (case a_legs => k_is)
    (case l_legs => k_is)
    (case x_legs => k_is)
    (case k_legs => k_is)
    (case a_then => k_is)
    (case l_then => k_is)
    (case x_then => k_is)
    (case k_then => k_is)
    (case a_check_some => k_is)
    (case l_check_some => k_is)
    (case x_check_some => k_is)
    (case k_check_some => k_is)
    (case a_check_set => k_is)
    (case l_check_set => k_is)
    (case x_check_set => k_is)
    (case k_check_set => k_is)
    (case a_may => k_is)
    (case l_may => k_is)
    (case x_may => k_is)
    (case k_may => k_is)
    (case a_cut => k_is)
    (case l_cut => k_is)
    (case x_cut => k_is)
    (case k_cut => k_is)
    (case a_weigh => k_is)
    (case l_weigh => k_is)
    (case x_weigh => k_is)
    (case k_weigh => k_is)
    (case a_lay => k_is)
    (case l_lay => k_is)
    (case x_lay => k_is)
    (case k_lay => k_is)
    (case a_shares => k_is)
    (case l_shares => k_is)
    (case x_shares => k_is)
    (case k_shares => k_is)
    (case a_falls => k_is)
    (case l_falls => k_is)
    (case x_falls => k_is)
    (case k_falls => k_is)
    (case a_mothers_of => k_is)
    (case l_mothers_of => k_is)
    (case x_mothers_of => k_is)
    (case k_mothers_of => k_is)
    (case a_sums => k_is)
    (case l_sums => k_is)
    (case x_sums => k_is)
    (case k_sums => k_is)
    (case a_answer_of => k_is)
    (case l_answer_of => k_is)
    (case x_answer_of => k_is)
    (case k_answer_of => k_is)
    (case a_answers => k_is)
    (case l_answers => k_is)
    (case x_answers => k_is)
    (case k_answers => k_is)
    (case z_len => k_is)
    (case z_max => k_is)
    (case z_min => k_is)
    (case z_sum => k_is)
    (case z_any => k_is)
    (case z_all => k_is)
    (case z_sorted => k_is)
    (case z_list => k_is)
    (case z_range => k_is)
    (case z_enumerate => k_is)
    (case z_zip => k_is)
    (case v_FOUNDED => k_is)
    (case v_LIFTED => k_is)
    (case v_MERGED => k_is)
    (case v_SPLIT => k_is)
    (case v_SOURCE => k_is)
    (case v_SINK => k_is)
    (case v_MOST_WEIGHT => k_is)
    (case v_LAST_DAY => k_is)
    (case v_MOST_ENTRIES => k_is)
    (case v_MOST_LOTS => k_is)
    (case v_MOST_LEGS => k_is)
    (case v_SIZES => k_is)
    (case l_SIZES => k_is)
    (case l_S0 => k_is)
    (case l_S1 => k_is)
    (case l_S2 => k_is)
    (case l_S3 => k_is)
    (case l_S4 => k_is)
    (case l_S5 => k_is)
    (case l_S6 => k_is)
    (case l_S7 => k_is)
    (case l_S8 => k_is)
    (case l_S9 => k_is)
    (case l_S10 => k_is)
    (case l_S11 => k_is)
    (case l_S12 => k_is)
    (case l_S13 => k_is)
    (case l_S14 => k_is)
    (case l_S15 => k_is)
    (case l_S16 => k_is)
    (case l_S17 => k_is)
    (case v_DEEDS => k_is)
    (case l_DEEDS => k_is)
    (case r_xL => k_is)
    (case r_sa => k_is)
    (case r_ga => k_is)
    (case r_gg => k_is)
    (case r_nb => k_is)
    (case r_a1 => k_is)
    (case r_t1 => k_is)
    (case r_l1 => k_is)
    (case r_c1 => k_is)
    (case r_kC => k_is)
    (case r_eC => k_is)
    (case r_tC => k_is)
    (case r_hC => k_is)
    (case r_iC => k_is)
    (case r_sC => first | rfl | k_is)
  case S =>
    intro K H xs a hO hwi hask hx
    cases hx with
    | cons h1 h2 =>
      cases h2
      cases h1 with
      | lst hs ha =>
        have e := L2.ints_dw a.1 _ ha
        subst e
        exact LW.sp_S (ns := a.1) (LW.within_ints (by decide) hwi).1 (LW.within_ints (by decide) hwi).2 hask hs fun H' p hp => .lst (L2.SqL.of hp) (L2.dw_ints _)
end
