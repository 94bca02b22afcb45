import PyProof.Rows.All
import Wide.All
import OpenK.AllK
import Wide.FinOn
import HandS.ForMost
import HandS.Walk
import HandS.Sort
import KE.GoesMore
import KE.KeyNested
import HandS.DictComp
import HandS.Defaults
import PyProof.ReprRoads
import PyProof.ReprLen
import HandS.WideBits
import HandS.Gcd
import HandS.IsInst
import HandS.TupAny
import HandS.Conv
import HandS.Style
import PySem.Challenge.RW_saidbetween_k75_whole_best_speeches
/-! the mathematics, in plain Lean: speeches, their right weight, the greatest one -/
namespace Bs
def gat (G : List (List Nat)) (r c : Nat) : Nat := (G.getD r []).getD c 0
inductive Tk where
  | fin (m : Nat)
  | row (l : List Nat) (t u : Tk)
  | col (l : List Nat) (t u : Tk)
namespace Tk
def dep : Tk → Nat
  | fin _ => 0
  | row _ t u => max t.dep u.dep + 1
  | col _ t u => max t.dep u.dep + 1
def tell : Tk → Nat → Nat → Nat
  | fin m, _, _ => m
  | row l t u, r, c => if l.contains r then t.tell r c else u.tell r c
  | col l t u, r, c => if l.contains c then t.tell r c else u.tell r c
end Tk
/-- a sum over a rectangle -/
def dsum (f : Nat → Nat → Nat) (near far : List Nat) : Nat := (near.map fun r => (far.map fun c => f r c).sum).sum
def hit (G W : List (List Nat)) (s : Tk) (r c : Nat) : Nat := if s.tell r c = gat G r c then gat W r c else 0
def wt (G W : List (List Nat)) (s : Tk) (near far : List Nat) : Nat := dsum (hit G W s) near far

theorem map_sum_split (f g h : Nat → Nat) (p : Nat → Bool) (h1 : ∀ x, p x = true → f x = g x) (h2 : ∀ x, p x = false → f x = h x) :
    ∀ l : List Nat, (l.map f).sum = ((l.filter p).map g).sum + ((l.filter fun x => !p x).map h).sum
  | [] => rfl
  | x :: l => by
    have ih := map_sum_split f g h p h1 h2 l
    cases e : p x with
    | true => simp [List.filter_cons, e, ih, h1 x e]; omega
    | false => simp [List.filter_cons, e, ih, h2 x e]; omega
theorem map_sum_add (f g : Nat → Nat) : ∀ l : List Nat, (l.map fun x => f x + g x).sum = (l.map f).sum + (l.map g).sum
  | [] => rfl
  | x :: l => by have ih := map_sum_add f g l; simp [ih]; omega
theorem map_sum_le (f g : Nat → Nat) (h : ∀ x, f x ≤ g x) : ∀ l : List Nat, (l.map f).sum ≤ (l.map g).sum
  | [] => Nat.le_refl _
  | x :: l => by have ih := map_sum_le f g h l; have := h x; simp; omega
theorem map_sum_mul (d : Nat) (f : Nat → Nat) : ∀ l : List Nat, (l.map fun x => d * f x).sum = d * (l.map f).sum
  | [] => rfl
  | x :: l => by have ih := map_sum_mul d f l; simp [ih, Nat.mul_add]
theorem map_sum_zero (f : Nat → Nat) : ∀ l : List Nat, (∀ x ∈ l, f x = 0) → (l.map f).sum = 0
  | [], _ => rfl
  | x :: l, h => by
    have ih := map_sum_zero f l fun y hy => h y (List.mem_cons_of_mem _ hy)
    simp [ih, h x List.mem_cons_self]
theorem map_sum_filter_le (f : Nat → Nat) (p : Nat → Bool) : ∀ l : List Nat, ((l.filter p).map f).sum ≤ (l.map f).sum
  | [] => Nat.le_refl _
  | x :: l => by
    have ih := map_sum_filter_le f p l
    cases e : p x <;> simp [List.filter_cons, e] <;> omega
theorem map_sum_congr (f g : Nat → Nat) : ∀ l : List Nat, (∀ x ∈ l, f x = g x) → (l.map f).sum = (l.map g).sum
  | [], _ => rfl
  | x :: l, h => by
    have ih := map_sum_congr f g l fun y hy => h y (List.mem_cons_of_mem _ hy)
    simp [ih, h x List.mem_cons_self]
variable {G W : List (List Nat)}
theorem wt_row (l : List Nat) (t u : Tk) (near far : List Nat) :
    wt G W (.row l t u) near far = wt G W t (near.filter fun x => l.contains x) far + wt G W u (near.filter fun x => !l.contains x) far := by
  unfold wt dsum
  refine map_sum_split _ _ _ (fun x => l.contains x) (fun x e => ?_) (fun x e => ?_) near
  · refine map_sum_congr _ _ _ fun c _ => ?_
    unfold hit
    rw [Tk.tell, if_pos e]
  · refine map_sum_congr _ _ _ fun c _ => ?_
    unfold hit
    rw [Tk.tell, e]
    rfl
theorem wt_col (l : List Nat) (t u : Tk) (near far : List Nat) :
    wt G W (.col l t u) near far = wt G W t near (far.filter fun x => l.contains x) + wt G W u near (far.filter fun x => !l.contains x) := by
  unfold wt dsum
  rw [← map_sum_add]
  refine map_sum_congr _ _ _ fun r _ => ?_
  refine map_sum_split _ _ _ (fun x => l.contains x) (fun c e => ?_) (fun c e => ?_) far
  · unfold hit
    rw [Tk.tell, if_pos e]
  · unfold hit
    rw [Tk.tell, e]
    rfl
theorem wt_near_nil (s : Tk) (far : List Nat) : wt G W s [] far = 0 := rfl
theorem wt_far_nil (s : Tk) (near : List Nat) : wt G W s near [] = 0 := map_sum_zero _ _ fun _ _ => rfl
theorem wt_near_filter (s : Tk) (p : Nat → Bool) (near far : List Nat) : wt G W s (near.filter p) far ≤ wt G W s near far := map_sum_filter_le _ _ _
theorem wt_far_filter (s : Tk) (p : Nat → Bool) (near far : List Nat) : wt G W s near (far.filter p) ≤ wt G W s near far :=
  map_sum_le _ _ (fun _ => map_sum_filter_le _ _ _) _

/-! ### lots of a list -/
def lots (l : List Nat) : List (List Nat) := l.foldl (fun acc x => acc ++ acc.map fun p => p ++ [x]) [[]]
theorem mem_lots_from {p : List Nat} : ∀ {l : List Nat} {acc : List (List Nat)}, p ∈ l.foldl (fun acc x => acc ++ acc.map fun p => p ++ [x]) acc ↔ ∃ a ∈ acc, ∃ s, List.Sublist s l ∧ p = a ++ s
  | [], acc => by
    constructor
    · intro h
      exact ⟨p, h, [], List.Sublist.slnil, by simp⟩
    · rintro ⟨a, ha, s, hs, rfl⟩
      cases hs
      simpa using ha
  | x :: l, acc => by
    rw [List.foldl_cons, mem_lots_from]
    constructor
    · rintro ⟨a, ha, s, hs, rfl⟩
      rcases List.mem_append.mp ha with ha | ha
      · exact ⟨a, ha, s, hs.cons x, rfl⟩
      · obtain ⟨b, hb, rfl⟩ := List.mem_map.mp ha
        exact ⟨b, hb, x :: s, hs.cons_cons x, by simp⟩
    · rintro ⟨a, ha, s, hs, rfl⟩
      cases hs with
      | cons _ h => exact ⟨a, List.mem_append_left _ ha, s, h, rfl⟩
      | cons_cons _ h => exact ⟨a ++ [x], List.mem_append_right _ (List.mem_map.mpr ⟨a, ha, rfl⟩), _, h, by simp⟩
theorem mem_lots {p l : List Nat} : p ∈ lots l ↔ List.Sublist p l := by
  unfold lots
  rw [mem_lots_from]
  constructor
  · rintro ⟨a, ha, s, hs, rfl⟩
    simp at ha
    subst ha
    exact hs
  · intro h
    exact ⟨[], by simp, p, h, rfl⟩
theorem filter_of_sub {p l : List Nat} (h : List.Sublist p l) (nd : l.Nodup) : l.filter (fun x => p.contains x) = p := by
  induction h with
  | slnil => rfl
  | @cons p l x h ih =>
    have nd' := (List.nodup_cons.mp nd)
    have hx : x ∉ p := fun z => nd'.1 (h.subset z)
    rw [List.filter_cons_of_neg (by simpa using hx)]
    exact ih nd'.2
  | @cons_cons p l x h ih =>
    have nd' := (List.nodup_cons.mp nd)
    rw [List.filter_cons_of_pos (by simp)]
    congr 1
    refine Eq.trans (List.filter_congr fun y hy => ?_) (ih nd'.2)
    have : y ≠ x := fun z => nd'.1 (z ▸ hy)
    simp [this]
theorem filter_mem_lots (q : Nat → Bool) (l : List Nat) : l.filter q ∈ lots l := mem_lots.mpr List.filter_sublist
theorem filter_filter_contains (q : Nat → Bool) (l : List Nat) : l.filter (fun x => (l.filter q).contains x) = l.filter q := by
  refine List.filter_congr fun x hx => ?_
  cases e : q x with
  | true => simp [hx, e]
  | false => simp [e]
theorem filter_filter_not (q : Nat → Bool) (l : List Nat) : l.filter (fun x => !(l.filter q).contains x) = l.filter fun x => !q x := by
  refine List.filter_congr fun x hx => ?_
  cases e : q x with
  | true => simp [hx, e]
  | false => simp [e]

/-! ### the greatest -/
def mx (l : List Nat) : Nat := l.foldl max 0
theorem le_foldl_max : ∀ (l : List Nat) (a : Nat), a ≤ l.foldl max a ∧ ∀ x ∈ l, x ≤ l.foldl max a
  | [], a => ⟨Nat.le_refl _, fun _ h => nomatch h⟩
  | y :: l, a => by
    obtain ⟨h1, h2⟩ := le_foldl_max l (max a y)
    rw [List.foldl_cons]
    refine ⟨by omega, fun x hx => ?_⟩
    rcases List.mem_cons.mp hx with rfl | hx
    · omega
    · exact h2 x hx
theorem foldl_max_mem : ∀ (l : List Nat) (a : Nat), l.foldl max a = a ∨ l.foldl max a ∈ l
  | [], a => .inl rfl
  | y :: l, a => by
    rw [List.foldl_cons]
    rcases foldl_max_mem l (max a y) with h | h
    · rw [h]
      by_cases hy : y ≤ a
      · exact .inl (by omega)
      · exact .inr (by rw [show max a y = y by omega]; exact List.mem_cons_self)
    · exact .inr (List.mem_cons_of_mem _ h)
theorem le_mx {l : List Nat} {x : Nat} (h : x ∈ l) : x ≤ mx l := (le_foldl_max l 0).2 x h
theorem mx_mem (l : List Nat) : mx l = 0 ∨ mx l ∈ l := foldl_max_mem l 0
theorem mx_append (l : List Nat) (x : Nat) : mx (l ++ [x]) = max (mx l) x := by simp [mx]

def cells (near far : List Nat) : List (Nat × Nat) := near.flatMap fun r => far.map fun c => (r, c)
theorem mem_cells {near far : List Nat} {r c : Nat} : (r, c) ∈ cells near far ↔ r ∈ near ∧ c ∈ far := by
  unfold cells
  simp
def splitN (b : List Nat → List Nat → Nat) (near far : List Nat) : List Nat := (lots near).map fun p => b p far + b (near.filter fun x => !p.contains x) far
def splitF (b : List Nat → List Nat → Nat) (near far : List Nat) : List Nat := (lots far).map fun p => b near p + b near (far.filter fun x => !p.contains x)
theorem mem_splitN {b : List Nat → List Nat → Nat} {near far p : List Nat} (h : p ∈ lots near) : b p far + b (near.filter fun x => !p.contains x) far ∈ splitN b near far := List.mem_map.mpr ⟨p, h, rfl⟩
theorem mem_splitF {b : List Nat → List Nat → Nat} {near far p : List Nat} (h : p ∈ lots far) : b near p + b near (far.filter fun x => !p.contains x) ∈ splitF b near far := List.mem_map.mpr ⟨p, h, rfl⟩
def best (G W : List (List Nat)) : Nat → List Nat → List Nat → Nat
  | 0, near, far => mx ((cells near far).map fun p => wt G W (.fin (gat G p.1 p.2)) near far)
  | k + 1, near, far => mx (splitN (best G W k) near far ++ splitF (best G W k) near far)

def IsBest (G W : List (List Nat)) (k : Nat) (near far : List Nat) (v : Nat) : Prop := (∀ s : Tk, s.dep ≤ k → wt G W s near far ≤ v) ∧ ∃ s : Tk, s.dep ≤ k ∧ wt G W s near far = v
theorem IsBest.uniq {k : Nat} {near far : List Nat} {v v' : Nat} (h : IsBest G W k near far v) (h' : IsBest G W k near far v') : v = v' := by
  obtain ⟨a, s, hs, e⟩ := h
  obtain ⟨a', s', hs', e'⟩ := h'
  have h1 := a s' hs'
  have h2 := a' s hs
  omega
theorem wt_fin_zero {m : Nat} {near far : List Nat} (h : ∀ r ∈ near, ∀ c ∈ far, gat G r c ≠ m) : wt G W (.fin m) near far = 0 := by
  unfold wt dsum
  refine map_sum_zero _ _ fun r hr => map_sum_zero _ _ fun c hc => ?_
  unfold hit
  rw [if_neg (by rw [Tk.tell]; exact fun z => h r hr c hc z.symm)]
theorem is_best0 (near far : List Nat) : IsBest G W 0 near far (best G W 0 near far) := by
  refine ⟨fun s hs => ?_, ?_⟩
  · cases s with
    | row l t u => simp [Tk.dep] at hs
    | col l t u => simp [Tk.dep] at hs
    | fin m =>
      by_cases h : ∃ r, r ∈ near ∧ ∃ c, c ∈ far ∧ gat G r c = m
      · obtain ⟨r, hr, c, hc, rfl⟩ := h
        exact le_mx (List.mem_map.mpr ⟨(r, c), mem_cells.mpr ⟨hr, hc⟩, rfl⟩)
      · rw [wt_fin_zero fun r hr c hc e => h ⟨r, hr, c, hc, e⟩]
        exact Nat.zero_le _
  · rcases mx_mem ((cells near far).map fun p => wt G W (.fin (gat G p.1 p.2)) near far) with h | h
    · cases e : (cells near far) with
      | nil =>
        refine ⟨.fin 0, Nat.le_refl _, ?_⟩
        rw [best, h, wt_fin_zero]
        intro r hr c hc
        have : (r, c) ∈ cells near far := mem_cells.mpr ⟨hr, hc⟩
        rw [e] at this
        cases this
      | cons p l =>
        refine ⟨.fin (gat G p.1 p.2), Nat.le_refl _, ?_⟩
        have h1 : wt G W (.fin (gat G p.1 p.2)) near far ≤ mx ((cells near far).map fun p => wt G W (.fin (gat G p.1 p.2)) near far) := le_mx (List.mem_map.mpr ⟨p, by rw [e]; exact List.mem_cons_self, rfl⟩)
        rw [best]
        omega
    · obtain ⟨p, _, e⟩ := List.mem_map.mp h
      exact ⟨.fin (gat G p.1 p.2), Nat.le_refl _, e⟩
theorem dep_row {l : List Nat} {t u : Tk} {k : Nat} (h : (Tk.row l t u).dep ≤ k + 1) : t.dep ≤ k ∧ u.dep ≤ k := by
  simp only [Tk.dep] at h
  omega
theorem dep_col {l : List Nat} {t u : Tk} {k : Nat} (h : (Tk.col l t u).dep ≤ k + 1) : t.dep ≤ k ∧ u.dep ≤ k := by
  simp only [Tk.dep] at h
  omega
theorem nodup_filter {l : List Nat} (p : Nat → Bool) (h : l.Nodup) : (l.filter p).Nodup := h.sublist List.filter_sublist
theorem is_best : ∀ (k : Nat) (near far : List Nat), near.Nodup → far.Nodup → IsBest G W k near far (best G W k near far)
  | 0, near, far, _, _ => is_best0 near far
  | k + 1, near, far, hn, hf => by
    have ih := is_best k
    have hb : best G W (k + 1) near far = mx (splitN (best G W k) near far ++ splitF (best G W k) near far) := rfl
    refine ⟨fun s hs => ?_, ?_⟩
    · rw [hb]
      cases s with
      | fin m =>
        have h0 : ([] : List Nat) ∈ lots near := mem_lots.mpr (List.nil_sublist _)
        have h1 := le_mx (List.mem_append_left (splitF (best G W k) near far) (mem_splitN (b := best G W k) (far := far) h0))
        have h2 : (near.filter fun x => !([] : List Nat).contains x) = near := List.filter_eq_self.mpr fun _ _ => by simp
        rw [h2] at h1
        have h3 := (ih near far hn hf).1 (.fin m) (Nat.zero_le _)
        omega
      | row l t u =>
        obtain ⟨d1, d2⟩ := dep_row hs
        rw [wt_row]
        have h1 := (ih (near.filter fun x => l.contains x) far (nodup_filter _ hn) hf).1 t d1
        have h2 := (ih (near.filter fun x => !l.contains x) far (nodup_filter _ hn) hf).1 u d2
        have h3 := le_mx (List.mem_append_left (splitF (best G W k) near far) (mem_splitN (b := best G W k) (far := far) (filter_mem_lots (fun x => l.contains x) near)))
        rw [filter_filter_not] at h3
        omega
      | col l t u =>
        obtain ⟨d1, d2⟩ := dep_col hs
        rw [wt_col]
        have h1 := (ih near (far.filter fun x => l.contains x) hn (nodup_filter _ hf)).1 t d1
        have h2 := (ih near (far.filter fun x => !l.contains x) hn (nodup_filter _ hf)).1 u d2
        have h3 := le_mx (List.mem_append_right (splitN (best G W k) near far) (mem_splitF (b := best G W k) (near := near) (filter_mem_lots (fun x => l.contains x) far)))
        rw [filter_filter_not] at h3
        omega
    · have key : ∀ v ∈ splitN (best G W k) near far ++ splitF (best G W k) near far, ∃ s : Tk, s.dep ≤ k + 1 ∧ wt G W s near far = v := by
        intro v hv
        rcases List.mem_append.mp hv with hv | hv
        · obtain ⟨p, hp, rfl⟩ := List.mem_map.mp hv
          have e := filter_of_sub (mem_lots.mp hp) hn
          obtain ⟨t, ht, et⟩ := (ih p far (hn.sublist (mem_lots.mp hp)) hf).2
          obtain ⟨u, hu, eu⟩ := (ih (near.filter fun x => !p.contains x) far (nodup_filter _ hn) hf).2
          refine ⟨.row p t u, by simp only [Tk.dep]; omega, ?_⟩
          rw [wt_row, e, et, eu]
        · obtain ⟨p, hp, rfl⟩ := List.mem_map.mp hv
          have e := filter_of_sub (mem_lots.mp hp) hf
          obtain ⟨t, ht, et⟩ := (ih near p hn (hf.sublist (mem_lots.mp hp))).2
          obtain ⟨u, hu, eu⟩ := (ih near (far.filter fun x => !p.contains x) hn (nodup_filter _ hf)).2
          refine ⟨.col p t u, by simp only [Tk.dep]; omega, ?_⟩
          rw [wt_col, e, et, eu]
      rcases mx_mem (splitN (best G W k) near far ++ splitF (best G W k) near far) with h | h
      · have h0 : ([] : List Nat) ∈ lots near := mem_lots.mpr (List.nil_sublist _)
        have hm : best G W k [] far + best G W k (near.filter fun x => !([] : List Nat).contains x) far ∈ splitN (best G W k) near far := List.mem_map.mpr ⟨[], h0, rfl⟩
        have h1 := le_mx (List.mem_append_left (splitF (best G W k) near far) hm)
        obtain ⟨s, hs, e⟩ := key _ (List.mem_append_left _ hm)
        exact ⟨s, hs, by rw [hb]; omega⟩
      · obtain ⟨s, hs, e⟩ := key _ h
        exact ⟨s, hs, by rw [e, hb]⟩
theorem best_le {k : Nat} {near far : List Nat} (hn : near.Nodup) (hf : far.Nodup) {s : Tk} (hs : s.dep ≤ k) : wt G W s near far ≤ best G W k near far := (is_best k near far hn hf).1 s hs
/-- with more bits no less, with one more at most twice as much -/
theorem best_succ {k : Nat} {near far : List Nat} (hn : near.Nodup) (hf : far.Nodup) : best G W k near far ≤ best G W (k + 1) near far ∧ best G W (k + 1) near far ≤ 2 * best G W k near far := by
  constructor
  · obtain ⟨s, hs, e⟩ := (is_best (G := G) (W := W) k near far hn hf).2
    rw [← e]
    exact best_le hn hf (by omega)
  · obtain ⟨s, hs, e⟩ := (is_best (G := G) (W := W) (k + 1) near far hn hf).2
    rw [← e]
    cases s with
    | fin m =>
      have := best_le (G := G) (W := W) (k := k) hn hf (s := .fin m) (Nat.zero_le _)
      omega
    | row l t u =>
      obtain ⟨d1, d2⟩ := dep_row hs
      rw [wt_row]
      have h1 := wt_near_filter (G := G) (W := W) t (fun x => l.contains x) near far
      have h2 := wt_near_filter (G := G) (W := W) u (fun x => !l.contains x) near far
      have h3 := best_le (G := G) (W := W) hn hf d1
      have h4 := best_le (G := G) (W := W) hn hf d2
      omega
    | col l t u =>
      obtain ⟨d1, d2⟩ := dep_col hs
      rw [wt_col]
      have h1 := wt_far_filter (G := G) (W := W) t (fun x => l.contains x) near far
      have h2 := wt_far_filter (G := G) (W := W) u (fun x => !l.contains x) near far
      have h3 := best_le (G := G) (W := W) hn hf d1
      have h4 := best_le (G := G) (W := W) hn hf d2
      omega
/-- two odds together -/
theorem wt_add {W1 W2 W3 : List (List Nat)} {near far : List Nat} (h : ∀ r c, gat W3 r c = gat W1 r c + gat W2 r c) (s : Tk) : wt G W3 s near far = wt G W1 s near far + wt G W2 s near far := by
  unfold wt dsum
  rw [← map_sum_add]
  refine map_sum_congr _ _ _ fun r _ => ?_
  rw [← map_sum_add]
  refine map_sum_congr _ _ _ fun c _ => ?_
  unfold hit
  rw [h]
  split <;> rfl
theorem best_add {W1 W2 W3 : List (List Nat)} {k : Nat} {near far : List Nat} (hn : near.Nodup) (hf : far.Nodup) (h : ∀ r c, gat W3 r c = gat W1 r c + gat W2 r c) : best G W3 k near far ≤ best G W1 k near far + best G W2 k near far := by
  obtain ⟨s, hs, e⟩ := (is_best (G := G) (W := W3) k near far hn hf).2
  rw [← e, wt_add h]
  have h1 := best_le (G := G) (W := W1) hn hf hs
  have h2 := best_le (G := G) (W := W2) hn hf hs
  omega
theorem wt_mul {W1 : List (List Nat)} {d : Nat} {near far : List Nat} (h : ∀ r ∈ near, ∀ c ∈ far, gat W r c = d * gat W1 r c) (s : Tk) : wt G W s near far = d * wt G W1 s near far := by
  unfold wt dsum
  rw [← map_sum_mul]
  refine map_sum_congr _ _ _ fun r hr => ?_
  rw [← map_sum_mul]
  refine map_sum_congr _ _ _ fun c hc => ?_
  unfold hit
  rw [h r hr c hc]
  split <;> simp
theorem best_mul {W1 : List (List Nat)} {d k : Nat} {near far : List Nat} (hn : near.Nodup) (hf : far.Nodup) (h : ∀ r ∈ near, ∀ c ∈ far, gat W r c = d * gat W1 r c) : best G W k near far = d * best G W1 k near far := by
  refine (is_best k near far hn hf).uniq ⟨fun s hs => ?_, ?_⟩
  · rw [wt_mul h]
    exact Nat.mul_le_mul_left _ (best_le hn hf hs)
  · obtain ⟨s, hs, e⟩ := (is_best (G := G) (W := W1) k near far hn hf).2
    exact ⟨s, hs, by rw [wt_mul h, e]⟩
end Bs
/-! the mathematics: masks, and totals by marks -/
namespace Bs
/-! ### masks below 16 -/
def bits (n : Nat) : List Nat := (List.range 4).filter fun i => decide (n / 2 ^ i % 2 = 1)
def sides (n : Nat) : List Nat := (List.range n).filter fun s => decide (s ≠ 0) && decide (Nat.land s n = s) && decide (s < 2 ^ Nat.log2 n)
theorem bits_lt {n i : Nat} (h : i ∈ bits n) : i < 4 := by
  unfold bits at h
  exact List.mem_range.mp (List.mem_filter.mp h).1
theorem bits_nodup (n : Nat) : (bits n).Nodup := nodup_filter _ List.nodup_range
theorem sides_facts (n : Nat) (hn : n < 16) : ∀ s ∈ sides n, 0 < s ∧ s < n ∧ (bits n).filter (fun x => (bits s).contains x) = bits s ∧ (bits n).filter (fun x => !(bits s).contains x) = bits (n - s) := by
  have h : ∀ n : Fin 16, ∀ s ∈ sides n, 0 < s ∧ s < n ∧ (bits n).filter (fun x => (bits s).contains x) = bits s ∧ (bits n).filter (fun x => !(bits s).contains x) = bits (n - s) := by decide +kernel
  exact h ⟨n, hn⟩
def q4 (a b c d : Bool) (i : Nat) : Bool := if i = 0 then a else if i = 1 then b else if i = 2 then c else d
theorem sides_all4 (n : Nat) (hn : n < 16) (a b c d : Bool) : (bits n).filter (q4 a b c d) = [] ∨ (bits n).filter (fun x => !q4 a b c d x) = [] ∨
    ∃ s ∈ sides n, (bits s = (bits n).filter (q4 a b c d) ∧ bits (n - s) = (bits n).filter fun x => !q4 a b c d x) ∨ (bits (n - s) = (bits n).filter (q4 a b c d) ∧ bits s = (bits n).filter fun x => !q4 a b c d x) := by
  have h : ∀ n : Fin 16, ∀ a b c d : Bool, (bits n).filter (q4 a b c d) = [] ∨ (bits n).filter (fun x => !q4 a b c d x) = [] ∨
    ∃ s ∈ sides n, (bits s = (bits n).filter (q4 a b c d) ∧ bits (n - s) = (bits n).filter fun x => !q4 a b c d x) ∨ (bits (n - s) = (bits n).filter (q4 a b c d) ∧ bits s = (bits n).filter fun x => !q4 a b c d x) := by decide +kernel
  exact h ⟨n, hn⟩ a b c d
theorem sides_all (n : Nat) (hn : n < 16) (q : Nat → Bool) : (bits n).filter q = [] ∨ (bits n).filter (fun x => !q x) = [] ∨
    ∃ s ∈ sides n, (bits s = (bits n).filter q ∧ bits (n - s) = (bits n).filter fun x => !q x) ∨ (bits (n - s) = (bits n).filter q ∧ bits s = (bits n).filter fun x => !q x) := by
  have e : ∀ i ∈ bits n, q i = q4 (q 0) (q 1) (q 2) (q 3) i := fun i hi => by
    have := bits_lt hi
    unfold q4
    match i, this with
    | 0, _ => rfl
    | 1, _ => rfl
    | 2, _ => rfl
    | 3, _ => rfl
  rw [List.filter_congr (q := q4 (q 0) (q 1) (q 2) (q 3)) e, List.filter_congr (p := fun x => !q x) (q := fun x => !q4 (q 0) (q 1) (q 2) (q 3) x) fun i hi => by rw [e i hi]]
  exact sides_all4 n hn _ _ _ _
theorem bits_ne (n : Nat) (hn : n < 16) (h0 : 0 < n) : bits n ≠ [] := by
  have h : ∀ n : Fin 16, 0 < (n : Nat) → bits n ≠ [] := by decide +kernel
  exact h ⟨n, hn⟩ h0
theorem bits_full (r : Nat) (h : r ≤ 4) : bits (2 ^ r - 1) = List.range r := by
  have h' : ∀ r : Fin 5, bits (2 ^ (r : Nat) - 1) = List.range r := by decide +kernel
  exact h' ⟨r, by omega⟩
/-- the row's bits of a mask below 2 ^ r are below r -/
theorem bits_below (r n : Nat) (hr : r ≤ 4) (hn : n < 2 ^ r) : ∀ i ∈ bits n, i < r := by
  have h : ∀ r : Fin 5, ∀ n : Fin 16, (n : Nat) < 2 ^ (r : Nat) → ∀ i ∈ bits n, i < r := by decide +kernel
  have h16 : n < 16 := Nat.lt_of_lt_of_le hn (Nat.pow_le_pow_right (by decide) hr)
  exact h ⟨r, by omega⟩ ⟨n, h16⟩ hn
variable {G W : List (List Nat)}
/-- what the table holds at a rectangle: a speech that has the greatest weight -/
def Good (G W : List (List Nat)) (k r c v : Nat) (s : Tk) : Prop := s.dep ≤ k ∧ wt G W s (bits r) (bits c) = v ∧ v = best G W k (bits r) (bits c)
theorem best_nil_near (k : Nat) (far : List Nat) (hf : far.Nodup) : best G W k [] far = 0 := by
  obtain ⟨s, _, e⟩ := (is_best (G := G) (W := W) k [] far List.nodup_nil hf).2
  rw [← e]
  rfl
theorem best_nil_far (k : Nat) (near : List Nat) (hn : near.Nodup) : best G W k near [] = 0 := by
  obtain ⟨s, _, e⟩ := (is_best (G := G) (W := W) k near [] hn List.nodup_nil).2
  rw [← e]
  exact wt_far_nil s near
/-- the greatest of what is known and of all partings -/
theorem best_step {k r c v : Nat} (hr : r < 16) (hc : c < 16) (h0 : best G W k (bits r) (bits c) ≤ v) (h1 : ∀ s ∈ sides r, best G W k (bits s) (bits c) + best G W k (bits (r - s)) (bits c) ≤ v)
    (h2 : ∀ s ∈ sides c, best G W k (bits r) (bits s) + best G W k (bits r) (bits (c - s)) ≤ v) (h3 : ∃ t : Tk, t.dep ≤ k + 1 ∧ wt G W t (bits r) (bits c) = v) : v = best G W (k + 1) (bits r) (bits c) := by
  refine IsBest.uniq (G := G) (W := W) (k := k + 1) (near := bits r) (far := bits c) ⟨fun t ht => ?_, h3⟩ (is_best _ _ _ (bits_nodup r) (bits_nodup c))
  have nr := bits_nodup r
  have nc := bits_nodup c
  cases t with
  | fin m =>
    have := best_le (G := G) (W := W) (k := k) nr nc (s := .fin m) (Nat.zero_le _)
    omega
  | row l t u =>
    obtain ⟨d1, d2⟩ := dep_row ht
    rw [wt_row]
    have b1 := best_le (G := G) (W := W) (nodup_filter (fun x => l.contains x) nr) nc d1
    have b2 := best_le (G := G) (W := W) (nodup_filter (fun x => !l.contains x) nr) nc d2
    rcases sides_all r hr (fun x => l.contains x) with e | e | ⟨s, hs, ⟨e1, e2⟩ | ⟨e1, e2⟩⟩
    · rw [e, best_nil_near _ _ nc] at b1
      have := wt_near_filter (G := G) (W := W) u (fun x => !l.contains x) (bits r) (bits c)
      have := best_le (G := G) (W := W) nr nc d2
      rw [e]
      omega
    · rw [e, best_nil_near _ _ nc] at b2
      have := wt_near_filter (G := G) (W := W) t (fun x => l.contains x) (bits r) (bits c)
      have := best_le (G := G) (W := W) nr nc d1
      rw [e]
      omega
    · have := h1 s hs
      rw [e1, e2] at this
      omega
    · have := h1 s hs
      rw [e1, e2] at this
      omega
  | col l t u =>
    obtain ⟨d1, d2⟩ := dep_col ht
    rw [wt_col]
    have b1 := best_le (G := G) (W := W) nr (nodup_filter (fun x => l.contains x) nc) d1
    have b2 := best_le (G := G) (W := W) nr (nodup_filter (fun x => !l.contains x) nc) d2
    rcases sides_all c hc (fun x => l.contains x) with e | e | ⟨s, hs, ⟨e1, e2⟩ | ⟨e1, e2⟩⟩
    · rw [e, best_nil_far _ _ nr] at b1
      have := wt_far_filter (G := G) (W := W) u (fun x => !l.contains x) (bits r) (bits c)
      have := best_le (G := G) (W := W) nr nc d2
      rw [e]
      omega
    · rw [e, best_nil_far _ _ nr] at b2
      have := wt_far_filter (G := G) (W := W) t (fun x => l.contains x) (bits r) (bits c)
      have := best_le (G := G) (W := W) nr nc d1
      rw [e]
      omega
    · have := h2 s hs
      rw [e1, e2] at this
      omega
    · have := h2 s hs
      rw [e1, e2] at this
      omega
/-- a parting's speech -/
theorem wt_side_row {r c s : Nat} (hr : r < 16) (hs : s ∈ sides r) (t u : Tk) : wt G W (.row (bits s) t u) (bits r) (bits c) = wt G W t (bits s) (bits c) + wt G W u (bits (r - s)) (bits c) := by
  obtain ⟨_, _, e1, e2⟩ := sides_facts r hr s hs
  rw [wt_row, e1, e2]
theorem wt_side_col {r c s : Nat} (hc : c < 16) (hs : s ∈ sides c) (t u : Tk) : wt G W (.col (bits s) t u) (bits r) (bits c) = wt G W t (bits r) (bits s) + wt G W u (bits r) (bits (c - s)) := by
  obtain ⟨_, _, e1, e2⟩ := sides_facts c hc s hs
  rw [wt_col, e1, e2]

/-! ### totals by marks -/
def tget (t : List (Nat × Nat)) (m : Nat) : Option Nat := (t.find? fun p => decide (p.1 = m)).map (·.2)
def tput (t : List (Nat × Nat)) (m v : Nat) : List (Nat × Nat) := if (tget t m).isSome then t.map (fun p => if p.1 = m then (p.1, v) else p) else t ++ [(m, v)]
def tadd (t : List (Nat × Nat)) (p : Nat × Nat) : List (Nat × Nat) := tput t p.1 ((tget t p.1).getD 0 + p.2)
def tally (l : List (Nat × Nat)) : List (Nat × Nat) := l.foldl tadd []
def tsum (l : List (Nat × Nat)) (m : Nat) : Nat := ((l.filter fun p => decide (p.1 = m)).map (·.2)).sum
theorem tget_nil (m : Nat) : tget [] m = none := rfl
theorem tget_cons (p : Nat × Nat) (t : List (Nat × Nat)) (m : Nat) : tget (p :: t) m = if p.1 = m then some p.2 else tget t m := by
  unfold tget
  rw [List.find?_cons]
  by_cases h : p.1 = m
  · simp [h]
  · simp [h]
theorem tget_append (t : List (Nat × Nat)) (q : Nat × Nat) (m : Nat) : tget (t ++ [q]) m = (tget t m).or (if q.1 = m then some q.2 else none) := by
  induction t with
  | nil =>
    rw [List.nil_append, tget_cons, tget_nil]
    rfl
  | cons p t ih =>
    rw [List.cons_append, tget_cons, tget_cons, ih]
    split <;> rfl
theorem tget_map (t : List (Nat × Nat)) (m v j : Nat) : tget (t.map fun p => if p.1 = m then (p.1, v) else p) j = if j = m then (tget t j).map (fun _ => v) else tget t j := by
  induction t with
  | nil =>
    rw [List.map_nil, tget_nil]
    split <;> rfl
  | cons p t ih =>
    rw [List.map_cons, tget_cons, tget_cons, ih]
    by_cases h1 : p.1 = m
    · rw [if_pos h1]
      by_cases h2 : p.1 = j
      · rw [if_pos h2, if_pos h2, if_pos (h2 ▸ h1)]
        rfl
      · rw [if_neg h2, if_neg h2]
    · rw [if_neg h1]
      by_cases h2 : p.1 = j
      · rw [if_pos h2, if_pos h2, if_neg (fun e => h1 (h2.trans e))]
      · rw [if_neg h2, if_neg h2]
theorem tget_put (t : List (Nat × Nat)) (m v j : Nat) : tget (tput t m v) j = if j = m then some v else tget t j := by
  unfold tput
  by_cases h : (tget t m).isSome = true
  · rw [if_pos h, tget_map]
    by_cases e : j = m
    · rw [if_pos e, if_pos e, e]
      obtain ⟨x, hx⟩ := Option.isSome_iff_exists.mp h
      rw [hx]
      rfl
    · rw [if_neg e, if_neg e]
  · rw [if_neg h, tget_append]
    have hn : tget t m = none := by
      cases e : tget t m with
      | none => rfl
      | some x => rw [e] at h; exact absurd rfl h
    by_cases e : j = m
    · rw [if_pos e, e, hn]
      simp
    · rw [if_neg e]
      have : ¬ m = j := fun z => e z.symm
      simp [this]
theorem tsum_append (l : List (Nat × Nat)) (p : Nat × Nat) (m : Nat) : tsum (l ++ [p]) m = tsum l m + if p.1 = m then p.2 else 0 := by
  unfold tsum
  rw [List.filter_append, List.map_append, List.sum_append]
  by_cases h : p.1 = m <;> simp [h]
theorem tally_append (l : List (Nat × Nat)) (p : Nat × Nat) : tally (l ++ [p]) = tadd (tally l) p := by
  unfold tally
  rw [List.foldl_append]
  rfl
theorem snoc_ind {α : Type} {P : List α → Prop} (h0 : P []) (h1 : ∀ l a, P l → P (l ++ [a])) (l : List α) : P l := by
  have : ∀ m : List α, P m.reverse := by
    intro m
    induction m with
    | nil => exact h0
    | cons a m ih =>
      rw [List.reverse_cons]
      exact h1 _ _ ih
  have h := this l.reverse
  rw [List.reverse_reverse] at h
  exact h
/-- what the totals hold at a mark -/
theorem tally_get (l : List (Nat × Nat)) (m : Nat) : tget (tally l) m = if m ∈ l.map (·.1) then some (tsum l m) else none := by
  induction l using snoc_ind with
  | h0 => rfl
  | h1 l p ih =>
    rw [tally_append]
    unfold tadd
    rw [tget_put, tsum_append, List.map_append]
    by_cases h : m = p.1
    · have hin : m ∈ l.map (·.1) ++ [p].map (·.1) := List.mem_append_right _ (by rw [h]; exact List.mem_cons_self)
      rw [if_pos h, if_pos hin, if_pos h.symm, ← h, ih]
      by_cases h2 : m ∈ l.map (·.1)
      · rw [if_pos h2]
        rfl
      · rw [if_neg h2]
        have : tsum l m = 0 := by
          unfold tsum
          rw [List.filter_eq_nil_iff.mpr]
          · rfl
          · intro q hq
            simp
            intro e
            exact h2 (List.mem_map.mpr ⟨q, hq, e⟩)
        rw [this]
        simp
    · have hne : ¬ p.1 = m := fun e => h e.symm
      rw [if_neg h, if_neg hne, ih]
      have : (m ∈ l.map (·.1) ++ [p].map (·.1)) ↔ m ∈ l.map (·.1) := by simp [h]
      by_cases h2 : m ∈ l.map (·.1)
      · rw [if_pos h2, if_pos (this.mpr h2)]
        rfl
      · rw [if_neg h2, if_neg (fun z => h2 (this.mp z))]
theorem keys_put (t : List (Nat × Nat)) (m v : Nat) (h : (t.map (·.1)).Nodup) : ((tput t m v).map (·.1)).Nodup := by
  unfold tput
  by_cases hs : (tget t m).isSome = true
  · rw [if_pos hs, List.map_map]
    have : ((fun x : Nat × Nat => x.1) ∘ fun p : Nat × Nat => if p.1 = m then (p.1, v) else p) = fun x => x.1 := by
      funext p
      simp only [Function.comp]
      split <;> rfl
    rw [this]
    exact h
  · rw [if_neg hs, List.map_append]
    refine List.nodup_append.mpr ⟨h, by simp, fun a ha b hb => ?_⟩
    simp at hb
    subst hb
    intro e
    subst e
    obtain ⟨p, hp, e⟩ := List.mem_map.mp ha
    refine hs ?_
    unfold tget
    rw [Option.isSome_map, List.find?_isSome]
    exact ⟨p, hp, by simpa using e⟩
theorem tally_nodup (l : List (Nat × Nat)) : ((tally l).map (·.1)).Nodup := by
  induction l using snoc_ind with
  | h0 => exact List.nodup_nil
  | h1 l p ih =>
    rw [tally_append]
    exact keys_put _ _ _ ih
theorem tget_mem {t : List (Nat × Nat)} {m v : Nat} (h : tget t m = some v) : (m, v) ∈ t := by
  unfold tget at h
  obtain ⟨p, hp, e⟩ := Option.map_eq_some_iff.mp h
  have h1 := List.mem_of_find?_eq_some hp
  have h2 := List.find?_some hp
  simp at h2
  rw [← h2, ← e]
  exact h1
theorem mem_tget : ∀ {t : List (Nat × Nat)} {m v : Nat}, (t.map (·.1)).Nodup → (m, v) ∈ t → tget t m = some v
  | p :: t, m, v, hn, h => by
    rw [tget_cons]
    rw [List.map_cons] at hn
    obtain ⟨h1, h2⟩ := List.nodup_cons.mp hn
    rcases List.mem_cons.mp h with e | h
    · rw [← e, if_pos rfl]
    · have : p.1 ≠ m := fun e => h1 (List.mem_map.mpr ⟨(m, v), h, e.symm⟩)
      rw [if_neg this]
      exact mem_tget h2 h
theorem tally_mem {l : List (Nat × Nat)} {m v : Nat} : (m, v) ∈ tally l ↔ m ∈ l.map (·.1) ∧ v = tsum l m := by
  constructor
  · intro h
    have e := mem_tget (tally_nodup l) h
    rw [tally_get] at e
    by_cases h2 : m ∈ l.map (·.1)
    · rw [if_pos h2] at e
      exact ⟨h2, (Option.some.inj e).symm⟩
    · rw [if_neg h2] at e
      cases e
  · rintro ⟨h1, rfl⟩
    refine tget_mem ?_
    rw [tally_get, if_pos h1]
theorem tally_len (l : List (Nat × Nat)) : (tally l).length ≤ l.length := by
  induction l using snoc_ind with
  | h0 => exact Nat.le_refl _
  | h1 l p ih =>
    rw [tally_append, List.length_append]
    unfold tadd tput
    split
    · rw [List.length_map]
      exact Nat.le_trans ih (Nat.le_add_right _ _)
    · rw [List.length_append]
      exact Nat.add_le_add_right ih _
/-- the marks and weights of a rectangle -/
def marks (G W : List (List Nat)) (near far : List Nat) : List (Nat × Nat) := near.flatMap fun r => far.map fun c => (gat G r c, gat W r c)
theorem tsum_flat (m : Nat) : ∀ (near : List Nat) (far : List Nat), tsum (marks G W near far) m = wt G W (.fin m) near far
  | [], far => rfl
  | r :: near, far => by
    have ih := tsum_flat m near far
    have h1 : marks G W (r :: near) far = (far.map fun c => (gat G r c, gat W r c)) ++ marks G W near far := by
      unfold marks
      rw [List.flatMap_cons]
    have h2 : wt G W (.fin m) (r :: near) far = (far.map fun c => hit G W (.fin m) r c).sum + wt G W (.fin m) near far := by
      unfold wt dsum
      rw [List.map_cons, List.sum_cons]
    rw [h1, h2, ← ih]
    unfold tsum
    rw [List.filter_append, List.map_append, List.sum_append]
    congr 1
    induction far with
    | nil => rfl
    | cons c far ihf =>
      rw [List.map_cons, List.map_cons, List.sum_cons, List.filter_cons]
      have hh : hit G W (.fin m) r c = if m = gat G r c then gat W r c else 0 := rfl
      rw [hh]
      by_cases e : gat G r c = m
      · rw [if_pos (by simpa using e), if_pos e.symm, List.map_cons, List.sum_cons, ihf (tsum_flat m near far) (by unfold marks; rw [List.flatMap_cons]) (by unfold wt dsum; rw [List.map_cons, List.sum_cons])]
      · rw [if_neg (by simpa using e), if_neg (fun z => e z.symm), Nat.zero_add, ihf (tsum_flat m near far) (by unfold marks; rw [List.flatMap_cons]) (by unfold wt dsum; rw [List.map_cons, List.sum_cons])]
theorem marks_mem {near far : List Nat} {m : Nat} : m ∈ (marks G W near far).map (·.1) ↔ ∃ r, r ∈ near ∧ ∃ c, c ∈ far ∧ gat G r c = m := by
  unfold marks
  simp only [List.map_flatMap, List.mem_flatMap, List.map_map, List.mem_map, Function.comp]
/-- the greatest total is the greatest weight without a bit -/
theorem tally_best (near far : List Nat) : mx ((tally (marks G W near far)).map (·.2)) = best G W 0 near far := by
  refine IsBest.uniq (G := G) (W := W) (k := 0) (near := near) (far := far) ⟨fun s hs => ?_, ?_⟩ (is_best0 near far)
  · cases s with
    | row l t u => simp [Tk.dep] at hs
    | col l t u => simp [Tk.dep] at hs
    | fin m =>
      rw [← tsum_flat]
      by_cases h : m ∈ (marks G W near far).map (·.1)
      · exact le_mx (List.mem_map.mpr ⟨_, tally_mem.mpr ⟨h, rfl⟩, rfl⟩)
      · have e : tsum (marks G W near far) m = 0 := by
          rw [tsum_flat]
          refine wt_fin_zero fun r hr c hc e => h (marks_mem.mpr ⟨r, hr, c, hc, e⟩)
        rw [e]
        exact Nat.zero_le _
  · cases e : tally (marks G W near far) with
    | nil =>
      refine ⟨.fin 0, Nat.le_refl _, ?_⟩
      rw [← tsum_flat]
      have hn : ¬ 0 ∈ (marks G W near far).map (·.1) := fun h => by
        have := tally_mem.mpr ⟨h, rfl⟩
        rw [e] at this
        cases this
      rw [tsum_flat]
      exact wt_fin_zero fun r hr c hc e => hn (marks_mem.mpr ⟨r, hr, c, hc, e⟩)
    | cons p t =>
      have key : mx ((p :: t).map (·.2)) ∈ (p :: t).map (·.2) := by
        rcases mx_mem ((p :: t).map (·.2)) with h | h
        · have h1 : p.2 ∈ (p :: t).map (·.2) := by rw [List.map_cons]; exact List.mem_cons_self
          have h2 := le_mx h1
          have h3 : p.2 = mx ((p :: t).map (·.2)) := by omega
          rw [← h3]
          exact h1
        · exact h
      obtain ⟨⟨m, v⟩, hm, e2⟩ := List.mem_map.mp key
      rw [← e] at hm
      obtain ⟨_, h3⟩ := tally_mem.mp hm
      refine ⟨.fin m, Nat.le_refl _, ?_⟩
      rw [← tsum_flat, ← h3, ← e2]
end Bs
/-! the mathematics: fractions -/
namespace Bs
def red (a b : Nat) : Nat × Nat := (a / Nat.gcd a b, b / Nat.gcd a b)
theorem red_fst (a b : Nat) : (red a b).1 * Nat.gcd a b = a := Nat.div_mul_cancel (Nat.gcd_dvd_left a b)
theorem red_snd (a b : Nat) : (red a b).2 * Nat.gcd a b = b := Nat.div_mul_cancel (Nat.gcd_dvd_right a b)
theorem red_pos {a b : Nat} (hb : 0 < b) : 0 < (red a b).2 := by
  have h := red_snd a b
  rcases Nat.eq_zero_or_pos (red a b).2 with z | z
  · rw [z, Nat.zero_mul] at h
    omega
  · exact z
theorem red_cop {a b : Nat} (hb : 0 < b) : Nat.gcd (red a b).1 (red a b).2 = 1 := by
  have hg : 0 < Nat.gcd a b := Nat.gcd_pos_of_pos_right _ hb
  exact Nat.gcd_div_gcd_div_gcd_of_pos_right hb
theorem red_cross (a b : Nat) : (red a b).1 * b = a * (red a b).2 := by
  have h1 := red_fst a b
  have h2 := red_snd a b
  calc (red a b).1 * b = (red a b).1 * ((red a b).2 * Nat.gcd a b) := by rw [h2]
    _ = ((red a b).1 * Nat.gcd a b) * (red a b).2 := by rw [Nat.mul_comm (red a b).2, Nat.mul_assoc]
    _ = a * (red a b).2 := by rw [h1]
theorem red_le (a b : Nat) : (red a b).1 ≤ a ∧ (red a b).2 ≤ b := ⟨Nat.div_le_self _ _, Nat.div_le_self _ _⟩
theorem red_dvd (a b : Nat) : (red a b).2 ∣ b := ⟨Nat.gcd a b, (red_snd a b).symm⟩
theorem cop_uniq {n m n' m' : Nat} (h1 : Nat.gcd n m = 1) (h2 : Nat.gcd n' m' = 1) (hm : 0 < m) (h : n * m' = n' * m) : n = n' ∧ m = m' := by
  have d1 : m ∣ m' := by
    have : m ∣ n * m' := ⟨n', by rw [h, Nat.mul_comm]⟩
    exact Nat.Coprime.dvd_of_dvd_mul_left (show Nat.Coprime m n by unfold Nat.Coprime; rw [Nat.gcd_comm]; exact h1) this
  have d2 : m' ∣ m := by
    have : m' ∣ n' * m := ⟨n, by rw [← h, Nat.mul_comm]⟩
    exact Nat.Coprime.dvd_of_dvd_mul_left (show Nat.Coprime m' n' by unfold Nat.Coprime; rw [Nat.gcd_comm]; exact h2) this
  have e := Nat.dvd_antisymm d1 d2
  subst e
  exact ⟨Nat.eq_of_mul_eq_mul_right hm h, rfl⟩
theorem red_eq {a b c d : Nat} (hb : 0 < b) (hd : 0 < d) (h : a * d = c * b) : red a b = red c d := by
  have e1 := red_cross a b
  have e2 := red_cross c d
  have p1 := red_pos (a := a) hb
  have p2 := red_pos (a := c) hd
  have key : (red a b).1 * (red c d).2 = (red c d).1 * (red a b).2 := by
    refine Nat.eq_of_mul_eq_mul_right (Nat.mul_pos hb hd) ?_
    calc (red a b).1 * (red c d).2 * (b * d) = ((red a b).1 * b) * (d * (red c d).2) := by ac_rfl
      _ = (a * (red a b).2) * (d * (red c d).2) := by rw [e1]
      _ = (a * d) * ((red a b).2 * (red c d).2) := by ac_rfl
      _ = (c * b) * ((red a b).2 * (red c d).2) := by rw [h]
      _ = (c * (red c d).2) * (b * (red a b).2) := by ac_rfl
      _ = ((red c d).1 * d) * (b * (red a b).2) := by rw [e2]
      _ = (red c d).1 * (red a b).2 * (b * d) := by ac_rfl
  obtain ⟨h1, h2⟩ := cop_uniq (red_cop hb) (red_cop hd) p1 key
  exact Prod.ext h1 h2
theorem red_zero {s : Nat} (h : 0 < s) : red 0 s = (0, 1) := by
  unfold red
  rw [Nat.gcd_zero_left, Nat.div_self h, Nat.zero_div]
theorem red_self {s : Nat} (h : 0 < s) : red s s = (1, 1) := by
  unfold red
  rw [Nat.gcd_self, Nat.div_self h]
theorem red_mul {a b d : Nat} (hb : 0 < b) (hd : 0 < d) : red (d * a) (d * b) = red a b := red_eq (Nat.mul_pos hd hb) hb (by ac_rfl)
/-- the sum of two, as it is reckoned -/
theorem red_plus {a b s : Nat} (hs : 0 < s) : red ((red a s).1 * (red b s).2 + (red b s).1 * (red a s).2) ((red a s).2 * (red b s).2) = red (a + b) s := by
  refine red_eq (Nat.mul_pos (red_pos hs) (red_pos hs)) hs ?_
  have e1 := red_cross a s
  have e2 := red_cross b s
  calc ((red a s).1 * (red b s).2 + (red b s).1 * (red a s).2) * s = ((red a s).1 * s) * (red b s).2 + ((red b s).1 * s) * (red a s).2 := by rw [Nat.add_mul]; ac_rfl
    _ = (a * (red a s).2) * (red b s).2 + (b * (red b s).2) * (red a s).2 := by rw [e1, e2]
    _ = (a + b) * ((red a s).2 * (red b s).2) := by rw [Nat.add_mul]; ac_rfl
/-- what divides all: the step of the least common multiple, as it is reckoned -/
def low (l : List Nat) (s : Nat) : Nat := l.foldl (fun b w => b * (red b (red w s).2).2) 1
theorem low_from {s : Nat} (hs : 0 < s) : ∀ (l : List Nat) (b : Nat), 0 < b → b ∣ s → let r := l.foldl (fun b w => b * (red b (red w s).2).2) b
    0 < r ∧ r ∣ s ∧ b ∣ r ∧ ∀ w ∈ l, (red w s).2 ∣ r
  | [], b, hb, hd => ⟨hb, hd, Nat.dvd_refl b, fun _ h => nomatch h⟩
  | w :: l, b, hb, hd => by
    have hq := red_pos (a := w) hs
    have hlcm : b * (red b (red w s).2).2 = Nat.lcm b (red w s).2 := by
      unfold red Nat.lcm
      exact (Nat.mul_div_assoc b (Nat.gcd_dvd_right b _)).symm
    have h1 : 0 < b * (red b (red w s).2).2 := Nat.mul_pos hb (red_pos hq)
    have h2 : b * (red b (red w s).2).2 ∣ s := by
      rw [hlcm]
      exact Nat.lcm_dvd hd (red_dvd w s)
    obtain ⟨g1, g2, g3, g4⟩ := low_from hs l _ h1 h2
    rw [List.foldl_cons]
    refine ⟨g1, g2, Nat.dvd_trans ⟨_, rfl⟩ g3, fun x hx => ?_⟩
    rcases List.mem_cons.mp hx with rfl | hx
    · refine Nat.dvd_trans ?_ g3
      rw [hlcm]
      exact Nat.dvd_lcm_right _ _
    · exact g4 x hx
theorem low_ok {s : Nat} (hs : 0 < s) (l : List Nat) : 0 < low l s ∧ low l s ∣ s ∧ ∀ w ∈ l, (red w s).2 ∣ low l s := by
  obtain ⟨a, b, _, c⟩ := low_from hs l 1 (by decide) (Nat.one_dvd s)
  exact ⟨a, b, c⟩
/-- the whole weights told from the odds, times what is left, are the weights -/
theorem low_weight {s w b : Nat} (hs : 0 < s) (hb : 0 < b) (h1 : b ∣ s) (h2 : (red w s).2 ∣ b) : w = (s / b) * ((red w s).1 * (b / (red w s).2)) := by
  obtain ⟨d, rfl⟩ := h1
  obtain ⟨e, he⟩ := h2
  have hd : 0 < d := by
    rcases Nat.eq_zero_or_pos d with z | z
    · rw [z, Nat.mul_zero] at hs
      omega
    · exact z
  have hq := red_pos (a := w) hs
  have c := red_cross w (b * d)
  rw [Nat.mul_div_cancel_left d hb]
  have e2 : b / (red w (b * d)).2 = e := by
    rw [Nat.div_eq_of_eq_mul_right hq]
    exact he
  rw [e2]
  refine Nat.eq_of_mul_eq_mul_right hq ?_
  rw [← c]
  calc (red w (b * d)).1 * (b * d) = (red w (b * d)).1 * (((red w (b * d)).2 * e) * d) := by rw [← he]
    _ = d * ((red w (b * d)).1 * e) * (red w (b * d)).2 := by ac_rfl
end Bs
set_option Elab.async false
set_option linter.all false
set_option maxRecDepth 100000
set_option maxHeartbeats 2000000
/-! rules that the layer lacks, 1: xs.extend(a tuple), enumerate(a tuple), max(d.values()) -/
namespace PySem.MyLow
open PySem PySem.AutoSeq1
theorem meets_extT (l : Addr) (items : Array Value) (n : Nat) (b : Addr) (items2 : Array Value) (n2 : Nat) (dd : Option Addr) (sl : Array (Option Value))
    (hs0 : ¬(!items.isEmpty && Builtin.List.listTooLong (items.size + items2.size)) = true) (hs1 : items.size ≤ sizeLine) (hs2 : items.size + items2.size ≤ sizeLine + 1) :
    Meets (Builtin.«list.extend» ⟨[.ref l, .ref b], []⟩) (fun _ R s => s.heap.get? l = some { cls := .type "list", dict := none, data := .seq items n, slots := #[] } ∧
      s.heap.get? b = some { cls := .type "tuple", dict := dd, data := .seq items2 n2, slots := sl } ∧
      R (.ok (.ret Value.none)) { s with heap := s.heap.update l (Obj.mapSeq fun x => x ++ items2), toks := s.toks }) :=
  .of_wp fun prog w A R s h => by
    obtain ⟨hp, g, d, tk, os⟩ := s
    obtain ⟨hl, hb, h⟩ := h
    have f1 := idx_int
    have f2 := sub_tuple_tuple
    have f3 := sub_list_list
    have f4 := sub_tuple_list
    have f5 := sub_list_tuple
    have hz' : (items ++ items2).size ≤ sizeLine + 1 := by
      rw [Array.size_append]
      exact hs2
    wp_walk using (wpAny_updateSeq hl rfl (hz := hs1) (_hz' := hz')), wpAny_loadPart' hl, wpAny_loadPart' hb
    exact ⟨_, rfl, h⟩
theorem meets_enumT (l : Addr) (items : Array Value) (n : Nat) (dct : Option Addr) (sl : Array (Option Value)) :
    Meets (Builtin.«enumerate.__new__» ⟨[.type "enumerate", .ref l], []⟩) (fun _ R s => s.heap.get? l = some { cls := .type "tuple", dict := dct, data := .seq items n, slots := sl } ∧
      R (.ok (.ret (.ref (s.heap.push { cls := .type "tuple_iterator", data := .fields #[.ref l, .int 0 0] }).objs.size)))
        { s with heap := (s.heap.push { cls := .type "tuple_iterator", data := .fields #[.ref l, .int 0 0] }).push { cls := .type "enumerate", data := .fields #[.none, .bool false, .ref s.heap.objs.size, rawInt 0, .none, .none] } }) :=
  .of_wp fun prog w A R s h => by
    obtain ⟨hp, g, d, tk, os⟩ := s
    obtain ⟨hl, h⟩ := h
    have hsub := sub_enumerate
    have hL : Heap.IsTuple (Shared.heap ⟨hp, g, d, tk, os⟩) l items := ⟨_, hl, rfl, n, rfl⟩
    wp_walk using wpAny_loadPart' hl
    refine wpAny_stack_any fun st => wpAny_pure ?_
    split
    · rename_i c _ _ _ _ _
      cases (c == Value.type "enumerate") <;> (wp_walk using wpAny_loadPart' hl, wpAny_pyIter_tuple hL; exact ⟨_, rfl, h⟩)
    · wp_walk using wpAny_loadPart' hl, wpAny_pyIter_tuple hL
      exact ⟨_, rfl, h⟩
/-- enumerate(t) begins -/
theorem call_enumT {prog : Program} {w : World} {A : Around} {E : Value → Shared → Prop} {s : Shared} {l : Addr} {items : Array Value} {Q : Value → Shared → Prop} (hL : s.heap.IsTuple l items)
    (h : ∀ h', IsEnum h' (s.heap.objs.size + 1) s.heap.objs.size 0 .none → h'.IsTupleIter s.heap.objs.size l 0 →
      (∀ b o, s.heap.get? b = some o → h'.get? b = some o) → Q (.ref (s.heap.objs.size + 1)) { s with heap := h' }) :
    wpAny (model prog w) A (call (.type "enumerate") [.ref l]) Q E s := by
  obtain ⟨⟨c, dct, dt, sl⟩, hl, hc, n, hd⟩ := hL
  replace hc : c = .type "tuple" := hc
  replace hd : dt = .seq items n := hd
  subst hc hd
  refine callType_new F.called_enumerate (by decide) (F.typeCall_enumerate_1 _) (F.newCall_enumerate_1 _) (fun obj => F.args_object_init_2 obj _) F.entry_enumerate_new (meets_enumT l items n dct sl) ⟨hl, ?_⟩
  generalize hi : ({ cls := .type "tuple_iterator", data := .fields #[.ref l, .int 0 0] } : Obj) = oi
  generalize he : ({ cls := .type "enumerate", data := .fields #[.none, .bool false, .ref s.heap.objs.size, rawInt 0, .none, .none] } : Obj) = oe
  have hz : (s.heap.push oi).objs.size = s.heap.objs.size + 1 := Heap.size_push ..
  have fi : oi.isFreed = false := by rw [← hi]; rfl
  have fe : oe.isFreed = false := by rw [← he]; rfl
  have ge : ((s.heap.push oi).push oe).get? (s.heap.objs.size + 1) = some oe := by
    rw [← hz]
    exact Heap.get?_push_size _ fe
  show _ ∧ _
  rw [hz]
  refine ⟨⟨_, ge, by rw [← he]⟩, h _ (by rw [← he] at ge ⊢; exact ge) ⟨oi, Heap.get?_push_of_some _ (Heap.get?_push_size _ fi), by rw [← hi], by rw [← hi]; rfl⟩ fun b o x => Heap.get?_push_of_some _ (Heap.get?_push_of_some _ x)⟩
end PySem.MyLow
namespace My
open PySem PySem.Spec PyProof.Rows L2
section
variable {X : Cx}
/-- l.extend(t), t a tuple -/
def rExtT : V → List V → Hp → VK → Prop := fun x vs H Q =>
  ∃ l b xs zs, x = .ref l ∧ vs = [.ref b] ∧ H l = some (.lst xs) ∧ H b = some (.tup zs) ∧ xs.length + zs.length ≤ sizeLine ∧ Q .non (upd H l (.lst (xs ++ zs)))
theorem mt_extT : MtM X "list.extend" rExtT := by
  intro pins s σ H x vs v us Q I rx rv h
  obtain ⟨l, b, xs, zs, rfl, rfl, hH, hB, hz, q⟩ := h
  cases rx
  obtain ⟨u, rfl, ru⟩ := rv.one
  cases ru
  obtain ⟨z, its, n, r, hl, e⟩ := I.lstM hH
  obtain ⟨its2, r2, ⟨⟨c2, dd, dt2, sl⟩, e2, hc2, n2, hd2⟩, z2⟩ := I.tuple (SqT.of (K := X.K) hB)
  replace hc2 : c2 = .type "tuple" := hc2
  replace hd2 : dt2 = .seq its2.toArray n2 := hd2
  subst hc2 hd2
  have hl2 := r2.length
  have hsz : its.toArray.size + its2.toArray.size ≤ sizeLine := by
    rw [List.size_toArray, List.size_toArray]
    omega
  have hlong : ¬ (!its.toArray.isEmpty && Builtin.List.listTooLong (its.toArray.size + its2.toArray.size)) = true := by
    rw [notLongL hsz, Bool.and_false]
    exact Bool.false_ne_true
  refine call_meets F.slot_list_extend ⟨_, e, rfl⟩ F.entry_list_extend (F.args_list_extend_2 _ _) (PySem.MyLow.meets_extT l its.toArray n b its2.toArray n2 dd sl hlong (by omega) (by omega)) ⟨e, e2, ?_⟩
  refine ⟨.non, _, I.lset (its' := its ++ its2) hH e (by simp) (r.append r2) ?_, rfl, q⟩
  rw [List.length_append]
  omega

/-! ### enumerate(t) -/
def IteT (K : PySem.W.Frag) (a : Addr) : It :=
  ⟨fun i H => ∃ (xs : List V) (x : V), SqT K H a xs ∧ xs[i]? = some x,
   fun i H v H' => ∃ T x, v = .ref T ∧ H T = none ∧ H' = upd H T (.tup [.int (i : Nat), x]) ∧ ∀ xs, SqT K H a xs → xs[i]? = some x,
   fun i H => ∃ xs : List V, SqT K H a xs ∧ xs.length = i⟩
theorem walk_enumT {K : PySem.W.Frag} {a : Addr} {xs : List V} : Walk (IteT K a) xs.length (fun H => SqT K H a xs) (YPair (fun i => some (.int (i : Nat))) (fun i => xs[i]?)) := by
  refine ⟨fun i _ hi q => ⟨xs, xs[i], q, by simp [hi]⟩, fun _ q => ⟨xs, q, rfl⟩, fun i H v H' _ q y => ?_⟩
  obtain ⟨T, x, h1, h2, h3, h4⟩ := y
  exact ⟨T, .int (i : Nat), x, h1, h2, h3, rfl, h4 xs q⟩
theorem turn_enumT {P : Program} {w : World} {K : PySem.W.Frag} {elts : List Expr} {kk : Nat} {tpos : Pos} (a e it : Addr) :
    Turn P w K (.Tuple elts kk tpos) (IteT K a) [e, it] e (fun i h => (∃ old, IsEnum h e it ((i : Nat) : Int) old) ∧ h.IsTupleIter it a i ∧ e ≠ it ∧ a ≠ e ∧ a ≠ it) where
  mem := List.mem_cons_self
  obj := fun i h st b hb => by
    obtain ⟨⟨old, he⟩, ⟨o, ho, hc, hd⟩, _⟩ := st
    rcases List.mem_cons.mp hb with z | hb
    · rw [z]
      exact ⟨_, he, fun v q => nomatch q⟩
    · rw [List.mem_singleton.mp hb]
      refine ⟨o, ho, fun v q => ?_⟩
      rw [hd] at q
      cases q
  keep := fun i h h' st k => by
    obtain ⟨⟨old, he⟩, hi, hne⟩ := st
    exact ⟨⟨old, k e List.mem_cons_self _ he⟩, hi.at fun o q => k it (by simp) o q, hne⟩
  item := by
    intro X hP hw hK hc i pins s σ H E I hf st hg
    subst hP hw hK
    obtain ⟨⟨old, he⟩, hit, hne, hae, hai⟩ := st
    obtain ⟨xs, x, hq, hx⟩ := hg
    obtain ⟨its, rv, p, hz⟩ := I.tuple hq
    obtain ⟨u, hu, ru⟩ := rv.get hx
    have hel : e < s.heap.objs.size := Heap.lt_size he
    have hil : it < s.heap.objs.size := by
      obtain ⟨_, q, _⟩ := hit
      exact Heap.lt_size q
    have D := Draws.tuple (prog := X.prog) (w := X.w) (A := X.A.in1) (I.ok.hd hc) it a hai its.toArray
    have hin : i < its.toArray.size := by
      rw [List.size_toArray]
      exact (List.getElem?_eq_some_iff.mp hu).1
    refine wpAny_pyNext_enum_itemD D he ⟨hit, p⟩ hin hne (by simp [hne, Ne.symm hae]) fun y h' tk hy ho hst hT hsz hk => ?_
    have ey : y = u := by
      have h2 : its.toArray[i]? = some u := by simpa using hu
      exact Option.some.inj (hy.symm.trans h2)
    subst ey
    refine ⟨_, rfl, wpAny_letOwnedTupleGo_enum (s := { s with heap := h', toks := tk + 1 }) ho fun h'' he' sb => ?_⟩
    have hT2 : h''.get? s.heap.objs.size = some { cls := .type "tuple", data := .seq #[.int i tk, y] } := (sb.2 _ (Nat.ne_of_gt hel)).trans hT
    have new : ObjOk X.prog X.w (upd H s.heap.objs.size (.tup [.int (i : Nat), x])) h'' s.heap.objs.size (.tup [.int (i : Nat), x]) :=
      ⟨by show 2 ≤ sizeLine; decide, [.int i tk, y], .cons ⟨_, rfl⟩ (.cons ru .nil), ⟨_, hT2, rfl, _, rfl⟩⟩
    have I1 : Inv X pins σ (upd H s.heap.objs.size (.tup [.int (i : Nat), x])) { s with heap := h'', toks := tk + 1 } :=
      I.turnedNew (ch := [e, it]) (fun b ob hb q => (sb.2 b (fun z => hb (by simp [z]))).trans (hk b ob (fun z => hb (by simp [z])) (fun z => hb (by simp [z])) q)) hf (Nat.le_refl _) new
    have hin2 : h''.IsTupleIter it a (i + 1) := hst.1.at fun o q => (sb.2 it (Ne.symm hne)).trans q
    refine ⟨.ref s.heap.objs.size, _, I1, rfl, ⟨_, x, rfl, I.hok.fresh (Nat.le_refl _), rfl, fun ys hy => by rw [I.tuple_inj hy hq]; exact hx⟩, ⟨⟨y, ?_⟩, hin2, hne, hae, hai⟩, fun b hb => ?_⟩
    · have e1 : ((i + 1 : Nat) : Int) = (i : Int) + 1 := by omega
      rw [e1]
      exact he'
    · have hb' : b < s.heap.objs.size := by
        rcases List.mem_cons.mp hb with z | hb
        · rw [z]
          exact hel
        · rw [List.mem_singleton.mp hb]
          exact hil
      rw [upd_ne (Nat.ne_of_lt hb')]
      exact (hf b hb).1
  done := by
    intro X hP hw hK hc i pins s σ H E I hf st hg
    subst hP hw hK
    obtain ⟨⟨old, he⟩, hit, hne, hae, hai⟩ := st
    obtain ⟨xs, hq, hx⟩ := hg
    obtain ⟨its, rv, p, hz⟩ := I.tuple hq
    obtain ⟨f0, f1, f2, f3, f4, f5⟩ := hf it (by simp)
    have hl := rv.length
    have D := Draws.tuple (prog := X.prog) (w := X.w) (A := X.A.in1) (I.ok.hd hc) it a hai its.toArray
    have ei : i = its.toArray.size := by
      rw [List.size_toArray]
      omega
    rw [ei] at he hit
    refine wpAny_pyNext_enum_endD D he ⟨hit, p⟩ fun h' eb => ⟨rfl, I.turned (t' := s.toks) (fun b o hb q => eb b o hb q) f0 f1 f3 f4 f5⟩
  self := fun A i s Q E st h => by
    obtain ⟨⟨_, he⟩, _⟩ := st
    exact wpAny_pyIter_enum he h
def iEnumT (K : PySem.W.Frag) (ta : TA) : TI := fun σ H R => ta σ H fun vs H1 => ∃ a xs, vs = [.ref a] ∧ SqT K H1 a xs ∧ R (IteT K a) H1
theorem pi_enumT {e : Expr} {ta : TA} {p pos tpos : Pos} {elts : List Expr} {kk : Nat} (hg : Gl X "enumerate") (hm : X.mg "enumerate" = none) (ha : PA X [e] ta) (hs : starEach [e] X.env = [(false, eval e X.env)] := by rfl) :
    PI X (.Tuple elts kk tpos) (.Call (.Name "enumerate" p) [e] [] pos) (iEnumT X.K ta) := by
  refine ⟨fun pins s σ H R I h => ?_⟩
  refine Call_ (ld_blt I hg hm boot_enumerate (PyProof.Rows.callWith_type1 (thn (ha.run pos pins s σ H _ I h) fun us s1 ⟨vs, H1, I1, r1, q1⟩ => ?_) hs rfl))
  obtain ⟨a, xs, ex, hq, q⟩ := q1
  subst ex
  obtain ⟨u, rfl, ru⟩ := r1.one
  cases ru
  obtain ⟨its, rv, p', hz⟩ := I1.tuple hq
  have hlt : a < s1.heap.objs.size := p'.lt
  refine PySem.MyLow.call_enumT p' fun h' he hit hk => wpAny_pyIter_enum he ?_
  refine ⟨s1.heap.objs.size + 1, [s1.heap.objs.size + 1, s1.heap.objs.size], _, _, H1, rfl, I1.kept (t' := s1.toks) hk, turn_enumT a (s1.heap.objs.size + 1) s1.heap.objs.size,
    ⟨⟨.none, he⟩, hit, Nat.succ_ne_self _, Nat.ne_of_lt (Nat.lt_succ_of_lt hlt), Nat.ne_of_lt hlt⟩, fun b hb => ?_, q⟩
  have hle : s1.heap.objs.size ≤ b := by
    rcases List.mem_cons.mp hb with z | hb
    · rw [z]
      exact Nat.le_add_right _ _
    · rw [List.mem_singleton.mp hb]
      exact Nat.le_refl _
  exact I1.fpOk hle (I1.hok.fresh hle)
end
/-! ### max(d.values()) -/
section
variable {X : Cx} {o : Expr} {p pos apos mpos : Pos} {td : TE}
def tMaxVals (td : TE) : TE := fun σ H Q => td σ H fun x H1 => ∃ a kvs is, x = V.ref a ∧ H1 a = some (.dK kvs) ∧ kvs.map (·.2) = is.map V.int ∧ is ≠ [] ∧ ∀ m, m ∈ is → (∀ j ∈ is, j ≤ m) → Q (.int m) H1
theorem pe_maxVals (hc : X.calm = true) (hg : Gl X "max") (hm : X.mg "max" = none) (hd : PE X o td) (hbase : attributeBase o "values" X.env (eval o X.env) = eval o X.env := by rfl) (hline : (apos.endLine == mpos.line) = true := by rfl)
    (hse : starEach [Expr.Call (.Attribute o "values" apos) [] [] mpos] X.env = [(false, eval (Expr.Call (.Attribute o "values" apos) [] [] mpos) X.env)] := by rfl) :
    PE X (.Call (.Name "max" p) [.Call (.Attribute o "values" apos) [] [] mpos] [] pos) (tMaxVals td) := by
  refine ⟨fun pins s σ H Q I h => ?_⟩
  refine wpAny_Call_Name_kw (ld_blt I hg hm (u := .builtin "max") (by first | rfl | decide +kernel) ?_ (by first | decide +kernel | decide) (by first | decide +kernel | decide))
  rw [hse]
  refine PySem.callWith_builtin1 (wpAny_Call_method0_late hbase hline (thn (hd.run pins s σ H _ I h) fun v s1 ⟨x, H1, I1, r1, a, kvs, is, ex, ha, hv, hne, q⟩ => ?_))
  subst ex
  obtain rfl : v = Value.ref a := r1
  obtain ⟨_, hsys, vs, rel, dof⟩ := dk_of I1.hok ha
  obtain ⟨ep, dat⟩ := dof.dictAt
  obtain ⟨ob, es, ho, exd, _⟩ := id dat
  refine ⟨"dict", "dict.values", F.plainAttrs_dict, F.slot_dict_values, F.type_dict_values, ⟨ob, ho, exd.1⟩, fun b e => ?_, Calls.callWith_builtin rfl (PySem.evalArgs_none ?_)⟩
  · cases e
    exact ⟨ob, ho, exd.2.1⟩
  refine call_meetsIn F.slot_dict_values ⟨ob, ho, exd.1⟩ F.entry_dict_values (F.args_dict_values_1 _) (meets_dict_values (mixKind X.prog X.w) a hsys) ⟨⟨vs, dof⟩, ?_⟩
  generalize hw : ({ cls := .type "dict_values", data := .fields #[.ref a] } : Obj) = wo
  have fw : wo.isFreed = false := by rw [← hw]; rfl
  have k1 : ∀ b u, s1.heap.get? b = some u → (s1.heap.push wo).get? b = some u := fun b u e => Heap.get?_push_of_some _ e
  have dat1 : (s1.heap.push wo).DictAt (mixKind X.prog X.w) a vs ep := dat.keep k1
  have hlv : vs.length = is.length := by
    have e1 := congrArg List.length hv
    rw [List.length_map, List.length_map] at e1
    rw [← e1]
    exact (KV.length rel).symm
  have hlen : 0 < vs.length := by
    rw [hlv]
    exact List.length_pos_iff.mpr hne
  have hval : ∀ (i : Nat) (v : Value), (∃ k, vs[i]? = some (k, v)) → ∃ t, v = Value.int (is.getD i 0) t := fun i v ⟨k, hk⟩ => by
    obtain ⟨x, h1, h2⟩ := KV.at' rel hk
    have e1 : (kvs.map (·.2))[i]? = some x := by
      rw [List.getElem?_map, h1]
      rfl
    rw [hv, List.getElem?_map] at e1
    obtain ⟨j, hj, e2⟩ := Option.map_eq_some_iff.mp e1
    subst e2
    obtain ⟨t, e3⟩ := h2
    refine ⟨t, ?_⟩
    rw [e3, List.getD_eq_getElem?_getD, hj]
    rfl
  generalize hvw : s1.heap.push wo = hp2 at k1 dat1 ⊢
  have gv : hp2.get? s1.heap.objs.size = some wo := by
    rw [← hvw]
    exact Heap.get?_push_size _ fw
  have hsz : hp2.objs.size = s1.heap.objs.size + 1 := by
    rw [← hvw]
    exact Heap.size_push _ _
  have hlt : a < s1.heap.objs.size := Heap.lt_size ho
  refine call_max_walk (wpAny_pyIter_values (v := s1.heap.objs.size) (d := a) ⟨_, gv, by rw [← hw], by rw [← hw]⟩ dat1 ?_)
  refine ⟨_, _, _, _, _, _, _, rfl, Walks.dictValues (knd := mixKind X.prog X.w) (A := X.A.in1) (I.ok.hd hc) hp2.objs.size a (by rw [hsz]; exact Nat.ne_of_lt (Nat.lt_succ_of_lt hlt)) vs ep,
    ⟨⟨_, Heap.get?_push_size _ rfl, rfl, rfl⟩, dat1.keep fun b u e => Heap.get?_push_of_some _ e⟩, fun b hb => ?_, hlen, CmpOf.ints_gt (fun i => is.getD i 0) hval, fun v h' tk hP hk => ?_⟩
  · show b < (hp2.push _).objs.size
    rw [Heap.size_push]
    rcases List.mem_cons.mp hb with e | hb
    · rw [e]
      exact Nat.lt_succ_self _
    · rw [List.mem_singleton.mp hb, hsz]
      exact Nat.lt_succ_of_lt (Nat.lt_succ_of_lt hlt)
  · obtain ⟨t, rfl⟩ := hval _ v hP
    obtain ⟨b1, b2⟩ := argBest_gt (fun i => is.getD i 0) (vs.length - 1)
    refine ⟨.int _, H1, I1.kept (t' := tk) fun b u e => hk b u (fun hmem => ?_) (Heap.get?_push_of_some _ (k1 b u e)), ⟨t, rfl⟩, q _ ?_ fun j hj => ?_⟩
    · have e1 : b = hp2.objs.size := List.mem_singleton.mp hmem
      have e2 := Heap.lt_size e
      rw [e1, hsz] at e2
      exact absurd e2 (Nat.not_lt.mpr (Nat.le_succ _))
    · have hb : argBest (fun i j => decide (is.getD i 0 > is.getD j 0)) (vs.length - 1) < is.length := by omega
      rw [List.getD_eq_getElem?_getD, List.getElem?_eq_getElem hb]
      exact List.getElem_mem hb
    · obtain ⟨i, hi, e⟩ := List.mem_iff_getElem.mp hj
      have e2 : is.getD i 0 = j := by
        rw [List.getD_eq_getElem?_getD, List.getElem?_eq_getElem hi, ← e]
        rfl
      rw [← e2]
      exact b2 i (by omega)
end
end My
set_option Elab.async false
set_option linter.all false
set_option maxRecDepth 100000
set_option maxHeartbeats 2000000
/-! rules that the layer lacks, 2: a dict whose keys are (int, tuple of ints, tuple of ints), its values ints -/
namespace My
open PySem PySem.Spec PyProof.Rows L2
abbrev NK := Nat × List Nat × List Nat
def nI (l : List Nat) : List V := l.map fun (n : Nat) => V.int (n : Int)
def numK (l : List Nat) : NestedKey := .tup (l.map fun (n : Nat) => .num (n : Int))
def nkey (k : NK) : NestedKey := .tup [.num (k.1 : Int), numK k.2.1, numK k.2.2]
/-- at b stands the key k -/
def KeyAt (H : Hp) (b : Addr) (k : NK) : Prop := ∃ n f, H b = some (.tup [.int (k.1 : Int), .ref n, .ref f]) ∧ H n = some (.tup (nI k.2.1)) ∧ H f = some (.tup (nI k.2.2))
theorem nums_inj : ∀ {l m : List Nat}, (l.map fun (n : Nat) => NestedKey.num (n : Int)) = (m.map fun (n : Nat) => NestedKey.num (n : Int)) → l = m
  | [], [], _ => rfl
  | [], _ :: _, h => by simp at h
  | _ :: _, [], h => by simp at h
  | a :: l, b :: m, h => by
    rw [List.map_cons, List.map_cons] at h
    injection h with h1 h2
    injection h1 with h3
    have : a = b := Int.ofNat.inj h3
    rw [this, nums_inj h2]
theorem nkey_inj {k k' : NK} (h : nkey k = nkey k') : k = k' := by
  obtain ⟨a, b, c⟩ := k
  obtain ⟨a', b', c'⟩ := k'
  unfold nkey at h
  injection h with h
  injection h with h1 h
  injection h with h2 h
  injection h with h3 _
  injection h1 with h1
  have e1 : a = a' := Int.ofNat.inj h1
  unfold numK at h2 h3
  injection h2 with h2
  injection h3 with h3
  have e2 := nums_inj h2
  have e3 := nums_inj h3
  simp only at e2 e3
  rw [e1, e2, e3]
section
variable {P : Program} {w : World} {H H' : Hp} {h : Heap} {a b d : Addr} {k : NK}
theorem nums_all : ∀ {l : List Nat} {its : List Value}, Vals (nI l) its → NestedAll h (l.map fun (n : Nat) => NestedKey.num (n : Int)) its
  | [], _, r => by
    cases r
    exact .nil
  | n :: l, _, r => by
    unfold nI at r
    rw [List.map_cons] at r
    cases r with
    | cons r1 r2 =>
      obtain ⟨t, rfl⟩ := r1
      exact .cons (.int _ t) (nums_all r2)
theorem nums_is {l : List Nat} (ok : HOk P w H h) (e : H a = some (.tup (nI l))) : NestedIs h (numK l) (.ref a) := by
  obtain ⟨_, its, r, o, h1, h2, n, h3⟩ := ok a _ e
  exact .tup h1 h2 h3 (nums_all r)
theorem depth_nums : ∀ l : List Nat, NestedKey.depthAll (l.map fun (n : Nat) => NestedKey.num (n : Int)) = 0
  | [] => rfl
  | n :: l => by
    rw [List.map_cons, NestedKey.depthAll, depth_nums l]
    rfl
theorem nkey_depth (k : NK) : (nkey k).depth ≤ 8 := by
  unfold nkey numK
  simp only [NestedKey.depth, NestedKey.depthAll, depth_nums]
  omega
theorem key_is (ok : HOk P w H h) (kk : KeyAt H b k) : (nestedKind P w).is h (nkey k) b := by
  obtain ⟨n, f, e1, e2, e3⟩ := kk
  obtain ⟨_, its, r, o, h1, h2, m, h3⟩ := ok b _ e1
  refine ⟨.tup h1 h2 h3 ?_, nkey_depth k⟩
  have i2 := nums_is ok e2
  have i3 := nums_is ok e3
  show NestedAll h _ its
  cases r with
  | cons r1 r =>
    cases r with
    | cons r2 r =>
      cases r with
      | cons r3 r =>
        cases r
        obtain ⟨t, rfl⟩ := r1
        cases r2
        cases r3
        exact .cons (.int _ t) (.cons i2 (.cons i3 .nil))
/-- the entries' object -/
def RawD (P : Program) (w : World) (d : Addr) (xs : List (NestedKey × Addr × Value)) (h : Heap) : Prop :=
  ∃ o es ep, h.get? d = some o ∧ o.ExactDict ∧ o.data = .dict es ep ∧ es.toList = xs.map (entryOfKey (nestedKind P w)) ∧ (xs.map (·.1)).Nodup
/-- at d stands a dict of such keys, its entries xs; each entry is good -/
def NDx (P : Program) (w : World) (Good : NK → Nat → Prop) (H : Hp) (d : Addr) (xs : List (NestedKey × Addr × Value)) : Prop :=
  (d == sysModules) = false ∧ H d = some (.ext (RawD P w d xs)) ∧ ∀ x ∈ xs, ∃ (k : NK) (v : Nat) (t : Tok), x.1 = nkey k ∧ KeyAt H x.2.1 k ∧ x.2.2 = .int (v : Int) t ∧ Good k v
def ND (P : Program) (w : World) (Good : NK → Nat → Prop) (H : Hp) (d : Addr) : Prop := ∃ xs, NDx P w Good H d xs
def Has (P : Program) (w : World) (Good : NK → Nat → Prop) (H : Hp) (d : Addr) (k : NK) : Prop := ∃ xs, NDx P w Good H d xs ∧ (atKey xs (nkey k)).isSome = true
variable {Good : NK → Nat → Prop}
theorem KeyAt.keep (x : KeyAt H b k) (ht : ∀ b ys, H b = some (.tup ys) → H' b = some (.tup ys)) : KeyAt H' b k := by
  obtain ⟨n, f, k1, k2, k3⟩ := x
  exact ⟨n, f, ht _ _ k1, ht _ _ k2, ht _ _ k3⟩
theorem NDx.keep {xs : List (NestedKey × Addr × Value)} (x : NDx P w Good H d xs) (hd : H' d = H d) (ht : ∀ b ys, H b = some (.tup ys) → H' b = some (.tup ys)) : NDx P w Good H' d xs := by
  obtain ⟨s, e, g⟩ := x
  refine ⟨s, hd.trans e, fun y hy => ?_⟩
  obtain ⟨k, v, t, h1, h2, h3, h4⟩ := g y hy
  exact ⟨k, v, t, h1, h2.keep ht, h3, h4⟩
theorem ND.keep (x : ND P w Good H d) (hd : H' d = H d) (ht : ∀ b ys, H b = some (.tup ys) → H' b = some (.tup ys)) : ND P w Good H' d := by
  obtain ⟨xs, x⟩ := x
  exact ⟨xs, x.keep hd ht⟩
theorem ND.some (x : ND P w Good H d) : ∃ f, H d = some (.ext f) := by
  obtain ⟨xs, _, e, _⟩ := x
  exact ⟨_, e⟩
theorem raw_dict {xs : List (NestedKey × Addr × Value)} (ok : HOk P w H h) (e : H d = some (.ext (RawD P w d xs))) (g : ∀ x ∈ xs, ∃ (k : NK) (v : Nat) (t : Tok), x.1 = nkey k ∧ KeyAt H x.2.1 k ∧ x.2.2 = .int (v : Int) t ∧ Good k v) :
    h.DictOfH (nestedKind P w) d xs := by
  obtain ⟨⟨o, es, ep, h1, h2, h3, h4, h5⟩, _⟩ := (show ObjOk P w H h d (.ext (RawD P w d xs)) from ok d _ e)
  refine ⟨o, es, ep, h1, h2, h3, h4, fun x hx => ?_, h5⟩
  obtain ⟨k, v, t, e1, kk, _⟩ := g x hx
  rw [e1]
  exact key_is ok kk
theorem raw_ok {xs : List (NestedKey × Addr × Value)} (r : RawD P w d xs h) : ObjOk P w H h d (.ext (RawD P w d xs)) := by
  obtain ⟨o, es, ep, h1, r⟩ := r
  refine ⟨⟨o, es, ep, h1, r⟩, ⟨o, h1⟩, fun h2 h3 q st => ?_⟩
  obtain ⟨o, es, ep, h1, r⟩ := q
  exact ⟨o, es, ep, st o h1, r⟩
theorem find_some {xs : List (NestedKey × Addr × Value)} {q : NestedKey} {p : Addr × Value} (h : atKey xs q = some p) : ∃ x ∈ xs, x.1 = q ∧ x.2 = p := by
  unfold atKey at h
  obtain ⟨x, hx, e⟩ := Option.map_eq_some_iff.mp h
  exact ⟨x, List.mem_of_find?_eq_some hx, by simpa using List.find?_some hx, e⟩
theorem nodup_len {α : Type} [DecidableEq α] : ∀ {l m : List α}, l.Nodup → (∀ x ∈ l, x ∈ m) → l.length ≤ m.length
  | [], m, _, _ => Nat.zero_le _
  | a :: l, m, nd, h => by
    obtain ⟨h1, h2⟩ := List.nodup_cons.mp nd
    have ha := h a List.mem_cons_self
    have := nodup_len (l := l) (m := m.erase a) h2 fun x hx => by
      have ne : x ≠ a := fun e => h1 (by rw [← e]; exact hx)
      exact (List.mem_erase_of_ne ne).mpr (h x (List.mem_cons_of_mem _ hx))
    rw [List.length_erase_of_mem ha] at this
    have hp : 0 < m.length := List.length_pos_of_mem ha
    rw [List.length_cons]
    omega
end
section
variable {X : Cx} {o i e value : Expr} {pos pos' tpos : Pos} {td ty tv : TE} {Good : NK → Nat → Prop}
/-- {} for such keys -/
def tNNew (P : Program) (w : World) (Good : NK → Nat → Prop) : TE := fun _ H Q => ∀ p H', H p = none → (∀ b, b ≠ p → H' b = H b) → ND P w Good H' p → Q (.ref p) H'
theorem pe_nnew : PE X (.Dict [] [] pos) (tNNew X.prog X.w Good) := by
  refine ⟨fun pins s σ H Q I h => wpAny_Dict_empty ?_⟩
  have hn : H s.heap.objs.size = none := I.hok.fresh (Nat.le_refl _)
  have raw : RawD X.prog X.w s.heap.objs.size [] (s.heap.push { cls := .type "dict", data := .dict #[] }) :=
    ⟨_, #[], 0, Heap.get?_push_size _ rfl, ⟨rfl, rfl, rfl⟩, rfl, rfl, List.nodup_nil⟩
  have I1 := I.laid (a := s.heap.objs.size) (o := .ext (RawD X.prog X.w s.heap.objs.size [])) (t' := s.toks) (fun _ _ q => Heap.get?_push_of_some _ q) (Nat.le_refl _) (raw_ok raw)
  refine ⟨.ref s.heap.objs.size, _, I1, rfl, h _ _ hn (fun b hb => upd_ne hb) ⟨[], ?_, upd_same, fun x hx => nomatch hx⟩⟩
  have := I.big
  exact beq_false_of_ne (Nat.ne_of_gt this)
/-- k in d -/
def tNIn (P : Program) (w : World) (Good : NK → Nat → Prop) (ty td : TE) : TE := fun σ H Q => ty σ H fun y H1 => td σ H1 fun x H2 => ∃ b d k, y = .ref b ∧ x = .ref d ∧ KeyAt H2 b k ∧ ND P w Good H2 d ∧
  ∀ c : Bool, (c = true → Has P w Good H2 d k) → Q (.bl c) H2
theorem pc_nin (hu : X.A.units + 64 < cLine) (hi : PE X i ty) (ho : PE X o td) : PC X .In i o (tNIn X.prog X.w Good ty td) := by
  refine ⟨fun pins s σ H Q I h => ?_⟩
  refine thn (hi.run pins s σ H _ I h) fun iv s1 ⟨y, H1, I1, ry, q1⟩ => thn (ho.run pins s1 σ H1 _ I1 q1) fun u s2 ⟨x, H2, I2, rx, b, d, k, ey, ex, kk, ⟨xs, hs, e, g⟩, q2⟩ => ?_
  subst ex ey
  obtain rfl : u = Value.ref d := rx
  obtain rfl : iv = Value.ref b := ry
  have hroom : (nestedKind X.prog X.w).room X.A.in1 := by
    show X.A.units + 1 + 8 < cLine
    omega
  refine wpAny_in_heap hroom (key_is I2.hok kk) hs (raw_dict I2.hok e g) ?_
  exact ⟨.bl _, H2, I2.tok _, rfl, q2 _ fun hc => ⟨xs, ⟨hs, e, g⟩, hc⟩⟩
/-- d[k], there -/
def tNGet (P : Program) (w : World) (Good : NK → Nat → Prop) (td ty : TE) : TE := fun σ H Q => td σ H fun x H1 => ty σ H1 fun y H2 => ∃ b d k, y = .ref b ∧ x = .ref d ∧ KeyAt H2 b k ∧ Has P w Good H2 d k ∧
  ∀ v : Nat, Good k v → Q (.int (v : Int)) H2
theorem pe_nget (hu : X.A.units + 64 < cLine) (ho : PE X o td) (hi : PE X i ty) (hs : NoSl i) : PE X (.Subscript o i pos) (tNGet X.prog X.w Good td ty) := by
  refine ⟨fun pins s σ H Q I h => ?_⟩
  refine subD_of PySem.F.slot_dict_getitem.lookup hs (thn (ho.run pins s σ H _ I h) fun u s1 ⟨x, H1, I1, rx, q1⟩ => thn (hi.run pins s1 σ H1 _ I1 q1) fun iv s2 ⟨y, H2, I2, ry, b, d, k, ey, ex, kk, ⟨xs, ⟨_, e, g⟩, hk⟩, q2⟩ => ?_)
  subst ex ey
  obtain rfl : u = Value.ref d := rx
  obtain rfl : iv = Value.ref b := ry
  have hroom : (nestedKind X.prog X.w).room X.A.in1 := by
    show X.A.units + 1 + 8 < cLine
    omega
  have dd := raw_dict I2.hok e g
  obtain ⟨p, hp⟩ := Option.isSome_iff_exists.mp hk
  obtain ⟨x, hx, e1, e2⟩ := find_some hp
  obtain ⟨k', v, t, g1, g2, g3, g4⟩ := g x hx
  have ek : k' = k := nkey_inj (g1.symm.trans e1)
  subst ek
  refine ⟨dd.typeIs, wpAny_getItem_heap hroom (key_is I2.hok kk) dd hp ⟨.int (v : Int), H2, I2.tok _, ?_, q2 v g4⟩⟩
  rw [← e2, g3]
  exact ⟨t, rfl⟩
/-- d[k] = v -/
def sNPut (P : Program) (w : World) (Good : NK → Nat → Prop) (td ty tv : TE) : TS := fun D σ H => tv σ H fun y0 H1 => td σ H1 fun x H2 => ty σ H2 fun y H3 => ∃ b d k v, y = .ref b ∧ x = .ref d ∧ y0 = .int ((v : Nat) : Int) ∧
  KeyAt H3 b k ∧ ND P w Good H3 d ∧ Good k v ∧ (∃ dom : List NK, dom.length ≤ 1000000 ∧ ∀ k v, Good k v → k ∈ dom) ∧ ∀ H', (∀ b, b ≠ d → H' b = H3 b) → ND P w Good H' d → D.nx σ H'
theorem ps_nput (hu : X.A.units + 64 < cLine) (ho : PE X o td) (hi : PE X i ty) (hv : PE X value tv) (hs : swapsWith value (some (.Subscript o i pos')) pos.line X.env = pure false) :
    PS X (.Assign [.Subscript o i pos'] value pos) (sNPut X.prog X.w Good td ty tv) := by
  refine ⟨fun pins s σ H D I h => ?_⟩
  refine wpAny_Assign_Subscript (thn (hv.run pins s σ H _ I h) fun r s1 ⟨y0, H1, I1, rv, q1⟩ => thn (ho.run pins s1 σ H1 _ I1 q1) fun u s2 ⟨x, H2, I2, rx, q2⟩ => thn (hi.run pins s2 σ H2 _ I2 q2) fun iv s3 ⟨y, H3, I3, ry, b, d, k, v, ey, ex, e0, kk, ⟨xs, hsy, e, g⟩, gk, ⟨dom, hdom, hin⟩, q3⟩ => ?_) hs
  subst ex ey e0
  obtain rfl : u = Value.ref d := rx
  obtain rfl : iv = Value.ref b := ry
  obtain ⟨t, rfl⟩ : ∃ t, r = Value.int (v : Int) t := rv
  have hroom : (nestedKind X.prog X.w).room X.A.in1 := by
    show X.A.units + 1 + 8 < cLine
    omega
  have dd := raw_dict I3.hok e g
  have hlen : xs.length ≤ sizeLine := by
    obtain ⟨_, _, _, _, _, _, _, _, nd⟩ := id dd
    have h1 := nodup_len (m := dom.map nkey) nd fun z hz => by
      obtain ⟨x, hx, rfl⟩ := List.mem_map.mp hz
      obtain ⟨k', v', _, g1, _, _, g4⟩ := g x hx
      rw [g1]
      exact List.mem_map.mpr ⟨k', hin _ _ g4, rfl⟩
    rw [List.length_map, List.length_map] at h1
    exact Nat.le_trans h1 (Nat.le_trans hdom (by decide))
  refine wpAny_setItem_heap (hsz := hlen) hroom (key_is I3.hok kk) dd fun h' dd' sb => ?_
  obtain ⟨q, es, ep, hq, h2, h3, h4, _, h5⟩ := dd'
  have raw : RawD X.prog X.w d (storedH xs (nkey k) b (.int (v : Int) t)) h' := ⟨q, es, ep, hq, h2, h3, h4, h5⟩
  have mu : Mut (H3 d) := by
    rw [e]
    exact True.intro
  have I4 := d_write (t' := s3.toks + (nestedKind X.prog X.w).draws (nkey k)) I3 mu sb ⟨q, hq⟩ (raw_ok (H := upd H3 d (.ext (RawD X.prog X.w d (storedH xs (nkey k) b (.int (v : Int) t))))) raw)
  have tups : ∀ c ys, H3 c = some (.tup ys) → (upd H3 d (.ext (RawD X.prog X.w d (storedH xs (nkey k) b (.int (v : Int) t))))) c = some (.tup ys) := fun c ys ec => by
    rw [upd_ne (ne_of ec e (fun z => nomatch z))]
    exact ec
  refine ⟨σ, _, I4, q3 _ (fun c hc => upd_ne hc) ⟨_, hsy, upd_same, fun x hx => ?_⟩⟩
  unfold storedH at hx
  split at hx
  · obtain ⟨x0, hx0, rfl⟩ := List.mem_map.mp hx
    obtain ⟨k', v', t', g1, g2, g3, g4⟩ := g x0 hx0
    unfold putAt
    split
    · rename_i heq
      have ek : k' = k := nkey_inj (g1.symm.trans heq)
      subst ek
      exact ⟨k', v, t, g1, g2.keep tups, rfl, gk⟩
    · exact ⟨k', v', t', g1, g2.keep tups, g3, g4⟩
  · rcases List.mem_append.mp hx with hx | hx
    · obtain ⟨k', v', t', g1, g2, g3, g4⟩ := g x hx
      exact ⟨k', v', t', g1, g2.keep tups, g3, g4⟩
    · rw [List.mem_singleton.mp hx]
      exact ⟨k, v, t, rfl, kk.keep tups, rfl, gk⟩
end
end My
set_option Elab.async false
set_option linter.all false
set_option maxRecDepth 100000
set_option maxHeartbeats 2000000
/-! rules that the layer lacks, 3: {k: v for x in xs}, the keys tuples of ints -/
namespace My
open PySem PySem.Spec PyProof.Rows L2
theorem set_tupkey {X : Cx} {pins : List (Addr × Obj)} {σ : L2.St} {H : Hp} {s : Shared} {E : Value → Shared → Prop} {D b : Addr} {kvs : List (List Key × V)} {k : List Key} {v : V} {r : Value} {Q : Unit → Shared → Prop} (hu : X.A.units + 64 < cLine) (I : Inv X pins σ H s)
    (hD : H D = some (.dT kvs)) (hb : H b = some (.tup (k.map kV))) (hz : kvs.length < sizeLine) (rv : RelV v r) (h : ∀ s', Inv X pins σ (upd H D (.dT (putK kvs k v))) s' → Q () s') :
    wpAny (model X.prog X.w) X.A (dictSet D (.ref b) r) Q E s := by
  obtain ⟨z, hd, xs, rel, dd⟩ := dt_of I.hok hD
  have hzx : xs.length ≤ sizeLine := by
    rw [← Paired.length rel]
    exact z
  have hl : (putK kvs k v).length ≤ sizeLine := by
    have := length_putK kvs k v
    omega
  have hroom : (tupleKind (mixKind X.prog X.w)).room X.A := by
    show X.A.units < cLine
    omega
  refine wpAny_dictSet_heap (hsz := hzx) hroom (key_of I.hok hb) dd fun h' dd' sb => h _ ?_
  obtain ⟨q, es, ep, hq, h2, h3, h4, _, h5⟩ := dd'
  have mu : Mut (H D) := by
    rw [hD]
    exact True.intro
  refine d_write I mu sb ⟨q, hq⟩ ⟨hl, hd, _, (rel.put k hb rv).keeps fun c ys ec => ?_, q, es, ep, hq, h2, h3, h4, h5⟩
  rw [upd_ne (ne_of ec hD (fun z => nomatch z))]
  exact ec
section
variable {X : Cx}
/-- {k: v for target in iter}: D the new dict -/
def tDcT (wi : TI) (g : TG) (tk tv : TE) (vs : List Nat) : TE := fun σ H Q => wi σ H fun J H1 => ∀ D, H1 D = none → ∃ W : Nat → Nat → Hp → Prop, (∃ m, W 0 m (upd H1 D (.dT []))) ∧ ∀ i m H, W i m H →
  (J.stop i H ∧ Q (.ref D) H) ∨ (J.go i H ∧ ∃ Nx : Hp → Prop, (∀ H', Nx H' → ∃ m', m' < m ∧ W (i + 1) m' H') ∧ ∀ x H', J.yld i H x H' → g x (wipe σ vs) H' fun σ2 H2 => wipe σ2 vs = wipe σ vs ∧
    tk σ2 H2 fun y H4 => tv σ2 H4 fun z H5 => ∃ kvs k b, y = .ref b ∧ H5 b = some (.tup (k.map kV)) ∧ H5 D = some (.dT kvs) ∧ kvs.length < sizeLine ∧ Nx (upd H5 D (.dT (putK kvs k z))))
theorem pe_dcT {kx vx tg iter : Expr} {scope : Scope} {own : List (Str × Nat)} {pos : Pos} {wi : TI} {g : TG} {tk tv : TE} (hc : X.calm = true) (hu : X.A.units + 64 < cLine) (hN : X.N.Nodup) (hi : PI X tg iter wi) (ok : BlkOk X.N X.env.scope scope own)
    (hg : ∀ (s : Shared) (H : Hp) (C : Addr) (cl : List (Str × Addr)) (fp : List Addr), PG (X.blk s H scope (compEnvC scope cl C X.env) fp) tg g)
    (hk : ∀ (s : Shared) (H : Hp) (C : Addr) (cl : List (Str × Addr)) (fp : List Addr), PE (X.blk s H scope (compEnvC scope cl C X.env) fp) kx tk)
    (he : ∀ (s : Shared) (H : Hp) (C : Addr) (cl : List (Str × Addr)) (fp : List Addr), PE (X.blk s H scope (compEnvC scope cl C X.env) fp) vx tv) (hs : ∀ x, foldedSetIterable iter X.env x = pure x := by intro _; rfl) :
    PE X (.DictComp kx vx [⟨tg, iter, [], 0⟩] scope pos) (tDcT wi g tk tv (own.map (·.2))) := by
  refine ⟨fun pins s σ H Q I h => ?_⟩
  rw [arm_eval_DictComp]
  have hfree : ∀ y ∈ scope.names, y.2 = .free → ∃ c, X.env.cells.lookup y.1 = some c := fun y hy e => (ok.free y hy e).elim (fun k => I.ok.has _ (.inl k)) (fun k => I.ok.has _ (.inr k))
  refine wpAny_comprehension_free (use := none) rfl hs (closure_ok hfree) ok.kind (fun y hy e => by rw [ok.uniq y hy, e]) (thn (hi.run pins s σ H _ I h) fun xv s1 hx => thn hx fun itv s2 h2 => ?_)
  obtain ⟨it, fp, tn, J, H2, rfl, I2, T, st2, f2, q⟩ := h2
  refine wpAny_newObj_type (newEnv_comp ?_)
  generalize hD : s2.heap.objs.size = D
  have hDn : H2 D = none := I2.hok.fresh (Nat.le_of_eq hD)
  obtain ⟨W, ⟨m0, w0⟩, turn⟩ := q D hDn
  -- the new dict
  generalize hd0 : ({ cls := .type "dict", data := .dict #[] } : Obj) = d0
  have fd0 : d0.isFreed = false := by
    rw [← hd0]
    rfl
  generalize hs3 : ({ s2 with heap := s2.heap.push d0 } : Shared) = s3
  have h3 : s3.heap = s2.heap.push d0 := by rw [← hs3]
  have I3 : Inv X pins σ (upd H2 D (.dT [])) s3 := by
    rw [← hs3]
    refine I2.laid (t' := s2.toks) (fun b o e => Heap.get?_push_of_some _ e) (Nat.le_of_eq hD) ?_
    rw [← hD, ← hd0]
    exact dt_empty s2.heap I2.big
  have sz : ∀ b ∈ fp, b < s2.heap.objs.size := fun b hb => by
    obtain ⟨o, e, _⟩ := T.obj _ _ st2 b hb
    exact Heap.lt_size e
  have f3 : ∀ b ∈ fp, FpOk X pins (upd H2 D (.dT [])) b ∧ b < s3.heap.objs.size := fun b hb => by
    have hlt := sz b hb
    have hne : b ≠ D := by
      rw [← hD]
      exact Nat.ne_of_lt hlt
    refine ⟨⟨by rw [upd_ne hne]; exact (f2 b hb).1, (f2 b hb).2⟩, ?_⟩
    rw [h3, Heap.size_push]
    exact Nat.lt_succ_of_lt hlt
  have st3 : tn 0 s3.heap := T.keep _ _ _ st2 fun b _ o e => by
    rw [h3]
    exact Heap.get?_push_of_some _ e
  have I4 := block_start I3 ok hN f3
  generalize hcells : cellsFrom (s3.heap.objs.size + 1) scope.names (cloFrom X.env.cells scope.names []) = cells at I4 ⊢
  have pg := hg s3 (upd H2 D (.dT [])) s3.heap.objs.size cells fp
  have pk := hk s3 (upd H2 D (.dT [])) s3.heap.objs.size cells fp
  have pe := he s3 (upd H2 D (.dT [])) s3.heap.objs.size cells fp
  show codeAny _ _ (.compStart (.DictComp kx vx [⟨tg, iter, [], 0⟩] scope pos) 0 (.ref it) (.ref D) (compEnvC scope cells s3.heap.objs.size X.env)) (compPost (model X.prog X.w) X.A X.xe none (EP X pins σ Q) (.ref D) s3.heap.objs.size) { s3 with heap := pushCells (s3.heap.push d0) scope.names }
  generalize hs4 : ({ s3 with heap := pushCells (s3.heap.push d0) scope.names } : Shared) = s4
  have hI4 : Inv (X.blk s3 (upd H2 D (.dT [])) scope (compEnvC scope cells s3.heap.objs.size X.env) fp) [] (wipe σ (own.map (·.2))) (upd H2 D (.dT [])) s4 := by
    rw [← hs4, ← hd0]
    exact I4
  generalize hL : s3.heap.objs.size = L at pg pk pe hI4 ⊢
  generalize hce : compEnvC scope cells L X.env = ce at pg pk pe hI4 ⊢
  have cL : ce.locals = L := by
    rw [← hce]
    rfl
  have nfp : ∀ b ∈ fp, (upd H2 D (.dT [])) b = none := fun b hb => (f3 b hb).1.1
  generalize hH3 : upd H2 D (.dT []) = H3 at I3 pg pk pe hI4 w0 nfp f3
  have st4 : tn 0 s4.heap := T.keep _ _ _ st3 fun b _ o e => by
    rw [← hs4]
    exact pushCells_keeps _ _ _ _ (Heap.get?_push_of_some _ e)
  have stat : ∀ {σ' : L2.St} {H' : Hp} {s' : Shared}, Inv (X.blk s3 H3 scope ce fp) [] σ' H' s' → (∀ b ∈ fp, H' b = none) → ∀ b ∈ fp, FpOk (X.blk s3 H3 scope ce fp) [] H' b := fun {σ' H' s'} J1 hn b hb =>
    ⟨hn b hb, (J1.ok.exf b hb).1, J1.ok.exfs b hb, .inl hb, fun x c e => (J1.ok.exf b hb).2 x c e, fun p hp => nomatch hp⟩
  have loop : codeAny (model X.prog X.w) X.A (.compLoop (.DictComp kx vx [⟨tg, iter, [], 0⟩] scope pos) 0 (.ref it) (.ref D) ce) (compPost (model X.prog X.w) X.A X.xe none (EP X pins σ Q) (.ref D) L) s4 := by
    refine compLoop_anyD (fun n s' => ∃ i H', Inv (X.blk s3 H3 scope ce fp) [] (wipe σ (own.map (·.2))) H' s' ∧ tn i s'.heap ∧ (∀ b ∈ fp, H' b = none) ∧ W i n H') ?_ m0 ⟨0, H3, hI4, st4, nfp, w0⟩
    rintro n s5 ⟨i, H5, I5, st5, n5, w5⟩
    rcases turn i n H5 w5 with ⟨stop, qq⟩ | ⟨go, Nx, hNx, step⟩
    · refine thnF (T.done (X.blk s3 H3 scope ce fp) rfl rfl rfl hc i [] s5 _ H5 (fun _ _ => False) I5 (stat I5 n5) st5 stop) fun r s6 ⟨hr, I6⟩ => ?_
      subst hr
      have I7 : Inv X pins σ H5 s6 := I3.call' (ch := fp) I6.os I6.base I6.hok I6.bare fun b hb => ⟨(f3 b hb).1.2.2.2.1, (f3 b hb).1.2.1, (f3 b hb).1.2.2.2.2.1, (f3 b hb).1.2.2.2.2.2⟩
      have nC : H5 L = none := by
        have z : H5 ce.locals = none := I6.free
        rw [cL] at z
        exact z
      obtain ⟨m, hn, _⟩ := I6.loc
      have hn : s6.heap.Ns ce.locals m := hn
      rw [cL] at hn
      obtain ⟨g0, g1, g2, g3, g4, g5⟩ := I3.fpOk (b := L) (Nat.le_of_eq hL) nC
      exact ⟨m, hn, fun h'' sb => ⟨.ref D, H5, I7.turned (t' := s6.toks) (fun b o hb e => (sb.2 b hb).trans e) g0 g1 g3 g4 g5, rfl, qq⟩⟩
    · refine thnF (T.item (X.blk s3 H3 scope ce fp) rfl rfl rfl hc i [] s5 _ H5 (fun _ _ => False) I5 (stat I5 n5) st5 go) fun r s6 ⟨u, hr, h6⟩ => ?_
      subst hr
      refine thnF h6 fun _ s7 ⟨x, H7, I7, r7, y7, st7, n7⟩ => ?_
      have I7' := I7.pinned (stat I7 n7) (T.obj _ _ st7)
      refine thnF (pg.run _ s7 _ H7 x u _ I7' r7 (step x H7 y7)) fun _ s8 ⟨σ8, H8, I8, hw8, q8⟩ => ?_
      refine thnF ((pts_nil (X := X.blk s3 H3 scope ce fp)).run _ s8 σ8 H8 (fun b H9 => b = true ∧ H9 = H8) I8 ⟨rfl, rfl⟩) fun b s9 ⟨H9, I9, eb, eH⟩ => ?_
      subst eb eH
      rw [if_pos rfl]
      refine thnF (pk.run _ s9 σ8 H9 _ I9 q8) fun z s10 ⟨yk, H10, I10, r10, q10⟩ => ?_
      refine thnF (pe.run _ s10 σ8 H10 _ I10 q10) fun z2 s11 ⟨yv, H11, I11, r11, kvs, k, b, ek, hb11, hD11, hz11, nx⟩ => ?_
      subst ek
      obtain rfl : z = Value.ref b := r10
      refine set_tupkey (X := X.blk s3 H3 scope ce fp) hu I11 hD11 hb11 hz11 r11 fun s12 I12 => ?_
      obtain ⟨m', hm, w'⟩ := hNx _ nx
      have pin' : ∀ b ∈ fp, ∀ o, s7.heap.get? b = some o → s12.heap.get? b = some o ∧ (upd H11 D (.dT (putK kvs k yv))) b = none := fun b hb o e => by
        obtain ⟨p1, p2, _⟩ := I12.pin (b, o) (List.mem_append_right _ (List.mem_append_right _ (mem_pinsAt hb e)))
        exact ⟨p1, p2⟩
      have hl : (wipe σ (own.map (·.2))).length = σ8.length := by rw [← hw8, wipe_length]
      refine ⟨m', hm, i + 1, _, (I12.unpinned (pins := [])).weak hl (fun j v e => ?_), T.keep _ _ _ st7 fun b hb o e => (pin' b hb o e).1, fun b hb => ?_, w'⟩
      · rw [← hw8] at e
        exact (wipe_some e).1
      · obtain ⟨o, e, _⟩ := T.obj _ _ st7 b hb
        exact (pin' b hb o e).2
  exact codeAny_compStart_dict loop (T.self X.A 0 _ _ _ st4 loop)
end
end My
set_option Elab.async false
set_option linter.all false
set_option maxRecDepth 100000
set_option maxHeartbeats 2000000
/-! rules that the layer lacks, 4: repr of data (no repr under way), defs that are called where none is under way, calls with keywords alone, the law's end -/
namespace My
open PySem PySem.Spec PyProof.Rows L2
/-! ### data stays -/
mutual
theorem dp_same {K : PySem.W.Frag} {H H' : Hp} (e : Same H H') : ∀ {d : PyData} {v : V}, Dp K H v d → Dp K H' v d
  | .none, _, h => by cases h; exact .non
  | .bool b, _, h => by cases h; exact .bl b
  | .int i, _, h => by cases h; exact .int i
  | .str x, _, h => by cases h; exact .str x
  | .list ds, _, h => by
    cases h with
    | lst hs ha => exact .lst (e.seq hs) (dps_same e ha)
  | .tuple ds, _, h => by
    cases h with
    | tup hs ha =>
      refine .tup ?_ (dps_same e ha)
      rcases hs with (hs | ⟨o, hs⟩) | hs
      · exact .inl (.inl (e _ _ hs))
      · exact .inl (.inr ⟨o, e _ _ hs⟩)
      · exact .inr hs
  | .dict _, _, h => by cases h
theorem dps_same {K : PySem.W.Frag} {H H' : Hp} (e : Same H H') : ∀ {ds : List PyData} {vs : List V}, DpAll K H vs ds → DpAll K H' vs ds
  | [], _, h => by cases h; exact .nil
  | d :: ds, _, h => by
    cases h with
    | cons h1 h2 => exact .cons (dp_same e h1) (dps_same e h2)
end
section
variable {X : Cx}
def Shows (d : PyData) : Prop := isDisplay d = true ∧ d.showable = true ∧ d.hasDict = false ∧ d.depth ≤ 60 ∧ d.leavesShort 13 = true ∧ d.weight ≤ 2 ^ 20
/-- repr(x), x a tuple or a list of data -/
theorem call_reprD (hg : X.A.guards = some []) (hu : X.A.units + 64 < cLine) : CallR X (.builtin "repr") (fun xs H Q => ∃ x d, xs = [x] ∧ Dp X.K H x d ∧ Shows d ∧ Q (.str d.shown) H) := by
  intro pins s σ H xs us Q I r h
  obtain ⟨x, d, rfl, hd, ⟨h1, h2, h3, h4, h5, h6⟩, q⟩ := h
  obtain ⟨u, rfl, ru⟩ := vals1 r
  obtain ⟨as, hr⟩ := Dp.reads I d x u hd ru
  obtain ⟨a, rfl⟩ := isRef_of_reads hr h1
  exact repr_of_reads' hr h2 (PyData.noDict_hsm h3) hg (by omega) (fun _ _ e => e) (fun h' t tk hk => ⟨.str d.shown, H, I.kept (t' := tk) hk, ⟨t, rfl⟩, q⟩) (PyData.shown_fits (by decide) (by decide) h5 h6)
end
/-! ### defs called where no repr is under way -/
structure FnG (P : Program) (w : World) (K : PySem.W.Frag) (mg : Str → Option Value) (base : Heap) (k : Nat) (f : Addr) (fd : FuncData) (ps : List Str) (sp : Sp) : Prop where
  len : ∀ vs H Q E, sp vs H Q E → vs.length = ps.length
  run : ∀ (A : Around) (outer : List Env) (s : Shared) (H : Hp) (args : Args) (us : List Value) (vs : List V) (Q : VK) (E : XK), A.guards = some [] → Room k A → Env0 P w K mg base A outer s H → BindsTo s fd args (ps.zip us) → Vals vs us →
    sp vs H Q E → codeAny (model P w) A (.call (.ref f) args) (CR CX0 outer P w H s Q E) s
section
variable {P : Program} {w : World} {K : PySem.W.Frag} {mg : Str → Option Value} {base : Heap}
theorem Fun.okG {x qual : Str} {st : Stmt} {f : Addr} {fd : FuncData} {N ps : List Str} {k : Nat} {sp : Sp} (F : Fun K x qual st f fd) (S : FnScope N ps (defScope st)) (len : ∀ vs H Q E, sp vs H Q E → vs.length = ps.length)
    (hbody : ∀ (cdv : Value) (A : Around) (outer : List Env) (s : Shared) (H : Hp) (vs : List V) (Q : VK) (E : XK), (A.deeper (envOfC qual (defScope st) s.heap.objs.size f cdv)).guards = some [] →
      Room k (A.deeper (envOfC qual (defScope st) s.heap.objs.size f cdv)) → sp vs H Q E →
      ∃ t, PSs (cxOf CX0 P w K mg base N qual (defScope st) f cdv A outer s H E).nox (defBody st) t ∧ t { nx := fun _ H' => Q .non H', rt := Q } (start N vs) H) : FnG P w K mg base (k + 1) f fd ps sp := by
  obtain ⟨oc, od, kV, doc, pm, an, cdv, ct, osl, rfl, lk, hcd⟩ := F.ex
  refine ⟨len, fun A outer s H args us vs Q E hg hr e0 hb r hsp => ?_⟩
  have old : ∀ b o, base.get? b = some o → s.heap.get? b = some o := fun b o e => (e0.bs b o e).1
  have KX : K.In s.heap := e0.mod.kin.keeps old
  have kinds : ∀ y ∈ ps.zip us, (defScope st).names.lookup y.1 = some .local ∨ ((defScope st).names.lookup y.1 = some .cell ∧ ((cellsFrom (s.heap.objs.size + 1) (defScope st).names []).lookup y.1).isSome = true) := by
    rintro ⟨n, v⟩ hy
    exact (S.par n (List.of_mem_zip hy).1).imp id fun q => ⟨q, PySem.W.cellsFrom_some _ _ _ (.inl q)⟩
  refine codeAny_call_function hr.depth (KX _ _ lk) rfl S.co S.gen rfl (PySem.W.codeRec_of KX hcd) (hb _ _ _ _ (wpAny_newFunctionEnv_cells S.kind kinds ?_))
  intro env he s1 x
  subst he
  refine ⟨(e0.mod.nolimit.keeps old).keeps x.toInCall.keep, codeAny_func ?_⟩
  obtain ⟨t, ht, hq⟩ := hbody cdv A outer s H vs Q E hg (hr.deeper _) hsp
  have J := inv_start (CX := CX0) (P := P) (mg := mg) (E := E) S hr.hd e0 (len _ _ _ _ hsp) r x
  refine wpAny_mono (ht.nox.run [] s1 (start N vs) H _ J hq) (fun fl s' hs => ?_) fun e s' hs => hs
  cases fl with
  | next =>
    obtain ⟨σ', H', J', q⟩ := hs
    exact ⟨.non, H', J'.os, J'.bare, J'.base, J'.hok, rfl, q⟩
  | ret u =>
    obtain ⟨v, σ', H', J', rv, q⟩ := hs
    exact ⟨v, H', J'.os, J'.bare, J'.base, J'.hok, rv, q⟩
  | brk =>
    obtain ⟨_, _, _, q⟩ := hs
    exact q.elim
  | cont =>
    obtain ⟨_, _, _, q⟩ := hs
    exact q.elim
end
section
variable {X : Cx} {k : Nat} {f : Addr} {fd : FuncData} {ps ks : List Str} {sp : Sp} {E : XK} {x : Str} {p pos : Pos} {e : Expr} {es : List Expr} {t tk : TA} {kws : List Keyword}
/-- f(e, ..) -/
theorem pe_callG (F : FnG X.prog X.w X.K X.mg X.base k f fd ps sp) (hgd : X.A.guards = some []) (hr : Room k X.A) (hg : Gl X x) (hm : X.mg x = some (.ref f)) (hk : PySem.W.keepIn X.K (.ref f) = true) (hb : Binds X.K fd ps [])
    (ha : PA X (e :: es) t) (hdb : (x == ("__debug__" : Str)) = false := by decide) (he : starEach (e :: es) X.env = (false, eval e X.env) :: starEach es X.env := by rfl) (hpl : (backTo pos (starEach es X.env)).any (·.1) = false := by rfl) :
    PE X (.Call (.Name x p) (e :: es) [] pos) (tCall sp [] E t) := by
  refine ⟨fun pins s σ H Q I h => ?_⟩
  refine wpAny_Call_Name_kw (ld_glob I hg hm ?_ hdb)
  refine PySem.W.callWith_K (h₀ := X.base) I.ok.mod.kin hk (thn (ha.run pos pins s σ H _ I h) fun us s1 ⟨vs, H1, I1, r, q⟩ => ⟨I1.kIn, ?_⟩) he hpl
  have q : sp (vs ++ []) H1 Q E := q
  rw [List.append_nil] at q
  have hl : us.length = ps.length := by
    rw [← r.length]
    exact F.len _ _ _ _ q
  have bt : BindsTo s1 fd ⟨us, []⟩ (ps.zip us) := by
    have z := hb s1 us I1.kIn (by rw [List.append_nil]; exact hl)
    rw [List.append_nil] at z
    exact z
  refine wpAny_call (codeAny_mono (F.run X.A X.stack s1 H1 ⟨us, []⟩ us vs Q E hgd hr I1.env0 bt r q) fun rr s' hq => ?_)
  cases rr with
  | error e => exact False.elim hq
  | ok fl =>
    cases fl with
    | ret u => exact I1.after hq
    | next => exact False.elim hq
    | brk => exact False.elim hq
    | cont => exact False.elim hq
/-- f(k = v, ..) -/
theorem pe_callKW {g : List Value → List Value → List Value} {gV : List V → List V → List V} (F : FnOk X.prog X.w X.K X.mg X.base CX0 k f fd ps sp) (hr : Room k X.A) (hg : Gl X x) (hm : X.mg x = some (.ref f)) (hk : PySem.W.keepIn X.K (.ref f) = true)
    (hb : KBinds X.K fd ps ks g gV) (hx : Passes CX0 X E) (hkw : PK X kws tk) (hall : (backToKw pos (keywordEach kws X.env)).all (·.1.isSome) = true := by rfl) (hks : (backToKw pos (keywordEach kws X.env)).filterMap (·.1) = ks := by rfl)
    (hdb : (x == ("__debug__" : Str)) = false := by decide) (hpl : ((backTo pos (starEach [] X.env)).any (·.1) || (backToKw pos (keywordEach kws X.env)).any (·.1.isNone)) = false := by rfl) :
    PE X (.Call (.Name x p) [] kws pos) (tCallK sp gV E tNil tk) := by
  refine ⟨fun pins s σ H Q I h => ?_⟩
  refine wpAny_Call_Name_kw (ld_glob I hg hm ?_ hdb)
  refine PySem.W.callWith_KW0 (h₀ := X.base) I.ok.mod.kin hk hall (thn (hkw.run pos pins s σ H _ I h) fun ws s2 ⟨zs, H2, I2, rz, q2⟩ => ⟨I2.kIn, ?_⟩) hpl
  rw [hks]
  exact run_fnk (us := []) (vs := []) F hr hb hx I2 .nil rz q2
end
/-! ### the end -/
section
variable {K : PySem.W.Frag} {P : Program} {w : World}
theorem law_callG {mg mb : Str → Option Value} {k : Nat} {fa a : Addr} {fd : FuncData} {x : Str} {sp : Sp} {t : Shared} {vs : List Value} {ns : List Int}
    (KX : K.In t.heap) (hns : t.heap.Ns mainGlobals mg) (hb : t.heap.Ns builtinsNs mb) (hbb : ∀ x : Str, x ≠ "__name__" → mb x = bootBuiltins x) (hlim : t.heap.NoLimit) (hg : t.gens = #[])
    (ha : t.heap.get? a = some { cls := .type "list", data := .seq vs.toArray }) (hi : IntsAre vs ns) (hl : ns.length ≤ sizeLine) (hr : Room k callerA)
    (F : ∀ base : Heap, K.In base → base.Ns mainGlobals mg → FnG P w K mg base k fa fd [x] sp) (hbind : ∀ (s : Shared) (u : Value), BindsTo s fd ⟨[u], []⟩ [(x, u)])
    (hsp : ∀ H : Hp, SqL K H a (ns.map V.int) → sp [.ref a] H (fun v _ => v = .bl true) fun _ _ _ => False) :
    codeAny (model P w) callerA (.call (.ref fa) ⟨[.ref a], []⟩) (fun r s' => r = .ok (.ret (.bool true)) ∧ OldK t.heap s'.heap ∧ s'.os = t.os ∧ AllBare s'.gens) t := by
  generalize hob : ({ cls := .type "list", data := .seq vs.toArray } : Obj) = ob at ha
  have rv := vals_ints hi
  -- H tracks the script at most, and that as known
  have go : ∀ H : Hp, (∀ b, H b = none ∨ (b = a ∧ K.lookup a = none ∧ H b = some (.frz ob (.lst (ns.map V.int))))) → SqL K H a (ns.map V.int) → HOk P w H t.heap →
      codeAny (model P w) callerA (.call (.ref fa) ⟨[.ref a], []⟩) (fun r s' => r = .ok (.ret (.bool true)) ∧ OldK t.heap s'.heap ∧ s'.os = t.os ∧ AllBare s'.gens) t := by
    intro H hO hS hok
    have free : ∀ {b : Addr} {o : Obj}, t.heap.get? b = some o → o ≠ ob → H b = none := fun {b o} e ne => by
      rcases hO b with z | ⟨z, _, _⟩
      · exact z
      · rw [z, ha] at e
        exact absurd (Option.some.inj e).symm ne
    have dict : ∀ {b : Addr} {m : Str → Option Value}, t.heap.Ns b m → (hidT t.heap H).Ns b m := fun {b m} ⟨o, es, ep, e, d, r⟩ => by
      refine ⟨o, es, ep, hidT_get e (free e fun z => ?_), d, r⟩
      rw [z, ← hob] at d
      cases d
    have hKb : K.In (hidT t.heap H) := fun b o e => by
      refine hidT_get (KX b o e) ?_
      rcases hO b with z | ⟨z, kn, _⟩
      · exact z
      · rw [z, kn] at e
        cases e
    obtain ⟨mc, l1, l2⟩ := hlim
    have hM : Mod K mg (hidT t.heap H) := ⟨hKb, dict hns, ⟨mb, dict hb, hbb⟩, ⟨mc, dict l1, l2⟩⟩
    have e0 : Env0 P w K mg (hidT t.heap H) callerA [] t H := ⟨rfl, hM, fun b o e => of_hidT e, Nat.le_of_eq (hidT_size _ _), trivial, (fun b hb => absurd (show b ∈ ([] : List Addr) from hb) List.not_mem_nil), hok, .of_eq hg⟩
    refine codeAny_mono ((F _ hKb (dict hns)).run callerA [] t H ⟨[.ref a], []⟩ [.ref a] [.ref a] _ _ rfl hr e0 (hbind t (.ref a)) (.cons rfl .nil) (hsp H hS)) fun r s' h => ?_
    cases r with
    | error e => exact False.elim h
    | ok fl =>
      cases fl with
      | next => exact False.elim h
      | brk => exact False.elim h
      | cont => exact False.elim h
      | ret u =>
        obtain ⟨v, H', os, bare, un, hok', rr, q⟩ := h
        have q : v = .bl true := q
        subst q
        obtain rfl : u = Value.bool true := rr
        refine ⟨rfl, OldK.of_keep fun b o e => ?_, os, bare⟩
        rcases hO b with z | ⟨zb, _, z⟩
        · exact un.keep b o e z (fun hh => absurd (show b ∈ ([] : List Addr) from hh) List.not_mem_nil) (fun hh => absurd hh List.not_mem_nil)
        · obtain ⟨e2, _⟩ := hok' b _ (un.frzs b ob _ z)
          rw [zb, ha] at e
          rw [← e, e2]
  cases hk : K.lookup a with
  | some o =>
    have e := (KX a o hk).symm.trans ha
    cases e
    have o1 : ob.cls = .type "list" := by rw [← hob]
    have o2 : ob.dict = none := by rw [← hob]
    have o3 : ob.data = .seq vs.toArray 0 := by rw [← hob]
    have o4 : vs.toArray.size ≤ sizeLine := by
      rw [List.size_toArray, ← rv.length, List.length_map]
      exact hl
    exact go (fun _ => none) (fun _ => .inl rfl) (.inr ⟨ob, vs.toArray, 0, hk, o1, o2, o3, o4, rv⟩) fun b u z => nomatch z
  | none =>
    generalize hH : (fun b => if b = a then some (HO.frz ob (.lst (ns.map V.int))) else none : Hp) = H
    have at1 : H a = some (.frz ob (.lst (ns.map V.int))) := by
      rw [← hH]
      exact if_pos rfl
    have at2 : ∀ b, b ≠ a → H b = none := fun b hb => by
      rw [← hH]
      exact if_neg hb
    refine go H (fun b => ?_) (.inl (.inr ⟨ob, at1⟩)) fun b u z => ?_
    · by_cases hb : b = a
      · exact .inr ⟨hb, hk, by rw [hb]; exact at1⟩
      · exact .inl (at2 b hb)
    · by_cases hb : b = a
      · subst hb
        have z' := at1.symm.trans z
        cases z'
        refine ⟨ha, ?_⟩
        show (ns.map V.int).length ≤ sizeLine ∧ _
        rw [List.length_map]
        refine ⟨hl, vs, 0, rv, ?_⟩
        rw [ha, ← hob]
      · rw [at2 b hb] at z
        cases z
end
theorem walk_ofG {l : PySem.W.OpenLaw} {n k : Nat} {q : Program} {loose : List Str} {XP : (Str → Option Value) → Heap → Prop} {YP : World → Heap → Prop} {d : DefRec} {K : Params → PySem.W.Frag} {sp : World → Sp} {x : Str}
    (hn : l.most = some n) (hn2 : n ≤ sizeLine) (hdf : d.params.defaults = []) (hr : Room k callerA) (hY : ∀ (w : World) (h : Heap), YP w h → (K w.params).In h)
    (F : ∀ (w : World) (mg : Str → Option Value) (fa : Addr) (h : Heap), (K w.params).In h → h.Ns mainGlobals mg → mg d.name = some (.ref fa) →
      ∃ fd : FuncData, (∀ (s : Shared) (u : Value), BindsTo s fd ⟨[u], []⟩ [(x, u)]) ∧ ∀ base : Heap, (K w.params).In base → base.Ns mainGlobals mg → FnG l.prog w (K w.params) mg base k fa fd [x] (sp w))
    (hsp : ∀ (w : World) (H : Hp) (a : Addr) (ns : List Int), ns.length ≤ n → SqL (K w.params) H a (ns.map V.int) → sp w [.ref a] H (fun v _ => v = .bl true) fun _ _ _ => False) :
    PySem.W.WalkO q loose XP YP l.row.toRowW d [] (fun f vs => PySem.call f vs) := by
  refine Att.attach_call hn hdf fun w s0 t mg mb fa o pm cd doc a vs ns G Y ho hd hcd hmg hobj hints hlen hg => ?_
  have KX := hY w _ Y
  obtain ⟨fd, hb, hF⟩ := F w mg fa _ KX G.T.g hmg
  exact law_callG KX G.T.g G.T.b G.T.builtins G.T.nolimit hg hobj hints (Nat.le_trans hlen hn2) hr hF hb fun H hS => hsp w H a ns hlen hS
end My
set_option Elab.async false
set_option linter.all false
set_option maxRecDepth 100000
set_option maxHeartbeats 2000000
namespace My
open PySem PySem.Spec PyProof.Rows L2
/-! ### the text -/
def topS (i : Nat) : Stmt := PySem.Challenge.pw_saidbetween_k75_whole_best_speeches.main.body.getD i (.Pass ⟨0, 0, 0, 0⟩)
/-- a def of the top: its object, its name's value, how arguments come to it -/
structure FnAt (K : PySem.W.Frag) (mg : Str → Option Value) (x : Str) (st : Stmt) (ps : List Str) (f : Addr) (fd : FuncData) : Prop where
  at_ : Fun K x x st f fd
  mg_ : mg x = some (.ref f)
  b_ : Binds K fd ps []
/-- what the top leaves of names that no def binds -/
structure Txt (K : PySem.W.Frag) (mg : Str → Option Value) : Prop where
  gcd : mg "gcd" = some (.builtin "math.gcd")
  len : mg "len" = none
  range : mg "range" = none
  tuple : mg "tuple" = none
  list : mg "list" = none
  int : mg "int" = none
  bool : mg "bool" = none
  isi : mg "isinstance" = none
  enum : mg "enumerate" = none
  max : mg "max" = none
  min : mg "min" = none
  sum : mg "sum" = none
  zip : mg "zip" = none
  repr : mg "repr" = none
  sideH : ∃ t, mg "MOST_SIDE_hands" = some (.int 6 t)
  mostI : ∃ t, mg "MOST_INTEGER" = some (.int 9 t)
  sideC : ∃ t, mg "MOST_SIDE_chances" = some (.int 4 t)
  bits : ∃ t, mg "MOST_BITS" = some (.int 2 t)
  none_ : ∃ a, mg "NONE" = some (.ref a) ∧ ∀ H, SqT K H a [.int 0, .int 1]
  whole : ∃ a, mg "WHOLE" = some (.ref a) ∧ ∀ H, SqT K H a [.int 1, .int 1]
section
variable {X : Cx} {x : Str} {p pos : Pos}
theorem pe_gi {i : Int} (h : ∃ t, X.mg x = some (.int i t)) (hg : Gl X x := by rfl) (hd : (x == ("__debug__" : Str)) = false := by decide) : PE X (.Name x p) (tC (.int i)) := by
  obtain ⟨t, h⟩ := h
  exact pe_glob hg h ⟨t, rfl⟩ hd
theorem pe_cl {st : Stmt} {ps : List Str} {f : Addr} {fd : FuncData} {k : Nat} {sp : Sp} {e : Expr} {es : List Expr} {t : TA} (F : FnAt X.K X.mg x st ps f fd) (G : FnOk X.prog X.w X.K X.mg X.base CX0 k f fd ps sp) (hr : Room k X.A) (ha : PA X (e :: es) t) (hg : Gl X x := by rfl)
    (hdb : (x == ("__debug__" : Str)) = false := by decide) (he : starEach (e :: es) X.env = (false, eval e X.env) :: starEach es X.env := by rfl) (hpl : (backTo pos (starEach es X.env)).any (·.1) = false := by rfl) :
    PE X (.Call (.Name x p) (e :: es) [] pos) (tCall sp [] E0 t) := pe_call G hr hg F.mg_ F.at_.kp F.b_ .nil pass0 ha hdb he hpl
end
theorem _root_.L2.Same.new {H : Hp} {p : Addr} {o : HO} (h : H p = none) : Same H (upd H p o) := fun b u e => by
  rw [upd_ne (ne_of_none e h)]
  exact e
/-- what H does not know may change -/
theorem _root_.L2.Same.mut {H H' : Hp} {p : Addr} {o : HO} (e : Same H H') (h : H p = none) : Same H (upd H' p o) := fun b u ha => by
  rw [upd_ne (ne_of_none ha h)]
  exact e b u ha
theorem _root_.L2.Same.tup {K : PySem.W.Frag} {H H' : Hp} {a : Addr} {xs : List V} (e : Same H H') (h : SqT K H a xs) : SqT K H' a xs := by
  rcases h with (h | ⟨o, h⟩) | h
  · exact .inl (.inl (e _ _ h))
  · exact .inl (.inr ⟨o, e _ _ h⟩)
  · exact .inr h
theorem sz {n : Nat} (h : n ≤ 1000000) : n ≤ sizeLine := Nat.le_trans h (by decide)
theorem szl {n : Nat} (h : n ≤ 1000000) : n < sizeLine := Nat.lt_of_le_of_lt h (by decide)
/-- the first expression that a list of statements returns; parts of expressions -/
def exOf : Stmt → Expr
  | .Return (some e) _ => e
  | .Assign _ e _ => e
  | .Expr e _ => e
  | .For _ e _ _ _ => e
  | .If e _ _ _ => e
  | _ => .Constant .none 0 ⟨0, 0, 0, 0⟩
def bodyOf : Stmt → List Stmt
  | .For _ _ b _ _ => b
  | .If _ b _ _ => b
  | s => defBody s
def elseOf : Stmt → List Stmt
  | .If _ _ b _ => b
  | _ => []
def nthS (l : List Stmt) (i : Nat) : Stmt := l.getD i (.Pass ⟨0, 0, 0, 0⟩)
def argE (i : Nat) : Expr → Expr
  | .Call _ as _ _ => as.getD i (.Constant .none 0 ⟨0, 0, 0, 0⟩)
  | .Tuple as _ _ => as.getD i (.Constant .none 0 ⟨0, 0, 0, 0⟩)
  | .List as _ => as.getD i (.Constant .none 0 ⟨0, 0, 0, 0⟩)
  | .BinOp l _ r _ => if i = 0 then l else r
  | .Compare l _ rs _ => if i = 0 then l else rs.getD (i - 1) l
  | .ListComp e _ _ _ => e
  | e => e
def lcS : Expr → Scope
  | .ListComp _ _ s _ => s
  | .DictComp _ _ _ s _ => s
  | _ => { kind := .function, names := [], isGenerator := false, isCoroutine := false }
end My
set_option Elab.async false
set_option linter.all false
set_option maxRecDepth 100000
set_option maxHeartbeats 2000000
/-! comprehensions that leave what was known, in short -/
namespace My
open PySem PySem.Spec PyProof.Rows L2
/-- all but D is as it was -/
def But (D : Addr) (H H' : Hp) : Prop := ∀ b o, H b = some o → b ≠ D → H' b = some o
theorem But.of {D : Addr} {H H' : Hp} (e : Same H H') : But D H H' := fun b o h _ => e b o h
theorem But.upd {D : Addr} {H : Hp} {o : HO} : But D H (upd H D o) := fun b u h hb => by
  rw [upd_ne hb]
  exact h
theorem But.trans {D : Addr} {H H1 H2 : Hp} (a : But D H H1) (b : But D H1 H2) : But D H H2 := fun c o h hc => b c o (a c o h hc) hc
theorem But.same {D : Addr} {H H' : Hp} (e : But D H H') (h : H D = none) : Same H H' := fun b o hb => e b o hb (ne_of_none hb h)
theorem filter_range_succ (b : Nat → Bool) (i : Nat) : (List.range (i + 1)).filter b = (List.range i).filter b ++ if b i = true then [i] else [] := by
  rw [List.range_succ, List.filter_append]
  congr 1
  cases h : b i <;> simp [h]
theorem paired_append {α β : Type} {F : α → β → Prop} : ∀ {l₁ : List α} {l₂ : List β} {m₁ : List α} {m₂ : List β}, Paired F l₁ l₂ → Paired F m₁ m₂ → Paired F (l₁ ++ m₁) (l₂ ++ m₂)
  | _, _, _, _, .nil, h => h
  | _, _, _, _, .cons a b, h => .cons a (paired_append b h)
theorem paired_eq {α β : Type} {f : α → β} : ∀ {l : List α} {m : List β}, Paired (fun a b => b = f a) l m → m = l.map f
  | _, _, .nil => rfl
  | _, _, .cons a b => by rw [List.map_cons, a, paired_eq b]
theorem paired_get {α β : Type} {F : α → β → Prop} : ∀ {l : List α} {m : List β} {i : Nat} {a : α}, Paired F l m → l[i]? = some a → ∃ b, m[i]? = some b ∧ F a b
  | _, _, _, _, .nil, h => by simp at h
  | _, _, 0, _, .cons a b, h => by
    simp at h
    subst h
    exact ⟨_, rfl, a⟩
  | _, _, i + 1, _, .cons a b, h => by
    obtain ⟨y, h1, h2⟩ := paired_get (i := i) b (by simpa using h)
    exact ⟨y, by simpa using h1, h2⟩
/-- [elt for x in .. if test]: item i the i-th thing, b i the test's answer, R i what is told of the i-th element -/
theorem lc_genD {J : It} {n : Nat} {G : Hp → Prop} {item : Nat → V} (wk : Walk J n G (fun i H x H' => H' = H ∧ x = item i)) {j : Nat} {tt : TT} {te : TE} {vs : List Nat} {σ : L2.St} {H1 : Hp} {D : Addr} {Qd : Hp → Prop}
    (b : Nat → Bool) (R : Nat → V → Hp → Prop) (hD : H1 D = none) (hn : n ≤ 1000000) (hG : ∀ H', Same H1 H' → G H') (hR : ∀ i y H H', R i y H → But D H H' → R i y H')
    (ht : ∀ i H', i < n → Same H1 H' → ∀ Q' : Bool → Hp → Prop, (∀ H3, Same H' H3 → Q' (b i) H3) → tt ((wipe σ vs).set j (some (item i))) H' Q')
    (he : ∀ i H', i < n → b i = true → Same H1 H' → (∃ acc, H' D = some (.lst acc)) → ∀ Q' : V → Hp → Prop, (∀ y H3, Same H' H3 → R i y H3 → Q' y H3) → te ((wipe σ vs).set j (some (item i))) H' Q')
    (hd : ∀ ys H', Same H1 H' → H' D = some (.lst ys) → Paired (fun i y => R i y H') ((List.range n).filter b) ys → Qd H')
    (hw : ∀ x : Option V, wipe ((wipe σ vs).set j x) vs = wipe σ vs := by intro _; rfl) :
    ∃ W : Nat → Nat → Hp → Prop, (∃ m, W 0 m (upd H1 D (.lst []))) ∧ ∀ i m H, W i m H →
      (J.stop i H ∧ Qd H) ∨ (J.go i H ∧ ∃ Nx : Hp → Prop, (∀ H', Nx H' → ∃ m', m' < m ∧ W (i + 1) m' H') ∧ ∀ x H', J.yld i H x H' → (gName j) x (wipe σ vs) H' fun σ2 H2 => wipe σ2 vs = wipe σ vs ∧ tt σ2 H2 fun b H3 =>
        if b = true then te σ2 H3 fun y H4 => ∃ acc, H4 D = some (.lst acc) ∧ acc.length < sizeLine ∧ Nx (upd H4 D (.lst (acc ++ [y]))) else Nx H3) := by
  refine lc_it wk (fun i H' => Same H1 H' ∧ ∃ ys, H' D = some (.lst ys) ∧ Paired (fun i y => R i y H') ((List.range i).filter b) ys) ⟨(But.upd (D := D)).same hD, [], upd_same, .nil⟩ (fun i H' _ p => hG H' p.1) (fun i x H2 H' hi p y => ?_) fun H' p => ?_
  · obtain ⟨sm, ys, eD, pr⟩ := p
    obtain ⟨rfl, rfl⟩ := y
    refine ⟨hw _, ht i _ hi sm _ fun H3 s3 => ?_⟩
    have eD3 := s3 _ _ eD
    have pr3 : Paired (fun i y => R i y H3) ((List.range i).filter b) ys := Paired.mapP pr fun i y h => hR i y _ _ h (.of s3)
    cases hb : b i with
    | false =>
      rw [if_neg Bool.false_ne_true]
      refine ⟨sm.trans s3, ys, eD3, ?_⟩
      rw [filter_range_succ, hb, if_neg Bool.false_ne_true, List.append_nil]
      exact pr3
    | true =>
      rw [if_pos rfl]
      refine he i H3 hi hb (sm.trans s3) ⟨_, eD3⟩ _ fun y H4 s4 r => ?_
      have eD4 := s4 _ _ eD3
      refine ⟨ys, eD4, ?_, ?_, ys ++ [y], upd_same, ?_⟩
      · have h1 : ys.length = ((List.range i).filter b).length := (Paired.length pr).symm
        have h2 : ((List.range i).filter b).length ≤ i := Nat.le_trans (List.length_filter_le _ _) (by rw [List.length_range]; exact Nat.le_refl _)
        exact szl (by omega)
      · exact ((But.of ((sm.trans s3).trans s4)).trans (But.upd (D := D))).same hD
      · rw [filter_range_succ, hb, if_pos rfl]
        refine paired_append (Paired.mapP pr3 fun i y h => hR i y _ _ h ((But.of s4).trans But.upd)) (.cons (hR i y _ _ r But.upd) .nil)
  · obtain ⟨sm, ys, eD, pr⟩ := p
    exact hd ys H' sm eD pr
theorem lc_gen {J : It} {n : Nat} {G : Hp → Prop} {item : Nat → V} (wk : Walk J n G (fun i H x H' => H' = H ∧ x = item i)) {j : Nat} {tt : TT} {te : TE} {vs : List Nat} {σ : L2.St} {H1 : Hp} {D : Addr} {Qd : Hp → Prop}
    (b : Nat → Bool) (R : Nat → V → Hp → Prop) (hD : H1 D = none) (hn : n ≤ 1000000) (hG : ∀ H', Same H1 H' → G H') (hR : ∀ i y H H', R i y H → But D H H' → R i y H')
    (ht : ∀ i H', i < n → Same H1 H' → ∀ Q' : Bool → Hp → Prop, (∀ H3, Same H' H3 → Q' (b i) H3) → tt ((wipe σ vs).set j (some (item i))) H' Q')
    (he : ∀ i H', i < n → b i = true → Same H1 H' → ∀ Q' : V → Hp → Prop, (∀ y H3, Same H' H3 → R i y H3 → Q' y H3) → te ((wipe σ vs).set j (some (item i))) H' Q')
    (hd : ∀ ys H', Same H1 H' → H' D = some (.lst ys) → Paired (fun i y => R i y H') ((List.range n).filter b) ys → Qd H')
    (hw : ∀ x : Option V, wipe ((wipe σ vs).set j x) vs = wipe σ vs := by intro _; rfl) :
    ∃ W : Nat → Nat → Hp → Prop, (∃ m, W 0 m (upd H1 D (.lst []))) ∧ ∀ i m H, W i m H →
      (J.stop i H ∧ Qd H) ∨ (J.go i H ∧ ∃ Nx : Hp → Prop, (∀ H', Nx H' → ∃ m', m' < m ∧ W (i + 1) m' H') ∧ ∀ x H', J.yld i H x H' → (gName j) x (wipe σ vs) H' fun σ2 H2 => wipe σ2 vs = wipe σ vs ∧ tt σ2 H2 fun b H3 =>
        if b = true then te σ2 H3 fun y H4 => ∃ acc, H4 D = some (.lst acc) ∧ acc.length < sizeLine ∧ Nx (upd H4 D (.lst (acc ++ [y]))) else Nx H3) :=
  lc_genD wk b R hD hn hG hR ht (fun i H' hi hb sm _ => he i H' hi hb sm) hd hw
theorem walk_rng {lo : Int} {n : Nat} : Walk (Itr lo n) n (fun _ => True) (fun i H x H' => H' = H ∧ x = .int (lo + i)) := walk_range
theorem walk_lst {K : PySem.W.Frag} {a : Addr} {xs : List V} : Walk (Itl K a) xs.length (fun H => SqL K H a xs) (fun i H x H' => H' = H ∧ x = xs.getD i .non) :=
  walk_list.mono (fun _ h => h) fun i H x H' _ _ y => ⟨y.1, by rw [List.getD_eq_getElem?_getD, y.2]; rfl⟩
theorem walk_tpl {K : PySem.W.Frag} {a : Addr} {xs : List V} : Walk (Itt K a) xs.length (fun H => SqT K H a xs) (fun i H x H' => H' = H ∧ x = xs.getD i .non) :=
  walk_tup.mono (fun _ h => h) fun i H x H' _ _ y => ⟨y.1, by rw [List.getD_eq_getElem?_getD, y.2]; rfl⟩
end My
namespace My
open PySem PySem.Spec PyProof.Rows L2
section
variable {K : PySem.W.Frag} {H : Hp} {a : Addr} {xs : List V} {Q : VK} {i : Int}
theorem ty_tup (h : SqT K H a xs) : TyX K H (.ref a) (.type "tuple") := by
  rcases h with (h | ⟨o, h⟩) | ⟨o, _, _, h, c, _⟩
  · exact .base (.tup h)
  · exact .fTuple h
  · exact .kTuple h c
theorem kTT : PySem.W.kitOne K (.type "tuple") (.type "tuple") = some true := kit_ty (by decide +kernel)
theorem kTI : PySem.W.kitOne K (.type "tuple") (.type "int") = some false := kit_ty (by decide +kernel)
theorem kII : PySem.W.kitOne K (.type "int") (.type "int") = some true := kit_ty (by decide +kernel)
theorem kIB : PySem.W.kitOne K (.type "int") (.type "bool") = some false := kit_ty (by decide +kernel)
end
theorem bt_len : bootBuiltins "len" = some (.builtin "len") := PySem.boot_len
theorem bt_isinstance : bootBuiltins "isinstance" = some (.builtin "isinstance") := by decide +kernel
theorem bt_sum : bootBuiltins "sum" = some (.builtin "sum") := by decide +kernel
theorem bt_max : bootBuiltins "max" = some (.builtin "max") := by decide +kernel
theorem bt_min : bootBuiltins "min" = some (.builtin "min") := by decide +kernel
theorem bt_repr : bootBuiltins "repr" = some (.builtin "repr") := by decide +kernel
theorem bt_tuple : bootBuiltins "tuple" = some (.type "tuple") := by decide +kernel
theorem bt_list : bootBuiltins "list" = some (.type "list") := by decide +kernel
theorem bt_int : bootBuiltins "int" = some (.type "int") := by decide +kernel
theorem bt_bool : bootBuiltins "bool" = some (.type "bool") := by decide +kernel
end My
set_option Elab.async false
set_option linter.all false
set_option maxRecDepth 100000
set_option maxHeartbeats 2000000
/-! rules with the written part told, for blocks of comprehensions -/
namespace My
open PySem PySem.Spec PyProof.Rows L2
section
variable {X : Cx} {K : PySem.W.Frag}
theorem ix_lK (K : PySem.W.Frag) (h : X.K = K := by rfl) : IxR X (rIxL K) := by subst h; exact ix_list
theorem ix_tK (K : PySem.W.Frag) (h : X.K = K := by rfl) : IxR X (rIxT K) := by subst h; exact ix_tup
theorem op_inK (K : PySem.W.Frag) (h : X.K = K := by rfl) : OpR X (compareOp .In) (rIn K false) := by subst h; exact op_in_seq
theorem op_ninK (K : PySem.W.Frag) (h : X.K = K := by rfl) : OpR X (compareOp .NotIn) (rIn K true) := by subst h; exact op_notIn_seq
theorem op_eqDK (K : PySem.W.Frag) (hu : X.A.units + 64 < cLine) (h : X.K = K := by rfl) : OpR X (compareOp .Eq) (rEqD K) := by subst h; exact op_eqD hu
theorem op_neDK (K : PySem.W.Frag) (hu : X.A.units + 64 < cLine) (h : X.K = K := by rfl) : OpR X (compareOp .NotEq) (rNeD K) := by subst h; exact op_neD hu
theorem op_catAK (K : PySem.W.Frag) (h : X.K = K := by rfl) : OpR X (binaryOp .Add) (rCatA K) := by subst h; exact op_catA
def rLen (K : PySem.W.Frag) : List V → Hp → VK → Prop := fun xs H Q => ∃ p ys, xs = [.ref p] ∧ (SqL K H p ys ∨ SqT K H p ys) ∧ Q (.int ys.length) H
theorem c_lenK (K : PySem.W.Frag) (h : X.K = K := by rfl) : CallR X (.builtin "len") (rLen K) := by subst h; exact call_len_seq
theorem c_isiK (K : PySem.W.Frag) (h : X.K = K := by rfl) : CallR X (.builtin "isinstance") (rIsi K) := by subst h; exact call_isi
theorem c_sumK (K : PySem.W.Frag) (hc : X.calm = true) (h : X.K = K := by rfl) : CallR X (.builtin "sum") (rSum K) := by subst h; exact cr_sum hc
theorem c_maxK (K : PySem.W.Frag) (hc : X.calm = true) (h : X.K = K := by rfl) : CallR X (.builtin "max") (rMax K) := by subst h; exact cr_max hc
theorem c_minK (K : PySem.W.Frag) (hc : X.calm = true) (h : X.K = K := by rfl) : CallR X (.builtin "min") (rMin K) := by subst h; exact cr_min hc
def rMax2 : List V → Hp → VK → Prop := fun xs H Q => ∃ i j, xs = [.int i, .int j] ∧ Q (.int (if j > i then j else i)) H
theorem c_max2 (hc : X.calm = true) : CallR X (.builtin "max") rMax2 := call_max2 hc
def rList (K : PySem.W.Frag) : List V → Hp → VK → Prop := fun xs H Q => ∃ p ys, xs = [.ref p] ∧ (SqL K H p ys ∨ SqT K H p ys) ∧ ∀ l, H l = none → Q (.ref l) (upd H l (.lst ys))
theorem c_listK (K : PySem.W.Frag) (h : X.K = K := by rfl) : CallR X (.type "list") (rList K) := by subst h; exact call_list_of
def rInt : List V → Hp → VK → Prop := fun xs H Q => (∃ i, xs = [.int i] ∧ Q (.int i) H) ∨ ∃ k, xs = [.bl k] ∧ Q (.int (if k then 1 else 0)) H
theorem c_int : CallR X (.type "int") rInt := call_int1
variable {tg l a e e2 : Expr} {tl ta te : TE} {t2 : TA} {p pos tpos : Pos} {elts : List Expr} {kk : Nat}
theorem pi_lK (K : PySem.W.Frag) (hl : PE X l tl) (h : X.K = K := by rfl) : PI X tg l (iList K tl) := by subst h; exact pi_list hl
theorem pi_tK (K : PySem.W.Frag) (hl : PE X l tl) (h : X.K = K := by rfl) : PI X tg l (iTup K tl) := by subst h; exact pi_tup hl
theorem pi_zK (K : PySem.W.Frag) (hg : Gl X "zip") (hm : X.mg "zip" = none) (ha : PA X [e, e2] t2) (h : X.K = K := by rfl) (hs : starEach [e, e2] X.env = (false, eval e X.env) :: starEach [e2] X.env := by rfl) (hpl : (backTo pos (starEach [e2] X.env)).any (·.1) = false := by rfl) :
    PI X (.Tuple elts kk tpos) (.Call (.Name "zip" p) [e, e2] [] pos) (iZip K t2) := by subst h; exact pi_zip hg hm ha hs hpl
theorem pe_tupK (K : PySem.W.Frag) (hg : Gl X "tuple") (hm : X.mg "tuple" = none) (ha : PE X a ta) (h : X.K = K := by rfl) (na : starEach [a] X.env = (false, eval a X.env) :: starEach [] X.env := by rfl) :
    PE X (.Call (.Name "tuple" p) [a] [] pos) (tThen ta (kTup K)) := by subst h; exact pe_tupleOf hg hm ha na
theorem pg_tK {es : List Expr} {k : Nat} {t : TGs} {n : Nat} (K : PySem.W.Frag) (hc : X.calm = true) (h : PGs X es t) (hK : X.K = K := by rfl)
    (hn : (assignEach es X.env).length = n := by rfl) (hst : (assignEach es X.env).findIdx? (·.1) = none := by rfl) : PG X (.Tuple es k pos) (gTup K n t) := by subst hK; exact pg_tup hc h hn hst
theorem pi_eK (K : PySem.W.Frag) (hg : Gl X "enumerate") (hm : X.mg "enumerate" = none) (ha : PA X [e] t2) (h : X.K = K := by rfl) (hs : starEach [e] X.env = [(false, eval e X.env)] := by rfl) :
    PI X (.Tuple elts kk tpos) (.Call (.Name "enumerate" p) [e] [] pos) (iEnumT K t2) := by subst h; exact pi_enumT hg hm ha hs
end
end My
set_option Elab.async false
set_option linter.all false
set_option maxRecDepth 100000
set_option maxHeartbeats 2000000
/-! what stays while dicts change; totals as dicts; speeches as data -/
namespace My
open PySem PySem.Spec PyProof.Rows L2 Bs
/-- tuples, lists and known things stay -/
structure Seqs (H H' : Hp) : Prop where
  tup : ∀ b xs, H b = some (.tup xs) → H' b = some (.tup xs)
  lst : ∀ b xs, H b = some (.lst xs) → H' b = some (.lst xs)
  frz : ∀ b o u, H b = some (.frz o u) → H' b = some (.frz o u)
theorem Seqs.refl (H : Hp) : Seqs H H := ⟨fun _ _ h => h, fun _ _ h => h, fun _ _ _ h => h⟩
theorem Seqs.trans {H H1 H2 : Hp} (a : Seqs H H1) (b : Seqs H1 H2) : Seqs H H2 := ⟨fun c x h => b.tup c x (a.tup c x h), fun c x h => b.lst c x (a.lst c x h), fun c o u h => b.frz c o u (a.frz c o u h)⟩
theorem _root_.L2.Same.seqs {H H' : Hp} (e : Same H H') : Seqs H H' := ⟨fun b _ => e b _, fun b _ => e b _, fun b _ _ => e b _⟩
/-- a dict changes -/
theorem Seqs.dict {H : Hp} {d : Addr} {o u : HO} (h : H d = some u) (hu : match u with | .tup _ => False | .lst _ => False | .frz _ _ => False | _ => True) : Seqs H (upd H d o) := by
  have ne : ∀ b v, H b = some v → (match v with | .tup _ => True | .lst _ => True | .frz _ _ => True | _ => False) → b ≠ d := fun b v hb hv z => by
    subst z
    have e := h.symm.trans hb
    have e := Option.some.inj e
    subst e
    cases u <;> first | exact hu | exact hv
  exact ⟨fun b xs hb => by rw [upd_ne (ne b _ hb trivial)]; exact hb, fun b xs hb => by rw [upd_ne (ne b _ hb trivial)]; exact hb, fun b xs u hb => by rw [upd_ne (ne b _ hb trivial)]; exact hb⟩
theorem Seqs.sqT {K : PySem.W.Frag} {H H' : Hp} {a : Addr} {xs : List V} (e : Seqs H H') (h : SqT K H a xs) : SqT K H' a xs := by
  rcases h with (h | ⟨o, h⟩) | h
  · exact .inl (.inl (e.tup _ _ h))
  · exact .inl (.inr ⟨o, e.frz _ _ _ h⟩)
  · exact .inr h
theorem Seqs.sqL {K : PySem.W.Frag} {H H' : Hp} {a : Addr} {xs : List V} (e : Seqs H H') (h : SqL K H a xs) : SqL K H' a xs := by
  rcases h with (h | ⟨o, h⟩) | h
  · exact .inl (.inl (e.lst _ _ h))
  · exact .inl (.inr ⟨o, e.frz _ _ _ h⟩)
  · exact .inr h
mutual
theorem dp_seqs {K : PySem.W.Frag} {H H' : Hp} (e : Seqs H H') : ∀ {d : PyData} {v : V}, Dp K H v d → Dp K H' v d
  | .none, _, h => by cases h; exact .non
  | .bool b, _, h => by cases h; exact .bl b
  | .int i, _, h => by cases h; exact .int i
  | .str x, _, h => by cases h; exact .str x
  | .list ds, _, h => by
    cases h with
    | lst hs ha => exact .lst (e.sqL hs) (dps_seqs e ha)
  | .tuple ds, _, h => by
    cases h with
    | tup hs ha => exact .tup (e.sqT hs) (dps_seqs e ha)
  | .dict _, _, h => by cases h
theorem dps_seqs {K : PySem.W.Frag} {H H' : Hp} (e : Seqs H H') : ∀ {ds : List PyData} {vs : List V}, DpAll K H vs ds → DpAll K H' vs ds
  | [], _, h => by cases h; exact .nil
  | d :: ds, _, h => by
    cases h with
    | cons h1 h2 => exact .cons (dp_seqs e h1) (dps_seqs e h2)
end
/-! ### totals as dicts -/
def mK (m : Nat) : Key := .inl (m : Int)
theorem mK_inj {a b : Nat} : mK a = mK b ↔ a = b := by
  constructor
  · intro h
    exact Int.ofNat.inj (Sum.inl.inj h)
  · intro h
    rw [h]
def enc (t : List (Nat × Nat)) : List (Key × V) := t.map fun p => (mK p.1, V.int (p.2 : Int))
theorem valV_enc (t : List (Nat × Nat)) (m : Nat) : valV (enc t) (mK m) = (tget t m).map fun (v : Nat) => V.int (v : Int) := by
  induction t with
  | nil => rfl
  | cons p t ih =>
    rw [tget_cons]
    unfold enc
    rw [List.map_cons]
    by_cases h : p.1 = m
    · rw [valV_pos (p := (mK p.1, V.int (p.2 : Int))) (mK_inj.mpr h), if_pos h]
      rfl
    · rw [valV_neg (p := (mK p.1, V.int (p.2 : Int))) (fun z => h (mK_inj.mp z)), if_neg h]
      exact ih
theorem putK_enc (t : List (Nat × Nat)) (m v : Nat) : putK (enc t) (mK m) (.int (v : Int)) = enc (tput t m v) := by
  unfold putK tput
  rw [valV_any, valV_enc, Option.isSome_map]
  split
  · unfold enc
    rw [List.map_map, List.map_map]
    refine List.map_congr_left fun p _ => ?_
    simp only [Function.comp]
    by_cases h : p.1 = m
    · rw [if_pos h, if_pos (mK_inj.mpr h)]
    · rw [if_neg h, if_neg (fun z => h (mK_inj.mp z))]
  · unfold enc
    rw [List.map_append]
    rfl
theorem enc_len (t : List (Nat × Nat)) : (enc t).length = t.length := by
  unfold enc
  rw [List.length_map]
/-- d[m] = d.get(m, 0) + v -/
theorem enc_add (t : List (Nat × Nat)) (m v : Nat) : putK (enc t) (mK m) (.int ((((tget t m).getD 0 + v : Nat)) : Int)) = enc (tadd t (m, v)) := putK_enc _ _ _
theorem getD_enc (t : List (Nat × Nat)) (m : Nat) : ((tget t m).map fun (v : Nat) => V.int (v : Int)).getD (.int 0) = .int (((tget t m).getD 0 : Nat) : Int) := by
  cases tget t m <;> rfl
/-! ### speeches as data -/
def lotD (l : List Nat) : PyData := .tuple (l.map fun (n : Nat) => PyData.int (n : Int))
def tkD : Tk → PyData
  | .fin m => .int (m : Int)
  | .row l t u => .tuple [.str "row", lotD l, tkD t, tkD u]
  | .col l t u => .tuple [.str "column", lotD l, tkD t, tkD u]
theorem dps_ints {K : PySem.W.Frag} {H : Hp} : ∀ l : List Nat, DpAll K H (nI l) (l.map fun (n : Nat) => PyData.int (n : Int))
  | [] => .nil
  | n :: l => .cons (.int _) (dps_ints l)
theorem dp_lot {K : PySem.W.Frag} {H : Hp} {a : Addr} {l : List Nat} (h : SqT K H a (nI l)) : Dp K H (.ref a) (lotD l) := .tup h (dps_ints l)
end My
set_option Elab.async false
set_option linter.all false
set_option maxRecDepth 100000
set_option maxHeartbeats 2000000
/-! places_in -/
namespace My
open PySem PySem.Spec PyProof.Rows L2 Bs
theorem bl_le (n : Nat) (h : n < 16) : Builtin.Int.intBits (n : Int) ≤ 4 := by
  have : ∀ n : Fin 16, Builtin.Int.intBits ((n : Nat) : Int) ≤ 4 := by decide +kernel
  exact this ⟨n, h⟩
theorem and_one (n i : Nat) (h : n < 16) (hi : i < 4) : decide (V.int (Builtin.bitAnd ((n : Int) / 2 ^ (0 + (i : Int)).toNat) 1) = V.int 1) = decide (n / 2 ^ i % 2 = 1) := by
  have : ∀ n : Fin 16, ∀ i : Fin 4, decide (V.int (Builtin.bitAnd (((n : Nat) : Int) / 2 ^ (0 + ((i : Nat) : Int)).toNat) 1) = V.int 1) = decide ((n : Nat) / 2 ^ (i : Nat) % 2 = 1) := by decide +kernel
  exact this ⟨n, h⟩ ⟨i, hi⟩
theorem bits_eq (n : Nat) (h : n < 16) : ((List.range (((Builtin.Int.intBits (n : Int) : Nat) : Int).toNat)).filter fun i => decide (n / 2 ^ i % 2 = 1)).map (fun (i : Nat) => V.int (i : Int)) = nI (bits n) := by
  have : ∀ n : Fin 16, ((List.range (((Builtin.Int.intBits ((n : Nat) : Int) : Nat) : Int).toNat)).filter fun i => decide ((n : Nat) / 2 ^ i % 2 = 1)).map (fun (i : Nat) => V.int (i : Int)) = nI (bits n) := by decide +kernel
  exact this ⟨n, h⟩
section
variable {P : Program} {w : World} {K : PySem.W.Frag} {mg : Str → Option Value} {base : Heap}
/-! ### places_in -/
abbrev sPlacesIn : Stmt := topS 25
abbrev nPlacesIn : List Str := ["number", "place"]
theorem scPlacesIn : FnScope nPlacesIn ["number"] (defScope sPlacesIn) := ⟨rfl, rfl, rfl, by decide +kernel, rfl, by decide +kernel, by decide +kernel⟩
def spPlacesIn (K : PySem.W.Frag) : Sp := fun vs H Q _ => ∃ n : Nat, vs = [.int (n : Int)] ∧ n < 16 ∧ ∀ H' p, Same H H' → H p = none → H' p = some (.lst (nI (bits n))) → Q (.ref p) H'
theorem ok_PlacesIn {f : Addr} {fd : FuncData} (F : FnAt K mg "places_in" sPlacesIn ["number"] f fd) (T : Txt K mg) : FnOk P w K mg base CX0 1 f fd ["number"] (spPlacesIn K) := by
  refine F.at_.ok scPlacesIn (fun vs H Q E h => ?_) (fun cdv A outer s H vs Q E hr h => ?_)
  · obtain ⟨n, rfl, _⟩ := h
    rfl
  · obtain ⟨n, rfl, hn, q⟩ := h
    refine ⟨_, (pss_one (ps_ret (pe_lc (own := [("place", 1)]) rfl scPlacesIn.nd (pi_range1 (by rfl) T.range (pa_cons (pe_bits (pv 0)) pa_nil)) (blkOk_by (N := nPlacesIn) (sc := defScope sPlacesIn) (by decide +kernel)) (fun _ _ _ _ _ => pg_name (i := 1) scPlacesIn.nd rfl (Or.inl rfl)) (fun _ _ _ _ _ => pts_one (pt_cmpR op_eq (pe_op op_and (pe_op op_shr (pv 0) (pv 1)) pe_int) pe_int (nomark _))) (fun _ _ _ _ _ => pv 1)))), ?_⟩
    refine ⟨.int (n : Int), rfl, (n : Int), rfl, (Builtin.Int.intBits (n : Int) : Nat), rfl, by omega, ?_, fun D hD => ?_⟩
    · have := bl_le n hn
      omega
    refine lc_gen walk_rng (fun i => decide (n / 2 ^ i % 2 = 1)) (fun i y _ => y = .int (i : Int)) hD ?_ (fun _ _ => trivial) (fun _ _ _ _ h _ => h) (fun i H' hi sm Q' q' => ?_) (fun i H' hi hb sm Q' q' => ?_) fun ys H' sm eD pr => ?_
    · have := bl_le n hn
      show (Int.toNat _) ≤ _
      omega
    · refine ⟨.int (n : Int), rfl, .int (0 + (i : Int)), rfl, (n : Int), 0 + (i : Int), rfl, rfl, by omega, _, _, rfl, rfl, rfl, _, rfl, ?_⟩
      have e := and_one n i hn (by have := bl_le n hn; omega)
      exact Eq.mpr (congrArg (fun c => Q' c H') e) (q' _ (Same.refl _))
    · refine ⟨.int (0 + (i : Int)), rfl, q' _ _ (Same.refl _) ?_⟩
      rw [Int.zero_add]
    · refine q H' D sm hD ?_
      rw [eD, paired_eq pr]
      exact congrArg (fun l => some (HO.lst l)) (bits_eq n hn)
end
end My
set_option Elab.async false
set_option linter.all false
set_option maxRecDepth 100000
set_option maxHeartbeats 2000000
/-! the defs of fractions, and is_from -/
namespace My
open PySem PySem.Spec PyProof.Rows L2 Bs
/-- at v stands the pair q -/
def FracAt (K : PySem.W.Frag) (H : Hp) (v : V) (q : Nat × Nat) : Prop := ∃ a, v = .ref a ∧ SqT K H a [.int (q.1 : Int), .int (q.2 : Int)]
theorem FracAt.same {K : PySem.W.Frag} {H H' : Hp} {v : V} {q : Nat × Nat} (e : Same H H') (h : FracAt K H v q) : FracAt K H' v q := by
  obtain ⟨a, rfl, h⟩ := h
  exact ⟨a, rfl, e.tup h⟩
theorem fdivN (a b : Nat) : (a : Int).fdiv (b : Int) = ((a / b : Nat) : Int) := (Int.ofNat_fdiv a b).symm
theorem at0 {x y : V} : atI [x, y] 0 = some x := atI_nat (j := 0) rfl
theorem at1 {x y : V} : atI [x, y] 1 = some y := atI_nat (j := 1) rfl
section
variable {P : Program} {w : World} {K : PySem.W.Frag} {mg : Str → Option Value} {base : Heap}
/-! ### reduced_so -/
abbrev sReducedSo : Stmt := topS 9
abbrev nReducedSo : List Str := ["above", "below", "common"]
theorem scReducedSo : FnScope nReducedSo ["above", "below"] (defScope sReducedSo) := ⟨rfl, rfl, rfl, by decide +kernel, rfl, by decide +kernel, by decide +kernel⟩
def spReducedSo (K : PySem.W.Frag) : Sp := fun vs H Q _ => ∃ a b : Nat, vs = [.int (a : Int), .int (b : Int)] ∧ 0 < b ∧ b < 1000000 ∧ ∀ H' p, Same H H' → H p = none → H' p = some (.tup [.int ((red a b).1 : Int), .int ((red a b).2 : Int)]) → Q (.ref p) H'
theorem ok_ReducedSo {f : Addr} {fd : FuncData} (F : FnAt K mg "reduced_so" sReducedSo ["above", "below"] f fd) (T : Txt K mg) : FnOk P w K mg base CX0 1 f fd ["above", "below"] (spReducedSo K) := by
  refine F.at_.ok scReducedSo (fun vs H Q E h => ?_) (fun cdv A outer s H vs Q E hr h => ?_)
  · obtain ⟨a, b, rfl, _⟩ := h
    rfl
  · obtain ⟨a, b, rfl, hb, hb2, q⟩ := h
    refine ⟨_, (pss_cons (ps_set (i := 2) scReducedSo.nd rfl (Or.inl rfl) (pe_callBfun cr_gcd (by rfl) T.gcd (pa_cons (pv 0) (pa_cons (pv 1) pa_nil))))
      (pss_one (ps_ret (pe_tup (pa_cons (pe_op op_fdivN (pv 0) (pv 2)) (pa_cons (pe_op op_fdivN (pv 1) (pv 2)) pa_nil)))))), ?_⟩
    have hg : 0 < Nat.gcd a b := Nat.gcd_pos_of_pos_right _ hb
    have hl : Nat.gcd a b ≤ b := Nat.gcd_le_right _ hb
    have hc : CDivN (a : Int) ((Nat.gcd a b : Nat) : Int) := ⟨by omega, by omega⟩
    refine ⟨.int (a : Int), rfl, .int (b : Int), rfl, (a : Int), (b : Int), rfl, ?_⟩
    refine ⟨.int (a : Int), rfl, .int ((Nat.gcd a b : Nat) : Int), rfl, (a : Int), _, rfl, rfl, ⟨by omega, by omega⟩, .int (b : Int), rfl, .int ((Nat.gcd a b : Nat) : Int), rfl, (b : Int), _, rfl, rfl, ⟨by omega, by omega⟩, sz (by show 2 ≤ _; omega), fun p np => ?_⟩
    refine q _ p (Same.new np) np ?_
    rw [upd_same]
    show some (HO.tup [.int ((a : Int).fdiv ((Nat.gcd a b : Nat) : Int)), .int ((b : Int).fdiv ((Nat.gcd a b : Nat) : Int))]) = _
    rw [fdivN, fdivN]
    rfl
/-! ### plus_so -/
abbrev sPlusSo : Stmt := topS 11
abbrev nPlusSo : List Str := ["one", "other"]
theorem scPlusSo : FnScope nPlusSo ["one", "other"] (defScope sPlusSo) := ⟨rfl, rfl, rfl, by decide +kernel, rfl, by decide +kernel, by decide +kernel⟩
def spPlusSo (K : PySem.W.Frag) : Sp := fun vs H Q _ => ∃ (x y : V) (a b s : Nat), vs = [x, y] ∧ FracAt K H x (red a s) ∧ FracAt K H y (red b s) ∧ 0 < s ∧ s ≤ 900 ∧ a ≤ 900 ∧ b ≤ 900 ∧
  ∀ H' p, Same H H' → H p = none → H' p = some (.tup [.int ((red (a + b) s).1 : Int), .int ((red (a + b) s).2 : Int)]) → Q (.ref p) H'
theorem ok_PlusSo {f : Addr} {fd : FuncData} (F : FnAt K mg "plus_so" sPlusSo ["one", "other"] f fd) (T : Txt K mg) {fReducedSo : Addr} {dReducedSo : FuncData} (F_ReducedSo : FnAt K mg "reduced_so" sReducedSo ["above", "below"] fReducedSo dReducedSo) (G_ReducedSo : FnOk P w K mg base CX0 1 fReducedSo dReducedSo ["above", "below"] (spReducedSo K)) : FnOk P w K mg base CX0 2 f fd ["one", "other"] (spPlusSo K) := by
  refine F.at_.ok scPlusSo (fun vs H Q E h => ?_) (fun cdv A outer s H vs Q E hr h => ?_)
  · obtain ⟨x, y, a, b, s, rfl, _⟩ := h
    rfl
  · obtain ⟨x, y, a, b, s, rfl, ⟨px, rfl, hx⟩, ⟨py, rfl, hy⟩, hs, hs2, ha, hb, q⟩ := h
    refine ⟨_, (pss_one (ps_ret (pe_cl F_ReducedSo G_ReducedSo (hr.mono (by decide)) (pa_cons (pe_op op_add (pe_op op_mul (pe_ix (ix_tK K) (pv 0) pe_int (fun _ _ => rfl)) (pe_ix (ix_tK K) (pv 1) pe_int (fun _ _ => rfl))) (pe_op op_mul (pe_ix (ix_tK K) (pv 1) pe_int (fun _ _ => rfl)) (pe_ix (ix_tK K) (pv 0) pe_int (fun _ _ => rfl)))) (pa_cons (pe_op op_mul (pe_ix (ix_tK K) (pv 0) pe_int (fun _ _ => rfl)) (pe_ix (ix_tK K) (pv 1) pe_int (fun _ _ => rfl))) pa_nil))))), ?_⟩
    obtain ⟨a1, a2⟩ := red_le a s
    obtain ⟨b1, b2⟩ := red_le b s
    have p1 := red_pos (a := a) hs
    have p2 := red_pos (a := b) hs
    have hm : (red a s).2 * (red b s).2 ≤ 900 * 900 := Nat.mul_le_mul (by omega) (by omega)
    refine ⟨_, rfl, px, _, _, _, rfl, rfl, hx, at0, _, rfl, py, _, _, _, rfl, rfl, hy, at1, _, _, rfl, rfl, .inl ⟨by omega, by omega⟩, ?_⟩
    refine ⟨_, rfl, py, _, _, _, rfl, rfl, hy, at0, _, rfl, px, _, _, _, rfl, rfl, hx, at1, _, _, rfl, rfl, .inl ⟨by omega, by omega⟩, ?_⟩
    refine ⟨_, _, rfl, rfl, ?_⟩
    refine ⟨_, rfl, px, _, _, _, rfl, rfl, hx, at1, _, rfl, py, _, _, _, rfl, rfl, hy, at1, _, _, rfl, rfl, .inl ⟨by omega, by omega⟩, ?_⟩
    refine ⟨(red a s).1 * (red b s).2 + (red b s).1 * (red a s).2, (red a s).2 * (red b s).2, rfl, Nat.mul_pos p1 p2, by omega, ?_⟩
    rw [red_plus hs]
    exact q
/-! ### sum_so -/
abbrev sSumSo : Stmt := topS 12
abbrev nSumSo : List Str := ["some", "found", "one"]
theorem scSumSo : FnScope nSumSo ["some"] (defScope sSumSo) := ⟨rfl, rfl, rfl, by decide +kernel, rfl, by decide +kernel, by decide +kernel⟩
/-- the things of a list are the fractions of whole numbers to s -/
def Fracs (K : PySem.W.Frag) (H : Hp) (s : Nat) (vs : List V) (ws : List Nat) : Prop := Paired (fun v a => FracAt K H v (red a s)) vs ws
def spSumSo (K : PySem.W.Frag) : Sp := fun vs H Q _ => ∃ (p : Addr) (xs : List V) (ws : List Nat) (s : Nat), vs = [.ref p] ∧ SqL K H p xs ∧ Fracs K H s xs ws ∧ 0 < s ∧ s ≤ 900 ∧ ws.sum ≤ 900 ∧
  ∀ H' v, Same H H' → FracAt K H' v (red ws.sum s) → Q v H'
theorem sum_take_le : ∀ (l : List Nat) (i : Nat), (l.take i).sum ≤ l.sum
  | [], i => by simp
  | a :: l, 0 => by simp
  | a :: l, i + 1 => by
    have := sum_take_le l i
    simp
    omega
theorem sum_take_succ {l : List Nat} {i a : Nat} (h : l[i]? = some a) : (l.take (i + 1)).sum = (l.take i).sum + a := by
  rw [List.take_add_one, h]
  simp
theorem ok_SumSo {f : Addr} {fd : FuncData} (F : FnAt K mg "sum_so" sSumSo ["some"] f fd) (T : Txt K mg) {fPlusSo : Addr} {dPlusSo : FuncData} (F_PlusSo : FnAt K mg "plus_so" sPlusSo ["one", "other"] fPlusSo dPlusSo) (G_PlusSo : FnOk P w K mg base CX0 2 fPlusSo dPlusSo ["one", "other"] (spPlusSo K)) : FnOk P w K mg base CX0 3 f fd ["some"] (spSumSo K) := by
  refine F.at_.ok scSumSo (fun vs H Q E h => ?_) (fun cdv A outer s H vs Q E hr h => ?_)
  · obtain ⟨p, xs, ws, s, rfl, _⟩ := h
    rfl
  · obtain ⟨p, xs, ws, n, rfl, hp, hf, hn, hn2, hw, q⟩ := h
    obtain ⟨a_NONE, m_NONE, hNone⟩ := T.none_
    refine ⟨_, (pss_cons (ps_set (i := 1) scSumSo.nd rfl (Or.inl rfl) (pe_glob (v := .ref a_NONE) (by rfl) m_NONE rfl))
      (pss_cons (ps_for PassesOwn.never rfl (pi_lK K (pv 0)) (pg_name (i := 2) scSumSo.nd rfl (Or.inl rfl)) 
          (pss_one (ps_set (i := 1) scSumSo.nd rfl (Or.inl rfl) (pe_cl F_PlusSo G_PlusSo (hr.mono (by decide)) (pa_cons (pv 1) (pa_cons (pv 2) pa_nil))))))
      (pss_one (ps_ret (pv 1))))), ?_⟩
    have hlen := Paired.length hf
    refine ⟨.ref p, rfl, p, rfl, ⟨_, hp⟩, for_it walk_lst (fun i σ H' => Same H H' ∧ ∃ v z, σ = [some (.ref p), some v, z] ∧ FracAt K H' v (red (ws.take i).sum n)) ?_ (fun i σ H' _ h => h.1.seq hp) (fun i x σ H2 H' hi h y => ?_) (fun σ H' h => ?_)⟩
    · refine ⟨Same.refl _, .ref a_NONE, none, rfl, a_NONE, rfl, ?_⟩
      rw [List.take_zero, List.sum_nil, red_zero hn]
      exact hNone _
    · obtain ⟨sm, v, z, rfl, hv⟩ := h
      obtain ⟨rfl, rfl⟩ := y
      have hi2 : i < ws.length := by omega
      obtain ⟨a, ha⟩ : ∃ a, ws[i]? = some a := ⟨_, List.getElem?_eq_getElem hi2⟩
      obtain ⟨b, hb, fr⟩ := paired_get hf (List.getElem?_eq_getElem hi)
      have e : a = b := Option.some.inj (ha.symm.trans hb)
      subst e
      have ex : xs.getD i .non = xs[i] := by rw [List.getD_eq_getElem?_getD, List.getElem?_eq_getElem hi]; rfl
      have h1 := sum_take_succ ha
      have h2 := sum_take_le ws (i + 1)
      rw [ex]
      refine ⟨v, rfl, xs[i], rfl, v, xs[i], (ws.take i).sum, a, n, rfl, hv, fr.same sm, hn, hn2, by omega, by omega, fun H3 r s3 nr hr => ⟨sm.trans s3, .ref r, some xs[i], rfl, r, rfl, ?_⟩⟩
      rw [h1]
      exact .inl (.inl hr)
    · obtain ⟨sm, v, z, rfl, hv⟩ := h
      refine ⟨v, rfl, q H' v sm ?_⟩
      rw [hlen, List.take_length] at hv
      exact hv
end
end My
set_option Elab.async false
set_option linter.all false
set_option maxRecDepth 100000
set_option maxHeartbeats 2000000
/-! is_from, is_fraction, all_items -/
namespace My
open PySem PySem.Spec PyProof.Rows L2 Bs
section
variable {P : Program} {w : World} {K : PySem.W.Frag} {mg : Str → Option Value} {base : Heap}
/-! ### is_from -/
abbrev sIsFrom : Stmt := topS 14
abbrev nIsFrom : List Str := ["value", "low", "high"]
theorem scIsFrom : FnScope nIsFrom ["value", "low", "high"] (defScope sIsFrom) := ⟨rfl, rfl, rfl, by decide +kernel, rfl, by decide +kernel, by decide +kernel⟩
def spIsFrom (K : PySem.W.Frag) : Sp := fun vs H Q _ => ∃ a lo hi : Int, vs = [.int a, .int lo, .int hi] ∧ lo ≤ a ∧ a ≤ hi ∧ Q (.bl true) H
theorem ok_IsFrom {f : Addr} {fd : FuncData} (F : FnAt K mg "is_from" sIsFrom ["value", "low", "high"] f fd) (T : Txt K mg) : FnOk P w K mg base CX0 1 f fd ["value", "low", "high"] (spIsFrom K) := by
  refine F.at_.ok scIsFrom (fun vs H Q E h => ?_) (fun cdv A outer s H vs Q E hr h => ?_)
  · obtain ⟨a, lo, hi, rfl, _⟩ := h
    rfl
  · obtain ⟨a, lo, hi, rfl, h1, h2, q⟩ := h
    refine ⟨_, (pss_one (ps_ret (pe_and (pe_callB (c_isiK K) (by rfl) T.isi bt_isinstance (pa_cons (pv 0) (pa_cons (pe_bltn (v := .ty "int") (by rfl) T.int bt_int rfl) pa_nil))) (pe_and (pe_not (pe_callB (c_isiK K) (by rfl) T.isi bt_isinstance (pa_cons (pv 0) (pa_cons (pe_bltn (v := .ty "bool") (by rfl) T.bool bt_bool rfl) pa_nil)))) (pe_one (pe_chain op_le op_le (pv 1) (pv 0) (pv 2))))))), ?_⟩
    refine ⟨_, rfl, _, _, _, _, true, rfl, .ty _, .base (.int _), kII, true, rfl, iteT ?_⟩
    refine ⟨_, rfl, _, _, _, _, false, rfl, .ty _, .base (.int _), kIB, false, rfl, true, rfl, iteT ?_⟩
    refine ⟨_, rfl, _, rfl, _, _, rfl, rfl, _, rfl, ?_⟩
    rw [decide_eq_true h1]
    refine iteT ⟨_, rfl, _, _, rfl, rfl, ?_⟩
    show Q (V.bl (decide (a ≤ hi))) H
    rw [decide_eq_true h2]
    exact q
/-! ### is_fraction -/
abbrev sIsFraction : Stmt := topS 10
abbrev nIsFraction : List Str := ["value", "item"]
theorem scIsFraction : FnScope nIsFraction ["value"] (defScope sIsFraction) := ⟨rfl, rfl, rfl, by decide +kernel, rfl, by decide +kernel, by decide +kernel⟩
def spIsFraction (K : PySem.W.Frag) : Sp := fun vs H Q _ => ∃ (v : V) (a s : Nat), vs = [v] ∧ FracAt K H v (red a s) ∧ 0 < s ∧ ∀ H', Same H H' → Q (.bl true) H'
theorem ok_IsFraction {f : Addr} {fd : FuncData} (F : FnAt K mg "is_fraction" sIsFraction ["value"] f fd) (T : Txt K mg) : FnOk P w K mg base CX0 1 f fd ["value"] (spIsFraction K) := by
  refine F.at_.ok scIsFraction (fun vs H Q E h => ?_) (fun cdv A outer s H vs Q E hr h => ?_)
  · obtain ⟨v, a, s, rfl, _⟩ := h
    rfl
  · obtain ⟨v, a, n, rfl, ⟨p, rfl, hp⟩, hn, q⟩ := h
    refine ⟨_, (pss_cons (ps_if (PW.pt (pw_or (pt_not (pt_val (pe_callB (c_isiK K) (by rfl) T.isi bt_isinstance (pa_cons (pv 0) (pa_cons (pe_bltn (v := .ty "tuple") (by rfl) T.tuple bt_tuple rfl) pa_nil))))) (pw_or1 (pt_cmpR op_ne (pe_callB (c_lenK K) (by rfl) T.len bt_len (pa_cons (pv 0) pa_nil)) pe_int (nomark _))))) 
          (pss_one (ps_ret pe_bl)) pss_nil)
      (pss_cons (ps_if (pt_cmpR op_gt (pe_callB (c_lenK K) (by rfl) T.len bt_len (pa_cons (pe_lc (own := [("item", 1)]) rfl scIsFraction.nd (pi_tK K (pv 0)) (blkOk_by (N := nIsFraction) (sc := defScope sIsFraction) (by decide +kernel)) (fun _ _ _ _ _ => pg_name (i := 1) scIsFraction.nd rfl (Or.inl rfl)) (fun _ _ _ _ _ => pts_one (PW.pt (pw_or (pt_not (pt_val (pe_callB (c_isiK K) (by rfl) T.isi bt_isinstance (pa_cons (pv 1) (pa_cons (pe_bltn (v := .ty "int") (by rfl) T.int bt_int rfl) pa_nil))))) (pw_or1 (pt_val (pe_callB (c_isiK K) (by rfl) T.isi bt_isinstance (pa_cons (pv 1) (pa_cons (pe_bltn (v := .ty "bool") (by rfl) T.bool bt_bool rfl) pa_nil)))))))) (fun _ _ _ _ _ => pe_int)) pa_nil)) pe_int (nomark _)) 
          (pss_one (ps_ret pe_bl)) pss_nil)
      (pss_one (ps_ret (pe_and (pe_cmpR op_ge (pe_ix (ix_tK K) (pv 0) pe_int (fun _ _ => rfl)) pe_int (nomark _)) (pe_one (pe_cmpR op_eq (pe_callBfun cr_gcd (by rfl) T.gcd (pa_cons (pe_ix (ix_tK K) (pv 0) pe_int (fun _ _ => rfl)) (pa_cons (pe_ix (ix_tK K) (pv 0) pe_int (fun _ _ => rfl)) pa_nil))) pe_int (nomark _)))))))), ?_⟩
    refine ⟨_, rfl, _, _, _, _, true, rfl, .ty _, ty_tup hp, kTT, true, rfl, iteF ?_⟩
    refine ⟨_, rfl, p, _, rfl, .inr hp, rfl, _, rfl, iteNS rfl ?_⟩
    refine ⟨_, rfl, p, rfl, ⟨_, hp⟩, fun D hD => lc_gen walk_tpl (fun _ => false) (fun _ _ _ => True) hD (by show 2 ≤ _; omega) (fun H' e => e.tup hp) (fun _ _ _ _ _ _ => trivial) (fun i H' hi sm Q' q' => ?_) (fun i H' hi hb => nomatch hb) fun ys H' sm eD pr => ?_⟩
    · have e : ∃ k : Int, ([V.int ((red a n).1 : Int), .int ((red a n).2 : Int)] : List V).getD i .non = .int k := by
        match i, hi with
        | 0, _ => exact ⟨_, rfl⟩
        | 1, _ => exact ⟨_, rfl⟩
      obtain ⟨k, e⟩ := e
      rw [e]
      refine ⟨_, rfl, _, _, _, _, true, rfl, .ty _, .base (.int _), kII, true, rfl, iteF ?_⟩
      exact ⟨_, rfl, _, _, _, _, false, rfl, .ty _, .base (.int _), kIB, false, rfl, q' _ (Same.refl _)⟩
    · have ey : ys = [] := List.eq_nil_of_length_eq_zero ((Paired.length pr).symm.trans rfl)
      subst ey
      refine ⟨D, _, rfl, .inl (.inl (.inl eD)), _, _, rfl, rfl, _, rfl, iteF ?_⟩
      have hq := sm.tup hp
      refine ⟨_, rfl, p, _, _, _, rfl, rfl, hq, at1, _, _, rfl, rfl, _, rfl, ?_⟩
      have p1 := red_pos (a := a) hn
      rw [decide_eq_true (show (1 : Int) ≤ ((red a n).2 : Int) by omega)]
      refine iteT ⟨_, rfl, p, _, _, _, rfl, rfl, hq, at0, _, rfl, p, _, _, _, rfl, rfl, hq, at1, _, _, rfl, rfl, ?_⟩
      have hc := red_cop (a := a) hn
      show Q (.bl (decide (V.int ((Nat.gcd (red a n).1 (red a n).2 : Nat) : Int) = V.int 1))) H'
      rw [hc]
      exact q H' sm
/-! ### all_items -/
abbrev sAllItems : Stmt := topS 24
abbrev nAllItems : List Str := ["lines", "found", "line"]
theorem scAllItems : FnScope nAllItems ["lines"] (defScope sAllItems) := ⟨rfl, rfl, rfl, by decide +kernel, rfl, by decide +kernel, by decide +kernel⟩
/-- at v stands a tuple of tuples, of such things -/
def Lines (K : PySem.W.Frag) (H : Hp) (v : V) (L : List (List V)) : Prop := ∃ a rs, v = .ref a ∧ SqT K H a rs ∧ Paired (fun r l => ∃ b, r = .ref b ∧ H b = some (.tup l)) rs L
theorem Lines.same {H H' : Hp} {v : V} {L : List (List V)} (e : Same H H') (h : Lines K H v L) : Lines K H' v L := by
  obtain ⟨a, rs, rfl, h1, h2⟩ := h
  exact ⟨a, rs, rfl, e.tup h1, Paired.mapP h2 fun r l ⟨b, e1, e2⟩ => ⟨b, e1, e _ _ e2⟩⟩
def spAllItems (K : PySem.W.Frag) : Sp := fun vs H Q _ => ∃ (v : V) (L : List (List V)), vs = [v] ∧ Lines K H v L ∧ L.flatten.length ≤ 1000 ∧ ∀ H' p, Same H H' → H p = none → H' p = some (.lst L.flatten) → Q (.ref p) H'
theorem flatten_take_succ {α : Type} {L : List (List α)} {i : Nat} {l : List α} (h : L[i]? = some l) : (L.take (i + 1)).flatten = (L.take i).flatten ++ l := by
  rw [List.take_add_one, h]
  simp
theorem flatten_take_len {α : Type} (L : List (List α)) (i : Nat) : (L.take i).flatten.length ≤ L.flatten.length := by
  have h : L.flatten = (L.take i).flatten ++ (L.drop i).flatten := by rw [← List.flatten_append, List.take_append_drop]
  rw [h, List.length_append]
  omega
theorem ok_AllItems {f : Addr} {fd : FuncData} (F : FnAt K mg "all_items" sAllItems ["lines"] f fd) (T : Txt K mg) : FnOk P w K mg base CX0 1 f fd ["lines"] (spAllItems K) := by
  refine F.at_.ok scAllItems (fun vs H Q E h => ?_) (fun cdv A outer s H vs Q E hr h => ?_)
  · obtain ⟨v, L, rfl, _⟩ := h
    rfl
  · obtain ⟨v, L, rfl, ⟨a, rs, rfl, ha, hr2⟩, hz, q⟩ := h
    refine ⟨_, (pss_cons (ps_set (i := 1) scAllItems.nd rfl (Or.inl rfl) (pe_lst pa_nil))
      (pss_cons (ps_for PassesOwn.never rfl (pi_tK K (pv 0)) (pg_name (i := 2) scAllItems.nd rfl (Or.inl rfl)) 
          (pss_one (ps_expr (pe_bm PySem.F.plainAttrs_list PySem.F.slot_list_extend PySem.F.type_list_extend mt_extT (pv 1) (pa_cons (pv 2) pa_nil)))))
      (pss_one (ps_ret (pv 1))))), ?_⟩
    have hlen := Paired.length hr2
    refine ⟨sz (by show 0 ≤ _; omega), fun p np => ?_⟩
    refine ⟨.ref a, rfl, a, rfl, ⟨_, (L2.Same.new np).tup ha⟩, for_it walk_tpl (fun i σ H' => Same H H' ∧ H' p = some (.lst (L.take i).flatten) ∧ ∃ z, σ = [some (.ref a), some (.ref p), z]) ?_ (fun i σ H' _ h => h.1.tup ha) (fun i x σ H2 H' hi h y => ?_) (fun σ H' h => ?_)⟩
    · refine ⟨L2.Same.new np, ?_, none, rfl⟩
      rw [upd_same, List.take_zero]
      rfl
    · obtain ⟨sm, ep, z, rfl⟩ := h
      obtain ⟨rfl, rfl⟩ := y
      obtain ⟨l, hl, b, eb, hb⟩ := paired_get hr2 (List.getElem?_eq_getElem hi)
      have ex : rs.getD i .non = .ref b := by rw [List.getD_eq_getElem?_getD, List.getElem?_eq_getElem hi, eb]; rfl
      have h1 := flatten_take_len L (i + 1)
      rw [flatten_take_succ hl, List.length_append] at h1
      rw [ex]
      refine ⟨.ref p, rfl, .inl ⟨rfl, _, .inl (.inl ep)⟩, .ref b, rfl, p, b, _, l, rfl, rfl, ep, sm _ _ hb, sz (by omega), sm.mut np, ?_, _, rfl⟩
      rw [upd_same, flatten_take_succ hl]
    · obtain ⟨sm, ep, z, rfl⟩ := h
      refine ⟨.ref p, rfl, q H' p sm np ?_⟩
      rw [ep, hlen, List.take_length]
end
end My
set_option Elab.async false
set_option linter.all false
set_option maxRecDepth 100000
set_option maxHeartbeats 2000000
/-! check_grid, check_small, is_odds -/
namespace My
open PySem PySem.Spec PyProof.Rows L2 Bs
/-- R rows of C things -/
def Shape {α : Type} (G : List (List α)) (R C : Nat) : Prop := G.length = R ∧ ∀ l ∈ G, l.length = C
def GridAt (K : PySem.W.Frag) (H : Hp) (v : V) (G : List (List Nat)) : Prop := Lines K H v (G.map nI)
theorem nI_len (l : List Nat) : (nI l).length = l.length := by
  unfold nI
  rw [List.length_map]
theorem nI_get {l : List Nat} {i : Nat} {v : V} (h : (nI l)[i]? = some v) : ∃ n : Nat, l[i]? = some n ∧ v = .int (n : Int) := by
  unfold nI at h
  rw [List.getElem?_map] at h
  obtain ⟨n, h1, h2⟩ := Option.map_eq_some_iff.mp h
  exact ⟨n, h1, h2.symm⟩
theorem map_get {α β : Type} {f : α → β} {l : List α} {i : Nat} {b : β} (h : (l.map f)[i]? = some b) : ∃ a, l[i]? = some a ∧ b = f a := by
  rw [List.getElem?_map] at h
  obtain ⟨n, h1, h2⟩ := Option.map_eq_some_iff.mp h
  exact ⟨n, h1, h2.symm⟩
/-- row i of lines -/
theorem lines_get {K : PySem.W.Frag} {H : Hp} {v : V} {L : List (List V)} (h : Lines K H v L) : ∃ (a : Addr) (rs : List V), v = .ref a ∧ SqT K H a rs ∧ rs.length = L.length ∧ ∀ (i : Nat) (r : V), rs[i]? = some r → ∃ (l : List V) (b : Addr), L[i]? = some l ∧ r = .ref b ∧ H b = some (.tup l) := by
  obtain ⟨a, rs, e, h1, h2⟩ := h
  refine ⟨a, rs, e, h1, Paired.length h2, fun i r hr => ?_⟩
  obtain ⟨l, hl, b, e1, e2⟩ := paired_get h2 hr
  exact ⟨l, b, hl, e1, e2⟩
theorem ge0 {xs : List V} {v : V} (h : xs[0]? = some v) : atI xs 0 = some v := atI_nat (j := 0) h
section
variable {P : Program} {w : World} {K : PySem.W.Frag} {mg : Str → Option Value} {base : Heap}
/-! ### check_grid -/
abbrev sCheckGrid : Stmt := topS 18
abbrev nCheckGrid : List Str := ["value", "place", "line", "spot", "item"]
theorem scCheckGrid : FnScope nCheckGrid ["value"] (defScope sCheckGrid) := ⟨rfl, rfl, rfl, by decide +kernel, rfl, by decide +kernel, by decide +kernel⟩
def spCheckGrid (K : PySem.W.Frag) : Sp := fun vs H Q _ => ∃ (v : V) (G : List (List Nat)) (R C : Nat), vs = [v] ∧ GridAt K H v G ∧ Shape G R C ∧ 1 ≤ R ∧ R ≤ 6 ∧ 1 ≤ C ∧ C ≤ 6 ∧ (∀ l ∈ G, ∀ x ∈ l, x ≤ 9) ∧ ∀ H', Same H H' → Q v H'
theorem ok_CheckGrid {f : Addr} {fd : FuncData} (F : FnAt K mg "check_grid" sCheckGrid ["value"] f fd) (T : Txt K mg) {fIsFrom : Addr} {dIsFrom : FuncData} (F_IsFrom : FnAt K mg "is_from" sIsFrom ["value", "low", "high"] fIsFrom dIsFrom) (G_IsFrom : FnOk P w K mg base CX0 1 fIsFrom dIsFrom ["value", "low", "high"] (spIsFrom K)) : FnOk P w K mg base CX0 2 f fd ["value"] (spCheckGrid K) := by
  refine F.at_.ok scCheckGrid (fun vs H Q E h => ?_) (fun cdv A outer s H vs Q E hr h => ?_)
  · obtain ⟨v, G, R, C, rfl, _⟩ := h
    rfl
  · obtain ⟨v, G, R, C, rfl, hg, ⟨hR, hC⟩, r1, r2, c1, c2, hx, q⟩ := h
    obtain ⟨a, rs, rfl, ha, hl, hrow⟩ := lines_get hg
    rw [List.length_map, hR] at hl
    refine ⟨_, (pss_cons (ps_if (PW.pt (pw_or (pt_not (pt_val (pe_callB (c_isiK K) (by rfl) T.isi bt_isinstance (pa_cons (pv 0) (pa_cons (pe_bltn (v := .ty "tuple") (by rfl) T.tuple bt_tuple rfl) pa_nil))))) (pw_or1 (pt_not (pt_chain op_le op_le pe_int (pe_callB (c_lenK K) (by rfl) T.len bt_len (pa_cons (pv 0) pa_nil)) (pe_gi T.sideH)))))) (pss_one ps_never) pss_nil)
      (pss_cons (ps_for PassesOwn.never rfl (pi_eK K (by rfl) T.enum (pa_cons (pv 0) pa_nil)) (pg_tK K rfl (pgs_cons (pg_name (i := 1) scCheckGrid.nd rfl (Or.inl rfl)) (pgs_cons (pg_name (i := 2) scCheckGrid.nd rfl (Or.inl rfl)) pgs_nil))) 
          (pss_cons (ps_if (PW.pt (pw_or (pt_not (pt_val (pe_callB (c_isiK K) (by rfl) T.isi bt_isinstance (pa_cons (pv 2) (pa_cons (pe_bltn (v := .ty "tuple") (by rfl) T.tuple bt_tuple rfl) pa_nil))))) (pw_or (pt_not (pt_chain op_le op_le pe_int (pe_callB (c_lenK K) (by rfl) T.len bt_len (pa_cons (pv 2) pa_nil)) (pe_gi T.sideH))) (pw_or1 (pt_cmpR op_ne (pe_callB (c_lenK K) (by rfl) T.len bt_len (pa_cons (pv 2) pa_nil)) (pe_callB (c_lenK K) (by rfl) T.len bt_len (pa_cons (pe_ix (ix_tK K) (pv 0) pe_int (fun _ _ => rfl)) pa_nil)) (nomark _)))))) (pss_one ps_never) pss_nil)
          (pss_one (ps_for PassesOwn.never rfl (pi_eK K (by rfl) T.enum (pa_cons (pv 2) pa_nil)) (pg_tK K rfl (pgs_cons (pg_name (i := 3) scCheckGrid.nd rfl (Or.inl rfl)) (pgs_cons (pg_name (i := 4) scCheckGrid.nd rfl (Or.inl rfl)) pgs_nil))) 
              (pss_one (ps_if (pt_not (pt_val (pe_cl F_IsFrom G_IsFrom (hr.mono (by decide)) (pa_cons (pv 4) (pa_cons pe_int (pa_cons (pe_gi T.mostI) pa_nil)))))) (pss_one ps_never) pss_nil))))))
      (pss_one (ps_ret (pv 0))))), ?_⟩
    have lenI : (rs.length : Int) = (R : Int) := by rw [hl]
    refine ⟨_, rfl, _, _, _, _, true, rfl, .ty _, ty_tup ha, kTT, true, rfl, iteF ?_⟩
    refine ⟨_, rfl, a, _, rfl, .inr ha, _, _, rfl, rfl, _, rfl, ?_⟩
    rw [decide_eq_true (show (1 : Int) ≤ (rs.length : Int) by omega)]
    refine iteT ⟨_, _, rfl, rfl, _, rfl, ?_⟩
    rw [decide_eq_true (show (rs.length : Int) ≤ 6 by omega)]
    refine iteF ?_
    -- the rows
    obtain ⟨r0, hr0⟩ : ∃ r, rs[0]? = some r := ⟨rs[0]'(by omega), List.getElem?_eq_getElem _⟩
    obtain ⟨l0, b0, hl0, rfl, hb0⟩ := hrow 0 r0 hr0
    obtain ⟨g0, hg0, rfl⟩ := map_get hl0
    have hg0C := hC g0 (List.mem_of_getElem? hg0)
    refine ⟨_, rfl, a, rs, rfl, ha, for_it walk_enumT (fun i σ H' => Same H H' ∧ ∃ z1 z2 z3 z4, σ = [some (.ref a), z1, z2, z3, z4]) ⟨Same.refl _, none, none, none, none, rfl⟩ (fun i σ H' _ h => h.1.tup ha) (fun i x σ H2 H' hi h y => ?_) (fun σ H' h => ?_)⟩
    · obtain ⟨sm, z1, z2, z3, z4, rfl⟩ := h
      obtain ⟨T1, x1, x2, rfl, nT, rfl, e1, e2⟩ := y
      obtain ⟨lv, b, hlv, rfl, hb⟩ := hrow i x2 e2
      obtain ⟨g, hgi, rfl⟩ := map_get hlv
      have hgm := List.mem_of_getElem? hgi
      have hgC := hC g hgm
      have s2 : Same H (upd H2 T1 (.tup [x1, .ref b])) := sm.trans (L2.Same.new nT)
      have tb : SqT K (upd H2 T1 (.tup [x1, .ref b])) b (nI g) := .inl (.inl (s2 _ _ hb))
      have tb0 : SqT K (upd H2 T1 (.tup [x1, .ref b])) b0 (nI g0) := .inl (.inl (s2 _ _ hb0))
      have nl : ((nI g).length : Int) = (C : Int) := by rw [nI_len, hgC]
      have nl0 : ((nI g0).length : Int) = (C : Int) := by rw [nI_len, hg0C]
      refine ⟨T1, [x1, .ref b], rfl, .inl (.inl upd_same), rfl, x1, [.ref b], rfl, .ref b, [], rfl, rfl, ?_⟩
      refine ⟨_, rfl, _, _, _, _, true, rfl, .ty _, ty_tup tb, kTT, true, rfl, iteF ?_⟩
      refine ⟨_, rfl, b, _, rfl, .inr tb, _, _, rfl, rfl, _, rfl, ?_⟩
      rw [decide_eq_true (show (1 : Int) ≤ ((nI g).length : Int) by omega)]
      refine iteT ⟨_, _, rfl, rfl, _, rfl, ?_⟩
      rw [decide_eq_true (show ((nI g).length : Int) ≤ 6 by omega)]
      refine iteF ?_
      refine ⟨_, rfl, b, _, rfl, .inr tb, _, rfl, a, rs, _, _, rfl, rfl, s2.tup ha, ge0 hr0, b0, _, rfl, .inr tb0, rfl, _, rfl, iteNS (by rw [nl, nl0]) ?_⟩
      refine ⟨_, rfl, b, _, rfl, tb, for_it walk_enumT (fun j σ H' => Same (upd H2 T1 (.tup [x1, .ref b])) H' ∧ ∃ z1 z2 z3, σ = [some (.ref a), z1, some (.ref b), z2, z3]) ⟨Same.refl _, _, _, _, rfl⟩ (fun j σ H' _ h => h.1.tup tb) (fun j x σ H3 H4 hj h y => ?_) (fun σ H' h => ?_)⟩
      · obtain ⟨sm3, y1, y2, y3, rfl⟩ := h
        obtain ⟨T2, w1, w2, rfl, nT2, rfl, e3, e4⟩ := y
        obtain ⟨n, hn, rfl⟩ := nI_get e4
        have hn9 := hx g hgm n (List.mem_of_getElem? hn)
        refine ⟨T2, [w1, .int (n : Int)], rfl, .inl (.inl upd_same), rfl, w1, [.int (n : Int)], rfl, .int (n : Int), [], rfl, rfl, ?_⟩
        refine ⟨_, rfl, (n : Int), 0, 9, rfl, by omega, by omega, true, rfl, iteF ⟨sm3.trans (L2.Same.new nT2), _, _, _, rfl⟩⟩
      · obtain ⟨sm3, y1, y2, y3, rfl⟩ := h
        exact ⟨s2.trans sm3, _, _, _, _, rfl⟩
    · obtain ⟨sm, z1, z2, z3, z4, rfl⟩ := h
      exact ⟨_, rfl, q H' sm⟩
/-! ### check_small -/
abbrev sCheckSmall : Stmt := topS 22
abbrev nCheckSmall : List Str := ["grid", "bits"]
theorem scCheckSmall : FnScope nCheckSmall ["grid", "bits"] (defScope sCheckSmall) := ⟨rfl, rfl, rfl, by decide +kernel, rfl, by decide +kernel, by decide +kernel⟩
def spCheckSmall (K : PySem.W.Frag) : Sp := fun vs H Q _ => ∃ (v : V) (G : List (List Nat)) (R C : Nat) (k : Nat), vs = [v, .int (k : Int)] ∧ GridAt K H v G ∧ Shape G R C ∧ 1 ≤ R ∧ R ≤ 4 ∧ 1 ≤ C ∧ C ≤ 4 ∧ (∀ l ∈ G, ∀ x ∈ l, x ≤ 9) ∧ k ≤ 2 ∧ ∀ H', Same H H' → Q .non H'
theorem ok_CheckSmall {f : Addr} {fd : FuncData} (F : FnAt K mg "check_small" sCheckSmall ["grid", "bits"] f fd) (T : Txt K mg) {fIsFrom : Addr} {dIsFrom : FuncData} (F_IsFrom : FnAt K mg "is_from" sIsFrom ["value", "low", "high"] fIsFrom dIsFrom) (G_IsFrom : FnOk P w K mg base CX0 1 fIsFrom dIsFrom ["value", "low", "high"] (spIsFrom K)) {fCheckGrid : Addr} {dCheckGrid : FuncData} (F_CheckGrid : FnAt K mg "check_grid" sCheckGrid ["value"] fCheckGrid dCheckGrid) (G_CheckGrid : FnOk P w K mg base CX0 2 fCheckGrid dCheckGrid ["value"] (spCheckGrid K)) : FnOk P w K mg base CX0 3 f fd ["grid", "bits"] (spCheckSmall K) := by
  refine F.at_.ok scCheckSmall (fun vs H Q E h => ?_) (fun cdv A outer s H vs Q E hr h => ?_)
  · obtain ⟨v, G, R, C, k, rfl, _⟩ := h
    rfl
  · obtain ⟨v, G, R, C, k, rfl, hg, ⟨hR, hC⟩, r1, r2, c1, c2, hx, hk, q⟩ := h
    refine ⟨_, (pss_cons (ps_expr (pe_cl F_CheckGrid G_CheckGrid (hr.mono (by decide)) (pa_cons (pv 0) pa_nil)))
      (pss_cons (ps_if (PW.pt (pw_or (pt_cmpR op_gt (pe_callB (c_lenK K) (by rfl) T.len bt_len (pa_cons (pv 0) pa_nil)) (pe_gi T.sideC) (nomark _)) (pw_or1 (pt_cmpR op_gt (pe_callB (c_lenK K) (by rfl) T.len bt_len (pa_cons (pe_ix (ix_tK K) (pv 0) pe_int (fun _ _ => rfl)) pa_nil)) (pe_gi T.sideC) (nomark _))))) (pss_one ps_never) pss_nil)
      (pss_one (ps_if (pt_not (pt_val (pe_cl F_IsFrom G_IsFrom (hr.mono (by decide)) (pa_cons (pv 1) (pa_cons pe_int (pa_cons (pe_gi T.bits) pa_nil)))))) (pss_one ps_never) pss_nil)))), ?_⟩
    refine ⟨v, rfl, v, G, R, C, rfl, hg, ⟨hR, hC⟩, r1, by omega, c1, by omega, hx, fun H' sm => ?_⟩
    obtain ⟨a, rs, rfl, ha, hl, hrow⟩ := lines_get (hg.same sm)
    rw [List.length_map, hR] at hl
    obtain ⟨r0, hr0⟩ : ∃ r, rs[0]? = some r := ⟨rs[0]'(by omega), List.getElem?_eq_getElem _⟩
    obtain ⟨l0, b0, hl0, rfl, hb0⟩ := hrow 0 r0 hr0
    obtain ⟨g0, hg0, rfl⟩ := map_get hl0
    have hg0C := hC g0 (List.mem_of_getElem? hg0)
    have nl0 : ((nI g0).length : Int) = (C : Int) := by rw [nI_len, hg0C]
    refine ⟨_, rfl, a, _, rfl, .inr ha, _, _, rfl, rfl, _, rfl, ?_⟩
    rw [decide_eq_false (show ¬ (4 : Int) < (rs.length : Int) by omega)]
    refine iteF ⟨_, rfl, a, rs, _, _, rfl, rfl, ha, ge0 hr0, b0, _, rfl, .inr (.inl (.inl hb0)), _, _, rfl, rfl, _, rfl, ?_⟩
    rw [decide_eq_false (show ¬ (4 : Int) < ((nI g0).length : Int) by omega)]
    refine iteF ⟨_, rfl, (k : Int), 0, 2, rfl, by omega, by omega, true, rfl, iteF (q H' sm)⟩
end
end My
set_option Elab.async false
set_option linter.all false
set_option maxRecDepth 100000
set_option maxHeartbeats 2000000
/-! is_odds, weights_of -/
namespace My
open PySem PySem.Spec PyProof.Rows L2 Bs
/-- at v stand the odds of the whole weights W, of s together -/
def OddsAt (K : PySem.W.Frag) (H : Hp) (v : V) (W : List (List Nat)) (s : Nat) : Prop := ∃ L, Lines K H v L ∧ Paired (fun l ws => Fracs K H s l ws) L W
theorem fracs_same {K : PySem.W.Frag} {H H' : Hp} {s : Nat} {l : List V} {ws : List Nat} (e : Same H H') (h : Fracs K H s l ws) : Fracs K H' s l ws := Paired.mapP h fun _ _ f => f.same e
theorem odds_same {K : PySem.W.Frag} {H H' : Hp} {v : V} {W : List (List Nat)} {s : Nat} (e : Same H H') (h : OddsAt K H v W s) : OddsAt K H' v W s := by
  obtain ⟨L, h1, h2⟩ := h
  exact ⟨L, h1.same e, Paired.mapP h2 fun _ _ f => fracs_same e f⟩
theorem paired_flat {α β : Type} {F : α → β → Prop} : ∀ {L : List (List α)} {M : List (List β)}, Paired (Paired F) L M → Paired F L.flatten M.flatten
  | _, _, .nil => .nil
  | _, _, .cons a b => by
    rw [List.flatten_cons, List.flatten_cons]
    exact paired_append a (paired_flat b)
theorem shape_flat {α : Type} : ∀ {G : List (List α)} {R C : Nat}, Shape G R C → G.flatten.length = R * C
  | [], R, C, h => by
    have : R = 0 := h.1.symm
    subst this
    simp
  | l :: G, R, C, h => by
    have h1 : G.length + 1 = R := h.1
    have h2 := h.2 l List.mem_cons_self
    have ih := shape_flat (G := G) (R := G.length) (C := C) ⟨rfl, fun x hx => h.2 x (List.mem_cons_of_mem _ hx)⟩
    rw [List.flatten_cons, List.length_append, ih, h2, ← h1, Nat.add_mul]
    omega
theorem paired_shape {α β : Type} {F : α → β → Prop} : ∀ {L : List (List α)} {M : List (List β)} {R C : Nat}, Paired (Paired F) L M → Shape M R C → Shape L R C
  | _, _, R, C, .nil, h => ⟨h.1, fun _ z => nomatch z⟩
  | l :: L, m :: M, R, C, .cons a b, h => by
    have ih := paired_shape (R := M.length) (C := C) b ⟨rfl, fun x hx => h.2 x (List.mem_cons_of_mem _ hx)⟩
    have h1 : M.length + 1 = R := h.1
    refine ⟨?_, fun x hx => ?_⟩
    · rw [List.length_cons, ih.1]
      exact h1
    · rcases List.mem_cons.mp hx with rfl | hx
      · rw [Paired.length a]
        exact h.2 m List.mem_cons_self
      · exact ih.2 x hx
section
variable {P : Program} {w : World} {K : PySem.W.Frag} {mg : Str → Option Value} {base : Heap}
/-! ### is_odds -/
abbrev sIsOdds : Stmt := topS 23
abbrev nIsOdds : List Str := ["grid", "value", "found", "row", "one"]
theorem scIsOdds : FnScope nIsOdds ["grid", "value"] (defScope sIsOdds) := ⟨rfl, rfl, rfl, by decide +kernel, rfl, by decide +kernel, by decide +kernel⟩
def spIsOdds (K : PySem.W.Frag) : Sp := fun vs H Q _ => ∃ (v u : V) (G W : List (List Nat)) (R C s : Nat), vs = [v, u] ∧ GridAt K H v G ∧ Shape G R C ∧ 1 ≤ R ∧ R ≤ 4 ∧ 1 ≤ C ∧ C ≤ 4 ∧ OddsAt K H u W s ∧ Shape W R C ∧ 0 < s ∧ s ≤ 900 ∧ W.flatten.sum = s ∧
  ∀ H', Same H H' → Q (.bl true) H'
theorem ok_IsOdds {f : Addr} {fd : FuncData} (F : FnAt K mg "is_odds" sIsOdds ["grid", "value"] f fd) (T : Txt K mg) {fIsFraction : Addr} {dIsFraction : FuncData} (F_IsFraction : FnAt K mg "is_fraction" sIsFraction ["value"] fIsFraction dIsFraction) (G_IsFraction : FnOk P w K mg base CX0 1 fIsFraction dIsFraction ["value"] (spIsFraction K)) {fSumSo : Addr} {dSumSo : FuncData} (F_SumSo : FnAt K mg "sum_so" sSumSo ["some"] fSumSo dSumSo) (G_SumSo : FnOk P w K mg base CX0 3 fSumSo dSumSo ["some"] (spSumSo K)) : FnOk P w K mg base CX0 4 f fd ["grid", "value"] (spIsOdds K) := by
  refine F.at_.ok scIsOdds (fun vs H Q E h => ?_) (fun cdv A outer s H vs Q E hr h => ?_)
  · obtain ⟨v, u, G, W, R, C, s, rfl, _⟩ := h
    rfl
  · obtain ⟨v, u, G, W, R, C, n, rfl, hg, ⟨hR, hC⟩, r1, r2, c1, c2, ho, hsh, n1, n2, hsum, q⟩ := h
    obtain ⟨a_WHOLE, m_WHOLE, hWhole⟩ := T.whole
    obtain ⟨a, rs, rfl, ha, hl, hrow⟩ := lines_get hg
    rw [List.length_map, hR] at hl
    obtain ⟨r0, hr0⟩ : ∃ r, rs[0]? = some r := ⟨rs[0]'(by omega), List.getElem?_eq_getElem _⟩
    obtain ⟨l0, b0, hl0, rfl, hb0⟩ := hrow 0 r0 hr0
    obtain ⟨g0, hg0, rfl⟩ := map_get hl0
    have hg0C := hC g0 (List.mem_of_getElem? hg0)
    have nl0 : ((nI g0).length : Int) = (C : Int) := by rw [nI_len, hg0C]
    obtain ⟨L, hL, hF⟩ := ho
    have shL := paired_shape hF hsh
    have flL := shape_flat shL
    have hRC : R * C ≤ 4 * 4 := Nat.mul_le_mul r2 c2
    obtain ⟨ao, os, rfl, hao, hol, horow⟩ := lines_get hL
    have hol2 : os.length = R := hol.trans shL.1
    refine ⟨_, (pss_cons (ps_if (PW.pt (pw_or (pt_not (pt_val (pe_callB (c_isiK K) (by rfl) T.isi bt_isinstance (pa_cons (pv 1) (pa_cons (pe_bltn (v := .ty "tuple") (by rfl) T.tuple bt_tuple rfl) pa_nil))))) (pw_or1 (pt_cmpR op_ne (pe_callB (c_lenK K) (by rfl) T.len bt_len (pa_cons (pv 1) pa_nil)) (pe_callB (c_lenK K) (by rfl) T.len bt_len (pa_cons (pv 0) pa_nil)) (nomark _))))) 
          (pss_one (ps_ret pe_bl)) pss_nil)
      (pss_cons (ps_set (i := 2) scIsOdds.nd rfl (Or.inl rfl) (pe_lst pa_nil))
      (pss_cons (ps_for PassesOwn.never rfl (pi_tK K (pv 1)) (pg_name (i := 3) scIsOdds.nd rfl (Or.inl rfl)) 
          (pss_cons (ps_if (PW.pt (pw_or (pt_not (pt_val (pe_callB (c_isiK K) (by rfl) T.isi bt_isinstance (pa_cons (pv 3) (pa_cons (pe_bltn (v := .ty "tuple") (by rfl) T.tuple bt_tuple rfl) pa_nil))))) (pw_or1 (pt_cmpR op_ne (pe_callB (c_lenK K) (by rfl) T.len bt_len (pa_cons (pv 3) pa_nil)) (pe_callB (c_lenK K) (by rfl) T.len bt_len (pa_cons (pe_ix (ix_tK K) (pv 0) pe_int (fun _ _ => rfl)) pa_nil)) (nomark _))))) 
              (pss_one (ps_ret pe_bl)) pss_nil)
          (pss_cons (ps_if (pt_cmpR op_gt (pe_callB (c_lenK K) (by rfl) T.len bt_len (pa_cons (pe_lc (own := [("one", 4)]) rfl scIsOdds.nd (pi_tK K (pv 3)) (blkOk_by (N := nIsOdds) (sc := defScope sIsOdds) (by decide +kernel)) (fun _ _ _ _ _ => pg_name (i := 4) scIsOdds.nd rfl (Or.inl rfl)) (fun _ _ _ _ _ => pts_one (PW.pt (pw_or (pt_not (pt_val (pe_cl F_IsFraction G_IsFraction (hr.mono (by decide)) (pa_cons (pv 4) pa_nil)))) (pw_or1 (pt_cmpR op_lt (pe_ix (ix_tK K) (pv 4) pe_int (fun _ _ => rfl)) pe_int (nomark _)))))) (fun _ _ _ _ _ => pe_int)) pa_nil)) pe_int (nomark _)) 
              (pss_one (ps_ret pe_bl)) pss_nil)
          (pss_one (ps_expr (pe_bm PySem.F.plainAttrs_list PySem.F.slot_list_extend PySem.F.type_list_extend mt_extT (pv 2) (pa_cons (pv 3) pa_nil)))))))
      (pss_one (ps_ret (pe_cmpR (op_eqDK K hr.units) (pe_cl F_SumSo G_SumSo (hr.mono (by decide)) (pa_cons (pv 2) pa_nil)) (pe_glob (v := .ref a_WHOLE) (by rfl) m_WHOLE rfl) (nomark _))))))), ?_⟩
    refine ⟨_, rfl, _, _, _, _, true, rfl, .ty _, ty_tup hao, kTT, true, rfl, iteF ?_⟩
    refine ⟨_, rfl, ao, _, rfl, .inr hao, _, rfl, a, _, rfl, .inr ha, rfl, _, rfl, iteNS (by rw [hl, hol2]) ?_⟩
    refine ⟨sz (by show 0 ≤ _; omega), fun p np => ?_⟩
    refine ⟨_, rfl, ao, rfl, ⟨_, (L2.Same.new np).tup hao⟩, for_it walk_tpl (fun i σ H' => Same H H' ∧ H' p = some (.lst (L.take i).flatten) ∧ ∃ z1 z2, σ = [some (.ref a), some (.ref ao), some (.ref p), z1, z2]) ?_ (fun i σ H' _ h => h.1.tup hao) (fun i x σ H2 H' hi h y => ?_) (fun σ H' h => ?_)⟩
    · refine ⟨L2.Same.new np, ?_, none, none, rfl⟩
      rw [upd_same, List.take_zero]
      rfl
    · obtain ⟨sm, ep, z1, z2, rfl⟩ := h
      obtain ⟨rfl, rfl⟩ := y
      obtain ⟨l, b, hli, eb, hb⟩ := horow i _ (List.getElem?_eq_getElem hi)
      obtain ⟨ws, hws, fr⟩ := paired_get hF hli
      have ex : os.getD i .non = .ref b := by rw [List.getD_eq_getElem?_getD, List.getElem?_eq_getElem hi, eb]; rfl
      have h1 := flatten_take_len L (i + 1)
      rw [flatten_take_succ hli, List.length_append] at h1
      have tb : SqT K H' b l := .inl (.inl (sm _ _ hb))
      have llen : (l.length : Int) = (C : Int) := by rw [shL.2 l (List.mem_of_getElem? hli)]
      rw [ex]
      refine ⟨_, rfl, _, _, _, _, true, rfl, .ty _, ty_tup tb, kTT, true, rfl, iteF ?_⟩
      refine ⟨_, rfl, b, _, rfl, .inr tb, _, rfl, a, rs, _, _, rfl, rfl, sm.tup ha, ge0 hr0, b0, _, rfl, .inr (.inl (.inl (sm _ _ hb0))), rfl, _, rfl, iteNS (by rw [llen, nl0]) ?_⟩
      refine ⟨_, rfl, b, rfl, ⟨_, tb⟩, fun D hD => lc_gen walk_tpl (fun _ => false) (fun _ _ _ => True) hD (by omega) (fun H3 e => e.tup tb) (fun _ _ _ _ _ _ => trivial) (fun j H3 hj s3 Q' q' => ?_) (fun j H3 hj hb => nomatch hb) fun ys H3 s3 eD pr => ?_⟩
      · obtain ⟨wt, hwt, f3⟩ := paired_get fr (List.getElem?_eq_getElem hj)
        have ex2 : l.getD j .non = l[j] := by rw [List.getD_eq_getElem?_getD, List.getElem?_eq_getElem hj]; rfl
        rw [ex2]
        refine ⟨l[j], rfl, l[j], wt, n, rfl, f3.same (sm.trans s3), n1, fun H4 s4 => ⟨true, rfl, iteF ?_⟩⟩
        obtain ⟨c, ec, hc⟩ := f3.same ((sm.trans s3).trans s4)
        rw [ec]
        refine ⟨_, rfl, c, _, _, _, rfl, rfl, hc, at0, _, _, rfl, rfl, _, rfl, ?_⟩
        rw [decide_eq_false (show ¬ ((red wt n).1 : Int) < 0 by omega)]
        exact q' H4 s4
      · have ey : ys = [] := List.eq_nil_of_length_eq_zero ((Paired.length pr).symm.trans (by simp))
        subst ey
        have ep3 := s3 _ _ ep
        refine ⟨D, _, rfl, .inl (.inl (.inl eD)), _, _, rfl, rfl, _, rfl, iteF ?_⟩
        refine ⟨.ref p, rfl, .inl ⟨rfl, _, .inl (.inl ep3)⟩, .ref b, rfl, p, b, _, l, rfl, rfl, ep3, s3 _ _ (sm _ _ hb), sz (by omega), (sm.trans s3).mut np, ?_, _, _, rfl⟩
        rw [upd_same, flatten_take_succ hli]
    · obtain ⟨sm, ep, z1, z2, rfl⟩ := h
      rw [hol, List.take_length] at ep
      refine ⟨.ref p, rfl, p, L.flatten, W.flatten, n, rfl, .inl (.inl ep), fracs_same sm (paired_flat hF), n1, n2, by omega, fun H3 r s3 hr => ?_⟩
      obtain ⟨c, rfl, hc⟩ := hr
      rw [hsum, red_self n1] at hc
      refine ⟨.tuple [.int 1, .int 1], .tuple [.int 1, .int 1], .tup hc (.cons (.int _) (.cons (.int _) .nil)), .tup (hWhole _) (.cons (.int _) (.cons (.int _) .nil)), by decide +kernel, by decide +kernel, ?_⟩
      have e : PyData.eqv (.tuple [.int 1, .int 1]) (.tuple [.int 1, .int 1]) = true := by decide +kernel
      rw [e]
      exact q H3 (sm.trans s3)
/-! ### weights_of -/
abbrev sWeightsOf : Stmt := topS 32
abbrev nWeightsOf : List Str := ["odds", "items", "below", "one"]
theorem scWeightsOf : FnScope nWeightsOf ["odds"] (defScope sWeightsOf) := ⟨rfl, rfl, rfl, by decide +kernel, rfl, by decide +kernel, by decide +kernel⟩
def spWeightsOf (K : PySem.W.Frag) : Sp := fun vs H Q _ => ∃ (u : V) (W : List (List Nat)) (s : Nat), vs = [u] ∧ OddsAt K H u W s ∧ W.flatten.length ≤ 100 ∧ 0 < s ∧ s ≤ 900 ∧
  ∀ H' p l, Same H H' → H' p = some (.tup [.ref l, .int ((low W.flatten s : Nat) : Int)]) → H' l = some (.lst (nI (W.flatten.map fun x => (red x s).1 * (low W.flatten s / (red x s).2)))) → Q (.ref p) H'
theorem low_take_succ {l : List Nat} {i a s : Nat} (h : l[i]? = some a) : low (l.take (i + 1)) s = low (l.take i) s * (red (low (l.take i) s) (red a s).2).2 := by
  unfold low
  rw [List.take_add_one, h, List.foldl_append]
  rfl
theorem lines_len {K : PySem.W.Frag} {H : Hp} {L : List (List V)} {s : Nat} {W : List (List Nat)} (h : Paired (fun l ws => Fracs K H s l ws) L W) : L.flatten.length = W.flatten.length := Paired.length (paired_flat h)
theorem ok_WeightsOf {f : Addr} {fd : FuncData} (F : FnAt K mg "weights_of" sWeightsOf ["odds"] f fd) (T : Txt K mg) {fReducedSo : Addr} {dReducedSo : FuncData} (F_ReducedSo : FnAt K mg "reduced_so" sReducedSo ["above", "below"] fReducedSo dReducedSo) (G_ReducedSo : FnOk P w K mg base CX0 1 fReducedSo dReducedSo ["above", "below"] (spReducedSo K)) {fAllItems : Addr} {dAllItems : FuncData} (F_AllItems : FnAt K mg "all_items" sAllItems ["lines"] fAllItems dAllItems) (G_AllItems : FnOk P w K mg base CX0 1 fAllItems dAllItems ["lines"] (spAllItems K)) : FnOk P w K mg base CX0 2 f fd ["odds"] (spWeightsOf K) := by
  refine F.at_.ok scWeightsOf (fun vs H Q E h => ?_) (fun cdv A outer s H vs Q E hr h => ?_)
  · obtain ⟨u, W, s, rfl, _⟩ := h
    rfl
  · obtain ⟨u, W, n, rfl, ⟨L, hL, hF⟩, hz, n1, n2, q⟩ := h
    refine ⟨_, (pss_cons (ps_asg (pe_tup (pa_cons (pe_cl F_AllItems G_AllItems (hr.mono (by decide)) (pa_cons (pv 0) pa_nil)) (pa_cons pe_int pa_nil))) (pg_tK K rfl (pgs_cons (pg_name (i := 1) scWeightsOf.nd rfl (Or.inl rfl)) (pgs_cons (pg_name (i := 2) scWeightsOf.nd rfl (Or.inr rfl)) pgs_nil))))
      (pss_cons (ps_for PassesOwn.never rfl (pi_lK K (pv 1)) (pg_name (i := 3) scWeightsOf.nd rfl (Or.inl rfl)) 
          (pss_one (ps_set (i := 2) scWeightsOf.nd rfl (Or.inr rfl) (pe_op op_mul (pv 2) (pe_ix (ix_tK K) (pe_cl F_ReducedSo G_ReducedSo (hr.mono (by decide)) (pa_cons (pv 2) (pa_cons (pe_ix (ix_tK K) (pv 3) pe_int (fun _ _ => rfl)) pa_nil))) pe_int (fun _ _ => rfl))))))
      (pss_one (ps_ret (pe_tup (pa_cons (pe_lc (own := [("one", 3)]) rfl scWeightsOf.nd (pi_lK K (pv 1)) (blkOk_by (N := nWeightsOf) (sc := defScope sWeightsOf) (by decide +kernel)) (fun _ _ _ _ _ => pg_name (i := 3) scWeightsOf.nd rfl (Or.inl rfl)) (fun _ _ _ _ _ => pts_nil) (fun _ _ _ _ _ => pe_op op_mul (pe_ix (ix_tK K) (pv 3) pe_int (fun _ _ => rfl)) (pe_op op_fdivN (pv 2) (pe_ix (ix_tK K) (pv 3) pe_int (fun _ _ => rfl))))) (pa_cons (pv 2) pa_nil))))))), ?_⟩
    have hlen := lines_len hF
    have hFl := paired_flat hF
    refine ⟨u, rfl, u, L, rfl, hL, by omega, fun H1 p s1 np ep => ?_⟩
    refine ⟨sz (by show 2 ≤ _; omega), fun t nt => ⟨t, _, rfl, .inl (.inl upd_same), rfl, _, _, rfl, _, _, rfl, rfl, ?_⟩⟩
    have s2 : Same H1 (upd H1 t (.tup [.ref p, .int 1])) := L2.Same.new nt
    have sp : ∀ {H'}, Same (upd H1 t (.tup [.ref p, .int 1])) H' → H' p = some (.lst L.flatten) := fun e => e _ _ (s2 _ _ ep)
    refine ⟨_, rfl, p, rfl, ⟨_, .inl (.inl (sp (Same.refl _)))⟩, for_it walk_lst (fun i σ H' => Same (upd H1 t (.tup [.ref p, .int 1])) H' ∧ ∃ z, σ = [some u, some (.ref p), some (.int ((low (W.flatten.take i) n : Nat) : Int)), z]) ?_ (fun i σ H' _ h => .inl (.inl (sp h.1))) (fun i x σ H2 H' hi h y => ?_) (fun σ H' h => ?_)⟩
    · exact ⟨Same.refl _, none, rfl⟩
    · obtain ⟨sm, z, rfl⟩ := h
      obtain ⟨rfl, rfl⟩ := y
      obtain ⟨b, hb, fr⟩ := paired_get hFl (List.getElem?_eq_getElem hi)
      have ex : L.flatten.getD i .non = L.flatten[i] := by rw [List.getD_eq_getElem?_getD, List.getElem?_eq_getElem hi]; rfl
      obtain ⟨l1, l2, _⟩ := low_ok n1 (W.flatten.take i)
      have l3 := Nat.le_of_dvd n1 l2
      have p2 := red_pos (a := b) n1
      have p3 := (red_le b n).2
      obtain ⟨c, ec, hc⟩ := fr.same (s1.trans (s2.trans sm))
      rw [ex]
      refine ⟨_, rfl, _, rfl, L.flatten[i], rfl, c, _, _, _, ec, rfl, hc, at1, low (W.flatten.take i) n, (red b n).2, rfl, p2, by omega, fun H3 r s3 nr hr => ?_⟩
      refine ⟨r, _, _, _, rfl, rfl, .inl (.inl hr), at1, _, _, rfl, rfl, .inl ⟨by omega, by omega⟩, sm.trans s3, some L.flatten[i], ?_⟩
      rw [low_take_succ hb]
      rfl
    · obtain ⟨sm, z, rfl⟩ := h
      rw [hlen, List.take_length]
      generalize hB : low W.flatten n = B
      obtain ⟨l1, l2, l4⟩ := low_ok n1 W.flatten
      rw [hB] at l1 l2 l4
      have l3 := Nat.le_of_dvd n1 l2
      refine ⟨_, rfl, p, rfl, ⟨_, .inl (.inl (sp sm))⟩, fun D hD => lc_gen walk_lst (fun _ => true) (fun i y _ => ∃ b, W.flatten[i]? = some b ∧ y = .int (((red b n).1 * (B / (red b n).2) : Nat) : Int)) hD (by omega) (fun H3 e => .inl (.inl (sp (sm.trans e)))) (fun _ _ _ _ h _ => h) (fun j H3 hj s3 Q' q' => q' H3 (Same.refl _)) (fun j H3 hj hb s3 Q' q' => ?_) fun ys H3 s3 eD pr => ?_⟩
      · obtain ⟨b, hb, fr⟩ := paired_get hFl (List.getElem?_eq_getElem hj)
        have ex : L.flatten.getD j .non = L.flatten[j] := by rw [List.getD_eq_getElem?_getD, List.getElem?_eq_getElem hj]; rfl
        have p2 := red_pos (a := b) n1
        have p3 := (red_le b n).2
        obtain ⟨c, ec, hc⟩ := fr.same (s1.trans (s2.trans (sm.trans s3)))
        have hdiv : B / (red b n).2 ≤ 900 := Nat.le_trans (Nat.div_le_self _ _) (by omega)
        rw [ex]
        refine ⟨L.flatten[j], rfl, c, _, _, _, ec, rfl, hc, at0, _, rfl, L.flatten[j], rfl, c, _, _, _, ec, rfl, hc, at1, _, _, rfl, rfl, ⟨by omega, by omega⟩, ?_⟩
        refine ⟨_, _, rfl, rfl, .inr ?_, q' _ _ (Same.refl _) ⟨b, hb, ?_⟩⟩
        · rw [fdivN]
          generalize B / (red b n).2 = z at hdiv ⊢
          constructor <;> omega
        · rw [fdivN]
          rfl
      · refine ⟨_, rfl, sz (by show 2 ≤ _; omega), fun r nr => ?_⟩
        refine q _ r D ((s1.trans (s2.trans (sm.trans s3))).trans (L2.Same.new nr)) ?_ ?_
        · rw [upd_same, hB]
        · rw [upd_ne (ne_of_none eD nr), eD, hB]
          refine congrArg (fun l => some (HO.lst l)) ?_
          refine List.ext_getElem? fun j => ?_
          have hyl : ys.length = L.flatten.length := by
            rw [← Paired.length pr, List.filter_eq_self.mpr fun _ _ => rfl, List.length_range]
          by_cases hj : j < L.flatten.length
          · have hjr : ((List.range L.flatten.length).filter fun _ => true)[j]? = some j := by
              rw [List.filter_eq_self.mpr fun _ _ => rfl, List.getElem?_range hj]
            obtain ⟨y, hy, b, hb, rfl⟩ := paired_get pr hjr
            rw [hy]
            unfold nI
            rw [List.getElem?_map, List.getElem?_map, hb]
            rfl
          · rw [List.getElem?_eq_none (by omega), List.getElem?_eq_none]
            unfold nI
            rw [List.length_map, List.length_map]
            omega
end
end My
set_option Elab.async false
set_option linter.all false
set_option maxRecDepth 100000
set_option maxHeartbeats 2000000
/-! sides_of, all_rectangles -/
namespace My
open PySem PySem.Spec PyProof.Rows L2 Bs
section
variable {P : Program} {w : World} {K : PySem.W.Frag} {mg : Str → Option Value} {base : Heap}
/-! ### sides_of -/
abbrev sSidesOf : Stmt := topS 27
abbrev nSidesOf : List Str := ["number", "some"]
theorem scSidesOf : FnScope nSidesOf ["number"] (defScope sSidesOf) := ⟨rfl, rfl, rfl, by decide +kernel, rfl, by decide +kernel, by decide +kernel⟩
def spSidesOf (K : PySem.W.Frag) : Sp := fun vs H Q _ => ∃ n : Nat, vs = [.int (n : Int)] ∧ 0 < n ∧ n < 16 ∧ ∀ H' p, Same H H' → H p = none → H' p = some (.lst (nI (sides n))) → Q (.ref p) H'
theorem vint_dec (a b : Int) : decide (V.int a = V.int b) = decide (a = b) := by
  by_cases h : a = b
  · rw [h, decide_eq_true rfl, decide_eq_true rfl]
  · rw [decide_eq_false h, decide_eq_false fun z => h (V.int.inj z)]
theorem bl_pos (n : Nat) (h : n < 16) (h0 : 0 < n) : 0 < Builtin.Int.intBits (n : Int) := by
  have : ∀ n : Fin 16, 0 < (n : Nat) → 0 < Builtin.Int.intBits ((n : Nat) : Int) := by decide +kernel
  exact this ⟨n, h⟩ h0
def sideB (n s : Nat) : Bool := decide (Builtin.bitAnd (s : Int) (n : Int) = (s : Int)) && decide (Builtin.bitAnd (s : Int) (1 * 2 ^ ((Builtin.Int.intBits (n : Int) : Nat) - 1 : Int).toNat) = 0)
theorem sides_eq (n : Nat) (h : n < 16) (h0 : 0 < n) : ((List.range ((n : Int) - 1).toNat).filter fun i => sideB n (1 + i)).map (fun i => V.int (((1 + i : Nat)) : Int)) = nI (sides n) := by
  have : ∀ n : Fin 16, 0 < (n : Nat) → ((List.range (((n : Nat) : Int) - 1).toNat).filter fun i => sideB n (1 + i)).map (fun i => V.int (((1 + i : Nat)) : Int)) = nI (sides n) := by decide +kernel
  exact this ⟨n, h⟩ h0
theorem ok_SidesOf {f : Addr} {fd : FuncData} (F : FnAt K mg "sides_of" sSidesOf ["number"] f fd) (T : Txt K mg) : FnOk P w K mg base CX0 1 f fd ["number"] (spSidesOf K) := by
  refine F.at_.ok scSidesOf (fun vs H Q E h => ?_) (fun cdv A outer s H vs Q E hr h => ?_)
  · obtain ⟨n, rfl, _⟩ := h
    rfl
  · obtain ⟨n, rfl, h0, hn, q⟩ := h
    refine ⟨_, (pss_one (ps_ret (pe_lc (own := [("some", 1)]) rfl scSidesOf.nd (pi_range2 (by rfl) T.range (pa_cons pe_int (pa_cons (pv 0) pa_nil))) (blkOk_by (N := nSidesOf) (sc := defScope sSidesOf) (by decide +kernel)) (fun _ _ _ _ _ => pg_name (i := 1) scSidesOf.nd rfl (Or.inl rfl)) (fun _ _ _ _ _ => pts_one (PW.pt (pw_and (pt_cmpR op_eq (pe_op op_and (pv 1) (pv 0)) (pv 1) (nomark _)) (pw_and1 (pt_cmpR op_eq (pe_op op_and (pv 1) (pe_op op_shl pe_int (pe_op op_sub (pe_bits (pv 0)) pe_int))) pe_int (nomark _)))))) (fun _ _ _ _ _ => pv 1)))), ?_⟩
    have hb := bl_le n hn
    refine ⟨.int (n : Int), rfl, 1, (n : Int), rfl, ⟨by decide, by decide, by omega, by omega⟩, fun D hD => ?_⟩
    refine lc_gen walk_rng (fun i => sideB n (1 + i)) (fun i y _ => y = .int (((1 + i : Nat)) : Int)) hD (by omega) (fun _ _ => trivial) (fun _ _ _ _ h _ => h) (fun i H' hi sm Q' q' => ?_) (fun i H' hi hb sm Q' q' => ?_) fun ys H' sm eD pr => ?_
    · have q2 : ∀ H3, Same H' H3 → Q' (sideB n (1 + i)) H3 := q'
      unfold sideB at q2
      refine ⟨_, rfl, _, rfl, _, _, rfl, rfl, _, rfl, rfl, _, rfl, ?_⟩
      refine ite2 (fun h1 => ?_) (fun h1 => ?_)
      · have h1' := of_decide_eq_true h1
        injection h1' with h1'
        rw [decide_eq_true (show Builtin.bitAnd ((1 + i : Nat) : Int) (n : Int) = ((1 + i : Nat) : Int) from h1'), Bool.true_and] at q2
        refine ⟨_, rfl, _, rfl, _, rfl, _, _, rfl, rfl, _, _, rfl, rfl, ⟨?_, by omega, by decide⟩, _, _, rfl, rfl, rfl, _, rfl, ?_⟩
        · have := bl_pos n hn h0
          omega
        · refine Eq.mpr (congrArg (fun c => Q' c H') ?_) (q2 H' (Same.refl _))
          exact vint_dec _ _
      · have h1' : ¬ Builtin.bitAnd ((1 + i : Nat) : Int) (n : Int) = ((1 + i : Nat) : Int) := fun z => h1 (decide_eq_true (congrArg V.int z))
        rw [decide_eq_false h1', Bool.false_and] at q2
        exact q2 H' (Same.refl _)
    · refine ⟨_, rfl, q' _ _ (Same.refl _) ?_⟩
      rfl
    · refine q H' D sm hD ?_
      rw [eD, paired_eq pr]
      exact congrArg (fun l => some (HO.lst l)) (sides_eq n hn h0)
/-! ### all_rectangles -/
abbrev sAllRectangles : Stmt := topS 29
abbrev nAllRectangles : List Str := ["grid", "found", "rows", "columns"]
theorem scAllRectangles : FnScope nAllRectangles ["grid"] (defScope sAllRectangles) := ⟨rfl, rfl, rfl, by decide +kernel, rfl, by decide +kernel, by decide +kernel⟩
/-- all rectangles of R rows and C columns, by masks -/
def rectsN (n m : Nat) : List (Nat × Nat) := (List.range n).flatMap fun i => (List.range m).map fun j => (i + 1, j + 1)
def rects (R C : Nat) : List (Nat × Nat) := rectsN (2 ^ R - 1) (2 ^ C - 1)
theorem rectsN_succ (n m : Nat) : rectsN (n + 1) m = rectsN n m ++ (List.range m).map fun j => (n + 1, j + 1) := by
  unfold rectsN
  rw [List.range_succ, List.flatMap_append]
  simp
theorem rectsN_len : ∀ n m : Nat, (rectsN n m).length = n * m
  | 0, m => by simp [rectsN]
  | n + 1, m => by
    rw [rectsN_succ, List.length_append, rectsN_len n m, List.length_map, List.length_range, Nat.add_mul]
    omega
theorem paired_map_right {α β γ : Type} {F : α → β → Prop} {E : β → γ → Prop} {f : α → γ} : ∀ {l : List α} {m : List β}, Paired F l m → (∀ a b, F a b → E b (f a)) → Paired E m (l.map f)
  | _, _, .nil, _ => .nil
  | _, _, .cons a b, h => .cons (h _ _ a) (paired_map_right b h)
/-- the things of a list are pairs of masks, each in a tuple of its own -/
def RectsAt (H : Hp) (vs : List V) (rs : List (Nat × Nat)) : Prop := Paired (fun v r => ∃ a, v = .ref a ∧ H a = some (.tup [.int (r.1 : Int), .int (r.2 : Int)])) vs rs
theorem rectsAt_same {H H' : Hp} {vs : List V} {rs : List (Nat × Nat)} (h : RectsAt H vs rs) (e : ∀ b ys, H b = some (.tup ys) → H' b = some (.tup ys)) : RectsAt H' vs rs :=
  Paired.mapP h fun _ _ ⟨a, h1, h2⟩ => ⟨a, h1, e _ _ h2⟩
def spAllRectangles (K : PySem.W.Frag) : Sp := fun vs H Q _ => ∃ (v : V) (G : List (List Nat)) (R C : Nat), vs = [v] ∧ GridAt K H v G ∧ Shape G R C ∧ 1 ≤ R ∧ R ≤ 4 ∧ 1 ≤ C ∧ C ≤ 4 ∧
  ∀ H' p ys, Same H H' → H p = none → H' p = some (.lst ys) → RectsAt H' ys (rects R C) → Q (.ref p) H'
theorem pow_le16 {R : Nat} (h : R ≤ 4) : 1 ≤ 2 ^ R ∧ 2 ^ R ≤ 16 := ⟨Nat.pos_of_ne_zero (by simp), Nat.pow_le_pow_right (by decide) h⟩
theorem ok_AllRectangles {f : Addr} {fd : FuncData} (F : FnAt K mg "all_rectangles" sAllRectangles ["grid"] f fd) (T : Txt K mg) : FnOk P w K mg base CX0 1 f fd ["grid"] (spAllRectangles K) := by
  refine F.at_.ok scAllRectangles (fun vs H Q E h => ?_) (fun cdv A outer s H vs Q E hr h => ?_)
  · obtain ⟨v, G, R, C, rfl, _⟩ := h
    rfl
  · obtain ⟨v, G, R, C, rfl, hg, ⟨hR, hC⟩, r1, r2, c1, c2, q⟩ := h
    obtain ⟨a, rs, rfl, ha, hl, hrow⟩ := lines_get hg
    rw [List.length_map, hR] at hl
    obtain ⟨r0, hr0⟩ : ∃ r, rs[0]? = some r := ⟨rs[0]'(by omega), List.getElem?_eq_getElem _⟩
    obtain ⟨l0, b0, hl0, rfl, hb0⟩ := hrow 0 r0 hr0
    obtain ⟨g0, hg0, rfl⟩ := map_get hl0
    have hg0C := hC g0 (List.mem_of_getElem? hg0)
    have nl0 : ((nI g0).length : Int) = (C : Int) := by rw [nI_len, hg0C]
    obtain ⟨p1, p2⟩ := pow_le16 r2
    obtain ⟨p3, p4⟩ := pow_le16 c2
    have shR : (1 * 2 ^ ((rs.length : Nat) : Int).toNat : Int) = ((2 ^ R : Nat) : Int) := by
      rw [hl, Int.toNat_natCast, Int.one_mul]
      exact (Int.natCast_pow 2 R).symm
    have shC : (1 * 2 ^ (((nI g0).length : Nat) : Int).toNat : Int) = ((2 ^ C : Nat) : Int) := by
      rw [nl0, Int.toNat_natCast, Int.one_mul]
      exact (Int.natCast_pow 2 C).symm
    refine ⟨_, (pss_cons (ps_set (i := 1) scAllRectangles.nd rfl (Or.inl rfl) (pe_lst pa_nil))
      (pss_cons (ps_for PassesOwn.never rfl (pi_range2 (by rfl) T.range (pa_cons pe_int (pa_cons (pe_op op_shl pe_int (pe_callB (c_lenK K) (by rfl) T.len bt_len (pa_cons (pv 0) pa_nil))) pa_nil))) (pg_name (i := 2) scAllRectangles.nd rfl (Or.inr rfl)) 
          (pss_one (ps_expr (pe_bm PySem.F.plainAttrs_list PySem.F.slot_list_extend PySem.F.type_list_extend mt_extend (pv 1) (pa_cons (pe_lc (own := [("columns", 3)]) rfl scAllRectangles.nd (pi_range2 (by rfl) T.range (pa_cons pe_int (pa_cons (pe_op op_shl pe_int (pe_callB (c_lenK K) (by rfl) T.len bt_len (pa_cons (pe_ix (ix_tK K) (pv 0) pe_int (fun _ _ => rfl)) pa_nil))) pa_nil))) (blkOk_by (N := nAllRectangles) (sc := defScope sAllRectangles) (by decide +kernel)) (fun _ _ _ _ _ => pg_name (i := 3) scAllRectangles.nd rfl (Or.inl rfl)) (fun _ _ _ _ _ => pts_nil) (fun _ _ _ _ _ => pe_tup (pa_cons (pv 2) (pa_cons (pv 3) pa_nil)))) pa_nil)))))
      (pss_one (ps_ret (pv 1))))), ?_⟩
    refine ⟨sz (by show 0 ≤ _; omega), fun p np => ?_⟩
    refine ⟨_, rfl, a, _, rfl, .inr ((L2.Same.new np).tup ha), _, _, rfl, rfl, ⟨by omega, by omega, by decide⟩, 1, _, rfl, ⟨by decide, by decide, ?_, ?_⟩, ?_⟩
    · show _ ≤ (1 * 2 ^ ((rs.length : Nat) : Int).toNat : Int)
      rw [shR]
      omega
    · show (1 * 2 ^ ((rs.length : Nat) : Int).toNat : Int) < _
      rw [shR]
      omega
    have eN : ((1 * 2 ^ ((rs.length : Nat) : Int).toNat : Int) - 1).toNat = 2 ^ R - 1 := by
      rw [shR]
      omega
    show ∃ W : Nat → Nat → L2.St → Hp → Prop, _
    rw [eN]
    refine for_it walk_rng (fun i σ H' => Same H H' ∧ (∃ ys, H' p = some (.lst ys) ∧ RectsAt H' ys (rectsN i (2 ^ C - 1))) ∧ ∃ z1 z2, σ = [some (.ref a), some (.ref p), z1, z2]) ?_ (fun _ _ _ _ _ => trivial) (fun i x σ H2 H' hi h y => ?_) (fun σ H' h => ?_)
    · exact ⟨L2.Same.new np, ⟨[], upd_same, .nil⟩, none, none, rfl⟩
    · obtain ⟨sm, ⟨ys, ep, pr⟩, z1, z2, rfl⟩ := h
      obtain ⟨rfl, rfl⟩ := y
      refine ⟨.ref p, rfl, .inl ⟨rfl, _, .inl (.inl ep)⟩, _, rfl, a, rs, _, _, rfl, rfl, sm.tup ha, ge0 hr0, b0, _, rfl, .inr (.inl (.inl (sm _ _ hb0))), _, _, rfl, rfl, ⟨by omega, by omega, by decide⟩, 1, _, rfl, ⟨by decide, by decide, ?_, ?_⟩, fun D hD => ?_⟩
      · show _ ≤ (1 * 2 ^ (((nI g0).length : Nat) : Int).toNat : Int)
        rw [shC]
        omega
      · show (1 * 2 ^ (((nI g0).length : Nat) : Int).toNat : Int) < _
        rw [shC]
        omega
      have eC : ((1 * 2 ^ (((nI g0).length : Nat) : Int).toNat : Int) - 1).toNat = 2 ^ C - 1 := by
        rw [shC]
        omega
      show ∃ W : Nat → Nat → Hp → Prop, _
      rw [eC]
      refine lc_genD walk_rng (fun _ => true) (fun j y H => ∃ t, y = .ref t ∧ t ≠ D ∧ H t = some (.tup [.int ((i + 1 : Nat) : Int), .int ((j + 1 : Nat) : Int)])) hD (by omega) (fun _ _ => trivial) (fun j y Ha Hb r e => ?_) (fun j H3 hj s3 Q' q' => q' _ (Same.refl _)) (fun j H3 hj hb s3 hacc Q' q' => ?_) fun zs H3 s3 eD pz => ?_
      · obtain ⟨t, e1, e2, e3⟩ := r
        exact ⟨t, e1, e2, e _ _ e3 e2⟩
      · obtain ⟨acc, hacc⟩ := hacc
        refine ⟨_, rfl, _, rfl, sz (by show 2 ≤ _; omega), fun t nt => q' _ _ (L2.Same.new nt) ⟨t, rfl, (ne_of_none hacc nt).symm, ?_⟩⟩
        rw [upd_same]
        have a1 : (1 : Int) + (i : Int) = ((i + 1 : Nat) : Int) := by omega
        have a2 : (1 : Int) + (j : Int) = ((j + 1 : Nat) : Int) := by omega
        rw [a1, a2]
      · have ep3 := s3 _ _ ep
        have hyl := Paired.length pr
        have hzl := Paired.length pz
        rw [List.filter_eq_self.mpr fun _ _ => rfl, List.length_range] at hzl
        have hrl := rectsN_len i (2 ^ C - 1)
        have hib : i * (2 ^ C - 1) ≤ 16 * 16 := Nat.mul_le_mul (by omega) (by omega)
        refine ⟨p, D, ys, zs, rfl, rfl, ep3, eD, sz (by omega), (sm.trans s3).mut np, ⟨_, upd_same, ?_⟩, _, _, rfl⟩
        rw [rectsN_succ]
        have tu : ∀ b xs, H3 b = some (.tup xs) → (upd H3 p (.lst (ys ++ zs))) b = some (.tup xs) := fun b xs e => by
          rw [upd_ne (ne_of e ep3 (fun z => nomatch z))]
          exact e
        refine paired_append (rectsAt_same pr fun b xs e => tu _ _ (s3 _ _ e)) ?_
        rw [List.filter_eq_self.mpr fun _ _ => rfl] at pz
        exact paired_map_right pz fun j y ⟨t, e1, _, e3⟩ => ⟨t, e1, tu _ _ e3⟩
    · obtain ⟨sm, ⟨ys, ep, pr⟩, z1, z2, rfl⟩ := h
      exact ⟨_, rfl, q H' p ys sm np ep pr⟩
end
end My
set_option Elab.async false
set_option linter.all false
set_option maxRecDepth 100000
set_option maxHeartbeats 2000000
/-! best_end -/
namespace My
open PySem PySem.Spec PyProof.Rows L2 Bs
theorem gat_get {G : List (List Nat)} {r c : Nat} {l : List Nat} {n : Nat} (h1 : G[r]? = some l) (h2 : l[c]? = some n) : gat G r c = n := by
  unfold gat
  have e1 : G.getD r [] = l := by
    rw [List.getD_eq_getElem?_getD, h1]
    rfl
  rw [e1, List.getD_eq_getElem?_getD, h2]
  rfl
theorem nI_at {l : List Nat} {i : Nat} (h : i < (nI l).length) : ∃ n : Nat, l[i]? = some n ∧ (nI l).getD i .non = .int (n : Int) := by
  rw [nI_len] at h
  refine ⟨l[i], List.getElem?_eq_getElem h, ?_⟩
  unfold nI
  rw [List.getD_eq_getElem?_getD, List.getElem?_map, List.getElem?_eq_getElem h]
  rfl
theorem marks_take_succ {G W : List (List Nat)} {near far : List Nat} {i r : Nat} (h : near[i]? = some r) : marks G W (near.take (i + 1)) far = marks G W (near.take i) far ++ far.map fun c => (gat G r c, gat W r c) := by
  unfold marks
  rw [List.take_add_one, h, List.flatMap_append]
  simp
theorem marks_len {G W : List (List Nat)} (near far : List Nat) : (marks G W near far).length = near.length * far.length := by
  unfold marks
  induction near with
  | nil => simp
  | cons r near ih =>
    rw [List.flatMap_cons, List.length_append, List.length_map, ih, List.length_cons, Nat.add_mul]
    omega
theorem bits_len (n : Nat) : (bits n).length ≤ 4 := Nat.le_trans (List.length_filter_le _ _) (by rw [List.length_range]; exact Nat.le_refl _)
/-- the cell at a row and a column -/
theorem shape_get {G : List (List Nat)} {R C r c : Nat} (h : Shape G R C) (hr : r < R) (hc : c < C) : ∃ l, G[r]? = some l ∧ l[c]? = some (gat G r c) := by
  have h1 : r < G.length := by rw [h.1]; exact hr
  have e1 := List.getElem?_eq_getElem h1
  have h2 : c < (G[r]).length := by
    rw [h.2 _ (List.getElem_mem h1)]
    exact hc
  have e2 := List.getElem?_eq_getElem h2
  exact ⟨_, e1, by rw [gat_get e1 e2]; exact e2⟩
theorem flat_get {α : Type} : ∀ {G : List (List α)} {R C r c : Nat} {l : List α}, Shape G R C → G[r]? = some l → c < C → G.flatten[r * C + c]? = l[c]?
  | [], _, _, _, _, _, _, h, _ => by simp at h
  | g :: G, R, C, 0, c, l, hs, h, hc => by
    have e : g = l := by simpa using h
    subst e
    have hl := hs.2 g List.mem_cons_self
    rw [Nat.zero_mul, Nat.zero_add, List.flatten_cons, List.getElem?_append_left (by omega)]
  | g :: G, R, C, r + 1, c, l, hs, h, hc => by
    have hl := hs.2 g List.mem_cons_self
    have ih := flat_get (G := G) (R := G.length) (C := C) (r := r) (c := c) (l := l) ⟨rfl, fun x hx => hs.2 x (List.mem_cons_of_mem _ hx)⟩ (by simpa using h) hc
    rw [List.flatten_cons, List.getElem?_append_right (by rw [hl, Nat.add_mul]; omega), ← ih]
    congr 1
    rw [hl, Nat.add_mul]
    omega
/-- reading a grid by an expression grid[row][column] -/
theorem grid_cell {H : Hp} {rs : List V} {G : List (List Nat)} {R C r c : Nat} (hs : Shape G R C)
    (hrow : ∀ (i : Nat) (r : V), rs[i]? = some r → ∃ (l : List V) (b : Addr), (G.map nI)[i]? = some l ∧ r = .ref b ∧ H b = some (.tup l)) (hl : rs.length = R) (hr : r < R) (hc : c < C) :
    ∃ (b : Addr) (l : List Nat), rs[r]? = some (.ref b) ∧ H b = some (.tup (nI l)) ∧ (nI l)[c]? = some (.int (gat G r c : Int)) := by
  obtain ⟨l, h1, h2⟩ := shape_get hs hr hc
  have e1 := List.getElem?_eq_getElem (l := rs) (i := r) (by omega)
  obtain ⟨l', b, e2, e3, e4⟩ := hrow r _ e1
  rw [List.getElem?_map, h1] at e2
  have e5 : nI l = l' := Option.some.inj e2
  refine ⟨b, l, by rw [e1, e3], by rw [e5]; exact e4, ?_⟩
  unfold nI
  rw [List.getElem?_map, h2]
  rfl
theorem walk_ks {d : Addr} {o : Obj} {kvs : List (Key × V)} : Walk (Itk d o kvs) kvs.length (fun H => H d = some (.frz o (.dK kvs))) (fun i H x H' => H' = H ∧ x = (kvs.map fun p => kV p.1).getD i .non) :=
  walk_keys.mono (fun _ h => h) fun i H x H' _ _ ⟨e, k, v, h1, h2⟩ => ⟨e, by rw [h2, List.getD_eq_getElem?_getD, List.getElem?_map, h1]; rfl⟩
section
variable {P : Program} {w : World} {K : PySem.W.Frag} {mg : Str → Option Value} {base : Heap}
/-! ### best_end -/
abbrev sBestEnd : Stmt := topS 26
abbrev nBestEnd : List Str := ["grid", "weights", "rows", "columns", "found", "row", "column", "item", "most"]
theorem scBestEnd : FnScope nBestEnd ["grid", "weights", "rows", "columns"] (defScope sBestEnd) := ⟨rfl, rfl, rfl, by decide +kernel, rfl, by decide +kernel, by decide +kernel⟩
def spBestEnd (K : PySem.W.Frag) : Sp := fun vs H Q _ => ∃ (v : V) (b : Addr) (G W : List (List Nat)) (R C r c : Nat), vs = [v, .ref b, .int (r : Int), .int (c : Int)] ∧ GridAt K H v G ∧ Shape G R C ∧ 1 ≤ R ∧ R ≤ 4 ∧ 1 ≤ C ∧ C ≤ 4 ∧ SqL K H b (nI W.flatten) ∧ Shape W R C ∧
  0 < r ∧ r < 2 ^ R ∧ 0 < c ∧ c < 2 ^ C ∧ ∀ H' p v m, Same H H' → H p = none → H' p = some (.tup [.int ((v : Nat) : Int), .int ((m : Nat) : Int)]) → Good G W 0 r c v (.fin m) → Q (.ref p) H'
theorem ok_BestEnd {f : Addr} {fd : FuncData} (F : FnAt K mg "best_end" sBestEnd ["grid", "weights", "rows", "columns"] f fd) (T : Txt K mg) {fPlacesIn : Addr} {dPlacesIn : FuncData} (F_PlacesIn : FnAt K mg "places_in" sPlacesIn ["number"] fPlacesIn dPlacesIn) (G_PlacesIn : FnOk P w K mg base CX0 1 fPlacesIn dPlacesIn ["number"] (spPlacesIn K)) : FnOk P w K mg base CX0 2 f fd ["grid", "weights", "rows", "columns"] (spBestEnd K) := by
  refine F.at_.ok scBestEnd (fun vs H Q E h => ?_) (fun cdv A outer s H vs Q E hr h => ?_)
  · obtain ⟨v, b, G, W, R, C, r, c, rfl, _⟩ := h
    rfl
  · obtain ⟨v, wb, G, W, R, C, r, c, rfl, hg, hsh, r1, r2, c1, c2, hw, hshW, mr0, mr, mc0, mc, q⟩ := h
    obtain ⟨p1, p2⟩ := pow_le16 r2
    obtain ⟨p3, p4⟩ := pow_le16 c2
    obtain ⟨a, rs, rfl, ha, hl, hrow⟩ := lines_get hg
    rw [List.length_map, hsh.1] at hl
    refine ⟨_, (pss_cons (ps_set (i := 4) scBestEnd.nd rfl (Or.inr rfl) pe_dnewK)
      (pss_cons (ps_for PassesOwn.never rfl (pi_lK K (pe_cl F_PlacesIn G_PlacesIn (hr.mono (by decide)) (pa_cons (pv 2) pa_nil))) (pg_name (i := 5) scBestEnd.nd rfl (Or.inl rfl)) 
          (pss_one (ps_for PassesOwn.never rfl (pi_lK K (pe_cl F_PlacesIn G_PlacesIn (hr.mono (by decide)) (pa_cons (pv 3) pa_nil))) (pg_name (i := 6) scBestEnd.nd rfl (Or.inl rfl)) 
              (pss_cons (ps_set (i := 7) scBestEnd.nd rfl (Or.inl rfl) (pe_ix (ix_tK K) (pe_ix (ix_tK K) (pv 0) (pv 5) (fun _ _ => rfl)) (pv 6) (fun _ _ => rfl)))
              (pss_one (ps_dput (hu_of hr) (pv 4) (pv 7) (pe_op op_add (pe_dget2 (hu_of hr) (pv 4) (pv 7) pe_int ⟨by rfl, by rfl, by rfl, by rfl⟩) (pe_ix (ix_lK K) (pv 1) (pe_op op_add (pe_op op_mul (pv 5) (pe_callB (c_lenK K) (by rfl) T.len bt_len (pa_cons (pe_ix (ix_tK K) (pv 0) pe_int (fun _ _ => rfl)) pa_nil))) (pv 6)) (fun _ _ => rfl))) rfl))))))
      (pss_cons (ps_set (i := 8) scBestEnd.nd rfl (Or.inr rfl) (pe_maxVals rfl (by rfl) T.max (pv 4)))
      (pss_one (ps_ret (pe_tup (pa_cons (pv 8) (pa_cons (pe_callB (c_minK K rfl) (by rfl) T.min bt_min (pa_cons (pe_lock (pe_lc (own := [("item", 7)]) rfl scBestEnd.nd (pi_keys (pv 4)) (blkOk_by (N := nBestEnd) (sc := defScope sBestEnd) (by decide +kernel)) (fun _ _ _ _ _ => pg_name (i := 7) scBestEnd.nd rfl (Or.inl rfl)) (fun _ _ _ _ _ => pts_one (pt_cmpR op_eq (pe_dget (hu_of hr) (pv 4) (pv 7) (fun _ _ => rfl)) (pv 8) (nomark _))) (fun _ _ _ _ _ => pv 7))) pa_nil)) pa_nil)))))))), ?_⟩
    refine fun d nd => ?_
    have s0 : Same H (upd H d (.dK [])) := L2.Same.new nd
    refine ⟨_, rfl, r, rfl, by omega, fun H1 p sm np ep => ⟨p, rfl, ⟨_, .inl (.inl ep)⟩, ?_⟩⟩
    have hbr := bits_below R r r2 mr
    have hbc := bits_below C c c2 mc
    refine for_it walk_lst (fun i σ H' => Same H H' ∧ H' p = some (.lst (nI (bits r))) ∧ H' d = some (.dK (enc (tally (marks G W ((bits r).take i) (bits c))))) ∧ ∃ z1 z2 z3 z4, σ = [some (.ref a), some (.ref wb), some (.int (r : Int)), some (.int (c : Int)), some (.ref d), z1, z2, z3, z4]) ?_ (fun i σ H' _ h => .inl (.inl h.2.1)) (fun i x σ H2 H' hi h y => ?_) (fun σ H' h => ?_)
    · exact ⟨s0.trans sm, ep, sm _ _ upd_same, none, none, none, none, rfl⟩
    · obtain ⟨sm2, ep2, ed2, z1, z2, z3, z4, rfl⟩ := h
      obtain ⟨rfl, rfl⟩ := y
      obtain ⟨r0, hr0, ex⟩ := nI_at hi
      rw [ex]
      have hr0R : r0 < R := hbr r0 (List.mem_of_getElem? hr0)
      have hlr := bits_len r
      have hlc := bits_len c
      obtain ⟨rz, hrz⟩ : ∃ r, rs[0]? = some r := ⟨rs[0]'(by omega), List.getElem?_eq_getElem _⟩
      obtain ⟨l0, b0, hl0, rfl, hb0⟩ := hrow 0 rz hrz
      obtain ⟨g0, hg0, rfl⟩ := map_get hl0
      have hg0C := hsh.2 g0 (List.mem_of_getElem? hg0)
      have nl0 : ((nI g0).length : Int) = (C : Int) := by rw [nI_len, hg0C]
      refine ⟨_, rfl, c, rfl, by omega, fun H3 p2 sm3 np2 ep3 => ⟨p2, rfl, ⟨_, .inl (.inl ep3)⟩, ?_⟩⟩
      have np2d : d ≠ p2 := ne_of_none ed2 np2
      refine for_it walk_lst (fun j σ H' => Same H H' ∧ H' p = some (.lst (nI (bits r))) ∧ H' p2 = some (.lst (nI (bits c))) ∧ H' d = some (.dK (enc (tally (marks G W ((bits r).take i) (bits c) ++ ((bits c).take j).map fun c => (gat G r0 c, gat W r0 c))))) ∧
        ∃ z2 z3 z4, σ = [some (.ref a), some (.ref wb), some (.int (r : Int)), some (.int (c : Int)), some (.ref d), some (.int (r0 : Int)), z2, z3, z4]) ?_ (fun i σ H' _ h => .inl (.inl h.2.2.1)) (fun j x σ H4 H' hj h y => ?_) (fun σ H' h => ?_)
      · refine ⟨sm2.trans sm3, sm3 _ _ ep2, ep3, ?_, _, _, _, rfl⟩
        rw [List.take_zero, List.map_nil, List.append_nil]
        exact sm3 _ _ ed2
      · obtain ⟨sm4, ep4, ep5, ed4, z2, z3, z4, rfl⟩ := h
        obtain ⟨rfl, rfl⟩ := y
        obtain ⟨c0, hc0, ex2⟩ := nI_at hj
        rw [ex2]
        have hc0C : c0 < C := hbc c0 (List.mem_of_getElem? hc0)
        obtain ⟨b, l, e1, e2, e3⟩ := grid_cell hsh hrow hl hr0R hc0C
        obtain ⟨lw, hw1, hw2⟩ := shape_get hshW hr0R hc0C
        have hwf : (nI W.flatten)[r0 * C + c0]? = some (.int (gat W r0 c0 : Int)) := by
          unfold nI
          rw [List.getElem?_map, flat_get hshW hw1 hc0C, hw2]
          rfl
        have tb : SqT K H' b (nI l) := .inl (.inl (sm4 _ _ e2))
        have tb0 : SqT K H' b0 (nI g0) := .inl (.inl (sm4 _ _ hb0))
        refine ⟨_, rfl, _, rfl, a, rs, _, _, rfl, rfl, sm4.tup ha, atI_nat e1, _, rfl, b, _, _, _, rfl, rfl, tb, atI_nat e3, ?_⟩
        refine ⟨_, rfl, d, rfl, .inl ⟨_, .inl ed4⟩, _, rfl, _, DGet.k (k := mK (gat G r0 c0)) ed4, ?_⟩
        refine ⟨_, rfl, _, rfl, _, rfl, a, rs, _, _, rfl, rfl, sm4.tup ha, ge0 hrz, b0, _, rfl, .inr tb0, _, _, rfl, rfl, .inl ⟨by omega, by omega⟩, _, rfl, _, _, rfl, rfl, ?_⟩
        refine ⟨wb, _, _, _, rfl, rfl, sm4.seq hw, at_of (j := r0 * C + c0) ?_ hwf, _, _, (by rw [valV_enc]; exact getD_enc _ _), rfl, ?_⟩
        · rw [nl0]
          push_cast
          rfl
        have htl : (enc (tally (marks G W ((bits r).take i) (bits c) ++ ((bits c).take j).map fun c => (gat G r0 c, gat W r0 c)))).length ≤ 100 := by
          rw [enc_len]
          refine Nat.le_trans (tally_len _) ?_
          rw [List.length_append, marks_len, List.length_map, List.length_take, List.length_take]
          have : min i (bits r).length * (bits c).length ≤ 4 * 4 := Nat.mul_le_mul (by omega) (by omega)
          omega
        have npd : p ≠ d := ne_of ep4 ed4 (fun z => nomatch z)
        have np2d' : p2 ≠ d := ne_of ep5 ed4 (fun z => nomatch z)
        refine ⟨_, rfl, _, rfl, d, _, rfl, DPut.k (k := mK (gat G r0 c0)) ed4 (szl (by omega)), sm4.mut nd, ?_, ?_, ?_, _, _, _, rfl⟩
        · rw [upd_ne npd]
          exact ep4
        · rw [upd_ne np2d']
          exact ep5
        · rw [upd_same]
          refine congrArg (fun l => some (HO.dK l)) ?_
          refine Eq.trans (enc_add _ (gat G r0 c0) (gat W r0 c0)) ?_
          rw [← tally_append, List.append_assoc, List.take_add_one, hc0]
          simp
      · obtain ⟨sm4, ep4, ep5, ed4, z2, z3, z4, rfl⟩ := h
        refine ⟨sm4, ep4, ?_, _, _, _, _, rfl⟩
        rw [marks_take_succ hr0, ed4, nI_len, List.take_length]
    · obtain ⟨sm2, ep2, ed2, z1, z2, z3, z4, rfl⟩ := h
      rw [nI_len, List.take_length] at ed2
      generalize hT : tally (marks G W (bits r) (bits c)) = t at ed2
      have hbest : mx (t.map (·.2)) = best G W 0 (bits r) (bits c) := by
        rw [← hT]
        exact tally_best _ _
      have tnd : (t.map (·.1)).Nodup := by
        rw [← hT]
        exact tally_nodup _
      have tmem : ∀ {m v : Nat}, (m, v) ∈ t → v = wt G W (.fin m) (bits r) (bits c) := fun {m v} h => by
        rw [← hT] at h
        rw [(tally_mem.mp h).2, tsum_flat]
      have tne : t ≠ [] := by
        obtain ⟨x, hx⟩ := List.exists_mem_of_ne_nil _ (bits_ne r (by omega) mr0)
        obtain ⟨y, hy⟩ := List.exists_mem_of_ne_nil _ (bits_ne c (by omega) mc0)
        have hm : gat G x y ∈ (marks G W (bits r) (bits c)).map (·.1) := marks_mem.mpr ⟨x, hx, y, hy, rfl⟩
        have := tally_mem.mpr ⟨hm, rfl⟩
        rw [hT] at this
        exact List.ne_nil_of_mem this
      refine ⟨_, rfl, d, _, t.map (fun p => (p.2 : Int)), rfl, ed2, ?_, ?_, fun most hm1 hm2 => ?_⟩
      · unfold enc
        rw [List.map_map, List.map_map]
        rfl
      · exact fun z => tne (List.map_eq_nil_iff.mp z)
      obtain ⟨⟨m0, v0⟩, hmv, rfl⟩ := List.mem_map.mp hm1
      have hv0 : v0 = mx (t.map (·.2)) := by
        refine Nat.le_antisymm (le_mx (List.mem_map.mpr ⟨_, hmv, rfl⟩)) ?_
        rcases mx_mem (t.map (·.2)) with z | z
        · omega
        · obtain ⟨⟨m1, v1⟩, h1, e1⟩ := List.mem_map.mp z
          have := hm2 _ (List.mem_map.mpr ⟨_, h1, rfl⟩)
          rw [← e1]
          exact Int.ofNat_le.mp this
      refine ⟨_, rfl, d, _, ed2, trivial, fun od => ?_⟩
      have sd : But d H' (upd H' d (.frz od (.dK (enc t)))) := But.upd
      have hlen : (enc t).length = t.length := enc_len t
      have htl : t.length ≤ 100 := by
        rw [← hT]
        refine Nat.le_trans (tally_len _) ?_
        rw [marks_len]
        have h1 := bits_len r
        have h2 := bits_len c
        have : (bits r).length * (bits c).length ≤ 4 * 4 := Nat.mul_le_mul h1 h2
        omega
      have tget_i : ∀ i, i < t.length → ∃ m v, t[i]? = some (m, v) ∧ ((enc t).map fun p => kV p.1).getD i .non = .int (m : Int) ∧ (t.map (·.1)).getD i 0 = m ∧ tget t m = some v := fun i hi => by
        have e := List.getElem?_eq_getElem hi
        refine ⟨t[i].1, t[i].2, e, ?_, ?_, mem_tget tnd (List.mem_of_getElem? e)⟩
        · unfold enc
          rw [List.map_map, List.getD_eq_getElem?_getD, List.getElem?_map, e]
          rfl
        · rw [List.getD_eq_getElem?_getD, List.getElem?_map, e]
          rfl
      refine ⟨.ref d, rfl, d, od, rfl, .inl ⟨enc t, upd_same, fun D hD => ?_⟩⟩
      have hDd : d ≠ D := ne_of_none upd_same hD
      refine lc_gen walk_ks (fun i => decide ((t.map (·.2))[i]? = some v0)) (fun i y _ => y = .int (((t.map (·.1)).getD i 0 : Nat) : Int)) hD (by omega) (fun H3 e => e _ _ upd_same) (fun _ _ _ _ h _ => h) (fun i H3 hi s3 Q' q' => ?_) (fun i H3 hi hb s3 Q' q' => ?_) fun ys H3 s3 eD pr => ?_
      · obtain ⟨m, v, h1, h2, h3, h4⟩ := tget_i i (by omega)
        rw [h2]
        refine ⟨_, rfl, _, rfl, d, .int (v : Int), rfl, .inl ⟨enc t, mK m, .inr ⟨od, s3 _ _ upd_same⟩, rfl, ?_⟩, _, rfl, rfl, _, rfl, ?_⟩
        · rw [valV_enc, h4]
          rfl
        · have e : decide (V.int (v : Int) = V.int (v0 : Int)) = decide ((t.map (·.2))[i]? = some v0) := by
            rw [List.getElem?_map, h1, vint_dec]
            refine decide_eq_decide.mpr ?_
            constructor
            · intro z
              rw [Int.ofNat.inj z]
              rfl
            · intro z
              exact congrArg Int.ofNat (Option.some.inj z)
          exact Eq.mpr (congrArg (fun c => Q' c H3) e) (q' H3 (Same.refl _))
      · obtain ⟨m, v, h1, h2, h3, h4⟩ := tget_i i (by omega)
        rw [h2]
        exact ⟨_, rfl, q' _ H3 (Same.refl _) (by rw [h3])⟩
      · have ey := paired_eq pr
        have s4 : Same H H3 := ((But.of sm2).trans (sd.trans (But.of s3))).same nd
        refine ⟨s3 _ _ upd_same, D, ((List.range (enc t).length).filter fun i => decide ((t.map (·.2))[i]? = some v0)).map (fun i => (((t.map (·.1)).getD i 0 : Nat) : Int)), rfl, ?_, ?_, fun m hm1 hm2 => ?_⟩
        · refine .inl (.inl ?_)
          rw [upd_ne (Ne.symm hDd), eD, ey, List.map_map]
          rfl
        · obtain ⟨i0, hi0, e0⟩ := List.mem_iff_getElem.mp hmv
          rw [List.length_map]
          refine List.length_pos_of_mem (a := i0) (List.mem_filter.mpr ⟨List.mem_range.mpr (by omega), decide_eq_true ?_⟩)
          rw [List.getElem?_map, List.getElem?_eq_getElem hi0, e0]
          rfl
        · obtain ⟨i, hi, rfl⟩ := List.mem_map.mp hm1
          obtain ⟨hi1, hi2⟩ := List.mem_filter.mp hi
          obtain ⟨m1, v1, h1, h2, h3, h4⟩ := tget_i i (by have := List.mem_range.mp hi1; omega)
          have hi2 := of_decide_eq_true hi2
          rw [List.getElem?_map, h1] at hi2
          have ev : v1 = v0 := Option.some.inj hi2
          rw [h3]
          refine ⟨sz (by show 2 ≤ _; omega), fun p' np' => q _ p' v0 m1 ((s4.mut nd).trans (L2.Same.new np')) (s4.mut nd |>.free np') upd_same ?_⟩
          have hw1 := tmem (List.mem_of_getElem? h1)
          exact ⟨Nat.le_refl _, by rw [← hw1, ev], by rw [hv0, hbest]⟩
end
end My
set_option Elab.async false
set_option linter.all false
set_option maxRecDepth 100000
set_option maxHeartbeats 2000000
/-! best_split, better_so -/
namespace My
open PySem PySem.Spec PyProof.Rows L2 Bs
def rkey (r : Nat × Nat) : List Key := [mK r.1, mK r.2]
/-- at v stand the greatest weight and a speech that has it, of a rectangle -/
def Entry (K : PySem.W.Frag) (H : Hp) (G W : List (List Nat)) (k : Nat) (r : Nat × Nat) (v : V) : Prop := ∃ (a : Addr) (val : Nat) (sv : V) (s : Tk), v = .ref a ∧ H a = some (.tup [.int (val : Int), sv]) ∧ Dp K H sv (tkD s) ∧ Bs.Good G W k r.1 r.2 val s
def KnownAt (K : PySem.W.Frag) (H : Hp) (d : Addr) (G W : List (List Nat)) (R C k : Nat) : Prop := ∃ kvs, H d = some (.dT kvs) ∧ ∀ r ∈ rects R C, ∃ v, valV kvs (rkey r) = some v ∧ Entry K H G W k r v
theorem Entry.seqs {K : PySem.W.Frag} {H H' : Hp} {G W : List (List Nat)} {k : Nat} {r : Nat × Nat} {v : V} (h : Entry K H G W k r v) (e : Seqs H H') : Entry K H' G W k r v := by
  obtain ⟨a, val, sv, s, rfl, h1, h2, h3⟩ := h
  exact ⟨a, val, sv, s, rfl, e.tup _ _ h1, dp_seqs e h2, h3⟩
theorem KnownAt.same {K : PySem.W.Frag} {H H' : Hp} {d : Addr} {G W : List (List Nat)} {R C k : Nat} (h : KnownAt K H d G W R C k) (e : Same H H') : KnownAt K H' d G W R C k := by
  obtain ⟨kvs, h1, h2⟩ := h
  refine ⟨kvs, e _ _ h1, fun r hr => ?_⟩
  obtain ⟨v, h3, h4⟩ := h2 r hr
  exact ⟨v, h3, h4.seqs e.seqs⟩
theorem mem_rects {R C r c : Nat} : (r, c) ∈ rects R C ↔ (0 < r ∧ r < 2 ^ R) ∧ 0 < c ∧ c < 2 ^ C := by
  unfold rects rectsN
  simp only [List.mem_flatMap, List.mem_range, List.mem_map, Prod.mk.injEq]
  constructor
  · rintro ⟨i, hi, j, hj, rfl, rfl⟩
    omega
  · rintro ⟨⟨h1, h2⟩, h3, h4⟩
    exact ⟨r - 1, by omega, c - 1, by omega, by omega, by omega⟩
/-- what the search for the best parting has found, behind the partings A of the rows and B of the columns -/
def SplitAt (K : PySem.W.Frag) (H : Hp) (G W : List (List Nat)) (k r c : Nat) (A B : List Nat) (v : V) : Prop :=
  (v = .non ∧ A = [] ∧ B = []) ∨ ∃ (a : Addr) (val : Nat) (sv : V) (s : Tk), v = .ref a ∧ H a = some (.tup [.int (val : Int), sv]) ∧ Dp K H sv (tkD s) ∧ s.dep ≤ k + 1 ∧ wt G W s (bits r) (bits c) = val ∧
    (∀ s ∈ A, best G W k (bits s) (bits c) + best G W k (bits (r - s)) (bits c) ≤ val) ∧ ∀ s ∈ B, best G W k (bits r) (bits s) + best G W k (bits r) (bits (c - s)) ≤ val
theorem SplitAt.same {K : PySem.W.Frag} {H H' : Hp} {G W : List (List Nat)} {k r c : Nat} {A B : List Nat} {v : V} (h : SplitAt K H G W k r c A B v) (e : Same H H') : SplitAt K H' G W k r c A B v := by
  rcases h with h | ⟨a, val, sv, s, rfl, h1, h2, h3⟩
  · exact .inl h
  · exact .inr ⟨a, val, sv, s, rfl, e _ _ h1, dp_same e h2, h3⟩
theorem sides_lt {n s : Nat} (hn : n < 16) (h : s ∈ sides n) : 0 < s ∧ s < n := by
  obtain ⟨a, b, _⟩ := sides_facts n hn s h
  exact ⟨a, b⟩
section
variable {P : Program} {w : World} {K : PySem.W.Frag} {mg : Str → Option Value} {base : Heap}
/-- known[x, y]: the rectangle's entry; the key is a new tuple -/
theorem known_get {H : Hp} {d t : Addr} {G W : List (List Nat)} {R C k : Nat} {r : Nat × Nat} {x y : V} (h : KnownAt K H d G W R C k) (hr : r ∈ rects R C) (nt : H t = none) (ex : x = .int (r.1 : Int)) (ey : y = .int (r.2 : Int)) :
    ∃ v, DGet (upd H t (.tup [x, y])) d (.ref t) (some v) ∧ Entry K (upd H t (.tup [x, y])) G W k r v ∧ KnownAt K (upd H t (.tup [x, y])) d G W R C k := by
  have h' := h.same (L2.Same.new (o := .tup [x, y]) nt)
  obtain ⟨kvs, h1, h2⟩ := id h'
  obtain ⟨v, h3, h4⟩ := h2 r hr
  refine ⟨v, ?_, h4, h'⟩
  rw [← h3]
  refine DGet.t (k := rkey r) h1 ?_
  rw [upd_same, ex, ey]
  rfl
/-- found = (near[0] + far[0], (word, tuple(places_in(some)), near[1], far[1])) -/
theorem split_set {D : Ends} {H : Hp} {an af : Addr} {vn vf s0 : Nat} {sn sf : V} {tag : Str} {x0 x1 x2 x3 : Option V} (hs : s0 < 16) (hn : H an = some (.tup [.int (vn : Int), sn])) (hf : H af = some (.tup [.int (vf : Int), sf]))
    (h : ∀ H' t t2 lot, Same H H' → H' t = some (.tup [.int ((vn + vf : Nat) : Int), .ref t2]) → H' t2 = some (.tup [.str tag, .ref lot, sn, sf]) → H' lot = some (.tup (nI (bits s0))) → D.nx [x0, x1, x2, some (.ref t), some (.int (s0 : Int)), some (.ref an), some (.ref af)] H') :
    tAsg (tTup (tCons (tOp (rI0 fun i j => V.int (i + j)) (tOp (rIxT K) (tVar 5) (tC (.int 0))) (tOp (rIxT K) (tVar 6) (tC (.int 0)))) (tCons (tTup (tCons (tC (.str tag)) (tCons (tThen (tCall (spPlacesIn K) [] E0 (tCons (tVar 4) tNil)) (kTup K)) (tCons (tOp (rIxT K) (tVar 5) (tC (.int 1))) (tCons (tOp (rIxT K) (tVar 6) (tC (.int 1))) tNil))))) tNil))) (gName 3)
      D [x0, x1, x2, x3, some (.int (s0 : Int)), some (.ref an), some (.ref af)] H := by
  refine ⟨_, rfl, an, _, _, _, rfl, rfl, .inl (.inl hn), at0, _, rfl, af, _, _, _, rfl, rfl, .inl (.inl hf), at0, _, _, rfl, rfl, ?_⟩
  refine ⟨_, rfl, s0, rfl, hs, fun H1 p s1 np ep => .inl ⟨p, _, rfl, .inl (.inl ep), fun lot nl => ?_⟩⟩
  have s2 : Same H (upd H1 lot (.tup (nI (bits s0)))) := s1.trans (L2.Same.new nl)
  refine ⟨_, rfl, an, _, _, _, rfl, rfl, .inl (.inl (s2 _ _ hn)), at1, _, rfl, af, _, _, _, rfl, rfl, .inl (.inl (s2 _ _ hf)), at1, ?_⟩
  refine ⟨sz (by show 4 ≤ _; omega), fun t2 nt2 => ⟨sz (by show 2 ≤ _; omega), fun t nt => ?_⟩⟩
  have s3 := L2.Same.new (o := .tup [V.str tag, .ref lot, sn, sf]) nt2
  have s4 := L2.Same.new (o := .tup [V.int ((vn : Int) + (vf : Int)), .ref t2]) nt
  exact h _ t t2 lot (s2.trans (s3.trans s4)) upd_same (s4 _ _ upd_same) ((s3.trans s4) _ _ upd_same)
/-! ### best_split -/
abbrev sBestSplit : Stmt := topS 28
abbrev nBestSplit : List Str := ["known", "rows", "columns", "found", "some", "near", "far"]
theorem scBestSplit : FnScope nBestSplit ["known", "rows", "columns"] (defScope sBestSplit) := ⟨rfl, rfl, rfl, by decide +kernel, rfl, by decide +kernel, by decide +kernel⟩
def spBestSplit (K : PySem.W.Frag) : Sp := fun vs H Q _ => ∃ (d : Addr) (G W : List (List Nat)) (R C k r c : Nat), vs = [.ref d, .int (r : Int), .int (c : Int)] ∧ KnownAt K H d G W R C k ∧ R ≤ 4 ∧ C ≤ 4 ∧ 0 < r ∧ r < 2 ^ R ∧ 0 < c ∧ c < 2 ^ C ∧
  ∀ H' v, Same H H' → SplitAt K H' G W k r c (sides r) (sides c) v → Q v H'
theorem ok_BestSplit {f : Addr} {fd : FuncData} (F : FnAt K mg "best_split" sBestSplit ["known", "rows", "columns"] f fd) (T : Txt K mg) {fPlacesIn : Addr} {dPlacesIn : FuncData} (F_PlacesIn : FnAt K mg "places_in" sPlacesIn ["number"] fPlacesIn dPlacesIn) (G_PlacesIn : FnOk P w K mg base CX0 1 fPlacesIn dPlacesIn ["number"] (spPlacesIn K)) {fSidesOf : Addr} {dSidesOf : FuncData} (F_SidesOf : FnAt K mg "sides_of" sSidesOf ["number"] fSidesOf dSidesOf) (G_SidesOf : FnOk P w K mg base CX0 1 fSidesOf dSidesOf ["number"] (spSidesOf K)) : FnOk P w K mg base CX0 2 f fd ["known", "rows", "columns"] (spBestSplit K) := by
  refine F.at_.ok scBestSplit (fun vs H Q E h => ?_) (fun cdv A outer s H vs Q E hr h => ?_)
  · obtain ⟨d, G, W, R, C, k, r, c, rfl, _⟩ := h
    rfl
  · obtain ⟨d, G, W, R, C, k, r, c, rfl, hk, r2, c2, mr0, mr, mc0, mc, q⟩ := h
    obtain ⟨p1, p2⟩ := pow_le16 r2
    obtain ⟨p3, p4⟩ := pow_le16 c2
    have r16 : r < 16 := by omega
    have c16 : c < 16 := by omega
    refine ⟨_, (pss_cons (ps_set (i := 3) scBestSplit.nd rfl (Or.inl rfl) pe_non)
      (pss_cons (ps_for PassesOwn.never rfl (pi_lK K (pe_cl F_SidesOf G_SidesOf (hr.mono (by decide)) (pa_cons (pv 1) pa_nil))) (pg_name (i := 4) scBestSplit.nd rfl (Or.inl rfl)) 
          (pss_cons (ps_par (i := 5) (j := 6) (by rfl) scBestSplit.nd rfl rfl (by decide) rfl rfl (pa_cons (pe_dget (hu_of hr) (pv 0) (pe_tup (pa_cons (pv 4) (pa_cons (pv 2) pa_nil))) (fun _ _ => rfl)) (pa_cons (pe_dget (hu_of hr) (pv 0) (pe_tup (pa_cons (pe_op op_sub (pv 1) (pv 4)) (pa_cons (pv 2) pa_nil))) (fun _ _ => rfl)) pa_nil)) (by rfl))
          (pss_one (ps_if (PW.pt (pw_or (pt_cmpR op_isN (pv 3) pe_non (nomark _)) (pw_or1 (pt_cmpR op_gt (pe_op op_add (pe_ix (ix_tK K) (pv 5) pe_int (fun _ _ => rfl)) (pe_ix (ix_tK K) (pv 6) pe_int (fun _ _ => rfl))) (pe_ix (ix_tK K) (pv 3) pe_int (fun _ _ => rfl)) (nomark _))))) 
              (pss_one (ps_set (i := 3) scBestSplit.nd rfl (Or.inl rfl) (pe_tup (pa_cons (pe_op op_add (pe_ix (ix_tK K) (pv 5) pe_int (fun _ _ => rfl)) (pe_ix (ix_tK K) (pv 6) pe_int (fun _ _ => rfl))) (pa_cons (pe_tup (pa_cons pe_str (pa_cons (pe_tupK K (by rfl) T.tuple (pe_cl F_PlacesIn G_PlacesIn (hr.mono (by decide)) (pa_cons (pv 4) pa_nil))) (pa_cons (pe_ix (ix_tK K) (pv 5) pe_int (fun _ _ => rfl)) (pa_cons (pe_ix (ix_tK K) (pv 6) pe_int (fun _ _ => rfl)) pa_nil))))) pa_nil))))) pss_nil))))
      (pss_cons (ps_for PassesOwn.never rfl (pi_lK K (pe_cl F_SidesOf G_SidesOf (hr.mono (by decide)) (pa_cons (pv 2) pa_nil))) (pg_name (i := 4) scBestSplit.nd rfl (Or.inl rfl)) 
          (pss_cons (ps_par (i := 5) (j := 6) (by rfl) scBestSplit.nd rfl rfl (by decide) rfl rfl (pa_cons (pe_dget (hu_of hr) (pv 0) (pe_tup (pa_cons (pv 1) (pa_cons (pv 4) pa_nil))) (fun _ _ => rfl)) (pa_cons (pe_dget (hu_of hr) (pv 0) (pe_tup (pa_cons (pv 1) (pa_cons (pe_op op_sub (pv 2) (pv 4)) pa_nil))) (fun _ _ => rfl)) pa_nil)) (by rfl))
          (pss_one (ps_if (PW.pt (pw_or (pt_cmpR op_isN (pv 3) pe_non (nomark _)) (pw_or1 (pt_cmpR op_gt (pe_op op_add (pe_ix (ix_tK K) (pv 5) pe_int (fun _ _ => rfl)) (pe_ix (ix_tK K) (pv 6) pe_int (fun _ _ => rfl))) (pe_ix (ix_tK K) (pv 3) pe_int (fun _ _ => rfl)) (nomark _))))) 
              (pss_one (ps_set (i := 3) scBestSplit.nd rfl (Or.inl rfl) (pe_tup (pa_cons (pe_op op_add (pe_ix (ix_tK K) (pv 5) pe_int (fun _ _ => rfl)) (pe_ix (ix_tK K) (pv 6) pe_int (fun _ _ => rfl))) (pa_cons (pe_tup (pa_cons pe_str (pa_cons (pe_tupK K (by rfl) T.tuple (pe_cl F_PlacesIn G_PlacesIn (hr.mono (by decide)) (pa_cons (pv 4) pa_nil))) (pa_cons (pe_ix (ix_tK K) (pv 5) pe_int (fun _ _ => rfl)) (pa_cons (pe_ix (ix_tK K) (pv 6) pe_int (fun _ _ => rfl)) pa_nil))))) pa_nil))))) pss_nil))))
      (pss_one (ps_ret (pv 3)))))), ?_⟩
    refine ⟨_, rfl, r, rfl, mr0, r16, fun H1 p sm np ep => ⟨p, rfl, ⟨_, .inl (.inl ep)⟩, ?_⟩⟩
    refine for_it walk_lst (fun i σ H' => Same H H' ∧ H' p = some (.lst (nI (sides r))) ∧ ∃ v z1 z2 z3, σ = [some (.ref d), some (.int (r : Int)), some (.int (c : Int)), some v, z1, z2, z3] ∧ SplitAt K H' G W k r c ((sides r).take i) [] v) ?_ (fun i σ H' _ h => .inl (.inl h.2.1)) (fun i x σ H2 H' hi h y => ?_) (fun σ H' h => ?_)
    · exact ⟨sm, ep, .non, none, none, none, rfl, .inl ⟨rfl, by rw [List.take_zero], rfl⟩⟩
    · obtain ⟨sm2, ep2, v, z1, z2, z3, rfl, hv⟩ := h
      obtain ⟨rfl, rfl⟩ := y
      obtain ⟨s0, hs0, ex⟩ := nI_at hi
      have hsm := List.mem_of_getElem? hs0
      obtain ⟨l1, l2⟩ := sides_lt r16 hsm
      rw [ex]
      -- near, far
      refine ⟨_, rfl, _, rfl, _, rfl, sz (by show 2 ≤ _; omega), fun t1 nt1 => ?_⟩
      obtain ⟨vn, g1, ⟨an, valn, sn, tn, rfl, en1, en2, en3⟩, hk1⟩ := known_get (r := (s0, c)) (hk.same sm2) (mem_rects.mpr ⟨by omega, by omega⟩) nt1 rfl rfl
      refine ⟨d, _, rfl, g1, ?_⟩
      refine ⟨_, rfl, _, rfl, _, rfl, _, _, rfl, rfl, _, rfl, sz (by show 2 ≤ _; omega), fun t2 nt2 => ?_⟩
      have esub : (r : Int) - (s0 : Int) = ((r - s0 : Nat) : Int) := by omega
      obtain ⟨vf, g2, ⟨af, valf, sf, tf, rfl, ef1, ef2, ef3⟩, hk2⟩ := known_get (r := (r - s0, c)) hk1 (mem_rects.mpr ⟨by omega, by omega⟩) nt2 (x := .int ((r : Int) - (s0 : Int))) (by rw [esub]) rfl
      refine ⟨d, _, rfl, g2, _, _, rfl, ?_⟩
      have st1 := L2.Same.new (o := .tup [V.int (s0 : Int), .int (c : Int)]) nt1
      have st2 := L2.Same.new (o := .tup [V.int ((r : Int) - (s0 : Int)), .int (c : Int)]) nt2
      have st := st1.trans st2
      have en1' := st2 _ _ en1
      -- the new pair is a parting's speech
      have fin : ∀ H3 t ts lot, Same (upd (upd H' t1 (.tup [V.int (s0 : Int), .int (c : Int)])) t2 (.tup [V.int ((r : Int) - (s0 : Int)), .int (c : Int)])) H3 → H3 t = some (.tup [.int ((valn + valf : Nat) : Int), .ref ts]) → H3 ts = some (.tup [.str "row", .ref lot, sn, sf]) → H3 lot = some (.tup (nI (bits s0))) →
          (∀ s ∈ (sides r).take i, best G W k (bits s) (bits c) + best G W k (bits (r - s)) (bits c) ≤ valn + valf) → SplitAt K H3 G W k r c ((sides r).take (i + 1)) [] (.ref t) := by
        intro H3 t ts lot s3 h1 h2 h3 hA
        refine .inr ⟨t, valn + valf, .ref ts, .row (bits s0) tn tf, rfl, h1, .tup (.inl (.inl h2)) (.cons (.str _) (.cons (dp_lot (.inl (.inl h3))) (.cons (dp_same (st2.trans s3) en2) (.cons (dp_same s3 ef2) .nil)))), ?_, ?_, fun s hs => ?_, fun s hs => nomatch hs⟩
        · have h1 := en3.1
          have h2 := ef3.1
          simp only [Tk.dep]
          omega
        · rw [wt_side_row r16 hsm]
          have h1 := en3.2.1
          have h2 := ef3.2.1
          simp only at h1 h2
          omega
        · rw [List.take_add_one, hs0] at hs
          rcases List.mem_append.mp hs with hs | hs
          · exact hA s hs
          · have e : s = s0 := by simpa using hs
            subst e
            have h1 := en3.2.2
            have h2 := ef3.2.2
            simp only at h1 h2
            omega
      rcases hv with ⟨rfl, hA, _⟩ | ⟨a, val, sv, sp, rfl, h1, h2, h3, h4, h5, h6⟩
      · refine ⟨_, rfl, rfl, _, rfl, iteT (iteT ?_)⟩
        refine split_set (by omega) en1' ef1 fun H3 t ts lot s3 e1 e2 e3 => ⟨sm2.trans (st.trans s3), s3 _ _ (st _ _ ep2), _, _, _, _, rfl, fin H3 t ts lot s3 e1 e2 e3 fun s hs => ?_⟩
        rw [hA] at hs
        cases hs
      · refine ⟨_, rfl, rfl, _, rfl, iteF ?_⟩
        refine ⟨_, rfl, an, _, _, _, rfl, rfl, .inl (.inl en1'), at0, _, rfl, af, _, _, _, rfl, rfl, .inl (.inl ef1), at0, _, _, rfl, rfl, _, rfl, a, _, _, _, rfl, rfl, .inl (.inl (st _ _ h1)), at0, _, _, rfl, rfl, _, rfl, ite2 (fun hgt => ?_) (fun hgt => ?_)⟩
        · have hgt := of_decide_eq_true hgt
          refine split_set (by omega) en1' ef1 fun H3 t ts lot s3 e1 e2 e3 => ⟨sm2.trans (st.trans s3), s3 _ _ (st _ _ ep2), _, _, _, _, rfl, fin H3 t ts lot s3 e1 e2 e3 fun s hs => ?_⟩
          have := h5 s hs
          omega
        · have hgt : ¬ (val : Int) < (valn : Int) + (valf : Int) := fun z => hgt (decide_eq_true z)
          refine ⟨sm2.trans st, st _ _ ep2, _, _, _, _, rfl, .inr ⟨a, val, sv, sp, rfl, st _ _ h1, dp_same st h2, h3, h4, fun s hs => ?_, fun s hs => nomatch hs⟩⟩
          rw [List.take_add_one, hs0] at hs
          rcases List.mem_append.mp hs with hs | hs
          · exact h5 s hs
          · have e : s = s0 := by simpa using hs
            subst e
            have g1 := en3.2.2
            have g2 := ef3.2.2
            simp only at g1 g2
            omega
    · obtain ⟨sm1, ep1, v, z1, z2, z3, rfl, hv⟩ := h
      rw [nI_len, List.take_length] at hv
      refine ⟨_, rfl, c, rfl, mc0, c16, fun H2 p' sm2' np' ep' => ⟨p', rfl, ⟨_, .inl (.inl ep')⟩, ?_⟩⟩
      refine for_it walk_lst (fun i σ H' => Same H H' ∧ H' p' = some (.lst (nI (sides c))) ∧ ∃ v z1 z2 z3, σ = [some (.ref d), some (.int (r : Int)), some (.int (c : Int)), some v, z1, z2, z3] ∧ SplitAt K H' G W k r c (sides r) ((sides c).take i) v) ?_ (fun i σ H' _ h => .inl (.inl h.2.1)) (fun i x σ H2 H' hi h y => ?_) (fun σ H' h => ?_)
      · exact ⟨sm1.trans sm2', ep', v, z1, z2, z3, rfl, by rw [List.take_zero]; exact hv.same sm2'⟩
      · obtain ⟨sm2, ep2, v, z1, z2, z3, rfl, hv⟩ := h
        obtain ⟨rfl, rfl⟩ := y
        obtain ⟨s0, hs0, ex⟩ := nI_at hi
        have hsm := List.mem_of_getElem? hs0
        obtain ⟨l1, l2⟩ := sides_lt c16 hsm
        rw [ex]
        -- near, far
        refine ⟨_, rfl, _, rfl, _, rfl, sz (by show 2 ≤ _; omega), fun t1 nt1 => ?_⟩
        obtain ⟨vn, g1, ⟨an, valn, sn, tn, rfl, en1, en2, en3⟩, hk1⟩ := known_get (r := (r, s0)) (hk.same sm2) (mem_rects.mpr ⟨by omega, by omega⟩) nt1 rfl rfl
        refine ⟨d, _, rfl, g1, ?_⟩
        refine ⟨_, rfl, _, rfl, _, rfl, _, rfl, _, _, rfl, rfl, sz (by show 2 ≤ _; omega), fun t2 nt2 => ?_⟩
        have esub : (c : Int) - (s0 : Int) = ((c - s0 : Nat) : Int) := by omega
        obtain ⟨vf, g2, ⟨af, valf, sf, tf, rfl, ef1, ef2, ef3⟩, hk2⟩ := known_get (r := (r, c - s0)) hk1 (mem_rects.mpr ⟨by omega, by omega⟩) nt2 (y := .int ((c : Int) - (s0 : Int))) rfl (by rw [esub])
        refine ⟨d, _, rfl, g2, _, _, rfl, ?_⟩
        have st1 := L2.Same.new (o := .tup [V.int (r : Int), .int (s0 : Int)]) nt1
        have st2 := L2.Same.new (o := .tup [V.int (r : Int), .int ((c : Int) - (s0 : Int))]) nt2
        have st := st1.trans st2
        have en1' := st2 _ _ en1
        -- the new pair is a parting's speech
        have fin : ∀ H3 t ts lot, Same (upd (upd H' t1 (.tup [V.int (r : Int), .int (s0 : Int)])) t2 (.tup [V.int (r : Int), .int ((c : Int) - (s0 : Int))])) H3 → H3 t = some (.tup [.int ((valn + valf : Nat) : Int), .ref ts]) → H3 ts = some (.tup [.str "column", .ref lot, sn, sf]) → H3 lot = some (.tup (nI (bits s0))) →
            (∀ s ∈ sides r, best G W k (bits s) (bits c) + best G W k (bits (r - s)) (bits c) ≤ valn + valf) → (∀ s ∈ (sides c).take i, best G W k (bits r) (bits s) + best G W k (bits r) (bits (c - s)) ≤ valn + valf) → SplitAt K H3 G W k r c (sides r) ((sides c).take (i + 1)) (.ref t) := by
          intro H3 t ts lot s3 h1 h2 h3 hA hB
          refine .inr ⟨t, valn + valf, .ref ts, .col (bits s0) tn tf, rfl, h1, .tup (.inl (.inl h2)) (.cons (.str _) (.cons (dp_lot (.inl (.inl h3))) (.cons (dp_same (st2.trans s3) en2) (.cons (dp_same s3 ef2) .nil)))), ?_, ?_, hA, fun s hs => ?_⟩
          · have h1 := en3.1
            have h2 := ef3.1
            simp only [Tk.dep]
            omega
          · rw [wt_side_col c16 hsm]
            have h1 := en3.2.1
            have h2 := ef3.2.1
            simp only at h1 h2
            omega
          · rw [List.take_add_one, hs0] at hs
            rcases List.mem_append.mp hs with hs | hs
            · exact hB s hs
            · have e : s = s0 := by simpa using hs
              subst e
              have h1 := en3.2.2
              have h2 := ef3.2.2
              simp only at h1 h2
              omega
        rcases hv with ⟨rfl, hA, hB⟩ | ⟨a, val, sv, sp, rfl, h1, h2, h3, h4, h5, h6⟩
        · refine ⟨_, rfl, rfl, _, rfl, iteT (iteT ?_)⟩
          refine split_set (by omega) en1' ef1 fun H3 t ts lot s3 e1 e2 e3 => ⟨sm2.trans (st.trans s3), s3 _ _ (st _ _ ep2), _, _, _, _, rfl, fin H3 t ts lot s3 e1 e2 e3 (fun s hs => ?_) (fun s hs => ?_)⟩
          · rw [hA] at hs
            cases hs
          · rw [hB] at hs
            cases hs
        · refine ⟨_, rfl, rfl, _, rfl, iteF ?_⟩
          refine ⟨_, rfl, an, _, _, _, rfl, rfl, .inl (.inl en1'), at0, _, rfl, af, _, _, _, rfl, rfl, .inl (.inl ef1), at0, _, _, rfl, rfl, _, rfl, a, _, _, _, rfl, rfl, .inl (.inl (st _ _ h1)), at0, _, _, rfl, rfl, _, rfl, ite2 (fun hgt => ?_) (fun hgt => ?_)⟩
          · have hgt := of_decide_eq_true hgt
            refine split_set (by omega) en1' ef1 fun H3 t ts lot s3 e1 e2 e3 => ⟨sm2.trans (st.trans s3), s3 _ _ (st _ _ ep2), _, _, _, _, rfl, fin H3 t ts lot s3 e1 e2 e3 (fun s hs => ?_) (fun s hs => ?_)⟩
            · have := h5 s hs
              omega
            · have := h6 s hs
              omega
          · have hgt : ¬ (val : Int) < (valn : Int) + (valf : Int) := fun z => hgt (decide_eq_true z)
            refine ⟨sm2.trans st, st _ _ ep2, _, _, _, _, rfl, .inr ⟨a, val, sv, sp, rfl, st _ _ h1, dp_same st h2, h3, h4, h5, fun s hs => ?_⟩⟩
            rw [List.take_add_one, hs0] at hs
            rcases List.mem_append.mp hs with hs | hs
            · exact h6 s hs
            · have e : s = s0 := by simpa using hs
              subst e
              have g1 := en3.2.2
              have g2 := ef3.2.2
              simp only at g1 g2
              omega
      · obtain ⟨sm3, ep3, v, z1, z2, z3, rfl, hv⟩ := h
        rw [nI_len, List.take_length] at hv
        exact ⟨_, rfl, q _ _ sm3 hv⟩
/-! ### better_so -/
abbrev sBetterSo : Stmt := topS 30
abbrev nBetterSo : List Str := ["known", "rectangle", "found", "more"]
theorem scBetterSo : FnScope nBetterSo ["known", "rectangle"] (defScope sBetterSo) := ⟨rfl, rfl, rfl, by decide +kernel, rfl, by decide +kernel, by decide +kernel⟩
def spBetterSo (K : PySem.W.Frag) : Sp := fun vs H Q _ => ∃ (d p : Addr) (G W : List (List Nat)) (R C k r c : Nat), vs = [.ref d, .ref p] ∧ KnownAt K H d G W R C k ∧ R ≤ 4 ∧ C ≤ 4 ∧ H p = some (.tup [.int (r : Int), .int (c : Int)]) ∧ 0 < r ∧ r < 2 ^ R ∧ 0 < c ∧ c < 2 ^ C ∧
  ∀ H' v, Same H H' → Entry K H' G W (k + 1) (r, c) v → Q v H'
theorem ok_BetterSo {f : Addr} {fd : FuncData} (F : FnAt K mg "better_so" sBetterSo ["known", "rectangle"] f fd) (T : Txt K mg) {fBestSplit : Addr} {dBestSplit : FuncData} (F_BestSplit : FnAt K mg "best_split" sBestSplit ["known", "rows", "columns"] fBestSplit dBestSplit) (G_BestSplit : FnOk P w K mg base CX0 2 fBestSplit dBestSplit ["known", "rows", "columns"] (spBestSplit K)) : FnOk P w K mg base CX0 3 f fd ["known", "rectangle"] (spBetterSo K) := by
  refine F.at_.ok scBetterSo (fun vs H Q E h => ?_) (fun cdv A outer s H vs Q E hr h => ?_)
  · obtain ⟨d, p, G, W, R, C, k, r, c, rfl, _⟩ := h
    rfl
  · obtain ⟨d, p, G, W, R, C, k, r, c, rfl, hk, r2, c2, hp, mr0, mr, mc0, mc, q⟩ := h
    obtain ⟨p1, p2⟩ := pow_le16 r2
    obtain ⟨p3, p4⟩ := pow_le16 c2
    have r16 : r < 16 := by omega
    have c16 : c < 16 := by omega
    obtain ⟨kvs, hd, hall⟩ := id hk
    obtain ⟨v0, hv0, a0, val, sv, s, rfl, e1, e2, e3⟩ := hall (r, c) (mem_rects.mpr ⟨⟨mr0, mr⟩, mc0, mc⟩)
    have hg : DGet H d (.ref p) (some (.ref a0)) := by
      rw [← hv0]
      exact DGet.t (k := rkey (r, c)) hd hp
    have tp : SqT K H p [.int (r : Int), .int (c : Int)] := .inl (.inl hp)
    refine ⟨_, (pss_cons (ps_par (i := 2) (j := 3) (by rfl) scBetterSo.nd rfl rfl (by decide) rfl rfl (pa_cons (pe_dget (hu_of hr) (pv 0) (pv 1) (fun _ _ => rfl)) (pa_cons (pe_cl F_BestSplit G_BestSplit (hr.mono (by decide)) (pa_cons (pv 0) (pa_cons (pe_ix (ix_tK K) (pv 1) pe_int (fun _ _ => rfl)) (pa_cons (pe_ix (ix_tK K) (pv 1) pe_int (fun _ _ => rfl)) pa_nil)))) pa_nil)) (by rfl))
      (pss_one (ps_ret (pe_ifExp (PW.pt (pw_and (pt_cmpR op_notN (pv 3) pe_non (nomark _)) (pw_and1 (pt_cmpR op_gt (pe_ix (ix_tK K) (pv 3) pe_int (fun _ _ => rfl)) (pe_ix (ix_tK K) (pv 2) pe_int (fun _ _ => rfl)) (nomark _))))) (pv 3) (pv 2))))), ?_⟩
    refine ⟨_, rfl, _, rfl, d, _, rfl, hg, ?_⟩
    refine ⟨_, rfl, _, rfl, p, _, _, _, rfl, rfl, tp, at0, _, rfl, p, _, _, _, rfl, rfl, tp, at1, d, G, W, R, C, k, r, c, rfl, hk, r2, c2, mr0, mr, mc0, mc, fun H1 v sm hv => ?_⟩
    have f1 := sm _ _ e1
    rcases hv with ⟨rfl, hA, hB⟩ | ⟨a, val', sv', s', rfl, g1, g2, g3, g4, g5, g6⟩
    · refine ⟨_, _, rfl, _, rfl, rfl, _, rfl, iteF ⟨_, rfl, q _ _ sm ⟨a0, val, sv, s, rfl, f1, dp_same sm e2, Nat.le_succ_of_le e3.1, e3.2.1, ?_⟩⟩⟩
      refine best_step r16 c16 (Nat.le_of_eq e3.2.2.symm) (fun x hx => ?_) (fun x hx => ?_) ⟨s, Nat.le_succ_of_le e3.1, e3.2.1⟩
      · rw [hA] at hx
        cases hx
      · rw [hB] at hx
        cases hx
    · refine ⟨_, _, rfl, _, rfl, rfl, _, rfl, iteT ⟨_, rfl, a, _, _, _, rfl, rfl, .inl (.inl g1), at0, _, rfl, a0, _, _, _, rfl, rfl, .inl (.inl f1), at0, _, _, rfl, rfl, _, rfl, ite2 (fun hgt => ?_) (fun hgt => ?_)⟩⟩
      · have hgt := of_decide_eq_true hgt
        have h0 := e3.2.2
        simp only at h0
        refine ⟨_, rfl, q _ _ sm ⟨a, val', sv', s', rfl, g1, g2, g3, g4, best_step r16 c16 (by simp only; omega) g5 g6 ⟨s', g3, g4⟩⟩⟩
      · have hgt : ¬ (val : Int) < (val' : Int) := fun z => hgt (decide_eq_true z)
        have h0 := e3.2.2
        simp only at h0
        refine ⟨_, rfl, q _ _ sm ⟨a0, val, sv, s, rfl, f1, dp_same sm e2, Nat.le_succ_of_le e3.1, e3.2.1, best_step r16 c16 (by simp only; omega) (fun x hx => ?_) (fun x hx => ?_) ⟨s, Nat.le_succ_of_le e3.1, e3.2.1⟩⟩⟩
        · have := g5 x hx
          simp only
          omega
        · have := g6 x hx
          simp only
          omega
end
end My
set_option Elab.async false
set_option linter.all false
set_option maxRecDepth 100000
set_option maxHeartbeats 2000000
/-! best_whole, answer_so, best_speech -/
namespace My
open PySem PySem.Spec PyProof.Rows L2 Bs
theorem rkey_inj {a b : Nat × Nat} (h : rkey a = rkey b) : a = b := by
  unfold rkey at h
  injection h with h1 h2
  injection h2 with h2 _
  exact Prod.ext (mK_inj.mp h1) (mK_inj.mp h2)
/-- a table by rectangles, as it is built -/
theorem dc_rect {K : PySem.W.Frag} {J : It} {n : Nat} {G : Hp → Prop} {item : Nat → V} (wk : Walk J n G (fun i H x H' => H' = H ∧ x = item i)) {j : Nat} {tv : TE} {vs : List Nat} {σ : L2.St} {H1 : Hp} {D : Addr} {Qd : Hp → Prop} {G0 W0 : List (List Nat)} {R C k : Nat}
    (hl : (rects R C).length = n) (hn : n ≤ 1000) (hD : H1 D = none) (hG : ∀ H', Same H1 H' → G H')
    (hi : ∀ i r, (rects R C)[i]? = some r → ∃ b, item i = .ref b ∧ H1 b = some (.tup [.int (r.1 : Int), .int (r.2 : Int)]))
    (he : ∀ i r H' b, (rects R C)[i]? = some r → item i = .ref b → H' b = some (.tup [.int (r.1 : Int), .int (r.2 : Int)]) → Same H1 H' → ∀ Q' : V → Hp → Prop, (∀ y H3, Same H' H3 → Entry K H3 G0 W0 k r y → Q' y H3) → tv ((wipe σ vs).set j (some (item i))) H' Q')
    (hd : ∀ H', Same H1 H' → KnownAt K H' D G0 W0 R C k → Qd H')
    (hw : ∀ x : Option V, wipe ((wipe σ vs).set j x) vs = wipe σ vs := by intro _; rfl) (hj : ∀ x : V, ((wipe σ vs).set j (some x))[j]? = some (some x) := by intro _; rfl) :
    ∃ W : Nat → Nat → Hp → Prop, (∃ m, W 0 m (upd H1 D (.dT []))) ∧ ∀ i m H, W i m H →
      (J.stop i H ∧ Qd H) ∨ (J.go i H ∧ ∃ Nx : Hp → Prop, (∀ H', Nx H' → ∃ m', m' < m ∧ W (i + 1) m' H') ∧ ∀ x H', J.yld i H x H' → (gName j) x (wipe σ vs) H' fun σ2 H2 => wipe σ2 vs = wipe σ vs ∧
        (tVar j) σ2 H2 fun y H4 => tv σ2 H4 fun z H5 => ∃ (kvs : List (List Key × V)) (k : List Key) (b : Addr), y = .ref b ∧ H5 b = some (.tup (k.map kV)) ∧ H5 D = some (.dT kvs) ∧ kvs.length < sizeLine ∧ Nx (upd H5 D (.dT (putK kvs k z)))) := by
  refine ⟨fun i m H => m = n - i ∧ i ≤ n ∧ Same H1 H ∧ ∃ kvs, H D = some (.dT kvs) ∧ kvs.length ≤ i ∧ ∀ r ∈ (rects R C).take i, ∃ v, valV kvs (rkey r) = some v ∧ Entry K H G0 W0 k r v, ⟨_, rfl, Nat.zero_le _, (But.upd (D := D)).same hD, [], upd_same, Nat.le_refl _, fun r hr => ?_⟩, fun i m H h => ?_⟩
  · rw [List.take_zero] at hr
    cases hr
  · obtain ⟨rfl, hin, sm, kvs, eD, hlen, hall⟩ := h
    rcases Nat.lt_or_ge i n with hlt | hge
    · obtain ⟨r, hr⟩ : ∃ r, (rects R C)[i]? = some r := ⟨(rects R C)[i]'(by omega), List.getElem?_eq_getElem _⟩
      obtain ⟨b, eb, hb⟩ := hi i r hr
      refine .inr ⟨wk.goes i H hlt (hG _ sm), fun H' => Same H1 H' ∧ ∃ kvs, H' D = some (.dT kvs) ∧ kvs.length ≤ i + 1 ∧ ∀ r ∈ (rects R C).take (i + 1), ∃ v, valV kvs (rkey r) = some v ∧ Entry K H' G0 W0 k r v, fun H' q => ⟨_, by omega, rfl, hlt, q⟩, fun x H' y => ?_⟩
      obtain ⟨rfl, rfl⟩ := wk.yields i H x H' hlt (hG _ sm) y
      have hb' := sm _ _ hb
      refine ⟨hw _, item i, hj _, he i r _ b hr eb hb' sm _ fun z H3 s3 en => ?_⟩
      have eD3 := s3 _ _ eD
      have sq : Seqs H3 (upd H3 D (.dT (putK kvs (rkey r) z))) := Seqs.dict eD3 trivial
      refine ⟨kvs, rkey r, b, eb, s3 _ _ hb', eD3, szl (by omega), ((But.of (sm.trans s3)).trans But.upd).same hD, _, upd_same, Nat.le_trans (length_putK _ _ _) (by omega), fun r' hr' => ?_⟩
      rw [valV_put]
      by_cases e : r' = r
      · refine ⟨z, by rw [if_pos (by rw [e])], ?_⟩
        rw [e]
        exact en.seqs sq
      · rw [if_neg fun q => e (rkey_inj q)]
        rw [List.take_add_one, hr] at hr'
        rcases List.mem_append.mp hr' with hr' | hr'
        · obtain ⟨v, h1, h2⟩ := hall r' hr'
          exact ⟨v, h1, (h2.seqs s3.seqs).seqs sq⟩
        · exact absurd (by simpa using hr') e
    · have e : i = n := by omega
      subst e
      rw [List.take_of_length_le (by omega)] at hall
      exact .inl ⟨wk.stops H (hG _ sm), hd H sm ⟨kvs, eD, hall⟩⟩
theorem rects_get {R C : Nat} (hR : 1 ≤ R) (hC : 1 ≤ C) : (rects R C)[(rects R C).length - 1]? = some (2 ^ R - 1, 2 ^ C - 1) := by
  have h : ∀ {R C : Nat}, 1 ≤ R → 1 ≤ C → ∃ l, rects R C = l ++ [(2 ^ R - 1, 2 ^ C - 1)] := by
    intro R C hR hC
    have pR : 2 ≤ 2 ^ R := Nat.le_trans (by decide) (Nat.pow_le_pow_right (by decide) hR)
    have pC : 2 ≤ 2 ^ C := Nat.le_trans (by decide) (Nat.pow_le_pow_right (by decide) hC)
    obtain ⟨a, ha⟩ : ∃ a, 2 ^ R - 1 = a + 1 := ⟨2 ^ R - 2, by omega⟩
    obtain ⟨b, hb⟩ : ∃ b, 2 ^ C - 1 = b + 1 := ⟨2 ^ C - 2, by omega⟩
    unfold rects
    rw [ha, hb, rectsN_succ, List.range_succ, List.map_append, ← List.append_assoc]
    exact ⟨_, rfl⟩
  obtain ⟨l, e⟩ := h hR hC
  rw [e]
  simp
theorem paired_getR {α β : Type} {F : α → β → Prop} : ∀ {l : List α} {m : List β} {i : Nat} {b : β}, Paired F l m → m[i]? = some b → ∃ a, l[i]? = some a ∧ F a b
  | _, _, _, _, .nil, h => by simp at h
  | _, _, 0, _, .cons a b, h => by
    simp at h
    subst h
    exact ⟨_, rfl, a⟩
  | _, _, i + 1, _, .cons a b, h => by
    obtain ⟨y, h1, h2⟩ := paired_getR (i := i) b (by simpa using h)
    exact ⟨y, by simpa using h1, h2⟩
section
variable {P : Program} {w : World} {K : PySem.W.Frag} {mg : Str → Option Value} {base : Heap}
/-! ### best_whole -/
abbrev sBestWhole : Stmt := topS 31
abbrev nBestWhole : List Str := ["grid", "weights", "bits", "rectangles", "known", "rectangle", "_bit"]
theorem scBestWhole : FnScope nBestWhole ["grid", "weights", "bits"] (defScope sBestWhole) := ⟨rfl, rfl, rfl, by decide +kernel, rfl, by decide +kernel, by decide +kernel⟩
def spBestWhole (K : PySem.W.Frag) : Sp := fun vs H Q _ => ∃ (v : V) (b : Addr) (k : Nat) (G W : List (List Nat)) (R C : Nat), vs = [v, .ref b, .int (k : Int)] ∧ GridAt K H v G ∧ Shape G R C ∧ 1 ≤ R ∧ R ≤ 4 ∧ 1 ≤ C ∧ C ≤ 4 ∧ SqL K H b (nI W.flatten) ∧ Shape W R C ∧ k ≤ 2 ∧
  ∀ H' v, Same H H' → Entry K H' G W k (2 ^ R - 1, 2 ^ C - 1) v → Q v H'
theorem ok_BestWhole {f : Addr} {fd : FuncData} (F : FnAt K mg "best_whole" sBestWhole ["grid", "weights", "bits"] f fd) (T : Txt K mg) {fBestEnd : Addr} {dBestEnd : FuncData} (F_BestEnd : FnAt K mg "best_end" sBestEnd ["grid", "weights", "rows", "columns"] fBestEnd dBestEnd) (G_BestEnd : FnOk P w K mg base CX0 2 fBestEnd dBestEnd ["grid", "weights", "rows", "columns"] (spBestEnd K)) {fAllRectangles : Addr} {dAllRectangles : FuncData} (F_AllRectangles : FnAt K mg "all_rectangles" sAllRectangles ["grid"] fAllRectangles dAllRectangles) (G_AllRectangles : FnOk P w K mg base CX0 1 fAllRectangles dAllRectangles ["grid"] (spAllRectangles K)) {fBetterSo : Addr} {dBetterSo : FuncData} (F_BetterSo : FnAt K mg "better_so" sBetterSo ["known", "rectangle"] fBetterSo dBetterSo) (G_BetterSo : FnOk P w K mg base CX0 3 fBetterSo dBetterSo ["known", "rectangle"] (spBetterSo K)) : FnOk P w K mg base CX0 4 f fd ["grid", "weights", "bits"] (spBestWhole K) := by
  refine F.at_.ok scBestWhole (fun vs H Q E h => ?_) (fun cdv A outer s H vs Q E hr h => ?_)
  · obtain ⟨v, b, k, G, W, R, C, rfl, _⟩ := h
    rfl
  · obtain ⟨v, b, k, G, W, R, C, rfl, hg, hs, r1, r2, c1, c2, hb, hW, hk, q⟩ := h
    refine ⟨_, (pss_cons (ps_set (i := 3) scBestWhole.nd rfl (Or.inl rfl) (pe_cl F_AllRectangles G_AllRectangles (hr.mono (by decide)) (pa_cons (pv 0) pa_nil)))
      (pss_cons (ps_set (i := 4) scBestWhole.nd rfl (Or.inr rfl) (pe_dcT (own := [("rectangle", 5)]) rfl hr.units scBestWhole.nd (pi_lK K (pv 3)) (blkOk_by (N := nBestWhole) (sc := defScope sBestWhole) (by decide +kernel)) (fun _ _ _ _ _ => pg_name (i := 5) scBestWhole.nd rfl (Or.inl rfl)) (fun _ _ _ _ _ => pv 5) (fun _ _ _ _ _ => pe_cl F_BestEnd G_BestEnd (hr.mono (by decide)) (pa_cons (pv 0) (pa_cons (pv 1) (pa_cons (pe_ix (ix_tK K) (pv 5) pe_int (fun _ _ => rfl)) (pa_cons (pe_ix (ix_tK K) (pv 5) pe_int (fun _ _ => rfl)) pa_nil)))))))
      (pss_cons (ps_for PassesOwn.never rfl (pi_range1 (by rfl) T.range (pa_cons (pv 2) pa_nil)) (pg_name (i := 6) scBestWhole.nd rfl (Or.inl rfl)) 
          (pss_one (ps_set (i := 4) scBestWhole.nd rfl (Or.inr rfl) (pe_dcT (own := [("rectangle", 5)]) rfl hr.units scBestWhole.nd (pi_lK K (pv 3)) (blkOk_by (N := nBestWhole) (sc := defScope sBestWhole) (by decide +kernel)) (fun _ _ _ _ _ => pg_name (i := 5) scBestWhole.nd rfl (Or.inl rfl)) (fun _ _ _ _ _ => pv 5) (fun _ _ _ _ _ => pe_cl F_BetterSo G_BetterSo (hr.mono (by decide)) (pa_cons (pv 4) (pa_cons (pv 5) pa_nil)))))))
      (pss_one (ps_ret (pe_dget (hu_of hr) (pv 4) (pe_ix (ix_lK K) (pv 3) (pe_un un_neg pe_int) (fun _ _ => rfl)) (fun _ _ => rfl))))))), ?_⟩
    obtain ⟨p1, p2⟩ := pow_le16 r2
    obtain ⟨p3, p4⟩ := pow_le16 c2
    refine ⟨_, rfl, v, G, R, C, rfl, hg, hs, r1, r2, c1, c2, fun H1 p ys sm np ep pr => ?_⟩
    have hlen : (rects R C).length ≤ 225 := by
      unfold rects
      rw [rectsN_len]
      exact Nat.le_trans (Nat.mul_le_mul (show 2 ^ R - 1 ≤ 15 by omega) (show 2 ^ C - 1 ≤ 15 by omega)) (by decide)
    have yl : ys.length = (rects R C).length := Paired.length pr
    have item : ∀ (i : Nat) (r : Nat × Nat), (rects R C)[i]? = some r → ∃ b, ys.getD i .non = .ref b ∧ H1 b = some (.tup [.int (r.1 : Int), .int (r.2 : Int)]) := by
      intro i r hr
      obtain ⟨x, hx, a, e1, e2⟩ := paired_getR pr hr
      exact ⟨a, by rw [List.getD_eq_getElem?_getD, hx, e1]; rfl, e2⟩
    have rin : ∀ (i : Nat) (r : Nat × Nat), (rects R C)[i]? = some r → (0 < r.1 ∧ r.1 < 2 ^ R) ∧ 0 < r.2 ∧ r.2 < 2 ^ C := fun i r hr => mem_rects.mp (List.mem_of_getElem? hr)
    refine ⟨_, rfl, p, rfl, ⟨_, .inl (.inl ep)⟩, fun D hD => ?_⟩
    refine dc_rect (K := K) (G0 := G) (W0 := W) (k := 0) walk_lst yl.symm (by omega) hD (fun H' s => .inl (.inl (s _ _ ep))) item (fun i r H' b' hr eb hb' s Q' q' => ?_) fun H2 s2 kn => ?_
    · rw [eb]
      obtain ⟨m1, m2⟩ := rin i r hr
      have tp : SqT K H' b' [.int (r.1 : Int), .int (r.2 : Int)] := .inl (.inl hb')
      refine ⟨_, rfl, _, rfl, _, rfl, b', _, _, _, rfl, rfl, tp, at0, _, rfl, b', _, _, _, rfl, rfl, tp, at1, v, b, G, W, R, C, r.1, r.2, rfl, hg.same (sm.trans s), hs, r1, r2, c1, c2, (sm.trans s).seq hb, hW, m1.1, m1.2, m2.1, m2.2, fun H3 t val m s3 nt et gd => ?_⟩
      exact q' _ _ s3 ⟨t, val, .int (m : Int), .fin m, rfl, et, .int _, gd⟩
    · refine ⟨_, rfl, (k : Int), rfl, by omega, by omega, ?_⟩
      show ∃ W : Nat → Nat → L2.St → Hp → Prop, _
      rw [Int.toNat_natCast]
      refine for_it walk_rng (fun i σ H' => Same H H' ∧ ∃ D' z5 z6, σ = [some v, some (.ref b), some (.int (k : Int)), some (.ref p), some (.ref D'), z5, z6] ∧ H' p = some (.lst ys) ∧ RectsAt H' ys (rects R C) ∧ KnownAt K H' D' G W R C i) ?_ (fun _ _ _ _ _ => trivial) (fun i x σ H3 H' hi h y => ?_) (fun σ H' h => ?_)
      · exact ⟨sm.trans s2, D, _, none, rfl, s2 _ _ ep, rectsAt_same pr fun _ _ e => s2 _ _ e, kn⟩
      · obtain ⟨sm3, D', z5, z6, rfl, ep3, pr3, kn3⟩ := h
        obtain ⟨rfl, rfl⟩ := y
        refine ⟨_, rfl, p, rfl, ⟨_, .inl (.inl ep3)⟩, fun D2 hD2 => ?_⟩
        refine dc_rect (K := K) (G0 := G) (W0 := W) (k := i + 1) walk_lst yl.symm (by omega) hD2 (fun H' s => .inl (.inl (s _ _ ep3))) (fun i r hr => ?_) (fun j r H4 b' hr eb hb' s Q' q' => ?_) fun H4 s4 kn4 => ?_
        · obtain ⟨x, hx, a, e1, e2⟩ := paired_getR pr3 hr
          exact ⟨a, by rw [List.getD_eq_getElem?_getD, hx, e1]; rfl, e2⟩
        · rw [eb]
          obtain ⟨m1, m2⟩ := rin j r hr
          refine ⟨_, rfl, _, rfl, D', b', G, W, R, C, i, r.1, r.2, rfl, kn3.same s, r2, c2, hb', m1.1, m1.2, m2.1, m2.2, fun H5 y s5 en => q' _ _ s5 en⟩
        · exact ⟨sm3.trans s4, D2, _, _, rfl, s4 _ _ ep3, rectsAt_same pr3 fun _ _ e => s4 _ _ e, kn4⟩
      · obtain ⟨sm3, D', z5, z6, rfl, ep3, pr3, kvs, e1, e2⟩ := h
        have last := rects_get r1 c1
        obtain ⟨x, hx, a, ex, ea⟩ := paired_getR pr3 last
        obtain ⟨y, hy, en⟩ := e2 _ (List.mem_of_getElem? last)
        have hg : DGet H' D' (.ref a) (some y) := by
          rw [← hy]
          exact DGet.t (k := rkey (2 ^ R - 1, 2 ^ C - 1)) e1 ea
        have hneg : atI ys (-1) = some (.ref a) := by
          obtain ⟨zs, z, rfl⟩ : ∃ zs z, ys = zs ++ [z] := by
            rcases List.eq_nil_or_concat ys with e | ⟨zs, z, e⟩
            · subst e
              simp at hx
            · exact ⟨zs, z, by rw [e, List.concat_eq_append]⟩
          rw [atI_last]
          rw [← yl, List.length_append, List.length_singleton, Nat.add_sub_cancel, List.getElem?_append_right (Nat.le_refl _), Nat.sub_self] at hx
          rw [← ex]
          exact hx
        exact ⟨_, rfl, _, rfl, _, rfl, p, ys, _, _, rfl, rfl, .inl (.inl ep3), hneg, D', y, rfl, hg, q _ _ sm3 en⟩
theorem gat_map {W : List (List Nat)} {R C r c : Nat} (h : Shape W R C) (hr : r < R) (hc : c < C) (g : Nat → Nat) : gat (W.map fun l => l.map g) r c = g (gat W r c) := by
  obtain ⟨l, e1, e2⟩ := shape_get h hr hc
  refine gat_get (l := l.map g) ?_ ?_
  · rw [List.getElem?_map, e1]
    rfl
  · rw [List.getElem?_map, e2]
    rfl
theorem gat_mem {W : List (List Nat)} {R C r c : Nat} (h : Shape W R C) (hr : r < R) (hc : c < C) : gat W r c ∈ W.flatten := by
  obtain ⟨l, e1, e2⟩ := shape_get h hr hc
  exact List.mem_flatten.mpr ⟨l, List.mem_of_getElem? e1, List.mem_of_getElem? e2⟩
/-- the weights that are told from the odds -/
theorem told_weights {G W : List (List Nat)} {R C s k : Nat} (hW : Shape W R C) (hs : 0 < s) :
    let b := low W.flatten s
    let W' := W.map fun l => l.map fun x => (red x s).1 * (b / (red x s).2)
    Shape W' R C ∧ 0 < b ∧ b ≤ s ∧ red (best G W' k (List.range R) (List.range C)) b = red (best G W k (List.range R) (List.range C)) s ∧
      ∀ t : Tk, wt G W' t (List.range R) (List.range C) = best G W' k (List.range R) (List.range C) → wt G W t (List.range R) (List.range C) = best G W k (List.range R) (List.range C) := by
  intro b W'
  obtain ⟨b0, bd, ba⟩ := low_ok hs W.flatten
  have hb : b = low W.flatten s := rfl
  rw [← hb] at b0 bd ba
  have hd : 0 < s / b := Nat.div_pos (Nat.le_of_dvd hs bd) b0
  have hsb : s / b * b = s := Nat.div_mul_cancel bd
  have key : ∀ r ∈ List.range R, ∀ c ∈ List.range C, gat W r c = s / b * gat W' r c := by
    intro r hr c hc
    have hr := List.mem_range.mp hr
    have hc := List.mem_range.mp hc
    rw [show gat W' r c = _ from gat_map hW hr hc _]
    exact low_weight hs b0 bd (ba _ (gat_mem hW hr hc))
  have eb := best_mul (G := G) (W := W) (W1 := W') (k := k) List.nodup_range List.nodup_range key
  refine ⟨⟨by rw [List.length_map]; exact hW.1, fun l hl => ?_⟩, b0, Nat.le_of_dvd hs bd, ?_, fun t ht => ?_⟩
  · obtain ⟨m, hm, rfl⟩ := List.mem_map.mp hl
    rw [List.length_map]
    exact hW.2 m hm
  · have e := red_mul (a := best G W' k (List.range R) (List.range C)) b0 hd
    rw [hsb, ← eb] at e
    exact e.symm
  · rw [wt_mul key, eb, ht]
/-! ### answer_so -/
abbrev sAnswerSo : Stmt := topS 33
abbrev nAnswerSo : List Str := ["grid", "bits", "odds", "weights", "below", "most", "speech"]
theorem scAnswerSo : FnScope nAnswerSo ["grid", "bits", "odds"] (defScope sAnswerSo) := ⟨rfl, rfl, rfl, by decide +kernel, rfl, by decide +kernel, by decide +kernel⟩
def spAnswerSo (K : PySem.W.Frag) : Sp := fun vs H Q _ => ∃ (v u : V) (k : Nat) (G W : List (List Nat)) (R C s : Nat), vs = [v, .int (k : Int), u] ∧ GridAt K H v G ∧ Shape G R C ∧ 1 ≤ R ∧ R ≤ 4 ∧ 1 ≤ C ∧ C ≤ 4 ∧ OddsAt K H u W s ∧ Shape W R C ∧ k ≤ 2 ∧ 0 < s ∧ s ≤ 900 ∧
  ∀ H' p f sv t, Same H H' → H p = none → H' p = some (.tup [.ref f, sv]) → H' f = some (.tup [.int ((red (best G W k (List.range R) (List.range C)) s).1 : Int), .int ((red (best G W k (List.range R) (List.range C)) s).2 : Int)]) → Dp K H' sv (tkD t) → t.dep ≤ k → wt G W t (List.range R) (List.range C) = best G W k (List.range R) (List.range C) → Q (.ref p) H'
theorem ok_AnswerSo {f : Addr} {fd : FuncData} (F : FnAt K mg "answer_so" sAnswerSo ["grid", "bits", "odds"] f fd) (T : Txt K mg) {fReducedSo : Addr} {dReducedSo : FuncData} (F_ReducedSo : FnAt K mg "reduced_so" sReducedSo ["above", "below"] fReducedSo dReducedSo) (G_ReducedSo : FnOk P w K mg base CX0 1 fReducedSo dReducedSo ["above", "below"] (spReducedSo K)) {fBestWhole : Addr} {dBestWhole : FuncData} (F_BestWhole : FnAt K mg "best_whole" sBestWhole ["grid", "weights", "bits"] fBestWhole dBestWhole) (G_BestWhole : FnOk P w K mg base CX0 4 fBestWhole dBestWhole ["grid", "weights", "bits"] (spBestWhole K)) {fWeightsOf : Addr} {dWeightsOf : FuncData} (F_WeightsOf : FnAt K mg "weights_of" sWeightsOf ["odds"] fWeightsOf dWeightsOf) (G_WeightsOf : FnOk P w K mg base CX0 2 fWeightsOf dWeightsOf ["odds"] (spWeightsOf K)) : FnOk P w K mg base CX0 5 f fd ["grid", "bits", "odds"] (spAnswerSo K) := by
  refine F.at_.ok scAnswerSo (fun vs H Q E h => ?_) (fun cdv A outer s H vs Q E hr h => ?_)
  · obtain ⟨v, u, k, G, W, R, C, s, rfl, _⟩ := h
    rfl
  · obtain ⟨v, u, k, G, W, R, C, s, rfl, hg, hs, r1, r2, c1, c2, ho, hW, hk, s0, s9, q⟩ := h
    refine ⟨_, (pss_cons (ps_asg (pe_cl F_WeightsOf G_WeightsOf (hr.mono (by decide)) (pa_cons (pv 2) pa_nil)) (pg_tK K rfl (pgs_cons (pg_name (i := 3) scAnswerSo.nd rfl (Or.inl rfl)) (pgs_cons (pg_name (i := 4) scAnswerSo.nd rfl (Or.inl rfl)) pgs_nil))))
      (pss_cons (ps_asg (pe_cl F_BestWhole G_BestWhole (hr.mono (by decide)) (pa_cons (pv 0) (pa_cons (pv 3) (pa_cons (pv 1) pa_nil)))) (pg_tK K rfl (pgs_cons (pg_name (i := 5) scAnswerSo.nd rfl (Or.inl rfl)) (pgs_cons (pg_name (i := 6) scAnswerSo.nd rfl (Or.inl rfl)) pgs_nil))))
      (pss_one (ps_ret (pe_tup (pa_cons (pe_cl F_ReducedSo G_ReducedSo (hr.mono (by decide)) (pa_cons (pv 5) (pa_cons (pv 4) pa_nil))) (pa_cons (pv 6) pa_nil))))))), ?_⟩
    refine ⟨_, rfl, u, W, s, rfl, ho, ?_, s0, s9, fun H1 p l sm ep el => ?_⟩
    · rw [shape_flat hW]
      exact Nat.le_trans (Nat.mul_le_mul r2 c2) (by decide)
    · obtain ⟨hW', b0, bs, er, ew⟩ := told_weights (G := G) (k := k) hW s0
      refine ⟨p, _, rfl, .inl (.inl ep), rfl, _, _, rfl, _, _, rfl, rfl, ?_⟩
      have el' : SqL K H1 l (nI (W.map fun m => m.map fun x => (red x s).1 * (low W.flatten s / (red x s).2)).flatten) := by
        rw [← List.map_flatten]
        exact .inl (.inl el)
      refine ⟨_, rfl, _, rfl, _, rfl, v, l, k, G, _, R, C, rfl, hg.same sm, hs, r1, r2, c1, c2, el', hW', hk, fun H2 y s2 en => ?_⟩
      obtain ⟨a, val, sv, t, rfl, ea, et, ed⟩ := en
      obtain ⟨g1, g2, g3⟩ := ed
      simp only at g1 g2 g3
      rw [bits_full R r2, bits_full C c2] at g2 g3
      subst g3
      refine ⟨a, _, rfl, .inl (.inl ea), rfl, _, _, rfl, _, _, rfl, rfl, ?_⟩
      refine ⟨_, rfl, _, rfl, _, _, rfl, b0, by omega, fun H3 f s3 nf ef => ?_⟩
      rw [er] at ef
      refine ⟨_, rfl, sz (by show 2 ≤ _; omega), fun t3 nt3 => ?_⟩
      have s4 := L2.Same.new (o := .tup [V.ref f, sv]) nt3
      exact q _ t3 f sv t (sm.trans (s2.trans (s3.trans s4))) ((sm.trans (s2.trans s3)).free nt3) upd_same (s4 _ _ ef) (dp_same (s3.trans s4) et) g1 (ew t g2)
/-! ### best_speech -/
abbrev sBestSpeech : Stmt := topS 34
abbrev nBestSpeech : List Str := ["grid", "bits", "odds"]
theorem scBestSpeech : FnScope nBestSpeech ["grid", "bits", "odds"] (defScope sBestSpeech) := ⟨rfl, rfl, rfl, by decide +kernel, rfl, by decide +kernel, by decide +kernel⟩
def spBestSpeech (K : PySem.W.Frag) : Sp := fun vs H Q _ => ∃ (v u : V) (k : Nat) (G W : List (List Nat)) (R C s : Nat), vs = [v, .int (k : Int), u] ∧ GridAt K H v G ∧ Shape G R C ∧ 1 ≤ R ∧ R ≤ 4 ∧ 1 ≤ C ∧ C ≤ 4 ∧ (∀ l ∈ G, ∀ x ∈ l, x ≤ 9) ∧ OddsAt K H u W s ∧ Shape W R C ∧ k ≤ 2 ∧ 0 < s ∧ s ≤ 900 ∧ W.flatten.sum = s ∧
  ∀ H' p f sv t, Same H H' → H p = none → H' p = some (.tup [.ref f, sv]) → H' f = some (.tup [.int ((red (best G W k (List.range R) (List.range C)) s).1 : Int), .int ((red (best G W k (List.range R) (List.range C)) s).2 : Int)]) → Dp K H' sv (tkD t) → t.dep ≤ k → wt G W t (List.range R) (List.range C) = best G W k (List.range R) (List.range C) → Q (.ref p) H'
theorem ok_BestSpeech {f : Addr} {fd : FuncData} (F : FnAt K mg "best_speech" sBestSpeech ["grid", "bits", "odds"] f fd) (T : Txt K mg) {fCheckSmall : Addr} {dCheckSmall : FuncData} (F_CheckSmall : FnAt K mg "check_small" sCheckSmall ["grid", "bits"] fCheckSmall dCheckSmall) (G_CheckSmall : FnOk P w K mg base CX0 3 fCheckSmall dCheckSmall ["grid", "bits"] (spCheckSmall K)) {fIsOdds : Addr} {dIsOdds : FuncData} (F_IsOdds : FnAt K mg "is_odds" sIsOdds ["grid", "value"] fIsOdds dIsOdds) (G_IsOdds : FnOk P w K mg base CX0 4 fIsOdds dIsOdds ["grid", "value"] (spIsOdds K)) {fAnswerSo : Addr} {dAnswerSo : FuncData} (F_AnswerSo : FnAt K mg "answer_so" sAnswerSo ["grid", "bits", "odds"] fAnswerSo dAnswerSo) (G_AnswerSo : FnOk P w K mg base CX0 5 fAnswerSo dAnswerSo ["grid", "bits", "odds"] (spAnswerSo K)) : FnOk P w K mg base CX0 6 f fd ["grid", "bits", "odds"] (spBestSpeech K) := by
  refine F.at_.ok scBestSpeech (fun vs H Q E h => ?_) (fun cdv A outer s H vs Q E hr h => ?_)
  · obtain ⟨v, u, k, G, W, R, C, s, rfl, _⟩ := h
    rfl
  · obtain ⟨v, u, k, G, W, R, C, s, rfl, hg, hs, r1, r2, c1, c2, hx, ho, hW, hk, s0, s9, hsum, q⟩ := h
    refine ⟨_, (pss_cons (ps_expr (pe_cl F_CheckSmall G_CheckSmall (hr.mono (by decide)) (pa_cons (pv 0) (pa_cons (pv 1) pa_nil))))
      (pss_cons (ps_if (pt_not (pt_val (pe_cl F_IsOdds G_IsOdds (hr.mono (by decide)) (pa_cons (pv 0) (pa_cons (pv 2) pa_nil))))) (pss_one ps_never) pss_nil)
      (pss_one (ps_ret (pe_cl F_AnswerSo G_AnswerSo (hr.mono (by decide)) (pa_cons (pv 0) (pa_cons (pv 1) (pa_cons (pv 2) pa_nil)))))))), ?_⟩
    refine ⟨_, rfl, _, rfl, v, G, R, C, k, rfl, hg, hs, r1, r2, c1, c2, hx, hk, fun H1 s1 => ?_⟩
    refine ⟨_, rfl, _, rfl, v, u, G, W, R, C, s, rfl, hg.same s1, hs, r1, r2, c1, c2, odds_same s1 ho, hW, s0, s9, hsum, fun H2 s2 => ⟨true, rfl, iteF ?_⟩⟩
    have s12 := s1.trans s2
    exact ⟨_, rfl, _, rfl, _, rfl, v, u, k, G, W, R, C, s, rfl, hg.same s12, hs, r1, r2, c1, c2, odds_same s12 ho, hW, hk, s0, s9, fun H3 p f sv t s3 np ep ef d1 d2 d3 => q H3 p f sv t (s12.trans s3) (s12.free np) ep ef d1 d2 d3⟩
end
end My
set_option Elab.async false
set_option linter.all false
set_option maxRecDepth 100000
set_option maxHeartbeats 2000000
/-! the law's own draws -/
namespace My
open PySem PySem.Spec PyProof.Rows L2 Bs
/-- all but the dict d and the list l is as it was -/
def Fr (d l : Addr) (H H' : Hp) : Prop := ∀ b o, H b = some o → b ≠ d → b ≠ l → H' b = some o
theorem Fr.of {d l : Addr} {H H' : Hp} (e : Same H H') : Fr d l H H' := fun b o h _ _ => e b o h
theorem Fr.refl {d l : Addr} (H : Hp) : Fr d l H H := fun _ _ h _ _ => h
theorem Fr.trans {d l : Addr} {H H1 H2 : Hp} (a : Fr d l H H1) (b : Fr d l H1 H2) : Fr d l H H2 := fun c o h hd hl => b c o (a c o h hd hl) hd hl
def sK (x : Str) : Key := .inr x
def dOf (c l : Addr) (m : Nat) : List (Key × V) := [(sK "cells", .ref c), (sK "lefts", .ref l), (sK "at", .int (m : Int))]
/-- the state of the draws: its dict, its cells, what is left, how often was drawn -/
structure St (H : Hp) (d c l : Addr) (m : Nat) : Prop where
  dict : H d = some (.dK (dOf c l m))
  cells : ∃ cs : List Int, H c = some (.lst (cs.map V.int)) ∧ ∃ ls : List Int, H l = some (.lst (ls.map V.int)) ∧ cs.length = ls.length ∧ 0 < cs.length
  ne : c ≠ l
theorem St.same {H H' : Hp} {d c l : Addr} {m : Nat} (h : St H d c l m) (e : Same H H') : St H' d c l m := by
  obtain ⟨h1, ⟨cs, h2, ls, h3, h4⟩, h5⟩ := h
  exact ⟨e _ _ h1, ⟨cs, e _ _ h2, ls, e _ _ h3, h4⟩, h5⟩
/-- a new thing that changes -/
theorem St.mut {H : Hp} {d c l D : Addr} {m : Nat} {o : HO} (h : St H d c l m) (n : D ≠ d ∧ D ≠ c ∧ D ≠ l) : St (upd H D o) d c l m := by
  obtain ⟨h1, ⟨cs, h2, ls, h3, h4⟩, h5⟩ := h
  exact ⟨by rw [upd_ne n.1.symm]; exact h1, ⟨cs, by rw [upd_ne n.2.1.symm]; exact h2, ls, by rw [upd_ne n.2.2.symm]; exact h3, h4⟩, h5⟩
theorem St.new {H : Hp} {d c l D : Addr} {m : Nat} (h : St H d c l m) (n : H D = none) : D ≠ d ∧ D ≠ c ∧ D ≠ l := by
  obtain ⟨h1, ⟨cs, h2, ls, h3, h4⟩, h5⟩ := h
  exact ⟨(ne_of_none h1 n).symm, (ne_of_none h2 n).symm, (ne_of_none h3 n).symm⟩
theorem Fr.tup {K : PySem.W.Frag} {d c l a : Addr} {m : Nat} {H H' : Hp} {xs : List V} (e : Fr d l H H') (s : St H d c l m) (h : SqT K H a xs) : SqT K H' a xs := by
  have hd := s.dict
  obtain ⟨cs, h2, ls, h3, h4⟩ := s.cells
  rcases h with (h | ⟨o, h⟩) | h
  · exact .inl (.inl (e _ _ h (ne_of h hd fun z => nomatch z) (ne_of h h3 fun z => nomatch z)))
  · exact .inl (.inr ⟨o, e _ _ h (ne_of h hd fun z => nomatch z) (ne_of h h3 fun z => nomatch z)⟩)
  · exact .inr h
section
variable {P : Program} {w : World} {K : PySem.W.Frag} {mg : Str → Option Value} {base : Heap}
/-! ### _law_mixed -/
abbrev sLMixed : Stmt := topS 36
abbrev nLMixed : List Str := ["_law_cell", "_law_k"]
theorem scLMixed : FnScope nLMixed ["_law_cell", "_law_k"] (defScope sLMixed) := ⟨rfl, rfl, rfl, by decide +kernel, rfl, by decide +kernel, by decide +kernel⟩
def spLMixed (K : PySem.W.Frag) : Sp := fun vs H Q _ => ∃ (a : Int) (k : Nat), vs = [.int a, .int (k : Int)] ∧ k ≤ 2000000 ∧ ∀ x : Int, 0 ≤ x → Q (.int x) H
theorem fm0 (a : Int) {b : Int} (h : 0 < b) : 0 ≤ a.fmod b ∧ a.fmod b < b := ⟨Int.fmod_nonneg_of_pos a h, Int.fmod_lt_of_pos a h⟩
theorem ok_LMixed {f : Addr} {fd : FuncData} (F : FnAt K mg "_law_mixed" sLMixed ["_law_cell", "_law_k"] f fd) (T : Txt K mg) : FnOk P w K mg base CX0 1 f fd ["_law_cell", "_law_k"] (spLMixed K) := by
  refine F.at_.ok scLMixed (fun vs H Q E h => ?_) (fun cdv A outer s H vs Q E hr h => ?_)
  · obtain ⟨a, k, rfl, _⟩ := h
    rfl
  · obtain ⟨a, k, rfl, hk, q⟩ := h
    refine ⟨_, (pss_cons (ps_set (i := 0) scLMixed.nd rfl (Or.inl rfl) (pe_op op_modN (pe_callTy c_int (by rfl) T.int bt_int (pa_cons (pv 0) pa_nil)) pe_int))
      (pss_one (ps_ret (pe_op op_modN (pe_op op_mul (pe_op op_modN (pe_op op_add (pe_op op_add (pe_op op_mul (pv 0) (pe_op op_add pe_int (pe_op op_mul (pe_op op_mul pe_int (pv 1)) (pv 1)))) (pe_op op_mul pe_int (pv 1))) pe_int) pe_int) pe_int) pe_int)))), ?_⟩
    obtain ⟨c1, c2⟩ := fm0 a (b := 2147483647) (by decide)
    refine ⟨_, rfl, .inl ⟨_, rfl, _, _, rfl, rfl, by show (2147483647 : Int) ≠ 0; decide, ?_⟩⟩
    refine ⟨_, rfl, _, rfl, _, _, rfl, rfl, .inl ⟨by decide, by decide⟩, _, rfl, _, _, rfl, rfl, .inr ⟨by omega, by omega⟩, _, _, rfl, rfl, _, _, rfl, rfl, .inl ⟨by omega, by omega⟩, _, rfl, _, _, rfl, rfl, .inl ⟨by decide, by decide⟩, _, _, rfl, rfl, _, _, rfl, rfl, _, _, rfl, rfl, by show (2147483647 : Int) ≠ 0; decide, _, _, rfl, rfl, .inr ⟨by decide, by decide⟩, _, _, rfl, rfl, by show (2147483629 : Int) ≠ 0; decide, q _ (fm0 _ (by decide)).1⟩
/-! ### _law_begin -/
abbrev sLBegin : Stmt := topS 37
abbrev nLBegin : List Str := ["_law_script", "_law_cells_so", "_law_cell"]
theorem scLBegin : FnScope nLBegin ["_law_script"] (defScope sLBegin) := ⟨rfl, rfl, rfl, by decide +kernel, rfl, by decide +kernel, by decide +kernel⟩
def spLBegin (K : PySem.W.Frag) : Sp := fun vs H Q _ => ∃ (a : Addr) (ns : List Int), vs = [.ref a] ∧ SqL K H a (ns.map V.int) ∧ ns.length ≤ 63 ∧ ∀ H' d c l, Same H H' → St H' d c l 0 → Q (.ref d) H'
theorem dps_int {H : Hp} : ∀ l : List Int, DpAll K H (l.map V.int) (l.map PyData.int)
  | [] => .nil
  | n :: l => .cons (.int _) (dps_int l)
theorem paired_ints {α : Type} : ∀ {l : List α} {ys : List V}, Paired (fun _ y => ∃ z : Int, y = V.int z) l ys → ∃ zs : List Int, ys = zs.map V.int ∧ zs.length = l.length
  | _, _, .nil => ⟨[], rfl, rfl⟩
  | _, _, .cons ⟨z, e⟩ b => by
    obtain ⟨zs, e1, e2⟩ := paired_ints b
    exact ⟨z :: zs, by rw [List.map_cons, e, e1], by rw [List.length_cons, List.length_cons, e2]⟩
theorem ok_LBegin {f : Addr} {fd : FuncData} (F : FnAt K mg "_law_begin" sLBegin ["_law_script"] f fd) (T : Txt K mg) : FnOk P w K mg base CX0 1 f fd ["_law_script"] (spLBegin K) := by
  refine F.at_.ok scLBegin (fun vs H Q E h => ?_) (fun cdv A outer s H vs Q E hr h => ?_)
  · obtain ⟨a, ns, rfl, _⟩ := h
    rfl
  · obtain ⟨a, ns, rfl, ha, hn, q⟩ := h
    refine ⟨_, (pss_cons (ps_set (i := 1) scLBegin.nd rfl (Or.inl rfl) (pe_ifExp (pt_cmpR (op_neDK K hr.units) (pv 0) (pe_lst pa_nil) (nomark _)) (pe_callTy (c_listK K) (by rfl) T.list bt_list (pa_cons (pv 0) pa_nil)) (pe_lst (pa_cons pe_int pa_nil))))
      (pss_one (ps_ret (pe_disp (pps_cons pe_str (pv 1) (pps_cons pe_str (pe_lc (own := [("_law_cell", 2)]) rfl scLBegin.nd (pi_lK K (pv 1)) (blkOk_by (N := nLBegin) (sc := defScope sLBegin) (by decide +kernel)) (fun _ _ _ _ _ => pg_name (i := 2) scLBegin.nd rfl (Or.inl rfl)) (fun _ _ _ _ _ => pts_nil) (fun _ _ _ _ _ => pe_ifExp (pt_cmpR op_ge (pv 2) (pe_op op_pow pe_int pe_int) (nomark _)) (pv 2) pe_int)) (pps_cons pe_str pe_int pps_nil))) (by rfl) (by rfl) (fun z => by cases z) (by decide))))), ?_⟩
    have fin : ∀ (H1 : Hp) (c : Addr) (cs : List Int), Same H H1 → 0 < cs.length → cs.length ≤ 63 → H1 c = some (.lst (cs.map V.int)) → (tRet (tDisp [(tC (.str "cells"), tVar 1), (tC (.str "lefts"), tLc (iList K (tVar 1)) (gName 2) tYes (tIf (tTest (tOp (rI0 fun i j => V.bl (decide (j ≤ i))) (tVar 2) (tOp (rI CPow fun i j => V.int (i ^ j.toNat)) (tC (.int 10)) (tC (.int 18))))) (tVar 2) (tC (.int 0))) [2]), (tC (.str "at"), tC (.int 0))])) { nx := fun x H' => Q V.non H', rt := Q } ((L2.start nLBegin [.ref a]).set 1 (some (.ref c))) H1 := by
      intro H1 c cs sm h0 h63 ec
      refine fun p np => ?_
      have sp := L2.Same.new (o := .dK []) np
      refine ⟨_, rfl, _, rfl, c, rfl, ⟨_, .inl (.inl (sp _ _ ec))⟩, fun D hD => ?_⟩
      refine lc_gen walk_lst (fun _ => true) (fun i y _ => ∃ z : Int, y = .int z) hD (by rw [List.length_map]; omega) (fun H' s => .inl (.inl (s _ _ (sp _ _ ec)))) (fun _ _ _ _ h _ => h) (fun i H' hi s Q' q' => q' _ (Same.refl _)) (fun i H' hi hb s Q' q' => ?_) fun ys H' s eD pr => ?_
      · obtain ⟨z, hz⟩ : ∃ z : Int, (cs.map V.int).getD i .non = .int z := by
          rw [List.length_map] at hi
          rw [List.getD_eq_getElem?_getD, List.getElem?_map, List.getElem?_eq_getElem hi]
          exact ⟨_, rfl⟩
        rw [hz]
        refine ⟨_, rfl, _, _, rfl, rfl, ⟨by decide, by decide, by decide⟩, _, _, rfl, rfl, _, rfl, ite2 (fun _ => ⟨_, rfl, q' _ _ (Same.refl _) ⟨_, rfl⟩⟩) (fun _ => q' _ _ (Same.refl _) ⟨_, rfl⟩)⟩
      · obtain ⟨zs, rfl, hzl⟩ := paired_ints pr
        rw [List.filter_eq_self.mpr fun _ _ => rfl, List.length_range, List.length_map] at hzl
        refine ⟨s _ _ upd_same, [(sK "cells", .ref c), (sK "lefts", .ref D), (sK "at", .int 0)], rfl, (by show 3 ≤ 15; decide), ?_⟩
        have nD : H1 D = none := sp.free hD
        have nDp : D ≠ p := (ne_of_none upd_same hD).symm
        refine q _ p c D ((sm.trans (sp.trans s)).mut (sm.free np)) ⟨upd_same, ⟨cs, ?_, zs, ?_, hzl.symm, h0⟩, (ne_of_none ec nD)⟩
        · rw [upd_ne (ne_of_none ec np)]
          exact s _ _ (sp _ _ ec)
        · rw [upd_ne nDp]
          exact eD
    refine ⟨_, rfl, sz (by show 0 ≤ _; omega), fun t nt => ?_⟩
    have s1 := L2.Same.new (o := .lst []) nt
    refine ⟨.list (ns.map PyData.int), .list [], .lst (s1.seq ha) (dps_int ns), .lst (.inl (.inl upd_same)) .nil, PySem.W.ke_shaped_ints ns, rfl, _, rfl, ?_⟩
    cases ns with
    | nil =>
      refine iteF ⟨sz (by show 1 ≤ _; omega), fun c nc => ?_⟩
      exact fin _ c [0] (s1.trans (L2.Same.new nc)) (by decide) (by decide) upd_same
    | cons n ns =>
      refine iteT ⟨_, rfl, a, _, rfl, .inl (s1.seq ha), fun c nc => ?_⟩
      exact fin _ c (n :: ns) (s1.trans (L2.Same.new nc)) (by simp) hn upd_same
/-! ### _law_draw -/
abbrev sLDraw : Stmt := topS 38
abbrev nLDraw : List Str := ["_law_state", "_law_limit", "_law_at", "_law_spot", "_law_left", "_law_mixed_here"]
theorem scLDraw : FnScope nLDraw ["_law_state", "_law_limit"] (defScope sLDraw) := ⟨rfl, rfl, rfl, by decide +kernel, rfl, by decide +kernel, by decide +kernel⟩
def spLDraw (K : PySem.W.Frag) : Sp := fun vs H Q _ => ∃ (d c l : Addr) (m lim : Nat), vs = [.ref d, .int (lim : Int)] ∧ St H d c l m ∧ m ≤ 1000000 ∧ 0 < lim ∧ lim ≤ 1000 ∧ ∀ H' (x : Nat), Fr d l H H' → St H' d c l (m + 1) → x < lim → Q (.int (x : Int)) H'
theorem dg_at {H : Hp} {d c l : Addr} {m : Nat} (h : H d = some (.dK (dOf c l m))) : DGet H d (.str "at") (some (.int (m : Int))) := DGet.k (k := sK "at") h
theorem dg_cells {H : Hp} {d c l : Addr} {m : Nat} (h : H d = some (.dK (dOf c l m))) : DGet H d (.str "cells") (some (.ref c)) := DGet.k (k := sK "cells") h
theorem dg_lefts {H : Hp} {d c l : Addr} {m : Nat} (h : H d = some (.dK (dOf c l m))) : DGet H d (.str "lefts") (some (.ref l)) := DGet.k (k := sK "lefts") h
theorem fm_nat (a : Int) {b : Nat} (h : 0 < b) : ∃ x : Nat, a.fmod (b : Int) = (x : Int) ∧ x < b := by
  obtain ⟨h1, h2⟩ := fm0 a (b := (b : Int)) (by omega)
  exact ⟨(a.fmod (b : Int)).toNat, by omega, by omega⟩
theorem ints_at {l : List Int} {i : Nat} (h : i < l.length) : ∃ z : Int, atI (l.map V.int) (i : Int) = some (.int z) := ⟨l[i], atI_nat (by rw [List.getElem?_map, List.getElem?_eq_getElem h]; rfl)⟩
theorem ok_LDraw {f : Addr} {fd : FuncData} (F : FnAt K mg "_law_draw" sLDraw ["_law_state", "_law_limit"] f fd) (T : Txt K mg) {fLMixed : Addr} {dLMixed : FuncData} (F_LMixed : FnAt K mg "_law_mixed" sLMixed ["_law_cell", "_law_k"] fLMixed dLMixed) (G_LMixed : FnOk P w K mg base CX0 1 fLMixed dLMixed ["_law_cell", "_law_k"] (spLMixed K)) : FnOk P w K mg base CX0 2 f fd ["_law_state", "_law_limit"] (spLDraw K) := by
  refine F.at_.ok scLDraw (fun vs H Q E h => ?_) (fun cdv A outer s H vs Q E hr h => ?_)
  · obtain ⟨d, c, l, m, lim, rfl, _⟩ := h
    rfl
  · obtain ⟨d, c, l, m, lim, rfl, hs, hm, l0, l1, q⟩ := h
    obtain ⟨e1, ⟨cs, e2, ls, e3, e4, e5⟩, ne⟩ := hs
    refine ⟨_, (pss_cons (ps_set (i := 2) scLDraw.nd rfl (Or.inl rfl) (pe_dget (hu_of hr) (pv 0) pe_str (fun _ _ => rfl)))
      (pss_cons (ps_dput (hu_of hr) (pv 0) pe_str (pe_op op_add (pv 2) pe_int) rfl)
      (pss_cons (ps_set (i := 3) scLDraw.nd rfl (Or.inl rfl) (pe_op op_modN (pe_callTy c_int (by rfl) T.int bt_int (pa_cons (pv 2) pa_nil)) (pe_callB (c_lenK K) (by rfl) T.len bt_len (pa_cons (pe_dget (hu_of hr) (pv 0) pe_str (fun _ _ => rfl)) pa_nil))))
      (pss_cons (ps_set (i := 4) scLDraw.nd rfl (Or.inl rfl) (pe_ix (ix_lK K) (pe_dget (hu_of hr) (pv 0) pe_str (fun _ _ => rfl)) (pv 3) (fun _ _ => rfl)))
      (pss_cons (ps_if (pt_cmpR op_gt (pv 4) pe_int (nomark _)) 
          (pss_cons (ps_asg (pe_op op_fdivN (pv 4) (pv 1)) (pg_sub (pe_dget (hu_of hr) (pv 0) pe_str (fun _ _ => rfl)) (pv 3) set_list))
          (pss_one (ps_ret (pe_op op_modN (pe_callTy c_int (by rfl) T.int bt_int (pa_cons (pv 4) pa_nil)) (pv 1))))) pss_nil)
      (pss_cons (ps_set (i := 5) scLDraw.nd rfl (Or.inl rfl) (pe_cl F_LMixed G_LMixed (hr.mono (by decide)) (pa_cons (pe_cl F_LMixed G_LMixed (hr.mono (by decide)) (pa_cons (pe_ix (ix_lK K) (pe_dget (hu_of hr) (pv 0) pe_str (fun _ _ => rfl)) (pv 3) (fun _ _ => rfl)) (pa_cons (pv 2) pa_nil))) (pa_cons (pe_op op_add pe_int (pv 2)) pa_nil))))
      (pss_one (ps_ret (pe_op op_modN (pe_op op_fdivN (pe_callTy c_int (by rfl) T.int bt_int (pa_cons (pe_op op_add (pe_op op_mul (pv 5) pe_int) (pe_cl F_LMixed G_LMixed (hr.mono (by decide)) (pa_cons (pv 5) (pa_cons (pe_op op_add pe_int (pv 2)) pa_nil)))) pa_nil)) pe_int) (pv 1)))))))))), ?_⟩
    refine ⟨_, rfl, d, _, rfl, dg_at e1, ?_⟩
    -- state["at"] = at + 1
    have dp : DPut H d (.str "at") (.int ((m : Int) + 1)) (upd H d (.dK (dOf c l (m + 1)))) := DPut.k (k := sK "at") e1 (sz (by show 4 ≤ _; omega))
    refine ⟨_, rfl, _, _, rfl, rfl, _, rfl, d, _, rfl, dp, ?_⟩
    have nc : c ≠ d := ne_of e2 e1 fun z => nomatch z
    have nl : l ≠ d := ne_of e3 e1 fun z => nomatch z
    generalize hH1 : upd H d (.dK (dOf c l (m + 1))) = H1
    have f1 : H1 d = some (.dK (dOf c l (m + 1))) := by rw [← hH1]; exact upd_same
    have f2 : H1 c = some (.lst (cs.map V.int)) := by rw [← hH1, upd_ne nc]; exact e2
    have f3 : H1 l = some (.lst (ls.map V.int)) := by rw [← hH1, upd_ne nl]; exact e3
    have fr1 : Fr d l H H1 := fun b o hb hd hl => by rw [← hH1, upd_ne hd]; exact hb
    have lc : ((cs.map V.int).length : Int) = (cs.length : Int) := by rw [List.length_map]
    obtain ⟨x, ex, hx⟩ := fm_nat (m : Int) e5
    obtain ⟨z, hz⟩ := ints_at (l := ls) (i := x) (by omega)
    obtain ⟨y, hy⟩ := ints_at (l := cs) (i := x) hx
    refine ⟨_, rfl, .inl ⟨_, rfl, _, rfl, d, _, rfl, dg_cells f1, c, _, rfl, .inl (.inl (.inl f2)), _, _, rfl, rfl, by show ((cs.map V.int).length : Int) ≠ 0; omega, ?_⟩⟩
    show gName 3 (.int ((m : Int).fmod (((cs.map V.int).length : Nat) : Int))) _ _ _
    rw [lc, ex]
    refine ⟨_, rfl, d, _, rfl, dg_lefts f1, _, rfl, l, _, _, _, rfl, rfl, .inl (.inl f3), hz, ?_⟩
    have st1 : St H1 d c l (m + 1) := ⟨f1, ⟨cs, f2, ls, f3, e4, e5⟩, ne⟩
    refine ⟨_, rfl, _, _, rfl, rfl, _, rfl, ite2 (fun _ => ?_) (fun _ => ?_)⟩
    · -- what is left of a great cell
      obtain ⟨v, ev, hv⟩ := fm_nat z l0
      have ixx : ixN (ls.map V.int).length (x : Int) = some x := by
        unfold ixN
        rw [List.length_map, if_pos (by omega), if_pos (by omega)]
        rfl
      refine ⟨_, rfl, _, rfl, _, _, rfl, rfl, ⟨by omega, by omega⟩, _, rfl, d, _, rfl, dg_lefts f1, _, rfl, l, _, _, x, rfl, rfl, f3, ixx, ?_⟩
      refine ⟨_, rfl, .inl ⟨_, rfl, _, rfl, _, _, rfl, rfl, by show (lim : Int) ≠ 0; omega, ?_⟩⟩
      show Q (.int (z.fmod (lim : Int))) _
      rw [ev]
      refine q _ v (fr1.trans fun b o hb hd hl => by rw [upd_ne hl]; exact hb) ⟨by rw [upd_ne nl.symm]; exact f1, ⟨cs, by rw [upd_ne ne]; exact f2, ls.set x (z.fdiv (lim : Int)), ?_, by rw [List.length_set]; exact e4, e5⟩, ne⟩ hv
      rw [upd_same, List.map_set]
    · have k1 : (m : Int) = ((m : Nat) : Int) := rfl
      refine ⟨_, rfl, d, _, rfl, dg_cells f1, _, rfl, c, _, _, _, rfl, rfl, .inl (.inl f2), hy, _, rfl, y, m, rfl, by omega, fun x1 hx1 => ⟨_, rfl, _, _, rfl, rfl, x1, 40 + m, by rw [Int.natCast_add]; rfl, by omega, fun x2 hx2 => ?_⟩⟩
      refine ⟨_, rfl, _, _, rfl, rfl, .inr ⟨by decide, by decide⟩, _, rfl, _, rfl, _, _, rfl, rfl, x2, 7 + m, by rw [Int.natCast_add]; rfl, by omega, fun x3 hx3 => ?_⟩
      refine ⟨_, _, rfl, rfl, .inl ⟨_, rfl, _, _, rfl, rfl, ⟨by decide, by decide⟩, _, rfl, _, _, rfl, rfl, by show (lim : Int) ≠ 0; omega, ?_⟩⟩
      obtain ⟨v, ev, hv⟩ := fm_nat ((x2 * 2147483647 + x3).fdiv 64) l0
      show Q (.int (((x2 * 2147483647 + x3).fdiv 64).fmod (lim : Int))) _
      rw [ev]
      exact q _ v fr1 st1 hv
end
end My
set_option Elab.async false
set_option linter.all false
set_option maxRecDepth 100000
set_option maxHeartbeats 2000000
/-! _law_grid, _law_lots, _law_share -/
namespace My
open PySem PySem.Spec PyProof.Rows L2 Bs
/-- a comprehension whose element draws, e times each -/
theorem lc_genS {J : It} {n : Nat} {G : Hp → Prop} {item : Nat → V} (wk : Walk J n G (fun i H x H' => H' = H ∧ x = item i)) {j : Nat} {te : TE} {vs : List Nat} {σ : L2.St} {H1 : Hp} {D d c l : Addr} {m e : Nat} {Qd : Hp → Prop}
    (R : Nat → V → Hp → Prop) (hs : St H1 d c l m) (hD : H1 D = none) (hn : n ≤ 1000000) (hG : ∀ H', Fr d l H1 H' → G H') (hR : ∀ i y H H', R i y H → (∀ b o, H b = some o → b ≠ D → b ≠ d → b ≠ l → H' b = some o) → R i y H')
    (he : ∀ i H', i < n → Fr d l H1 H' → St H' d c l (m + e * i) → (∃ acc, H' D = some (.lst acc)) → ∀ Q' : V → Hp → Prop, (∀ y H3, Fr d l H' H3 → St H3 d c l (m + e * i + e) → R i y H3 → Q' y H3) → te ((wipe σ vs).set j (some (item i))) H' Q')
    (hd : ∀ ys H', Fr d l H1 H' → St H' d c l (m + e * n) → H' D = some (.lst ys) → Paired (fun i y => R i y H') (List.range n) ys → Qd H')
    (hw : ∀ x : Option V, wipe ((wipe σ vs).set j x) vs = wipe σ vs := by intro _; rfl) :
    ∃ W : Nat → Nat → Hp → Prop, (∃ m, W 0 m (upd H1 D (.lst []))) ∧ ∀ i m H, W i m H →
      (J.stop i H ∧ Qd H) ∨ (J.go i H ∧ ∃ Nx : Hp → Prop, (∀ H', Nx H' → ∃ m', m' < m ∧ W (i + 1) m' H') ∧ ∀ x H', J.yld i H x H' → (gName j) x (wipe σ vs) H' fun σ2 H2 => wipe σ2 vs = wipe σ vs ∧ tYes σ2 H2 fun b H3 =>
        if b = true then te σ2 H3 fun y H4 => ∃ acc, H4 D = some (.lst acc) ∧ acc.length < sizeLine ∧ Nx (upd H4 D (.lst (acc ++ [y]))) else Nx H3) := by
  have nD := hs.new hD
  have fD : ∀ H', Fr d l H1 H' → ∀ o, Fr d l H1 (upd H' D o) := fun H' f o b u hb h1 h2 => by
    rw [upd_ne (ne_of_none hb hD)]
    exact f b u hb h1 h2
  refine lc_it wk (fun i H' => Fr d l H1 H' ∧ St H' d c l (m + e * i) ∧ ∃ ys, H' D = some (.lst ys) ∧ Paired (fun i y => R i y H') (List.range i) ys) ⟨fD H1 (Fr.refl _) _, hs.mut nD, [], upd_same, .nil⟩ (fun i H' _ p => hG H' p.1) (fun i x H2 H' hi p y => ?_) fun H' p => ?_
  · obtain ⟨f, st, ys, eD, pr⟩ := p
    obtain ⟨rfl, rfl⟩ := y
    refine ⟨hw _, ?_⟩
    show te _ _ _
    refine he i _ hi f st ⟨_, eD⟩ _ fun y H4 f4 st4 r => ?_
    have eD4 := f4 _ _ eD nD.1 nD.2.2
    refine ⟨ys, eD4, ?_, fD _ (f.trans f4) _, ?_, ys ++ [y], upd_same, ?_⟩
    · have h1 : ys.length = (List.range i).length := (Paired.length pr).symm
      rw [List.length_range] at h1
      exact szl (by omega)
    · have := st4.mut (o := .lst (ys ++ [y])) nD
      rw [Nat.mul_add, Nat.mul_one, ← Nat.add_assoc]
      exact this
    · rw [List.range_succ]
      have up : ∀ (Ha : Hp) (o : HO) b u, Ha b = some u → b ≠ D → b ≠ d → b ≠ l → (upd Ha D o) b = some u := fun Ha o b u hb h1 _ _ => by
        rw [upd_ne h1]
        exact hb
      exact paired_append (Paired.mapP pr fun i y h => hR i y _ _ h fun b u hb h1 h2 h3 => up _ _ b u (f4 b u hb h2 h3) h1 h2 h3) (.cons (hR i y _ _ r (up _ _)) .nil)
  · obtain ⟨f, st, ys, eD, pr⟩ := p
    exact hd ys H' f st eD pr
theorem paired_choose {α β : Type} {F : α → β → Prop} : ∀ {m : List α} {l : List Nat}, Paired (fun (_ : Nat) y => ∃ g, F y g) l m → ∃ gs : List β, gs.length = l.length ∧ Paired F m gs
  | _, _, .nil => ⟨[], rfl, .nil⟩
  | _, _, .cons ⟨g, h⟩ b => by
    obtain ⟨gs, e1, e2⟩ := paired_choose b
    exact ⟨g :: gs, by rw [List.length_cons, List.length_cons, e1], .cons h e2⟩
theorem paired_right {α β : Type} {F : α → β → Prop} {P : β → Prop} : ∀ {m : List α} {l : List β}, Paired (fun a b => F a b ∧ P b) m l → Paired F m l ∧ ∀ b ∈ l, P b
  | _, _, .nil => ⟨.nil, fun _ h => nomatch h⟩
  | _, _, .cons ⟨h1, h2⟩ b => by
    obtain ⟨e1, e2⟩ := paired_right b
    refine ⟨.cons h1 e1, fun x hx => ?_⟩
    rcases List.mem_cons.mp hx with rfl | hx
    · exact h2
    · exact e2 x hx
theorem paired_nat : ∀ {m : List V} {l : List Nat}, Paired (fun y (n : Nat) => y = V.int (n : Int)) m l → m = nI l
  | _, _, .nil => rfl
  | _, _, .cons a b => by
    rw [a, paired_nat b]
    rfl
/-- ints below a bound -/
theorem paired_nats {m : List V} {n b : Nat} (h : Paired (fun (_ : Nat) y => ∃ x : Nat, y = V.int (x : Int) ∧ x < b) (List.range n) m) : ∃ row : List Nat, m = nI row ∧ row.length = n ∧ ∀ x ∈ row, x < b := by
  obtain ⟨gs, e1, e2⟩ := paired_choose h
  obtain ⟨e3, e4⟩ := paired_right e2
  rw [List.length_range] at e1
  exact ⟨gs, paired_nat e3, e1, e4⟩
theorem paired_map_right2 {α β γ : Type} {F : α → β → Prop} {E : α → γ → Prop} {f : β → γ} : ∀ {l : List α} {m : List β}, Paired F l m → (∀ a b, F a b → E a (f b)) → Paired E l (m.map f)
  | _, _, .nil, _ => .nil
  | _, _, .cons a b, h => .cons (h _ _ a) (paired_map_right2 b h)
section
variable {P : Program} {w : World} {K : PySem.W.Frag} {mg : Str → Option Value} {base : Heap}
/-! ### _law_grid -/
abbrev sLGrid : Stmt := topS 39
abbrev nLGrid : List Str := ["_law_state", "_law_high", "_law_wide", "_law_kinds", "_law_down", "_law_across", "_law_spot", "_law_line"]
theorem scLGrid : FnScope nLGrid ["_law_state", "_law_high", "_law_wide", "_law_kinds"] (defScope sLGrid) := ⟨rfl, rfl, rfl, by decide +kernel, rfl, by decide +kernel, by decide +kernel⟩
abbrev scpLGrid : Scope := relS (lcS (argE 0 (exOf (nthS (defBody sLGrid) 1)))) (defScope sLGrid)
def spLGrid (K : PySem.W.Frag) : Sp := fun vs H Q _ => ∃ (d c l : Addr) (m h g k : Nat), vs = [.ref d, .int (h : Int), .int (g : Int), .int (k : Int)] ∧ St H d c l m ∧ m ≤ 100000 ∧ 0 < h ∧ h ≤ 4 ∧ 0 < g ∧ g ≤ 4 ∧ 0 < k ∧ k ≤ 10 ∧
  ∀ H' v G R C m', Fr d l H H' → St H' d c l m' → m' ≤ m + 18 → GridAt K H' v G → Shape G R C → 1 ≤ R → R ≤ h → 1 ≤ C → C ≤ g → (∀ r ∈ G, ∀ x ∈ r, x < k) → Q v H'
theorem ok_LGrid {f : Addr} {fd : FuncData} (F : FnAt K mg "_law_grid" sLGrid ["_law_state", "_law_high", "_law_wide", "_law_kinds"] f fd) (T : Txt K mg) {fLDraw : Addr} {dLDraw : FuncData} (F_LDraw : FnAt K mg "_law_draw" sLDraw ["_law_state", "_law_limit"] fLDraw dLDraw) (G_LDraw : FnOk P w K mg base CX0 2 fLDraw dLDraw ["_law_state", "_law_limit"] (spLDraw K)) : FnOk P w K mg base CX0 3 f fd ["_law_state", "_law_high", "_law_wide", "_law_kinds"] (spLGrid K) := by
  refine F.at_.ok scLGrid (fun vs H Q E h => ?_) (fun cdv A outer s H vs Q E hr h => ?_)
  · obtain ⟨d, c, l, m, h, g, k, rfl, _⟩ := h
    rfl
  · obtain ⟨d, c, l, m, h, g, k, rfl, hs, hm, h0, h4, g0, g4, k0, k10, q⟩ := h
    refine ⟨_, (pss_cons (ps_asg (pe_tup (pa_cons (pe_op op_add pe_int (pe_cl F_LDraw G_LDraw (hr.mono (by decide)) (pa_cons (pv 0) (pa_cons (pv 1) pa_nil)))) (pa_cons (pe_op op_add pe_int (pe_cl F_LDraw G_LDraw (hr.mono (by decide)) (pa_cons (pv 0) (pa_cons (pv 2) pa_nil)))) pa_nil))) (pg_tK K rfl (pgs_cons (pg_name (i := 4) scLGrid.nd rfl (Or.inl rfl)) (pgs_cons (pg_name (i := 5) scLGrid.nd rfl (Or.inr rfl)) pgs_nil))))
      (pss_one (ps_ret (pe_tupK K (by rfl) T.tuple (pe_lc (own := [("_law_line", 7)]) rfl scLGrid.nd (pi_range1 (by rfl) T.range (pa_cons (pv 4) pa_nil)) (blkOk_by (N := nLGrid) (sc := defScope sLGrid) (by decide +kernel)) (fun _ _ _ _ _ => pg_name (i := 7) scLGrid.nd rfl (Or.inl rfl)) (fun _ _ _ _ _ => pts_nil) (fun _ _ _ _ _ => pe_tupK K (by rfl) T.tuple (pe_lc (own := [("_law_spot", 6)]) rfl scLGrid.nd (pi_range1 (by rfl) T.range (pa_cons (pv 5) pa_nil)) (blkOk_by (N := nLGrid) (sc := scpLGrid) (by decide +kernel)) (fun _ _ _ _ _ => pg_name (i := 6) scLGrid.nd rfl (Or.inl rfl)) (fun _ _ _ _ _ => pts_nil) (fun _ _ _ _ _ => pe_cl F_LDraw G_LDraw (hr.mono (by decide)) (pa_cons (pv 0) (pa_cons (pv 3) pa_nil)))))))))), ?_⟩
    refine ⟨_, rfl, _, rfl, d, c, l, m, h, rfl, hs, by omega, h0, by omega, fun H1 x f1 s1 hx => ?_⟩
    refine ⟨_, _, rfl, rfl, _, rfl, _, rfl, d, c, l, m + 1, g, rfl, s1, by omega, g0, by omega, fun H2 y f2 s2 hy => ?_⟩
    refine ⟨_, _, rfl, rfl, sz (by show 2 ≤ _; omega), fun t nt => ?_⟩
    have s3 := s2.same (L2.Same.new (o := .tup [.int ((1 : Int) + (x : Int)), .int ((1 : Int) + (y : Int))]) nt)
    have f3 := f2.trans (Fr.of (L2.Same.new (o := .tup [.int ((1 : Int) + (x : Int)), .int ((1 : Int) + (y : Int))]) nt))
    refine ⟨t, _, rfl, .inl (.inl upd_same), rfl, _, _, rfl, _, _, rfl, rfl, ?_⟩
    refine ⟨_, rfl, _, rfl, by omega, by omega, ?_⟩
    have ex : ((1 : Int) + (x : Int)).toNat = 1 + x := by omega
    have ey : ((1 : Int) + (y : Int)).toNat = 1 + y := by omega
    intro D hD
    show ∃ W : Nat → Nat → Hp → Prop, _
    rw [ex]
    have hxy : (1 + y) * (1 + x) ≤ 4 * 4 := Nat.mul_le_mul (by omega) (by omega)
    refine lc_genS walk_rng (fun i v H => ∃ (t2 : Addr) (row : List Nat), v = .ref t2 ∧ (t2 ≠ D ∧ t2 ≠ d ∧ t2 ≠ l) ∧ H t2 = some (.tup (nI row)) ∧ row.length = 1 + y ∧ ∀ z ∈ row, z < k) (e := 1 + y) s3 hD (by omega) (fun _ _ => trivial) (fun i v Ha Hb r e => ?_) (fun i H' hi f st hacc Q' q' => ?_) fun ys H' f st eD pr => ?_
    · obtain ⟨t2, row, e1, ⟨n1, n2, n3⟩, e2, e3⟩ := r
      exact ⟨t2, row, e1, ⟨n1, n2, n3⟩, e _ _ e2 n1 n2 n3, e3⟩
    · obtain ⟨acc, hacc⟩ := hacc
      refine ⟨_, rfl, _, rfl, by omega, by omega, fun D2 hD2 => ?_⟩
      show ∃ W : Nat → Nat → Hp → Prop, _
      rw [ey]
      have hi4 : (1 + y) * i ≤ 4 * 4 := Nat.mul_le_mul (by omega) (by omega)
      refine lc_genS walk_rng (fun j v _ => ∃ z : Nat, v = .int (z : Int) ∧ z < k) (e := 1) st hD2 (by omega) (fun _ _ => trivial) (fun _ _ _ _ h _ => h) (fun j H2' hj f2' st2' hacc2 Q2 q2 => ?_) fun zs H2' f2' st2' eD2 pz => ?_
      · exact ⟨_, rfl, _, rfl, d, c, l, _, k, rfl, st2', by omega, k0, by omega, fun H3 z f3' st3' hz => q2 _ H3 f3' st3' ⟨z, rfl, hz⟩⟩
      · obtain ⟨row, rfl, r1, r2⟩ := paired_nats pz
        refine .inl ⟨D2, _, rfl, .inl (.inl eD2), fun t2 nt2 => ?_⟩
        have sn := L2.Same.new (o := .tup (nI row)) nt2
        have nn := st2'.new nt2
        refine q' _ _ (f2'.trans (Fr.of sn)) ?_ ⟨t2, row, rfl, ⟨?_, nn.1, nn.2.2⟩, upd_same, r1, r2⟩
        · have := st2'.same sn
          rw [Nat.one_mul] at this
          exact this
        · have hD3 : H2' D = some (.lst acc) := f2' _ _ hacc (s3.new hD).1 (s3.new hD).2.2
          exact (ne_of_none hD3 nt2).symm
    · obtain ⟨gs, g1, g2⟩ := paired_choose (F := fun v (row : List Nat) => ∃ t2, v = .ref t2 ∧ (t2 ≠ D ∧ t2 ≠ d ∧ t2 ≠ l) ∧ H' t2 = some (.tup (nI row)) ∧ row.length = 1 + y ∧ ∀ z ∈ row, z < k) (Paired.mapP pr fun i v ⟨t2, row, h⟩ => ⟨row, t2, h⟩)
      obtain ⟨g3, g4⟩ := paired_right (F := fun v (row : List Nat) => ∃ t2, v = .ref t2 ∧ H' t2 = some (.tup (nI row))) (P := fun row => row.length = 1 + y ∧ ∀ z ∈ row, z < k) (Paired.mapP g2 fun v row ⟨t2, e1, _, e2, e3⟩ => ⟨⟨t2, e1, e2⟩, e3⟩)
      rw [List.length_range] at g1
      refine .inl ⟨D, _, rfl, .inl (.inl eD), fun t3 nt3 => ?_⟩
      have sn := L2.Same.new (o := .tup ys) nt3
      refine q _ (.ref t3) gs (1 + x) (1 + y) _ (f1.trans (f3.trans (f.trans (Fr.of sn)))) (st.same sn) (by omega) ⟨t3, ys, rfl, .inl (.inl upd_same), ?_⟩ ⟨g1, fun r hr => (g4 r hr).1⟩ (by omega) (by omega) (by omega) (by omega) fun r hr => (g4 r hr).2
      exact paired_map_right2 g3 fun v row ⟨t2, e1, e2⟩ => ⟨t2, e1, sn _ _ e2⟩
end
end My
set_option Elab.async false
set_option linter.all false
set_option maxRecDepth 100000
set_option maxHeartbeats 2000000
/-! _law_lots, _law_divisor, _law_share -/
namespace My
open PySem PySem.Spec PyProof.Rows L2 Bs
def LotsAt (H : Hp) (vs : List V) (ps : List (List Nat)) : Prop := Paired (fun v p => ∃ a, v = .ref a ∧ H a = some (.tup (nI p))) vs ps
theorem LotsAt.same {H H' : Hp} {vs : List V} {ps : List (List Nat)} (h : LotsAt H vs ps) (e : Same H H') : LotsAt H' vs ps := Paired.mapP h fun _ _ ⟨a, h1, h2⟩ => ⟨a, h1, e _ _ h2⟩
theorem lots_succ {l : List Nat} {i x : Nat} (h : l[i]? = some x) : lots (l.take (i + 1)) = lots (l.take i) ++ (lots (l.take i)).map fun p => p ++ [x] := by
  unfold lots
  rw [List.take_add_one, h, List.foldl_append]
  rfl
theorem lots_len : ∀ l : List Nat, (lots l).length = 2 ^ l.length := by
  intro l
  induction l using snoc_ind with
  | h0 => rfl
  | h1 l a ih =>
    unfold lots at ih ⊢
    rw [List.foldl_append, List.foldl_cons, List.foldl_nil, List.length_append, List.length_map, ih, List.length_append, List.length_singleton, Nat.pow_succ]
    omega
theorem nI_append (l m : List Nat) : nI (l ++ m) = nI l ++ nI m := by
  unfold nI
  rw [List.map_append]
theorem paired_of_get {α β : Type} {F : α → β → Prop} : ∀ {l : List α} {m : List β}, l.length = m.length → (∀ (i : Nat) a b, l[i]? = some a → m[i]? = some b → F a b) → Paired F l m
  | [], [], _, _ => .nil
  | [], _ :: _, h, _ => by simp at h
  | _ :: _, [], h, _ => by simp at h
  | a :: l, b :: m, h, f => .cons (f 0 a b rfl rfl) (paired_of_get (by simpa using h) fun i x y hx hy => f (i + 1) x y (by simpa using hx) (by simpa using hy))
section
variable {P : Program} {w : World} {K : PySem.W.Frag} {mg : Str → Option Value} {base : Heap}
/-! ### _law_lots -/
abbrev sLLots : Stmt := topS 40
abbrev nLLots : List Str := ["_law_some", "_law_found", "_law_one", "_law_part"]
theorem scLLots : FnScope nLLots ["_law_some"] (defScope sLLots) := ⟨rfl, rfl, rfl, by decide +kernel, rfl, by decide +kernel, by decide +kernel⟩
def spLLots (K : PySem.W.Frag) : Sp := fun vs H Q _ => ∃ (a : Addr) (l : List Nat), vs = [.ref a] ∧ H a = some (.tup (nI l)) ∧ l.length ≤ 4 ∧ ∀ H' p ys, Same H H' → H p = none → H' p = some (.lst ys) → LotsAt H' ys (lots l) → Q (.ref p) H'
theorem ok_LLots {f : Addr} {fd : FuncData} (F : FnAt K mg "_law_lots" sLLots ["_law_some"] f fd) (T : Txt K mg) : FnOk P w K mg base CX0 1 f fd ["_law_some"] (spLLots K) := by
  refine F.at_.ok scLLots (fun vs H Q E h => ?_) (fun cdv A outer s H vs Q E hr h => ?_)
  · obtain ⟨a, l, rfl, _⟩ := h
    rfl
  · obtain ⟨a, l, rfl, ha, hl, q⟩ := h
    refine ⟨_, (pss_cons (ps_set (i := 1) scLLots.nd rfl (Or.inl rfl) (pe_lst (pa_cons (pe_tup pa_nil) pa_nil)))
      (pss_cons (ps_for PassesOwn.never rfl (pi_tK K (pv 0)) (pg_name (i := 2) scLLots.nd rfl (Or.inr rfl)) 
          (pss_one (ps_set (i := 1) scLLots.nd rfl (Or.inl rfl) (pe_op op_cat (pv 1) (pe_lc (own := [("_law_part", 3)]) rfl scLLots.nd (pi_lK K (pv 1)) (blkOk_by (N := nLLots) (sc := defScope sLLots) (by decide +kernel)) (fun _ _ _ _ _ => pg_name (i := 3) scLLots.nd rfl (Or.inl rfl)) (fun _ _ _ _ _ => pts_nil) (fun _ _ _ _ _ => pe_op (op_catAK K) (pv 3) (pe_tup (pa_cons (pv 2) pa_nil))))))))
      (pss_one (ps_ret (pv 1))))), ?_⟩
    refine ⟨sz (by show 0 ≤ _; omega), fun t nt => ⟨sz (by show 1 ≤ _; omega), fun p np => ?_⟩⟩
    have s1 := L2.Same.new (o := .tup []) nt
    have s2 := L2.Same.new (o := .lst [.ref t]) np
    refine ⟨_, rfl, a, rfl, ⟨_, .inl (.inl ((s1.trans s2) _ _ ha))⟩, ?_⟩
    refine for_it walk_tpl (fun i σ H' => Same H H' ∧ ∃ p ys z2 z3, σ = [some (.ref a), some (.ref p), z2, z3] ∧ H p = none ∧ H' p = some (.lst ys) ∧ LotsAt H' ys (lots (l.take i))) ?_ (fun i σ H' _ h => .inl (.inl (h.1 _ _ ha))) (fun i x σ H2 H' hi h y => ?_) (fun σ H' h => ?_)
    · refine ⟨s1.trans s2, p, _, none, none, rfl, s1.free np, upd_same, ?_⟩
      rw [List.take_zero]
      exact .cons ⟨t, rfl, s2 _ _ upd_same⟩ .nil
    · obtain ⟨sm, p1, ys, z2, z3, rfl, np1, ep, pr⟩ := h
      obtain ⟨rfl, rfl⟩ := y
      obtain ⟨n, hn, ex⟩ := nI_at hi
      rw [ex]
      have yl : ys.length = (lots (l.take i)).length := Paired.length pr
      have l16 : (lots (l.take i)).length ≤ 16 := by
        rw [lots_len]
        have h4 : (l.take i).length ≤ 4 := Nat.le_trans (by rw [List.length_take]; omega) hl
        exact Nat.le_trans (Nat.pow_le_pow_right (by decide) h4) (by decide)
      refine ⟨_, rfl, _, rfl, p1, rfl, ⟨_, .inl (.inl ep)⟩, fun D hD => ?_⟩
      refine lc_genD walk_lst (fun _ => true) (fun j y H => ∃ b q, y = .ref b ∧ b ≠ D ∧ (lots (l.take i))[j]? = some q ∧ H b = some (.tup (nI (q ++ [n])))) hD (by omega) (fun H' s => .inl (.inl (s _ _ ep))) (fun j y Ha Hb r e => ?_) (fun j H3 hj s3 Q' q' => q' _ (Same.refl _)) (fun j H3 hj hb s3 hacc Q' q' => ?_) fun zs H3 s3 eD pz => ?_
      · obtain ⟨b, q, e1, e2, e3, e4⟩ := r
        exact ⟨b, q, e1, e2, e3, e _ _ e4 e2⟩
      · obtain ⟨acc, hacc⟩ := hacc
        obtain ⟨u, hu⟩ : ∃ u, ys[j]? = some u := ⟨ys[j], List.getElem?_eq_getElem hj⟩
        obtain ⟨g, hg, b, rfl, eb⟩ := paired_get pr hu
        have eu : ys.getD j .non = .ref b := by rw [List.getD_eq_getElem?_getD, hu]; rfl
        rw [eu]
        refine ⟨_, rfl, _, rfl, sz (by show 1 ≤ _; omega), fun t1 nt1 => ?_⟩
        have sn := L2.Same.new (o := .tup [V.int (n : Int)]) nt1
        have eb1 := sn _ _ (s3 _ _ eb)
        have nD1 : t1 ≠ D := (ne_of_none hacc nt1).symm
        refine ⟨b, t1, nI g, [.int (n : Int)], rfl, rfl, .inl (.inl eb1), .inl (.inl upd_same), ?_, fun e0 => ?_, (fun _ e0 => nomatch e0), fun _ _ t2 nt2 => ?_⟩
        · have hg4 : g.length ≤ 4 := by
            have := (mem_lots.mp (List.mem_of_getElem? hg)).length_le
            rw [List.length_take] at this
            omega
          rw [nI_len]
          exact sz (by show g.length + 1 ≤ _; omega)
        · refine q' _ _ sn ⟨t1, g, rfl, nD1, hg, ?_⟩
          rw [upd_same, nI_append, e0]
          rfl
        · refine q' _ _ (sn.trans (L2.Same.new nt2)) ⟨t2, g, rfl, (ne_of_none (sn _ _ hacc) nt2).symm, hg, ?_⟩
          rw [upd_same, nI_append]
          rfl
      · have ep3 := s3 _ _ ep
        have zl := Paired.length pz
        rw [List.filter_eq_self.mpr fun _ _ => rfl] at pz zl
        rw [List.length_range] at zl
        refine ⟨p1, D, ys, zs, rfl, rfl, ep3, eD, sz (by omega), fun p2 np2 => ?_⟩
        have s4 := L2.Same.new (o := .lst (ys ++ zs)) np2
        refine ⟨sm.trans (s3.trans s4), p2, _, _, _, rfl, (sm.trans s3).free np2, upd_same, ?_⟩
        rw [lots_succ hn]
        refine paired_append (pr.same (s3.trans s4)) ?_
        refine paired_of_get (by rw [List.length_map]; omega) fun j v p3 hv hp => ?_
        obtain ⟨g, hg, rfl⟩ := map_get hp
        obtain ⟨k, hk, b, g', e1, _, e3, e4⟩ := paired_getR pz hv
        have ek : k = j := by
          have h1 := List.getElem?_range (n := ys.length) (i := j) (by have := (List.getElem?_eq_some_iff.mp hk).1; rw [List.length_range] at this; exact this)
          rw [h1] at hk
          exact (Option.some.inj hk).symm
        subst ek
        rw [e3] at hg
        have eg := Option.some.inj hg
        subst eg
        exact ⟨b, e1, s4 _ _ e4⟩
    · obtain ⟨sm, p1, ys, z2, z3, rfl, np1, ep, pr⟩ := h
      rw [nI_len, List.take_length] at pr
      exact ⟨_, rfl, q H' p1 ys sm np1 ep pr⟩
/-! ### _law_divisor -/
abbrev sLDivisor : Stmt := topS 41
abbrev nLDivisor : List Str := ["_law_one", "_law_beside", "_law_step"]
theorem scLDivisor : FnScope nLDivisor ["_law_one", "_law_beside"] (defScope sLDivisor) := ⟨rfl, rfl, rfl, by decide +kernel, rfl, by decide +kernel, by decide +kernel⟩
def spLDivisor (K : PySem.W.Frag) : Sp := fun vs H Q _ => ∃ a b : Nat, vs = [.int (a : Int), .int (b : Int)] ∧ b ≤ 3000 ∧ Q (.int ((Nat.gcd a b : Nat) : Int)) H
theorem fmodN (a b : Nat) : (a : Int).fmod (b : Int) = ((a % b : Nat) : Int) := (Int.fmod_eq_emod_of_nonneg (a : Int) (Int.natCast_nonneg b)).trans (Int.natCast_emod a b).symm
theorem ok_LDivisor {f : Addr} {fd : FuncData} (F : FnAt K mg "_law_divisor" sLDivisor ["_law_one", "_law_beside"] f fd) (T : Txt K mg) : FnOk P w K mg base CX0 1 f fd ["_law_one", "_law_beside"] (spLDivisor K) := by
  refine F.at_.ok scLDivisor (fun vs H Q E h => ?_) (fun cdv A outer s H vs Q E hr h => ?_)
  · obtain ⟨a, b, rfl, _⟩ := h
    rfl
  · obtain ⟨a, b, rfl, hb, q⟩ := h
    refine ⟨_, (pss_cons (ps_for PassesOwn.never rfl (pi_range1 (by rfl) T.range (pa_cons pe_int pa_nil)) (pg_name (i := 2) scLDivisor.nd rfl (Or.inl rfl)) 
          (pss_cons (ps_if (pt_cmpR op_eq (pv 1) pe_int (nomark _)) 
              (pss_one (ps_ret (pv 0))) pss_nil)
          (pss_one (ps_par (i := 0) (j := 1) (by rfl) scLDivisor.nd rfl rfl (by decide) rfl rfl (pa_cons (pv 1) (pa_cons (pe_op op_modN (pv 0) (pv 1)) pa_nil)) (by rfl)))))
      (pss_one (ps_ret (pv 0)))), ?_⟩
    refine ⟨4000, rfl, by omega, by omega, ?_⟩
    show ∃ W : Nat → Nat → L2.St → Hp → Prop, _
    refine for_it (n := 4000) walk_rng (fun i σ H' => H' = H ∧ ∃ (x y : Nat) (z : Option V), σ = [some (.int (x : Int)), some (.int (y : Int)), z] ∧ Nat.gcd x y = Nat.gcd a b ∧ y + i ≤ b) ?_ (fun _ _ _ _ _ => trivial) (fun i x σ H2 H' hi h y => ?_) (fun σ H' h => ?_)
    · exact ⟨rfl, a, b, none, rfl, rfl, by omega⟩
    · obtain ⟨rfl, x, y, z, rfl, hg, hy⟩ := h
      rename_i y'
      obtain ⟨rfl, rfl⟩ := y'
      refine ⟨_, rfl, rfl, _, rfl, ite2 (fun h0 => ?_) (fun h0 => ?_)⟩
      · have h0 : y = 0 := by
          have h1 : V.int (y : Int) = V.int 0 := of_decide_eq_true h0
          injection h1 with h1
          omega
        subst h0
        rw [Nat.gcd_zero_right] at hg
        subst hg
        exact ⟨_, rfl, q⟩
      · have h0 : y ≠ 0 := fun e => h0 (decide_eq_true (by rw [e]; rfl))
        refine ⟨_, rfl, _, rfl, _, rfl, _, _, rfl, rfl, by show (y : Int) ≠ 0; omega, _, _, rfl, ?_⟩
        have hlt := Nat.mod_lt x (Nat.pos_of_ne_zero h0)
        refine ⟨rfl, y, x % y, some (V.int (0 + (i : Int))), ?_, ?_, by omega⟩
        · show [some (V.int (y : Int)), some (V.int ((x : Int).fmod (y : Int))), some (V.int (0 + (i : Int)))] = _
          rw [fmodN]
        · rw [← hg, Nat.gcd_comm y, ← Nat.gcd_rec, Nat.gcd_comm]
    · obtain ⟨rfl, x, y, z, rfl, hg, hy⟩ := h
      omega
/-! ### _law_share -/
abbrev sLShare : Stmt := topS 42
abbrev nLShare : List Str := ["_law_above", "_law_below", "_law_told"]
theorem scLShare : FnScope nLShare ["_law_above", "_law_below"] (defScope sLShare) := ⟨rfl, rfl, rfl, by decide +kernel, rfl, by decide +kernel, by decide +kernel⟩
def spLShare (K : PySem.W.Frag) : Sp := fun vs H Q _ => ∃ a b : Nat, vs = [.int (a : Int), .int (b : Int)] ∧ 0 < b ∧ b ≤ 3000 ∧ ∀ p, H p = none → Q (.ref p) (upd H p (.tup [.int ((red a b).1 : Int), .int ((red a b).2 : Int)]))
theorem ok_LShare {f : Addr} {fd : FuncData} (F : FnAt K mg "_law_share" sLShare ["_law_above", "_law_below"] f fd) (T : Txt K mg) {fLDivisor : Addr} {dLDivisor : FuncData} (F_LDivisor : FnAt K mg "_law_divisor" sLDivisor ["_law_one", "_law_beside"] fLDivisor dLDivisor) (G_LDivisor : FnOk P w K mg base CX0 1 fLDivisor dLDivisor ["_law_one", "_law_beside"] (spLDivisor K)) : FnOk P w K mg base CX0 2 f fd ["_law_above", "_law_below"] (spLShare K) := by
  refine F.at_.ok scLShare (fun vs H Q E h => ?_) (fun cdv A outer s H vs Q E hr h => ?_)
  · obtain ⟨a, b, rfl, _⟩ := h
    rfl
  · obtain ⟨a, b, rfl, b0, b9, q⟩ := h
    refine ⟨_, (pss_cons (ps_set (i := 2) scLShare.nd rfl (Or.inl rfl) (pe_cl F_LDivisor G_LDivisor (hr.mono (by decide)) (pa_cons (pv 0) (pa_cons (pv 1) pa_nil))))
      (pss_one (ps_ret (pe_tup (pa_cons (pe_op op_fdivN (pv 0) (pv 2)) (pa_cons (pe_op op_fdivN (pv 1) (pv 2)) pa_nil)))))), ?_⟩
    have hg0 : 0 < Nat.gcd a b := Nat.gcd_pos_of_pos_right _ b0
    have hgb : Nat.gcd a b ≤ b := Nat.gcd_le_right _ b0
    refine ⟨_, rfl, _, rfl, a, b, rfl, b9, _, rfl, _, rfl, _, _, rfl, rfl, ⟨by omega, by omega⟩, _, rfl, _, rfl, _, _, rfl, rfl, ⟨by omega, by omega⟩, sz (by show 2 ≤ _; omega), fun p np => ?_⟩
    have e := q p np
    unfold red at e
    show Q (.ref p) (upd H p (.tup [.int ((a : Int).fdiv ((Nat.gcd a b : Nat) : Int)), .int ((b : Int).fdiv ((Nat.gcd a b : Nat) : Int))]))
    rw [fdivN, fdivN]
    exact e
end
end My
set_option Elab.async false
set_option linter.all false
set_option maxRecDepth 100000
set_option maxHeartbeats 2000000
/-! _law_weights, _law_odds -/
namespace My
open PySem PySem.Spec PyProof.Rows L2 Bs
/-- at v stands a list of lists of ints; none of them is l -/
def WAt (l : Addr) (H : Hp) (v : V) (W : List (List Nat)) : Prop := ∃ a rs, v = .ref a ∧ a ≠ l ∧ H a = some (.lst rs) ∧ Paired (fun r ws => ∃ b, r = .ref b ∧ b ≠ l ∧ H b = some (.lst (nI ws))) rs W
theorem WAt.same {l : Addr} {H H' : Hp} {v : V} {W : List (List Nat)} (h : WAt l H v W) (e : Same H H') : WAt l H' v W := by
  obtain ⟨a, rs, h1, h2, h3, h4⟩ := h
  exact ⟨a, rs, h1, h2, e _ _ h3, Paired.mapP h4 fun _ _ ⟨b, g1, g2, g3⟩ => ⟨b, g1, g2, e _ _ g3⟩⟩
theorem WAt.fr {l d c : Addr} {m : Nat} {H H' : Hp} {v : V} {W : List (List Nat)} (h : WAt l H v W) (st : St H d c l m) (e : Fr d l H H') : WAt l H' v W := by
  obtain ⟨a, rs, h1, h2, h3, h4⟩ := h
  have hd := st.dict
  exact ⟨a, rs, h1, h2, e _ _ h3 (ne_of h3 hd fun z => nomatch z) h2, Paired.mapP h4 fun _ _ ⟨b, g1, g2, g3⟩ => ⟨b, g1, g2, e _ _ g3 (ne_of g3 hd fun z => nomatch z) g2⟩⟩
theorem nI_ints (l : List Nat) : nI l = (l.map fun (n : Nat) => (n : Int)).map V.int := by
  unfold nI
  rw [List.map_map]
  rfl
theorem isum : ∀ l : List Nat, (l.map fun (n : Nat) => (n : Int)).sum = ((l.sum : Nat) : Int)
  | [] => rfl
  | n :: l => by
    rw [List.map_cons, List.sum_cons, isum l, List.sum_cons, Int.natCast_add]
theorem flat_sum : ∀ W : List (List Nat), W.flatten.sum = (W.map fun l => l.sum).sum
  | [] => rfl
  | l :: W => by rw [List.flatten_cons, List.sum_append, flat_sum W, List.map_cons, List.sum_cons]
theorem flat_sum_ge : ∀ {W : List (List Nat)} {l : List Nat}, l ∈ W → l.sum ≤ W.flatten.sum
  | m :: W, l, h => by
    rw [List.flatten_cons, List.sum_append]
    rcases List.mem_cons.mp h with rfl | h
    · omega
    · have := flat_sum_ge h
      omega
theorem sum_le_mul {b : Nat} : ∀ {l : List Nat}, (∀ x ∈ l, x ≤ b) → l.sum ≤ l.length * b
  | [], _ => by simp
  | x :: l, h => by
    have ih := sum_le_mul (l := l) fun y hy => h y (List.mem_cons_of_mem _ hy)
    have := h x List.mem_cons_self
    rw [List.sum_cons, List.length_cons, Nat.add_mul, Nat.one_mul]
    omega
theorem flat_sum_le {W : List (List Nat)} {R C b : Nat} (h : Shape W R C) (hb : ∀ l ∈ W, ∀ x ∈ l, x ≤ b) : W.flatten.sum ≤ R * C * b := by
  have := sum_le_mul (l := W.flatten) (b := b) fun x hx => by
    obtain ⟨l, hl, hx⟩ := List.mem_flatten.mp hx
    exact hb l hl x hx
  rw [shape_flat h] at this
  exact this
theorem paired_mid {α β γ : Type} {F : α → γ → Prop} {E : γ → β → Prop} : ∀ {l : List α} {m : List β}, Paired (fun a b => ∃ g, F a g ∧ E g b) l m → ∃ gs, Paired F l gs ∧ Paired E gs m
  | _, _, .nil => ⟨[], .nil, .nil⟩
  | _, _, .cons ⟨g, h1, h2⟩ b => by
    obtain ⟨gs, e1, e2⟩ := paired_mid b
    exact ⟨g :: gs, .cons h1 e1, .cons h2 e2⟩
section
variable {P : Program} {w : World} {K : PySem.W.Frag} {mg : Str → Option Value} {base : Heap}
/-- sum([sum(line) for line in v]) -/
theorem sum_rows {H : Hp} {σ : L2.St} {a j : Nat} {v : V} {W : List (List Nat)} {l : Addr} {Q : VK} (hσ : σ[a]? = some (some v)) (hW : WAt l H v W) (hn : W.length ≤ 1000) (q : ∀ H', Same H H' → Q (.int ((W.flatten.sum : Nat) : Int)) H')
    (hw : ∀ x : Option V, wipe ((wipe σ [j]).set j x) [j] = wipe σ [j] := by intro _; rfl) (hj : ∀ x : V, ((wipe σ [j]).set j (some x))[j]? = some (some x) := by intro _; rfl) :
    tCB (rSum K) (tCons (tLc (iList K (tVar a)) (gName j) tYes (tCB (rSum K) (tCons (tVar j) tNil)) [j]) tNil) σ H Q := by
  obtain ⟨p, rs, rfl, _, hp, pr⟩ := hW
  have rl := Paired.length pr
  refine ⟨_, hσ, p, rfl, ⟨_, .inl (.inl hp)⟩, fun D hD => ?_⟩
  refine lc_gen walk_lst (fun _ => true) (fun i y _ => y = .int (((W.getD i []).sum : Nat) : Int)) hD (by omega) (fun H' s => .inl (.inl (s _ _ hp))) (fun _ _ _ _ h _ => h) (fun i H' hi s Q' q' => q' _ (Same.refl _)) (fun i H' hi hb s Q' q' => ?_) (fun ys H' s eD py => ?_) hw
  · obtain ⟨u, hu⟩ : ∃ u, rs[i]? = some u := ⟨rs[i], List.getElem?_eq_getElem hi⟩
    obtain ⟨ws, hws, b, rfl, _, eb⟩ := paired_get pr hu
    refine ⟨_, hj _, b, ws.map fun (n : Nat) => (n : Int), ?_, .inl (.inl ((s _ _ eb).trans (by rw [nI_ints]))), q' _ _ (Same.refl _) ?_⟩
    · rw [List.getD_eq_getElem?_getD, hu]
      rfl
    · rw [isum, List.getD_eq_getElem?_getD, hws]
      rfl
  · rw [List.filter_eq_self.mpr fun _ _ => rfl] at py
    have e := paired_eq py
    refine ⟨D, (List.range rs.length).map fun i => (((W.getD i []).sum : Nat) : Int), rfl, .inl (.inl ?_), ?_⟩
    · rw [eD, e, List.map_map]
      rfl
    · have e2 : ((List.range rs.length).map fun i => (((W.getD i []).sum : Nat) : Int)).sum = ((W.flatten.sum : Nat) : Int) := by
        have e3 : (List.range rs.length).map (fun i => (((W.getD i []).sum : Nat) : Int)) = (W.map fun l => l.sum).map fun (n : Nat) => (n : Int) := by
          rw [rl]
          refine List.ext_getElem? fun i => ?_
          rw [List.getElem?_map, List.getElem?_map, List.getElem?_map]
          rcases Nat.lt_or_ge i W.length with h | h
          · rw [List.getElem?_range h]
            show some (((W.getD i []).sum : Nat) : Int) = _
            rw [List.getD_eq_getElem?_getD, List.getElem?_eq_getElem h]
            rfl
          · rw [List.getElem?_eq_none (by rw [List.length_range]; exact h), List.getElem?_eq_none h]
            rfl
        rw [e3, isum, flat_sum]
      rw [e2]
      exact q H' s
/-! ### _law_weights -/
abbrev sLWeights : Stmt := topS 43
abbrev nLWeights : List Str := ["_law_state", "_law_told_grid", "_law_found", "_law_one", "_law_line"]
theorem scLWeights : FnScope nLWeights ["_law_state", "_law_told_grid"] (defScope sLWeights) := ⟨rfl, rfl, rfl, by decide +kernel, rfl, by decide +kernel, by decide +kernel⟩
abbrev scpLWeights : Scope := relS (lcS (exOf (nthS (defBody sLWeights) 0))) (defScope sLWeights)
def spLWeights (K : PySem.W.Frag) : Sp := fun vs H Q _ => ∃ (d c l : Addr) (m : Nat) (v : V) (G : List (List Nat)) (R C : Nat), vs = [.ref d, v] ∧ St H d c l m ∧ m ≤ 100000 ∧ GridAt K H v G ∧ Shape G R C ∧ 1 ≤ R ∧ R ≤ 4 ∧ 1 ≤ C ∧ C ≤ 4 ∧
  ∀ H' u W m', Fr d l H H' → St H' d c l m' → m' ≤ m + 32 → WAt l H' u W → Shape W R C → (∀ r ∈ W, ∀ x ∈ r, x ≤ 4) → 0 < W.flatten.sum → Q u H'
theorem ok_LWeights {f : Addr} {fd : FuncData} (F : FnAt K mg "_law_weights" sLWeights ["_law_state", "_law_told_grid"] f fd) (T : Txt K mg) {fLDraw : Addr} {dLDraw : FuncData} (F_LDraw : FnAt K mg "_law_draw" sLDraw ["_law_state", "_law_limit"] fLDraw dLDraw) (G_LDraw : FnOk P w K mg base CX0 2 fLDraw dLDraw ["_law_state", "_law_limit"] (spLDraw K)) : FnOk P w K mg base CX0 3 f fd ["_law_state", "_law_told_grid"] (spLWeights K) := by
  refine F.at_.ok scLWeights (fun vs H Q E h => ?_) (fun cdv A outer s H vs Q E hr h => ?_)
  · obtain ⟨d, c, l, m, v, G, R, C, rfl, _⟩ := h
    rfl
  · obtain ⟨d, c, l, m, v, G, R, C, rfl, hs, hm, hg, ⟨hR, hC⟩, r1, r4, c1, c4, q⟩ := h
    obtain ⟨a, rs, rfl, ha, hl, hrow⟩ := lines_get hg
    rw [List.length_map, hR] at hl
    refine ⟨_, (pss_cons (ps_setLc (i := 2) (own := [("_law_line", 4)]) rfl scLWeights.nd rfl rfl (sw_true rfl rfl rfl (by decide +kernel)) (pi_tK K (pv 1)) (blkOk_by (N := nLWeights) (sc := defScope sLWeights) (by decide +kernel)) (fun _ _ _ _ _ => pg_name (i := 4) scLWeights.nd rfl (Or.inl rfl)) (fun _ _ _ _ _ => pts_nil) (fun _ _ _ _ _ => pe_lc (own := [("_law_one", 3)]) rfl scLWeights.nd (pi_tK K (pv 4)) (blkOk_by (N := nLWeights) (sc := scpLWeights) (by decide +kernel)) (fun _ _ _ _ _ => pg_name (i := 3) scLWeights.nd rfl (Or.inl rfl)) (fun _ _ _ _ _ => pts_nil) (fun _ _ _ _ _ => pe_op op_mul (pe_cl F_LDraw G_LDraw (hr.mono (by decide)) (pa_cons (pv 0) (pa_cons pe_int pa_nil))) (pe_ifExp (pt_cmpR op_gt (pe_cl F_LDraw G_LDraw (hr.mono (by decide)) (pa_cons (pv 0) (pa_cons pe_int pa_nil))) pe_int (nomark _)) pe_int pe_int))))
      (pss_cons (ps_if (pt_cmpR op_eq (pe_callB (c_sumK K rfl) (by rfl) T.sum bt_sum (pa_cons (pe_lc (own := [("_law_line", 4)]) rfl scLWeights.nd (pi_lK K (pv 2)) (blkOk_by (N := nLWeights) (sc := defScope sLWeights) (by decide +kernel)) (fun _ _ _ _ _ => pg_name (i := 4) scLWeights.nd rfl (Or.inl rfl)) (fun _ _ _ _ _ => pts_nil) (fun _ _ _ _ _ => pe_callB (c_sumK K rfl) (by rfl) T.sum bt_sum (pa_cons (pv 4) pa_nil))) pa_nil)) pe_int (nomark _)) 
          (pss_one (ps_asg pe_int (pg_sub (pe_ix (ix_lK K) (pv 2) pe_int (fun _ _ => rfl)) pe_int set_list))) pss_nil)
      (pss_one (ps_ret (pv 2))))), ?_⟩
    refine ⟨_, rfl, a, rfl, ⟨_, ha⟩, fun D hD => ?_⟩
    have hxy : (2 * C) * rs.length ≤ (2 * 4) * 4 := Nat.mul_le_mul (by omega) (by omega)
    have nD := hs.new hD
    refine lc_genS walk_tpl (fun i v H' => ∃ (t : Addr) (row : List Nat), v = .ref t ∧ (t ≠ D ∧ t ≠ d ∧ t ≠ l ∧ H t = none) ∧ H' t = some (.lst (nI row)) ∧ row.length = C ∧ ∀ z ∈ row, z < 5) (e := 2 * C) hs hD (by omega) (fun H' f => f.tup hs ha) (fun i v Ha Hb r e => ?_) (fun i H' hi f st hacc Q' q' => ?_) fun ys H' f st eD pr => ?_
    · obtain ⟨t, row, e1, ⟨n1, n2, n3, n4⟩, e2, e3⟩ := r
      exact ⟨t, row, e1, ⟨n1, n2, n3, n4⟩, e _ _ e2 n1 n2 n3, e3⟩
    · obtain ⟨acc, hacc⟩ := hacc
      obtain ⟨u, hu⟩ : ∃ u, rs[i]? = some u := ⟨rs[i], List.getElem?_eq_getElem hi⟩
      obtain ⟨gl, b, hgl, rfl, hb⟩ := hrow i u hu
      obtain ⟨g0, hg0, rfl⟩ := map_get hgl
      have hg0C := hC g0 (List.mem_of_getElem? hg0)
      have hbT : SqT K H' b (nI g0) := f.tup hs (.inl (.inl hb))
      have nl : (nI g0).length = C := by rw [nI_len, hg0C]
      refine ⟨_, rfl, b, ?_, ⟨_, hbT⟩, fun D2 hD2 => ?_⟩
      · rw [List.getD_eq_getElem?_getD, hu]
        rfl
      have hi4 : (2 * C) * i ≤ (2 * 4) * 4 := Nat.mul_le_mul (by omega) (by omega)
      refine lc_genS walk_tpl (fun j v _ => ∃ z : Nat, v = .int (z : Int) ∧ z < 5) (e := 2) st hD2 (by omega) (fun H' f => f.tup st hbT) (fun _ _ _ _ h _ => h) (fun j H2' hj f2' st2' hacc2 Q2 q2 => ?_) fun zs H2' f2' st2' eD2 pz => ?_
      · refine ⟨_, rfl, d, c, l, _, 5, rfl, st2', by omega, by decide, by decide, fun H3 z f3 st3 hz => ?_⟩
        refine ⟨_, rfl, d, c, l, _, 4, rfl, st3, by omega, by decide, by decide, fun H4 z2 f4 st4 hz2 => ⟨_, _, rfl, rfl, _, rfl, ite2 (fun _ => ?_) (fun _ => ?_)⟩⟩
        · exact ⟨_, _, rfl, rfl, .inr ⟨by decide, by decide⟩, q2 _ _ (f3.trans f4) st4 ⟨z, by show V.int ((z : Int) * 1) = _; rw [Int.mul_one], hz⟩⟩
        · exact ⟨_, _, rfl, rfl, .inr ⟨by decide, by decide⟩, q2 _ _ (f3.trans f4) st4 ⟨0, by show V.int ((z : Int) * 0) = _; rw [Int.mul_zero]; rfl, by decide⟩⟩
      · obtain ⟨row, rfl, r1, r2⟩ := paired_nats pz
        have nn := st.new hD2
        refine q' _ _ f2' ?_ ⟨D2, row, rfl, ⟨(ne_of_none hacc hD2).symm, nn.1, nn.2.2, ?_⟩, eD2, by omega, r2⟩
        · rw [nl] at st2'
          exact st2'
        · cases e : H D2 with
          | none => rfl
          | some o =>
            have := f D2 o e nn.1 nn.2.2
            rw [this] at hD2
            cases hD2
    · obtain ⟨gs, g1, g2⟩ := paired_choose (F := fun v (row : List Nat) => ∃ t, v = .ref t ∧ (t ≠ D ∧ t ≠ d ∧ t ≠ l ∧ H t = none) ∧ H' t = some (.lst (nI row)) ∧ row.length = C ∧ ∀ z ∈ row, z < 5) (Paired.mapP pr fun i v ⟨t, row, h⟩ => ⟨row, t, h⟩)
      rw [List.length_range] at g1
      have yl := Paired.length g2
      have gsl : gs.length = R := by omega
      have hWA : WAt l H' (.ref D) gs := ⟨D, ys, rfl, nD.2.2, eD, Paired.mapP g2 fun v row ⟨t, e1, e2, e3, _⟩ => ⟨t, e1, e2.2.2.1, e3⟩⟩
      have g4 := (paired_right (F := fun _ _ => True) (P := fun (row : List Nat) => row.length = C ∧ ∀ z ∈ row, z < 5) (Paired.mapP g2 fun v row ⟨t, e1, e2, e3, e4⟩ => ⟨trivial, e4⟩)).2
      have hSh : Shape gs R C := ⟨gsl, fun r hr => (g4 r hr).1⟩
      refine sum_rows (l := l) rfl hWA (by omega) fun H3 s3 => ?_
      refine ⟨rfl, _, rfl, ite2 (fun h0 => ?_) (fun h0 => ?_)⟩
      · -- all are zero: one is set
        obtain ⟨u, hu⟩ : ∃ u, ys[0]? = some u := ⟨ys[0]'(by omega), List.getElem?_eq_getElem _⟩
        obtain ⟨row0, hrow0, t0, rfl, ⟨n1, n2, n3, n4⟩, et0, rl0, rb0⟩ := paired_get g2 hu
        have eD3 := s3 _ _ eD
        have et3 := s3 _ _ et0
        have hix : ixN (nI row0).length 0 = some 0 := by
          unfold ixN
          rw [nI_len, rl0, if_pos (by omega), if_pos (by omega)]
          rfl
        refine ⟨_, rfl, D, ys, 0, _, rfl, rfl, .inl (.inl eD3), ge0 hu, t0, _, 0, 0, rfl, rfl, et3, hix, ?_⟩
        have frN : Fr d l H (upd H3 t0 (.lst ((nI row0).set 0 (.int 1)))) := fun b o hb h1 h2 => by
          rw [upd_ne (ne_of_none hb n4)]
          exact s3 _ _ (f b o hb h1 h2)
        have eset : (nI row0).set 0 (V.int 1) = nI (row0.set 0 1) := by
          unfold nI
          rw [List.map_set]
          rfl
        rw [eset] at frN ⊢
        have P2 : Paired (fun y (row : List Nat) => ∃ ws : List Nat, ((∃ t, y = V.ref t ∧ t ≠ l ∧ (upd H3 t0 (.lst (nI (row0.set 0 1)))) t = some (.lst (nI ws)) ∧ (t = t0 → ws = row0.set 0 1)) ∧ ws.length = C ∧ ∀ x ∈ ws, x ≤ 4) ∧ True) ys gs := Paired.mapP g2 fun y row ⟨t, e1, e2, e3, e4, e5⟩ => by
          by_cases ht : t = t0
          · subst ht
            refine ⟨row0.set 0 1, ⟨⟨t, e1, e2.2.2.1, upd_same, fun _ => rfl⟩, by rw [List.length_set]; exact rl0, fun x hx => ?_⟩, trivial⟩
            rcases List.mem_or_eq_of_mem_set hx with h | h
            · have := rb0 x h
              omega
            · omega
          · exact ⟨row, ⟨⟨t, e1, e2.2.2.1, by rw [upd_ne ht]; exact s3 _ _ e3, fun z => absurd z ht⟩, e4, fun x hx => by have := e5 x hx; omega⟩, trivial⟩
        obtain ⟨gs', p1, p2⟩ := paired_mid P2
        obtain ⟨p3, p4⟩ := paired_right p1
        have gl' : gs'.length = R := by
          have := Paired.length p3
          omega
        obtain ⟨w0, hw0, t', et', _, _, ew0⟩ := paired_get p3 hu
        have ew : w0 = row0.set 0 1 := ew0 (by injection et' with e; exact e.symm)
        have hpos : 0 < gs'.flatten.sum := by
          refine Nat.lt_of_lt_of_le ?_ (flat_sum_ge (List.mem_of_getElem? hw0))
          rw [ew]
          cases row0 with
          | nil => 
            simp at rl0
            omega
          | cons x r =>
            rw [List.set_cons_zero, List.sum_cons]
            omega
        refine ⟨_, rfl, q _ _ gs' _ frN ((st.same s3).mut (hs.new n4)) (by omega) ⟨D, ys, rfl, nD.2.2, ?_, Paired.mapP p3 fun y ws ⟨t, e1, e2, e3, _⟩ => ⟨t, e1, e2, e3⟩⟩ ⟨gl', fun r hr => (p4 r hr).1⟩ (fun r hr => (p4 r hr).2) hpos⟩
        rw [upd_ne n1.symm]
        exact eD3
      · have hpos : 0 < gs.flatten.sum := by
          rcases Nat.eq_zero_or_pos gs.flatten.sum with z | z
          · exact absurd (decide_eq_true (by rw [z]; rfl)) h0
          · exact z
        exact ⟨_, rfl, q _ _ gs _ (f.trans (Fr.of s3)) (st.same s3) (by omega) (hWA.same s3) hSh (fun r hr x hx => by have := (g4 r hr).2 x hx; omega) hpos⟩
/-! ### _law_odds -/
abbrev sLOdds : Stmt := topS 44
abbrev nLOdds : List Str := ["_law_weights_so", "_law_whole", "_law_line", "_law_one"]
theorem scLOdds : FnScope nLOdds ["_law_weights_so"] (defScope sLOdds) := ⟨rfl, rfl, rfl, by decide +kernel, rfl, by decide +kernel, by decide +kernel⟩
abbrev scpLOdds : Scope := relS (lcS (argE 0 (exOf (nthS (defBody sLOdds) 1)))) (defScope sLOdds)
def spLOdds (K : PySem.W.Frag) : Sp := fun vs H Q _ => ∃ (l : Addr) (v : V) (W : List (List Nat)) (R C : Nat), vs = [v] ∧ WAt l H v W ∧ Shape W R C ∧ R ≤ 4 ∧ C ≤ 4 ∧ 0 < W.flatten.sum ∧ W.flatten.sum ≤ 900 ∧ ∀ H' u, Same H H' → OddsAt K H' u W W.flatten.sum → Q u H'
theorem ok_LOdds {f : Addr} {fd : FuncData} (F : FnAt K mg "_law_odds" sLOdds ["_law_weights_so"] f fd) (T : Txt K mg) {fLShare : Addr} {dLShare : FuncData} (F_LShare : FnAt K mg "_law_share" sLShare ["_law_above", "_law_below"] fLShare dLShare) (G_LShare : FnOk P w K mg base CX0 2 fLShare dLShare ["_law_above", "_law_below"] (spLShare K)) : FnOk P w K mg base CX0 3 f fd ["_law_weights_so"] (spLOdds K) := by
  refine F.at_.ok scLOdds (fun vs H Q E h => ?_) (fun cdv A outer s H vs Q E hr h => ?_)
  · obtain ⟨l, v, W, R, C, rfl, _⟩ := h
    rfl
  · obtain ⟨l, v, W, R, C, rfl, hW, hS, r4, c4, s0, s9, q⟩ := h
    refine ⟨_, (pss_cons (ps_set (i := 1) scLOdds.nd rfl (Or.inr rfl) (pe_callB (c_sumK K rfl) (by rfl) T.sum bt_sum (pa_cons (pe_lc (own := [("_law_line", 2)]) rfl scLOdds.nd (pi_lK K (pv 0)) (blkOk_by (N := nLOdds) (sc := defScope sLOdds) (by decide +kernel)) (fun _ _ _ _ _ => pg_name (i := 2) scLOdds.nd rfl (Or.inl rfl)) (fun _ _ _ _ _ => pts_nil) (fun _ _ _ _ _ => pe_callB (c_sumK K rfl) (by rfl) T.sum bt_sum (pa_cons (pv 2) pa_nil))) pa_nil)))
      (pss_one (ps_ret (pe_tupK K (by rfl) T.tuple (pe_lc (own := [("_law_line", 2)]) rfl scLOdds.nd (pi_lK K (pv 0)) (blkOk_by (N := nLOdds) (sc := defScope sLOdds) (by decide +kernel)) (fun _ _ _ _ _ => pg_name (i := 2) scLOdds.nd rfl (Or.inl rfl)) (fun _ _ _ _ _ => pts_nil) (fun _ _ _ _ _ => pe_tupK K (by rfl) T.tuple (pe_lc (own := [("_law_one", 3)]) rfl scLOdds.nd (pi_lK K (pv 2)) (blkOk_by (N := nLOdds) (sc := scpLOdds) (by decide +kernel)) (fun _ _ _ _ _ => pg_name (i := 3) scLOdds.nd rfl (Or.inl rfl)) (fun _ _ _ _ _ => pts_nil) (fun _ _ _ _ _ => pe_cl F_LShare G_LShare (hr.mono (by decide)) (pa_cons (pv 3) (pa_cons (pv 1) pa_nil)))))))))), ?_⟩
    refine sum_rows (l := l) rfl hW (by rw [hS.1]; omega) fun H1 s1 => ?_
    obtain ⟨p, rs, rfl, _, hp, pr⟩ := hW.same s1
    have rl := Paired.length pr
    have hW4 : W.length ≤ 4 := by rw [hS.1]; exact r4
    refine ⟨_, rfl, p, rfl, ⟨_, .inl (.inl hp)⟩, fun D hD => ?_⟩
    refine lc_genD walk_lst (fun _ => true) (fun i y H => ∃ t ls ws, y = .ref t ∧ t ≠ D ∧ H t = some (.tup ls) ∧ W[i]? = some ws ∧ Paired (fun u x => ∃ a, u = .ref a ∧ a ≠ D ∧ H a = some (.tup [.int ((red x W.flatten.sum).1 : Int), .int ((red x W.flatten.sum).2 : Int)])) ls ws) hD (by omega) (fun H' s => .inl (.inl (s _ _ hp))) (fun i y Ha Hb r e => ?_) (fun i H' hi s Q' q' => q' _ (Same.refl _)) (fun i H' hi hb s hacc Q' q' => ?_) fun ys H' s eD py => ?_
    · obtain ⟨t, ls, ws, e1, e2, e3, e4, e5⟩ := r
      exact ⟨t, ls, ws, e1, e2, e _ _ e3 e2, e4, Paired.mapP e5 fun _ _ ⟨a, g1, g2, g3⟩ => ⟨a, g1, g2, e _ _ g3 g2⟩⟩
    · obtain ⟨acc, hacc⟩ := hacc
      obtain ⟨u, hu⟩ : ∃ u, rs[i]? = some u := ⟨rs[i], List.getElem?_eq_getElem hi⟩
      obtain ⟨ws, hws, b, rfl, _, eb⟩ := paired_get pr hu
      have hwl : ws.length ≤ 4 := by rw [hS.2 ws (List.mem_of_getElem? hws)]; exact c4
      have eb' := s _ _ eb
      refine ⟨_, rfl, b, ?_, ⟨_, .inl (.inl eb')⟩, fun D2 hD2 => ?_⟩
      · rw [List.getD_eq_getElem?_getD, hu]
        rfl
      have nDD : D2 ≠ D := (ne_of_none hacc hD2).symm
      refine lc_genD walk_lst (fun _ => true) (fun j y H => ∃ a x, y = .ref a ∧ a ≠ D ∧ a ≠ D2 ∧ ws[j]? = some x ∧ H a = some (.tup [.int ((red x W.flatten.sum).1 : Int), .int ((red x W.flatten.sum).2 : Int)])) hD2 (by rw [nI_len]; omega) (fun H' s => .inl (.inl (s _ _ eb'))) (fun j y Ha Hb r e => ?_) (fun j H' hi s Q' q' => q' _ (Same.refl _)) (fun j H2' hj hb s2 hacc2 Q2 q2 => ?_) fun zs H2' s2 eD2 pz => ?_
      · obtain ⟨a, x, e1, e2, e3, e4, e5⟩ := r
        exact ⟨a, x, e1, e2, e3, e4, e _ _ e5 e3⟩
      · obtain ⟨acc2, hacc2⟩ := hacc2
        obtain ⟨x, hx, ex⟩ := nI_at hj
        rw [ex]
        refine ⟨_, rfl, _, rfl, x, W.flatten.sum, rfl, s0, by omega, fun t nt => q2 _ _ (L2.Same.new nt) ⟨t, x, rfl, (ne_of_none (s2 _ _ hacc) nt).symm, (ne_of_none hacc2 nt).symm, hx, upd_same⟩⟩
      · rw [List.filter_eq_self.mpr fun _ _ => rfl] at pz
        have zl := Paired.length pz
        rw [List.length_range, nI_len] at zl
        refine .inl ⟨D2, _, rfl, .inl (.inl eD2), fun t nt => ?_⟩
        have sn := L2.Same.new (o := .tup zs) nt
        refine q' _ _ (s2.trans sn) ⟨t, zs, ws, rfl, (ne_of_none (s2 _ _ hacc) nt).symm, upd_same, hws, ?_⟩
        refine paired_of_get zl.symm fun j y x hy hx => ?_
        obtain ⟨k, hk, a, x', e1, e2, _, e4, e5⟩ := paired_getR pz hy
        have ek : k = j := by
          have h1 := List.getElem?_range (n := (nI ws).length) (i := j) (by have := (List.getElem?_eq_some_iff.mp hk).1; rw [List.length_range] at this; exact this)
          rw [h1] at hk
          exact (Option.some.inj hk).symm
        subst ek
        rw [hx] at e4
        have ee := Option.some.inj e4
        subst ee
        exact ⟨a, e1, e2, sn _ _ e5⟩
    · rw [List.filter_eq_self.mpr fun _ _ => rfl] at py
      have yl := Paired.length py
      rw [List.length_range] at yl
      refine .inl ⟨D, _, rfl, .inl (.inl eD), fun t nt => ?_⟩
      have sn := L2.Same.new (o := .tup ys) nt
      refine q _ _ (s1.trans (s.trans sn)) ?_
      have P1 : Paired (fun y ws => ∃ ls, (∃ t, y = .ref t ∧ H' t = some (.tup ls)) ∧ Paired (fun u x => ∃ a, u = V.ref a ∧ H' a = some (.tup [.int ((red x W.flatten.sum).1 : Int), .int ((red x W.flatten.sum).2 : Int)])) ls ws) ys W := by
        refine paired_of_get (by omega) fun j y ws' hy hw => ?_
        obtain ⟨k, hk, t', ls, ws, e1, e2, e3, e4, e5⟩ := paired_getR py hy
        have ek : k = j := by
          have h1 := List.getElem?_range (n := rs.length) (i := j) (by have := (List.getElem?_eq_some_iff.mp hk).1; rw [List.length_range] at this; exact this)
          rw [h1] at hk
          exact (Option.some.inj hk).symm
        subst ek
        rw [hw] at e4
        have ee := Option.some.inj e4
        subst ee
        exact ⟨ls, ⟨t', e1, e3⟩, Paired.mapP e5 fun _ _ ⟨a, g1, _, g3⟩ => ⟨a, g1, g3⟩⟩
      obtain ⟨L, p1, p2⟩ := paired_mid P1
      exact ⟨L, ⟨t, ys, rfl, .inl (.inl upd_same), Paired.mapP p1 fun y ls ⟨t', e1, e2⟩ => ⟨t', e1, sn _ _ e2⟩⟩, Paired.mapP p2 fun ls ws h => Paired.mapP h fun u x ⟨a, e1, e2⟩ => ⟨a, e1, .inl (.inl (sn _ _ e2))⟩⟩
end
end My
set_option Elab.async false
set_option linter.all false
set_option maxRecDepth 100000
set_option maxHeartbeats 2000000
/-! _law_best -/
namespace My
open PySem PySem.Spec PyProof.Rows L2 Bs
theorem But.seqs {D : Addr} {H H' : Hp} (h : But D H H') (hd : ∃ f, H D = some (.ext f)) : Seqs H H' := by
  obtain ⟨f, hd⟩ := hd
  exact ⟨fun b xs e => h b _ e (ne_of e hd fun z => nomatch z), fun b xs e => h b _ e (ne_of e hd fun z => nomatch z), fun b o u e => h b _ e (ne_of e hd fun z => nomatch z)⟩
theorem Lines.seqs {K : PySem.W.Frag} {H H' : Hp} {v : V} {L : List (List V)} (e : Seqs H H') (h : Lines K H v L) : Lines K H' v L := by
  obtain ⟨a, rs, rfl, h1, h2⟩ := h
  exact ⟨a, rs, rfl, e.sqT h1, Paired.mapP h2 fun _ _ ⟨b, g1, g2⟩ => ⟨b, g1, e.tup _ _ g2⟩⟩
theorem WAt.seqs {l : Addr} {H H' : Hp} {v : V} {W : List (List Nat)} (h : WAt l H v W) (e : Seqs H H') : WAt l H' v W := by
  obtain ⟨a, rs, h1, h2, h3, h4⟩ := h
  exact ⟨a, rs, h1, h2, e.lst _ _ h3, Paired.mapP h4 fun _ _ ⟨b, g1, g2, g3⟩ => ⟨b, g1, g2, e.lst _ _ g3⟩⟩
theorem LotsAt.seqs {H H' : Hp} {vs : List V} {ps : List (List Nat)} (h : LotsAt H vs ps) (e : Seqs H H') : LotsAt H' vs ps := Paired.mapP h fun _ _ ⟨a, h1, h2⟩ => ⟨a, h1, e.tup _ _ h2⟩
/-- what the table of the law's own search may hold -/
def Gd (G W : List (List Nat)) (k : NK) (v : Nat) : Prop := k.1 ≤ 2 ∧ k.2.1 ∈ lots (List.range 4) ∧ k.2.2 ∈ lots (List.range 4) ∧ v = best G W k.1 k.2.1 k.2.2
def domK : List NK := (List.range 3).flatMap fun i => (lots (List.range 4)).flatMap fun n => (lots (List.range 4)).map fun f => (i, n, f)
theorem gd_dom {G W : List (List Nat)} : ∃ dom : List NK, dom.length ≤ 1000000 ∧ ∀ k v, Gd G W k v → k ∈ dom := by
  refine ⟨domK, by decide +kernel, fun k v h => ?_⟩
  obtain ⟨a, b, c, _⟩ := h
  unfold domK
  simp only [List.mem_flatMap, List.mem_map, List.mem_range]
  exact ⟨k.1, by omega, k.2.1, b, k.2.2, c, rfl⟩
theorem in_lots4 {l : List Nat} {R : Nat} (h : l.Sublist (List.range R)) (hR : R ≤ 4) : l ∈ lots (List.range 4) := mem_lots.mpr (h.trans (List.range_sublist.mpr hR))
theorem nd_same {P : Program} {w : World} {Good : NK → Nat → Prop} {H H' : Hp} {d : Addr} (h : ND P w Good H d) (e : Same H H') : ND P w Good H' d := by
  obtain ⟨f, hf⟩ := h.some
  exact h.keep ((e _ _ hf).trans hf.symm) fun b ys hb => e _ _ hb
theorem has_same {P : Program} {w : World} {Good : NK → Nat → Prop} {H H' : Hp} {d : Addr} {k : NK} (h : Has P w Good H d k) (e : Same H H') : Has P w Good H' d k := by
  obtain ⟨xs, hx, hk⟩ := h
  refine ⟨xs, hx.keep ?_ fun b ys hb => e _ _ hb, hk⟩
  have := hx.2.1
  rw [this, e _ _ this]
theorem w_cell {l : Addr} {H : Hp} {v : V} {W : List (List Nat)} {R C r c : Nat} (h : WAt l H v W) (hs : Shape W R C) (hr : r < R) (hc : c < C) :
    ∃ a rs b ws, v = .ref a ∧ H a = some (.lst rs) ∧ rs[r]? = some (.ref b) ∧ H b = some (.lst (nI ws)) ∧ (nI ws)[c]? = some (.int (gat W r c : Int)) := by
  obtain ⟨a, rs, e1, _, e2, pr⟩ := h
  obtain ⟨ws, h1, h2⟩ := shape_get hs hr hc
  obtain ⟨u, hu, b, rfl, _, hb⟩ := paired_getR pr h1
  refine ⟨a, rs, b, ws, e1, e2, hu, hb, ?_⟩
  unfold nI
  rw [List.getElem?_map, h2]
  rfl
theorem sub_lt {l : List Nat} {R : Nat} (h : l.Sublist (List.range R)) : ∀ x ∈ l, x < R := fun x hx => List.mem_range.mp (h.subset hx)
theorem sub_len {l : List Nat} {R : Nat} (h : l.Sublist (List.range R)) (hR : R ≤ 4) : l.length ≤ 4 := by
  have := h.length_le
  rw [List.length_range] at this
  omega
theorem sub_nodup {l : List Nat} {R : Nat} (h : l.Sublist (List.range R)) : l.Nodup := List.nodup_range.sublist h
section
variable {P : Program} {w : World} {K : PySem.W.Frag} {mg : Str → Option Value} {base : Heap}
/-! ### _law_best -/
abbrev sLBest : Stmt := topS 45
abbrev nLBest : List Str := ["_law_told_grid", "_law_weights_so", "_law_most", "_law_near", "_law_far", "_law_known", "_law_best_here", "_law_totals", "_law_line", "_law_spot", "_law_mark", "_law_part", "_law_rest", "_law_here"]
theorem scLBest : FnScope nLBest ["_law_told_grid", "_law_weights_so", "_law_most", "_law_near", "_law_far", "_law_known"] (defScope sLBest) := ⟨rfl, rfl, rfl, by decide +kernel, rfl, by decide +kernel, by decide +kernel⟩
def spLBest (P : Program) (w : World) (K : PySem.W.Frag) (m : Nat) : Sp := fun vs H Q _ => ∃ (l : Addr) (v wv : V) (k : Nat) (n f kd : Addr) (G W : List (List Nat)) (R C : Nat) (near far : List Nat), vs = [v, wv, .int (k : Int), .ref n, .ref f, .ref kd] ∧
  GridAt K H v G ∧ Shape G R C ∧ WAt l H wv W ∧ Shape W R C ∧ R ≤ 4 ∧ C ≤ 4 ∧ k ≤ m ∧ H n = some (.tup (nI near)) ∧ H f = some (.tup (nI far)) ∧ near.Sublist (List.range R) ∧ far.Sublist (List.range C) ∧ ND P w (Gd G W) H kd ∧
  ∀ H', But kd H H' → ND P w (Gd G W) H' kd → Q (.int ((best G W k near far : Nat) : Int)) H'
theorem ok_LBest0 {f : Addr} {fd : FuncData} (F : FnAt K mg "_law_best" sLBest ["_law_told_grid", "_law_weights_so", "_law_most", "_law_near", "_law_far", "_law_known"] f fd) (T : Txt K mg) : FnOk P w K mg base CX0 10 f fd ["_law_told_grid", "_law_weights_so", "_law_most", "_law_near", "_law_far", "_law_known"] (spLBest P w K 0) := by
  refine F.at_.ok scLBest (fun vs H Q E h => ?_) (fun cdv A outer s H vs Q E hr h => ?_)
  · obtain ⟨l, v, wv, k, n, f, kd, G, W, R, C, near, far, rfl, _⟩ := h
    rfl
  · obtain ⟨l, v, wv, k, n, f, kd, G, W, R, C, near, far, rfl, hg, hsh, hw, hshW, r4, c4, hk, hn, hf, sn, sf, hnd, q⟩ := h
    have hk0 : k = 0 := by omega
    subst hk0
    refine ⟨_, (pss_cons (ps_if (pt_cmp (pc_nin (Good := Gd G W) hr.units (pe_tup (pa_cons (pv 2) (pa_cons (pv 3) (pa_cons (pv 4) pa_nil)))) (pv 5))) 
          (pss_one (ps_ret (pe_nget (Good := Gd G W) hr.units (pv 5) (pe_tup (pa_cons (pv 2) (pa_cons (pv 3) (pa_cons (pv 4) pa_nil)))) (fun _ _ => rfl)))) pss_nil)
      (pss_cons (ps_asg (pe_tup (pa_cons pe_int (pa_cons pe_dnewK pa_nil))) (pg_tK K rfl (pgs_cons (pg_name (i := 6) scLBest.nd rfl (Or.inl rfl)) (pgs_cons (pg_name (i := 7) scLBest.nd rfl (Or.inr rfl)) pgs_nil))))
      (pss_cons (ps_if (pt_cmpR op_eq (pv 2) pe_int (nomark _)) 
          (pss_cons (ps_for PassesOwn.never rfl (pi_tK K (pv 3)) (pg_name (i := 8) scLBest.nd rfl (Or.inl rfl)) 
              (pss_one (ps_for PassesOwn.never rfl (pi_tK K (pv 4)) (pg_name (i := 9) scLBest.nd rfl (Or.inl rfl)) 
                  (pss_cons (ps_set (i := 10) scLBest.nd rfl (Or.inl rfl) (pe_ix (ix_tK K) (pe_ix (ix_tK K) (pv 0) (pv 8) (fun _ _ => rfl)) (pv 9) (fun _ _ => rfl)))
                  (pss_one (ps_dput (hu_of hr) (pv 7) (pv 10) (pe_op op_add (pe_dget2 (hu_of hr) (pv 7) (pv 10) pe_int ⟨by rfl, by rfl, by rfl, by rfl⟩) (pe_ix (ix_lK K) (pe_ix (ix_lK K) (pv 1) (pv 8) (fun _ _ => rfl)) (pv 9) (fun _ _ => rfl))) rfl))))))
          (pss_one (ps_set (i := 6) scLBest.nd rfl (Or.inl rfl) (pe_callB (c_maxK K rfl) (by rfl) T.max bt_max (pa_cons (pe_op op_cat (pe_lst (pa_cons pe_int pa_nil)) (pe_lock (pe_lc (own := [("_law_mark", 10)]) rfl scLBest.nd (pi_keys (pv 7)) (blkOk_by (N := nLBest) (sc := defScope sLBest) (by decide +kernel)) (fun _ _ _ _ _ => pg_name (i := 10) scLBest.nd rfl (Or.inl rfl)) (fun _ _ _ _ _ => pts_nil) (fun _ _ _ _ _ => pe_dget (hu_of hr) (pv 7) (pv 10) (fun _ _ => rfl))))) pa_nil))))) 
          pss_never)
      (pss_cons (ps_nput (Good := Gd G W) hr.units (pv 5) (pe_tup (pa_cons (pv 2) (pa_cons (pv 3) (pa_cons (pv 4) pa_nil)))) (pv 6) rfl)
      (pss_one (ps_ret (pv 6))))))), ?_⟩
    have lnear := sub_len sn r4
    have lfar := sub_len sf c4
    refine ⟨_, rfl, _, rfl, _, rfl, sz (by show 3 ≤ _; omega), fun t nt => ?_⟩
    have s0 := L2.Same.new (o := .tup [V.int ((0 : Nat) : Int), .ref n, .ref f]) nt
    refine ⟨_, rfl, t, kd, (0, near, far), rfl, rfl, ⟨n, f, upd_same, s0 _ _ hn, s0 _ _ hf⟩, nd_same hnd s0, fun c hc => ⟨c, rfl, ?_⟩⟩
    cases c with
    | true =>
      refine iteT ⟨_, rfl, _, rfl, _, rfl, _, rfl, sz (by show 3 ≤ _; omega), fun t2 nt2 => ?_⟩
      have s1 := s0.trans (L2.Same.new (o := .tup [V.int ((0 : Nat) : Int), .ref n, .ref f]) nt2)
      refine ⟨t2, kd, (0, near, far), rfl, rfl, ⟨n, f, upd_same, s1 _ _ hn, s1 _ _ hf⟩, has_same (hc rfl) (L2.Same.new nt2), fun v hv => ?_⟩
      rw [hv.2.2.2]
      exact q _ (But.of s1) (nd_same hnd s1)
    | false =>
      refine iteF fun d nd1 => ⟨sz (by show 2 ≤ _; omega), fun t2 nt2 => ⟨t2, _, rfl, .inl (.inl upd_same), rfl, _, _, rfl, _, _, rfl, rfl, ?_⟩⟩
      have nd := s0.free nd1
      have s1 := s0.trans ((L2.Same.new (o := .dK []) nd1).trans (L2.Same.new (o := .tup [V.int 0, .ref d]) nt2))
      have ed1 := (L2.Same.new (o := .tup [V.int 0, .ref d]) nt2) _ _ (upd_same (H := upd H t (.tup [V.int ((0 : Nat) : Int), .ref n, .ref f])) (a := d) (o := .dK []))
      generalize hH1 : upd (upd (upd H t (.tup [V.int ((0 : Nat) : Int), .ref n, .ref f])) d (.dK [])) t2 (.tup [V.int 0, .ref d]) = H1 at s1 ed1
      refine ⟨_, rfl, rfl, _, rfl, iteT ?_⟩
      refine ⟨_, rfl, n, rfl, ⟨_, .inl (.inl (s1 _ _ hn))⟩, ?_⟩
      obtain ⟨a, rs, rfl, ha, hl, hrow⟩ := lines_get hg
      rw [List.length_map, hsh.1] at hl
      refine for_it walk_tpl (fun i σ H' => Same H H' ∧ H' d = some (.dK (enc (tally (marks G W (near.take i) far)))) ∧ ∃ z1 z2 z3, σ = [some (.ref a), some wv, some (.int ((0 : Nat) : Int)), some (.ref n), some (.ref f), some (.ref kd), some (.int 0), some (.ref d), z1, z2, z3, none, none, none]) ?_ (fun i σ H' _ h => .inl (.inl (h.1 _ _ hn))) (fun i x σ H2 H' hi h y => ?_) (fun σ H' h => ?_)
      · exact ⟨s1, ed1, none, none, none, rfl⟩
      · obtain ⟨sm2, ed2, z1, z2, z3, rfl⟩ := h
        obtain ⟨rfl, rfl⟩ := y
        obtain ⟨r0, hr0, ex⟩ := nI_at hi
        rw [ex]
        have hr0R : r0 < R := sub_lt sn r0 (List.mem_of_getElem? hr0)
        refine ⟨_, rfl, f, rfl, ⟨_, .inl (.inl (sm2 _ _ hf))⟩, ?_⟩
        refine for_it walk_tpl (fun j σ H' => Same H H' ∧ H' d = some (.dK (enc (tally (marks G W (near.take i) far ++ (far.take j).map fun c => (gat G r0 c, gat W r0 c))))) ∧
          ∃ z2 z3, σ = [some (.ref a), some wv, some (.int ((0 : Nat) : Int)), some (.ref n), some (.ref f), some (.ref kd), some (.int 0), some (.ref d), some (.int (r0 : Int)), z2, z3, none, none, none]) ?_ (fun i σ H' _ h => .inl (.inl (h.1 _ _ hf))) (fun j x σ H4 H' hj h y => ?_) (fun σ H' h => ?_)
        · refine ⟨sm2, ?_, _, _, rfl⟩
          rw [List.take_zero, List.map_nil, List.append_nil]
          exact ed2
        · obtain ⟨sm4, ed4, z2, z3, rfl⟩ := h
          obtain ⟨rfl, rfl⟩ := y
          obtain ⟨c0, hc0, ex2⟩ := nI_at hj
          rw [ex2]
          have hc0C : c0 < C := sub_lt sf c0 (List.mem_of_getElem? hc0)
          obtain ⟨b, l', e1, e2, e3⟩ := grid_cell hsh hrow hl hr0R hc0C
          obtain ⟨wa, wrs, wb, ws, rfl, w1, w2, w3, w4⟩ := w_cell (hw.same sm4) hshW hr0R hc0C
          have tb : SqT K H' b (nI l') := .inl (.inl (sm4 _ _ e2))
          refine ⟨_, rfl, _, rfl, a, rs, _, _, rfl, rfl, sm4.tup ha, atI_nat e1, _, rfl, b, _, _, _, rfl, rfl, tb, atI_nat e3, ?_⟩
          refine ⟨_, rfl, d, rfl, .inl ⟨_, .inl ed4⟩, _, rfl, _, DGet.k (k := mK (gat G r0 c0)) ed4, ?_⟩
          refine ⟨_, rfl, _, rfl, wa, wrs, _, _, rfl, rfl, .inl (.inl w1), atI_nat w2, _, rfl, wb, _, _, _, rfl, rfl, .inl (.inl w3), atI_nat w4, _, _, (by rw [valV_enc]; exact getD_enc _ _), rfl, ?_⟩
          have htl : (enc (tally (marks G W (near.take i) far ++ (far.take j).map fun c => (gat G r0 c, gat W r0 c)))).length ≤ 100 := by
            rw [enc_len]
            refine Nat.le_trans (tally_len _) ?_
            rw [List.length_append, marks_len, List.length_map, List.length_take, List.length_take]
            have : min i near.length * far.length ≤ 4 * 4 := Nat.mul_le_mul (by omega) (by omega)
            omega
          refine ⟨_, rfl, _, rfl, d, _, rfl, DPut.k (k := mK (gat G r0 c0)) ed4 (szl (by omega)), sm4.mut nd, ?_, _, _, rfl⟩
          rw [upd_same]
          refine congrArg (fun l => some (HO.dK l)) ?_
          refine Eq.trans (enc_add _ (gat G r0 c0) (gat W r0 c0)) ?_
          rw [← tally_append, List.append_assoc, List.take_add_one, hc0]
          simp
        · obtain ⟨sm4, ed4, z2, z3, rfl⟩ := h
          refine ⟨sm4, ?_, _, _, _, rfl⟩
          rw [marks_take_succ hr0, ed4, nI_len, List.take_length]
      · obtain ⟨sm2, ed2, z1, z2, z3, rfl⟩ := h
        rw [nI_len, List.take_length] at ed2
        have hbest := tally_best (G := G) (W := W) near far
        have tnd := tally_nodup (marks G W near far)
        have htl : (tally (marks G W near far)).length ≤ 100 := by
          refine Nat.le_trans (tally_len _) ?_
          rw [marks_len]
          have : near.length * far.length ≤ 4 * 4 := Nat.mul_le_mul (by omega) (by omega)
          omega
        generalize tally (marks G W near far) = t at ed2 hbest tnd htl
        refine ⟨sz (by show 1 ≤ _; omega), fun p0 np0 => ?_⟩
        have s3 := L2.Same.new (o := .lst [V.int 0]) np0
        refine ⟨d, _, s3 _ _ ed2, trivial, fun od => ⟨.ref d, rfl, d, od, rfl, .inl ⟨enc t, upd_same, fun D hD => ?_⟩⟩⟩
        have hlen : (enc t).length = t.length := enc_len t
        have hDd : d ≠ D := ne_of_none upd_same hD
        have tget_i : ∀ i, i < t.length → ∃ m v, t[i]? = some (m, v) ∧ ((enc t).map fun p => kV p.1).getD i .non = .int (m : Int) ∧ (t.map (·.2)).getD i 0 = v ∧ tget t m = some v := fun i hi => by
          have e := List.getElem?_eq_getElem hi
          refine ⟨t[i].1, t[i].2, e, ?_, ?_, mem_tget tnd (List.mem_of_getElem? e)⟩
          · unfold enc
            rw [List.map_map, List.getD_eq_getElem?_getD, List.getElem?_map, e]
            rfl
          · rw [List.getD_eq_getElem?_getD, List.getElem?_map, e]
            rfl
        refine lc_gen walk_ks (fun _ => true) (fun i y _ => y = .int (((t.map (·.2)).getD i 0 : Nat) : Int)) hD (by omega) (fun H3 e => e _ _ upd_same) (fun _ _ _ _ h _ => h) (fun i H3 hi s4 Q' q' => q' _ (Same.refl _)) (fun i H3 hi hb s4 Q' q' => ?_) fun ys H3 s4 eD pr => ?_
        · obtain ⟨m, v, h1, h2, h3, h4⟩ := tget_i i (by omega)
          rw [h2]
          refine ⟨_, rfl, _, rfl, d, .int (v : Int), rfl, .inl ⟨enc t, mK m, .inr ⟨od, s4 _ _ upd_same⟩, rfl, ?_⟩, q' _ _ (Same.refl _) (by rw [h3])⟩
          rw [valV_enc, h4]
          rfl
        · rw [List.filter_eq_self.mpr fun _ _ => rfl] at pr
          have ey := paired_eq pr
          have eys : ys = nI (t.map (·.2)) := by
            rw [ey, hlen]
            refine List.ext_getElem? fun i => ?_
            unfold nI
            rw [List.getElem?_map, List.getElem?_map]
            rcases Nat.lt_or_ge i t.length with h | h
            · rw [List.getElem?_range h]
              show some (V.int (((t.map (·.2)).getD i 0 : Nat) : Int)) = _
              rw [List.getD_eq_getElem?_getD, List.getElem?_map, List.getElem?_eq_getElem h]
              rfl
            · rw [List.getElem?_eq_none (by rw [List.length_range]; exact h), List.getElem?_eq_none (by rw [List.length_map]; exact h)]
              rfl
          subst eys
          have sb : But d H' H3 := (But.of s3).trans (But.upd.trans (But.of s4))
          refine ⟨s4 _ _ upd_same, ?_⟩
          have np0d : p0 ≠ d := (ne_of_none ed2 np0).symm
          have e0 : (upd H3 d (.dK (enc t))) p0 = some (.lst [V.int 0]) := by
            rw [upd_ne np0d]
            exact s4 _ _ (by rw [upd_ne np0d]; exact upd_same)
          have eD' : (upd H3 d (.dK (enc t))) D = some (.lst (nI (t.map (·.2)))) := by
            rw [upd_ne hDd.symm]
            exact eD
          refine ⟨p0, D, _, _, rfl, rfl, e0, eD', ?_, fun p3 np3 => ?_⟩
          · rw [nI_len, List.length_map]
            exact sz (by show 1 + t.length ≤ _; omega)
          have s5 : Same H (upd H3 d (.dK (enc t))) := ((But.of sm2).trans (sb.trans But.upd)).same nd
          have s6 := s5.trans (L2.Same.new (o := .lst ([V.int 0] ++ nI (t.map (·.2)))) np3)
          refine ⟨p3, (0 :: t.map (·.2)).map fun (n : Nat) => (n : Int), rfl, .inl (.inl ?_), by simp, fun m hm1 hm2 => ?_⟩
          · rw [upd_same, ← nI_ints]
            rfl
          have em : m = ((best G W 0 near far : Nat) : Int) := by
            rw [← hbest]
            obtain ⟨m0, h0, rfl⟩ := List.mem_map.mp hm1
            congr 1
            refine Nat.le_antisymm ?_ ?_
            · rcases List.mem_cons.mp h0 with rfl | h0
              · exact Nat.zero_le _
              · exact le_mx h0
            · rcases mx_mem (t.map (·.2)) with z | z
              · omega
              · have := hm2 _ (List.mem_map.mpr ⟨_, List.mem_cons_of_mem _ z, rfl⟩)
                exact Int.ofNat_le.mp this
          rw [em]
          refine ⟨_, rfl, _, rfl, _, rfl, _, rfl, _, rfl, sz (by show 3 ≤ _; omega), fun t3 nt3 => ?_⟩
          have s7 := s6.trans (L2.Same.new (o := .tup [V.int ((0 : Nat) : Int), .ref n, .ref f]) nt3)
          refine ⟨t3, kd, (0, near, far), _, rfl, rfl, rfl, ⟨n, f, upd_same, s7 _ _ hn, s7 _ _ hf⟩, nd_same hnd s7, ⟨Nat.zero_le _, in_lots4 sn r4, in_lots4 sf c4, rfl⟩, gd_dom, fun H5 h5 nd5 => ?_⟩
          exact ⟨_, rfl, q _ ((But.of s7).trans fun b o hb hne => by rw [h5 b hne]; exact hb) nd5⟩
end
end My
set_option Elab.async false
set_option linter.all false
set_option maxRecDepth 100000
set_option maxHeartbeats 2000000
/-! _law_best, one bit more -/
namespace My
open PySem PySem.Spec PyProof.Rows L2 Bs
theorem FnOk_or {P : Program} {w : World} {K : PySem.W.Frag} {mg : Str → Option Value} {base : Heap} {CX : CXT} {k : Nat} {f : Addr} {fd : FuncData} {ps : List Str} {sp sp1 sp2 : Sp} (F1 : FnOk P w K mg base CX k f fd ps sp1) (F2 : FnOk P w K mg base CX k f fd ps sp2)
    (h : ∀ vs H Q E, sp vs H Q E → sp1 vs H Q E ∨ sp2 vs H Q E) : FnOk P w K mg base CX k f fd ps sp :=
  ⟨fun vs H Q E q => (h _ _ _ _ q).elim (F1.len vs H Q E) (F2.len vs H Q E), fun A outer s H args us vs Q E hr he hb hv hs => (h _ _ _ _ hs).elim (F1.run A outer s H args us vs Q E hr he hb hv) (F2.run A outer s H args us vs Q E hr he hb hv)⟩
theorem inV_nat {x : Nat} : ∀ {p : List Nat}, inV (.int (x : Int)) (nI p) = p.contains x
  | [] => rfl
  | y :: p => by
    have ih := inV_nat (x := x) (p := p)
    unfold inV nI at ih ⊢
    rw [List.map_cons, List.any_cons, ih, List.contains_cons]
    congr 1
    show ((y : Int) == (x : Int)) = (x == y)
    rcases Nat.decEq x y with h | h
    · rw [beq_eq_false_iff_ne.mpr h]
      exact beq_eq_false_iff_ne.mpr fun e => h (Int.ofNat.inj e).symm
    · rw [beq_iff_eq.mpr h]
      exact beq_iff_eq.mpr (congrArg Int.ofNat h.symm)
theorem flat_nI : ∀ p : List Nat, (nI p).all flatV = true
  | [] => rfl
  | y :: p => by
    have ih := flat_nI p
    unfold nI at ih ⊢
    rw [List.map_cons, List.all_cons, ih]
    rfl
theorem filter_ix (l : List Nat) (f : Nat → Bool) : ((List.range l.length).filter fun i => f (l.getD i 0)).map (fun i => l.getD i 0) = l.filter f := by
  have e : (List.range l.length).map (fun i => l.getD i 0) = l := by
    refine List.ext_getElem? fun i => ?_
    rw [List.getElem?_map]
    rcases Nat.lt_or_ge i l.length with h | h
    · rw [List.getElem?_range h]
      show some (l.getD i 0) = _
      rw [List.getD_eq_getElem?_getD, List.getElem?_eq_getElem h]
      rfl
    · rw [List.getElem?_eq_none (by rw [List.length_range]; exact h), List.getElem?_eq_none h]
      rfl
  conv => rhs; rw [← e]
  rw [List.filter_map]
  rfl
theorem max_step {A B : List Nat} {i x : Nat} (h : B[i]? = some x) : (if (x : Int) > ((mx (A ++ B.take i) : Nat) : Int) then (x : Int) else ((mx (A ++ B.take i) : Nat) : Int)) = ((mx (A ++ B.take (i + 1)) : Nat) : Int) := by
  rw [List.take_add_one, h, ← List.append_assoc]
  show _ = ((mx ((A ++ List.take i B) ++ [x]) : Nat) : Int)
  rw [mx_append]
  split <;> omega
section
variable {P : Program} {w : World} {K : PySem.W.Frag} {mg : Str → Option Value} {base : Heap}
def spLBestE (P : Program) (w : World) (K : PySem.W.Frag) (m : Nat) : Sp := fun vs H Q _ => ∃ (l : Addr) (v wv : V) (n f kd : Addr) (G W : List (List Nat)) (R C : Nat) (near far : List Nat), vs = [v, wv, .int ((m + 1 : Nat) : Int), .ref n, .ref f, .ref kd] ∧
  GridAt K H v G ∧ Shape G R C ∧ WAt l H wv W ∧ Shape W R C ∧ R ≤ 4 ∧ C ≤ 4 ∧ H n = some (.tup (nI near)) ∧ H f = some (.tup (nI far)) ∧ near.Sublist (List.range R) ∧ far.Sublist (List.range C) ∧ ND P w (Gd G W) H kd ∧
  ∀ H', But kd H H' → ND P w (Gd G W) H' kd → Q (.int ((best G W (m + 1) near far : Nat) : Int)) H'
/-- what the two loops keep -/
def Inv1 (P : Program) (w : World) (l : Addr) (H H' : Hp) (G W : List (List Nat)) (kd pl : Addr) (ys : List V) (ls : List (List Nat)) : Prop := But kd H H' ∧ ND P w (Gd G W) H' kd ∧ H' pl = some (.lst ys) ∧ LotsAt H' ys ls
theorem ok_LBestE {j m : Nat} (hj : 1 ≤ j) (hm : m + 1 ≤ 2) {f : Addr} {fd : FuncData} (F : FnAt K mg "_law_best" sLBest ["_law_told_grid", "_law_weights_so", "_law_most", "_law_near", "_law_far", "_law_known"] f fd) (T : Txt K mg)
    {fLLots : Addr} {dLLots : FuncData} (F_LLots : FnAt K mg "_law_lots" sLLots ["_law_some"] fLLots dLLots) (G_LLots : FnOk P w K mg base CX0 1 fLLots dLLots ["_law_some"] (spLLots K))
    (hself : FnOk P w K mg base CX0 j f fd ["_law_told_grid", "_law_weights_so", "_law_most", "_law_near", "_law_far", "_law_known"] (spLBest P w K m)) :
    FnOk P w K mg base CX0 (j + 1) f fd ["_law_told_grid", "_law_weights_so", "_law_most", "_law_near", "_law_far", "_law_known"] (spLBestE P w K m) := by
  refine F.at_.ok scLBest (fun vs H Q E h => ?_) (fun cdv A outer s H vs Q E hr h => ?_)
  · obtain ⟨l, v, wv, n, f, kd, G, W, R, C, near, far, rfl, _⟩ := h
    rfl
  · obtain ⟨l, v, wv, n, f, kd, G, W, R, C, near, far, rfl, hg, hsh, hw, hshW, r4, c4, hn, hf, sn, sf, hnd, q⟩ := h
    refine ⟨_, (pss_cons (ps_if (pt_cmp (pc_nin (Good := Gd G W) hr.units (pe_tup (pa_cons (pv 2) (pa_cons (pv 3) (pa_cons (pv 4) pa_nil)))) (pv 5))) 
          (pss_one (ps_ret (pe_nget (Good := Gd G W) hr.units (pv 5) (pe_tup (pa_cons (pv 2) (pa_cons (pv 3) (pa_cons (pv 4) pa_nil)))) (fun _ _ => rfl)))) pss_nil)
      (pss_cons (ps_asg (pe_tup (pa_cons pe_int (pa_cons pe_dnewK pa_nil))) (pg_tK K rfl (pgs_cons (pg_name (i := 6) scLBest.nd rfl (Or.inl rfl)) (pgs_cons (pg_name (i := 7) scLBest.nd rfl (Or.inr rfl)) pgs_nil))))
      (pss_cons (ps_if (pt_cmpR op_eq (pv 2) pe_int (nomark _)) 
          pss_never 
          (pss_cons (ps_for PassesOwn.never rfl (pi_lK K (pe_cl F_LLots G_LLots (hr.mono (by omega)) (pa_cons (pv 3) pa_nil))) (pg_name (i := 11) scLBest.nd rfl (Or.inr rfl)) 
              (pss_cons (ps_set (i := 12) scLBest.nd rfl (Or.inl rfl) (pe_tupK K (by rfl) T.tuple (pe_lc (own := [("_law_line", 8)]) rfl scLBest.nd (pi_tK K (pv 3)) (blkOk_by (N := nLBest) (sc := defScope sLBest) (by decide +kernel)) (fun _ _ _ _ _ => pg_name (i := 8) scLBest.nd rfl (Or.inl rfl)) (fun _ _ _ _ _ => pts_one (pt_cmpR (op_ninK K) (pv 8) (pv 11) (by rfl))) (fun _ _ _ _ _ => pv 8))))
              (pss_cons (ps_set (i := 13) scLBest.nd rfl (Or.inl rfl) (pe_cl F hself (hr.mono (by omega)) (pa_cons (pv 0) (pa_cons (pv 1) (pa_cons (pe_op op_sub (pv 2) pe_int) (pa_cons (pv 11) (pa_cons (pv 4) (pa_cons (pv 5) pa_nil))))))))
              (pss_one (ps_set (i := 6) scLBest.nd rfl (Or.inl rfl) (pe_callB (c_max2 rfl) (by rfl) T.max bt_max (pa_cons (pv 6) (pa_cons (pe_op op_add (pv 13) (pe_cl F hself (hr.mono (by omega)) (pa_cons (pv 0) (pa_cons (pv 1) (pa_cons (pe_op op_sub (pv 2) pe_int) (pa_cons (pv 12) (pa_cons (pv 4) (pa_cons (pv 5) pa_nil)))))))) pa_nil))))))))
          (pss_one (ps_for PassesOwn.never rfl (pi_lK K (pe_cl F_LLots G_LLots (hr.mono (by omega)) (pa_cons (pv 4) pa_nil))) (pg_name (i := 11) scLBest.nd rfl (Or.inr rfl)) 
              (pss_cons (ps_set (i := 12) scLBest.nd rfl (Or.inl rfl) (pe_tupK K (by rfl) T.tuple (pe_lc (own := [("_law_spot", 9)]) rfl scLBest.nd (pi_tK K (pv 4)) (blkOk_by (N := nLBest) (sc := defScope sLBest) (by decide +kernel)) (fun _ _ _ _ _ => pg_name (i := 9) scLBest.nd rfl (Or.inl rfl)) (fun _ _ _ _ _ => pts_one (pt_cmpR (op_ninK K) (pv 9) (pv 11) (by rfl))) (fun _ _ _ _ _ => pv 9))))
              (pss_cons (ps_set (i := 13) scLBest.nd rfl (Or.inl rfl) (pe_cl F hself (hr.mono (by omega)) (pa_cons (pv 0) (pa_cons (pv 1) (pa_cons (pe_op op_sub (pv 2) pe_int) (pa_cons (pv 3) (pa_cons (pv 11) (pa_cons (pv 5) pa_nil))))))))
              (pss_one (ps_set (i := 6) scLBest.nd rfl (Or.inl rfl) (pe_callB (c_max2 rfl) (by rfl) T.max bt_max (pa_cons (pv 6) (pa_cons (pe_op op_add (pv 13) (pe_cl F hself (hr.mono (by omega)) (pa_cons (pv 0) (pa_cons (pv 1) (pa_cons (pe_op op_sub (pv 2) pe_int) (pa_cons (pv 3) (pa_cons (pv 12) (pa_cons (pv 5) pa_nil)))))))) pa_nil)))))))))))
      (pss_cons (ps_nput (Good := Gd G W) hr.units (pv 5) (pe_tup (pa_cons (pv 2) (pa_cons (pv 3) (pa_cons (pv 4) pa_nil)))) (pv 6) rfl)
      (pss_one (ps_ret (pv 6))))))), ?_⟩
    have lnear := sub_len sn r4
    have lfar := sub_len sf c4
    have em1 : V.int (((m + 1 : Nat) : Int) - 1) = V.int (m : Int) := by
      congr 1
      omega
    refine ⟨_, rfl, _, rfl, _, rfl, sz (by show 3 ≤ _; omega), fun t nt => ?_⟩
    have s0 := L2.Same.new (o := .tup [V.int ((m + 1 : Nat) : Int), .ref n, .ref f]) nt
    refine ⟨_, rfl, t, kd, (m + 1, near, far), rfl, rfl, ⟨n, f, upd_same, s0 _ _ hn, s0 _ _ hf⟩, nd_same hnd s0, fun c hc => ⟨c, rfl, ?_⟩⟩
    cases c with
    | true =>
      refine iteT ⟨_, rfl, _, rfl, _, rfl, _, rfl, sz (by show 3 ≤ _; omega), fun t2 nt2 => ?_⟩
      have s1 := s0.trans (L2.Same.new (o := .tup [V.int ((m + 1 : Nat) : Int), .ref n, .ref f]) nt2)
      refine ⟨t2, kd, (m + 1, near, far), rfl, rfl, ⟨n, f, upd_same, s1 _ _ hn, s1 _ _ hf⟩, has_same (hc rfl) (L2.Same.new nt2), fun v hv => ?_⟩
      rw [hv.2.2.2]
      exact q _ (But.of s1) (nd_same hnd s1)
    | false =>
      refine iteF fun d nd1 => ⟨sz (by show 2 ≤ _; omega), fun t2 nt2 => ⟨t2, _, rfl, .inl (.inl upd_same), rfl, _, _, rfl, _, _, rfl, rfl, ?_⟩⟩
      have s1 := s0.trans ((L2.Same.new (o := .dK []) nd1).trans (L2.Same.new (o := .tup [V.int 0, .ref d]) nt2))
      generalize hH1 : upd (upd (upd H t (.tup [V.int ((m + 1 : Nat) : Int), .ref n, .ref f])) d (.dK [])) t2 (.tup [V.int 0, .ref d]) = H1 at s1
      refine ⟨_, rfl, rfl, _, rfl, ite2 (fun h0 => ?_) (fun _ => ?_)⟩
      · have h1 : V.int ((m + 1 : Nat) : Int) = V.int 0 := of_decide_eq_true h0
        injection h1 with h1
        omega
      obtain ⟨fk, hfk⟩ := hnd.some
      have bsq : ∀ {H' : Hp}, But kd H H' → Seqs H H' := fun b => b.seqs ⟨fk, hfk⟩
      -- the lots of the rows
      refine ⟨_, rfl, n, near, rfl, s1 _ _ hn, lnear, fun H2 pl ys s2 npl epl lp => ⟨pl, rfl, ⟨_, .inl (.inl epl)⟩, ?_⟩⟩
      have s12 := s1.trans s2
      have yl := Paired.length lp
      refine for_it walk_lst (fun i σ H' => Inv1 P w l H H' G W kd pl ys (lots near) ∧ ∃ z8 z9 z10 z11 z12 z13, σ = [some v, some wv, some (.int ((m + 1 : Nat) : Int)), some (.ref n), some (.ref f), some (.ref kd), some (.int ((mx ([] ++ (splitN (best G W m) near far).take i) : Nat) : Int)), some (.ref d), z8, z9, z10, z11, z12, z13]) ?_ (fun i σ H' _ h => .inl (.inl h.1.2.2.1)) (fun i x σ H3 H' hi h y => ?_) (fun σ H' h => ?_)
      · exact ⟨⟨But.of s12, nd_same hnd s12, epl, lp⟩, none, none, none, none, none, none, rfl⟩
      · obtain ⟨⟨b1, nd2, ep2, lp2⟩, z8, z9, z10, z11, z12, z13, rfl⟩ := h
        obtain ⟨rfl, rfl⟩ := y
        obtain ⟨u, hu⟩ : ∃ u, ys[i]? = some u := ⟨ys[i], List.getElem?_eq_getElem hi⟩
        obtain ⟨p, hp, tp, rfl, etp⟩ := paired_get lp2 hu
        have eu : ys.getD i .non = .ref tp := by rw [List.getD_eq_getElem?_getD, hu]; rfl
        rw [eu]
        have psub := mem_lots.mp (List.mem_of_getElem? hp)
        have hB : (splitN (best G W m) near far)[i]? = some (best G W m p far + best G W m (near.filter fun x => !p.contains x) far) := by
          unfold splitN
          rw [List.getElem?_map, hp]
          rfl
        have hn3 := (bsq b1).tup _ _ hn
        have hf3 := (bsq b1).tup _ _ hf
        -- the rest
        refine ⟨_, rfl, n, rfl, ⟨_, .inl (.inl hn3)⟩, fun D hD => ?_⟩
        refine lc_gen walk_tpl (fun j => !p.contains (near.getD j 0)) (fun j y _ => y = .int ((near.getD j 0 : Nat) : Int)) hD (by rw [nI_len]; omega) (fun H' s => .inl (.inl (s _ _ hn3))) (fun _ _ _ _ h _ => h) (fun j H4 hj s4 Q' q' => ?_) (fun j H4 hj hb s4 Q' q' => ?_) fun zs H4 s4 eD pz => ?_
        · obtain ⟨x, hx, ex⟩ := nI_at hj
          have egd : near.getD j 0 = x := by rw [List.getD_eq_getElem?_getD, hx]; rfl
          rw [ex]
          refine ⟨_, rfl, _, rfl, tp, nI p, rfl, .inr (.inl (.inl (s4 _ _ etp))), rfl, flat_nI p, _, rfl, ?_⟩
          have e := q' _ (Same.refl H4)
          rw [egd, ← inV_nat] at e
          exact e
        · obtain ⟨x, hx, ex⟩ := nI_at hj
          have egd : near.getD j 0 = x := by rw [List.getD_eq_getElem?_getD, hx]; rfl
          rw [ex]
          exact ⟨_, rfl, q' _ _ (Same.refl _) (by rw [egd])⟩
        · have ez : zs = nI (near.filter fun x => !p.contains x) := by
            rw [paired_eq pz, nI_len, ← filter_ix near]
            unfold nI
            rw [List.map_map]
            rfl
          subst ez
          refine .inl ⟨D, _, rfl, .inl (.inl eD), fun tr ntr => ?_⟩
          have s5 := s4.trans (L2.Same.new (o := .tup (nI (near.filter fun x => !p.contains x))) ntr)
          have b5 := b1.trans (But.of s5)
          -- the near part
          refine ⟨_, rfl, _, rfl, _, rfl, _, _, rfl, rfl, _, rfl, _, rfl, _, rfl, l, v, wv, m, tp, f, kd, G, W, R, C, p, far, ?_, Lines.seqs (bsq b5) hg, hsh, hw.seqs (bsq b5), hshW, r4, c4, Nat.le_refl _, s5 _ _ etp, s5 _ _ hf3, psub.trans sn, sf, nd_same nd2 s5, fun H6 b6 nd6 => ?_⟩
          · show [v, wv, V.int (((m + 1 : Nat) : Int) - 1), _, _, _] = _
            rw [em1]
          have b56 := b5.trans b6
          have sq6 := b6.seqs (nd_same nd2 s5).some
          refine ⟨_, rfl, _, rfl, _, rfl, _, rfl, _, rfl, _, _, rfl, rfl, _, rfl, _, rfl, _, rfl, l, v, wv, m, tr, f, kd, G, W, R, C, near.filter (fun x => !p.contains x), far, ?_, Lines.seqs (bsq b56) hg, hsh, hw.seqs (bsq b56), hshW, r4, c4, Nat.le_refl _, sq6.tup _ _ upd_same, sq6.tup _ _ (s5 _ _ hf3), List.filter_sublist.trans sn, sf, nd6, fun H7 b7 nd7 => ?_⟩
          · show [v, wv, V.int (((m + 1 : Nat) : Int) - 1), _, _, _] = _
            rw [em1]
          have sq7 := sq6.trans (b7.seqs nd6.some)
          refine ⟨_, _, rfl, rfl, _, _, rfl, ⟨b56.trans b7, nd7, sq7.lst _ _ (s5 _ _ ep2), (lp2.same s5).seqs sq7⟩, z8, z9, z10, some (.ref tp), some (.ref tr), some (.int ((best G W m p far : Nat) : Int)), ?_⟩
          show [some v, some wv, _, _, _, _, some (V.int (if ((best G W m p far : Nat) : Int) + ((best G W m (near.filter fun x => !p.contains x) far : Nat) : Int) > ((mx ([] ++ (splitN (best G W m) near far).take i) : Nat) : Int) then _ else _)), _, _, _, _, _, _, _] = _
          rw [← Int.natCast_add (best G W m p far), max_step hB]
      · obtain ⟨⟨b0, nd0, ep0, lp0⟩, z8, z9, z10, z11, z12, z13, rfl⟩ := h
        rw [yl, show (lots near).length = (splitN (best G W m) near far).length by unfold splitN; rw [List.length_map], List.take_length, List.nil_append]
        -- the lots of the columns
        refine ⟨_, rfl, f, far, rfl, (bsq b0).tup _ _ hf, lfar, fun H2 pl ys s2 npl epl lp => ⟨pl, rfl, ⟨_, .inl (.inl epl)⟩, ?_⟩⟩
        have b02 := b0.trans (But.of s2)
        have yl := Paired.length lp
        refine for_it walk_lst (fun i σ H' => Inv1 P w l H H' G W kd pl ys (lots far) ∧ ∃ z8 z9 z10 z11 z12 z13, σ = [some v, some wv, some (.int ((m + 1 : Nat) : Int)), some (.ref n), some (.ref f), some (.ref kd), some (.int ((mx (splitN (best G W m) near far ++ (splitF (best G W m) near far).take i) : Nat) : Int)), some (.ref d), z8, z9, z10, z11, z12, z13]) ?_ (fun i σ H' _ h => .inl (.inl h.1.2.2.1)) (fun i x σ H3 H' hi h y => ?_) (fun σ H' h => ?_)
        · exact ⟨⟨b02, nd_same nd0 s2, epl, lp⟩, z8, z9, z10, z11, z12, z13, by rw [List.take_zero, List.append_nil]⟩
        · obtain ⟨⟨b1, nd2, ep2, lp2⟩, z8, z9, z10, z11, z12, z13, rfl⟩ := h
          obtain ⟨rfl, rfl⟩ := y
          obtain ⟨u, hu⟩ : ∃ u, ys[i]? = some u := ⟨ys[i], List.getElem?_eq_getElem hi⟩
          obtain ⟨p, hp, tp, rfl, etp⟩ := paired_get lp2 hu
          have eu : ys.getD i .non = .ref tp := by rw [List.getD_eq_getElem?_getD, hu]; rfl
          rw [eu]
          have psub := mem_lots.mp (List.mem_of_getElem? hp)
          have hB : (splitF (best G W m) near far)[i]? = some (best G W m near p + best G W m near (far.filter fun x => !p.contains x)) := by
            unfold splitF
            rw [List.getElem?_map, hp]
            rfl
          have hn3 := (bsq b1).tup _ _ hn
          have hf3 := (bsq b1).tup _ _ hf
          -- the rest
          refine ⟨_, rfl, f, rfl, ⟨_, .inl (.inl hf3)⟩, fun D hD => ?_⟩
          refine lc_gen walk_tpl (fun j => !p.contains (far.getD j 0)) (fun j y _ => y = .int ((far.getD j 0 : Nat) : Int)) hD (by rw [nI_len]; omega) (fun H' s => .inl (.inl (s _ _ hf3))) (fun _ _ _ _ h _ => h) (fun j H4 hj s4 Q' q' => ?_) (fun j H4 hj hb s4 Q' q' => ?_) fun zs H4 s4 eD pz => ?_
          · obtain ⟨x, hx, ex⟩ := nI_at hj
            have egd : far.getD j 0 = x := by rw [List.getD_eq_getElem?_getD, hx]; rfl
            rw [ex]
            refine ⟨_, rfl, _, rfl, tp, nI p, rfl, .inr (.inl (.inl (s4 _ _ etp))), rfl, flat_nI p, _, rfl, ?_⟩
            have e := q' _ (Same.refl H4)
            rw [egd, ← inV_nat] at e
            exact e
          · obtain ⟨x, hx, ex⟩ := nI_at hj
            have egd : far.getD j 0 = x := by rw [List.getD_eq_getElem?_getD, hx]; rfl
            rw [ex]
            exact ⟨_, rfl, q' _ _ (Same.refl _) (by rw [egd])⟩
          · have ez : zs = nI (far.filter fun x => !p.contains x) := by
              rw [paired_eq pz, nI_len, ← filter_ix far]
              unfold nI
              rw [List.map_map]
              rfl
            subst ez
            refine .inl ⟨D, _, rfl, .inl (.inl eD), fun tr ntr => ?_⟩
            have s5 := s4.trans (L2.Same.new (o := .tup (nI (far.filter fun x => !p.contains x))) ntr)
            have b5 := b1.trans (But.of s5)
            -- the near part
            refine ⟨_, rfl, _, rfl, _, rfl, _, _, rfl, rfl, _, rfl, _, rfl, _, rfl, l, v, wv, m, n, tp, kd, G, W, R, C, near, p, ?_, Lines.seqs (bsq b5) hg, hsh, hw.seqs (bsq b5), hshW, r4, c4, Nat.le_refl _, s5 _ _ hn3, s5 _ _ etp, sn, psub.trans sf, nd_same nd2 s5, fun H6 b6 nd6 => ?_⟩
            · show [v, wv, V.int (((m + 1 : Nat) : Int) - 1), _, _, _] = _
              rw [em1]
            have b56 := b5.trans b6
            have sq6 := b6.seqs (nd_same nd2 s5).some
            refine ⟨_, rfl, _, rfl, _, rfl, _, rfl, _, rfl, _, _, rfl, rfl, _, rfl, _, rfl, _, rfl, l, v, wv, m, n, tr, kd, G, W, R, C, near, far.filter (fun x => !p.contains x), ?_, Lines.seqs (bsq b56) hg, hsh, hw.seqs (bsq b56), hshW, r4, c4, Nat.le_refl _, sq6.tup _ _ (s5 _ _ hn3), sq6.tup _ _ upd_same, sn, List.filter_sublist.trans sf, nd6, fun H7 b7 nd7 => ?_⟩
            · show [v, wv, V.int (((m + 1 : Nat) : Int) - 1), _, _, _] = _
              rw [em1]
            have sq7 := sq6.trans (b7.seqs nd6.some)
            refine ⟨_, _, rfl, rfl, _, _, rfl, ⟨b56.trans b7, nd7, sq7.lst _ _ (s5 _ _ ep2), (lp2.same s5).seqs sq7⟩, z8, z9, z10, some (.ref tp), some (.ref tr), some (.int ((best G W m near p : Nat) : Int)), ?_⟩
            show [some v, some wv, _, _, _, _, some (V.int (if ((best G W m near p : Nat) : Int) + ((best G W m near (far.filter fun x => !p.contains x) : Nat) : Int) > ((mx (splitN (best G W m) near far ++ (splitF (best G W m) near far).take i) : Nat) : Int) then _ else _)), _, _, _, _, _, _, _] = _
            rw [← Int.natCast_add (best G W m near p), max_step hB]
        · obtain ⟨⟨b9, nd9, ep9, lp9⟩, z8, z9, z10, z11, z12, z13, rfl⟩ := h
          rw [yl, show (lots far).length = (splitF (best G W m) near far).length by unfold splitF; rw [List.length_map], List.take_length]
          have eb : mx (splitN (best G W m) near far ++ splitF (best G W m) near far) = best G W (m + 1) near far := rfl
          rw [eb]
          refine ⟨_, rfl, _, rfl, _, rfl, _, rfl, _, rfl, sz (by show 3 ≤ _; omega), fun t3 nt3 => ?_⟩
          have s7 := L2.Same.new (o := .tup [V.int ((m + 1 : Nat) : Int), .ref n, .ref f]) nt3
          refine ⟨t3, kd, (m + 1, near, far), _, rfl, rfl, rfl, ⟨n, f, upd_same, s7 _ _ ((bsq b9).tup _ _ hn), s7 _ _ ((bsq b9).tup _ _ hf)⟩, nd_same nd9 s7, ⟨hm, in_lots4 sn r4, in_lots4 sf c4, rfl⟩, gd_dom, fun H5 h5 nd5 => ?_⟩
          exact ⟨_, rfl, q _ (b9.trans ((But.of s7).trans fun b o hb hne => by rw [h5 b hne]; exact hb)) nd5⟩
theorem ok_LBest {f : Addr} {fd : FuncData} (F : FnAt K mg "_law_best" sLBest ["_law_told_grid", "_law_weights_so", "_law_most", "_law_near", "_law_far", "_law_known"] f fd) (T : Txt K mg)
    {fLLots : Addr} {dLLots : FuncData} (F_LLots : FnAt K mg "_law_lots" sLLots ["_law_some"] fLLots dLLots) (G_LLots : FnOk P w K mg base CX0 1 fLLots dLLots ["_law_some"] (spLLots K)) :
    FnOk P w K mg base CX0 12 f fd ["_law_told_grid", "_law_weights_so", "_law_most", "_law_near", "_law_far", "_law_known"] (spLBest P w K 2) := by
  have up : ∀ {j m : Nat}, 1 ≤ j → m + 1 ≤ 2 → FnOk P w K mg base CX0 j f fd ["_law_told_grid", "_law_weights_so", "_law_most", "_law_near", "_law_far", "_law_known"] (spLBest P w K m) → FnOk P w K mg base CX0 (j + 1) f fd ["_law_told_grid", "_law_weights_so", "_law_most", "_law_near", "_law_far", "_law_known"] (spLBest P w K (m + 1)) := by
    intro j m hj hm h
    refine FnOk_or (h.mono (Nat.le_succ j)) (ok_LBestE hj hm F T F_LLots G_LLots h) fun vs H Q E q => ?_
    obtain ⟨l, v, wv, k, n, f, kd, G, W, R, C, near, far, e, hg, hsh, hw, hshW, r4, c4, hk, q⟩ := q
    rcases Nat.lt_or_ge m k with hlt | hge
    · have ek : k = m + 1 := by omega
      subst ek
      exact .inr ⟨l, v, wv, n, f, kd, G, W, R, C, near, far, e, hg, hsh, hw, hshW, r4, c4, q⟩
    · exact .inl ⟨l, v, wv, k, n, f, kd, G, W, R, C, near, far, e, hg, hsh, hw, hshW, r4, c4, hge, q⟩
  exact up (by decide) (by decide) (up (by decide) (by decide) (ok_LBest0 F T))
end
end My
set_option Elab.async false
set_option linter.all false
set_option maxRecDepth 100000
set_option maxHeartbeats 2000000
/-! _law_weight_of, _law_like -/
namespace My
open PySem PySem.Spec PyProof.Rows L2 Bs
theorem dps_nI {K : PySem.W.Frag} {H : Hp} : ∀ {l : List Nat} {xs : List V}, DpAll K H xs (l.map fun (n : Nat) => PyData.int (n : Int)) → xs = nI l
  | [], _, h => by
    cases h
    rfl
  | n :: l, _, h => by
    rw [List.map_cons] at h
    cases h with
    | cons h1 h2 =>
      cases h1
      rw [dps_nI h2]
      rfl
theorem dp_four {K : PySem.W.Frag} {H : Hp} {v : V} {x : Str} {l : List Nat} {d e : PyData} (h : Dp K H v (.tuple [.str x, lotD l, d, e])) : ∃ a b u w, v = .ref a ∧ SqT K H a [.str x, .ref b, u, w] ∧ SqT K H b (nI l) ∧ Dp K H u d ∧ Dp K H w e := by
  cases h with
  | tup hs ha =>
    cases ha with
    | cons h1 ha =>
      cases ha with
      | cons h2 ha =>
        cases ha with
        | cons h3 ha =>
          cases ha with
          | cons h4 ha =>
            cases ha
            cases h1
            unfold lotD at h2
            cases h2 with
            | tup hs2 ha2 =>
              have := dps_nI ha2
              subst this
              exact ⟨_, _, _, _, rfl, hs, hs2, h3, h4⟩
theorem wt_range_succ {G W : List (List Nat)} {t : Tk} {i : Nat} {far : List Nat} : wt G W t (List.range (i + 1)) far = wt G W t (List.range i) far + (far.map fun c => hit G W t i c).sum := by
  unfold wt dsum
  rw [List.range_succ, List.map_append, List.sum_append]
  simp
theorem map_range_succ (f : Nat → Nat) (j : Nat) : ((List.range (j + 1)).map f).sum = ((List.range j).map f).sum + f j := by
  rw [List.range_succ, List.map_append, List.sum_append]
  simp
section
variable {P : Program} {w : World} {K : PySem.W.Frag} {mg : Str → Option Value} {base : Heap}
/-! ### _law_weight_of -/
abbrev sLWeightOf : Stmt := topS 46
abbrev nLWeightOf : List Str := ["_law_told_grid", "_law_weights_so", "_law_most", "_law_told_so", "_law_found", "_law_line", "_law_spot", "_law_here", "_law_step"]
theorem scLWeightOf : FnScope nLWeightOf ["_law_told_grid", "_law_weights_so", "_law_most", "_law_told_so"] (defScope sLWeightOf) := ⟨rfl, rfl, rfl, by decide +kernel, rfl, by decide +kernel, by decide +kernel⟩
def spLWeightOf (K : PySem.W.Frag) : Sp := fun vs H Q _ => ∃ (l : Addr) (v wv sv : V) (k : Nat) (G W : List (List Nat)) (R C : Nat) (t : Tk), vs = [v, wv, .int (k : Int), sv] ∧ GridAt K H v G ∧ Shape G R C ∧ 1 ≤ R ∧ R ≤ 4 ∧ 1 ≤ C ∧ C ≤ 4 ∧ WAt l H wv W ∧ Shape W R C ∧ k ≤ 2 ∧ Dp K H sv (tkD t) ∧ t.dep ≤ k ∧
  Q (.int ((wt G W t (List.range R) (List.range C) : Nat) : Int)) H
theorem ok_LWeightOf {f : Addr} {fd : FuncData} (F : FnAt K mg "_law_weight_of" sLWeightOf ["_law_told_grid", "_law_weights_so", "_law_most", "_law_told_so"] f fd) (T : Txt K mg) : FnOk P w K mg base CX0 1 f fd ["_law_told_grid", "_law_weights_so", "_law_most", "_law_told_so"] (spLWeightOf K) := by
  refine F.at_.ok scLWeightOf (fun vs H Q E h => ?_) (fun cdv A outer s H vs Q E hr h => ?_)
  · obtain ⟨l, v, wv, sv, k, G, W, R, C, t, rfl, _⟩ := h
    rfl
  · obtain ⟨l, v, wv, sv, k, G, W, R, C, t, rfl, hg, hsh, r1, r4, c1, c4, hw, hshW, k2, ht, hd, q⟩ := h
    refine ⟨_, (pss_cons (ps_set (i := 4) scLWeightOf.nd rfl (Or.inl rfl) pe_int)
      (pss_cons (ps_for PassesOwn.never rfl (pi_range1 (by rfl) T.range (pa_cons (pe_callB (c_lenK K) (by rfl) T.len bt_len (pa_cons (pv 0) pa_nil)) pa_nil)) (pg_name (i := 5) scLWeightOf.nd rfl (Or.inl rfl)) 
          (pss_one (ps_for PassesOwn.never rfl (pi_range1 (by rfl) T.range (pa_cons (pe_callB (c_lenK K) (by rfl) T.len bt_len (pa_cons (pe_ix (ix_tK K) (pv 0) pe_int (fun _ _ => rfl)) pa_nil)) pa_nil)) (pg_name (i := 6) scLWeightOf.nd rfl (Or.inl rfl)) 
              (pss_cons (ps_set (i := 7) scLWeightOf.nd rfl (Or.inl rfl) (pv 3))
              (pss_cons (ps_for PassesOwn.never rfl (pi_range1 (by rfl) T.range (pa_cons (pv 2) pa_nil)) (pg_name (i := 8) scLWeightOf.nd rfl (Or.inl rfl)) 
                  (pss_one (ps_if (pt_not (pt_val (pe_callB (c_isiK K) (by rfl) T.isi bt_isinstance (pa_cons (pv 7) (pa_cons (pe_bltn (v := .ty "int") (by rfl) T.int bt_int rfl) pa_nil))))) 
                      (pss_one (ps_set (i := 7) scLWeightOf.nd rfl (Or.inl rfl) (pe_ifExp (pt_cmpR (op_inK K) (pe_ifExp (pt_cmpR op_eq (pe_ix (ix_tK K) (pv 7) pe_int (fun _ _ => rfl)) pe_str (nomark _)) (pv 5) (pv 6)) (pe_ix (ix_tK K) (pv 7) pe_int (fun _ _ => rfl)) (by rfl)) (pe_ix (ix_tK K) (pv 7) pe_int (fun _ _ => rfl)) (pe_ix (ix_tK K) (pv 7) pe_int (fun _ _ => rfl))))) pss_nil)))
              (pss_cons (ps_if (pt_not (pt_val (pe_callB (c_isiK K) (by rfl) T.isi bt_isinstance (pa_cons (pv 7) (pa_cons (pe_bltn (v := .ty "int") (by rfl) T.int bt_int rfl) pa_nil))))) 
                  (pss_one (ps_ret pe_non)) pss_nil)
              (pss_one (ps_if (pt_cmpR op_eq (pv 7) (pe_ix (ix_tK K) (pe_ix (ix_tK K) (pv 0) (pv 5) (fun _ _ => rfl)) (pv 6) (fun _ _ => rfl)) (nomark _)) 
                  (pss_one (ps_set (i := 4) scLWeightOf.nd rfl (Or.inl rfl) (pe_op op_add (pv 4) (pe_ix (ix_lK K) (pe_ix (ix_lK K) (pv 1) (pv 5) (fun _ _ => rfl)) (pv 6) (fun _ _ => rfl))))) pss_nil))))))))
      (pss_one (ps_ret (pv 4))))), ?_⟩
    obtain ⟨a, rs, rfl, ha, hl, hrow⟩ := lines_get hg
    rw [List.length_map, hsh.1] at hl
    obtain ⟨rz, hrz⟩ : ∃ r, rs[0]? = some r := ⟨rs[0]'(by omega), List.getElem?_eq_getElem _⟩
    obtain ⟨l0, b0, hl0, rfl, hb0⟩ := hrow 0 rz hrz
    obtain ⟨g0, hg0, rfl⟩ := map_get hl0
    have hg0C := hsh.2 g0 (List.mem_of_getElem? hg0)
    refine ⟨_, rfl, a, rs, rfl, .inr ha, (rs.length : Int), rfl, by omega, by omega, ?_⟩
    show ∃ W : Nat → Nat → L2.St → Hp → Prop, _
    rw [Int.toNat_natCast, hl]
    refine for_it walk_rng (fun i σ H' => H = H' ∧ ∃ z5 z6 z7 z8, σ = [some (.ref a), some wv, some (.int (k : Int)), some sv, some (.int ((wt G W t (List.range i) (List.range C) : Nat) : Int)), z5, z6, z7, z8]) ?_ (fun _ _ _ _ _ => trivial) (fun i x σ H2 H' hi h y => ?_) (fun σ H' h => ?_)
    · exact ⟨rfl, none, none, none, none, rfl⟩
    · obtain ⟨rfl, rfl⟩ := y
      obtain ⟨rfl, z5, z6, z7, z8, rfl⟩ := h
      rw [show (0 : Int) + (i : Int) = (i : Int) by omega]
      refine ⟨_, rfl, a, rs, _, _, rfl, rfl, ha, ge0 hrz, b0, _, rfl, .inr (.inl (.inl hb0)), ((nI g0).length : Int), rfl, by rw [nI_len]; omega, by rw [nI_len]; omega, ?_⟩
      show ∃ W : Nat → Nat → L2.St → Hp → Prop, _
      rw [Int.toNat_natCast, nI_len, hg0C]
      refine for_it walk_rng (fun j σ H' => H = H' ∧ ∃ z6 z7 z8, σ = [some (.ref a), some wv, some (.int (k : Int)), some sv, some (.int ((wt G W t (List.range i) (List.range C) + ((List.range j).map fun c => hit G W t i c).sum : Nat) : Int)), some (.int (i : Int)), z6, z7, z8]) ?_ (fun _ _ _ _ _ => trivial) (fun j x σ H2 H' hj h y => ?_) (fun σ H' h => ?_)
      · exact ⟨rfl, z6, z7, z8, rfl⟩
      · obtain ⟨rfl, rfl⟩ := y
        obtain ⟨rfl, z6, z7, z8, rfl⟩ := h
        rw [show (0 : Int) + (j : Int) = (j : Int) by omega]
        refine ⟨_, rfl, _, rfl, (k : Int), rfl, by omega, by omega, ?_⟩
        show ∃ W : Nat → Nat → L2.St → Hp → Prop, _
        rw [Int.toNat_natCast]
        refine for_it walk_rng (fun s σ H' => H = H' ∧ ∃ hv t' z8, σ = [some (.ref a), some wv, some (.int (k : Int)), some sv, some (.int ((wt G W t (List.range i) (List.range C) + ((List.range j).map fun c => hit G W t i c).sum : Nat) : Int)), some (.int (i : Int)), some (.int (j : Int)), some hv, z8] ∧ Dp K H hv (tkD t') ∧ t'.dep + s ≤ max k s ∧ t'.tell i j = t.tell i j) ?_ (fun _ _ _ _ _ => trivial) (fun s x σ H2 H' hs h y => ?_) (fun σ H' h => ?_)
        · exact ⟨rfl, sv, t, z8, rfl, ht, by omega, rfl⟩
        · obtain ⟨rfl, rfl⟩ := y
          obtain ⟨rfl, hv, t', z8, rfl, hdp, hdep, htell⟩ := h
          cases t' with
          | fin m =>
            cases hdp
            refine ⟨_, rfl, _, _, _, _, true, rfl, .ty _, .base (.int _), kII, true, rfl, iteF ⟨rfl, _, .fin m, _, rfl, .int _, ?_, htell⟩⟩
            simp only [Tk.dep]
            omega
          | row lr t1 t2 =>
            obtain ⟨b, bl, u1, u2, rfl, hb, hbl, d1, d2⟩ := dp_four hdp
            have hdep' := dep_row (t := t1) (u := t2) (l := lr) (k := k - s - 1) (by omega)
            refine ⟨_, rfl, _, _, _, _, false, rfl, .ty _, ty_tup hb, kTI, false, rfl, iteT ?_⟩
            refine ⟨_, rfl, b, _, _, _, rfl, rfl, hb, rfl, rfl, _, rfl, ite2 (fun _ => ?_) (fun hne => absurd (decide_eq_true rfl) hne)⟩
            refine ⟨_, rfl, _, rfl, b, _, _, _, rfl, rfl, hb, rfl, bl, nI lr, rfl, .inr hbl, rfl, flat_nI lr, _, rfl, ite2 (fun hin => ?_) (fun hin => ?_)⟩
            · have hin : lr.contains i = true := (inV_nat (x := i) (p := lr)).symm.trans hin
              refine ⟨_, rfl, b, _, _, _, rfl, rfl, hb, rfl, rfl, _, t1, _, rfl, d1, ?_, ?_⟩
              · omega
              · rw [← htell, Tk.tell, if_pos hin]
            · have hin : lr.contains i = false := by
                rw [← inV_nat (x := i) (p := lr)]
                exact Bool.eq_false_iff.mpr hin
              refine ⟨_, rfl, b, _, _, _, rfl, rfl, hb, rfl, rfl, _, t2, _, rfl, d2, ?_, ?_⟩
              · omega
              · rw [← htell, Tk.tell, hin]
                rfl
          | col lr t1 t2 =>
            obtain ⟨b, bl, u1, u2, rfl, hb, hbl, d1, d2⟩ := dp_four hdp
            have hdep' := dep_col (t := t1) (u := t2) (l := lr) (k := k - s - 1) (by omega)
            refine ⟨_, rfl, _, _, _, _, false, rfl, .ty _, ty_tup hb, kTI, false, rfl, iteT ?_⟩
            refine ⟨_, rfl, b, _, _, _, rfl, rfl, hb, rfl, rfl, _, rfl, ite2 (fun heq => ?_) (fun _ => ?_)⟩
            · have h1 : V.str "column" = V.str "row" := of_decide_eq_true heq
              injection h1 with h1
              exact absurd h1 (by decide)
            refine ⟨_, rfl, _, rfl, b, _, _, _, rfl, rfl, hb, rfl, bl, nI lr, rfl, .inr hbl, rfl, flat_nI lr, _, rfl, ite2 (fun hin => ?_) (fun hin => ?_)⟩
            · have hin : lr.contains j = true := (inV_nat (x := j) (p := lr)).symm.trans hin
              refine ⟨_, rfl, b, _, _, _, rfl, rfl, hb, rfl, rfl, _, t1, _, rfl, d1, ?_, ?_⟩
              · omega
              · rw [← htell, Tk.tell, if_pos hin]
            · have hin : lr.contains j = false := by
                rw [← inV_nat (x := j) (p := lr)]
                exact Bool.eq_false_iff.mpr hin
              refine ⟨_, rfl, b, _, _, _, rfl, rfl, hb, rfl, rfl, _, t2, _, rfl, d2, ?_, ?_⟩
              · omega
              · rw [← htell, Tk.tell, hin]
                rfl
        · obtain ⟨rfl, hv, t', z8, rfl, hdp, hdep, htell⟩ := h
          cases t' with
          | row lr t1 t2 =>
            simp only [Tk.dep] at hdep
            omega
          | col lr t1 t2 =>
            simp only [Tk.dep] at hdep
            omega
          | fin m =>
            cases hdp
            refine ⟨_, rfl, _, _, _, _, true, rfl, .ty _, .base (.int _), kII, true, rfl, iteF ?_⟩
            have hm : m = t.tell i j := htell
            obtain ⟨gb, gl, e1, e2, e3⟩ := grid_cell hsh hrow hl hi hj
            obtain ⟨wa, wrs, wb, ws, rfl, w1, w2, w3, w4⟩ := w_cell hw hshW hi hj
            refine ⟨_, rfl, _, rfl, _, rfl, a, rs, _, _, rfl, rfl, ha, atI_nat e1, _, rfl, gb, _, _, _, rfl, rfl, .inl (.inl e2), atI_nat e3, rfl, _, rfl, ite2 (fun heq => ?_) (fun hne => ?_)⟩
            · have h1 : V.int (m : Int) = V.int (gat G i j : Int) := of_decide_eq_true heq
              injection h1 with h1
              have h1 : t.tell i j = gat G i j := by omega
              refine ⟨_, rfl, _, rfl, _, rfl, wa, wrs, _, _, rfl, rfl, .inl (.inl w1), atI_nat w2, _, rfl, wb, _, _, _, rfl, rfl, .inl (.inl w3), atI_nat w4, _, _, rfl, rfl, rfl, some (.int (j : Int)), some (.int (m : Int)), z8, ?_⟩
              rw [map_range_succ, show hit G W t i j = gat W i j from if_pos h1, ← Nat.add_assoc, Int.natCast_add _ (gat W i j)]
              rfl
            · have h1 : ¬ t.tell i j = gat G i j := fun e => hne (decide_eq_true (by rw [hm, e]))
              refine ⟨rfl, some (.int (j : Int)), some (.int (m : Int)), z8, ?_⟩
              rw [map_range_succ, show hit G W t i j = 0 from if_neg h1, Nat.add_zero]
      · obtain ⟨rfl, z6, z7, z8, rfl⟩ := h
        refine ⟨rfl, some (.int (i : Int)), z6, z7, z8, ?_⟩
        rw [wt_range_succ]
    · obtain ⟨rfl, z5, z6, z7, z8, rfl⟩ := h
      exact ⟨_, rfl, q⟩
/-! ### _law_like -/
abbrev sLLike : Stmt := topS 47
abbrev nLLike : List Str := ["_law_got", "_law_due"]
theorem scLLike : FnScope nLLike ["_law_got", "_law_due"] (defScope sLLike) := ⟨rfl, rfl, rfl, by decide +kernel, rfl, by decide +kernel, by decide +kernel⟩
def spLLike (K : PySem.W.Frag) : Sp := fun vs H Q _ => ∃ (x y : V) (d : PyData), vs = [x, y] ∧ Dp K H x d ∧ Dp K H y d ∧ Shows d ∧ Q (.bl true) H
theorem ok_LLike {f : Addr} {fd : FuncData} (F : FnAt K mg "_law_like" sLLike ["_law_got", "_law_due"] f fd) (T : Txt K mg) : FnG P w K mg base 1 f fd ["_law_got", "_law_due"] (spLLike K) := by
  refine Fun.okG F.at_ scLLike (fun vs H Q E h => ?_) (fun cdv A outer s H vs Q E hgd hr h => ?_)
  · obtain ⟨x, y, d, rfl, _⟩ := h
    rfl
  · obtain ⟨x, y, d, rfl, hx, hy, hs, q⟩ := h
    refine ⟨_, (pss_one (ps_ret (pe_cmpR op_eq (pe_callB (call_reprD hgd hr.units) (by rfl) T.repr bt_repr (pa_cons (pv 0) pa_nil)) (pe_callB (call_reprD hgd hr.units) (by rfl) T.repr bt_repr (pa_cons (pv 1) pa_nil)) (nomark _)))), ?_⟩
    refine ⟨_, rfl, x, d, rfl, hx, hs, _, rfl, y, d, rfl, hy, hs, rfl, ?_⟩
    have e : decide (V.str d.shown = V.str d.shown) = true := decide_eq_true rfl
    show Q (.bl (decide (V.str d.shown = V.str d.shown))) H
    rw [e]
    exact q
end
end My
set_option Elab.async false
set_option linter.all false
set_option maxRecDepth 100000
set_option maxHeartbeats 2000000
/-! rules and facts for _law_right -/
namespace My
open PySem PySem.Spec PyProof.Rows L2 Bs
section
variable {X : Cx} {x : Str} {p pos : Pos}
theorem pe_clG {st : Stmt} {ps : List Str} {f : Addr} {fd : FuncData} {k : Nat} {sp : Sp} {e : Expr} {es : List Expr} {t : TA} (F : FnAt X.K X.mg x st ps f fd) (G : FnG X.prog X.w X.K X.mg X.base k f fd ps sp) (hgd : X.A.guards = some []) (hr : Room k X.A) (ha : PA X (e :: es) t) (hg : Gl X x := by rfl)
    (hdb : (x == ("__debug__" : Str)) = false := by decide) (he : starEach (e :: es) X.env = (false, eval e X.env) :: starEach es X.env := by rfl) (hpl : (backTo pos (starEach es X.env)).any (·.1) = false := by rfl) :
    PE X (.Call (.Name x p) (e :: es) [] pos) (tCall sp [] E0 t) := pe_callG G hgd hr hg F.mg_ F.at_.kp F.b_ ha hdb he hpl
/-- {} for such keys, whatever is to be good -/
def tNNewA (P : Program) (w : World) : TE := fun _ H Q => ∀ p H', H p = none → (∀ b, b ≠ p → H' b = H b) → (∀ Good, ND P w Good H' p) → Q (.ref p) H'
theorem pe_nnewA : PE X (.Dict [] [] pos) (tNNewA X.prog X.w) := by
  refine ⟨fun pins s σ H Q I h => wpAny_Dict_empty ?_⟩
  have hn : H s.heap.objs.size = none := I.hok.fresh (Nat.le_refl _)
  have raw : RawD X.prog X.w s.heap.objs.size [] (s.heap.push { cls := .type "dict", data := .dict #[] }) :=
    ⟨_, #[], 0, Heap.get?_push_size _ rfl, ⟨rfl, rfl, rfl⟩, rfl, rfl, List.nodup_nil⟩
  have I1 := I.laid (a := s.heap.objs.size) (o := .ext (RawD X.prog X.w s.heap.objs.size [])) (t' := s.toks) (fun _ _ q => Heap.get?_push_of_some _ q) (Nat.le_refl _) (raw_ok raw)
  refine ⟨.ref s.heap.objs.size, _, I1, rfl, h _ _ hn (fun b hb => upd_ne hb) fun Good => ⟨[], ?_, upd_same, fun x hx => nomatch hx⟩⟩
  have := I.big
  exact beq_false_of_ne (Nat.ne_of_gt this)
end
/-- a comprehension over pairs -/
theorem lc_zip {K : PySem.W.Frag} {J : It} {n : Nat} {G : Hp → Prop} {xs ys : Nat → Option V} (wk : Walk J n G (YPair xs ys)) {j1 j2 : Nat} {te : TE} {vs : List Nat} {σ : L2.St} {H1 : Hp} {D : Addr} {Qd : Hp → Prop}
    (R : Nat → V → Hp → Prop) (hD : H1 D = none) (hn : n ≤ 1000000) (hG : ∀ H', Same H1 H' → G H') (hR : ∀ i y H H', R i y H → But D H H' → R i y H')
    (he : ∀ i H' x y, i < n → xs i = some x → ys i = some y → Same H1 H' → (∃ acc, H' D = some (.lst acc)) → ∀ Q' : V → Hp → Prop, (∀ z H3, Same H' H3 → R i z H3 → Q' z H3) → te (((wipe σ vs).set j1 (some x)).set j2 (some y)) H' Q')
    (hd : ∀ zs H', Same H1 H' → H' D = some (.lst zs) → Paired (fun i y => R i y H') (List.range n) zs → Qd H')
    (hw : ∀ x y : Option V, wipe (((wipe σ vs).set j1 x).set j2 y) vs = wipe σ vs := by intro _ _; rfl) :
    ∃ W : Nat → Nat → Hp → Prop, (∃ m, W 0 m (upd H1 D (.lst []))) ∧ ∀ i m H, W i m H →
      (J.stop i H ∧ Qd H) ∨ (J.go i H ∧ ∃ Nx : Hp → Prop, (∀ H', Nx H' → ∃ m', m' < m ∧ W (i + 1) m' H') ∧ ∀ x H', J.yld i H x H' → (gTup K 2 (gCons (gName j1) (gCons (gName j2) gNil))) x (wipe σ vs) H' fun σ2 H2 => wipe σ2 vs = wipe σ vs ∧ tYes σ2 H2 fun b H3 =>
        if b = true then te σ2 H3 fun y H4 => ∃ acc, H4 D = some (.lst acc) ∧ acc.length < sizeLine ∧ Nx (upd H4 D (.lst (acc ++ [y]))) else Nx H3) := by
  refine lc_it wk (fun i H' => Same H1 H' ∧ ∃ zs, H' D = some (.lst zs) ∧ Paired (fun i y => R i y H') (List.range i) zs) ⟨(But.upd (D := D)).same hD, [], upd_same, .nil⟩ (fun i H' _ p => hG H' p.1) (fun i v H2 H' hi p y => ?_) fun H' p => ?_
  · obtain ⟨sm, zs, eD, pr⟩ := p
    obtain ⟨t, x, y, rfl, nt, rfl, hx, hy⟩ := y
    have sn := L2.Same.new (o := .tup [x, y]) nt
    refine ⟨t, _, rfl, .inl (.inl upd_same), rfl, _, _, rfl, _, _, rfl, rfl, hw _ _, ?_⟩
    show te _ _ _
    refine he i _ x y hi hx hy (sm.trans sn) ⟨_, sn _ _ eD⟩ _ fun z H4 s4 r => ?_
    have s24 := sn.trans s4
    have eD4 := s24 _ _ eD
    refine ⟨zs, eD4, ?_, ((But.of (sm.trans s24)).trans (But.upd (D := D))).same hD, zs ++ [z], upd_same, ?_⟩
    · have h1 : zs.length = (List.range i).length := (Paired.length pr).symm
      rw [List.length_range] at h1
      exact szl (by omega)
    · rw [List.range_succ]
      exact paired_append (Paired.mapP pr fun i y h => hR i y _ _ h ((But.of s24).trans But.upd)) (.cons (hR i z _ _ r But.upd) .nil)
  · obtain ⟨sm, zs, eD, pr⟩ := p
    exact hd zs H' sm eD pr
/-! ### the sum of two weights -/
def addW (W1 W2 : List (List Nat)) : List (List Nat) := List.zipWith (List.zipWith (· + ·)) W1 W2
theorem gat_out {W : List (List Nat)} {R C r c : Nat} (h : Shape W R C) (ho : R ≤ r ∨ C ≤ c) : gat W r c = 0 := by
  unfold gat
  rcases Nat.lt_or_ge r W.length with hr | hr
  · have e := List.getElem?_eq_getElem hr
    have hc : C ≤ c := by
      rcases ho with ho | ho
      · have := h.1
        omega
      · exact ho
    have hl := h.2 _ (List.mem_of_getElem? e)
    rw [List.getD_eq_getElem?_getD, List.getD_eq_getElem?_getD (l := W), e]
    show (W[r][c]?).getD 0 = 0
    rw [List.getElem?_eq_none (by omega)]
    rfl
  · rw [List.getD_eq_getElem?_getD (l := W), List.getElem?_eq_none hr]
    rfl
theorem add_shape {W1 W2 : List (List Nat)} {R C : Nat} (h1 : Shape W1 R C) (h2 : Shape W2 R C) : Shape (addW W1 W2) R C := by
  refine ⟨?_, fun l hl => ?_⟩
  · unfold addW
    rw [List.length_zipWith, h1.1, h2.1, Nat.min_self]
  · unfold addW at hl
    obtain ⟨i, hi, rfl⟩ := List.mem_iff_getElem.mp hl
    rw [List.getElem_zipWith, List.length_zipWith, h1.2 _ (List.getElem_mem _), h2.2 _ (List.getElem_mem _), Nat.min_self]
theorem add_get {W1 W2 : List (List Nat)} {i : Nat} {l1 l2 : List Nat} (h1 : W1[i]? = some l1) (h2 : W2[i]? = some l2) : (addW W1 W2)[i]? = some (List.zipWith (· + ·) l1 l2) := by
  unfold addW
  rw [List.getElem?_zipWith, h1, h2]
theorem add_gat {W1 W2 : List (List Nat)} {R C : Nat} (h1 : Shape W1 R C) (h2 : Shape W2 R C) (r c : Nat) : gat (addW W1 W2) r c = gat W1 r c + gat W2 r c := by
  by_cases hr : r < R ∧ c < C
  · obtain ⟨l1, e1, e2⟩ := shape_get h1 hr.1 hr.2
    obtain ⟨l2, e3, e4⟩ := shape_get h2 hr.1 hr.2
    refine gat_get (add_get e1 e3) ?_
    rw [List.getElem?_zipWith, e2, e4]
  · have ho : R ≤ r ∨ C ≤ c := by omega
    rw [gat_out h1 ho, gat_out h2 ho, gat_out (add_shape h1 h2) ho]
theorem zip_sum : ∀ {l m : List Nat}, l.length = m.length → (List.zipWith (· + ·) l m).sum = l.sum + m.sum
  | [], [], _ => rfl
  | [], _ :: _, h => by simp at h
  | _ :: _, [], h => by simp at h
  | a :: l, b :: m, h => by
    rw [List.zipWith_cons_cons, List.sum_cons, List.sum_cons, List.sum_cons, zip_sum (by simpa using h)]
    omega
theorem add_sum : ∀ {W1 W2 : List (List Nat)} {R C : Nat}, Shape W1 R C → Shape W2 R C → (addW W1 W2).flatten.sum = W1.flatten.sum + W2.flatten.sum
  | [], [], _, _, _, _ => rfl
  | [], _ :: _, _, _, h1, h2 => by
    have a := h1.1
    have b := h2.1
    simp at a b
    omega
  | _ :: _, [], _, _, h1, h2 => by
    have a := h1.1
    have b := h2.1
    simp at a b
    omega
  | l :: W1, m :: W2, R, C, h1, h2 => by
    have a := h1.1
    have b := h2.1
    simp only [List.length_cons] at a b
    have ih := add_sum (W1 := W1) (W2 := W2) (R := W1.length) (C := C) ⟨rfl, fun x hx => h1.2 x (List.mem_cons_of_mem _ hx)⟩ ⟨by omega, fun x hx => h2.2 x (List.mem_cons_of_mem _ hx)⟩
    have e : addW (l :: W1) (m :: W2) = List.zipWith (· + ·) l m :: addW W1 W2 := rfl
    rw [e, List.flatten_cons, List.sum_append, ih, zip_sum (by rw [h1.2 l List.mem_cons_self, h2.2 m List.mem_cons_self]), List.flatten_cons, List.sum_append, List.flatten_cons, List.sum_append]
    omega
/-! ### bounds -/
theorem map_sum_le_mul {b : Nat} (f : Nat → Nat) (h : ∀ x, f x ≤ b) : ∀ l : List Nat, (l.map f).sum ≤ l.length * b
  | [] => by simp
  | x :: l => by
    have ih := map_sum_le_mul f h l
    have := h x
    rw [List.map_cons, List.sum_cons, List.length_cons, Nat.add_mul, Nat.one_mul]
    omega
theorem wt_bound {G W : List (List Nat)} {b : Nat} (h : ∀ r c, gat W r c ≤ b) (s : Tk) (near far : List Nat) : wt G W s near far ≤ near.length * (far.length * b) := by
  refine map_sum_le_mul _ (fun r => map_sum_le_mul _ (fun c => ?_) far) near
  unfold hit
  split
  · exact h r c
  · exact Nat.zero_le _
theorem best_bound {G W : List (List Nat)} {R C b k : Nat} (h : ∀ r c, gat W r c ≤ b) (hR : R ≤ 4) (hC : C ≤ 4) : best G W k (List.range R) (List.range C) ≤ 16 * b := by
  obtain ⟨s, _, e⟩ := (is_best (G := G) (W := W) k (List.range R) (List.range C) List.nodup_range List.nodup_range).2
  rw [← e]
  refine Nat.le_trans (wt_bound h s _ _) ?_
  rw [List.length_range, List.length_range, ← Nat.mul_assoc]
  exact Nat.mul_le_mul_right _ (Nat.mul_le_mul hR hC)
theorem gat_le {W : List (List Nat)} {R C b : Nat} (h : Shape W R C) (hb : ∀ l ∈ W, ∀ x ∈ l, x ≤ b) (r c : Nat) : gat W r c ≤ b := by
  by_cases hr : r < R ∧ c < C
  · obtain ⟨l, e1, e2⟩ := shape_get h hr.1 hr.2
    exact hb l (List.mem_of_getElem? e1) _ (List.mem_of_getElem? e2)
  · rw [gat_out h (by omega)]
    exact Nat.zero_le _
theorem short_int : ∀ a : Fin 901, ((PyData.int (a : Nat)).shown).length ≤ 13 := by decide +kernel
theorem shows_pair {a b : Nat} (ha : a ≤ 900) (hb : b ≤ 900) : Shows (.tuple [.int (a : Int), .int (b : Int)]) := by
  have la : a.log2 ≤ a := Nat.log2_le_self a
  have lb : b.log2 ≤ b := Nat.log2_le_self b
  refine ⟨rfl, ?_, rfl, by simp [PyData.depth, PyData.depthAll], ?_, ?_⟩
  · show (decide ((a : Int).natAbs.log2 < 1920) && (decide ((b : Int).natAbs.log2 < 1920) && true)) = true
    rw [Int.natAbs_natCast, Int.natAbs_natCast, decide_eq_true (show a.log2 < 1920 by omega), decide_eq_true (show b.log2 < 1920 by omega)]
    rfl
  · show (decide ((PyData.int (a : Int)).shown.length ≤ 13) && (decide ((PyData.int (b : Int)).shown.length ≤ 13) && true)) = true
    rw [decide_eq_true (short_int ⟨a, by omega⟩), decide_eq_true (short_int ⟨b, by omega⟩)]
    rfl
  · have w : ∀ c : Nat, c ≤ 900 → (PyData.int (c : Int)).weight ≤ 901 := fun c hc => by
      have lc : c.log2 ≤ c := Nat.log2_le_self c
      show (if (c : Int) == 0 then 0 else (c : Int).natAbs.log2 + 1) ≤ 901
      rw [Int.natAbs_natCast]
      split <;> omega
    have h1 := w a ha
    have h2 := w b hb
    simp only [PyData.weight, PyData.weightAll] at h1 h2 ⊢
    omega
end My
set_option Elab.async false
set_option linter.all false
set_option maxRecDepth 100000
set_option maxHeartbeats 2000000
/-! _law_right -/
namespace My
open PySem PySem.Spec PyProof.Rows L2 Bs
theorem rg_range (n : Nat) : rgV 0 (n : Int) = nI (List.range n) := by
  unfold rgV nI
  rw [Int.sub_zero, Int.toNat_natCast]
  refine List.map_congr_left fun i _ => ?_
  rw [Int.zero_add]
theorem Lines.fr {K : PySem.W.Frag} {d c l : Addr} {m : Nat} {H H' : Hp} {v : V} {L : List (List V)} (h : Lines K H v L) (st : St H d c l m) (e : Fr d l H H') : Lines K H' v L := by
  obtain ⟨a, rs, rfl, h1, h2⟩ := h
  have hd := st.dict
  obtain ⟨cs, h3, ls, h4, h5⟩ := st.cells
  exact ⟨a, rs, rfl, e.tup st h1, Paired.mapP h2 fun _ _ ⟨b, g1, g2⟩ => ⟨b, g1, e _ _ g2 (ne_of g2 hd fun z => nomatch z) (ne_of g2 h4 fun z => nomatch z)⟩⟩
theorem same_of_new {H H' : Hp} {p : Addr} (n : H p = none) (e : ∀ b, b ≠ p → H' b = H b) : Same H H' := fun b o hb => by
  rw [e b (ne_of_none hb n)]
  exact hb
theorem range_getD (l : List Nat) : (List.range l.length).map (fun i => l.getD i 0) = l := by
  refine List.ext_getElem? fun i => ?_
  rw [List.getElem?_map]
  rcases Nat.lt_or_ge i l.length with h | h
  · rw [List.getElem?_range h]
    show some (l.getD i 0) = _
    rw [List.getD_eq_getElem?_getD, List.getElem?_eq_getElem h]
    rfl
  · rw [List.getElem?_eq_none (by rw [List.length_range]; exact h), List.getElem?_eq_none h]
    rfl
theorem paired_nI {ys : List V} {L : List Nat} {n : Nat} (hl : L.length = n) (h : Paired (fun i y => y = V.int ((L.getD i 0 : Nat) : Int)) (List.range n) ys) : ys = nI L := by
  rw [paired_eq h]
  conv => rhs; rw [← range_getD L]
  unfold nI
  rw [List.map_map, hl]
  rfl
theorem range_ix {n i j : Nat} (h : (List.range n)[i]? = some j) : j = i := by
  have hi : i < n := by
    have := (List.getElem?_eq_some_iff.mp h).1
    rw [List.length_range] at this
    exact this
  rw [List.getElem?_range hi] at h
  exact (Option.some.inj h).symm
def Ext (H : Hp) (k : Addr) : Prop := ∃ f, H k = some (.ext f)
theorem nd_but {P : Program} {w : World} {Good : NK → Nat → Prop} {H H' : Hp} {k k' : Addr} (h : ND P w Good H k') (b : But k H H') (hx : Ext H k) (ne : k' ≠ k) : ND P w Good H' k' := by
  obtain ⟨f, hf⟩ := h.some
  exact h.keep ((b _ _ hf ne).trans hf.symm) fun c ys hc => (b.seqs hx).tup c ys hc
/-- the law's three tables, and all else as it was -/
structure RT (P : Program) (w : World) (G W1 W2 W3 : List (List Nat)) (k1 k2 k3 : Addr) (B H : Hp) : Prop where
  bt : ∀ b o, B b = some o → b ≠ k1 → b ≠ k2 → b ≠ k3 → H b = some o
  n1 : ND P w (Gd G W1) H k1
  n2 : ND P w (Gd G W2) H k2
  n3 : ND P w (Gd G W3) H k3
section
variable {P : Program} {w : World} {G W1 W2 W3 : List (List Nat)} {k1 k2 k3 : Addr} {B H H' : Hp}
theorem RT.same (h : RT P w G W1 W2 W3 k1 k2 k3 B H) (e : Same H H') : RT P w G W1 W2 W3 k1 k2 k3 B H' := ⟨fun b o hb h1 h2 h3 => e _ _ (h.bt b o hb h1 h2 h3), nd_same h.n1 e, nd_same h.n2 e, nd_same h.n3 e⟩
theorem RT.b1 (h : RT P w G W1 W2 W3 k1 k2 k3 B H) (ne : k1 ≠ k2 ∧ k1 ≠ k3 ∧ k2 ≠ k3) (b : But k1 H H') (n : ND P w (Gd G W1) H' k1) : RT P w G W1 W2 W3 k1 k2 k3 B H' :=
  ⟨fun c o hc h1 h2 h3 => b _ _ (h.bt c o hc h1 h2 h3) h1, n, nd_but h.n2 b h.n1.some ne.1.symm, nd_but h.n3 b h.n1.some ne.2.1.symm⟩
theorem RT.b2 (h : RT P w G W1 W2 W3 k1 k2 k3 B H) (ne : k1 ≠ k2 ∧ k1 ≠ k3 ∧ k2 ≠ k3) (b : But k2 H H') (n : ND P w (Gd G W2) H' k2) : RT P w G W1 W2 W3 k1 k2 k3 B H' :=
  ⟨fun c o hc h1 h2 h3 => b _ _ (h.bt c o hc h1 h2 h3) h2, nd_but h.n1 b h.n2.some ne.1, n, nd_but h.n3 b h.n2.some ne.2.2.symm⟩
theorem RT.b3 (h : RT P w G W1 W2 W3 k1 k2 k3 B H) (ne : k1 ≠ k2 ∧ k1 ≠ k3 ∧ k2 ≠ k3) (b : But k3 H H') (n : ND P w (Gd G W3) H' k3) : RT P w G W1 W2 W3 k1 k2 k3 B H' :=
  ⟨fun c o hc h1 h2 h3 => b _ _ (h.bt c o hc h1 h2 h3) h3, nd_but h.n1 b h.n3.some ne.2.1, nd_but h.n2 b h.n3.some ne.2.2, n⟩
theorem RT.seqs (h : RT P w G W1 W2 W3 k1 k2 k3 B H) (x1 : Ext B k1) (x2 : Ext B k2) (x3 : Ext B k3) : Seqs B H := by
  obtain ⟨f1, x1⟩ := x1
  obtain ⟨f2, x2⟩ := x2
  obtain ⟨f3, x3⟩ := x3
  exact ⟨fun b xs e => h.bt b _ e (ne_of e x1 fun z => nomatch z) (ne_of e x2 fun z => nomatch z) (ne_of e x3 fun z => nomatch z), fun b xs e => h.bt b _ e (ne_of e x1 fun z => nomatch z) (ne_of e x2 fun z => nomatch z) (ne_of e x3 fun z => nomatch z),
    fun b o u e => h.bt b _ e (ne_of e x1 fun z => nomatch z) (ne_of e x2 fun z => nomatch z) (ne_of e x3 fun z => nomatch z)⟩
theorem RT.st {d c l : Addr} {m : Nat} (h : RT P w G W1 W2 W3 k1 k2 k3 B H) (x1 : Ext B k1) (x2 : Ext B k2) (x3 : Ext B k3) (s : St B d c l m) : St H d c l m := by
  obtain ⟨e1, ⟨cs, e2, ls, e3, e4⟩, e5⟩ := s
  have sq := h.seqs x1 x2 x3
  obtain ⟨f1, x1⟩ := x1
  obtain ⟨f2, x2⟩ := x2
  obtain ⟨f3, x3⟩ := x3
  exact ⟨h.bt _ _ e1 (ne_of e1 x1 fun z => nomatch z) (ne_of e1 x2 fun z => nomatch z) (ne_of e1 x3 fun z => nomatch z), ⟨cs, sq.lst _ _ e2, ls, sq.lst _ _ e3, e4⟩, e5⟩
end
section
variable {P : Program} {w : World} {K : PySem.W.Frag} {mg : Str → Option Value} {base : Heap}
theorem last_test {σ : L2.St} {H : Hp} {last : V} {due : Nat} {Q : Bool → Hp → Prop} (h9 : σ[9]? = some (some last)) (h17 : σ[17]? = some (some (.int (due : Int)))) (hl : last = .non ∨ ∃ L : Nat, last = .int (L : Int) ∧ L ≤ due ∧ due ≤ 2 * L) (q : Q false H) :
    tAnd (tTest (tOp (fun x y H Q => y = V.non ∧ Q (V.bl !decide (x = V.non)) H) (tVar 9) (tC V.non))) (tNot (tTest (tChain (rI0 fun i j => V.bl (decide (i ≤ j))) (rI0 fun i j => V.bl (decide (i ≤ j))) (tVar 9) (tVar 17) (tOp (rI CMul fun i j => V.int (i * j)) (tC (V.int 2)) (tVar 9))))) σ H Q := by
  rcases hl with rfl | ⟨L, rfl, l1, l2⟩
  · exact ⟨_, h9, rfl, _, rfl, iteF q⟩
  · refine ⟨_, h9, rfl, _, rfl, iteT ⟨_, h9, _, h17, _, _, rfl, rfl, _, rfl, ite2 (fun _ => ?_) (fun h => ?_)⟩⟩
    · refine ⟨_, h9, _, _, rfl, rfl, .inl ⟨by decide, by decide⟩, _, _, rfl, rfl, _, rfl, ?_⟩
      have e : decide ((due : Int) ≤ 2 * (L : Int)) = true := decide_eq_true (by omega)
      show Q (!decide ((due : Int) ≤ 2 * (L : Int))) H
      rw [e]
      exact q
    · exact absurd (decide_eq_true (show (L : Int) ≤ (due : Int) by omega)) h
/-! ### _law_right -/
abbrev sLRight : Stmt := topS 48
abbrev nLRight : List Str := ["_law_state", "_law_told_grid", "_law_weights_so", "_law_others_so", "_law_whole", "_law_line", "_law_near", "_law_far", "_law_known", "_law_last", "_law_beside", "_law_both_so", "_law_one", "_law_two", "_law_more", "_law_mixed_so", "_law_most", "_law_due", "_law_got", "_law_second", "_law_third", "_law_full"]
theorem scLRight : FnScope nLRight ["_law_state"] (defScope sLRight) := ⟨rfl, rfl, rfl, by decide +kernel, rfl, by decide +kernel, by decide +kernel⟩
abbrev scpLRight : Scope := relS (lcS (exOf (nthS (defBody sLRight) 5))) (defScope sLRight)
def spLRight (K : PySem.W.Frag) : Sp := fun vs H Q _ => ∃ (d c l : Addr) (m : Nat), vs = [.ref d] ∧ St H d c l m ∧ m ≤ 1000 ∧ ∀ H' m', St H' d c l m' → m' ≤ m + 90 → Q (.bl true) H'
theorem ok_LRight {f : Addr} {fd : FuncData} (F : FnAt K mg "_law_right" sLRight ["_law_state"] f fd) (T : Txt K mg) {fBestSpeech : Addr} {dBestSpeech : FuncData} (F_BestSpeech : FnAt K mg "best_speech" sBestSpeech ["grid", "bits", "odds"] fBestSpeech dBestSpeech) (G_BestSpeech : FnOk P w K mg base CX0 6 fBestSpeech dBestSpeech ["grid", "bits", "odds"] (spBestSpeech K)) {fLDraw : Addr} {dLDraw : FuncData} (F_LDraw : FnAt K mg "_law_draw" sLDraw ["_law_state", "_law_limit"] fLDraw dLDraw) (G_LDraw : FnOk P w K mg base CX0 2 fLDraw dLDraw ["_law_state", "_law_limit"] (spLDraw K)) {fLGrid : Addr} {dLGrid : FuncData} (F_LGrid : FnAt K mg "_law_grid" sLGrid ["_law_state", "_law_high", "_law_wide", "_law_kinds"] fLGrid dLGrid) (G_LGrid : FnOk P w K mg base CX0 3 fLGrid dLGrid ["_law_state", "_law_high", "_law_wide", "_law_kinds"] (spLGrid K)) {fLShare : Addr} {dLShare : FuncData} (F_LShare : FnAt K mg "_law_share" sLShare ["_law_above", "_law_below"] fLShare dLShare) (G_LShare : FnOk P w K mg base CX0 2 fLShare dLShare ["_law_above", "_law_below"] (spLShare K)) {fLWeights : Addr} {dLWeights : FuncData} (F_LWeights : FnAt K mg "_law_weights" sLWeights ["_law_state", "_law_told_grid"] fLWeights dLWeights) (G_LWeights : FnOk P w K mg base CX0 3 fLWeights dLWeights ["_law_state", "_law_told_grid"] (spLWeights K)) {fLOdds : Addr} {dLOdds : FuncData} (F_LOdds : FnAt K mg "_law_odds" sLOdds ["_law_weights_so"] fLOdds dLOdds) (G_LOdds : FnOk P w K mg base CX0 3 fLOdds dLOdds ["_law_weights_so"] (spLOdds K)) {fLBest : Addr} {dLBest : FuncData} (F_LBest : FnAt K mg "_law_best" sLBest ["_law_told_grid", "_law_weights_so", "_law_most", "_law_near", "_law_far", "_law_known"] fLBest dLBest) (G_LBest : FnOk P w K mg base CX0 12 fLBest dLBest ["_law_told_grid", "_law_weights_so", "_law_most", "_law_near", "_law_far", "_law_known"] (spLBest P w K 2)) {fLWeightOf : Addr} {dLWeightOf : FuncData} (F_LWeightOf : FnAt K mg "_law_weight_of" sLWeightOf ["_law_told_grid", "_law_weights_so", "_law_most", "_law_told_so"] fLWeightOf dLWeightOf) (G_LWeightOf : FnOk P w K mg base CX0 1 fLWeightOf dLWeightOf ["_law_told_grid", "_law_weights_so", "_law_most", "_law_told_so"] (spLWeightOf K)) {fLLike : Addr} {dLLike : FuncData} (F_LLike : FnAt K mg "_law_like" sLLike ["_law_got", "_law_due"] fLLike dLLike) (G_LLike : FnG P w K mg base 1 fLLike dLLike ["_law_got", "_law_due"] (spLLike K)) : FnG P w K mg base 13 f fd ["_law_state"] (spLRight K) := by
  refine Fun.okG F.at_ scLRight (fun vs H Q E h => ?_) (fun cdv A outer s H vs Q E hgd hr h => ?_)
  · obtain ⟨d, c, l, m, rfl, _⟩ := h
    rfl
  · obtain ⟨d, c, l, m, rfl, hs, hm, q⟩ := h
    refine ⟨_, (pss_cons (ps_set (i := 1) scLRight.nd rfl (Or.inl rfl) (pe_cl F_LGrid G_LGrid (hr.mono (by decide)) (pa_cons (pv 0) (pa_cons pe_int (pa_cons pe_int (pa_cons (pe_op op_add pe_int (pe_cl F_LDraw G_LDraw (hr.mono (by decide)) (pa_cons (pv 0) (pa_cons pe_int pa_nil)))) pa_nil))))))
      (pss_cons (ps_par (i := 2) (j := 3) (by rfl) scLRight.nd rfl rfl (by decide) rfl rfl (pa_cons (pe_cl F_LWeights G_LWeights (hr.mono (by decide)) (pa_cons (pv 0) (pa_cons (pv 1) pa_nil))) (pa_cons (pe_cl F_LWeights G_LWeights (hr.mono (by decide)) (pa_cons (pv 0) (pa_cons (pv 1) pa_nil))) pa_nil)) (by rfl))
      (pss_cons (ps_set (i := 4) scLRight.nd rfl (Or.inl rfl) (pe_callB (c_sumK K rfl) (by rfl) T.sum bt_sum (pa_cons (pe_lc (own := [("_law_line", 5)]) rfl scLRight.nd (pi_lK K (pv 2)) (blkOk_by (N := nLRight) (sc := defScope sLRight) (by decide +kernel)) (fun _ _ _ _ _ => pg_name (i := 5) scLRight.nd rfl (Or.inl rfl)) (fun _ _ _ _ _ => pts_nil) (fun _ _ _ _ _ => pe_callB (c_sumK K rfl) (by rfl) T.sum bt_sum (pa_cons (pv 5) pa_nil))) pa_nil)))
      (pss_cons (ps_par (i := 6) (j := 7) (by rfl) scLRight.nd rfl rfl (by decide) rfl rfl (pa_cons (pe_tupRg rfl (by rfl) T.tuple (prg_1 (by rfl) T.range (pe_callB (c_lenK K) (by rfl) T.len bt_len (pa_cons (pv 1) pa_nil)))) (pa_cons (pe_tupRg rfl (by rfl) T.tuple (prg_1 (by rfl) T.range (pe_callB (c_lenK K) (by rfl) T.len bt_len (pa_cons (pe_ix (ix_tK K) (pv 1) pe_int (fun _ _ => rfl)) pa_nil)))) pa_nil)) (by rfl))
      (pss_cons (ps_par3 (i := 8) (j := 9) (l := 10) rfl scLRight.nd rfl rfl rfl (by decide) (by decide) (by decide) rfl rfl rfl (pa_cons pe_nnewA (pa_cons pe_non (pa_cons pe_nnewA pa_nil))) (by rfl))
      (pss_cons (ps_setLc (i := 11) (own := [("_law_line", 5), ("_law_more", 14)]) rfl scLRight.nd rfl rfl (sw_true rfl rfl rfl (by decide +kernel)) (pi_zK K (by rfl) T.zip (pa_cons (pv 2) (pa_cons (pv 3) pa_nil))) (blkOk_by (N := nLRight) (sc := defScope sLRight) (by decide +kernel)) (fun _ _ _ _ _ => pg_tK (n := 2) K rfl (pgs_cons (pg_name (i := 5) scLRight.nd rfl (Or.inl rfl)) (pgs_cons (pg_name (i := 14) scLRight.nd rfl (Or.inl rfl)) pgs_nil))) (fun _ _ _ _ _ => pts_nil) (fun _ _ _ _ _ => pe_lc (own := [("_law_one", 12), ("_law_two", 13)]) rfl scLRight.nd (pi_zK K (by rfl) T.zip (pa_cons (pv 5) (pa_cons (pv 14) pa_nil))) (blkOk_by (N := nLRight) (sc := scpLRight) (by decide +kernel)) (fun _ _ _ _ _ => pg_tK (n := 2) K rfl (pgs_cons (pg_name (i := 12) scLRight.nd rfl (Or.inl rfl)) (pgs_cons (pg_name (i := 13) scLRight.nd rfl (Or.inl rfl)) pgs_nil))) (fun _ _ _ _ _ => pts_nil) (fun _ _ _ _ _ => pe_op op_add (pv 12) (pv 13))))
      (pss_cons (ps_set (i := 15) scLRight.nd rfl (Or.inl rfl) pe_nnewA)
      (pss_cons (ps_for PassesOwn.never rfl (pi_range1 (by rfl) T.range (pa_cons pe_int pa_nil)) (pg_name (i := 16) scLRight.nd rfl (Or.inl rfl)) 
          (pss_cons (ps_set (i := 17) scLRight.nd rfl (Or.inl rfl) (pe_cl F_LBest G_LBest (hr.mono (by decide)) (pa_cons (pv 1) (pa_cons (pv 2) (pa_cons (pv 16) (pa_cons (pv 6) (pa_cons (pv 7) (pa_cons (pv 8) pa_nil))))))))
          (pss_cons (ps_set (i := 18) scLRight.nd rfl (Or.inl rfl) (pe_cl F_BestSpeech G_BestSpeech (hr.mono (by decide)) (pa_cons (pv 1) (pa_cons (pv 16) (pa_cons (pe_cl F_LOdds G_LOdds (hr.mono (by decide)) (pa_cons (pv 2) pa_nil)) pa_nil)))))
          (pss_cons (ps_if (PW.pt (pw_or (pt_not (pt_val (pe_callB (c_isiK K) (by rfl) T.isi bt_isinstance (pa_cons (pv 18) (pa_cons (pe_bltn (v := .ty "tuple") (by rfl) T.tuple bt_tuple rfl) pa_nil))))) (pw_or (pt_cmpR op_ne (pe_callB (c_lenK K) (by rfl) T.len bt_len (pa_cons (pv 18) pa_nil)) pe_int (nomark _)) (pw_or1 (pt_not (pt_val (pe_clG F_LLike G_LLike hgd (hr.mono (by decide)) (pa_cons (pe_ix (ix_tK K) (pv 18) pe_int (fun _ _ => rfl)) (pa_cons (pe_cl F_LShare G_LShare (hr.mono (by decide)) (pa_cons (pv 17) (pa_cons (pv 4) pa_nil))) pa_nil))))))))) 
              (pss_one (ps_ret pe_bl)) pss_nil)
          (pss_cons (ps_if (pt_cmpR op_ne (pe_cl F_LWeightOf G_LWeightOf (hr.mono (by decide)) (pa_cons (pv 1) (pa_cons (pv 2) (pa_cons (pv 16) (pa_cons (pe_ix (ix_tK K) (pv 18) pe_int (fun _ _ => rfl)) pa_nil))))) (pv 17) (nomark _)) 
              (pss_one (ps_ret pe_bl)) pss_nil)
          (pss_cons (ps_if (PW.pt (pw_and (pt_cmpR op_notN (pv 9) pe_non (nomark _)) (pw_and1 (pt_not (pt_chain op_le op_le (pv 9) (pv 17) (pe_op op_mul pe_int (pv 9))))))) 
              (pss_one (ps_ret pe_bl)) pss_nil)
          (pss_cons (ps_set (i := 19) scLRight.nd rfl (Or.inl rfl) (pe_cl F_LBest G_LBest (hr.mono (by decide)) (pa_cons (pv 1) (pa_cons (pv 3) (pa_cons (pv 16) (pa_cons (pv 6) (pa_cons (pv 7) (pa_cons (pv 10) pa_nil))))))))
          (pss_cons (ps_set (i := 20) scLRight.nd rfl (Or.inl rfl) (pe_cl F_LBest G_LBest (hr.mono (by decide)) (pa_cons (pv 1) (pa_cons (pv 11) (pa_cons (pv 16) (pa_cons (pv 6) (pa_cons (pv 7) (pa_cons (pv 15) pa_nil))))))))
          (pss_cons (ps_set (i := 21) scLRight.nd rfl (Or.inl rfl) (pe_callB (c_sumK K rfl) (by rfl) T.sum bt_sum (pa_cons (pe_lc (own := [("_law_line", 5)]) rfl scLRight.nd (pi_lK K (pv 11)) (blkOk_by (N := nLRight) (sc := defScope sLRight) (by decide +kernel)) (fun _ _ _ _ _ => pg_name (i := 5) scLRight.nd rfl (Or.inl rfl)) (fun _ _ _ _ _ => pts_nil) (fun _ _ _ _ _ => pe_callB (c_sumK K rfl) (by rfl) T.sum bt_sum (pa_cons (pv 5) pa_nil))) pa_nil)))
          (pss_cons (ps_set (i := 18) scLRight.nd rfl (Or.inl rfl) (pe_cl F_BestSpeech G_BestSpeech (hr.mono (by decide)) (pa_cons (pv 1) (pa_cons (pv 16) (pa_cons (pe_cl F_LOdds G_LOdds (hr.mono (by decide)) (pa_cons (pv 11) pa_nil)) pa_nil)))))
          (pss_cons (ps_if (PW.pt (pw_or (pt_cmpR op_gt (pv 20) (pe_op op_add (pv 17) (pv 19)) (nomark _)) (pw_or1 (pt_not (pt_val (pe_clG F_LLike G_LLike hgd (hr.mono (by decide)) (pa_cons (pe_ix (ix_tK K) (pv 18) pe_int (fun _ _ => rfl)) (pa_cons (pe_cl F_LShare G_LShare (hr.mono (by decide)) (pa_cons (pv 20) (pa_cons (pv 21) pa_nil))) pa_nil)))))))) 
              (pss_one (ps_ret pe_bl)) pss_nil)
          (pss_one (ps_set (i := 9) scLRight.nd rfl (Or.inl rfl) (pv 17))))))))))))))
      (pss_one (ps_ret pe_bl)))))))))), ?_⟩
    -- the grid
    refine ⟨_, rfl, _, rfl, d, c, l, m, 3, rfl, hs, by omega, by decide, by decide, fun H1 x f1 s1 hx => ?_⟩
    refine ⟨_, _, rfl, rfl, d, c, l, m + 1, 4, 4, 2 + x, by rw [Int.natCast_add]; rfl, s1, by omega, by decide, by decide, by decide, by decide, by omega, by omega, fun H2 v G R C m2 f2 s2 hm2 hg hsh r1 r4 c1 c4 hb => ?_⟩
    -- the weights
    refine ⟨_, rfl, _, rfl, d, c, l, m2, v, G, R, C, rfl, s2, by omega, hg, hsh, r1, r4, c1, c4, fun H3 u1 W1 m3 f3 s3 hm3 hw1 hS1 hb1 hp1 => ?_⟩
    have hg3 := Lines.fr hg s2 f3
    refine ⟨_, rfl, _, rfl, d, c, l, m3, v, G, R, C, rfl, s3, by omega, hg3, hsh, r1, r4, c1, c4, fun H4 u2 W2 m4 f4 s4 hm4 hw2 hS2 hb2 hp2 => ⟨_, _, rfl, ?_⟩⟩
    have hg4 : GridAt K H4 v G := Lines.fr hg3 s3 f4
    have hw1 := hw1.fr s3 f4
    have w1l := hS1.1
    have w2l := hS2.1
    clear hg hg3 f1 f2 f3 f4 s1 s2 s3
    -- the whole
    refine sum_rows (l := l) rfl hw1 (by omega) fun H5 s5 => ?_
    have hg5 := Lines.same s5 hg4
    obtain ⟨a, rs, rfl, ha, hl, hrow⟩ := lines_get hg5
    rw [List.length_map, hsh.1] at hl
    obtain ⟨rz, hrz⟩ : ∃ r, rs[0]? = some r := ⟨rs[0]'(by omega), List.getElem?_eq_getElem _⟩
    obtain ⟨l0, b0, hl0, rfl, hb0⟩ := hrow 0 rz hrz
    obtain ⟨g0, hg0, rfl⟩ := map_get hl0
    have hg0C := hsh.2 g0 (List.mem_of_getElem? hg0)
    refine ⟨_, rfl, a, rs, rfl, .inr ha, (rs.length : Int), rfl, RgOk.of_le (by omega) (by omega) (by omega) (by omega), fun t1 nt1 => ?_⟩
    have s6 := L2.Same.new (o := .tup (rgV 0 (rs.length : Int))) nt1
    refine ⟨_, rfl, a, rs, _, _, rfl, rfl, s6.tup ha, ge0 hrz, b0, _, rfl, .inr (.inl (.inl (s6 _ _ hb0))), ((nI g0).length : Int), rfl, RgOk.of_le (by omega) (by rw [nI_len]; omega) (by omega) (by omega), fun t2 nt2 => ⟨_, _, rfl, ?_⟩⟩
    have s7 := L2.Same.new (o := .tup (rgV 0 ((nI g0).length : Int))) nt2
    have et1 : (upd (upd H5 t1 (.tup (rgV 0 (rs.length : Int)))) t2 (.tup (rgV 0 ((nI g0).length : Int)))) t1 = some (.tup (nI (List.range R))) := by
      rw [s7 _ _ upd_same, rg_range, hl]
    have et2 : (upd (upd H5 t1 (.tup (rgV 0 (rs.length : Int)))) t2 (.tup (rgV 0 ((nI g0).length : Int)))) t2 = some (.tup (nI (List.range C))) := by
      rw [upd_same, rg_range, nI_len, hg0C]
    have s47 := s5.trans (s6.trans s7)
    generalize upd (upd H5 t1 (.tup (rgV 0 (rs.length : Int)))) t2 (.tup (rgV 0 ((nI g0).length : Int))) = H7 at et1 et2 s47
    -- the tables
    refine fun k1 H8 nk1 e8 n1 => fun k2 H9 nk2 e9 n2 => ⟨_, _, _, rfl, ?_⟩
    have s48 := s47.trans (same_of_new nk1 e8)
    have s49 := s48.trans (same_of_new nk2 e9)
    -- both weights
    obtain ⟨p1, rs1, rfl, np1, hp1', pr1⟩ := hw1.same s49
    obtain ⟨p2, rs2, rfl, np2, hp2', pr2⟩ := hw2.same s49
    have q1l := Paired.length pr1
    have q2l := Paired.length pr2
    generalize hσ : List.set (List.set (List.set _ _ _) _ _) _ _ = σ
    have hσ' : σ = [some (.ref d), some (.ref a), some (.ref p1), some (.ref p2), some (.int ((W1.flatten.sum : Nat) : Int)), none, some (.ref t1), some (.ref t2), some (.ref k1), some .non, some (.ref k2), none, none, none, none, none, none, none, none, none, none, none] := hσ.symm
    clear hσ
    subst hσ'
    refine ⟨_, rfl, _, rfl, p1, p2, rs1, rs2, rfl, .inl (.inl hp1'), .inl (.inl hp2'), fun D hD => ?_⟩
    refine lc_zip (n := R) (walk_zip (by omega)) (fun i y H => ∃ t ws, y = .ref t ∧ t ≠ D ∧ t ≠ l ∧ (addW W1 W2)[i]? = some ws ∧ H t = some (.lst (nI ws))) hD (by omega) (fun H' s => ⟨.inl (.inl (s _ _ hp1')), .inl (.inl (s _ _ hp2'))⟩) (fun i y Ha Hb r e => ?_) (fun i H' x y hi hx hy s hacc Q' q' => ?_) fun ys H10 s10 eD py => ?_
    · obtain ⟨t, ws, e1, e2, e3, e4, e5⟩ := r
      exact ⟨t, ws, e1, e2, e3, e4, e _ _ e5 e2⟩
    · obtain ⟨acc, hacc⟩ := hacc
      obtain ⟨ws1, hws1, b1, rfl, nb1, eb1⟩ := paired_get pr1 hx
      obtain ⟨ws2, hws2, b2, rfl, nb2, eb2⟩ := paired_get pr2 hy
      have l1 := hS1.2 ws1 (List.mem_of_getElem? hws1)
      have l2 := hS2.2 ws2 (List.mem_of_getElem? hws2)
      have eb1' := s _ _ eb1
      have eb2' := s _ _ eb2
      have ez := add_get hws1 hws2
      have zl : (List.zipWith (· + ·) ws1 ws2).length = C := by rw [List.length_zipWith, l1, l2, Nat.min_self]
      refine ⟨_, rfl, _, rfl, b1, b2, nI ws1, nI ws2, rfl, .inl (.inl eb1'), .inl (.inl eb2'), fun D2 hD2 => ?_⟩
      refine lc_zip (n := C) (walk_zip (by rw [nI_len, nI_len]; omega)) (fun j y _ => y = V.int (((List.zipWith (· + ·) ws1 ws2).getD j 0 : Nat) : Int)) hD2 (by omega) (fun H' s => ⟨.inl (.inl (s _ _ eb1')), .inl (.inl (s _ _ eb2'))⟩) (fun _ _ _ _ h _ => h) (fun j H2 x y hj hx hy s2 hacc2 Q2 q2 => ?_) fun zs H2 s2 eD2 pz => ?_
      · obtain ⟨x1, h1, rfl⟩ := nI_get hx
        obtain ⟨x2, h2, rfl⟩ := nI_get hy
        refine ⟨_, rfl, _, rfl, _, _, rfl, rfl, q2 _ _ (Same.refl _) ?_⟩
        rw [List.getD_eq_getElem?_getD, List.getElem?_zipWith, h1, h2]
        show V.int ((x1 : Int) + (x2 : Int)) = V.int ((x1 + x2 : Nat) : Int)
        rw [Int.natCast_add]
      · have ezs := paired_nI zl pz
        subst ezs
        have nl := ((s4.same s49).same s).new hD2
        exact q' _ _ s2 ⟨D2, _, rfl, (ne_of_none hacc hD2).symm, nl.2.2, ez, eD2⟩
    · refine fun k3 H11 nk3 e11 n3 => ?_
      have s11 := same_of_new nk3 e11
      have sB := s49.trans (s10.trans s11)
      have yl := Paired.length py
      rw [List.length_range] at yl
      have hS3 := add_shape hS1 hS2
      have w3l := hS3.1
      have nDl := ((s4.same s49).new hD).2.2
      have w3B : WAt l H11 (.ref D) (addW W1 W2) := by
        refine ⟨D, ys, rfl, nDl, s11 _ _ eD, paired_of_get (by omega) fun i y ws hy hw => ?_⟩
        obtain ⟨k, hk, t, ws', e1, _, e3, e4, e5⟩ := paired_getR py hy
        have ek := range_ix hk
        subst ek
        rw [hw] at e4
        have ee := Option.some.inj e4
        subst ee
        exact ⟨t, e1, e3, s11 _ _ e5⟩
      have w1B := hw1.same sB
      have w2B := hw2.same sB
      have gB := Lines.same sB hg4
      have stB := s4.same sB
      have s7B := ((same_of_new nk1 e8).trans (same_of_new nk2 e9)).trans (s10.trans s11)
      have et1B := s7B _ _ et1
      have et2B := s7B _ _ et2
      have n1B : ∀ Good, ND P w Good H11 k1 := fun Good => nd_same (n1 Good) ((same_of_new nk2 e9).trans (s10.trans s11))
      have n2B : ∀ Good, ND P w Good H11 k2 := fun Good => nd_same (n2 Good) (s10.trans s11)
      have x1 : Ext H11 k1 := (n1B fun _ _ => True).some
      have x2 : Ext H11 k2 := (n2B fun _ _ => True).some
      have x3 : Ext H11 k3 := (n3 fun _ _ => True).some
      obtain ⟨f1, hf1⟩ := (n1 fun _ _ => True).some
      obtain ⟨f2, hf2⟩ := (n2 fun _ _ => True).some
      have kne : k1 ≠ k2 ∧ k1 ≠ k3 ∧ k2 ≠ k3 := ⟨ne_of_none hf1 nk2, ne_of_none (s10 _ _ (same_of_new nk2 e9 _ _ hf1)) nk3, ne_of_none (s10 _ _ hf2) nk3⟩
      have rtB : RT P w G W1 W2 (addW W1 W2) k1 k2 k3 H11 H11 := ⟨fun _ _ h _ _ _ => h, n1B _, n2B _, n3 _⟩
      have hp3 : 0 < (addW W1 W2).flatten.sum := by rw [add_sum hS1 hS2]; omega
      have hb3 : ∀ r c, gat (addW W1 W2) r c ≤ 8 := fun r c => by
        rw [add_gat hS1 hS2]
        have := gat_le hS1 hb1 r c
        have := gat_le hS2 hb2 r c
        omega
      have le1 : W1.flatten.sum ≤ 64 := Nat.le_trans (flat_sum_le hS1 hb1) (Nat.mul_le_mul_right 4 (Nat.mul_le_mul r4 c4))
      have le2 : W2.flatten.sum ≤ 64 := Nat.le_trans (flat_sum_le hS2 hb2) (Nat.mul_le_mul_right 4 (Nat.mul_le_mul r4 c4))
      have le3 : (addW W1 W2).flatten.sum ≤ 128 := by rw [add_sum hS1 hS2]; omega
      have bb1 : ∀ k, best G W1 k (List.range R) (List.range C) ≤ 64 := fun k => best_bound (gat_le hS1 hb1) r4 c4
      have bb3 : ∀ k, best G (addW W1 W2) k (List.range R) (List.range C) ≤ 128 := fun k => best_bound hb3 r4 c4
      have g9 : ∀ r ∈ G, ∀ x ∈ r, x ≤ 9 := fun r hr z hz => by have := hb r hr z hz; omega
      clear s10 s11 s49 s48 s47 n1 n2 n3 e8 e9 e11 hw1 hw2 hg4 hg5
      refine ⟨3, rfl, by omega, by omega, ?_⟩
      show ∃ W : Nat → Nat → L2.St → Hp → Prop, _
      refine for_it (n := 3) walk_rng (fun i σ H' => RT P w G W1 W2 (addW W1 W2) k1 k2 k3 H11 H' ∧ ∃ last z16 z17 z18 z19 z20 z21, σ = [some (.ref d), some (.ref a), some (.ref p1), some (.ref p2), some (.int ((W1.flatten.sum : Nat) : Int)), none, some (.ref t1), some (.ref t2), some (.ref k1), some last, some (.ref k2), some (.ref D), none, none, none, some (.ref k3), z16, z17, z18, z19, z20, z21] ∧
        ((i = 0 ∧ last = .non) ∨ ∃ i', i = i' + 1 ∧ last = .int ((best G W1 i' (List.range R) (List.range C) : Nat) : Int))) ?_ (fun _ _ _ _ _ => trivial) (fun i x σ H2 H' hi h y => ?_) (fun σ H' h => ?_)
      · exact ⟨rtB, .non, none, none, none, none, none, none, rfl, .inl ⟨rfl, rfl⟩⟩
      · obtain ⟨rfl, rfl⟩ := y
        obtain ⟨rt, last, z16, z17, z18, z19, z20, z21, rfl, hlast⟩ := h
        rw [show (0 : Int) + (i : Int) = (i : Int) by omega]
        have i2 : i ≤ 2 := by omega
        have sub1 : (List.range R).Sublist (List.range R) := List.Sublist.refl _
        have sub2 : (List.range C).Sublist (List.range C) := List.Sublist.refl _
        -- due
        have q0 := rt.seqs x1 x2 x3
        refine ⟨_, rfl, _, rfl, _, rfl, _, rfl, _, rfl, _, rfl, l, .ref a, .ref p1, i, t1, t2, k1, G, W1, R, C, List.range R, List.range C, rfl, Lines.seqs q0 gB, hsh, w1B.seqs q0, hS1, r4, c4, i2, q0.tup _ _ et1B, q0.tup _ _ et2B, sub1, sub2, rt.n1, fun Ha ba na => ?_⟩
        have rt := rt.b1 kne ba na
        have q0 := rt.seqs x1 x2 x3
        -- what the code says
        refine ⟨_, rfl, _, rfl, _, rfl, l, .ref p1, W1, R, C, rfl, w1B.seqs q0, hS1, r4, c4, hp1, by omega, fun Hb u sb ob => ?_⟩
        have rt := rt.same sb
        have q0 := rt.seqs x1 x2 x3
        refine ⟨.ref a, u, i, G, W1, R, C, W1.flatten.sum, rfl, Lines.seqs q0 gB, hsh, r1, r4, c1, c4, g9, ob, hS1, i2, hp1, by omega, rfl, fun Hc p fr sv tk sc np ep ef d1 d2 d3 => ?_⟩
        have rt := rt.same sc
        have q0 := rt.seqs x1 x2 x3
        have tp : SqT K Hc p [.ref fr, sv] := .inl (.inl ep)
        generalize hσ : List.set (List.set _ _ _) _ _ = σ
        have hσ' : σ = [some (.ref d), some (.ref a), some (.ref p1), some (.ref p2), some (.int ((W1.flatten.sum : Nat) : Int)), none, some (.ref t1), some (.ref t2), some (.ref k1), some last, some (.ref k2), some (.ref D), none, none, none, some (.ref k3), some (.int (i : Int)), some (.int ((best G W1 i (List.range R) (List.range C) : Nat) : Int)), z18, z19, z20, z21] := hσ.symm
        clear hσ
        subst hσ'
        refine ⟨_, rfl, _, _, _, _, true, rfl, .ty _, ty_tup tp, kTT, true, rfl, iteF ?_⟩
        refine ⟨_, rfl, p, _, rfl, .inr tp, rfl, _, rfl, iteF ?_⟩
        refine ⟨_, rfl, p, _, _, _, rfl, rfl, tp, at0, _, rfl, _, rfl, _, _, rfl, hp1, by omega, fun t3 nt3 => ?_⟩
        have sd := L2.Same.new (o := .tup [V.int ((red (best G W1 i (List.range R) (List.range C)) W1.flatten.sum).1 : Int), .int ((red (best G W1 i (List.range R) (List.range C)) W1.flatten.sum).2 : Int)]) nt3
        have hle := red_le (best G W1 i (List.range R) (List.range C)) W1.flatten.sum
        have hbb := bb1 i
        refine ⟨.ref fr, .ref t3, .tuple [.int ((red (best G W1 i (List.range R) (List.range C)) W1.flatten.sum).1 : Int), .int ((red (best G W1 i (List.range R) (List.range C)) W1.flatten.sum).2 : Int)], rfl, .tup (.inl (.inl (sd _ _ ef))) (.cons (.int _) (.cons (.int _) .nil)), .tup (.inl (.inl upd_same)) (.cons (.int _) (.cons (.int _) .nil)), shows_pair (by omega) (by omega), true, rfl, iteF ?_⟩
        have rt := rt.same sd
        have q0 := rt.seqs x1 x2 x3
        -- its weight
        refine ⟨_, rfl, _, rfl, _, rfl, _, rfl, p, _, _, _, rfl, rfl, sd.tup tp, at1, l, .ref a, .ref p1, sv, i, G, W1, R, C, tk, rfl, Lines.seqs q0 gB, hsh, r1, r4, c1, c4, w1B.seqs q0, hS1, i2, dp_same sd d1, d2, _, rfl, rfl, _, rfl, ite2 (fun hne => ?_) (fun _ => ?_)⟩
        · rw [d3, decide_eq_true rfl] at hne
          exact absurd hne (by decide)
        -- beside the last
        refine last_test (due := best G W1 i (List.range R) (List.range C)) rfl rfl ?_ (iteF ?_)
        · rcases hlast with ⟨_, h⟩ | ⟨i', ei, h⟩
          · exact .inl h
          · subst ei
            obtain ⟨u1, u2⟩ := best_succ (G := G) (W := W1) (k := i') (List.nodup_range (n := R)) (List.nodup_range (n := C))
            exact .inr ⟨_, h, u1, u2⟩
        -- the second, the third
        refine ⟨_, rfl, _, rfl, _, rfl, _, rfl, _, rfl, _, rfl, l, .ref a, .ref p2, i, t1, t2, k2, G, W2, R, C, List.range R, List.range C, rfl, Lines.seqs q0 gB, hsh, w2B.seqs q0, hS2, r4, c4, i2, q0.tup _ _ et1B, q0.tup _ _ et2B, sub1, sub2, rt.n2, fun He be ne => ?_⟩
        have rt := rt.b2 kne be ne
        have q0 := rt.seqs x1 x2 x3
        refine ⟨_, rfl, _, rfl, _, rfl, _, rfl, _, rfl, _, rfl, l, .ref a, .ref D, i, t1, t2, k3, G, addW W1 W2, R, C, List.range R, List.range C, rfl, Lines.seqs q0 gB, hsh, w3B.seqs q0, hS3, r4, c4, i2, q0.tup _ _ et1B, q0.tup _ _ et2B, sub1, sub2, rt.n3, fun Hf bf nf => ?_⟩
        have rt := rt.b3 kne bf nf
        have q0 := rt.seqs x1 x2 x3
        generalize hσ : List.set _ _ _ = σ
        have hσ' : σ = [some (.ref d), some (.ref a), some (.ref p1), some (.ref p2), some (.int ((W1.flatten.sum : Nat) : Int)), none, some (.ref t1), some (.ref t2), some (.ref k1), some last, some (.ref k2), some (.ref D), none, none, none, some (.ref k3), some (.int (i : Int)), some (.int ((best G W1 i (List.range R) (List.range C) : Nat) : Int)), some (.ref p), some (.int ((best G W2 i (List.range R) (List.range C) : Nat) : Int)), z20, z21] := hσ.symm
        clear hσ
        subst hσ'
        refine sum_rows (l := l) rfl (w3B.seqs q0) (by omega) fun Hg sg => ?_
        have rt := rt.same sg
        have q0 := rt.seqs x1 x2 x3
        refine ⟨_, rfl, _, rfl, _, rfl, l, .ref D, addW W1 W2, R, C, rfl, w3B.seqs q0, hS3, r4, c4, hp3, by omega, fun Hh u' sh oh => ?_⟩
        have rt := rt.same sh
        have q0 := rt.seqs x1 x2 x3
        refine ⟨.ref a, u', i, G, addW W1 W2, R, C, (addW W1 W2).flatten.sum, rfl, Lines.seqs q0 gB, hsh, r1, r4, c1, c4, g9, oh, hS3, i2, hp3, by omega, rfl, fun Hi p' fr' sv' tk' si np' ep' ef' d1' d2' d3' => ?_⟩
        have rt := rt.same si
        have q0 := rt.seqs x1 x2 x3
        have tp' : SqT K Hi p' [.ref fr', sv'] := .inl (.inl ep')
        generalize hσ : List.set (List.set _ _ _) _ _ = σ
        have hσ' : σ = [some (.ref d), some (.ref a), some (.ref p1), some (.ref p2), some (.int ((W1.flatten.sum : Nat) : Int)), none, some (.ref t1), some (.ref t2), some (.ref k1), some last, some (.ref k2), some (.ref D), none, none, none, some (.ref k3), some (.int (i : Int)), some (.int ((best G W1 i (List.range R) (List.range C) : Nat) : Int)), some (.ref p), some (.int ((best G W2 i (List.range R) (List.range C) : Nat) : Int)), some (.int ((best G (addW W1 W2) i (List.range R) (List.range C) : Nat) : Int)), some (.int (((addW W1 W2).flatten.sum : Nat) : Int))] := hσ.symm
        clear hσ
        subst hσ'
        have hadd := best_add (G := G) (W1 := W1) (W2 := W2) (W3 := addW W1 W2) (k := i) (List.nodup_range (n := R)) (List.nodup_range (n := C)) (add_gat hS1 hS2)
        refine ⟨_, rfl, _, rfl, _, rfl, _, _, rfl, rfl, _, _, rfl, rfl, _, rfl, ite2 (fun hgt => ?_) (fun _ => ?_)⟩
        · have hgt := of_decide_eq_true hgt
          omega
        refine ⟨_, rfl, p', _, _, _, rfl, rfl, tp', at0, _, rfl, _, rfl, _, _, rfl, hp3, by omega, fun t4 nt4 => ?_⟩
        have sj := L2.Same.new (o := .tup [V.int ((red (best G (addW W1 W2) i (List.range R) (List.range C)) (addW W1 W2).flatten.sum).1 : Int), .int ((red (best G (addW W1 W2) i (List.range R) (List.range C)) (addW W1 W2).flatten.sum).2 : Int)]) nt4
        have hle3 := red_le (best G (addW W1 W2) i (List.range R) (List.range C)) (addW W1 W2).flatten.sum
        have hbb3 := bb3 i
        refine ⟨.ref fr', .ref t4, .tuple [.int ((red (best G (addW W1 W2) i (List.range R) (List.range C)) (addW W1 W2).flatten.sum).1 : Int), .int ((red (best G (addW W1 W2) i (List.range R) (List.range C)) (addW W1 W2).flatten.sum).2 : Int)], rfl, .tup (.inl (.inl (sj _ _ ef'))) (.cons (.int _) (.cons (.int _) .nil)), .tup (.inl (.inl upd_same)) (.cons (.int _) (.cons (.int _) .nil)), shows_pair (by omega) (by omega), true, rfl, iteF ?_⟩
        have rt := rt.same sj
        exact ⟨_, rfl, rt, _, _, _, _, _, _, _, rfl, .inr ⟨i, rfl, rfl⟩⟩
      · obtain ⟨rt, last, z16, z17, z18, z19, z20, z21, rfl, hlast⟩ := h
        exact q _ _ (rt.st x1 x2 x3 stB) (by omega)
end
end My
set_option Elab.async false
set_option linter.all false
set_option maxRecDepth 100000
set_option maxHeartbeats 2000000
/-! law -/
namespace My
open PySem PySem.Spec PyProof.Rows L2 Bs
/-- odds, bits, grid in the parameters' order -/
def gK {α : Type} : List α → List α → List α
  | [], [o, b, g] => [g, b, o]
  | _, _ => []
theorem gK_len {α : Type} {us ws : List α} (h : (gK us ws).length = 3) : ∃ o b g, us = [] ∧ ws = [o, b, g] := by
  unfold gK at h
  split at h
  · exact ⟨_, _, _, rfl, rfl⟩
  · simp at h
theorem gK_rel {vs zs : List V} {us ws : List Value} (r : Vals vs us) (q : Vals zs ws) : Vals (gK vs zs) (gK us ws) := by
  cases r with
  | cons a b => exact .nil
  | nil =>
    cases q with
    | nil => exact .nil
    | cons a q =>
      cases q with
      | nil => exact .nil
      | cons b q =>
        cases q with
        | nil => exact .nil
        | cons c q =>
          cases q with
          | nil => exact .cons c (.cons b (.cons a .nil))
          | cons d q => exact .nil
section
variable {P : Program} {w : World} {K : PySem.W.Frag} {mg : Str → Option Value} {base : Heap}
abbrev g2 : List (List Nat) := [[0, 1], [1, 0]]
abbrev w2 : List (List Nat) := [[1, 1], [1, 1]]
theorem grid_disp {σ : L2.St} {H : Hp} {Q : VK} (q : ∀ H' v, Same H H' → GridAt K H' v g2 → Q v H') :
    tTup (tCons (tTup (tCons (tC (.int 0)) (tCons (tC (.int 1)) tNil))) (tCons (tTup (tCons (tC (.int 1)) (tCons (tC (.int 0)) tNil))) tNil)) σ H Q := by
  refine ⟨sz (by show 2 ≤ _; omega), fun a na => ⟨sz (by show 2 ≤ _; omega), fun b nb => ⟨sz (by show 2 ≤ _; omega), fun e ne => ?_⟩⟩⟩
  have s1 := L2.Same.new (o := .tup [V.int 0, .int 1]) na
  have s2 := L2.Same.new (o := .tup [V.int 1, .int 0]) nb
  have s3 := L2.Same.new (o := .tup [V.ref a, .ref b]) ne
  exact q _ (.ref e) (s1.trans (s2.trans s3)) ⟨e, [.ref a, .ref b], rfl, .inl (.inl upd_same), .cons ⟨a, rfl, (s2.trans s3) _ _ upd_same⟩ (.cons ⟨b, rfl, s3 _ _ upd_same⟩ .nil)⟩
theorem even_disp {σ : L2.St} {H : Hp} {Q : VK} (q : ∀ H' v, Same H H' → OddsAt K H' v w2 4 → Q v H') :
    tTup (tCons (tTup (tCons (tTup (tCons (tC (.int 1)) (tCons (tC (.int 4)) tNil))) (tCons (tTup (tCons (tC (.int 1)) (tCons (tC (.int 4)) tNil))) tNil))) (tCons (tTup (tCons (tTup (tCons (tC (.int 1)) (tCons (tC (.int 4)) tNil))) (tCons (tTup (tCons (tC (.int 1)) (tCons (tC (.int 4)) tNil))) tNil))) tNil)) σ H Q := by
  refine ⟨sz (by show 2 ≤ _; omega), fun a na => ⟨sz (by show 2 ≤ _; omega), fun b nb => ⟨sz (by show 2 ≤ _; omega), fun e ne => ⟨sz (by show 2 ≤ _; omega), fun a' na' => ⟨sz (by show 2 ≤ _; omega), fun b' nb' => ⟨sz (by show 2 ≤ _; omega), fun e' ne' => ⟨sz (by show 2 ≤ _; omega), fun z nz => ?_⟩⟩⟩⟩⟩⟩⟩
  have s1 := L2.Same.new (o := .tup [V.int 1, .int 4]) na
  have s2 := L2.Same.new (o := .tup [V.int 1, .int 4]) nb
  have s3 := L2.Same.new (o := .tup [V.ref a, .ref b]) ne
  have s4 := L2.Same.new (o := .tup [V.int 1, .int 4]) na'
  have s5 := L2.Same.new (o := .tup [V.int 1, .int 4]) nb'
  have s6 := L2.Same.new (o := .tup [V.ref a', .ref b']) ne'
  have s7 := L2.Same.new (o := .tup [V.ref e, .ref e']) nz
  have r14 : red 1 4 = (1, 4) := by decide
  have fr : ∀ {H' : Hp} {x : Addr}, H' x = some (.tup [.int 1, .int 4]) → FracAt K H' (.ref x) (red 1 4) := fun {H' x} h => by
    rw [r14]
    exact ⟨x, rfl, .inl (.inl h)⟩
  refine q _ (.ref z) (s1.trans (s2.trans (s3.trans (s4.trans (s5.trans (s6.trans s7)))))) ⟨[[.ref a, .ref b], [.ref a', .ref b']], ⟨z, [.ref e, .ref e'], rfl, .inl (.inl upd_same), .cons ⟨e, rfl, (s4.trans (s5.trans (s6.trans s7))) _ _ upd_same⟩ (.cons ⟨e', rfl, s7 _ _ upd_same⟩ .nil)⟩, ?_⟩
  exact .cons (.cons (fr ((s2.trans (s3.trans (s4.trans (s5.trans (s6.trans s7))))) _ _ upd_same)) (.cons (fr ((s3.trans (s4.trans (s5.trans (s6.trans s7)))) _ _ upd_same)) .nil)) (.cons (.cons (fr ((s5.trans (s6.trans s7)) _ _ upd_same)) (.cons (fr ((s6.trans s7) _ _ upd_same)) .nil)) .nil)
theorem cons_of {t : TE} {u : TA} {σ : L2.St} {H : Hp} {Q : List V → Hp → Prop} (h : t σ H fun x H1 => u σ H1 fun xs H2 => Q (x :: xs) H2) : tCons t u σ H Q := h
theorem cons_c {v : V} {u : TA} {σ : L2.St} {H : Hp} {Q : List V → Hp → Prop} (h : u σ H fun xs H2 => Q (v :: xs) H2) : tCons (tC v) u σ H Q := h
theorem op_call {r : R2} {sp : Sp} {E : XK} {t : TA} {v : V} {σ : L2.St} {H : Hp} {Q : VK} (h : t σ H fun vs H1 => sp (vs ++ []) H1 (fun x H2 => r x v H2 Q) E) : tOp r (tCall sp [] E t) (tC v) σ H Q := h
theorem asg_of {t : TE} {g : TG} {D : Ends} {σ : L2.St} {H : Hp} (h : t σ H fun x H1 => g x σ H1 D.nx) : tAsg t g D σ H := h
theorem seq_asg {t : TE} {g : TG} {b : TS} {D : Ends} {σ : L2.St} {H : Hp} (h : t σ H fun x H1 => g x σ H1 (b D)) : tSeq (tAsg t g) b D σ H := h
/-! ### law -/
abbrev sLaw : Stmt := topS 49
abbrev nLaw : List Str := ["_law_script", "_law_state", "_law_turn", "_law_even", "_law_got"]
theorem scLaw : FnScope nLaw ["_law_script"] (defScope sLaw) := ⟨rfl, rfl, rfl, by decide +kernel, rfl, by decide +kernel, by decide +kernel⟩
def spLaw (K : PySem.W.Frag) : Sp := fun vs H Q _ => ∃ (a : Addr) (ns : List Int), vs = [.ref a] ∧ SqL K H a (ns.map V.int) ∧ ns.length ≤ 63 ∧ ∀ H', Q (.bl true) H'
theorem ok_Law {f : Addr} {fd : FuncData} (F : FnAt K mg "law" sLaw ["_law_script"] f fd) (T : Txt K mg) {fBestSpeech : Addr} {dBestSpeech : FuncData} (F_BestSpeech : FnAt K mg "best_speech" sBestSpeech ["grid", "bits", "odds"] fBestSpeech dBestSpeech) (G_BestSpeech : FnOk P w K mg base CX0 6 fBestSpeech dBestSpeech ["grid", "bits", "odds"] (spBestSpeech K)) {fLBegin : Addr} {dLBegin : FuncData} (F_LBegin : FnAt K mg "_law_begin" sLBegin ["_law_script"] fLBegin dLBegin) (G_LBegin : FnOk P w K mg base CX0 1 fLBegin dLBegin ["_law_script"] (spLBegin K)) {fLLike : Addr} {dLLike : FuncData} (F_LLike : FnAt K mg "_law_like" sLLike ["_law_got", "_law_due"] fLLike dLLike) (G_LLike : FnG P w K mg base 1 fLLike dLLike ["_law_got", "_law_due"] (spLLike K)) {fLRight : Addr} {dLRight : FuncData} (F_LRight : FnAt K mg "_law_right" sLRight ["_law_state"] fLRight dLRight) (G_LRight : FnG P w K mg base 13 fLRight dLRight ["_law_state"] (spLRight K)) (B_BestSpeech : KBinds K dBestSpeech ["grid", "bits", "odds"] ["odds", "bits", "grid"] gK gK) : FnG P w K mg base 14 f fd ["_law_script"] (spLaw K) := by
  refine Fun.okG F.at_ scLaw (fun vs H Q E h => ?_) (fun cdv A outer s H vs Q E hgd hr h => ?_)
  · obtain ⟨a, ns, rfl, _⟩ := h
    rfl
  · obtain ⟨a, ns, rfl, ha, hn, q⟩ := h
    refine ⟨_, (pss_cons (ps_set (i := 1) scLaw.nd rfl (Or.inl rfl) (pe_cl F_LBegin G_LBegin (hr.mono (by decide)) (pa_cons (pv 0) pa_nil)))
      (pss_cons (ps_for PassesOwn.never rfl (pi_range1 (by rfl) T.range (pa_cons pe_int pa_nil)) (pg_name (i := 2) scLaw.nd rfl (Or.inl rfl)) 
          (pss_one (ps_if (pt_not (pt_val (pe_clG F_LRight G_LRight hgd (hr.mono (by decide)) (pa_cons (pv 1) pa_nil)))) 
              (pss_one (ps_ret pe_bl)) pss_nil)))
      (pss_cons (ps_set (i := 3) scLaw.nd rfl (Or.inl rfl) (pe_tup (pa_cons (pe_tup (pa_cons (pe_tup (pa_cons pe_int (pa_cons pe_int pa_nil))) (pa_cons (pe_tup (pa_cons pe_int (pa_cons pe_int pa_nil))) pa_nil))) (pa_cons (pe_tup (pa_cons (pe_tup (pa_cons pe_int (pa_cons pe_int pa_nil))) (pa_cons (pe_tup (pa_cons pe_int (pa_cons pe_int pa_nil))) pa_nil))) pa_nil))))
      (pss_cons (ps_set (i := 4) scLaw.nd rfl (Or.inl rfl) (pe_lst (pa_cons (pe_ix (ix_tK K) (pe_callKW G_BestSpeech (hr.mono (by decide)) (by rfl) F_BestSpeech.mg_ F_BestSpeech.at_.kp B_BestSpeech pass0 (pk_cons (pv 3) (pk_cons pe_int (pk_cons (pe_tup (pa_cons (pe_tup (pa_cons pe_int (pa_cons pe_int pa_nil))) (pa_cons (pe_tup (pa_cons pe_int (pa_cons pe_int pa_nil))) pa_nil))) pk_nil)))) pe_int (fun _ _ => rfl)) (pa_cons (pe_ix (ix_tK K) (pe_cl F_BestSpeech G_BestSpeech (hr.mono (by decide)) (pa_cons (pe_tup (pa_cons (pe_tup (pa_cons pe_int (pa_cons pe_int pa_nil))) (pa_cons (pe_tup (pa_cons pe_int (pa_cons pe_int pa_nil))) pa_nil))) (pa_cons pe_int (pa_cons (pv 3) pa_nil)))) pe_int (fun _ _ => rfl)) pa_nil))))
      (pss_one (ps_ret (pe_clG F_LLike G_LLike hgd (hr.mono (by decide)) (pa_cons (pv 4) (pa_cons (pe_lst (pa_cons (pe_tup (pa_cons pe_int (pa_cons pe_int pa_nil))) (pa_cons (pe_tup (pa_cons pe_int (pa_cons pe_int pa_nil))) pa_nil))) pa_nil))))))))), ?_⟩
    refine ⟨_, rfl, a, ns, rfl, ha, hn, fun H1 d c l s1 st => ?_⟩
    refine ⟨2, rfl, by omega, by omega, ?_⟩
    show ∃ W : Nat → Nat → L2.St → Hp → Prop, _
    refine for_it (n := 2) walk_rng (fun i σ H' => ∃ m z2, St H' d c l m ∧ m ≤ 90 * i ∧ σ = [some (.ref a), some (.ref d), z2, none, none]) ?_ (fun _ _ _ _ _ => trivial) (fun i x σ H2 H' hi h y => ?_) (fun σ H' h => ?_)
    · exact ⟨0, none, st, by omega, rfl⟩
    · obtain ⟨rfl, rfl⟩ := y
      obtain ⟨m, z2, st2, hm, rfl⟩ := h
      exact ⟨_, rfl, d, c, l, m, rfl, st2, by omega, fun H3 m' st3 hm' => ⟨true, rfl, iteF ⟨m', _, st3, by omega, rfl⟩⟩⟩
    · obtain ⟨m, z2, st2, hm, rfl⟩ := h
      refine seq_asg (even_disp (K := K) fun H3 u s3 hu => ?_)
      have b1 : red (best g2 w2 1 (List.range 2) (List.range 2)) 4 = (1, 2) := by decide +kernel
      have b2 : red (best g2 w2 2 (List.range 2) (List.range 2)) 4 = (1, 1) := by decide +kernel
      have sg : Shape g2 2 2 := ⟨rfl, by decide⟩
      have sw : Shape w2 2 2 := ⟨rfl, by decide⟩
      have g9 : ∀ r ∈ g2, ∀ x ∈ r, x ≤ 9 := by decide
      refine ⟨_, rfl, cons_c (cons_of (grid_disp (K := K) fun H4 v s4 hv => ⟨v, u, 1, g2, w2, 2, 2, 4, rfl, hv, sg, by decide, by decide, by decide, by decide, g9, odds_same s4 hu, sw, by decide, by decide, by decide, rfl, fun H5 p f sv t s5 np ep ef d1 d2 d3 => ?_⟩))⟩
      rw [b1] at ef
      refine ⟨p, _, _, _, rfl, rfl, .inl (.inl ep), at0, ?_⟩
      refine cons_of (op_call (cons_of (grid_disp (K := K) fun H6 v' s6 hv' => ⟨_, rfl, v', u, 2, g2, w2, 2, 2, 4, rfl, hv', sg, by decide, by decide, by decide, by decide, g9, odds_same (s4.trans (s5.trans s6)) hu, sw, by decide, by decide, by decide, rfl, fun H7 p' f' sv' t' s7 np' ep' ef' d1' d2' d3' => ?_⟩)))
      rw [b2] at ef'
      refine ⟨p', _, _, _, rfl, rfl, .inl (.inl ep'), at0, sz (by show 2 ≤ _; omega), fun lg nlg => ?_⟩
      have s8 := L2.Same.new (o := .lst [V.ref f, .ref f']) nlg
      refine ⟨_, rfl, sz (by show 2 ≤ _; omega), fun x1 nx1 => ⟨sz (by show 2 ≤ _; omega), fun x2 nx2 => ⟨sz (by show 2 ≤ _; omega), fun x3 nx3 => ?_⟩⟩⟩
      have s9 := L2.Same.new (o := .tup [V.int 1, .int 2]) nx1
      have s10 := L2.Same.new (o := .tup [V.int 1, .int 1]) nx2
      have s11 := L2.Same.new (o := .lst [V.ref x1, .ref x2]) nx3
      have sh : Shows (.list [.tuple [.int 1, .int 2], .tuple [.int 1, .int 1]]) := ⟨rfl, by decide +kernel, by decide +kernel, by decide +kernel, by decide +kernel, by decide +kernel⟩
      have t9 := s9.trans (s10.trans s11)
      refine ⟨.ref lg, .ref x3, .list [.tuple [.int 1, .int 2], .tuple [.int 1, .int 1]], rfl, .lst (.inl (.inl (t9 _ _ upd_same))) (.cons (.tup (.inl (.inl ((s6.trans (s7.trans (s8.trans t9))) _ _ ef))) (.cons (.int 1) (.cons (.int 2) .nil))) (.cons (.tup (.inl (.inl ((s8.trans t9) _ _ ef'))) (.cons (.int 1) (.cons (.int 1) .nil))) .nil)), .lst (.inl (.inl upd_same)) (.cons (.tup (.inl (.inl ((s10.trans s11) _ _ upd_same))) (.cons (.int 1) (.cons (.int 2) .nil))) (.cons (.tup (.inl (.inl (s11 _ _ upd_same))) (.cons (.int 1) (.cons (.int 1) .nil))) .nil)), sh, q _⟩
end
end My
set_option Elab.async false
set_option linter.all false
set_option maxRecDepth 100000
set_option maxHeartbeats 2000000
/-! the end -/
namespace My
open PySem PySem.Spec PyProof.Rows L2 Bs
theorem fnAt_mk {K : PySem.W.Frag} {h : Heap} {mg : Str → Option Value} (X : K.In h) (G : h.Ns mainGlobals mg) {x : Str} {st : Stmt} {ps : List Str} {f : Addr} {oc : Value} {od an : Option Addr} {osl : Array (Option Value)} {kV doc pm cdv ct : Value}
    (a : PySem.W.nsIn K mainGlobals x = some (some (.ref f))) (l : K.lookup f = some ⟨oc, od, .func (PySem.W.fnOf x x (defArgs st) (defBody st) (defScope st) .none kV doc pm an cdv ct), osl⟩) (c : PySem.W.codeIn K cdv x = true) (k : PySem.W.keepIn K (.ref f) = true)
    (hb : ∀ (kV doc pm : Value) (an : Option Addr) (cdv ct : Value) (us : List Value), us.length = ps.length → bindArgs (PySem.W.fnOf x x (defArgs st) (defBody st) (defScope st) .none kV doc pm an cdv ct) ⟨us, []⟩ = pure (ps.zip us)) :
    FnAt K mg x st ps f (PySem.W.fnOf x x (defArgs st) (defBody st) (defScope st) .none kV doc pm an cdv ct) := ⟨fun_mk (st := st) l c k, PySem.W.mg_of X G a, (fun_mk (st := st) l c k).binds hb⟩
theorem pair_at {K : PySem.W.Frag} {a : Addr} {od : Option Addr} {sl : Array (Option Value)} {n : Nat} {i j : Int} {t u : Tok} (l : K.lookup a = some ⟨.type "tuple", od, .seq #[.int i t, .int j u] n, sl⟩) (H : Hp) : SqT K H a [.int i, .int j] :=
  .inr ⟨_, _, n, l, rfl, rfl, by show 2 ≤ _; exact sz (by omega), .cons ⟨t, rfl⟩ (.cons ⟨u, rfl⟩ .nil)⟩
theorem all_mk {l : PySem.W.OpenLaw} {w : World} {K : PySem.W.Frag} {h : Heap} {mg : Str → Option Value} {fa : Addr} (X : K.In h) (G : h.Ns mainGlobals mg) (hfa : mg "law" = some (.ref fa))
    {f0 : Addr} {od0 an0 : Option Addr} {sl0 : Array (Option Value)} {oc0 kV0 dc0 pm0 cd0 ct0 : Value}
    (a0 : PySem.W.nsIn K mainGlobals "places_in" = some (some (.ref f0))) (l0 : K.lookup f0 = some ⟨oc0, od0, .func (PySem.W.fnOf "places_in" "places_in" (defArgs sPlacesIn) (defBody sPlacesIn) (defScope sPlacesIn) .none kV0 dc0 pm0 an0 cd0 ct0), sl0⟩) (c0 : PySem.W.codeIn K cd0 "places_in" = true) (k0 : PySem.W.keepIn K (.ref f0) = true)
    {f1 : Addr} {od1 an1 : Option Addr} {sl1 : Array (Option Value)} {oc1 kV1 dc1 pm1 cd1 ct1 : Value}
    (a1 : PySem.W.nsIn K mainGlobals "reduced_so" = some (some (.ref f1))) (l1 : K.lookup f1 = some ⟨oc1, od1, .func (PySem.W.fnOf "reduced_so" "reduced_so" (defArgs sReducedSo) (defBody sReducedSo) (defScope sReducedSo) .none kV1 dc1 pm1 an1 cd1 ct1), sl1⟩) (c1 : PySem.W.codeIn K cd1 "reduced_so" = true) (k1 : PySem.W.keepIn K (.ref f1) = true)
    {f2 : Addr} {od2 an2 : Option Addr} {sl2 : Array (Option Value)} {oc2 kV2 dc2 pm2 cd2 ct2 : Value}
    (a2 : PySem.W.nsIn K mainGlobals "plus_so" = some (some (.ref f2))) (l2 : K.lookup f2 = some ⟨oc2, od2, .func (PySem.W.fnOf "plus_so" "plus_so" (defArgs sPlusSo) (defBody sPlusSo) (defScope sPlusSo) .none kV2 dc2 pm2 an2 cd2 ct2), sl2⟩) (c2 : PySem.W.codeIn K cd2 "plus_so" = true) (k2 : PySem.W.keepIn K (.ref f2) = true)
    {f3 : Addr} {od3 an3 : Option Addr} {sl3 : Array (Option Value)} {oc3 kV3 dc3 pm3 cd3 ct3 : Value}
    (a3 : PySem.W.nsIn K mainGlobals "sum_so" = some (some (.ref f3))) (l3 : K.lookup f3 = some ⟨oc3, od3, .func (PySem.W.fnOf "sum_so" "sum_so" (defArgs sSumSo) (defBody sSumSo) (defScope sSumSo) .none kV3 dc3 pm3 an3 cd3 ct3), sl3⟩) (c3 : PySem.W.codeIn K cd3 "sum_so" = true) (k3 : PySem.W.keepIn K (.ref f3) = true)
    {f4 : Addr} {od4 an4 : Option Addr} {sl4 : Array (Option Value)} {oc4 kV4 dc4 pm4 cd4 ct4 : Value}
    (a4 : PySem.W.nsIn K mainGlobals "is_from" = some (some (.ref f4))) (l4 : K.lookup f4 = some ⟨oc4, od4, .func (PySem.W.fnOf "is_from" "is_from" (defArgs sIsFrom) (defBody sIsFrom) (defScope sIsFrom) .none kV4 dc4 pm4 an4 cd4 ct4), sl4⟩) (c4 : PySem.W.codeIn K cd4 "is_from" = true) (k4 : PySem.W.keepIn K (.ref f4) = true)
    {f5 : Addr} {od5 an5 : Option Addr} {sl5 : Array (Option Value)} {oc5 kV5 dc5 pm5 cd5 ct5 : Value}
    (a5 : PySem.W.nsIn K mainGlobals "is_fraction" = some (some (.ref f5))) (l5 : K.lookup f5 = some ⟨oc5, od5, .func (PySem.W.fnOf "is_fraction" "is_fraction" (defArgs sIsFraction) (defBody sIsFraction) (defScope sIsFraction) .none kV5 dc5 pm5 an5 cd5 ct5), sl5⟩) (c5 : PySem.W.codeIn K cd5 "is_fraction" = true) (k5 : PySem.W.keepIn K (.ref f5) = true)
    {f6 : Addr} {od6 an6 : Option Addr} {sl6 : Array (Option Value)} {oc6 kV6 dc6 pm6 cd6 ct6 : Value}
    (a6 : PySem.W.nsIn K mainGlobals "all_items" = some (some (.ref f6))) (l6 : K.lookup f6 = some ⟨oc6, od6, .func (PySem.W.fnOf "all_items" "all_items" (defArgs sAllItems) (defBody sAllItems) (defScope sAllItems) .none kV6 dc6 pm6 an6 cd6 ct6), sl6⟩) (c6 : PySem.W.codeIn K cd6 "all_items" = true) (k6 : PySem.W.keepIn K (.ref f6) = true)
    {f7 : Addr} {od7 an7 : Option Addr} {sl7 : Array (Option Value)} {oc7 kV7 dc7 pm7 cd7 ct7 : Value}
    (a7 : PySem.W.nsIn K mainGlobals "check_grid" = some (some (.ref f7))) (l7 : K.lookup f7 = some ⟨oc7, od7, .func (PySem.W.fnOf "check_grid" "check_grid" (defArgs sCheckGrid) (defBody sCheckGrid) (defScope sCheckGrid) .none kV7 dc7 pm7 an7 cd7 ct7), sl7⟩) (c7 : PySem.W.codeIn K cd7 "check_grid" = true) (k7 : PySem.W.keepIn K (.ref f7) = true)
    {f8 : Addr} {od8 an8 : Option Addr} {sl8 : Array (Option Value)} {oc8 kV8 dc8 pm8 cd8 ct8 : Value}
    (a8 : PySem.W.nsIn K mainGlobals "check_small" = some (some (.ref f8))) (l8 : K.lookup f8 = some ⟨oc8, od8, .func (PySem.W.fnOf "check_small" "check_small" (defArgs sCheckSmall) (defBody sCheckSmall) (defScope sCheckSmall) .none kV8 dc8 pm8 an8 cd8 ct8), sl8⟩) (c8 : PySem.W.codeIn K cd8 "check_small" = true) (k8 : PySem.W.keepIn K (.ref f8) = true)
    {f9 : Addr} {od9 an9 : Option Addr} {sl9 : Array (Option Value)} {oc9 kV9 dc9 pm9 cd9 ct9 : Value}
    (a9 : PySem.W.nsIn K mainGlobals "is_odds" = some (some (.ref f9))) (l9 : K.lookup f9 = some ⟨oc9, od9, .func (PySem.W.fnOf "is_odds" "is_odds" (defArgs sIsOdds) (defBody sIsOdds) (defScope sIsOdds) .none kV9 dc9 pm9 an9 cd9 ct9), sl9⟩) (c9 : PySem.W.codeIn K cd9 "is_odds" = true) (k9 : PySem.W.keepIn K (.ref f9) = true)
    {f10 : Addr} {od10 an10 : Option Addr} {sl10 : Array (Option Value)} {oc10 kV10 dc10 pm10 cd10 ct10 : Value}
    (a10 : PySem.W.nsIn K mainGlobals "weights_of" = some (some (.ref f10))) (l10 : K.lookup f10 = some ⟨oc10, od10, .func (PySem.W.fnOf "weights_of" "weights_of" (defArgs sWeightsOf) (defBody sWeightsOf) (defScope sWeightsOf) .none kV10 dc10 pm10 an10 cd10 ct10), sl10⟩) (c10 : PySem.W.codeIn K cd10 "weights_of" = true) (k10 : PySem.W.keepIn K (.ref f10) = true)
    {f11 : Addr} {od11 an11 : Option Addr} {sl11 : Array (Option Value)} {oc11 kV11 dc11 pm11 cd11 ct11 : Value}
    (a11 : PySem.W.nsIn K mainGlobals "sides_of" = some (some (.ref f11))) (l11 : K.lookup f11 = some ⟨oc11, od11, .func (PySem.W.fnOf "sides_of" "sides_of" (defArgs sSidesOf) (defBody sSidesOf) (defScope sSidesOf) .none kV11 dc11 pm11 an11 cd11 ct11), sl11⟩) (c11 : PySem.W.codeIn K cd11 "sides_of" = true) (k11 : PySem.W.keepIn K (.ref f11) = true)
    {f12 : Addr} {od12 an12 : Option Addr} {sl12 : Array (Option Value)} {oc12 kV12 dc12 pm12 cd12 ct12 : Value}
    (a12 : PySem.W.nsIn K mainGlobals "all_rectangles" = some (some (.ref f12))) (l12 : K.lookup f12 = some ⟨oc12, od12, .func (PySem.W.fnOf "all_rectangles" "all_rectangles" (defArgs sAllRectangles) (defBody sAllRectangles) (defScope sAllRectangles) .none kV12 dc12 pm12 an12 cd12 ct12), sl12⟩) (c12 : PySem.W.codeIn K cd12 "all_rectangles" = true) (k12 : PySem.W.keepIn K (.ref f12) = true)
    {f13 : Addr} {od13 an13 : Option Addr} {sl13 : Array (Option Value)} {oc13 kV13 dc13 pm13 cd13 ct13 : Value}
    (a13 : PySem.W.nsIn K mainGlobals "best_end" = some (some (.ref f13))) (l13 : K.lookup f13 = some ⟨oc13, od13, .func (PySem.W.fnOf "best_end" "best_end" (defArgs sBestEnd) (defBody sBestEnd) (defScope sBestEnd) .none kV13 dc13 pm13 an13 cd13 ct13), sl13⟩) (c13 : PySem.W.codeIn K cd13 "best_end" = true) (k13 : PySem.W.keepIn K (.ref f13) = true)
    {f14 : Addr} {od14 an14 : Option Addr} {sl14 : Array (Option Value)} {oc14 kV14 dc14 pm14 cd14 ct14 : Value}
    (a14 : PySem.W.nsIn K mainGlobals "best_split" = some (some (.ref f14))) (l14 : K.lookup f14 = some ⟨oc14, od14, .func (PySem.W.fnOf "best_split" "best_split" (defArgs sBestSplit) (defBody sBestSplit) (defScope sBestSplit) .none kV14 dc14 pm14 an14 cd14 ct14), sl14⟩) (c14 : PySem.W.codeIn K cd14 "best_split" = true) (k14 : PySem.W.keepIn K (.ref f14) = true)
    {f15 : Addr} {od15 an15 : Option Addr} {sl15 : Array (Option Value)} {oc15 kV15 dc15 pm15 cd15 ct15 : Value}
    (a15 : PySem.W.nsIn K mainGlobals "better_so" = some (some (.ref f15))) (l15 : K.lookup f15 = some ⟨oc15, od15, .func (PySem.W.fnOf "better_so" "better_so" (defArgs sBetterSo) (defBody sBetterSo) (defScope sBetterSo) .none kV15 dc15 pm15 an15 cd15 ct15), sl15⟩) (c15 : PySem.W.codeIn K cd15 "better_so" = true) (k15 : PySem.W.keepIn K (.ref f15) = true)
    {f16 : Addr} {od16 an16 : Option Addr} {sl16 : Array (Option Value)} {oc16 kV16 dc16 pm16 cd16 ct16 : Value}
    (a16 : PySem.W.nsIn K mainGlobals "best_whole" = some (some (.ref f16))) (l16 : K.lookup f16 = some ⟨oc16, od16, .func (PySem.W.fnOf "best_whole" "best_whole" (defArgs sBestWhole) (defBody sBestWhole) (defScope sBestWhole) .none kV16 dc16 pm16 an16 cd16 ct16), sl16⟩) (c16 : PySem.W.codeIn K cd16 "best_whole" = true) (k16 : PySem.W.keepIn K (.ref f16) = true)
    {f17 : Addr} {od17 an17 : Option Addr} {sl17 : Array (Option Value)} {oc17 kV17 dc17 pm17 cd17 ct17 : Value}
    (a17 : PySem.W.nsIn K mainGlobals "answer_so" = some (some (.ref f17))) (l17 : K.lookup f17 = some ⟨oc17, od17, .func (PySem.W.fnOf "answer_so" "answer_so" (defArgs sAnswerSo) (defBody sAnswerSo) (defScope sAnswerSo) .none kV17 dc17 pm17 an17 cd17 ct17), sl17⟩) (c17 : PySem.W.codeIn K cd17 "answer_so" = true) (k17 : PySem.W.keepIn K (.ref f17) = true)
    {f18 : Addr} {od18 an18 : Option Addr} {sl18 : Array (Option Value)} {oc18 kV18 dc18 pm18 cd18 ct18 : Value}
    (a18 : PySem.W.nsIn K mainGlobals "best_speech" = some (some (.ref f18))) (l18 : K.lookup f18 = some ⟨oc18, od18, .func (PySem.W.fnOf "best_speech" "best_speech" (defArgs sBestSpeech) (defBody sBestSpeech) (defScope sBestSpeech) .none kV18 dc18 pm18 an18 cd18 ct18), sl18⟩) (c18 : PySem.W.codeIn K cd18 "best_speech" = true) (k18 : PySem.W.keepIn K (.ref f18) = true)
    {f19 : Addr} {od19 an19 : Option Addr} {sl19 : Array (Option Value)} {oc19 kV19 dc19 pm19 cd19 ct19 : Value}
    (a19 : PySem.W.nsIn K mainGlobals "_law_mixed" = some (some (.ref f19))) (l19 : K.lookup f19 = some ⟨oc19, od19, .func (PySem.W.fnOf "_law_mixed" "_law_mixed" (defArgs sLMixed) (defBody sLMixed) (defScope sLMixed) .none kV19 dc19 pm19 an19 cd19 ct19), sl19⟩) (c19 : PySem.W.codeIn K cd19 "_law_mixed" = true) (k19 : PySem.W.keepIn K (.ref f19) = true)
    {f20 : Addr} {od20 an20 : Option Addr} {sl20 : Array (Option Value)} {oc20 kV20 dc20 pm20 cd20 ct20 : Value}
    (a20 : PySem.W.nsIn K mainGlobals "_law_begin" = some (some (.ref f20))) (l20 : K.lookup f20 = some ⟨oc20, od20, .func (PySem.W.fnOf "_law_begin" "_law_begin" (defArgs sLBegin) (defBody sLBegin) (defScope sLBegin) .none kV20 dc20 pm20 an20 cd20 ct20), sl20⟩) (c20 : PySem.W.codeIn K cd20 "_law_begin" = true) (k20 : PySem.W.keepIn K (.ref f20) = true)
    {f21 : Addr} {od21 an21 : Option Addr} {sl21 : Array (Option Value)} {oc21 kV21 dc21 pm21 cd21 ct21 : Value}
    (a21 : PySem.W.nsIn K mainGlobals "_law_draw" = some (some (.ref f21))) (l21 : K.lookup f21 = some ⟨oc21, od21, .func (PySem.W.fnOf "_law_draw" "_law_draw" (defArgs sLDraw) (defBody sLDraw) (defScope sLDraw) .none kV21 dc21 pm21 an21 cd21 ct21), sl21⟩) (c21 : PySem.W.codeIn K cd21 "_law_draw" = true) (k21 : PySem.W.keepIn K (.ref f21) = true)
    {f22 : Addr} {od22 an22 : Option Addr} {sl22 : Array (Option Value)} {oc22 kV22 dc22 pm22 cd22 ct22 : Value}
    (a22 : PySem.W.nsIn K mainGlobals "_law_grid" = some (some (.ref f22))) (l22 : K.lookup f22 = some ⟨oc22, od22, .func (PySem.W.fnOf "_law_grid" "_law_grid" (defArgs sLGrid) (defBody sLGrid) (defScope sLGrid) .none kV22 dc22 pm22 an22 cd22 ct22), sl22⟩) (c22 : PySem.W.codeIn K cd22 "_law_grid" = true) (k22 : PySem.W.keepIn K (.ref f22) = true)
    {f23 : Addr} {od23 an23 : Option Addr} {sl23 : Array (Option Value)} {oc23 kV23 dc23 pm23 cd23 ct23 : Value}
    (a23 : PySem.W.nsIn K mainGlobals "_law_lots" = some (some (.ref f23))) (l23 : K.lookup f23 = some ⟨oc23, od23, .func (PySem.W.fnOf "_law_lots" "_law_lots" (defArgs sLLots) (defBody sLLots) (defScope sLLots) .none kV23 dc23 pm23 an23 cd23 ct23), sl23⟩) (c23 : PySem.W.codeIn K cd23 "_law_lots" = true) (k23 : PySem.W.keepIn K (.ref f23) = true)
    {f24 : Addr} {od24 an24 : Option Addr} {sl24 : Array (Option Value)} {oc24 kV24 dc24 pm24 cd24 ct24 : Value}
    (a24 : PySem.W.nsIn K mainGlobals "_law_divisor" = some (some (.ref f24))) (l24 : K.lookup f24 = some ⟨oc24, od24, .func (PySem.W.fnOf "_law_divisor" "_law_divisor" (defArgs sLDivisor) (defBody sLDivisor) (defScope sLDivisor) .none kV24 dc24 pm24 an24 cd24 ct24), sl24⟩) (c24 : PySem.W.codeIn K cd24 "_law_divisor" = true) (k24 : PySem.W.keepIn K (.ref f24) = true)
    {f25 : Addr} {od25 an25 : Option Addr} {sl25 : Array (Option Value)} {oc25 kV25 dc25 pm25 cd25 ct25 : Value}
    (a25 : PySem.W.nsIn K mainGlobals "_law_share" = some (some (.ref f25))) (l25 : K.lookup f25 = some ⟨oc25, od25, .func (PySem.W.fnOf "_law_share" "_law_share" (defArgs sLShare) (defBody sLShare) (defScope sLShare) .none kV25 dc25 pm25 an25 cd25 ct25), sl25⟩) (c25 : PySem.W.codeIn K cd25 "_law_share" = true) (k25 : PySem.W.keepIn K (.ref f25) = true)
    {f26 : Addr} {od26 an26 : Option Addr} {sl26 : Array (Option Value)} {oc26 kV26 dc26 pm26 cd26 ct26 : Value}
    (a26 : PySem.W.nsIn K mainGlobals "_law_weights" = some (some (.ref f26))) (l26 : K.lookup f26 = some ⟨oc26, od26, .func (PySem.W.fnOf "_law_weights" "_law_weights" (defArgs sLWeights) (defBody sLWeights) (defScope sLWeights) .none kV26 dc26 pm26 an26 cd26 ct26), sl26⟩) (c26 : PySem.W.codeIn K cd26 "_law_weights" = true) (k26 : PySem.W.keepIn K (.ref f26) = true)
    {f27 : Addr} {od27 an27 : Option Addr} {sl27 : Array (Option Value)} {oc27 kV27 dc27 pm27 cd27 ct27 : Value}
    (a27 : PySem.W.nsIn K mainGlobals "_law_odds" = some (some (.ref f27))) (l27 : K.lookup f27 = some ⟨oc27, od27, .func (PySem.W.fnOf "_law_odds" "_law_odds" (defArgs sLOdds) (defBody sLOdds) (defScope sLOdds) .none kV27 dc27 pm27 an27 cd27 ct27), sl27⟩) (c27 : PySem.W.codeIn K cd27 "_law_odds" = true) (k27 : PySem.W.keepIn K (.ref f27) = true)
    {f28 : Addr} {od28 an28 : Option Addr} {sl28 : Array (Option Value)} {oc28 kV28 dc28 pm28 cd28 ct28 : Value}
    (a28 : PySem.W.nsIn K mainGlobals "_law_best" = some (some (.ref f28))) (l28 : K.lookup f28 = some ⟨oc28, od28, .func (PySem.W.fnOf "_law_best" "_law_best" (defArgs sLBest) (defBody sLBest) (defScope sLBest) .none kV28 dc28 pm28 an28 cd28 ct28), sl28⟩) (c28 : PySem.W.codeIn K cd28 "_law_best" = true) (k28 : PySem.W.keepIn K (.ref f28) = true)
    {f29 : Addr} {od29 an29 : Option Addr} {sl29 : Array (Option Value)} {oc29 kV29 dc29 pm29 cd29 ct29 : Value}
    (a29 : PySem.W.nsIn K mainGlobals "_law_weight_of" = some (some (.ref f29))) (l29 : K.lookup f29 = some ⟨oc29, od29, .func (PySem.W.fnOf "_law_weight_of" "_law_weight_of" (defArgs sLWeightOf) (defBody sLWeightOf) (defScope sLWeightOf) .none kV29 dc29 pm29 an29 cd29 ct29), sl29⟩) (c29 : PySem.W.codeIn K cd29 "_law_weight_of" = true) (k29 : PySem.W.keepIn K (.ref f29) = true)
    {f30 : Addr} {od30 an30 : Option Addr} {sl30 : Array (Option Value)} {oc30 kV30 dc30 pm30 cd30 ct30 : Value}
    (a30 : PySem.W.nsIn K mainGlobals "_law_like" = some (some (.ref f30))) (l30 : K.lookup f30 = some ⟨oc30, od30, .func (PySem.W.fnOf "_law_like" "_law_like" (defArgs sLLike) (defBody sLLike) (defScope sLLike) .none kV30 dc30 pm30 an30 cd30 ct30), sl30⟩) (c30 : PySem.W.codeIn K cd30 "_law_like" = true) (k30 : PySem.W.keepIn K (.ref f30) = true)
    {f31 : Addr} {od31 an31 : Option Addr} {sl31 : Array (Option Value)} {oc31 kV31 dc31 pm31 cd31 ct31 : Value}
    (a31 : PySem.W.nsIn K mainGlobals "_law_right" = some (some (.ref f31))) (l31 : K.lookup f31 = some ⟨oc31, od31, .func (PySem.W.fnOf "_law_right" "_law_right" (defArgs sLRight) (defBody sLRight) (defScope sLRight) .none kV31 dc31 pm31 an31 cd31 ct31), sl31⟩) (c31 : PySem.W.codeIn K cd31 "_law_right" = true) (k31 : PySem.W.keepIn K (.ref f31) = true)
    {f32 : Addr} {od32 an32 : Option Addr} {sl32 : Array (Option Value)} {oc32 kV32 dc32 pm32 cd32 ct32 : Value}
    (a32 : PySem.W.nsIn K mainGlobals "law" = some (some (.ref f32))) (l32 : K.lookup f32 = some ⟨oc32, od32, .func (PySem.W.fnOf "law" "law" (defArgs sLaw) (defBody sLaw) (defScope sLaw) .none kV32 dc32 pm32 an32 cd32 ct32), sl32⟩) (c32 : PySem.W.codeIn K cd32 "law" = true) (k32 : PySem.W.keepIn K (.ref f32) = true)
    (z0 : PySem.W.nsIn K mainGlobals "len" = some none)
    (z1 : PySem.W.nsIn K mainGlobals "range" = some none)
    (z2 : PySem.W.nsIn K mainGlobals "tuple" = some none)
    (z3 : PySem.W.nsIn K mainGlobals "list" = some none)
    (z4 : PySem.W.nsIn K mainGlobals "int" = some none)
    (z5 : PySem.W.nsIn K mainGlobals "bool" = some none)
    (z6 : PySem.W.nsIn K mainGlobals "isinstance" = some none)
    (z7 : PySem.W.nsIn K mainGlobals "enumerate" = some none)
    (z8 : PySem.W.nsIn K mainGlobals "max" = some none)
    (z9 : PySem.W.nsIn K mainGlobals "min" = some none)
    (z10 : PySem.W.nsIn K mainGlobals "sum" = some none)
    (z11 : PySem.W.nsIn K mainGlobals "zip" = some none)
    (z12 : PySem.W.nsIn K mainGlobals "repr" = some none)
    (gc : PySem.W.nsIn K mainGlobals "gcd" = some (some (.builtin "math.gcd")))
    {t0 : Tok} (n0 : PySem.W.nsIn K mainGlobals "MOST_SIDE_hands" = some (some (.int 6 t0)))
    {t1 : Tok} (n1 : PySem.W.nsIn K mainGlobals "MOST_INTEGER" = some (some (.int 9 t1)))
    {t2 : Tok} (n2 : PySem.W.nsIn K mainGlobals "MOST_SIDE_chances" = some (some (.int 4 t2)))
    {t3 : Tok} (n3 : PySem.W.nsIn K mainGlobals "MOST_BITS" = some (some (.int 2 t3)))
    {p0 : Addr} {pd0 : Option Addr} {pl0 : Array (Option Value)} {pn0 : Nat} {pt0 pu0 : Tok} (m0 : PySem.W.nsIn K mainGlobals "NONE" = some (some (.ref p0))) (r0 : K.lookup p0 = some ⟨.type "tuple", pd0, .seq #[.int 0 pt0, .int 1 pu0] pn0, pl0⟩)
    {p1 : Addr} {pd1 : Option Addr} {pl1 : Array (Option Value)} {pn1 : Nat} {pt1 pu1 : Tok} (m1 : PySem.W.nsIn K mainGlobals "WHOLE" = some (some (.ref p1))) (r1 : K.lookup p1 = some ⟨.type "tuple", pd1, .seq #[.int 1 pt1, .int 1 pu1] pn1, pl1⟩) :
    ∃ fd : FuncData, (∀ (s : Shared) (v : Value), BindsTo s fd ⟨[v], []⟩ [("_law_script", v)]) ∧ ∀ base : Heap, K.In base → base.Ns mainGlobals mg → FnG l.prog w K mg base 14 fa fd ["_law_script"] (spLaw K) := by
  have e := hfa.symm.trans (PySem.W.mg_of X G a32)
  cases e
  have T : Txt K mg := ⟨PySem.W.mg_of X G gc, PySem.W.mg_none_of X G z0, PySem.W.mg_none_of X G z1, PySem.W.mg_none_of X G z2, PySem.W.mg_none_of X G z3, PySem.W.mg_none_of X G z4, PySem.W.mg_none_of X G z5, PySem.W.mg_none_of X G z6, PySem.W.mg_none_of X G z7, PySem.W.mg_none_of X G z8, PySem.W.mg_none_of X G z9, PySem.W.mg_none_of X G z10, PySem.W.mg_none_of X G z11, PySem.W.mg_none_of X G z12, ⟨_, PySem.W.mg_of X G n0⟩, ⟨_, PySem.W.mg_of X G n1⟩, ⟨_, PySem.W.mg_of X G n2⟩, ⟨_, PySem.W.mg_of X G n3⟩, ⟨_, PySem.W.mg_of X G m0, pair_at r0⟩, ⟨_, PySem.W.mg_of X G m1, pair_at r1⟩⟩
  have F_PlacesIn : FnAt K mg "places_in" sPlacesIn ["number"] f0 _ := fnAt_mk X G a0 l0 c0 k0 fun _ _ _ _ _ _ us hl => match us, hl with | [_], _ => rfl
  have F_ReducedSo : FnAt K mg "reduced_so" sReducedSo ["above", "below"] f1 _ := fnAt_mk X G a1 l1 c1 k1 fun _ _ _ _ _ _ us hl => match us, hl with | [_, _], _ => rfl
  have F_PlusSo : FnAt K mg "plus_so" sPlusSo ["one", "other"] f2 _ := fnAt_mk X G a2 l2 c2 k2 fun _ _ _ _ _ _ us hl => match us, hl with | [_, _], _ => rfl
  have F_SumSo : FnAt K mg "sum_so" sSumSo ["some"] f3 _ := fnAt_mk X G a3 l3 c3 k3 fun _ _ _ _ _ _ us hl => match us, hl with | [_], _ => rfl
  have F_IsFrom : FnAt K mg "is_from" sIsFrom ["value", "low", "high"] f4 _ := fnAt_mk X G a4 l4 c4 k4 fun _ _ _ _ _ _ us hl => match us, hl with | [_, _, _], _ => rfl
  have F_IsFraction : FnAt K mg "is_fraction" sIsFraction ["value"] f5 _ := fnAt_mk X G a5 l5 c5 k5 fun _ _ _ _ _ _ us hl => match us, hl with | [_], _ => rfl
  have F_AllItems : FnAt K mg "all_items" sAllItems ["lines"] f6 _ := fnAt_mk X G a6 l6 c6 k6 fun _ _ _ _ _ _ us hl => match us, hl with | [_], _ => rfl
  have F_CheckGrid : FnAt K mg "check_grid" sCheckGrid ["value"] f7 _ := fnAt_mk X G a7 l7 c7 k7 fun _ _ _ _ _ _ us hl => match us, hl with | [_], _ => rfl
  have F_CheckSmall : FnAt K mg "check_small" sCheckSmall ["grid", "bits"] f8 _ := fnAt_mk X G a8 l8 c8 k8 fun _ _ _ _ _ _ us hl => match us, hl with | [_, _], _ => rfl
  have F_IsOdds : FnAt K mg "is_odds" sIsOdds ["grid", "value"] f9 _ := fnAt_mk X G a9 l9 c9 k9 fun _ _ _ _ _ _ us hl => match us, hl with | [_, _], _ => rfl
  have F_WeightsOf : FnAt K mg "weights_of" sWeightsOf ["odds"] f10 _ := fnAt_mk X G a10 l10 c10 k10 fun _ _ _ _ _ _ us hl => match us, hl with | [_], _ => rfl
  have F_SidesOf : FnAt K mg "sides_of" sSidesOf ["number"] f11 _ := fnAt_mk X G a11 l11 c11 k11 fun _ _ _ _ _ _ us hl => match us, hl with | [_], _ => rfl
  have F_AllRectangles : FnAt K mg "all_rectangles" sAllRectangles ["grid"] f12 _ := fnAt_mk X G a12 l12 c12 k12 fun _ _ _ _ _ _ us hl => match us, hl with | [_], _ => rfl
  have F_BestEnd : FnAt K mg "best_end" sBestEnd ["grid", "weights", "rows", "columns"] f13 _ := fnAt_mk X G a13 l13 c13 k13 fun _ _ _ _ _ _ us hl => match us, hl with | [_, _, _, _], _ => rfl
  have F_BestSplit : FnAt K mg "best_split" sBestSplit ["known", "rows", "columns"] f14 _ := fnAt_mk X G a14 l14 c14 k14 fun _ _ _ _ _ _ us hl => match us, hl with | [_, _, _], _ => rfl
  have F_BetterSo : FnAt K mg "better_so" sBetterSo ["known", "rectangle"] f15 _ := fnAt_mk X G a15 l15 c15 k15 fun _ _ _ _ _ _ us hl => match us, hl with | [_, _], _ => rfl
  have F_BestWhole : FnAt K mg "best_whole" sBestWhole ["grid", "weights", "bits"] f16 _ := fnAt_mk X G a16 l16 c16 k16 fun _ _ _ _ _ _ us hl => match us, hl with | [_, _, _], _ => rfl
  have F_AnswerSo : FnAt K mg "answer_so" sAnswerSo ["grid", "bits", "odds"] f17 _ := fnAt_mk X G a17 l17 c17 k17 fun _ _ _ _ _ _ us hl => match us, hl with | [_, _, _], _ => rfl
  have F_BestSpeech : FnAt K mg "best_speech" sBestSpeech ["grid", "bits", "odds"] f18 _ := fnAt_mk X G a18 l18 c18 k18 fun _ _ _ _ _ _ us hl => match us, hl with | [_, _, _], _ => rfl
  have F_LMixed : FnAt K mg "_law_mixed" sLMixed ["_law_cell", "_law_k"] f19 _ := fnAt_mk X G a19 l19 c19 k19 fun _ _ _ _ _ _ us hl => match us, hl with | [_, _], _ => rfl
  have F_LBegin : FnAt K mg "_law_begin" sLBegin ["_law_script"] f20 _ := fnAt_mk X G a20 l20 c20 k20 fun _ _ _ _ _ _ us hl => match us, hl with | [_], _ => rfl
  have F_LDraw : FnAt K mg "_law_draw" sLDraw ["_law_state", "_law_limit"] f21 _ := fnAt_mk X G a21 l21 c21 k21 fun _ _ _ _ _ _ us hl => match us, hl with | [_, _], _ => rfl
  have F_LGrid : FnAt K mg "_law_grid" sLGrid ["_law_state", "_law_high", "_law_wide", "_law_kinds"] f22 _ := fnAt_mk X G a22 l22 c22 k22 fun _ _ _ _ _ _ us hl => match us, hl with | [_, _, _, _], _ => rfl
  have F_LLots : FnAt K mg "_law_lots" sLLots ["_law_some"] f23 _ := fnAt_mk X G a23 l23 c23 k23 fun _ _ _ _ _ _ us hl => match us, hl with | [_], _ => rfl
  have F_LDivisor : FnAt K mg "_law_divisor" sLDivisor ["_law_one", "_law_beside"] f24 _ := fnAt_mk X G a24 l24 c24 k24 fun _ _ _ _ _ _ us hl => match us, hl with | [_, _], _ => rfl
  have F_LShare : FnAt K mg "_law_share" sLShare ["_law_above", "_law_below"] f25 _ := fnAt_mk X G a25 l25 c25 k25 fun _ _ _ _ _ _ us hl => match us, hl with | [_, _], _ => rfl
  have F_LWeights : FnAt K mg "_law_weights" sLWeights ["_law_state", "_law_told_grid"] f26 _ := fnAt_mk X G a26 l26 c26 k26 fun _ _ _ _ _ _ us hl => match us, hl with | [_, _], _ => rfl
  have F_LOdds : FnAt K mg "_law_odds" sLOdds ["_law_weights_so"] f27 _ := fnAt_mk X G a27 l27 c27 k27 fun _ _ _ _ _ _ us hl => match us, hl with | [_], _ => rfl
  have F_LBest : FnAt K mg "_law_best" sLBest ["_law_told_grid", "_law_weights_so", "_law_most", "_law_near", "_law_far", "_law_known"] f28 _ := fnAt_mk X G a28 l28 c28 k28 fun _ _ _ _ _ _ us hl => match us, hl with | [_, _, _, _, _, _], _ => rfl
  have F_LWeightOf : FnAt K mg "_law_weight_of" sLWeightOf ["_law_told_grid", "_law_weights_so", "_law_most", "_law_told_so"] f29 _ := fnAt_mk X G a29 l29 c29 k29 fun _ _ _ _ _ _ us hl => match us, hl with | [_, _, _, _], _ => rfl
  have F_LLike : FnAt K mg "_law_like" sLLike ["_law_got", "_law_due"] f30 _ := fnAt_mk X G a30 l30 c30 k30 fun _ _ _ _ _ _ us hl => match us, hl with | [_, _], _ => rfl
  have F_LRight : FnAt K mg "_law_right" sLRight ["_law_state"] f31 _ := fnAt_mk X G a31 l31 c31 k31 fun _ _ _ _ _ _ us hl => match us, hl with | [_], _ => rfl
  have F_Law : FnAt K mg "law" sLaw ["_law_script"] fa _ := fnAt_mk X G a32 l32 c32 k32 fun _ _ _ _ _ _ us hl => match us, hl with | [_], _ => rfl
  have B_BestSpeech : KBinds K (PySem.W.fnOf "best_speech" "best_speech" (defArgs sBestSpeech) (defBody sBestSpeech) (defScope sBestSpeech) .none kV18 dc18 pm18 an18 cd18 ct18) ["grid", "bits", "odds"] ["odds", "bits", "grid"] gK gK := ⟨fun s us ws _ hlen => by
    obtain ⟨o, b, g, rfl, rfl⟩ := gK_len hlen
    exact .of_eq rfl, gK_rel⟩
  refine ⟨PySem.W.fnOf "law" "law" (defArgs sLaw) (defBody sLaw) (defScope sLaw) .none kV32 dc32 pm32 an32 cd32 ct32, fun s v => .of_eq rfl, fun base _ _ => ?_⟩
  have G_PlacesIn : FnOk l.prog w K mg base CX0 1 f0 _ ["number"] (spPlacesIn K) := ok_PlacesIn F_PlacesIn T 
  have G_ReducedSo : FnOk l.prog w K mg base CX0 1 f1 _ ["above", "below"] (spReducedSo K) := ok_ReducedSo F_ReducedSo T 
  have G_PlusSo : FnOk l.prog w K mg base CX0 2 f2 _ ["one", "other"] (spPlusSo K) := ok_PlusSo F_PlusSo T F_ReducedSo G_ReducedSo
  have G_SumSo : FnOk l.prog w K mg base CX0 3 f3 _ ["some"] (spSumSo K) := ok_SumSo F_SumSo T F_PlusSo G_PlusSo
  have G_IsFrom : FnOk l.prog w K mg base CX0 1 f4 _ ["value", "low", "high"] (spIsFrom K) := ok_IsFrom F_IsFrom T 
  have G_IsFraction : FnOk l.prog w K mg base CX0 1 f5 _ ["value"] (spIsFraction K) := ok_IsFraction F_IsFraction T 
  have G_AllItems : FnOk l.prog w K mg base CX0 1 f6 _ ["lines"] (spAllItems K) := ok_AllItems F_AllItems T 
  have G_CheckGrid : FnOk l.prog w K mg base CX0 2 f7 _ ["value"] (spCheckGrid K) := ok_CheckGrid F_CheckGrid T F_IsFrom G_IsFrom
  have G_CheckSmall : FnOk l.prog w K mg base CX0 3 f8 _ ["grid", "bits"] (spCheckSmall K) := ok_CheckSmall F_CheckSmall T F_IsFrom G_IsFrom F_CheckGrid G_CheckGrid
  have G_IsOdds : FnOk l.prog w K mg base CX0 4 f9 _ ["grid", "value"] (spIsOdds K) := ok_IsOdds F_IsOdds T F_IsFraction G_IsFraction F_SumSo G_SumSo
  have G_WeightsOf : FnOk l.prog w K mg base CX0 2 f10 _ ["odds"] (spWeightsOf K) := ok_WeightsOf F_WeightsOf T F_ReducedSo G_ReducedSo F_AllItems G_AllItems
  have G_SidesOf : FnOk l.prog w K mg base CX0 1 f11 _ ["number"] (spSidesOf K) := ok_SidesOf F_SidesOf T 
  have G_AllRectangles : FnOk l.prog w K mg base CX0 1 f12 _ ["grid"] (spAllRectangles K) := ok_AllRectangles F_AllRectangles T 
  have G_BestEnd : FnOk l.prog w K mg base CX0 2 f13 _ ["grid", "weights", "rows", "columns"] (spBestEnd K) := ok_BestEnd F_BestEnd T F_PlacesIn G_PlacesIn
  have G_BestSplit : FnOk l.prog w K mg base CX0 2 f14 _ ["known", "rows", "columns"] (spBestSplit K) := ok_BestSplit F_BestSplit T F_PlacesIn G_PlacesIn F_SidesOf G_SidesOf
  have G_BetterSo : FnOk l.prog w K mg base CX0 3 f15 _ ["known", "rectangle"] (spBetterSo K) := ok_BetterSo F_BetterSo T F_BestSplit G_BestSplit
  have G_BestWhole : FnOk l.prog w K mg base CX0 4 f16 _ ["grid", "weights", "bits"] (spBestWhole K) := ok_BestWhole F_BestWhole T F_BestEnd G_BestEnd F_AllRectangles G_AllRectangles F_BetterSo G_BetterSo
  have G_AnswerSo : FnOk l.prog w K mg base CX0 5 f17 _ ["grid", "bits", "odds"] (spAnswerSo K) := ok_AnswerSo F_AnswerSo T F_ReducedSo G_ReducedSo F_BestWhole G_BestWhole F_WeightsOf G_WeightsOf
  have G_BestSpeech : FnOk l.prog w K mg base CX0 6 f18 _ ["grid", "bits", "odds"] (spBestSpeech K) := ok_BestSpeech F_BestSpeech T F_CheckSmall G_CheckSmall F_IsOdds G_IsOdds F_AnswerSo G_AnswerSo
  have G_LMixed : FnOk l.prog w K mg base CX0 1 f19 _ ["_law_cell", "_law_k"] (spLMixed K) := ok_LMixed F_LMixed T 
  have G_LBegin : FnOk l.prog w K mg base CX0 1 f20 _ ["_law_script"] (spLBegin K) := ok_LBegin F_LBegin T 
  have G_LDraw : FnOk l.prog w K mg base CX0 2 f21 _ ["_law_state", "_law_limit"] (spLDraw K) := ok_LDraw F_LDraw T F_LMixed G_LMixed
  have G_LGrid : FnOk l.prog w K mg base CX0 3 f22 _ ["_law_state", "_law_high", "_law_wide", "_law_kinds"] (spLGrid K) := ok_LGrid F_LGrid T F_LDraw G_LDraw
  have G_LLots : FnOk l.prog w K mg base CX0 1 f23 _ ["_law_some"] (spLLots K) := ok_LLots F_LLots T 
  have G_LDivisor : FnOk l.prog w K mg base CX0 1 f24 _ ["_law_one", "_law_beside"] (spLDivisor K) := ok_LDivisor F_LDivisor T 
  have G_LShare : FnOk l.prog w K mg base CX0 2 f25 _ ["_law_above", "_law_below"] (spLShare K) := ok_LShare F_LShare T F_LDivisor G_LDivisor
  have G_LWeights : FnOk l.prog w K mg base CX0 3 f26 _ ["_law_state", "_law_told_grid"] (spLWeights K) := ok_LWeights F_LWeights T F_LDraw G_LDraw
  have G_LOdds : FnOk l.prog w K mg base CX0 3 f27 _ ["_law_weights_so"] (spLOdds K) := ok_LOdds F_LOdds T F_LShare G_LShare
  have G_LBest : FnOk l.prog w K mg base CX0 12 f28 _ ["_law_told_grid", "_law_weights_so", "_law_most", "_law_near", "_law_far", "_law_known"] (spLBest l.prog w K 2) := ok_LBest F_LBest T F_LLots G_LLots
  have G_LWeightOf : FnOk l.prog w K mg base CX0 1 f29 _ ["_law_told_grid", "_law_weights_so", "_law_most", "_law_told_so"] (spLWeightOf K) := ok_LWeightOf F_LWeightOf T 
  have G_LLike : FnG l.prog w K mg base 1 f30 _ ["_law_got", "_law_due"] (spLLike K) := ok_LLike F_LLike T 
  have G_LRight : FnG l.prog w K mg base 13 f31 _ ["_law_state"] (spLRight K) := ok_LRight F_LRight T F_BestSpeech G_BestSpeech F_LDraw G_LDraw F_LGrid G_LGrid F_LShare G_LShare F_LWeights G_LWeights F_LOdds G_LOdds F_LBest G_LBest F_LWeightOf G_LWeightOf F_LLike G_LLike
  exact ok_Law F_Law T F_BestSpeech G_BestSpeech F_LBegin G_LBegin F_LLike G_LLike F_LRight G_LRight B_BestSpeech
theorem walk {l : PySem.W.OpenLaw} {q : Program} {loose : List Str} {XP : (Str → Option Value) → Heap → Prop} {YP : World → Heap → Prop} {d : DefRec} {K : Params → PySem.W.Frag} (hn : l.most = some 63) (hdf : d.params.defaults = [])
    (hY : ∀ (w : World) (h : Heap), YP w h → (K w.params).In h)
    (F : ∀ (w : World) (mg : Str → Option Value) (fa : Addr) (h : Heap), (K w.params).In h → h.Ns mainGlobals mg → mg d.name = some (.ref fa) →
      ∃ fd : FuncData, (∀ (s : Shared) (u : Value), BindsTo s fd ⟨[u], []⟩ [("_law_script", u)]) ∧ ∀ base : Heap, (K w.params).In base → base.Ns mainGlobals mg → FnG l.prog w (K w.params) mg base 14 fa fd ["_law_script"] (spLaw (K w.params))) :
    PySem.W.WalkO q loose XP YP l.row.toRowW d [] (fun f vs => PySem.call f vs) :=
  walk_ofG (n := 63) (k := 14) (x := "_law_script") (sp := fun w => spLaw (K w.params)) hn (by decide) hdf ⟨rfl, by decide, by decide⟩ hY F fun _ _ a ns hl hS => ⟨a, ns, rfl, hS, hl, fun _ => rfl⟩
end My
set_option Elab.async false
open PySem PySem.W PyProof.Rows
set_option maxRecDepth 100000 in
set_option maxHeartbeats 0 in
theorem PySem.Challenge.cw_saidbetween_k75_whole_best_speeches_holds : PySem.Challenge.rw_saidbetween_k75_whole_best_speeches.Holds := by
  w_on; o_law; k_head; (case hw => w_witness2)
  k_fill
  refine My.walk (l := PySem.Challenge.rw_saidbetween_k75_whole_best_speeches) rfl rfl (fun w h Y => PySem.W.kIn_of Y) ?F
  case F =>
    intro w mg fa h KX G hmg
    refine' My.all_mk KX G hmg ?a0 ?l0 ?c0 ?k0 ?a1 ?l1 ?c1 ?k1 ?a2 ?l2 ?c2 ?k2 ?a3 ?l3 ?c3 ?k3 ?a4 ?l4 ?c4 ?k4 ?a5 ?l5 ?c5 ?k5 ?a6 ?l6 ?c6 ?k6 ?a7 ?l7 ?c7 ?k7 ?a8 ?l8 ?c8 ?k8 ?a9 ?l9 ?c9 ?k9 ?a10 ?l10 ?c10 ?k10 ?a11 ?l11 ?c11 ?k11 ?a12 ?l12 ?c12 ?k12 ?a13 ?l13 ?c13 ?k13 ?a14 ?l14 ?c14 ?k14 ?a15 ?l15 ?c15 ?k15 ?a16 ?l16 ?c16 ?k16 ?a17 ?l17 ?c17 ?k17 ?a18 ?l18 ?c18 ?k18 ?a19 ?l19 ?c19 ?k19 ?a20 ?l20 ?c20 ?k20 ?a21 ?l21 ?c21 ?k21 ?a22 ?l22 ?c22 ?k22 ?a23 ?l23 ?c23 ?k23 ?a24 ?l24 ?c24 ?k24 ?a25 ?l25 ?c25 ?k25 ?a26 ?l26 ?c26 ?k26 ?a27 ?l27 ?c27 ?k27 ?a28 ?l28 ?c28 ?k28 ?a29 ?l29 ?c29 ?k29 ?a30 ?l30 ?c30 ?k30 ?a31 ?l31 ?c31 ?k31 ?a32 ?l32 ?c32 ?k32 ?z0 ?z1 ?z2 ?z3 ?z4 ?z5 ?z6 ?z7 ?z8 ?z9 ?z10 ?z11 ?z12 ?gc ?n0 ?n1 ?n2 ?n3 ?m0 ?r0 ?m1 ?r1
    (case a0 => k_is); (case l0 => k_is); (case c0 => k_is); (case k0 => k_is)
    (case a1 => k_is); (case l1 => k_is); (case c1 => k_is); (case k1 => k_is)
    (case a2 => k_is); (case l2 => k_is); (case c2 => k_is); (case k2 => k_is)
    (case a3 => k_is); (case l3 => k_is); (case c3 => k_is); (case k3 => k_is)
    (case a4 => k_is); (case l4 => k_is); (case c4 => k_is); (case k4 => k_is)
    (case a5 => k_is); (case l5 => k_is); (case c5 => k_is); (case k5 => k_is)
    (case a6 => k_is); (case l6 => k_is); (case c6 => k_is); (case k6 => k_is)
    (case a7 => k_is); (case l7 => k_is); (case c7 => k_is); (case k7 => k_is)
    (case a8 => k_is); (case l8 => k_is); (case c8 => k_is); (case k8 => k_is)
    (case a9 => k_is); (case l9 => k_is); (case c9 => k_is); (case k9 => k_is)
    (case a10 => k_is); (case l10 => k_is); (case c10 => k_is); (case k10 => k_is)
    (case a11 => k_is); (case l11 => k_is); (case c11 => k_is); (case k11 => k_is)
    (case a12 => k_is); (case l12 => k_is); (case c12 => k_is); (case k12 => k_is)
    (case a13 => k_is); (case l13 => k_is); (case c13 => k_is); (case k13 => k_is)
    (case a14 => k_is); (case l14 => k_is); (case c14 => k_is); (case k14 => k_is)
    (case a15 => k_is); (case l15 => k_is); (case c15 => k_is); (case k15 => k_is)
    (case a16 => k_is); (case l16 => k_is); (case c16 => k_is); (case k16 => k_is)
    (case a17 => k_is); (case l17 => k_is); (case c17 => k_is); (case k17 => k_is)
    (case a18 => k_is); (case l18 => k_is); (case c18 => k_is); (case k18 => k_is)
    (case a19 => k_is); (case l19 => k_is); (case c19 => k_is); (case k19 => k_is)
    (case a20 => k_is); (case l20 => k_is); (case c20 => k_is); (case k20 => k_is)
    (case a21 => k_is); (case l21 => k_is); (case c21 => k_is); (case k21 => k_is)
    (case a22 => k_is); (case l22 => k_is); (case c22 => k_is); (case k22 => k_is)
    (case a23 => k_is); (case l23 => k_is); (case c23 => k_is); (case k23 => k_is)
    (case a24 => k_is); (case l24 => k_is); (case c24 => k_is); (case k24 => k_is)
    (case a25 => k_is); (case l25 => k_is); (case c25 => k_is); (case k25 => k_is)
    (case a26 => k_is); (case l26 => k_is); (case c26 => k_is); (case k26 => k_is)
    (case a27 => k_is); (case l27 => k_is); (case c27 => k_is); (case k27 => k_is)
    (case a28 => k_is); (case l28 => k_is); (case c28 => k_is); (case k28 => k_is)
    (case a29 => k_is); (case l29 => k_is); (case c29 => k_is); (case k29 => k_is)
    (case a30 => k_is); (case l30 => k_is); (case c30 => k_is); (case k30 => k_is)
    (case a31 => k_is); (case l31 => k_is); (case c31 => k_is); (case k31 => k_is)
    (case a32 => k_is); (case l32 => k_is); (case c32 => k_is); (case k32 => k_is)
    (case z0 => k_is); (case z1 => k_is); (case z2 => k_is); (case z3 => k_is); (case z4 => k_is); (case z5 => k_is); (case z6 => k_is); (case z7 => k_is); (case z8 => k_is); (case z9 => k_is); (case z10 => k_is); (case z11 => k_is); (case z12 => k_is)
    (case gc => k_is)
    (case n0 => k_is); (case n1 => k_is); (case n2 => k_is); (case n3 => k_is)
    (case m0 => k_is); (case r0 => k_is)
    (case m1 => k_is); (case r1 => k_is)
