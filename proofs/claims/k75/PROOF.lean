import PyProof.Rows.All
import Wide.All
import OpenK.AllK
import Wide.FinOn
import KE.KTupSum
import KE.GoesEnum
import HandS.ForMost
import HandS.Walk
import HandS.Strs
import HandS.SetFor
import HandS.More
import HandS.SetBool
import KE.KSuper
import HandS.SortInts
import HandS.ListItems
import HandS.DictTup
import HandS.Dict
import HandS.ForExc
import HandS.IsInst
import HandS.Property
import HandS.Star
import HandS.Style
import HandS.Zip
import HandS.Conv
import HandS.Sort
import HandS.Flow
import HandS.Wide
import HandS.WideBits
import HandS.TupAny
import PyProof.P3Eq
import KE.KStateDown
import HandS.Ends
import HandS.Words
import HandS.WordsExc
import HandS.Defaults
import HandS.Head0
import HandS.Head1
import HandS.Head2
import HandS.HeadEnd
import HandS.HeadHook1
import HandS.HeadHook2
import PySem.Challenge.RW_burstapart_k75_whole_links_and_bursts
set_option Elab.async false
set_option linter.all false
set_option maxRecDepth 100000
set_option maxHeartbeats 0
namespace BA
/-! ## Tables: plain mathematics -/
/-- the hold of thing t, the tick at which it comes out, the greatest hold -/
def hd (T : List Nat) (t : Nat) : Nat := T.getD (t % T.length) 0
def out (T : List Nat) (t : Nat) : Nat := t + hd T t
def far (T : List Nat) : Nat := T.foldl max 0
structure Tab (T : List Nat) : Prop where
  pos : 0 < T.length
  len : T.length ≤ 9
  top : ∀ h ∈ T, h ≤ 26
  inj : ∀ i j, i < T.length → j < T.length → (i + T.getD i 0) % T.length = (j + T.getD j 0) % T.length → i = j

theorem foldl_max (l : List Nat) : ∀ a, a ≤ l.foldl max a ∧ (∀ x ∈ l, x ≤ l.foldl max a) ∧ (l.foldl max a = a ∨ l.foldl max a ∈ l) := by
  induction l with
  | nil => intro a; exact ⟨Nat.le_refl _, fun x h => by simp at h, .inl rfl⟩
  | cons b r ih =>
    intro a
    obtain ⟨h1, h2, h3⟩ := ih (max a b)
    refine ⟨Nat.le_trans (Nat.le_max_left a b) h1, fun x hx => ?_, ?_⟩
    · rcases List.mem_cons.mp hx with e | hx
      · subst e; exact Nat.le_trans (Nat.le_max_right a x) h1
      · exact h2 x hx
    · show (r.foldl max (max a b) = a) ∨ r.foldl max (max a b) ∈ b :: r
      rcases h3 with e | e
      · rw [e]
        by_cases h : a ≤ b
        · right; rw [Nat.max_eq_right h]; exact List.mem_cons_self
        · left; exact Nat.max_eq_left (by omega)
      · right; exact List.mem_cons_of_mem _ e
theorem le_far {T : List Nat} {h : Nat} (m : h ∈ T) : h ≤ far T := (foldl_max T 0).2.1 h m
theorem far_mem {T : List Nat} (h : 0 < T.length) : far T ∈ T := by
  rcases (foldl_max T 0).2.2 with e | e
  · cases T with
    | nil => simp at h
    | cons a r =>
      have z : a ≤ far (a :: r) := le_far List.mem_cons_self
      have e' : far (a :: r) = 0 := e
      have : a = 0 := by omega
      rw [e', ← this]
      exact List.mem_cons_self
  · exact e
theorem far_eq {T : List Nat} {m : Nat} (hm : m ∈ T) (h : ∀ y ∈ T, y ≤ m) : m = far T := by
  have h1 := le_far hm
  have h2 := h _ (far_mem (List.length_pos_of_mem hm))
  omega
theorem getD_mem {T : List Nat} {i : Nat} (h : i < T.length) : T.getD i 0 ∈ T := by
  rw [List.getD_eq_getElem?_getD, List.getElem?_eq_getElem h]
  exact List.getElem_mem h
section
variable {T : List Nat} (X : Tab T)
include X
theorem hd_mem (t : Nat) : hd T t ∈ T := getD_mem (Nat.mod_lt _ X.pos)
theorem hd_le (t : Nat) : hd T t ≤ far T := le_far (hd_mem X t)
theorem far_le : far T ≤ 26 := X.top _ (far_mem X.pos)
theorem out_le (t : Nat) : out T t ≤ t + far T := Nat.add_le_add_left (hd_le X t) t
theorem le_out (t : Nat) : t ≤ out T t := Nat.le_add_right _ _
omit X in
theorem hd_mod (t : Nat) : hd T (t % T.length) = hd T t := by
  unfold hd
  rw [Nat.mod_mod]
omit X in
theorem hd_add (t m : Nat) : hd T (t + T.length * m) = hd T t := by
  unfold hd
  rw [Nat.add_mul_mod_self_left]
omit X in
theorem out_add (t m : Nat) : out T (t + T.length * m) = out T t + T.length * m := by
  unfold out
  rw [hd_add]
  omega
omit X in
theorem out_mod (t : Nat) : out T t % T.length = (t % T.length + T.getD (t % T.length) 0) % T.length := by
  unfold out hd
  rw [Nat.mod_add_mod]
theorem out_inj {t u : Nat} (h : out T t = out T u) : t = u := by
  have e : t % T.length = u % T.length := X.inj _ _ (Nat.mod_lt _ X.pos) (Nat.mod_lt _ X.pos) (by rw [← out_mod, ← out_mod, h])
  have eh : hd T t = hd T u := by rw [← hd_mod t, ← hd_mod u, e]
  unfold out at h
  omega
end
/-- a list of n unlike numbers below n has each of them -/
theorem has_all : ∀ (n : Nat) (l : List Nat), l.Nodup → l.length = n → (∀ x ∈ l, x < n) → ∀ y, y < n → y ∈ l := by
  intro n
  induction n with
  | zero => intro l _ _ _ y hy; omega
  | succ n ih =>
    intro l nd hl hb y hy
    have hn : n ∈ l := by
      refine Classical.byContradiction fun no => ?_
      have sub : ∀ x ∈ l, x ∈ List.range n := fun x hx => by
        rw [List.mem_range]
        have := hb x hx
        have : x ≠ n := fun e => no (e ▸ hx)
        omega
      have := List.Nodup.length_le_of_subset nd sub
      rw [List.length_range] at this
      omega
    by_cases e : y = n
    · subst e; exact hn
    · have nd' := nd.erase n
      have hl' : (l.erase n).length = n := by rw [List.length_erase_of_mem hn]; omega
      have hb' : ∀ x ∈ l.erase n, x < n := fun x hx => by
        have h1 := hb x (List.mem_of_mem_erase hx)
        have h2 : x ≠ n := fun e => by subst e; exact (List.Nodup.mem_erase_iff nd).mp hx |>.1 rfl
        omega
      exact List.mem_of_mem_erase (ih _ nd' hl' hb' y (by omega))
theorem getD_map_range {n i : Nat} (f : Nat → Nat) (h : i < n) : ((List.range n).map f).getD i 0 = f i := by
  (rw [List.getD_eq_getElem?_getD, List.getElem?_map, List.getElem?_range h])
  rfl
theorem nodup_map_range {n : Nat} {f : Nat → Nat} (h : ∀ i j, i < n → j < n → f i = f j → i = j) : ((List.range n).map f).Nodup := by
  rw [List.nodup_iff_pairwise_ne, List.pairwise_map]
  refine List.Pairwise.imp_of_mem (fun {a b} ha hb hne e => hne (h a b (List.mem_range.mp ha) (List.mem_range.mp hb) e)) (List.nodup_iff_pairwise_ne.mp List.nodup_range)
theorem mod_cancel {n a i b : Nat} (ha : a < n) (hi : i < n) (h1 : (a + b) % n = (i + b) % n) : a = i := by
  have d1 := Nat.div_add_mod (a + b) n
  have d2 := Nat.div_add_mod (i + b) n
  rw [h1] at d1
  have q : (a + b) / n = (i + b) / n ∨ (a + b) / n < (i + b) / n ∨ (i + b) / n < (a + b) / n := by omega
  rcases q with q | q | q
  · rw [q] at d1; omega
  · have : n * ((a + b) / n) + n ≤ n * ((i + b) / n) := by rw [← Nat.mul_succ]; exact Nat.mul_le_mul_left _ q
    omega
  · have : n * ((i + b) / n) + n ≤ n * ((a + b) / n) := by rw [← Nat.mul_succ]; exact Nat.mul_le_mul_left _ q
    omega
section
variable {T : List Nat} (X : Tab T)
include X
/-- at each tick from the greatest hold on something comes out -/
theorem out_at {u : Nat} (hu : far T ≤ u) : ∃ t, out T t = u ∧ t ≤ u := by
  have nd := nodup_map_range (n := T.length) (f := fun i => (i + T.getD i 0) % T.length) (fun i j hi hj e => X.inj i j hi hj e)
  have all := has_all T.length ((List.range T.length).map fun i => (i + T.getD i 0) % T.length) nd (by simp) (fun x hx => by
    obtain ⟨i, _, rfl⟩ := List.mem_map.mp hx
    exact Nat.mod_lt _ X.pos) (u % T.length) (Nat.mod_lt _ X.pos)
  obtain ⟨i, hi, e⟩ := List.mem_map.mp all
  have hi : i < T.length := List.mem_range.mp hi
  have hle : T.getD i 0 ≤ u := Nat.le_trans (le_far (getD_mem hi)) hu
  have e : (i + T.getD i 0) % T.length = u % T.length := e
  have em : (u - T.getD i 0) % T.length = i := by
    have h1 : ((u - T.getD i 0) % T.length + T.getD i 0) % T.length = (i + T.getD i 0) % T.length := by
      rw [e, Nat.mod_add_mod, Nat.sub_add_cancel hle]
    exact mod_cancel (Nat.mod_lt _ X.pos) hi h1
  refine ⟨u - T.getD i 0, ?_, Nat.sub_le _ _⟩
  unfold out hd
  rw [em]
  omega
end
end BA
namespace BA
/-! ## How many things are held -/
def held_at (T : List Nat) (c : Nat) : List Nat := (List.range c).filter fun t => decide (c ≤ out T t)
theorem drop_len {f : Nat → Nat} {c : Nat} : ∀ {l : List Nat}, l.Nodup → (∀ x ∈ l, ∀ y ∈ l, f x = f y → x = y) → (∃ x ∈ l, f x = c) → (l.filter fun t => decide (f t ≠ c)).length + 1 = l.length
  | [], _, _, ⟨x, hx, _⟩ => by simp at hx
  | a :: r, nd, inj, ⟨x, hx, e⟩ => by
    (obtain ⟨n1, n2⟩ := List.nodup_cons.mp nd)
    by_cases h : f a = c
    · have all : (r.filter fun t => decide (f t ≠ c)) = r := List.filter_eq_self.mpr fun y hy => by
        refine decide_eq_true fun z => n1 ?_
        have := inj a List.mem_cons_self y (List.mem_cons_of_mem _ hy) (h.trans z.symm)
        rw [this]; exact hy
      rw [List.filter_cons_of_neg (by simp [h]), all, List.length_cons]
    · rw [List.filter_cons_of_pos (by simp [h]), List.length_cons, List.length_cons]
      have hx' : x ∈ r := (List.mem_cons.mp hx).resolve_left fun z => h (by rw [← z]; exact e)
      rw [drop_len n2 (fun y hy z hz => inj y (List.mem_cons_of_mem _ hy) z (List.mem_cons_of_mem _ hz)) ⟨x, hx', e⟩]
theorem drop_sum {f : Nat → Nat} {c : Nat} : ∀ l : List Nat, ((l.filter fun t => decide (f t ≠ c)).map fun t => f t - c).sum = (l.map fun t => f t - c).sum
  | [] => rfl
  | a :: r => by
    by_cases h : f a = c
    · rw [List.filter_cons_of_neg (by simp [h]), drop_sum r, List.map_cons, List.sum_cons, h, Nat.sub_self, Nat.zero_add]
    · rw [List.filter_cons_of_pos (by simp [h]), List.map_cons, List.sum_cons, drop_sum r, List.map_cons, List.sum_cons]
theorem less_sum {f : Nat → Nat} {c : Nat} : ∀ {l : List Nat}, (∀ x ∈ l, c + 1 ≤ f x) → (l.map fun t => f t - (c + 1)).sum + l.length = (l.map fun t => f t - c).sum
  | [], _ => rfl
  | a :: r, h => by
    have ih := less_sum (l := r) fun x hx => h x (List.mem_cons_of_mem _ hx)
    have ha := h a List.mem_cons_self
    rw [List.map_cons, List.sum_cons, List.map_cons, List.sum_cons, List.length_cons]
    omega
theorem sum_range_succ (f : Nat → Nat) (k : Nat) : ((List.range (k + 1)).map f).sum = ((List.range k).map f).sum + f k := by
  rw [List.range_succ, List.map_append, List.sum_append]
  simp
theorem sum_range_shift (f : Nat → Nat) : ∀ k : Nat, ((List.range k).map fun j => f (j + 1)).sum + f 0 = ((List.range k).map f).sum + f k
  | 0 => by simp
  | k + 1 => by
    rw [sum_range_succ, sum_range_succ]
    have := sum_range_shift f k
    omega
theorem sum_getD : ∀ T : List Nat, ((List.range T.length).map fun j => T.getD j 0).sum = T.sum
  | [] => rfl
  | a :: r => by
    have e : (List.range (a :: r).length).map (fun j => (a :: r).getD j 0) = a :: (List.range r.length).map fun j => r.getD j 0 := by
      (rw [List.length_cons, List.range_succ_eq_map, List.map_cons, List.map_map])
      rfl
    rw [e, List.sum_cons, List.sum_cons, sum_getD r]
section
variable {T : List Nat} (X : Tab T)
include X
theorem nodup_held (c : Nat) : (held_at T c).Nodup := List.Nodup.sublist List.filter_sublist List.nodup_range
theorem held_step {c : Nat} : held_at T (c + 1) = (held_at T c ++ [c]).filter fun t => decide (out T t ≠ c) := by
  have e : held_at T c ++ [c] = (List.range (c + 1)).filter fun t => decide (c ≤ out T t) := by
    rw [List.range_succ, List.filter_append]
    unfold held_at
    rw [List.filter_cons_of_pos (by simpa using le_out X c), List.filter_nil]
  rw [e, List.filter_filter]
  unfold held_at
  refine List.filter_congr fun t _ => ?_
  rw [Bool.eq_iff_iff]
  (simp only [Bool.and_eq_true, decide_eq_true_eq])
  omega
theorem step_facts {c : Nat} (hc : far T ≤ c) : (held_at T (c + 1)).length = (held_at T c).length ∧
    ((held_at T (c + 1)).map fun t => out T t - (c + 1)).sum + (held_at T c).length = ((held_at T c).map fun t => out T t - c).sum + hd T c := by
  obtain ⟨t0, h0, h1⟩ := out_at X hc
  have nd : (held_at T c ++ [c]).Nodup := by
    rw [List.nodup_append]
    refine ⟨nodup_held X c, by simp, fun a ha b hb e => ?_⟩
    have := List.mem_range.mp (List.mem_filter.mp ha).1
    have : b = c := by simpa using hb
    omega
  have mem0 : t0 ∈ held_at T c ++ [c] := by
    rw [List.mem_append]
    by_cases e : t0 = c
    · right; simp [e]
    · left
      exact List.mem_filter.mpr ⟨List.mem_range.mpr (by omega), by simp [h0]⟩
  have hl := drop_len (f := out T) (c := c) nd (fun x _ y _ e => out_inj X e) ⟨t0, mem0, h0⟩
  rw [← held_step X] at hl
  have hl2 : (held_at T (c + 1)).length = (held_at T c).length := by
    (rw [List.length_append, List.length_singleton] at hl)
    omega
  refine ⟨hl2, ?_⟩
  have s1 := less_sum (f := out T) (c := c) (l := held_at T (c + 1)) fun x hx => by simpa using (List.mem_filter.mp hx).2
  have s2 := drop_sum (f := out T) (c := c) (held_at T c ++ [c])
  rw [← held_step X, List.map_append, List.sum_append] at s2
  have e : out T c - c = hd T c := by unfold out; omega
  simp only [List.map_cons, List.map_nil, List.sum_cons, List.sum_nil, Nat.add_zero, e] at s2
  omega
theorem steps {c : Nat} (hc : far T ≤ c) : ∀ k : Nat, (held_at T (c + k)).length = (held_at T c).length ∧
    ((held_at T (c + k)).map fun t => out T t - (c + k)).sum + k * (held_at T c).length = ((held_at T c).map fun t => out T t - c).sum + ((List.range k).map fun j => hd T (c + j)).sum
  | 0 => by simp
  | k + 1 => by
    obtain ⟨a1, a2⟩ := steps hc k
    obtain ⟨b1, b2⟩ := step_facts X (c := c + k) (by omega)
    rw [sum_range_succ]
    have e : c + (k + 1) = c + k + 1 := by omega
    rw [e]
    refine ⟨b1.trans a1, ?_⟩
    rw [a1] at b2
    rw [Nat.succ_mul]
    omega
theorem held_period {c : Nat} (hc : far T ≤ c) : held_at T (c + T.length) = (held_at T c).map (· + T.length) := by
  unfold held_at
  rw [Nat.add_comm c, List.range_add, List.filter_append]
  have none : (List.range T.length).filter (fun t => decide (T.length + c ≤ out T t)) = [] := List.filter_eq_nil_iff.mpr fun t ht => by
    have h1 := List.mem_range.mp ht
    have h2 := out_le X t
    simp
    omega
  rw [none, List.nil_append, List.filter_map]
  have ef : ((fun t => decide (T.length + c ≤ out T t)) ∘ fun x => T.length + x) = fun t => decide (c ≤ out T t) := by
    funext t
    have e := out_add (T := T) t 1
    rw [Nat.mul_one] at e
    show decide (T.length + c ≤ out T (T.length + t)) = _
    rw [Nat.add_comm T.length t, e]
    rw [decide_eq_decide]
    omega
  rw [ef]
  exact List.map_congr_left fun t _ => Nat.add_comm _ _
theorem sum_rot (c : Nat) : ((List.range T.length).map fun j => hd T (c + j)).sum = T.sum := by
  induction c with
  | zero =>
    rw [← sum_getD T]
    congr 1
    refine List.map_congr_left fun j hj => ?_
    unfold hd
    rw [Nat.zero_add, Nat.mod_eq_of_lt (List.mem_range.mp hj)]
  | succ c ih =>
    have z := sum_range_shift (fun j => hd T (c + j)) T.length
    have e := hd_add (T := T) c 1
    rw [Nat.mul_one] at e
    have e2 : (fun j => hd T (c + 1 + j)) = fun j => hd T (c + (j + 1)) := by
      funext j
      congr 1
      omega
    rw [e2]
    simp only [Nat.add_zero] at z
    omega
/-- the mean of the holds is how many things are held -/
theorem held_mean {c : Nat} (hc : far T ≤ c) : (held_at T c).length = T.sum / T.length := by
  obtain ⟨_, a2⟩ := steps X hc T.length
  have e : ((held_at T (c + T.length)).map fun t => out T t - (c + T.length)).sum = ((held_at T c).map fun t => out T t - c).sum := by
    rw [held_period X hc, List.map_map]
    congr 1
    refine List.map_congr_left fun t _ => ?_
    have e := out_add (T := T) t 1
    rw [Nat.mul_one] at e
    show out T (t + T.length) - (c + T.length) = out T t - c
    rw [e]
    omega
  rw [e, sum_rot X c] at a2
  have : T.sum = T.length * (held_at T c).length := by omega
  rw [this, Nat.mul_div_cancel_left _ X.pos]
end
end BA
namespace BA
/-! ## Words and bursts -/
def srt (l : List Nat) : List Nat := l.mergeSort fun a b => decide (a ≤ b)
theorem srt_perm (l : List Nat) : (srt l).Perm l := List.mergeSort_perm l _
theorem srt_le (l : List Nat) : (srt l).Pairwise (· ≤ ·) := by
  have h := List.pairwise_mergeSort (le := fun a b : Nat => decide (a ≤ b)) (fun a b c h1 h2 => by simp at h1 h2 ⊢; omega) (fun a b => by simp; omega) l
  exact List.Pairwise.imp (fun h => by simpa using h) h
theorem srt_one {l m : List Nat} (h : m.Perm l) (hs : m.Pairwise (· ≤ ·)) : m = srt l :=
  List.Perm.eq_of_pairwise (le := (· ≤ ·)) (fun a b _ _ h1 h2 => Nat.le_antisymm h1 h2) hs (srt_le l) (h.trans (srt_perm l).symm)
theorem srt_lt {l : List Nat} (nd : l.Nodup) : (srt l).Pairwise (· < ·) := by
  have nd' := (srt_perm l).symm.nodup nd
  have h := List.Pairwise.and (srt_le l) (List.nodup_iff_pairwise_ne.mp nd')
  exact List.Pairwise.imp (fun h => by omega) h
/-- the ticks of the things of word k -/
def raw (T : List Nat) (w k : Nat) : List Nat := (List.range w).map fun p => out T (k * w + p)
def WL (T : List Nat) (w k : Nat) : List Nat := srt (raw T w k)
/-- how many of the ticks a burst meets -/
def cnt (o : List Nat) (f b : Nat) : Nat := (o.filter fun t => decide (f ≤ t) && decide (t < f + b)).length
theorem raw_nodup {T : List Nat} (X : Tab T) (w k : Nat) : (raw T w k).Nodup := nodup_map_range fun i j _ _ e => by have := out_inj X e; omega
theorem WL_lt {T : List Nat} (X : Tab T) (w k : Nat) : (WL T w k).Pairwise (· < ·) := srt_lt (raw_nodup X w k)
theorem WL_len (T : List Nat) (w k : Nat) : (WL T w k).length = w := by
  have := (srt_perm (raw T w k)).length_eq
  unfold WL raw at *
  rw [this]; simp
theorem WL_add {T : List Nat} {w m : Nat} (hm : m * w % T.length = 0) (k q : Nat) : WL T w (k + m * q) = (WL T w k).map (· + m * q * w) := by
  refine (srt_one ?_ ?_).symm
  · have e : raw T w (k + m * q) = (raw T w k).map (· + m * q * w) := by
      unfold raw
      rw [List.map_map]
      (refine List.map_congr_left fun p _ => ?_)
      obtain ⟨z, hz⟩ := Nat.dvd_of_mod_eq_zero hm
      have e1 : (k + m * q) * w + p = (k * w + p) + T.length * (z * q) := by
        have : m * q * w = T.length * (z * q) := by
          calc m * q * w = m * w * q := by rw [Nat.mul_assoc, Nat.mul_comm q w, ← Nat.mul_assoc]
            _ = T.length * (z * q) := by rw [hz, Nat.mul_assoc]
        rw [Nat.add_mul, ← this]
        omega
      have e2 : m * q * w = T.length * (z * q) := by
        calc m * q * w = m * w * q := by rw [Nat.mul_assoc, Nat.mul_comm q w, ← Nat.mul_assoc]
          _ = T.length * (z * q) := by rw [hz, Nat.mul_assoc]
      show out T ((k + m * q) * w + p) = out T (k * w + p) + m * q * w
      rw [e1, out_add, e2]
    rw [e]
    exact (srt_perm _).map _
  · rw [List.pairwise_map]
    exact List.Pairwise.imp (fun h => by omega) (srt_le _)
theorem cnt_shift (o : List Nat) (f b d : Nat) : cnt (o.map (· + d)) (f + d) b = cnt o f b := by
  unfold cnt
  rw [List.filter_map, List.length_map]
  congr 1
  refine List.filter_congr fun t _ => ?_
  show (decide (f + d ≤ t + d) && decide (t + d < f + d + b)) = _
  rw [Bool.eq_iff_iff]
  (simp only [Bool.and_eq_true, decide_eq_true_eq])
  omega
/-- in an ascending list, those below a bound stand in front -/
theorem below_front : ∀ {d : List Nat} {b : Nat}, d.Pairwise (· < ·) → ∀ j, (j < (d.filter fun t => decide (t < b)).length → ∃ x, d[j]? = some x ∧ x < b) ∧ ((d.filter fun t => decide (t < b)).length ≤ j → ∀ x, d[j]? = some x → b ≤ x)
  | [], b, _, j => ⟨fun h => by simp at h, fun _ x h => by simp at h⟩
  | a :: r, b, hp, j => by
    (obtain ⟨h1, h2⟩ := List.pairwise_cons.mp hp)
    by_cases h : a < b
    · rw [List.filter_cons_of_pos (by simp [h]), List.length_cons]
      cases j with
      | zero => exact ⟨fun _ => ⟨a, rfl, h⟩, fun z => by omega⟩
      | succ j =>
        obtain ⟨i1, i2⟩ := below_front (b := b) h2 j
        exact ⟨fun z => by simpa using i1 (by omega), fun z x hx => i2 (by omega) x (by simpa using hx)⟩
    · have none : (r.filter fun t => decide (t < b)) = [] := List.filter_eq_nil_iff.mpr fun t ht => by
        have := h1 t ht
        simp
        omega
      rw [List.filter_cons_of_neg (by simp [h]), none]
      refine ⟨fun z => by simp at z, fun _ x hx => ?_⟩
      cases j with
      | zero => obtain rfl := Option.some.inj hx; omega
      | succ j =>
        have hx' : r[j]? = some x := by simpa using hx
        have := h1 x (List.mem_of_getElem? hx')
        omega
theorem cnt_drop {o : List Nat} (hp : o.Pairwise (· < ·)) {i f b : Nat} (hi : o[i]? = some f) : cnt o f b = ((o.drop i).filter fun t => decide (t < f + b)).length := by
  unfold cnt
  obtain ⟨lt, e⟩ := List.getElem?_eq_some_iff.mp hi
  have sp : o = o.take i ++ o.drop i := (List.take_append_drop i o).symm
  have pr := hp
  rw [sp, List.pairwise_append] at pr
  obtain ⟨_, p2, p3⟩ := pr
  have hd : (o.drop i)[0]? = some f := by rw [List.getElem?_drop]; simpa using hi
  have fm : f ∈ o.drop i := List.mem_of_getElem? hd
  have front : ∀ t ∈ o.drop i, f ≤ t := fun t ht => by
    cases hq : o.drop i with
    | nil => rw [hq] at ht; simp at ht
    | cons a r =>
      rw [hq] at ht hd p2
      obtain rfl : a = f := Option.some.inj hd
      rcases List.mem_cons.mp ht with z | z
      · omega
      · exact Nat.le_of_lt ((List.pairwise_cons.mp p2).1 t z)
  conv => lhs; rw [sp]
  rw [List.filter_append]
  have n0 : (o.take i).filter (fun t => decide (f ≤ t) && decide (t < f + b)) = [] := List.filter_eq_nil_iff.mpr fun t ht => by
    have := p3 t ht f fm
    simp
    omega
  rw [n0, List.nil_append]
  congr 1
  refine List.filter_congr fun t ht => ?_
  have := front t ht
  simp [this]
theorem cnt_facts {o : List Nat} (hp : o.Pairwise (· < ·)) {i f b : Nat} (hi : o[i]? = some f) :
    i + cnt o f b ≤ o.length ∧ (0 < b → 1 ≤ cnt o f b) ∧ (∀ j, j < cnt o f b → ∃ x, o[i + j]? = some x ∧ x < f + b) ∧ ∀ j x, cnt o f b ≤ j → o[i + j]? = some x → f + b ≤ x := by
  rw [cnt_drop hp hi]
  have pd : (o.drop i).Pairwise (· < ·) := hp.sublist (List.drop_sublist _ _)
  obtain ⟨lt, e⟩ := List.getElem?_eq_some_iff.mp hi
  refine ⟨?_, fun hb => ?_, fun j hj => ?_, fun j x hj hx => ?_⟩
  · have h1 := List.length_filter_le (fun t => decide (t < f + b)) (o.drop i)
    rw [List.length_drop] at h1
    omega
  · have m : f ∈ (o.drop i).filter fun t => decide (t < f + b) := List.mem_filter.mpr ⟨List.mem_of_getElem? (i := 0) (by rw [List.getElem?_drop]; simpa using hi), by simp; exact hb⟩
    exact List.length_pos_of_mem m
  · obtain ⟨x, h1, h2⟩ := (below_front (b := f + b) pd j).1 hj
    rw [List.getElem?_drop] at h1
    exact ⟨x, h1, h2⟩
  · refine (below_front (b := f + b) pd j).2 hj x ?_
    rw [List.getElem?_drop]
    exact hx
/-- the greatest number that a burst meets of a word -/
structure IsWorst (T : List Nat) (w m b M : Nat) : Prop where
  one : ∃ (k i f : Nat), k < m ∧ (WL T w k)[i]? = some f ∧ cnt (WL T w k) f b = M
  all : ∀ (k i f : Nat), k < m → (WL T w k)[i]? = some f → cnt (WL T w k) f b ≤ M
/-- the distances that guard looks at -/
def dist (T : List Nat) (w k e : Nat) : List Int := (List.range (w - e)).map fun j => ((WL T w k).getD (j + e) 0 : Int) - ((WL T w k).getD j 0 : Int)
section
variable {T : List Nat} {w m b M : Nat} (X : Tab T) (W : IsWorst T w m b M)
include X W
theorem worst_range (hb : 0 < b) : 1 ≤ M ∧ M ≤ w := by
  obtain ⟨k, i, f, hk, hi, e⟩ := W.one
  obtain ⟨h1, h2, _⟩ := cnt_facts (b := b) (WL_lt X w k) hi
  rw [e, WL_len] at h1
  rw [e] at h2
  exact ⟨h2 hb, by omega⟩
theorem guard_below (hb : 0 < b) : ∃ k, k < m ∧ ∃ y ∈ dist T w k (M - 1), y < (b : Int) := by
  obtain ⟨k, i, f, hk, hi, e⟩ := W.one
  obtain ⟨h1, h2, h3, _⟩ := cnt_facts (b := b) (WL_lt X w k) hi
  rw [e] at h1 h2 h3
  rw [WL_len] at h1
  have := h2 hb
  obtain ⟨x, hx, lt⟩ := h3 (M - 1) (by omega)
  refine ⟨k, hk, (x : Int) - f, List.mem_map.mpr ⟨i, List.mem_range.mpr (by omega), ?_⟩, by omega⟩
  rw [List.getD_eq_getElem?_getD, List.getD_eq_getElem?_getD, hx, hi]
  rfl
theorem guard_above (hM : M < w) {k : Nat} (hk : k < m) : ∀ y ∈ dist T w k M, (b : Int) ≤ y := by
  intro y hy
  obtain ⟨j, hj, rfl⟩ := List.mem_map.mp hy
  have hj := List.mem_range.mp hj
  have l := WL_len T w k
  obtain ⟨f, hf⟩ : ∃ f, (WL T w k)[j]? = some f := ⟨_, List.getElem?_eq_getElem (by omega)⟩
  obtain ⟨x, hx⟩ : ∃ x, (WL T w k)[j + M]? = some x := ⟨_, List.getElem?_eq_getElem (by omega)⟩
  have h4 := (cnt_facts (b := b) (WL_lt X w k) hf).2.2.2 M x (W.all k j f hk hf) hx
  rw [List.getD_eq_getElem?_getD, List.getD_eq_getElem?_getD, hx, hf]
  show (b : Int) ≤ (x : Int) - (f : Int)
  omega
/-- no word loses more by a burst -/
theorem lost_le (hw : 0 < w) (hm0 : 0 < m) (hm : m * w % T.length = 0) {s : Nat} {L : List Nat} (nd : L.Nodup) {k : Nat} (hL : ∀ t ∈ L, t / w = k ∧ s ≤ out T t ∧ out T t < s + b) : L.length ≤ M := by
  have nd2 : (L.map (out T)).Nodup := by
    rw [List.nodup_iff_pairwise_ne, List.pairwise_map]
    exact List.Pairwise.imp (fun h e => h (out_inj X e)) (List.nodup_iff_pairwise_ne.mp nd)
  have inW : ∀ x ∈ L.map (out T), x ∈ (WL T w k).filter fun t => decide (s ≤ t) && decide (t < s + b) := fun x hx => by
    obtain ⟨t, ht, rfl⟩ := List.mem_map.mp hx
    obtain ⟨h1, h2, h3⟩ := hL t ht
    refine List.mem_filter.mpr ⟨(srt_perm _).mem_iff.mpr (List.mem_map.mpr ⟨t % w, List.mem_range.mpr (Nat.mod_lt _ hw), ?_⟩), by simp [h2, h3]⟩
    rw [← h1, Nat.mul_comm, Nat.div_add_mod]
  have l1 := List.Nodup.length_le_of_subset nd2 inW
  rw [List.length_map] at l1
  refine Nat.le_trans l1 ?_
  cases hq : (WL T w k).filter fun t => decide (s ≤ t) && decide (t < s + b) with
  | nil => exact Nat.zero_le _
  | cons f r =>
    have sub : ((WL T w k).filter fun t => decide (s ≤ t) && decide (t < s + b)).Pairwise (· < ·) := (WL_lt X w k).sublist List.filter_sublist
    have fm : f ∈ (WL T w k).filter fun t => decide (s ≤ t) && decide (t < s + b) := by rw [hq]; exact List.mem_cons_self
    obtain ⟨fW, fs⟩ := List.mem_filter.mp fm
    have fs' : s ≤ f ∧ f < s + b := by simpa using fs
    have sub2 : ∀ x ∈ (WL T w k).filter (fun t => decide (s ≤ t) && decide (t < s + b)), x ∈ (WL T w k).filter fun t => decide (f ≤ t) && decide (t < f + b) := fun x hx => by
      obtain ⟨xW, xs⟩ := List.mem_filter.mp hx
      have xs' : s ≤ x ∧ x < s + b := by simpa using xs
      have le : f ≤ x := by
        rw [hq] at hx sub
        rcases List.mem_cons.mp hx with z | z
        · omega
        · exact Nat.le_of_lt ((List.pairwise_cons.mp sub).1 x z)
      exact List.mem_filter.mpr ⟨xW, by simp; omega⟩
    have nd3 : ((WL T w k).filter fun t => decide (s ≤ t) && decide (t < s + b)).Nodup := List.nodup_iff_pairwise_ne.mpr (List.Pairwise.imp (fun h => by omega) sub)
    have l2 := List.Nodup.length_le_of_subset nd3 sub2
    rw [hq] at l2
    refine Nat.le_trans l2 ?_
    show cnt (WL T w k) f b ≤ M
    -- the word of the same place in the period
    have ek : k = k % m + m * (k / m) := (Nat.mod_add_div k m).symm
    rw [ek] at fW ⊢
    rw [WL_add hm] at fW ⊢
    obtain ⟨f0, hf0, rfl⟩ := List.mem_map.mp fW
    rw [cnt_shift]
    obtain ⟨i, hi⟩ := List.mem_iff_getElem?.mp hf0
    exact W.all _ i f0 (Nat.mod_lt _ hm0) hi
end
/-! ## Counting into a dict -/
def bump : List (Int × Int) → Int → List (Int × Int)
  | [], k => [(k, 1)]
  | p :: r, k => if p.1 = k then (k, p.2 + 1) :: r else p :: bump r k
def tally (L : List Int) : List (Int × Int) := L.foldl bump []
theorem bump_keys : ∀ (ps : List (Int × Int)) (k : Int), (bump ps k).map (·.1) = if k ∈ ps.map (·.1) then ps.map (·.1) else ps.map (·.1) ++ [k]
  | [], k => by simp [bump]
  | p :: r, k => by
    unfold bump
    by_cases h : p.1 = k
    · rw [if_pos h, if_pos (by simp [h])]
      simp [h]
    · rw [if_neg h, List.map_cons, bump_keys r k]
      have e : (k ∈ (p :: r).map (·.1)) ↔ k ∈ r.map (·.1) := by
        rw [List.map_cons, List.mem_cons]
        exact ⟨fun z => z.resolve_left fun z => h z.symm, .inr⟩
      by_cases hk : k ∈ r.map (·.1)
      · rw [if_pos hk, if_pos (e.mpr hk)]; rfl
      · rw [if_neg hk, if_neg (fun z => hk (e.mp z))]; rfl
theorem bump_nodup {ps : List (Int × Int)} (h : (ps.map (·.1)).Nodup) (k : Int) : ((bump ps k).map (·.1)).Nodup := by
  rw [bump_keys]
  split
  · exact h
  · rename_i hk
    rw [List.nodup_append]
    refine ⟨h, by simp, fun a ha b hb e => ?_⟩
    have : b = k := by simpa using hb
    subst this; subst e
    exact hk ha
/-- what a list of pairs tells of a key -/
def valOf (ps : List (Int × Int)) (k : Int) : Int := ((ps.find? fun p => decide (p.1 = k)).map (·.2)).getD 0
theorem valOf_bump : ∀ (ps : List (Int × Int)) (k j : Int), valOf (bump ps k) j = if j = k then valOf ps j + 1 else valOf ps j
  | [], k, j => by
    unfold valOf bump
    by_cases h : j = k
    · subst h; simp
    · rw [if_neg h, List.find?_cons_of_neg (by simp; exact fun z => h z.symm)]
  | p :: r, k, j => by
    unfold bump
    by_cases h : p.1 = k
    · rw [if_pos h]
      unfold valOf
      by_cases hj : j = k
      · subst hj
        rw [List.find?_cons_of_pos (by simp), List.find?_cons_of_pos (by simp [h])]
        simp
      · rw [List.find?_cons_of_neg (by simp; exact fun z => hj z.symm), List.find?_cons_of_neg (by simp [h]; exact fun z => hj z.symm), if_neg hj]
    · rw [if_neg h]
      have ih := valOf_bump r k j
      unfold valOf at ih ⊢
      by_cases hj : p.1 = j
      · rw [List.find?_cons_of_pos (by simp [hj]), List.find?_cons_of_pos (by simp [hj]), if_neg (fun z => h (hj.trans z))]
      · rw [List.find?_cons_of_neg (by simp [hj]), List.find?_cons_of_neg (by simp [hj])]
        exact ih
theorem valOf_in {ps : List (Int × Int)} (hn : (ps.map (·.1)).Nodup) {k c : Int} (h : (k, c) ∈ ps) : valOf ps k = c := by
  induction ps with
  | nil => simp at h
  | cons p r ih =>
    (rw [List.map_cons, List.nodup_cons] at hn)
    unfold valOf
    by_cases e : p.1 = k
    · rw [List.find?_cons_of_pos (by simp [e])]
      (rcases List.mem_cons.mp h with z | z)
      · rw [← z]; rfl
      · exact absurd (List.mem_map.mpr ⟨_, z, rfl⟩) (by rw [← e] at *; exact hn.1)
    · rw [List.find?_cons_of_neg (by simp [e])]
      exact ih hn.2 ((List.mem_cons.mp h).resolve_left fun z => e (by rw [← z]))
theorem tally_snoc (L : List Int) (k : Int) : tally (L ++ [k]) = bump (tally L) k := by
  unfold tally
  rw [List.foldl_append]
  rfl
theorem tally_facts : ∀ L : List Int, ((tally L).map (·.1)).Nodup ∧ (∀ j, valOf (tally L) j = (L.count j : Int)) ∧ ∀ j, j ∈ (tally L).map (·.1) ↔ j ∈ L := by
  have go : ∀ n (L : List Int), L.length = n → ((tally L).map (·.1)).Nodup ∧ (∀ j, valOf (tally L) j = (L.count j : Int)) ∧ ∀ j, j ∈ (tally L).map (·.1) ↔ j ∈ L := by
    intro n
    induction n with
    | zero =>
      intro L h
      obtain rfl := List.length_eq_zero_iff.mp h
      exact ⟨List.nodup_nil, fun j => rfl, fun j => Iff.rfl⟩
    | succ n ih =>
      intro L h
      have ne : L ≠ [] := fun z => by rw [z] at h; simp at h
      have e := List.dropLast_concat_getLast ne
      obtain ⟨i1, i2, i3⟩ := ih L.dropLast (by rw [List.length_dropLast]; omega)
      rw [← e, tally_snoc]
      refine ⟨bump_nodup i1 _, fun j => ?_, fun j => ?_⟩
      · rw [valOf_bump, i2, List.count_append]
        by_cases hj : j = L.getLast ne
        · subst hj
          rw [if_pos rfl, List.count_singleton_self]
          omega
        · rw [if_neg hj]
          rw [List.count_singleton, if_neg (by simp; exact fun z => hj z.symm)]
          simp
      · rw [bump_keys]
        split
        · rename_i hk
          rw [i3, List.mem_append]
          refine ⟨.inl, fun z => z.elim id fun z => ?_⟩
          have : j = L.getLast ne := by simpa using z
          rw [this]
          exact (i3 _).mp hk
        · rw [List.mem_append, List.mem_append, i3]
  exact fun L => go _ L rfl
theorem tally_mem (L : List Int) {k c : Int} (h : (k, c) ∈ tally L) : c = (L.count k : Int) := by
  obtain ⟨h1, h2, _⟩ := tally_facts L
  rw [← h2, valOf_in h1 h]
theorem tally_perm {L M : List Int} (h : L.Perm M) : (tally L).Perm (tally M) := by
  have nd : ∀ K : List Int, (tally K).Nodup := fun K => by
    have z := (tally_facts K).1
    rw [List.nodup_iff_pairwise_ne, List.pairwise_map] at z
    exact List.nodup_iff_pairwise_ne.mpr (List.Pairwise.imp (fun h e => h (by rw [e])) z)
  have sub : ∀ {K J : List Int}, K.Perm J → ∀ p ∈ tally K, p ∈ tally J := fun {K J} h p hp => by
    obtain ⟨k, c⟩ := p
    have e := tally_mem K hp
    have hk : k ∈ K := ((tally_facts K).2.2 k).mp (List.mem_map.mpr ⟨_, hp, rfl⟩)
    obtain ⟨⟨k', c'⟩, hq, ek⟩ := List.mem_map.mp (((tally_facts J).2.2 k).mpr (h.mem_iff.mp hk))
    obtain rfl : k' = k := ek
    have e' := tally_mem J hq
    rw [← h.count_eq k', ← e] at e'
    rw [← e']; exact hq
  exact (List.perm_ext_iff_of_nodup (nd L) (nd M)).mpr fun p => ⟨sub h p, sub h.symm p⟩
end BA
namespace BA
open PySem PySem.Spec PyProof.Rows L2
section
variable {X : Cx}
/-! ### o.f as one of several targets -/
def gFld (K : PySem.W.Frag) (ta : TE) (f : Str) : TG := fun v σ H Q => ta σ H fun x H1 =>
  ∃ a C dx fs, x = .ref a ∧ H1 a = some (.ins C dx fs) ∧ Cls K C ∧ NoAttr K C f ∧ fs.length < 1000 ∧ Q σ (upd H1 a (.ins C dx (putF f v fs)))
theorem pg_fld {o : Expr} {f : Str} {pos : Pos} {ta : TE} (ho : PE X o ta) : PG X (.Attribute o f pos) (gFld X.K ta f) := by
  (refine ⟨fun pins s σ H v u Q I r h => ?_⟩)
  rw [arm_assign_Attribute]
  refine wpAny_bind (wpAny_holding (thn (ho.run pins s σ H _ I h) fun ov s1 ⟨x, H1, I1, rx, a, C, dx, fs, ex, ea, c, n, l, q⟩ => ?_))
  subst ex
  (obtain rfl : ov = Value.ref a := rx)
  refine wpAny_bind (wpAny_standAt (wpAny_bind (wpAny_holding (setattr_ok I1 ea c n l r fun s2 I2 => ?_))))
  exact wpAny_release ⟨σ, _, I2, q⟩

/-! ### sum and max of a tuple of ints -/
def rSumT (K : PySem.W.Frag) : List V → Hp → VK → Prop := fun vs H Q => ∃ (a : Addr) (ns : List Int), vs = [V.ref a] ∧ SqT K H a (ns.map V.int) ∧ Q (.int ns.sum) H
def rMaxT (K : PySem.W.Frag) : List V → Hp → VK → Prop := fun vs H Q => ∃ (a : Addr) (ns : List Int), vs = [V.ref a] ∧ SqT K H a (ns.map V.int) ∧ 0 < ns.length ∧
  ∀ m, m ∈ ns → (∀ y, y ∈ ns → y ≤ m) → Q (.int m) H
theorem cr_sumT (hc : X.calm = true) : CallR X (.builtin "sum") (rSumT X.K) := by
  (intro pins s σ H vs us Q I r h)
  (obtain ⟨a, ns, rfl, hs, q⟩ := h)
  obtain ⟨its, rv, ht, hz⟩ := I.tuple hs
  rw [Vals.ref1 r]
  have hi := rv.ints
  (obtain ⟨xs, e⟩ := hi.allInts.items)
  (have hn : numsOf (intItems xs).toList = ns := by rw [← e]; exact hi.numsOf)
  rw [nums_intItems] at hn
  have ht' : s.heap.IsTuple a (intItems xs) := by rw [← e]; exact ht
  refine PySem.W.ktm_sumG (I.ok.hd hc) ht' fun h' tk t' hk => ?_
  (rw [preSum_eq, List.take_of_length_le (by simp), hn])
  exact ⟨.int _, H, I.kept hk, ⟨_, rfl⟩, q⟩
theorem max_tup {prog : Program} {w : World} {A : Around} {E : Value → Shared → Prop} {s : Shared} {l : Addr} {xs : Array (Int × Tok)} {Q : Value → Shared → Prop} (hh : A.handled = none) (ht : s.heap.IsTuple l (intItems xs)) (hne : 0 < xs.size)
    (h : ∀ v h' tk, (intItems xs)[argBest (fun i j => decide (numAt xs i > numAt xs j)) (xs.size - 1)]? = some v → (∀ b o, s.heap.get? b = some o → h'.get? b = some o) → Q v { s with heap := h', toks := tk }) : wpAny (model prog w) A (call (.builtin "max") [.ref l]) Q E s := by
  (obtain ⟨o, ho, hc, n, hd⟩ := id ht)
  have hne2 : l ≠ s.heap.objs.size := Nat.ne_of_lt (Heap.lt_size ho)
  refine call_max_walk (wpAny_pyIter_tuple ht ?_)
  refine ⟨s.heap.objs.size, _, _, _, _, _, _, rfl, Walks.tuple (prog := prog) (w := w) (A := A.in1) hh s.heap.objs.size l hne2 (intItems xs),
    ⟨⟨_, Heap.get?_push_size _ rfl, rfl, rfl⟩, ht.at fun o e => Heap.get?_push_of_some _ e⟩, fun b hb => ?_, by simpa [intItems] using hne, CmpOf.ints_gt (numAt xs) (fun _ _ => intItems_at), fun v h' tk hP hk => ?_⟩
  · (rcases List.mem_cons.mp hb with rfl | hb)
    · (exact Heap.lt_size (Heap.get?_push_size _ rfl))
    · (obtain rfl := List.mem_singleton.mp hb)
      (exact Heap.lt_size (Heap.get?_push_of_some _ ho))
  · exact h v h' tk (by simpa [intItems] using hP) fun b o e => hk b o (fun hb => absurd (Heap.lt_size e) ((List.mem_singleton.mp hb) ▸ Nat.lt_irrefl _)) (Heap.get?_push_of_some _ e)
theorem cr_maxT (hc : X.calm = true) : CallR X (.builtin "max") (rMaxT X.K) := by
  (intro pins s σ H vs us Q I r h)
  (obtain ⟨a, ns, rfl, hs, hne, q⟩ := h)
  obtain ⟨its, rv, ht, hz⟩ := I.tuple hs
  rw [Vals.ref1 r]
  have hi := rv.ints
  (obtain ⟨xs, e⟩ := hi.allInts.items)
  (have hn : numsOf (intItems xs).toList = ns := by rw [← e]; exact hi.numsOf)
  rw [nums_intItems] at hn
  subst hn
  have ht' : s.heap.IsTuple a (intItems xs) := by rw [← e]; exact ht
  (have hsz : 0 < xs.size := by simpa using hne)
  refine max_tup (I.ok.hd hc) ht' hsz fun v h' tk hv hk => ?_
  (obtain ⟨t, rfl⟩ := intItems_at hv)
  (obtain ⟨h1, h2⟩ := argBest_gt (numAt xs) (xs.size - 1))
  refine ⟨.int _, H, I.kept hk, ⟨_, rfl⟩, q _ ?_ fun y hy => ?_⟩
  · rw [numAt_eq]
    exact PySem.getD_mem (by rw [List.length_map, Array.length_toList]; omega)
  · obtain ⟨j, hj, rfl⟩ := mem_getD hy
    (rw [List.length_map, Array.length_toList] at hj)
    rw [← numAt_eq]
    exact h2 j (by omega)
end
/-! ### enumerate of a tuple -/
/-- enumerate.__new__ over whatever begins as o -/
theorem enum_meets {src : Value} {it : Obj} {Z : Heap → Prop} (B : Begins src it Z) : Meets (Builtin.«enumerate.__new__» ⟨[.type "enumerate", src], []⟩)
    (fun _ R s => Z s.heap ∧ R (.ok (.ret (.ref (s.heap.push it).objs.size))) { s with heap := (s.heap.push it).push { cls := .type "enumerate", data := .fields #[.none, .bool false, .ref s.heap.objs.size, rawInt 0, .none, .none] } }) :=
  .of_wp fun prog w A R ⟨mem, gen, dr, tok, osx⟩ ⟨stands, want⟩ => by
    have isSub := sub_enumerate
    have begin_ : ∀ {A' : Around} {E : Value → Shared → Prop} {Q : Value → Shared → Prop}, Q (.ref mem.objs.size) ⟨mem.push it, gen, dr, tok, osx⟩ → wpAny (model prog w) A' (pyIter src) Q E ⟨mem, gen, dr, tok, osx⟩ :=
      fun q => B.iter prog w _ _ _ _ stands q
    wp_walk using begin_
    refine wpAny_stack_any fun _ => wpAny_pure ?_
    split
    · rename_i cl _ _ _ _ _
      cases (cl == Value.type "enumerate") <;> (wp_walk using begin_; exact ⟨_, rfl, want⟩)
    · wp_walk using begin_
      exact ⟨_, rfl, want⟩
theorem enum_call {prog : Program} {w : World} {A : Around} {E : Value → Shared → Prop} {s : Shared} {src : Value} {it : Obj} {Z : Heap → Prop} {Q : Value → Shared → Prop} (B : Begins src it Z) (stands : Z s.heap)
    (go : ∀ h', IsEnum h' (s.heap.objs.size + 1) s.heap.objs.size 0 .none → h'.get? s.heap.objs.size = some it → (∀ b o, s.heap.get? b = some o → h'.get? b = some o) → Q (.ref (s.heap.objs.size + 1)) { s with heap := h' }) :
    wpAny (model prog w) A (call (.type "enumerate") [src]) Q E s := by
  refine callType_new F.called_enumerate (by decide) (F.typeCall_enumerate_1 src) (F.newCall_enumerate_1 src) (fun o => F.args_object_init_2 o src) F.entry_enumerate_new (enum_meets B) ⟨stands, ?_⟩
  have one : (s.heap.push it).objs.size = s.heap.objs.size + 1 := Heap.size_push _ _
  show Shared.TypeIs _ _ _ ∧ _
  rw [one]
  have en : IsEnum ((s.heap.push it).push { cls := .type "enumerate", data := .fields #[.none, .bool false, .ref s.heap.objs.size, rawInt 0, .none, .none] }) (s.heap.objs.size + 1) s.heap.objs.size 0 .none := by
    show ((s.heap.push it).push _).get? (s.heap.objs.size + 1) = _
    rw [← one]
    (exact Heap.get?_push_size _ rfl)
  exact ⟨⟨_, en, rfl⟩, go _ en (Heap.get?_push_of_some _ (Heap.get?_push_size _ B.free)) fun b o e => Heap.get?_push_of_some _ (Heap.get?_push_of_some _ e)⟩

/-- the tuple at a, with places, in new pairs -/
def Iet (K : PySem.W.Frag) (a : Addr) : It :=
  ⟨fun i H => ∃ (xs : List V) (x : V), SqT K H a xs ∧ xs[i]? = some x, fun i H v H' => ∃ T x, v = .ref T ∧ H T = none ∧ H' = upd H T (.tup [.int (i : Nat), x]) ∧ ∀ xs, SqT K H a xs → xs[i]? = some x, fun i H => ∃ xs : List V, SqT K H a xs ∧ xs.length = i⟩
theorem turn_enumT {P : Program} {w : World} {K : PySem.W.Frag} {elts : List Expr} {kk : Nat} {tpos : Pos} (a e it : Addr) :
    Turn P w K (.Tuple elts kk tpos) (Iet K a) [e, it] e (fun i h => (∃ old, IsEnum h e it ((i : Nat) : Int) old) ∧ h.IsTupleIter it a i ∧ e ≠ it ∧ a ≠ it ∧ e ≠ a) where
  mem := List.mem_cons_self
  obj := fun i h ⟨⟨_, en⟩, ⟨o, o1, _, o2⟩, _⟩ b hb => by
    rcases List.mem_cons.mp hb with rfl | z
    · exact ⟨_, en, fun _ z => nomatch z⟩
    · obtain rfl := List.mem_singleton.mp z
      exact ⟨o, o1, fun v z => by rw [o2] at z; cases z⟩
  keep := fun i h h' ⟨⟨old, en⟩, ti, r⟩ k => ⟨⟨old, k e List.mem_cons_self _ en⟩, ti.at fun o z => k it (List.mem_cons_of_mem _ List.mem_cons_self) o z, r⟩
  item := fun X hP hw hK calm i pins s σ H E I own ⟨⟨old, en⟩, ti, e_it, a_it, e_a⟩ ⟨xs, x, sq, at_i⟩ => by
    subst hP hw hK
    obtain ⟨us, rel, isT, _⟩ := I.tuple sq
    obtain ⟨u, u_at, ru⟩ := rel.get at_i
    have below : i < us.toArray.size := by simpa using (List.getElem?_eq_some_iff.mp u_at).1
    have e_lt : e < s.heap.objs.size := Heap.lt_size en
    have it_lt : it < s.heap.objs.size := let ⟨_, z, _⟩ := ti; Heap.lt_size z
    have D := Draws.tuple (prog := X.prog) (w := X.w) (A := X.A.in1) (I.ok.hd calm) it a a_it us.toArray
    refine wpAny_pyNext_enum_itemD D en ⟨ti, isT⟩ below e_it (by simp [e_it, e_a]) fun v h1 tk drawn out st1 tup _ keep1 => ⟨_, rfl, ?_⟩
    obtain rfl : v = u := by
      have z : us.toArray[i]? = some v := drawn
      rw [List.getElem?_toArray, u_at] at z
      exact (Option.some.inj z).symm
    refine wpAny_letOwnedTupleGo_enum (s := { s with heap := h1, toks := tk + 1 }) out fun h2 en2 only => ?_
    have tup2 := (only.2 _ (Nat.ne_of_gt e_lt)).trans tup
    have keep2 : ∀ b o, b ∉ [e, it] → s.heap.get? b = some o → h2.get? b = some o := fun b o hb z => by
      rw [List.mem_cons, List.mem_singleton, not_or] at hb
      exact (only.2 b hb.1).trans (keep1 b o hb.1 hb.2 z)
    refine ⟨.ref s.heap.objs.size, upd H s.heap.objs.size (.tup [.int (i : Nat), x]), I.turnedNew (t' := tk + 1) keep2 own (Nat.le_refl _) ?_, rfl, ⟨_, x, rfl, I.hok.fresh (Nat.le_refl _), rfl, fun ys hy => by rw [I.tuple_inj hy sq]; exact at_i⟩, ⟨⟨v, ?_⟩, st1.1.at fun o z => (only.2 it e_it.symm).trans z, e_it, a_it, e_a⟩, fun b hb => ?_⟩
    · exact ⟨(by show 2 ≤ sizeLine; decide), [.int i tk, v], .cons ⟨_, rfl⟩ (.cons ru .nil), ⟨_, tup2, rfl, _, rfl⟩⟩
    · show IsEnum h2 e it ((i + 1 : Nat) : Int) v
      rw [show ((i + 1 : Nat) : Int) = (i : Int) + 1 by omega]
      exact en2
    · have lt : b < s.heap.objs.size := by
        rcases List.mem_cons.mp hb with rfl | z
        · exact e_lt
        · rw [List.mem_singleton.mp z]; exact it_lt
      rw [upd_ne (Nat.ne_of_lt lt)]
      exact (own b hb).1
  done := fun X hP hw hK calm i pins s σ H E I own ⟨⟨old, en⟩, ti, e_it, a_it, e_a⟩ ⟨xs, sq, at_i⟩ => by
    subst hP hw hK
    obtain ⟨us, rel, isT, _⟩ := I.tuple sq
    obtain ⟨n0, n1, _, n3, n4, n5⟩ := own it (List.mem_cons_of_mem _ List.mem_cons_self)
    obtain rfl : i = us.toArray.size := by rw [List.size_toArray, ← rel.length]; exact at_i.symm
    exact wpAny_pyNext_enum_endD (Draws.tuple (prog := X.prog) (w := X.w) (A := X.A.in1) (I.ok.hd calm) it a a_it us.toArray) en ⟨ti, isT⟩ fun h1 k => ⟨rfl, I.turned (t' := s.toks) (fun b o hb z => k b o hb z) n0 n1 n3 n4 n5⟩
  self := fun A i s Q E ⟨⟨_, en⟩, _⟩ h => wpAny_pyIter_enum en h
def iEnumT (K : PySem.W.Frag) (ta : TA) : TI := fun σ H R => ta σ H fun vs H1 => ∃ a xs, vs = [.ref a] ∧ SqT K H1 a xs ∧ R (Iet K a) H1
theorem pi_enumT {X : Cx} {src : Expr} {ta : TA} {p pos tpos : Pos} {elts : List Expr} {kk : Nat} (hg : Gl X "enumerate") (hm : X.mg "enumerate" = none) (ha : PA X [src] ta) (hs : starEach [src] X.env = [(false, eval src X.env)] := by rfl) :
    PI X (.Tuple elts kk tpos) (.Call (.Name "enumerate" p) [src] [] pos) (iEnumT X.K ta) := by
  refine ⟨fun pins s σ H R I want => Call_ (ld_blt I hg hm boot_enumerate (PyProof.Rows.callWith_type1 (thn (ha.run pos pins s σ H _ I want) fun us s1 ⟨vs, H1, I1, rel, a, xs, ev, sq, q⟩ => ?_) hs rfl))⟩
  subst ev
  obtain rfl := Vals.ref1 rel
  obtain ⟨its, _, isT, _⟩ := I1.tuple sq
  have lt : a < s1.heap.objs.size := isT.lt
  refine enum_call (begins_tuple a its.toArray) isT fun h1 en ti keep => wpAny_pyIter_enum en ?_
  refine ⟨s1.heap.objs.size + 1, [s1.heap.objs.size + 1, s1.heap.objs.size], _, _, H1, rfl, I1.kept (t' := s1.toks) keep, turn_enumT a _ _, ⟨⟨.none, en⟩, ⟨_, ti, rfl, rfl⟩, Nat.succ_ne_self _, Nat.ne_of_lt lt, Nat.ne_of_gt (Nat.lt_succ_of_lt lt)⟩, fun b hb => ?_, q⟩
  have above : s1.heap.objs.size ≤ b := by
    rcases List.mem_cons.mp hb with rfl | z
    · exact Nat.le_succ _
    · exact Nat.le_of_eq (List.mem_singleton.mp z).symm
  exact I1.fpOk above (I1.hok.fresh above)
theorem walk_enumT {K : PySem.W.Frag} {a : Addr} {xs : List V} : Walk (Iet K a) xs.length (fun H => SqT K H a xs) (YPair (fun i => some (.int (i : Nat))) (fun i => xs[i]?)) where
  goes := fun i _ lt sq => ⟨xs, xs[i], sq, List.getElem?_eq_getElem lt⟩
  stops := fun _ sq => ⟨xs, sq, rfl⟩
  yields := fun i _ _ _ _ sq ⟨T, x, h1, h2, h3, h4⟩ => ⟨T, .int (i : Nat), x, h1, h2, h3, rfl, h4 xs sq⟩
/-! ### a set comprehension of ints, without an if -/
/-- what a turn owes: the element is an int, it goes into the set at D -/
def GoesIn (w : World) (D : Addr) (nx : Hp → Prop) (y : V) (H4 : Hp) : Prop := ∃ (c : Int) (S : Int → Bool) (n : Nat), y = .int c ∧ H4 D = some (SetO w D S n) ∧ n + 1 < scanBound ∧
  nx (upd H4 D (SetO w D (fun j => S j || decide (j = c)) (if S c = true then n else n + 1)))
/-- n turns; Pv by the turn and the heap, the new set at D within -/
def tSet (w : World) (wi : TI) (g : TG) (te : TE) (vs : List Nat) : TE := fun σ H Q => wi σ H fun J H1 => ∀ D, H1 D = none → ∃ (n : Nat) (Pv : Nat → Hp → Prop), Pv 0 (upd H1 D (SetO w D (fun _ => false) 0)) ∧
  (∀ H, Pv n H → J.stop n H ∧ Q (.ref D) H) ∧
  ∀ i H, i < n → Pv i H → J.go i H ∧ ∀ x H', J.yld i H x H' → g x (wipe σ vs) H' fun σ2 H2 => wipe σ2 vs = wipe σ vs ∧ te σ2 H2 (GoesIn w D (Pv (i + 1)))
section
variable {X : Cx}
theorem into_set {pins : List (Addr × Obj)} {σ : L2.St} {H : Hp} {s : Shared} {E : Value → Shared → Prop} {D : Addr} {S : Int → Bool} {n : Nat} {y : Int} {t : Tok} {Q : Value → Shared → Prop} (I : Inv X pins σ H s) (hD : H D = some (SetO X.w D S n)) (room : n + 1 < scanBound)
    (h : ∀ s', Inv X pins σ (upd H D (SetO X.w D (fun j => S j || decide (j = y)) (if S y = true then n else n + 1))) s' → Q .none s') : wpAny (model X.prog X.w) X.A (call (.builtin "set.add") [.ref D, .int y t]) Q E s :=
  setR_add (setO_get I hD) room fun h' sb new => by
    obtain ⟨ob, z⟩ := (setO_new (P := X.prog) (H := H) new).2.1
    exact h _ (I.write (t' := s.toks + 1) (x := D) (e := D) (by rw [hD]; trivial) (.inl rfl) (fun c u hc hu => (sb.2 c hc).trans hu) ⟨ob, z⟩ (setO_new new))
/-- the block's loop; XB is the block's context -/
theorem set_loop {XB : Cx} {σB : L2.St} {vs : List Nat} {fp : List Addr} {it D : Addr} {J : It} {tn : Nat → Heap → Prop} {n : Nat} {Pv : Nat → Hp → Prop} {Qd : Hp → Prop} {g : TG} {te : TE} {tg elt iter : Expr} {scope : Scope} {pos : Pos} {R : Result → Shared → Prop}
    (hc : XB.calm = true) (hx : XB.xe = fun _ _ => False) (hpn : XB.pn = []) (hex : ∀ b ∈ fp, b ∈ XB.ex) (T : Turn XB.prog XB.w XB.K tg J fp it tn) (pg : PG XB tg g) (pe : PE XB elt te) (hw : wipe σB vs = σB)
    (stop : ∀ H, Pv n H → J.stop n H ∧ Qd H) (turn : ∀ i H, i < n → Pv i H → J.go i H ∧ ∀ x H', J.yld i H x H' → g x σB H' fun σ2 H2 => wipe σ2 vs = σB ∧ te σ2 H2 (GoesIn XB.w D (Pv (i + 1))))
    (fin : ∀ s H, Inv XB [] σB H s → Qd H → R (.ok .next) s) (s0 : Shared) (H0 : Hp) (I0 : Inv XB [] σB H0 s0) (t0 : tn 0 s0.heap) (f0 : ∀ b ∈ fp, H0 b = none) (p0 : Pv 0 H0) :
    codeAny (model XB.prog XB.w) XB.A (.compLoop (.SetComp elt [⟨tg, iter, [], 0⟩] scope pos) 0 (.ref it) (.ref D) XB.env) R s0 := by
  have own : ∀ {σ : L2.St} {H : Hp} {s : Shared}, Inv XB [] σ H s → (∀ b ∈ fp, H b = none) → ∀ b ∈ fp, FpOk XB [] H b := fun {σ H s} K hn b hb =>
    ⟨hn b hb, (K.ok.exf b (hex b hb)).1, K.ok.exfs b (hex b hb), .inl (hex b hb), fun x c e => (K.ok.exf b (hex b hb)).2 x c e, fun p hp => by rw [hpn] at hp; simp at hp⟩
  refine PpSet.compLoopS_any (fun k s => ∃ i H, k = n - i ∧ i ≤ n ∧ Inv XB [] σB H s ∧ tn i s.heap ∧ (∀ b ∈ fp, H b = none) ∧ Pv i H) ?_ (n - 0) ⟨0, H0, rfl, Nat.zero_le n, I0, t0, f0, p0⟩
  rintro k s ⟨i, H, rfl, hi, I, st, fr, pv⟩
  by_cases last : i = n
  · subst last
    obtain ⟨js, qd⟩ := stop H pv
    refine thnF (T.done XB rfl rfl rfl hc i [] s σB H (fun _ _ => False) I (own I fr) st js) fun r s1 ⟨er, I1⟩ => ?_
    subst er
    exact fin s1 H I1 qd
  · have lt : i < n := by omega
    obtain ⟨jg, body⟩ := turn i H lt pv
    refine thnF (T.item XB rfl rfl rfl hc i [] s σB H (fun _ _ => False) I (own I fr) st jg) fun r s1 ⟨u, er, rest⟩ => ?_
    subst er
    refine thnF rest fun _ s2 ⟨x, H2, I2, rx, yl, st2, fr2⟩ => ?_
    have P2 := I2.pinned (own I2 fr2) (T.obj _ _ st2)
    have low : ∀ {α : Type} {m : Sem α} {Qa Qb : α → Shared → Prop} {s : Shared} {Eb : Value → Shared → Prop}, wpAny (model XB.prog XB.w) XB.A m Qa XB.xe s → (∀ a s, Qa a s → Qb a s) → wpAny (model XB.prog XB.w) XB.A m Qb Eb s :=
      fun h k => wpAny_mono h k fun e s z => by rw [hx] at z; exact z.elim
    refine low (pg.run _ s2 σB H2 x u _ P2 rx (body x H2 yl)) fun _ s3 ⟨σ3, H3, I3, w3, q3⟩ => ?_
    refine wpAny_tests_nil ?_
    rw [if_pos rfl]
    refine low (pe.run _ s3 σ3 H3 _ I3 q3) fun v s4 ⟨y, H4, I4, ry, c, S, m, ey, hD, room, nx⟩ => ?_
    subst ey
    obtain ⟨tk, rfl⟩ := (show ∃ t, v = Value.int c t from ry)
    refine into_set I4 hD room fun s5 I5 => ⟨n - (i + 1), by omega, i + 1, _, rfl, lt, ?_, ?_, ?_, nx⟩
    · refine (I5.unpinned (pins := [])).weak (by rw [← w3, wipe_length]) fun j v e => ?_
      rw [← w3] at e
      exact (wipe_some e).1
    · exact T.keep _ _ _ st2 fun b hb o e => (I5.pin (b, o) (List.mem_append_right _ (List.mem_append_right _ (mem_pinsAt hb e)))).1
    · intro b hb
      (obtain ⟨o, e, _⟩ := T.obj _ _ st2 b hb)
      exact (I5.pin (b, o) (List.mem_append_right _ (List.mem_append_right _ (mem_pinsAt hb e)))).2.1
theorem wipe_wipe (σ : L2.St) (vs : List Nat) : wipe (wipe σ vs) vs = wipe σ vs := by
  refine List.ext_getElem? fun i => ?_
  have none_in : ∀ (us : List Nat) (τ : L2.St), i ∈ us → i < τ.length → (wipe τ us)[i]? = some none := by
    intro us
    induction us with
    | nil => intro τ h _; simp at h
    | cons a r ih =>
      intro τ h hl
      show ((wipe τ r).set a none)[i]? = some none
      by_cases e : a = i
      · subst e
        rw [List.getElem?_set_self (by rw [wipe_length]; exact hl)]
      · rw [List.getElem?_set_ne e]
        exact ih τ ((List.mem_cons.mp h).resolve_left fun z => e z.symm) hl
  by_cases h : i ∈ vs
  · by_cases hl : i < σ.length
    · rw [none_in vs _ h (by rw [wipe_length]; exact hl), none_in vs _ h hl]
    · rw [List.getElem?_eq_none (by rw [wipe_length, wipe_length]; omega), List.getElem?_eq_none (by rw [wipe_length]; omega)]
  · rw [wipe_out h]
theorem pe_set {elt tg iter : Expr} {scope : Scope} {own : List (PySem.Str × Nat)} {pos : Pos} {wi : TI} {g : TG} {te : TE} (hc : X.calm = true) (hN : X.N.Nodup) (hi : PI X tg iter wi) (ok : BlkOk X.N X.env.scope scope own)
    (hg : ∀ (s : Shared) (H : Hp) (C : Addr) (cl : List (PySem.Str × Addr)) (fp : List Addr), PG (X.blk s H scope (compEnvC scope cl C X.env) fp) tg g)
    (he : ∀ (s : Shared) (H : Hp) (C : Addr) (cl : List (PySem.Str × Addr)) (fp : List Addr), PE (X.blk s H scope (compEnvC scope cl C X.env) fp) elt te) (hs : ∀ x, foldedSetIterable iter X.env x = pure x := by intro _; rfl) : PE X (.SetComp elt [⟨tg, iter, [], 0⟩] scope pos) (tSet X.w wi g te (own.map (·.2))) := by
  (refine ⟨fun pins s σ H Q I h => ?_⟩)
  rw [PpSet.eval_SetComp]
  refine wpAny_comprehension_free (use := none) rfl hs (closure_ok fun y hy e => (ok.free y hy e).elim (fun k => I.ok.has _ (.inl k)) fun k => I.ok.has _ (.inr k)) ok.kind (fun y hy e => by rw [ok.uniq y hy, e])
    (thn (hi.run pins s σ H _ I h) fun xv s1 hx => thn hx fun itv s2 ⟨it, fp, tn, J, H2, ei, I2, T, st2, f2, q⟩ => ?_)
  subst ei
  refine PpSet.newSet_ok (newEnv_comp ?_)
  have hDn : H2 s2.heap.objs.size = none := I2.hok.fresh (Nat.le_refl _)
  obtain ⟨n, Pv, p0, stop, turn⟩ := q _ hDn
  -- the set stands, then the block begins
  have low : ∀ b ∈ fp, b < s2.heap.objs.size := fun b hb => let ⟨o, e, _⟩ := T.obj _ _ st2 b hb; Heap.lt_size e
  (generalize hs3 : ({ s2 with heap := s2.heap.push { cls := .type "set", dict := none, data := .set #[] 0 (.fresh 0 0 (!X.w.params.followText "set-order")) } } : Shared) = s3)
  generalize hH3 : upd H2 s2.heap.objs.size (SetO X.w s2.heap.objs.size (fun _ => false) 0) = H3 at p0
  (have h3 : s3.heap = s2.heap.push { cls := .type "set", dict := none, data := .set #[] 0 (.fresh 0 0 (!X.w.params.followText "set-order")) } := by rw [← hs3])
  have I3 : Inv X pins σ H3 s3 := by
    rw [← hs3, ← hH3]
    exact I2.laid (t' := s2.toks) (fun b o e => Heap.get?_push_of_some _ e) (Nat.le_refl _) (setO_new (setR_fresh X.w))
  have f3 : ∀ b ∈ fp, FpOk X pins H3 b ∧ b < s3.heap.objs.size := fun b hb => by
    refine ⟨⟨?_, (f2 b hb).2⟩, by rw [h3, Heap.size_push]; exact Nat.lt_succ_of_lt (low b hb)⟩
    rw [← hH3, upd_ne (Nat.ne_of_lt (low b hb))]
    exact (f2 b hb).1
  (have I4 := block_start I3 ok hN f3)
  have st4 : tn 0 (pushCells (s3.heap.push { cls := .type "dict", data := .dict #[] }) scope.names) := T.keep _ _ _ st2 fun b _ o e =>
    pushCells_keeps _ _ _ _ (Heap.get?_push_of_some _ (by rw [h3]; exact Heap.get?_push_of_some _ e))
  have loop := set_loop (XB := X.blk s3 H3 scope (compEnvC scope (cellsFrom (s3.heap.objs.size + 1) scope.names (cloFrom X.env.cells scope.names [])) s3.heap.objs.size X.env) fp) (vs := own.map (·.2)) (elt := elt) (iter := iter) (scope := scope) (pos := pos)
    (R := compPost (model X.prog X.w) X.A X.xe none (EP X pins σ Q) (.ref s2.heap.objs.size) s3.heap.objs.size) (Qd := Q (.ref s2.heap.objs.size)) hc rfl rfl (fun b hb => hb) T (hg _ _ _ _ _) (he _ _ _ _ _) (wipe_wipe σ _) stop turn
    (fun s6 H6 I6 qd => ?_) _ H3 I4 st4 (fun b hb => (f3 b hb).1.1) p0
  · exact PpSet.codeAny_compStart_set loop (T.self X.A 0 _ _ _ st4 loop)
  · -- back in the def's context
    have I7 : Inv X pins σ H6 s6 := I3.call' (ch := fp) I6.os I6.base I6.hok I6.bare fun b hb => ⟨(f3 b hb).1.2.2.2.1, (f3 b hb).1.2.1, (f3 b hb).1.2.2.2.2.1, (f3 b hb).1.2.2.2.2.2⟩
    have nC : H6 s3.heap.objs.size = none := I6.free
    obtain ⟨m, hn, _⟩ := I6.loc
    obtain ⟨z0, z1, z2, z3, z4, z5⟩ := I3.fpOk (Nat.le_refl _) nC
    exact ⟨m, hn, fun h'' sb => ⟨.ref _, H6, I7.turned (t' := s6.toks) (fun b o hb e => (sb.2 b hb).trans e) z0 z1 z3 z4 z5, rfl, qd⟩⟩
/-- len of such a set -/
theorem call_lenS : CallR X (.builtin "len") (fun xs H Q => ∃ a S n, xs = [V.ref a] ∧ H a = some (SetO X.w a S n) ∧ Q (.int (n : Nat)) H) := by
  (intro pins s σ H xs us Q I r h)
  obtain ⟨a, S, n, rfl, ha, q⟩ := h
  rw [Vals.ref1 r]
  have hS : s.heap.SetOf (intKind X.prog X.w) a S n := (setO_get I ha).setOf
  obtain ⟨o, es, ep, t, ho, hex, hd, _, _, hb, hf, hn⟩ := hS
  refine call_len_set ho hex hd hf (by unfold scanBound at hb; omega) ⟨.int (n : Nat), H, I.tok _, ⟨_, by rw [hn]⟩, q⟩
end
/-! ### set(l) of a list of ints -/
abbrev newS (w : World) : Obj := { cls := .type "set", dict := none, data := .set #[] 0 (.fresh 0 0 (!w.params.followText "set-order")) }
section
variable {P : Program} {w : World} {A : Around} {s : Shared} {E : Value → Shared → Prop}
/-- how the filling ends: the set at S holds the ints of ns, what stood stands -/
def Filled (w : World) (s : Shared) (S : Addr) (ns : List Int) (s' : Shared) : Prop := ∃ h' tk c, s' = { s with heap := h', toks := tk } ∧ SetR w h' S (fun j => decide (j ∈ ns)) c ∧ c ≤ ns.length ∧ ∀ b o, s.heap.get? b = some o → h'.get? b = some o
theorem fill_list {l : Addr} {items : Array Value} (ns : List Int) (hh : A.handled = none) (hl : s.heap.IsList l items) (hit : IntsAre items.toList ns) (room : ns.length + 1 < scanBound) :
    wpAny (model P w) A.in1 (Builtin.«set.__init__» ⟨[.ref s.heap.objs.size, .ref l], []⟩) (fun fin s' => match fin with
      | .done f => wants (fun r s₂ => r = .none ∧ Filled w s s.heap.objs.size ns s₂) E (.ok f) s'
      | .again c' => c'.quiet = true ∧ codeAny (model P w) A c' (wants (fun r s₂ => r = .none ∧ Filled w s s.heap.objs.size ns s₂) E) s')
      (fun e s' => wants (fun r s₂ => r = .none ∧ Filled w s s.heap.objs.size ns s₂) E (.error e) s') { s with heap := s.heap.push (newS w) } := by
  have count : items.size = ns.length := by simpa using IntsAre.length hit
  obtain ⟨⟨oc, od, odt, osl⟩, hol, hoc, nl, hod⟩ := hl
  simp only at hoc hod
  subst hoc hod
  have below : l < s.heap.objs.size := Heap.lt_size hol
  have atL : (s.heap.push (newS w)).get? l = some ⟨.type "list", od, .seq items nl, osl⟩ := Heap.get?_push_of_some _ hol
  have atS : (s.heap.push (newS w)).get? s.heap.objs.size = some (newS w) := Heap.get?_push_size _ rfl
  have isL : (s.heap.push (newS w)).IsList l items := ⟨_, atL, rfl, nl, rfl⟩
  have next : (s.heap.push (newS w)).objs.size = s.heap.objs.size + 1 := Heap.size_push ..
  have k1 := F.sub_list_set
  have k2 := F.sub_list_frozenset
  have k3 : (Value.type "list" == Value.type "dict") = false := by decide
  (unfold Builtin.«set.__init__» noKeywords Builtin.Frozenset.updateFrom)
  generalize hit' : pyIter = ITER
  wp_walk
  subst hit'
  refine wpAny_pyIter_list isL (wpAny_bind (wpAny_runValue ?_))
  have quietH : A.in1.in1.handled = none := by simp [hh]
  refine set_update_ints (A := A.in1) ((Walks.list (prog := P) (w := w) (A := A.in1.in1) quietH (s.heap.push (newS w)).objs.size l (by rw [next]; exact Nat.ne_of_lt (Nat.lt_succ_of_lt below)) items).toS) s.heap.objs.size ?apart ns count room ?vals (items.size - 0) 0 _ (by omega) (Nat.zero_le _)
    ?begun ?zero ?fin
  case begun => exact ⟨⟨_, Heap.get?_push_size _ rfl, rfl, rfl⟩, isL.push _⟩
  case zero => exact ⟨0, Nat.le_refl 0, setR_new_at (Heap.get?_push_of_some _ atS)⟩
  case apart =>
    rw [next]
    intro z
    (rcases List.mem_cons.mp z with z | z)
    · exact absurd z (Nat.ne_of_lt (Nat.lt_succ_self _))
    · exact absurd (List.mem_singleton.mp z) (Nat.ne_of_gt below)
  case vals =>
    intro i v hv
    have lt : i < ns.length := by rw [← count]; exact (Array.getElem?_eq_some_iff.mp hv).1
    (obtain ⟨t, e⟩ := PyProof.Rows.IntsAre.int_at hit i v (by rw [Array.getElem?_toList]; exact hv))
    exact ⟨ns[i], t, List.getElem?_eq_getElem lt, by rw [e, List.getD_eq_getElem?_getD, List.getElem?_eq_getElem lt]; rfl⟩
  case fin =>
    rintro ⟨h2, g2, d2, t2, o2⟩ c mv hc hS
    obtain rfl : g2 = s.gens := mv.gens
    obtain rfl : d2 = s.drawn := mv.drawn
    obtain rfl : o2 = s.os := mv.os
    show wpAny _ _ _ _ _ _
    refine wpAny_pure ?_
    (show wpAny _ _ (ret Value.none) _ _ _)
    refine wpAny_pure ⟨rfl, h2, t2, c, rfl, hS, by rw [← count]; exact hc, fun b o e => ?_⟩
    have lb : b < s.heap.objs.size := Heap.lt_size e
    refine mv.heap b o (fun z => ?_) (Heap.get?_push_of_some _ (Heap.get?_push_of_some _ e))
    rw [next] at z
    (rcases List.mem_cons.mp z with z | z)
    · exact Nat.ne_of_lt lb z
    · exact Nat.ne_of_lt (Nat.lt_succ_of_lt lb) (List.mem_singleton.mp z)
theorem set_of_list {l : Addr} {items : Array Value} (ns : List Int) {Q : Value → Shared → Prop} (hh : A.handled = none) (hl : s.heap.IsList l items) (hit : IntsAre items.toList ns) (room : ns.length + 1 < scanBound)
    (h : ∀ s', Filled w s s.heap.objs.size ns s' → Q (.ref s.heap.objs.size) s') : wpAny (model P w) A (call (.type "set") [.ref l]) Q E s := by
  have m0 := F.called_set.made
  have m1 := F.called_set.sub
  obtain ⟨_, _, m2⟩ := F.called_set.mro
  have m3 := F.called_set.notType
  have m4 := F.called_set.canCreate
  have m5 := F.typeCall_set_1 (.ref l)
  (refine wpAny_call (codeAny_of_tree ?_))
  (show wpAny _ _ (callAny (.type "set") _) _ _ _)
  (refine wpAny_pure ⟨Code.quiet_builtin _ (by decide +kernel), codeAny_builtin F.entry_type_call ?_⟩)
  (rw [Around.under_plain (weight_type_call_type "set" [.ref l] []) rfl])
  (repeat (any_goals (first | assumption | wp_step)))
  refine codeAny_mono (code_set_led1 (.ref l) (E := E) (Q₁ := fun obj s₁ => obj = .ref s.heap.objs.size ∧ s₁ = { s with heap := s.heap.push (newS w) }) ⟨rfl, rfl⟩) fun r s₁ hr => ?_
  match r, hr with
  | .error e, hr => exact hr
  | .ok (.ret obj), hr =>
    obtain ⟨rfl, rfl⟩ := hr
    have isSet : Shared.TypeIs { s with heap := s.heap.push (newS w) } (.ref s.heap.objs.size) "set" := ⟨_, Heap.get?_push_size _ rfl, rfl⟩
    have m6 := F.called_set.init.lookup
    have m7 := F.called_set.init.bind (.ref s.heap.objs.size)
    (repeat (any_goals (first | assumption | wp_step)))
    refine codeAny_mono (codeAny_call_builtin (R := wants (fun r s₂ => r = .none ∧ Filled w s s.heap.objs.size ns s₂) E) F.called_set.init.plain F.entry_set_init (check_set_init_1 isSet (fill_list (A := A.in1) ns (by simpa using hh) hl hit room))) fun r₂ s₂ hr₂ => ?_
    match r₂, hr₂ with
    | .error e, hr₂ => exact hr₂
    | .ok (.ret v), hr₂ =>
      obtain ⟨rfl, done⟩ := hr₂
      (repeat (any_goals (first | assumption | wp_step)))
      exact h _ done
end
section
variable {X : Cx}
def rSetL (K : PySem.W.Frag) (w : World) : List V → Hp → VK → Prop := fun xs H Q => ∃ (a : Addr) (ns : List Int), xs = [V.ref a] ∧ SqL K H a (ns.map V.int) ∧ ns.length ≤ 4000 ∧
  ∀ (p : Addr) (c : Nat), c ≤ ns.length → H p = none → Q (.ref p) (upd H p (SetO w p (fun j => decide (j ∈ ns)) c))
theorem cr_setL (hc : X.calm = true) : CallR X (.type "set") (rSetL X.K X.w) := by
  (intro pins s σ H xs us Q I r h)
  obtain ⟨a, ns, rfl, hq, small, q⟩ := h
  (obtain ⟨its, rv, pl, hz⟩ := I.list hq)
  rw [Vals.ref1 r]
  refine set_of_list ns (I.ok.hd hc) pl.isList (by simpa using rv.ints) (by unfold scanBound; omega) fun s' ⟨h', tk, c, es, hS, hcn, kp⟩ => ?_
  subst es
  exact ⟨.ref _, _, I.laid (t' := tk) kp (Nat.le_refl _) (setO_new hS), rfl, q _ c hcn (I.hok.fresh (Nat.le_refl _))⟩
end
/-! ### a method that says super().m(..) -/
/-- a statement list, an expression, run by an activation that is known: c is its code -/
structure PAt (X : Cx) (c : Code) (st : List Stmt) (t : TS) : Prop where
  run : ∀ (pins : List (Addr × Obj)) (s : Shared) (σ : L2.St) (H : Hp) (D : Ends), Inv X pins σ H s → t D σ H → _root_.PySem.wpAt (model X.prog X.w) X.A c (execs st X.env) (SP X pins D) X.xe s
structure EAt (X : Cx) (c : Code) (e : Expr) (t : TE) : Prop where
  run : ∀ (pins : List (Addr × Obj)) (s : Shared) (σ : L2.St) (H : Hp) (Q : VK), Inv X pins σ H s → t σ H Q → _root_.PySem.wpAt (model X.prog X.w) X.A c (eval e X.env) (EP X pins σ Q) X.xe s
section
variable {X : Cx} {c : Code} {st : Stmt} {rest : List Stmt} {t u : TS} {te : TE}
theorem pat_plain {sts : List Stmt} (h : PSs X sts t) : PAt X c sts t := ⟨fun pins s σ H D I q => _root_.PySem.wpAt_of_wpAny (h.run pins s σ H D I q)⟩
theorem pat_cons (h : PS X st t) (k : PAt X c rest u) : PAt X c (st :: rest) (tSeq t u) := by
  refine ⟨fun pins s σ H D I q => ?_⟩
  refine ks_wpAt_execs_cons (_root_.PySem.wpAt_of_wpAny (thn (h.run pins s σ H { D with nx := u D } I q) fun f s1 z => ?_))
  match f, z with
  | .next, ⟨σ1, H1, I1, z⟩ => exact k.run pins s1 σ1 H1 D I1 z
  | .ret v, z => exact z
  | .brk, z => exact z
  | .cont, z => exact z
theorem pat_ret {e : Expr} {pos : Pos} (h : EAt X c e te) : PAt X c [.Return (some e) pos] (tRet te) := by
  refine ⟨fun pins s σ H D I q => ?_⟩
  refine ks_wpAt_execs_cons (ks_wpAt_Return_some (_root_.PySem.wpAt_mono (h.run pins s σ H _ I q) (fun v s1 ⟨x, H1, I1, r1, z⟩ => ?_) fun _ _ z => z))
  exact ⟨x, σ, H1, I1, r1, z⟩
theorem pat_set {i : Nat} {x : Str} {e : Expr} {pos pos' : Pos} (hN : X.N.Nodup) (hi : X.N[i]? = some x) (hx : Loc X.env.scope x) (h : EAt X c e te) (k : PAt X c rest u)
    (hs : swapsWith e (some (.Name x pos')) pos.line X.env = pure false := by rfl) (hf : X.fn x = true ∨ X.env.scope.names.lookup x = some .local := by first | exact .inl rfl | exact .inr rfl | assumption) :
    PAt X c (.Assign [.Name x pos'] e pos :: rest) (tSeq (tAsg te (gName i)) u) := by
  refine ⟨fun pins s σ H D I q => ?_⟩
  refine ks_wpAt_execs_cons (ks_wpAt_Assign_Name (_root_.PySem.wpAt_mono (h.run pins s σ H _ I q) (fun v s1 ⟨y, H1, I1, r1, z⟩ => ?_) fun _ _ z => z) hs)
  exact store_ok I1 hN hi hx r1 (fun s2 I2 => k.run pins s2 _ H1 D I2 z) hf
end
/-- what the activation leans on: the function at f, its code object, the cell of its class -/
structure Act (K : PySem.W.Frag) (P : Program) (f cda cc D : Addr) (fd : FuncData) : Prop where
  fn : ∃ oc od osl, K.lookup f = some ⟨oc, od, .func fd, osl⟩
  self : ∃ ar, (fd.params.posonlyargs ++ fd.params.args).head? = some ar ∧ ar.arg = "self"
  code : ∃ oc od vs sl file tf, K.lookup cda = some ⟨oc, od, .fields vs, sl⟩ ∧ vs[2]? = some (.str file tf) ∧ ((P.main.file : Str) == file) = true
  cell : ∃ oc od sl, K.lookup cc = some ⟨oc, od, .cell (some (.ref D)), sl⟩
  cls : ∃ cd, PySem.W.clsIn K D = some cd
  nosup : (P.main.scope.names.lookup ("super" : Str)).isSome = false
/-- what super() of an instance of C in a method of D finds at m -/
structure Sup (K : PySem.W.Frag) (C D : Addr) (m : Str) (g : Addr) : Prop where
  sub : PySem.W.mroIn K C (.ref D) = some true
  at_ : PySem.W.ks_superIn K C D m = some (some (.ref g))
  ty : PySem.W.typeIn K (.ref g) = some (.type "function")
  fi : PySem.W.fnIn K g = true
  op : PySem.W.nsIn K cStatics "thirdparty.any" = some none
  cl : Cls K C
def tSup (K : PySem.W.Frag) (D : Addr) (m : Str) (g : Addr) (sp : Sp) (E : XK) (t : TA) : TE := fun σ H Q => ∃ a C dx fs, σ[0]? = some (some (.ref a)) ∧ H a = some (.ins C dx fs) ∧ Sup K C D m g ∧
  ∀ q, H q = none → t σ (upd H q (.met g a)) fun vs H2 => H2 q = some (.met g a) ∧ sp (.ref a :: vs) H2 Q E
section
variable {X : Cx} {CX : CXT} {k : Nat} {f cda cc D g : Addr} {fd : FuncData} {m : Str} {sp : Sp} {E : XK} {e : Expr} {es : List Expr} {t : TA} {p0 p1 apos pos : Pos} {body : List Stmt} {pl : Sem Bool}
theorem ea_super (A : Act X.K X.prog f cda cc D fd) (hN : X.N[0]? = some ("self" : Str)) (hself : X.env.kindOf "self" = some .local) (hcl : X.env.kindOf "__class__" = some .free) (hsu : X.env.kindOf "super" = some .globalImplicit)
    (hfu : X.env.func = some f) (hco : X.env.code = .ref cda) (hce : X.env.cells.lookup ("__class__" : Str) = some cc) (hm : X.mg "super" = none) (hmc : (m == ("__class__" : Str)) = false)
    (F : FnR X.prog X.w X.K X.mg X.base CX k g sp) (hr : Room k X.A) (hx : Passes CX X E) (ha : PA X (e :: es) t)
    (hst : starEach (e :: es) X.env = (false, eval e X.env) :: starEach es X.env := by rfl) (hpl : (backTo pos (starEach es X.env)).any (·.1) = false := by rfl) (he : eval (.Call (.Attribute (.Call (.Name "super" p0) [] [] p1) m apos) (e :: es) [] pos) X.env = (do
      let ov ← attributeBase (.Call (.Name "super" p0) [] [] p1) m X.env (eval (.Call (.Name "super" p0) [] [] p1) X.env)
      standAt apos.atName
      let (fv, first) ← holding [ov] (getMethod ov m pl)
      callWith pos fv first (backTo pos (starEach (e :: es) X.env)) []) := by rfl) :
    EAt X (.func body X.env) (.Call (.Attribute (.Call (.Name "super" p0) [] [] p1) m apos) (e :: es) [] pos) (tSup X.K D m g sp E t) := by
  refine ⟨fun pins s σ H Q I ⟨a, C, dx, fs, h0, hH, S, hq⟩ => ?_⟩
  obtain ⟨oc, od, osl, hf⟩ := A.fn
  obtain ⟨ar, hp, har⟩ := A.self
  obtain ⟨oc2, od2, vs2, sl2, file, tf, hcode, hvs, hfile⟩ := A.code
  obtain ⟨oc3, od3, sl3, hcell⟩ := A.cell
  obtain ⟨cdD, hD⟩ := A.cls
  have KI := I.kIn
  obtain ⟨mA, O, _, _, _, _⟩ := ins_get I.hok hH
  obtain ⟨od', J, _⟩ := O.look
  obtain ⟨oD, hD1, hD2⟩ : ∃ oD, s.heap.get? D = some oD ∧ oD.data = .cls cdD := by
    unfold PySem.W.clsIn at hD
    split at hD
    · rename_i c d cd' sl ho
      cases hD
      exact ⟨_, KI _ _ ho, rfl⟩
    · cases hD
  refine ks_wpAt_MethodCall (pl := pl) ?_ he
  refine ks_wpAt_super_base hsu hcl hmc hfu (KI _ _ hf) rfl hp hco (KI _ _ hcode) rfl hvs hfile A.nosup ?_
  refine PySem.W.ks_loadName_global I.ok.kind hsu ?_
  (obtain ⟨mb, h1, h2⟩ := I.mod.blt)
  refine Calls.loadGlobal_builtin (by rw [I.ok.glob]; exact I.mod.glob.keeps I.bk) hm (by rw [I.ok.blt]; exact h1.keeps I.bk) ((h2 "super" (by decide)).trans (show bootBuiltins "super" = some (.type "super") by decide +kernel)) ⟨rfl, ?_⟩
  refine wpAny_loadName_free I.ok.kind hcl hce ⟨_, KI _ _ hcell, rfl⟩ ?_
  obtain ⟨mf, hns, hloc⟩ := I.loc
  obtain ⟨us, rs, lk⟩ := hloc 0 "self" (.ref a) hN h0 (.inl hself)
  obtain rfl : us = Value.ref a := rs
  have hv : mf "self" = some (.ref a) := by
    rcases lk with ⟨_, e⟩ | ⟨k, _⟩
    · exact e
    · rw [hself] at k
      rcases k with k | k <;> cases k
  rw [har]
  refine wpAny_loadName_local I.ok.kind hself hns hv ?_
  obtain ⟨hh, gg, dd, tt, oo⟩ := s
  (refine ks_wpAny_isType_cls hD1 hD2 ⟨rfl, ?_⟩)
  refine ks_wpAny_call_super hD1 hD2 J.at_ J.cls (fun cx ex => ?_) (PySem.W.looks_mroIn KI S.sub) (fun h' e1 k1 => ?_)
  · have z := J.no
    unfold PySem.W.notCls at z
    rw [ex] at z
    exact Bool.noConfusion z
  have I1 : Inv X pins σ H ⟨h', gg, dd, tt, oo⟩ := I.kept (s := ⟨hh, gg, dd, tt, oo⟩) (t' := tt) k1
  cases hc : PySem.W.clsIn X.K C with
  | none =>
    have z := S.at_
    unfold PySem.W.ks_superIn at z
    rw [hc] at z
    cases z
  | some cd =>
    have z := S.at_
    unfold PySem.W.ks_superIn at z
    rw [hc] at z
    obtain ⟨og, hog, hogc⟩ : ∃ og, h'.get? g = some og ∧ og.cls = .type "function" := by
      have ht' : (X.K.lookup g).map (·.cls) = some (.type "function") := S.ty
      cases y : X.K.lookup g with
      | none => rw [y] at ht'; cases ht'
      | some og => rw [y] at ht'; exact ⟨og, I1.kIn _ _ y, Option.some.inj ht'⟩
    refine ks_wpAny_getMethod_super e1 (PySem.W.looks_opaque I1.kIn S.op) (l₀ := cd.mro) (fun A Q E s k q => wpAny_bind ((PySem.W.looks_clsIn I1.kIn hc) A _ E s k (wpAny_pure q))) rfl I1.kIn z hog hogc (PySem.W.ks_ne KI J hc) hmc ?_
    have hqn : H h'.objs.size = none := I1.hok.fresh (Nat.le_refl _)
    have I2 : Inv X pins σ (upd H h'.objs.size (.met g a)) ⟨h'.push { cls := .type "method", data := .fields #[.ref g, .ref a] }, gg, dd, tt + 1, oo⟩ :=
      I1.laid (t' := tt + 1) (fun b u y => Heap.get?_push_of_some _ y) (Nat.le_refl _) (show (h'.push (PySem.W.methodObj (.ref g) (.ref a))).get? h'.objs.size = some (PySem.W.methodObj (.ref g) (.ref a)) from Heap.get?_push_size h' rfl)
    have w2 := ha.run pos pins _ σ _ _ I2 (hq _ hqn)
    rw [hst] at w2 ⊢
    refine callwith_met (X := X) (a := a) (g := g) (by show (false || (backTo pos (starEach es X.env)).any (·.1) || false) = false; rw [hpl]; rfl) S.fi (Calls.evalArgs_plain (thn w2 fun us s3 ⟨vs, H3, I3, r3, hm3, hsp⟩ => ?_))
    exact ⟨met_P I3 hm3, wpAny_call (PySem.W.method_call (met_P I3 hm3).1 (run_fnR (us := Value.ref a :: us) (vs := V.ref a :: vs) F hr hx I3 (.cons rfl r3) hsp))⟩
end
/-! ### a method whose only captured cell is __class__ -/
abbrev envS (qual : Str) (scope : Scope) (L f cda cc : Addr) : Env := PySem.W.ksEnv qual scope L f (.ref cda) cc
/-- its context at the entry -/
def cxS (P : Program) (w : World) (K : PySem.W.Frag) (mg : Str → Option Value) (base : Heap) (N : List Str) (qual : Str) (scope : Scope) (f cda cc : Addr) (A : Around) (outer : List Env) (s : Shared) (H : Hp) : Cx where
  prog := P
  w := w
  K := K
  mg := mg
  base := base
  A := A.deeper (envS qual scope s.heap.objs.size f cda cc)
  N := N
  s_0 := s
  H_0 := H
  env := envS qual scope s.heap.objs.size f cda cc
  outer := outer
  stack := envS qual scope s.heap.objs.size f cda cc :: outer
  ex := []
  calm := true
  fn := fun _ => false
  pn := []
  xe := fun _ _ => False
structure ScopeS (N ps : List Str) (sc : Scope) : Prop where
  kind : sc.kind = .function
  co : sc.isCoroutine = false
  gen : sc.isGenerator = false
  nd : N.Nodup
  pre : N.take ps.length = ps
  par : (∀ x ∈ ps, sc.names.lookup x = some .local)
  noc : ∀ y ∈ sc.names, y.2 ≠ .cell
  free : ∀ y ∈ sc.names, y.2 = .free → y.1 = ("__class__" : Str)
section
variable {P : Program} {w : World} {K : PySem.W.Frag} {mg : Str → Option Value} {base : Heap} {N ps : List Str} {qual name : Str} {scope : Scope} {params : Arguments} {body : List Stmt} {f cda cc D : Addr} {dV kV doc pm ct : Value} {an : Option Addr} {k : Nat} {sp : Sp}
theorem zip_at : ∀ {ps : List Str} {us : List Value} {i : Nat} {x : Str} {v : Value}, ps.Nodup → ps[i]? = some x → us[i]? = some v → (ps.zip us).reverse.lookup x = some v := by
  intro ps us i x v nd h1 h2
  have look : ∀ (l : List (Str × Value)), (∀ p ∈ l, p.1 = x → p.2 = v) → (x, v) ∈ l → l.lookup x = some v := by
    intro l
    induction l with
    | nil => intro _ h; simp at h
    | cons p r ih =>
      intro hu hm
      obtain ⟨y, z⟩ := p
      by_cases e : x = y
      · subst e
        have q := hu (x, z) List.mem_cons_self rfl
        simp only at q
        subst q
        simp [List.lookup]
      · have e' : (x == y) = false := beq_eq_false_iff_ne.mpr e
        rw [List.lookup_cons, e']
        refine ih (fun p hp => hu p (List.mem_cons_of_mem _ hp)) ?_
        (rcases List.mem_cons.mp hm with q | q)
        · exact absurd (congrArg Prod.fst q) e
        · exact q
  refine look _ (fun p hp ex => ?_) (List.mem_reverse.mpr (List.mem_of_getElem? (i := i) (by rw [List.getElem?_zip_eq_some]; exact ⟨h1, h2⟩)))
  obtain ⟨j, hj⟩ := List.mem_iff_getElem?.mp (List.mem_reverse.mp hp)
  obtain ⟨a1, a2⟩ := List.getElem?_zip_eq_some.mp hj
  rw [ex] at a1
  obtain ⟨b1, c1⟩ := List.getElem?_eq_some_iff.mp a1
  obtain ⟨b2, c2⟩ := List.getElem?_eq_some_iff.mp h1
  have eij : j = i := (List.getElem_inj nd).mp (c1.trans c2.symm)
  subst eij
  rw [h2] at a2
  exact (Option.some.inj a2).symm
theorem inv_sup {A : Around} {outer : List Env} {s : Shared} {H : Hp} {us : List Value} {vs : List V} {h0 : Heap} {tk : Nat} (S : ScopeS N ps scope) (hd : A.handled = none) (e0 : Env0 P w K mg base A outer s H) (hl : vs.length = ps.length) (r : Vals vs us)
    (hcell : ∃ oc od sl, K.lookup cc = some ⟨oc, od, .cell (some (.ref D)), sl⟩) (ns : h0.Ns s.heap.objs.size (fun x => (ps.zip us).reverse.lookup x)) (kp : ∀ b o, s.heap.get? b = some o → h0.get? b = some o) :
    Inv (cxS P w K mg base N qual scope f cda cc A outer s H) [] (start N vs) H { s with heap := h0, toks := tk } := by
  obtain ⟨oc, od, sl, hc⟩ := hcell
  have hcb := e0.mod.kin cc _ hc
  obtain ⟨hcs, hcH⟩ := e0.bs cc _ hcb
  have one : ∀ x c, ([("__class__", cc)] : List (Str × Addr)).lookup x = some c → x = ("__class__" : Str) ∧ c = cc := fun x c h => by
    have h' : (match x == ("__class__" : Str) with | true => some cc | false => none) = some c := h
    cases q : x == ("__class__" : Str) with
    | true => rw [q] at h'; exact ⟨eq_of_beq q, (Option.some.inj h').symm⟩
    | false => rw [q] at h'; cases h'
  have hpl : ps.length ≤ N.length := by
    have := congrArg List.length S.pre
    rw [List.length_take] at this
    omega
  refine ⟨⟨e0.mod, S.kind, rfl, rfl, Nat.le_refl _, fun x y c h1 h2 => (one x c h1).1.trans (one y c h2).1.symm, fun x hx => ?_, fun x c hf _ => (by cases (show false = true from hf)), fun _ => hd, Around.frames_deeper e0.frames, .inr ⟨rfl, rfl⟩, fun b z => absurd (show b ∈ ([] : List Addr) from z) (by simp), e0.bs, e0.bsz,
      fun b _ _ z => absurd (show b ∈ ([] : List Addr) from z) (by simp), fun b z => absurd (show b ∈ ([] : List Addr) from z) (by simp), e0.funs, e0.frf⟩,
    rfl, e0.bare, Un.kept kp, ⟨_, ns, fun i y v h1 h2 h3 => ?_⟩, fun x c h => ?_, e0.hok.fresh (Nat.le_refl _), fun x c h => ?_, fun p hp => absurd (show p ∈ ([] : List (Addr × Obj)) from hp) (by simp), e0.hok.kept kp, ?_⟩
  · rcases hx with hx | hx
    · exact absurd rfl (S.noc _ (PySem.mem_of_lookup (show scope.names.lookup x = some .cell from hx)))
    · obtain rfl := S.free _ (PySem.mem_of_lookup (show scope.names.lookup x = some .free from hx)) rfl
      exact ⟨cc, rfl⟩
  · have hi : (i < vs.length) := by
      unfold L2.start at h2
      by_cases hi : i < vs.length
      · exact hi
      · rw [List.getElem?_append_right (by simpa using hi), List.getElem?_replicate] at h2
        split at h2 <;> cases h2
    have ha : (vs[i]? = some v) := by
      unfold L2.start at h2
      (rw [List.getElem?_append_left (by simpa using hi), List.getElem?_map] at h2)
      cases e : vs[i]? with
      | none => (rw [e] at h2; cases h2)
      | some a => (rw [e] at h2; cases h2; rfl)
    (obtain ⟨u, hu, rv⟩ := r.get ha)
    have hp : (ps[i]? = some y) := by
      (rw [← S.pre, List.getElem?_take_of_lt (by omega)])
      exact h1
    have ndP : ps.Nodup := by
      rw [← S.pre]
      (exact S.nd.sublist (List.take_sublist _ _))
    exact ⟨u, rv, .inl ⟨S.par y (List.mem_of_getElem? hp), zip_at ndP hp hu⟩⟩
  · obtain ⟨_, rfl⟩ := one x c h
    exact ⟨some (.ref D), _, kp _ _ hcs, rfl⟩
  · obtain ⟨_, rfl⟩ := one x c h
    exact hcH
  · unfold L2.start
    show _ = N.length
    (rw [List.length_append, List.length_map, List.length_replicate])
    omega
/-- THE RULE: such a method by its body -/
theorem fn_sup {oc : Value} {od : Option Addr} {osl : Array (Option Value)} (lk : K.lookup f = some ⟨oc, od, .func (PySem.W.ksFn name qual params body scope dV kV doc pm an (.ref cda) ct cc), osl⟩) (hcd : PySem.W.codeIn K (.ref cda) qual = true) (S : ScopeS N ps scope)
    (hcell : ∃ oc od sl, K.lookup cc = some ⟨oc, od, .cell (some (.ref D)), sl⟩) (len : ∀ vs H Q E, sp vs H Q E → vs.length = ps.length)
    (hbody : ∀ (A : Around) (outer : List Env) (s : Shared) (H : Hp) (vs : List V) (Q : VK) (E : XK), Room k (A.deeper (envS qual scope s.heap.objs.size f cda cc)) → sp vs H Q E →
      ∃ t, PAt (cxS P w K mg base N qual scope f cda cc A outer s H) (.func body (envS qual scope s.heap.objs.size f cda cc)) body t ∧ t { nx := fun _ H' => Q .non H', rt := Q } (start N vs) H) :
    FnOk P w K mg base CX0 (k + 1) f (PySem.W.ksFn name qual params body scope dV kV doc pm an (.ref cda) ct cc) ps sp := by
  (refine ⟨len, fun A outer s H args us vs Q E hr e0 hb r hsp => ?_⟩)
  (have KX : K.In s.heap := e0.mod.kin.keeps fun b o e => (e0.bs b o e).1)
  (have lim : s.heap.NoLimit := e0.mod.nolimit.keeps fun b o e => (e0.bs b o e).1)
  refine ks_codeAny_call_defAt hr.depth (KX _ _ lk) rfl lim (PySem.W.codeRec_of KX hcd) rfl hb S.noc (fun x hx => S.par x.1 (List.of_mem_zip hx).1) (fun h0 ns kp => ?_) S.co S.gen S.kind
  (obtain ⟨t, ht, hq⟩ := hbody A outer s H vs Q E (hr.deeper _) hsp)
  have I := inv_sup (qual := qual) (f := f) (cda := cda) (tk := s.toks + (ps.zip us).length) S hr.hd e0 (len _ _ _ _ hsp) r hcell ns kp
  refine _root_.PySem.wpAt_mono (ht.run [] _ _ H _ I hq) (fun fl s1 z => ?_) fun e s1 z => (show False from z).elim
  match fl, z with
  | .ret u, ⟨v, σ1, H1, J, rv, q⟩ => exact ⟨v, H1, J.os, J.bare, J.base, J.hok, rv, q⟩
  | .next, ⟨σ1, H1, J, q⟩ => exact ⟨.non, H1, J.os, J.bare, J.base, J.hok, rfl, q⟩
  | .brk, ⟨_, _, _, q⟩ => exact False.elim q
  | .cont, ⟨_, _, _, q⟩ => exact False.elim q
end
/-! ### pairs of ints, sorted -/
/-- the pair that a value stands for -/
def kOf (H : Hp) : V → Int × Int
  | .ref t => match H t with
    | some (.tup [.int a, .int b]) => (a, b)
    | _ => (0, 0)
  | _ => (0, 0)
theorem kOf_at {H : Hp} {t : Addr} {a b : Int} (h : H t = some (.tup [.int a, .int b])) : kOf H (.ref t) = (a, b) := by
  show (match H t with
    | some (.tup [.int a, .int b]) => (a, b)
    | _ => (0, 0)) = (a, b)
  rw [h]
/-- ascending, as tuples compare -/
def Asc (qs : List (Int × Int)) : Prop := qs.Pairwise fun p q => SrtO.lexB q p = false
theorem asc_one {ps qs : List (Int × Int)} (h : ps.Perm qs) (hp : Asc ps) (hq : Asc qs) : ps = qs := by
  refine List.Perm.eq_of_pairwise (fun a b _ _ h1 h2 => ?_) hp hq h
  have x := SrtO.lexB_no.mp h1
  have y := SrtO.lexB_no.mp h2
  refine Prod.ext ?_ ?_ <;> omega
/-- the tuples at ts tell the pairs ps -/
def Tells (H : Hp) (ts : List Addr) (ps : List (Int × Int)) : Prop := Paired (fun (t : Addr) (q : Int × Int) => H t = some (.tup [.int q.1, .int q.2])) ts ps
theorem tells_k {H : Hp} : ∀ {ts : List Addr} {ps : List (Int × Int)}, Tells H ts ps → (ts.map V.ref).map (kOf H) = ps ∧ ∀ v ∈ ts.map V.ref, ∃ t, v = V.ref t ∧ H t = some (.tup [.int (kOf H v).1, .int (kOf H v).2])
  | [], [], .nil => ⟨rfl, fun v hv => by simp at hv⟩
  | t :: ts, q :: ps, .cons h r => by
    obtain ⟨e1, e2⟩ := tells_k r
    refine ⟨?_, fun v hv => ?_⟩
    · rw [List.map_cons, List.map_cons, e1, kOf_at h]
    · rw [List.map_cons] at hv
      rcases List.mem_cons.mp hv with z | z
      · subst z
        exact ⟨t, rfl, by rw [kOf_at h]; exact h⟩
      · exact e2 v z
theorem tells_of {H : Hp} : ∀ {vs : List V}, (∀ v ∈ vs, ∃ t, v = V.ref t ∧ H t = some (.tup [.int (kOf H v).1, .int (kOf H v).2])) → ∃ ts, vs = ts.map V.ref ∧ Tells H ts (vs.map (kOf H))
  | [], _ => ⟨[], rfl, .nil⟩
  | v :: vs, h => by
    obtain ⟨t, e, ht⟩ := h v List.mem_cons_self
    obtain ⟨ts, es, hs⟩ := tells_of fun u hu => h u (List.mem_cons_of_mem _ hu)
    subst e
    exact ⟨t :: ts, by rw [List.map_cons, ← es], .cons ht hs⟩
/-- what a sort of such a list leaves -/
theorem sorted_tells {H : Hp} {ts : List Addr} {ps : List (Int × Int)} {zs : List V} (h : Tells H ts ps) (h1 : SrtO.Srtd (ltP (kOf H)) zs) (h2 : zs.Perm (ts.map V.ref)) :
    ∃ (us : List Addr) (qs : List (Int × Int)), zs = us.map V.ref ∧ qs.Perm ps ∧ Asc qs ∧ Tells H us qs := by
  obtain ⟨e1, e2⟩ := tells_k h
  obtain ⟨us, eu, hu⟩ := tells_of (H := H) (vs := zs) fun v hv => e2 v (h2.mem_iff.mp hv)
  refine ⟨us, zs.map (kOf H), eu, ?_, ?_, hu⟩
  · rw [← e1]
    exact h2.map _
  · exact List.pairwise_map.mpr h1
theorem tells_same {H H' : Hp} (s : Same H H') : ∀ {ts : List Addr} {ps : List (Int × Int)}, Tells H ts ps → Tells H' ts ps
  | _, _, .nil => .nil
  | _, _, .cons h r => .cons (s _ _ h) (tells_same s r)

/-! ### one frame further in -/
abbrev inX (X : Cx) : Cx := { X with A := X.A.in1 }
section
variable {X : Cx} {pins : List (Addr × Obj)} {σ : L2.St} {s : Shared} {H : Hp}
theorem Inv.goIn (I : Inv X pins σ H s) : Inv (inX X) pins σ H s :=
  ⟨⟨I.ok.mod, I.ok.kind, I.ok.glob, I.ok.blt, I.ok.above, I.ok.inj, I.ok.has, I.ok.cab, fun h => by show X.A.in1.handled = none; simpa using I.ok.hd h, I.ok.frames, I.ok.stk, I.ok.exf, I.ok.bs, I.ok.bsz, I.ok.noex, I.ok.exfs, I.ok.funs, I.ok.frf⟩,
    I.os, I.bare, I.base, I.loc, I.cell, I.free, I.freeC, I.pin, I.hok, I.len⟩
theorem Inv.goOut (ok : X.Ok) (I : Inv (inX X) pins σ H s) : Inv X pins σ H s := ⟨ok, I.os, I.bare, I.base, I.loc, I.cell, I.free, I.freeC, I.pin, I.hok, I.len⟩

/-! ### sorted(d.items()) of a dict of ints -/
def intKV (q : Int × Int) : Key × V := (Sum.inl q.1, V.int q.2)
def rSortItems : V → Hp → VK → Prop := fun x H Q => ∃ (d : Addr) (ps : List (Int × Int)), x = V.ref d ∧ H d = some (.dK (ps.map intKV)) ∧
  ∀ (H' : Hp) (p : Addr) (ts : List Addr) (qs : List (Int × Int)), Same H H' → H p = none → H' p = some (.lst (ts.map V.ref)) → qs.Perm ps → Asc qs → Tells H' ts qs → Q (.ref p) H'
theorem tells_put : ∀ (as : List Addr) (ps : List (Int × Int)) (H : Hp), as.length = ps.length → as.Nodup → Tells (LiI.putT H as (ps.map intKV)) as ps := by
  intro as ps H hl hn
  have z := LiI.putT_at as (ps.map intKV) H (by rw [List.length_map]; exact hl) hn
  generalize LiI.putT H as (ps.map intKV) = H2 at z
  clear hl hn
  induction ps generalizing as with
  | nil => cases z; exact .nil
  | cons q r ih =>
    rw [List.map_cons] at z
    cases z with
    | cons a b => exact .cons a (ih _ b)
theorem sort_items {d r : Addr} {ps : List (Int × Int)} {Q : VK} (hc : X.calm = true) (I : Inv X pins σ H s) (hv : s.heap.IsItemsView r d) (hd : H d = some (.dK (ps.map intKV)))
    (q : ∀ (H' : Hp) (p : Addr) (ts : List Addr) (qs : List (Int × Int)), Same H H' → H p = none → H' p = some (.lst (ts.map V.ref)) → qs.Perm ps → Asc qs → Tells H' ts qs → Q (.ref p) H') :
    wpAny (model X.prog X.w) X.A (call (.builtin "sorted") [.ref r]) (EP X pins σ Q) X.xe s := by
  obtain ⟨hz, hs0, vs, kv, o, es, ep, ho, hx, hdat, hks, hpr, hnd⟩ := I.hok d _ hd
  have l1 : ps.length = vs.length := by have z := Paired.length kv; rw [List.length_map] at z; exact z
  have pl : ∀ {a : List DictEntry} {b : List (Key × Value)}, Pairs (mixKind X.prog X.w) a b → a.length = b.length := by
    intro a b z
    induction z with
    | nil => rfl
    | cons _ _ _ ih => rw [List.length_cons, List.length_cons, ih]
  have l2 : es.size = vs.length := by have z := pl hpr; rw [Array.length_toList] at z; exact z
  rw [List.length_map] at hz
  refine DT.sortedI (es := es) (ep := ep) (I.ok.hd hc) hv ⟨o, ho, hx, hdat⟩ (by omega) fun h' tk as hk hlt hl hG => ?_
  (have nd : as.Nodup := List.Pairwise.imp (fun {a b} (h : a < b) => Nat.ne_of_lt h) hG.rise)
  have lp : as.length = ps.length := by omega
  have fresh : ∀ t ∈ as, H t = none := fun t ht => I.hok.fresh (Nat.le_of_lt (hG.above t ht))
  -- each pair's own tuple
  have at_ : ∀ (j : Nat) (b : Addr), as[j]? = some b → ∃ (z : Int × Int) (t1 t2 : Tok), ps[j]? = some z ∧ h'.get? b = some { cls := .type "tuple", data := .seq #[.int z.1 t1, .int z.2 t2] } := by
    intro j b hj
    (obtain ⟨en, he, hg⟩ := hG.pairs j b hj)
    have go : ∀ {a : List DictEntry} {c : List (Key × Value)} (qs : List (Int × Int)), Pairs (mixKind X.prog X.w) a c → KV (qs.map intKV) c → ∀ j : Nat, a[j]? = some en → ∃ (z : Int × Int) (t1 t2 : Tok), qs[j]? = some z ∧ en.key = .int z.1 t1 ∧ en.val = .int z.2 t2 := by
      intro a c qs z
      induction z generalizing qs with
      | nil => intro _ j e; simp at e
      | @cons e1 kv1 es1 kvs1 k1 k2 _ ih =>
        intro w j e
        cases qs with
        | nil => cases w
        | cons q0 qs =>
          rw [List.map_cons] at w
          cases w with
          | cons w1 w2 =>
            cases j with
            | zero =>
              obtain rfl : e1 = en := Option.some.inj e
              obtain ⟨a1, a2⟩ := w1
              rw [← a1] at k1
              have kk : keyIs (.inl q0.1) e1.key = true := k1
              rcases keyIs_shape kk with ⟨i, t, e3, e4⟩ | ⟨x, t, e3, _⟩
              · obtain rfl := Sum.inl.inj e3
                obtain ⟨t2, e5⟩ := (show ∃ t, kv1.2 = Value.int q0.2 t from a2)
                exact ⟨q0, t, t2, rfl, e4, k2.trans e5⟩
              · cases e3
            | succ j => exact ih qs w2 j e
    obtain ⟨z, t1, t2, e1, e2, e3⟩ := go ps hpr kv j (by rw [Array.getElem?_toList]; exact he)
    exact ⟨z, t1, t2, e1, by rw [hg, e2, e3]⟩
  -- the new list and the tuples are tracked
  have I1 : Inv X pins σ (LiI.putT (upd H h'.objs.size (.lst (as.map V.ref))) as (ps.map intKV)) { s with heap := h'.push { cls := .type "list", data := .seq (as.map Value.ref).toArray }, toks := tk } := by
    have new : H h'.objs.size = none := I.hok.fresh (Nat.le_of_lt hlt)
    have lout : h'.objs.size ∉ as := fun z => Nat.lt_irrefl _ (hG.there z)
    have off : ∀ b, b ∉ as → b ≠ h'.objs.size → LiI.putT (upd H h'.objs.size (.lst (as.map V.ref))) as (ps.map intKV) b = H b := fun b h1 h2 => by rw [LiI.putT_off as _ _ h1, upd_ne h2]
    have kp : ∀ b u, H b = some u → LiI.putT (upd H h'.objs.size (.lst (as.map V.ref))) as (ps.map intKV) b = some u := fun b u e => by
      rw [off b (fun z => by rw [fresh b z] at e; cases e) (fun z => by rw [z, new] at e; cases e)]
      exact e
    have up : ∀ b u, s.heap.get? b = some u → (h'.push { cls := .type "list", data := .seq (as.map Value.ref).toArray }).get? b = some u := fun b u e => Heap.get?_push_of_some _ (hk b u e)
    have old : ∀ b u, s.heap.get? b = some u → b ∉ as ∧ b ≠ h'.objs.size := fun b u e =>
      ⟨fun z => Nat.lt_irrefl _ (Nat.lt_trans (hG.above b z) (Heap.lt_size e)), Nat.ne_of_lt (Nat.lt_trans (Heap.lt_size e) hlt)⟩
    have tl := tells_put as ps (upd H h'.objs.size (.lst (as.map V.ref))) lp nd
    refine I.call' (ch := []) rfl ⟨fun b o q _ _ _ => up b o q, fun b o q _ _ _ => ⟨o.slots, up b o q⟩, fun b o q n _ => ?_, fun b o q _ => ⟨o, up b o q⟩, fun b xs q => kp b _ q, fun b o u q => kp b _ q, fun b ps q => ⟨#[], by rw [kp b _ q]; simp⟩⟩ (fun b u q => ?_) I.bare fun b z => by simp at z
    · obtain ⟨z1, z2⟩ := old b o q
      rw [off b z1 z2]
      exact n
    · by_cases hb : b ∈ as
      · obtain ⟨j, z, e1, e2, e3⟩ := LiI.paired_ix tl hb
        rw [e3] at q
        cases q
        obtain ⟨z', t1, t2, f1, f2⟩ := at_ j b e1
        obtain rfl : z = z' := Option.some.inj (e2.symm.trans f1)
        exact ⟨by show 2 ≤ sizeLine; decide, [.int z.1 t1, .int z.2 t2], .cons ⟨_, rfl⟩ (.cons ⟨_, rfl⟩ .nil), ⟨_, Heap.get?_push_of_some _ f2, rfl, _, rfl⟩⟩
      · by_cases hb2 : b = h'.objs.size
        · subst hb2
          rw [LiI.putT_off as _ _ hb, upd_same] at q
          cases q
          exact ⟨by rw [List.length_map]; omega, as.map Value.ref, 0, LiI.vals_refs as, Heap.get?_push_size _ rfl⟩
        · rw [off b hb hb2] at q
          exact (I.hok b u q).stay (fun d v _ y => up d v y) (fun d y => kp d _ y) fun d xs y => kp d _ y
  have ne0 : h'.objs.size ∉ as := fun z => Nat.lt_irrefl _ (hG.there z)
  have hL : LiI.putT (upd H h'.objs.size (.lst (as.map V.ref))) as (ps.map intKV) h'.objs.size = some (.lst (as.map V.ref)) := by rw [LiI.putT_off as _ _ ne0, upd_same]
  have tl := tells_put as ps (upd H h'.objs.size (.lst (as.map V.ref))) lp nd
  have new : H h'.objs.size = none := I.hok.fresh (Nat.le_of_lt hlt)
  have sm : Same H (LiI.putT (upd H h'.objs.size (.lst (as.map V.ref))) as (ps.map intKV)) := fun b u e => by
    rw [LiI.putT_off as _ _ (fun z => by rw [fresh b z] at e; cases e), upd_ne (fun z => by rw [z, new] at e; cases e)]
    exact e
  generalize LiI.putT (upd H h'.objs.size (.lst (as.map V.ref))) as (ps.map intKV) = H2 at I1 hL tl sm
  obtain ⟨_, e2⟩ := tells_k tl
  refine wpAny_mono (mt_sortPO (X := inX X) pins _ σ H2 (.ref h'.objs.size) [] (.ref h'.objs.size) [] (fun _ H3 => ∃ (us : List Addr) (qs : List (Int × Int)), H3 = upd H2 h'.objs.size (.lst (us.map V.ref)) ∧ qs.Perm ps ∧ Asc qs ∧ Tells H2 us qs)
    (Inv.goIn I1) rfl .nil ⟨_, _, kOf H2, rfl, rfl, hL, e2, fun zs h1 h2 => ?_⟩) (fun u s' ⟨v, H3, J, _, us, qs, e3, z1, z2, z3⟩ => ?_) fun _ _ z => z
  · obtain ⟨us, qs, ez, z1, z2, z3⟩ := sorted_tells tl h1 h2.perm
    exact ⟨us, qs, by rw [ez], z1, z2, z3⟩
  · subst e3
    have I2 := Inv.goOut I1.ok J
    have away : ∀ b u, H2 b = some u → (u ≠ .lst (as.map V.ref)) → b ≠ h'.objs.size := fun b u e n z => by rw [z, hL] at e; exact n (Option.some.inj e).symm
    refine ⟨.ref h'.objs.size, _, I2, rfl, q _ _ us qs (fun b u e => ?_) new upd_same z1 z2 ?_⟩
    · rw [upd_ne (fun z => by rw [z, new] at e; cases e)]
      exact sm b u e
    · have go : ∀ (L : HO) {us : List Addr} {qs : List (Int × Int)}, Tells H2 us qs → Tells (upd H2 h'.objs.size L) us qs := by
        intro L us qs z
        induction z with
        | nil => exact .nil
        | cons a b ih => exact .cons (by rw [upd_ne (away _ _ a (by intro w; cases w))]; exact a) ih
      exact go _ z3
/-- sorted(e.items()) -/
theorem pe_sortItems {e : Expr} {te : TE} {p apos cpos pos : Pos} (hc : X.calm = true) (he : PE X e te) (hg : Gl X "sorted") (hm : X.mg "sorted" = none) (hv : bootBuiltins "sorted" = some (.builtin "sorted")) (hbase : attributeBase e "items" X.env (eval e X.env) = eval e X.env := by rfl) (hline : (apos.endLine == cpos.line) = true := by rfl)
    (hs : starEach [.Call (.Attribute e "items" apos) [] [] cpos] X.env = (false, eval (.Call (.Attribute e "items" apos) [] [] cpos) X.env) :: starEach [] X.env := by rfl) : PE X (.Call (.Name "sorted" p) [.Call (.Attribute e "items" apos) [] [] cpos] [] pos) (fun σ H Q => te σ H fun x H1 => rSortItems x H1 Q) := by
  (refine ⟨fun pins s σ H Q I hq => ?_⟩)
  refine Call_ (ld_blt I hg hm hv ?_)
  refine PyProof.Rows.callWith_builtin1 ?_ hs rfl
  rw [hs]
  (show wpAny _ _ (spliced ((false, eval (.Call (.Attribute e "items" apos) [] [] cpos) X.env) :: backTo pos (starEach [] X.env))) _ _ s)
  refine Calls.spliced_cons ?_
  refine wpAny_Call_method (T := "dict") (id := "dict.items") hbase rfl hline F.plainAttrs_dict F.slot_dict_items F.type_dict_items (thn (he.run pins s σ H _ I hq) fun u s1 ⟨x, H1, I1, rx, d, ps, ex, hd, q⟩ => ?_)
  subst ex
  (obtain rfl : u = Value.ref d := rx)
  (obtain ⟨hz, hs0, vs, kv, hdo⟩ := I1.hok d _ hd)
  (refine ⟨hdo.typeIs, hdo.mapOf.noDict, ?_⟩)
  (show wpAny _ _ (callWith cpos (.builtin "dict.items") [.ref d] [] []) _ X.xe s1)
  (refine method_meetsIn F.slot_dict_items F.entry_dict_items rfl (PySem.evalArgs_none ⟨rfl, hdo.typeIs, F.args_dict_items_1 _, _, meets_dict_items (mixKind X.prog X.w) d hs0, ⟨vs, hdo⟩, ?_⟩))
  refine Calls.spliced_nil ?_
  (have I2 : Inv X pins σ H1 { s1 with heap := s1.heap.push { cls := .type "dict_items", data := .fields #[.ref d] } } := I1.kept (t' := s1.toks) fun b ob q => Heap.get?_push_of_some _ q)
  exact sort_items hc I2 ⟨_, Heap.get?_push_size _ rfl, rfl, rfl⟩ hd q
end
/-! ## dicts by a list of whole numbers -/
def kv (κ : Nat → Nat) (f : Nat → V) (l : List Nat) : List (Key × V) := l.map fun t => ((Sum.inl ((κ t : Nat) : Int) : Key), f t)
theorem key_ne {m n : Nat} (h : m ≠ n) : ¬ (Sum.inl ((m : Nat) : Int) : Key) = Sum.inl ((n : Nat) : Int) := fun e => h (by have := Sum.inl.inj e; omega)
section
variable {κ : Nat → Nat} {f : Nat → V}
theorem kv_some {t : Nat} : ∀ {l : List Nat}, t ∈ l → (∀ u ∈ l, κ u = κ t → u = t) → valV (kv κ f l) (Sum.inl ((κ t : Nat) : Int)) = some (f t)
  | [], h, _ => by simp at h
  | u :: r, h, inj => by
    show valV (((Sum.inl ((κ u : Nat) : Int) : Key), f u) :: kv κ f r) _ = _
    by_cases e : κ u = κ t
    · obtain rfl := inj u List.mem_cons_self e
      exact valV_pos rfl
    · rw [valV_neg (key_ne e)]
      refine kv_some ?_ fun v hv => inj v (List.mem_cons_of_mem _ hv)
      (rcases List.mem_cons.mp h with z | z)
      · exact absurd (by rw [z]) e
      · exact z
theorem kv_none {n : Nat} : ∀ {l : List Nat}, (∀ u ∈ l, κ u ≠ n) → valV (kv κ f l) (Sum.inl ((n : Nat) : Int)) = none
  | [], _ => rfl
  | u :: r, h => by
    show valV (((Sum.inl ((κ u : Nat) : Int) : Key), f u) :: kv κ f r) _ = _
    rw [valV_neg (key_ne (h u List.mem_cons_self))]
    exact kv_none fun v hv => h v (List.mem_cons_of_mem _ hv)
theorem kv_put {n : Nat} {x : V} {l : List Nat} (h : ∀ u ∈ l, κ u ≠ n) : putK (kv κ f l) (Sum.inl ((n : Nat) : Int)) x = kv κ f l ++ [(Sum.inl ((n : Nat) : Int), x)] := by
  unfold putK
  rw [if_neg]
  intro z
  obtain ⟨p, hp, e⟩ := List.any_eq_true.mp z
  obtain ⟨u, hu, rfl⟩ := List.mem_map.mp hp
  exact key_ne (h u hu) (of_decide_eq_true e)
theorem kv_drop {n : Nat} {l : List Nat} : dropK (kv κ f l) (Sum.inl ((n : Nat) : Int)) = kv κ f (l.filter fun t => decide (κ t ≠ n)) := by
  unfold dropK kv
  rw [List.filter_map]
  congr 1
  refine List.filter_congr fun t _ => ?_
  show decide (¬ (Sum.inl ((κ t : Nat) : Int) : Key) = Sum.inl ((n : Nat) : Int)) = decide (κ t ≠ n)
  by_cases e : κ t = n
  · rw [e]; simp
  · rw [decide_eq_true (key_ne e), decide_eq_true e]
theorem kv_congr {g : Nat → V} {l : List Nat} (h : ∀ t ∈ l, f t = g t) : kv κ f l = kv κ g l := List.map_congr_left fun t ht => by rw [h t ht]
theorem kv_app {l m : List Nat} : kv κ f (l ++ m) = kv κ f l ++ kv κ f m := List.map_append
theorem kv_len {l : List Nat} : (kv κ f l).length = l.length := List.length_map _
end
/-! ## what is cut, what comes out -/
def Cut (b k u : Nat) : Bool := decide (b ≤ u) && decide (u < b + k)
theorem cut_iff {b k u : Nat} : Cut b k u = true ↔ b ≤ u ∧ u < b + k := by
  unfold Cut
  (rw [Bool.and_eq_true, decide_eq_true_eq, decide_eq_true_eq])
/-- the things that are on their way back after n pushes -/
structure Lat (T : List Nat) (b k n : Nat) (L : List Nat) : Prop where
  nd : L.Nodup
  mem : ∀ t, t ∈ L ↔ out T t < n ∧ Cut b k (out T t) = false ∧ n ≤ t + far T
/-- what a Losing gives at the n-th push -/
def Out (T : List Nat) (b k n : Nat) (v : V) : Prop := (v = .non ∧ (Cut b k n = true ∨ ∀ t, out T t ≠ n)) ∨ ∃ t, v = .int ((t : Nat) : Int) ∧ out T t = n ∧ Cut b k n = false
/-- what a Link gives -/
def OutL (T : List Nat) (b k n : Nat) (v : V) : Prop := (far T ≤ n ∧ Cut b k (out T (n - far T)) = false ∧ v = .int ((n - far T : Nat) : Int)) ∨ ((n < far T ∨ Cut b k (out T (n - far T)) = true) ∧ v = .non)
theorem mem_held {T : List Nat} {n t : Nat} : t ∈ held_at T n ↔ t < n ∧ n ≤ out T t := by
  unfold held_at
  rw [List.mem_filter, List.mem_range, decide_eq_true_eq]
theorem held_len {T : List Nat} (X : Tab T) (n : Nat) : (held_at T n).length ≤ 26 := by
  have sub : ∀ t ∈ held_at T n, t ∈ (List.range (n + 26)).filter (fun t => decide (n ≤ t + 26)) := fun t ht => by
    have h := mem_held.mp ht
    have := out_le X t
    have := far_le X
    rw [List.mem_filter, List.mem_range, decide_eq_true_eq]
    omega
  have e : held_at T n = ((List.range n).filter fun t => decide (n ≤ t + 26)).filter fun t => decide (n ≤ out T t) := by
    unfold held_at
    rw [List.filter_filter]
    refine List.filter_congr fun t _ => ?_
    have := out_le X t
    have := far_le X
    by_cases h : n ≤ out T t
    · rw [decide_eq_true h, decide_eq_true (by omega)]; rfl
    · rw [decide_eq_false h]; rfl
  rw [e]
  refine Nat.le_trans (List.length_filter_le _ _) ?_
  have w : ∀ m, ((List.range m).filter fun t => decide (n ≤ t + 26)).length = m - (n - 26) := fun m => by
    induction m with
    | zero => simp
    | succ m ih =>
      rw [List.range_succ, List.filter_append, List.length_append, ih]
      by_cases h : n ≤ m + 26
      · rw [List.filter_cons_of_pos (by simpa using h)]
        simp
        omega
      · rw [List.filter_cons_of_neg (by simpa using h)]
        simp
        omega
  rw [w]
  omega
/-- one push further: what crosses at n goes in, what is back at n comes out -/
theorem lat_in {T : List Nat} (X : Tab T) {b k n t : Nat} {L : List Nat} (h : Lat T b k n L) (ht : out T t = n) (hc : Cut b k n = false) :
    Lat T b k (n + 1) ((L ++ [t]).filter fun u => decide (u + far T ≠ n)) ∧ t ∉ L ∧ ((n < far T ∨ Cut b k (out T (n - far T)) = true) → ∀ u ∈ L ++ [t], u + far T ≠ n) ∧ (far T ≤ n → Cut b k (out T (n - far T)) = false → n - far T ∈ L ++ [t]) := by
  have no : t ∉ L := fun z => by have := ((h.mem t).mp z).1; omega
  have all : ∀ u, u ∈ L ++ [t] ↔ out T u < n + 1 ∧ Cut b k (out T u) = false ∧ n ≤ u + far T := fun u => by
    rw [List.mem_append, List.mem_singleton, h.mem]
    constructor
    · rintro (⟨h1, h2, h3⟩ | rfl)
      · exact ⟨by omega, h2, h3⟩
      · rw [ht]
        have := out_le X u
        exact ⟨by omega, hc, by omega⟩
    · rintro ⟨h1, h2, h3⟩
      by_cases e : out T u = n
      · exact .inr (out_inj X (e.trans ht.symm))
      · exact .inl ⟨by omega, h2, h3⟩
  refine ⟨⟨?_, fun u => ?_⟩, no, fun hn u hu z => ?_, fun hf hcut => ?_⟩
  · refine List.Nodup.sublist List.filter_sublist ?_
    rw [List.nodup_append]
    refine ⟨h.nd, by simp, fun x hx y hy e => no ?_⟩
    rw [List.mem_singleton] at hy
    rw [← hy, ← e]
    exact hx
  · rw [List.mem_filter, all, decide_eq_true_eq]
    constructor
    · rintro ⟨⟨h1, h2, h3⟩, h4⟩
      exact ⟨h1, h2, by omega⟩
    · rintro ⟨h1, h2, h3⟩
      exact ⟨⟨h1, h2, by omega⟩, by omega⟩
  · have e : n - far T = u := by omega
    rcases hn with hn | hn
    · omega
    · rw [e, ((all u).mp hu).2.1] at hn
      cases hn
  · refine (all _).mpr ⟨?_, hcut, by omega⟩
    have := out_le X (n - far T)
    omega
theorem lat_no {T : List Nat} (X : Tab T) {b k n : Nat} {L : List Nat} (h : Lat T b k n L) (hn : Cut b k n = true ∨ ∀ t, out T t ≠ n) :
    Lat T b k (n + 1) (L.filter fun u => decide (u + far T ≠ n)) ∧ ((n < far T ∨ Cut b k (out T (n - far T)) = true) → ∀ u ∈ L, u + far T ≠ n) ∧ (far T ≤ n → Cut b k (out T (n - far T)) = false → n - far T ∈ L) := by
  have off : ∀ u, Cut b k (out T u) = false → out T u ≠ n := fun u hu e => by
    rcases hn with z | z
    · rw [e, z] at hu
      cases hu
    · exact z u e
  refine ⟨⟨List.Nodup.sublist List.filter_sublist h.nd, fun u => ?_⟩, fun hz u hu z => ?_, fun hf hcut => ?_⟩
  · rw [List.mem_filter, h.mem, decide_eq_true_eq]
    constructor
    · rintro ⟨⟨h1, h2, h3⟩, h4⟩
      exact ⟨by omega, h2, by omega⟩
    · rintro ⟨h1, h2, h3⟩
      have := off u h2
      exact ⟨⟨by omega, h2, by omega⟩, by omega⟩
  · have e : n - far T = u := by omega
    rcases hz with hz | hz
    · omega
    · rw [e, ((h.mem u).mp hu).2.1] at hz
      cases hz
  · refine (h.mem _).mpr ⟨?_, hcut, by omega⟩
    have := out_le X (n - far T)
    have := off _ hcut
    omega
/-! ## The text by places -/
def top (i : Nat) : Stmt := PySem.Challenge.pw_burstapart_k75_whole_links_and_bursts.main.body.getD i (.Pass ⟨0, 0, 0, 0⟩)
/-! ## Promises by name -/
/-- a def of the text as the top leaves it -/
structure Df (K : PySem.W.Frag) (mg : Str → Option Value) (x : Str) (st : Stmt) (ps : List Str) : Prop where
  ex : ∃ f fd, Fun K x x st f fd ∧ mg x = some (.ref f) ∧ Binds K fd ps []
/-- a method of the class at C (by its name) -/
structure Dm (K : PySem.W.Frag) (C : Addr) (m qual : Str) (st : Stmt) (ps : List Str) : Prop where
  ex : ∃ f fd, Fun K m qual st f fd ∧ Meth K C m f ∧ Binds K fd ps []
/-- the module's def x keeps the promise sp -/
def GF (P : Program) (w : World) (K : PySem.W.Frag) (mg : Str → Option Value) (base : Heap) (x : Str) (k : Nat) (sp : Sp) : Prop :=
  ∃ f, FnR P w K mg base CX0 k f sp ∧ mg x = some (.ref f) ∧ PySem.W.keepIn K (.ref f) = true
/-- the method m of the instances of C keeps it -/
def MF (P : Program) (w : World) (K : PySem.W.Frag) (mg : Str → Option Value) (base : Heap) (C : Addr) (m : Str) (k : Nat) (sp : Sp) : Prop :=
  ∃ f, FnR P w K mg base CX0 k f sp ∧ Meth K C m f
abbrev CxD (P : Program) (w : World) (K : PySem.W.Frag) (mg : Str → Option Value) (base : Heap) (N : List Str) (qual : Str) (st : Stmt) (f : Addr) (cdv : Value) (A : Around) (outer : List Env) (s : Shared) (H : Hp) (E : XK) : Cx :=
  (cxOf CX0 P w K mg base N qual (defScope st) f cdv A outer s H E).nox
section
variable {P : Program} {w : World} {K : PySem.W.Frag} {mg : Str → Option Value} {base : Heap} {k : Nat} {sp : Sp} {N ps : List Str} {x m qual : Str} {st : Stmt} {C : Addr}
theorem fnr_of {f : Addr} {fd : FuncData} (F : Fun K x qual st f fd) (B : Binds K fd ps []) (S : FnScope N ps (defScope st)) (len : ∀ vs H Q E, sp vs H Q E → vs.length = ps.length)
    (hbody : ∀ (cdv : Value) (A : Around) (outer : List Env) (s : Shared) (H : Hp) (vs : List V) (Q : VK) (E : XK), Room k (A.deeper (envOfC qual (defScope st) s.heap.objs.size f cdv)) → sp vs H Q E → ∃ t, PSs (CxD P w K mg base N qual st f cdv A outer s H E) (defBody st) t ∧ t { nx := fun _ H' => Q .non H', rt := Q } (start N vs) H) : FnR P w K mg base CX0 (k + 1) f sp :=
  FnR.imp (FnOk.raw (F.ok S len hbody) B .nil) fun vs H Q E h => by rw [List.append_nil]; exact h
theorem gf_of (d : Df K mg x st ps) (S : FnScope N ps (defScope st)) (len : ∀ vs H Q E, sp vs H Q E → vs.length = ps.length)
    (hbody : ∀ (f : Addr) (cdv : Value) (A : Around) (outer : List Env) (s : Shared) (H : Hp) (vs : List V) (Q : VK) (E : XK), Room k (A.deeper (envOfC x (defScope st) s.heap.objs.size f cdv)) → sp vs H Q E →
      ∃ t, PSs (CxD P w K mg base N x st f cdv A outer s H E) (defBody st) t ∧ t { nx := fun _ H' => Q .non H', rt := Q } (start N vs) H) : GF P w K mg base x (k + 1) sp := by
  obtain ⟨f, fd, F, hm, B⟩ := d.ex
  exact ⟨f, fnr_of F B S len (hbody f), hm, F.kp⟩
theorem mf_of (d : Dm K C m qual st ps) (S : FnScope N ps (defScope st)) (len : ∀ vs H Q E, sp vs H Q E → vs.length = ps.length)
    (hbody : ∀ (f : Addr) (cdv : Value) (A : Around) (outer : List Env) (s : Shared) (H : Hp) (vs : List V) (Q : VK) (E : XK), Room k (A.deeper (envOfC qual (defScope st) s.heap.objs.size f cdv)) → sp vs H Q E →
      ∃ t, PSs (CxD P w K mg base N qual st f cdv A outer s H E) (defBody st) t ∧ t { nx := fun _ H' => Q .non H', rt := Q } (start N vs) H) : MF P w K mg base C m (k + 1) sp := by
  obtain ⟨f, fd, F, hm, B⟩ := d.ex
  exact ⟨f, fnr_of F B S len (hbody f), hm⟩
theorem GF.imp {sp' : Sp} (G : GF P w K mg base x k sp) (h : ∀ vs H Q E, sp' vs H Q E → sp vs H Q E) : GF P w K mg base x k sp' := let ⟨f, F, r⟩ := G; ⟨f, F.imp h, r⟩
end
/-! ### calls -/
def tCl (sp : Sp) (t : TA) : TE := fun σ H Q => t σ H fun vs H1 => sp vs H1 Q E0
def tMt (C : Addr) (m : Str) (sp : Sp) (ta : TE) (t : TA) : TE := fun σ H Q => ta σ H fun x H1 => ∃ a dx fs, x = .ref a ∧ H1 a = some (.ins C dx fs) ∧ fs.lookup m = none ∧ t σ H1 fun vs H2 => sp (x :: vs) H2 Q E0
section
variable {X : Cx} {k : Nat} {sp : Sp} {x m : Str} {C : Addr} {e o : Expr} {es : List Expr} {t : TA} {ta : TE} {p pos apos : Pos} {pl : Sem Bool}
/-- x(e, ..) -/
theorem pe_g (G : GF X.prog X.w X.K X.mg X.base x k sp) (hr : Room k X.A) (ha : PA X (e :: es) t) (hg : Gl X x := by rfl) (hdb : (x == ("__debug__" : Str)) = false := by decide)
    (he : starEach (e :: es) X.env = (false, eval e X.env) :: starEach es X.env := by rfl) (hpl : (backTo pos (starEach es X.env)).any (·.1) = false := by rfl) : PE X (.Call (.Name x p) (e :: es) [] pos) (tCl sp t) := by
  obtain ⟨f, F, hm, kp⟩ := G
  (refine ⟨fun pins s σ H Q I h => ?_⟩)
  (refine wpAny_Call_Name_kw (ld_glob I hg hm ?_ hdb))
  exact PySem.W.callWith_K (h₀ := X.base) I.ok.mod.kin kp (thn (ha.run pos pins s σ H _ I h) fun us s1 ⟨vs, H1, I1, r, q⟩ => ⟨I1.kIn, wpAny_call (run_fnR F hr pass0 I1 r q)⟩) he hpl
/-- o.m(e, ..) -/
theorem pe_mt (M : MF X.prog X.w X.K X.mg X.base C m k sp) (c : Cls X.K C) (hr : Room k X.A) (ho : PE X o ta) (ha : PA X (e :: es) t)
    (hst : starEach (e :: es) X.env = (false, eval e X.env) :: starEach es X.env := by rfl) (hpl : (backTo pos (starEach es X.env)).any (·.1) = false := by rfl) (ht : eval (.Call (.Attribute o m apos) (e :: es) [] pos) X.env = (do
      let ov ← eval o X.env
      standAt apos.atName
      let (fv, first) ← holding [ov] (getMethod ov m pl)
      callWith pos fv first (backTo pos (starEach (e :: es) X.env)) (backToKw pos (keywordEach [] X.env))) := by rfl) : PE X (.Call (.Attribute o m apos) (e :: es) [] pos) (tMt C m sp ta t) := by
  obtain ⟨f, F, hm⟩ := M
  exact pe_methR ho c hm F hr pass0 ha hst hpl ht
end
/-! ### heaps -/
/-- all but what stands at W is as it was -/
def Keep (W : List Addr) (H H' : Hp) : Prop := ∀ b o, H b = some o → b ∉ W → H' b = some o
theorem Keep.of {W : List Addr} {H H' : Hp} (s : Same H H') : Keep W H H' := fun b o e _ => s b o e
theorem Keep.trans {W : List Addr} {H H1 H2 : Hp} (a : Keep W H H1) (b : Keep W H1 H2) : Keep W H H2 := fun c o e h => b c o (a c o e h) h
theorem Keep.mono {W W' : List Addr} {H H' : Hp} (k : Keep W H H') (h : ∀ a ∈ W, a ∈ W') : Keep W' H H' := fun b o e n => k b o e fun z => n (h b z)
theorem same_new {H : Hp} {p : Addr} {o : HO} (h : H p = none) : Same H (upd H p o) := fun b u e => by rw [upd_ne (ne_of_none e h)]; exact e
theorem _root_.L2.Same.tup {K : PySem.W.Frag} {H H' : Hp} {a : Addr} {xs : List V} (e : Same H H') (h : SqT K H a xs) : SqT K H' a xs := by
  (rcases h with (h | ⟨o, h⟩) | h)
  · exact .inl (.inl (e _ _ h))
  · (exact .inl (.inr ⟨o, e _ _ h⟩))
  · exact .inr h
/-- whole numbers -/
abbrev vn (n : Nat) : V := .int (n : Int)
/-- the table T at a -/
abbrev TabAt (K : PySem.W.Frag) (H : Hp) (a : Addr) (T : List Nat) : Prop := SqT K H a (T.map vn)
theorem map_vn (T : List Nat) : T.map vn = (T.map fun n : Nat => (n : Int)).map V.int := by rw [List.map_map]; rfl
/-! ### comprehensions that only make new things -/
section
variable {J : It} {n : Nat} {G : Hp → Prop} {Y : Nat → Hp → V → Hp → Prop} {g : TG} {tt : TT} {te : TE} {vs : List Nat} {σ : L2.St} {H1 : Hp} {D : Addr} {Qd : Hp → Prop}
/-- those of the n turns that p lets through, by f -/
theorem lc_fun (w : Walk J n G Y) (p : Nat → Bool) (f : Nat → V) (hD : H1 D = none) (hn : n ≤ 4000) (hG : ∀ H, Same H1 H → G H)
    (hs : ∀ i x H H' (Kt : V → Hp → Prop) (Ke : Hp → Prop), i < n → Same H1 H → Y i H x H' → (p i = true → ∀ H4, Same H H4 → Kt (f i) H4) → (p i = false → ∀ H3, Same H H3 → Ke H3) →
      g x (wipe σ vs) H' fun σ2 H2 => wipe σ2 vs = wipe σ vs ∧ tt σ2 H2 fun b H3 => if b = true then te σ2 H3 Kt else Ke H3)
    (hd : ∀ H, Same H1 H → H D = some (.lst (((List.range n).filter p).map f)) → Qd H) :
    ∃ W : Nat → Nat → Hp → Prop, (∃ m, W 0 m (upd H1 D (.lst []))) ∧ ∀ i m H, W i m H → (J.stop i H ∧ Qd H) ∨ (J.go i H ∧ ∃ Nx : Hp → Prop, (∀ H', Nx H' → ∃ m', m' < m ∧ W (i + 1) m' H') ∧ ∀ x H', J.yld i H x H' → g x (wipe σ vs) H' fun σ2 H2 => wipe σ2 vs = wipe σ vs ∧ tt σ2 H2 fun b H3 => if b = true then te σ2 H3 fun y H4 => ∃ acc, H4 D = some (.lst acc) ∧ acc.length < sizeLine ∧ Nx (upd H4 D (.lst (acc ++ [y]))) else Nx H3) := by
  refine lc_it w (fun i H => Same H1 H ∧ H D = some (.lst (((List.range i).filter p).map f))) ⟨same_new hD, upd_same⟩ (fun i H _ q => hG H q.1) (fun i x H H' lt ⟨sm, at_⟩ y => ?_) fun H q => hd H q.1 q.2
  have len : (((List.range i).filter p).map f).length < sizeLine := by
    rw [List.length_map]
    refine Nat.lt_of_le_of_lt (List.length_filter_le _ _) ?_
    rw [List.length_range, sizeLine_eq]
    omega
  refine hs i x H H' _ _ lt sm y (fun hp H4 k => ⟨_, k _ _ at_, len, fun b o e => ?_, ?_⟩) fun hp H3 k => ⟨sm.trans k, ?_⟩
  · rw [upd_ne (ne_of_none e hD)]
    exact k _ _ (sm _ _ e)
  · rw [upd_same, List.range_succ, List.filter_append, List.map_append, List.filter_cons_of_pos hp]
    rfl
  · rw [List.range_succ, List.filter_append, List.filter_cons_of_neg (by rw [hp]; exact Bool.false_ne_true), List.filter_nil, List.append_nil]
    exact k _ _ at_
/-- each turn makes something of which R tells -/
theorem lc_rel (w : Walk J n G Y) (R : Nat → V → Hp → Prop) (hR : ∀ i y H H', (∀ b o, H b = some o → b ≠ D → H' b = some o) → R i y H → R i y H') (hD : H1 D = none) (hn : n ≤ 4000) (hG : ∀ H, Same H1 H → G H)
    (hs : ∀ i x H H' (Kt : V → Hp → Prop), i < n → Same H1 H → (∃ L, H D = some (.lst L)) → Y i H x H' → (∀ y H4, Same H H4 → R i y H4 → Kt y H4) →
      g x (wipe σ vs) H' fun σ2 H2 => wipe σ2 vs = wipe σ vs ∧ te σ2 H2 Kt)
    (hd : ∀ H ys, Same H1 H → H D = some (.lst ys) → ys.length = n → (∀ i y, ys[i]? = some y → R i y H) → Qd H) :
    ∃ W : Nat → Nat → Hp → Prop, (∃ m, W 0 m (upd H1 D (.lst []))) ∧ ∀ i m H, W i m H → (J.stop i H ∧ Qd H) ∨ (J.go i H ∧ ∃ Nx : Hp → Prop, (∀ H', Nx H' → ∃ m', m' < m ∧ W (i + 1) m' H') ∧ ∀ x H', J.yld i H x H' → g x (wipe σ vs) H' fun σ2 H2 => wipe σ2 vs = wipe σ vs ∧ tYes σ2 H2 fun b H3 => if b = true then te σ2 H3 fun y H4 => ∃ acc, H4 D = some (.lst acc) ∧ acc.length < sizeLine ∧ Nx (upd H4 D (.lst (acc ++ [y]))) else Nx H3) := by
  refine lc_it w (fun i H => Same H1 H ∧ i ≤ n ∧ ∃ ys, H D = some (.lst ys) ∧ ys.length = i ∧ ∀ j y, ys[j]? = some y → R j y H) ⟨same_new hD, Nat.zero_le _, [], upd_same, rfl, fun j y e => by simp at e⟩ (fun i H _ q => hG H q.1) (fun i x H H' lt ⟨sm, _, ys, at_, len, tell⟩ y => ?_)
    fun H ⟨sm, _, ys, at_, len, tell⟩ => hd H ys sm at_ len tell
  have z := hs i x H H' (fun y H4 => ∃ acc, H4 D = some (.lst acc) ∧ acc.length < sizeLine ∧ Same H1 (upd H4 D (.lst (acc ++ [y]))) ∧ i + 1 ≤ n ∧ ∃ ys, upd H4 D (.lst (acc ++ [y])) D = some (.lst ys) ∧ ys.length = i + 1 ∧ ∀ j y', ys[j]? = some y' → R j y' (upd H4 D (.lst (acc ++ [y])))) lt sm ⟨ys, at_⟩ y (fun v H4 k r => ?_)
  · exact z
  · have low : ∀ b o, H4 b = some o → b ≠ D → upd H4 D (.lst (ys ++ [v])) b = some o := fun b o e h => by rw [upd_ne h]; exact e
    refine ⟨ys, k _ _ at_, by rw [len, sizeLine_eq]; omega, fun b o e => ?_, lt, ys ++ [v], upd_same, by rw [List.length_append, len]; rfl, fun j y' e => ?_⟩
    · rw [upd_ne (ne_of_none e hD)]
      exact k _ _ (sm _ _ e)
    · by_cases hj : j < ys.length
      · rw [List.getElem?_append_left hj] at e
        exact hR _ _ _ _ low (hR _ _ _ _ (fun b o e _ => k b o e) (tell j y' e))
      · have lt2 := (List.getElem?_eq_some_iff.mp e).1
        rw [List.length_append, List.length_singleton] at lt2
        have ej : j = i := by omega
        subst ej
        rw [List.getElem?_append_right (by omega), len, Nat.sub_self] at e
        obtain rfl : v = y' := by simpa using e
        exact hR _ _ _ _ low r
/-- each turn i makes f i -/
theorem lc_map (w : Walk J n G Y) (f : Nat → V) (hD : H1 D = none) (hn : n ≤ 4000) (hG : ∀ H, Same H1 H → G H)
    (hs : ∀ i x H H' (Kt : V → Hp → Prop), i < n → Same H1 H → Y i H x H' → (∀ H4, Same H H4 → Kt (f i) H4) → g x (wipe σ vs) H' fun σ2 H2 => wipe σ2 vs = wipe σ vs ∧ te σ2 H2 Kt)
    (hd : ∀ H, Same H1 H → H D = some (.lst ((List.range n).map f)) → Qd H) :
    ∃ W : Nat → Nat → Hp → Prop, (∃ m, W 0 m (upd H1 D (.lst []))) ∧ ∀ i m H, W i m H → (J.stop i H ∧ Qd H) ∨ (J.go i H ∧ ∃ Nx : Hp → Prop, (∀ H', Nx H' → ∃ m', m' < m ∧ W (i + 1) m' H') ∧ ∀ x H', J.yld i H x H' → g x (wipe σ vs) H' fun σ2 H2 => wipe σ2 vs = wipe σ vs ∧ tYes σ2 H2 fun b H3 => if b = true then te σ2 H3 fun y H4 => ∃ acc, H4 D = some (.lst acc) ∧ acc.length < sizeLine ∧ Nx (upd H4 D (.lst (acc ++ [y]))) else Nx H3) := by
  refine lc_rel w (fun i y _ => y = f i) (fun _ _ _ _ _ h => h) hD hn hG (fun i x H H' Kt lt sm _ y k => hs i x H H' Kt lt sm y fun H4 s4 => k _ _ s4 rfl) fun H ys sm at_ len tell => hd H sm ?_
  rw [at_]
  refine congrArg some (congrArg HO.lst (List.ext_getElem? fun i => ?_))
  rcases Nat.lt_or_ge i n with lt | ge
  · have e : ys[i]? = some (ys[i]'(by omega)) := List.getElem?_eq_getElem _
    rw [e, tell i _ e, List.getElem?_map, List.getElem?_range lt]
    rfl
  · rw [List.getElem?_eq_none (by omega), List.getElem?_eq_none (by rw [List.length_map, List.length_range]; exact ge)]
end
/-! ### rules that are used within a comprehension's block: the written part told apart from the context -/
def rLen (K : PySem.W.Frag) : List V → Hp → VK → Prop := fun xs H Q => ∃ p ys, xs = [.ref p] ∧ (SqL K H p ys ∨ SqT K H p ys) ∧ Q (.int ys.length) H
theorem len_K {X : Cx} {K : PySem.W.Frag} (e : X.K = K) : CallR X (.builtin "len") (rLen K) := by
  subst e
  exact call_len_seq
theorem ixT_K {X : Cx} {K : PySem.W.Frag} (e : X.K = K) : IxR X (rIxT K) := e ▸ ix_tup
theorem ixL_K {X : Cx} {K : PySem.W.Frag} (e : X.K = K) : IxR X (rIxL K) := e ▸ ix_list
theorem in_K {X : Cx} {K : PySem.W.Frag} (e : X.K = K) : OpR X (compareOp .In) (rIn K false) := by
  subst e
  exact op_in_seq
theorem fld_K {X : Cx} {K : PySem.W.Frag} {e : Expr} {f : Str} {pos : Pos} {ta : TE} (eK : X.K = K) (he : PE X e ta) (hb : attributeBase e f X.env (eval e X.env) = eval e X.env) : PE X (.Attribute e f pos) (tFld K ta f) := by
  subst eK
  exact pe_fld he hb
theorem gtup_K {X : Cx} {K : PySem.W.Frag} {es : List Expr} {k : Nat} {pos : Pos} {t : TGs} {n : Nat} (eK : X.K = K) (hc : X.calm = true) (h : PGs X es t)
    (hn : (assignEach es X.env).length = n := by rfl) (hst : (assignEach es X.env).findIdx? (·.1) = none := by rfl) : PG X (.Tuple es k pos) (gTup K n t) := by
  subst eK
  exact pg_tup hc h hn hst
theorem sqT_ty {K : PySem.W.Frag} {H : Hp} {a : Addr} {xs : List V} (h : SqT K H a xs) : TyX K H (.ref a) (.type "tuple") := by
  rcases h with (h | ⟨o, h⟩) | ⟨o, its, n, h1, h2, _⟩
  · exact .base (.tup h)
  · exact .fTuple h
  · exact .kTuple h1 h2
theorem kit_ii {K : PySem.W.Frag} : PySem.W.kitOne K (.type "int") (.type "int") = some true := kit_ty (by decide +kernel)
theorem kit_ib {K : PySem.W.Frag} : PySem.W.kitOne K (.type "int") (.type "bool") = some false := kit_ty (by decide +kernel)
theorem kit_is {K : PySem.W.Frag} : PySem.W.kitOne K (.type "int") (.type "str") = some false := kit_ty (by decide +kernel)
theorem kit_tt {K : PySem.W.Frag} : PySem.W.kitOne K (.type "tuple") (.type "tuple") = some true := kit_ty (by decide +kernel)
/-- what the top leaves of built-in names and constants -/
structure Bt (mg : Str → Option Value) : Prop where
  isi : mg "isinstance" = none
  int_ : mg "int" = none
  bool_ : mg "bool" = none
  str_ : mg "str" = none
  tuple_ : mg "tuple" = none
  list_ : mg "list" = none
  dict_ : mg "dict" = none
  set_ : mg "set" = none
  len_ : mg "len" = none
  all_ : mg "all" = none
  sum_ : mg "sum" = none
  max_ : mg "max" = none
  min_ : mg "min" = none
  range_ : mg "range" = none
  sorted_ : mg "sorted" = none
  enum_ : mg "enumerate" = none
  zip_ : mg "zip" = none
  super_ : mg "super" = none
  LONGEST : ∃ t, mg "LONGEST" = some (.int 24 t)
  GREATEST : ∃ t, mg "GREATEST_HOLD" = some (.int 60 t)
  CUT : ∃ t, mg "LONGEST_CUT" = some (.int 400 t)
  WORD : ∃ t, mg "MOST_WORD" = some (.int 24 t)
  TICKS : ∃ t, mg "MOST_TICKS" = some (.int 400 t)
theorem bt_isi : bootBuiltins "isinstance" = some (.builtin "isinstance") := by decide +kernel
theorem bt_sorted : bootBuiltins "sorted" = some (.builtin "sorted") := by decide +kernel
theorem bt_sum : bootBuiltins "sum" = some (.builtin "sum") := by decide +kernel
theorem bt_max : bootBuiltins "max" = some (.builtin "max") := by decide +kernel
theorem bt_min : bootBuiltins "min" = some (.builtin "min") := by decide +kernel
theorem bt_all : bootBuiltins "all" = some (.builtin "all") := by decide +kernel
theorem bt_len : bootBuiltins "len" = some (.builtin "len") := by decide +kernel
theorem bt_int : bootBuiltins "int" = some (.type "int") := by decide +kernel
theorem bt_bool : bootBuiltins "bool" = some (.type "bool") := by decide +kernel
theorem bt_str : bootBuiltins "str" = some (.type "str") := by decide +kernel
theorem bt_tuple : bootBuiltins "tuple" = some (.type "tuple") := by decide +kernel
theorem bt_list : bootBuiltins "list" = some (.type "list") := by decide +kernel
theorem bt_dict : bootBuiltins "dict" = some (.type "dict") := by decide +kernel
theorem bt_set : bootBuiltins "set" = some (.type "set") := by decide +kernel
section
variable {P : Program} {w : World} {K : PySem.W.Frag} {base : Heap} {mg : Str → Option Value}
/-! ## is_integer, is_between, need_integer -/
def spInt : Sp := fun vs H Q _ => ∃ i : Int, vs = [.int i] ∧ Q (.bl true) H
theorem sc13 : FnScope ["thing"] ["thing"] (defScope (top 13)) := ⟨rfl, rfl, rfl, by decide +kernel, rfl, by decide +kernel, by decide +kernel⟩
theorem g_int (d : Df K mg "is_integer" (top 13) ["thing"]) (B : Bt mg) : GF P w K mg base "is_integer" 1 spInt := by
  refine gf_of d sc13 (fun vs H Q E h => ?_) (fun f cdv A outer s H vs Q E hr h => ?_)
  · obtain ⟨i, rfl, _⟩ := h
    rfl
  · obtain ⟨i, rfl, q⟩ := h
    refine ⟨_, pss_one (ps_ret (pe_and (pe_callB call_isi rfl B.isi bt_isi (pa_cons (pv 0) (pa_cons (pe_bltn rfl B.int_ bt_int (v := .ty "int") rfl) pa_nil)))
      (pe_one (pe_not (pe_callB call_isi rfl B.isi bt_isi (pa_cons (pv 0) (pa_cons (pe_bltn rfl B.bool_ bt_bool (v := .ty "bool") rfl) pa_nil))))))), ?_⟩
    refine ⟨_, rfl, _, _, _, _, true, rfl, .ty "int", .base (.int i), kit_ii, true, rfl, iteT ?_⟩
    exact ⟨_, rfl, _, _, _, _, false, rfl, .ty "bool", .base (.int i), kit_ib, false, rfl, q⟩
def spBetween : Sp := fun vs H Q _ => ∃ i lo hi : Int, vs = [.int i, .int lo, .int hi] ∧ Q (.bl (decide (lo ≤ i) && decide (i ≤ hi))) H
theorem sc14 : FnScope ["thing", "low", "high"] ["thing", "low", "high"] (defScope (top 14)) := ⟨rfl, rfl, rfl, by decide +kernel, rfl, by decide +kernel, by decide +kernel⟩
theorem g_between (d : Df K mg "is_between" (top 14) ["thing", "low", "high"]) (G1 : GF P w K mg base "is_integer" 1 spInt) : GF P w K mg base "is_between" 2 spBetween := by
  refine gf_of d sc14 (fun vs H Q E h => ?_) (fun f cdv A outer s H vs Q E hr h => ?_)
  · obtain ⟨i, lo, hi, rfl, _⟩ := h
    rfl
  · obtain ⟨i, lo, hi, rfl, q⟩ := h
    refine ⟨_, pss_one (ps_ret (pe_and (pe_g G1 hr (pa_cons (pv 0) pa_nil)) (pe_one (pe_chain op_le op_le (pv 1) (pv 0) (pv 2))))), ?_⟩
    refine ⟨_, rfl, i, rfl, true, rfl, iteT ?_⟩
    refine ⟨_, rfl, _, rfl, lo, i, rfl, rfl, _, rfl, ?_⟩
    by_cases h : lo ≤ i
    · rw [if_pos (decide_eq_true h)]
      refine ⟨_, rfl, i, hi, rfl, rfl, ?_⟩
      rw [decide_eq_true h, Bool.true_and] at q
      exact q
    · rw [if_neg (by rw [decide_eq_false h]; exact Bool.false_ne_true)]
      rw [decide_eq_false h, Bool.false_and] at q
      exact q
def spNeedInt : Sp := fun vs H Q _ => ∃ i : Int, vs = [.int i] ∧ Q .non H
theorem sc18 : FnScope ["number"] ["number"] (defScope (top 18)) := ⟨rfl, rfl, rfl, by decide +kernel, rfl, by decide +kernel, by decide +kernel⟩
theorem g_needInt (d : Df K mg "need_integer" (top 18) ["number"]) (G1 : GF P w K mg base "is_integer" 1 spInt) : GF P w K mg base "need_integer" 2 spNeedInt := by
  refine gf_of d sc18 (fun vs H Q E h => ?_) (fun f cdv A outer s H vs Q E hr h => ?_)
  · obtain ⟨i, rfl, _⟩ := h
    rfl
  · obtain ⟨i, rfl, q⟩ := h
    refine ⟨_, pss_one (ps_if (pt_not (pt_val (pe_g G1 hr (pa_cons (pv 0) pa_nil)))) pss_never pss_nil), ?_⟩
    exact ⟨_, rfl, i, rfl, true, rfl, iteF q⟩
/-! ## hold_of, out_of, thing_of -/
def spHold (K : PySem.W.Frag) : Sp := fun vs H Q _ => ∃ (a : Addr) (T : List Nat) (t : Nat), vs = [.ref a, vn t] ∧ TabAt K H a T ∧ 0 < T.length ∧ Q (vn (hd T t)) H
theorem sc19 : FnScope ["table", "thing"] ["table", "thing"] (defScope (top 19)) := ⟨rfl, rfl, rfl, by decide +kernel, rfl, by decide +kernel, by decide +kernel⟩
theorem g_hold (d : Df K mg "hold_of" (top 19) ["table", "thing"]) (B : Bt mg) : GF P w K mg base "hold_of" 1 (spHold K) := by
  refine gf_of d sc19 (fun vs H Q E h => ?_) (fun f cdv A outer s H vs Q E hr h => ?_)
  · obtain ⟨a, T, t, rfl, _⟩ := h
    rfl
  · obtain ⟨a, T, t, rfl, hT, h0, q⟩ := h
    refine ⟨_, pss_one (ps_ret (pe_ix ix_tup (pv 0) (pe_op op_mod (pv 1) (pe_callB call_len_seq rfl B.len_ bt_len (pa_cons (pv 0) pa_nil))) (fun _ _ => rfl))), ?_⟩
    refine ⟨_, rfl, _, rfl, _, rfl, a, _, rfl, .inr hT, _, _, rfl, rfl, ?_, a, _, _, vn (hd T t), rfl, rfl, hT, at_of (j := t % T.length) ?_ ?_, q⟩
    · rw [List.length_map]
      omega
    · rw [List.length_map]
      rfl
    · unfold hd
      rw [List.getElem?_map, List.getD_eq_getElem?_getD, List.getElem?_eq_getElem (Nat.mod_lt _ h0)]
      rfl
def spOut (K : PySem.W.Frag) : Sp := fun vs H Q _ => ∃ (a : Addr) (T : List Nat) (t : Nat), vs = [.ref a, vn t] ∧ TabAt K H a T ∧ 0 < T.length ∧ Q (vn (out T t)) H
theorem sc20 : FnScope ["table", "thing"] ["table", "thing"] (defScope (top 20)) := ⟨rfl, rfl, rfl, by decide +kernel, rfl, by decide +kernel, by decide +kernel⟩
theorem g_out (d : Df K mg "out_of" (top 20) ["table", "thing"]) (G : GF P w K mg base "hold_of" 1 (spHold K)) : GF P w K mg base "out_of" 2 (spOut K) := by
  refine gf_of d sc20 (fun vs H Q E h => ?_) (fun f cdv A outer s H vs Q E hr h => ?_)
  · obtain ⟨a, T, t, rfl, _⟩ := h
    rfl
  · obtain ⟨a, T, t, rfl, hT, h0, q⟩ := h
    refine ⟨_, pss_one (ps_ret (pe_op op_add (pv 1) (pe_g G hr (pa_cons (pv 0) (pa_cons (pv 1) pa_nil))))), ?_⟩
    exact ⟨_, rfl, _, rfl, _, rfl, a, T, t, rfl, hT, h0, (t : Int), (hd T t : Int), rfl, rfl, q⟩
def spThing (K : PySem.W.Frag) : Sp := fun vs H Q _ => ∃ (a : Addr) (T : List Nat) (u : Nat), vs = [.ref a, vn u] ∧ TabAt K H a T ∧ Tab T ∧ far T ≤ u ∧ ∀ t, out T t = u → Q (vn t) H
theorem sc21 : FnScope ["table", "tick", "hold"] ["table", "tick"] (defScope (top 21)) := ⟨rfl, rfl, rfl, by decide +kernel, rfl, by decide +kernel, by decide +kernel⟩
theorem g_thing (d : Df K mg "thing_of" (top 21) ["table", "tick"]) (G : GF P w K mg base "out_of" 2 (spOut K)) : GF P w K mg base "thing_of" 3 (spThing K) := by
  refine gf_of d sc21 (fun vs H Q E h => ?_) (fun f cdv A outer s H vs Q E hr h => ?_)
  · obtain ⟨a, T, u, rfl, _⟩ := h
    rfl
  · obtain ⟨a, T, u, rfl, hT, X, hu, q⟩ := h
    refine ⟨_, pss_one (ps_for PassesOwn.never rfl (pi_tup (pv 0)) (pg_name (i := 2) sc21.nd rfl (Or.inl rfl))
      (pss_one (ps_if (pt_cmpR op_eq (pe_g G hr (pa_cons (pv 0) (pa_cons (pe_op op_sub (pv 1) (pv 2)) pa_nil))) (pv 1) (nomark _)) (pss_one (ps_ret (pe_op op_sub (pv 1) (pv 2)))) pss_nil))), ?_⟩
    -- no place ahead is the right one
    refine ⟨_, rfl, a, rfl, ⟨_, hT⟩, for_tup (K := K) (a := a) (xs := T.map vn) (fun i σ H2 => H2 = H ∧ (∃ v : Option V, σ = [some (.ref a), some (vn u), v]) ∧ ∀ j, j < i → j < T.length → out T (u - T.getD j 0) ≠ u)
      ⟨rfl, ⟨none, rfl⟩, fun j hj => by omega⟩ (fun i σ H2 _ ⟨e, _⟩ => by rw [e]; exact hT) ?_ ?_⟩
    · rintro i x σ H2 hi ⟨rfl, ⟨v, rfl⟩, no⟩
      rw [List.getElem?_map] at hi
      obtain ⟨h, eh, rfl⟩ := Option.map_eq_some_iff.mp hi
      have hl : h ≤ u := Nat.le_trans (le_far (List.mem_of_getElem? eh)) hu
      have es : (u : Int) - (h : Int) = ((u - h : Nat) : Int) := by omega
      have lt : i < T.length := (List.getElem?_eq_some_iff.mp eh).1
      have eg : T.getD i 0 = h := by rw [List.getD_eq_getElem?_getD, eh]; rfl
      refine ⟨_, rfl, _, rfl, _, rfl, _, _, rfl, rfl, a, T, u - h, by show [V.ref a, V.int ((u : Int) - (h : Int))] = _; rw [es], hT, X.pos, _, rfl, rfl, _, rfl, ?_⟩
      refine ite2 (fun c => ?_) fun c => ?_
      · have c' : out T (u - h) = u := by
          have := of_decide_eq_true c
          have := V.int.inj this
          omega
        refine ⟨_, rfl, _, rfl, _, _, rfl, rfl, ?_⟩
        show Q (V.int ((u : Int) - (h : Int))) H2
        rw [es]
        exact q _ c'
      · refine ⟨rfl, ⟨_, rfl⟩, fun j hj hjl => ?_⟩
        by_cases ej : j = i
        · subst ej
          rw [eg]
          intro z
          exact c (decide_eq_true (by rw [z]))
        · exact no j (by omega) hjl
    · rintro σ H2 ⟨rfl, ⟨v, rfl⟩, no⟩
      exfalso
      obtain ⟨t, et, htu⟩ := out_at X hu
      have hb := Nat.mod_lt t X.pos
      refine no (t % T.length) (by rw [List.length_map]; exact hb) hb ?_
      have : u - T.getD (t % T.length) 0 = t := by
        have e2 : hd T t = T.getD (t % T.length) 0 := rfl
        unfold out at et
        omega
      rw [this, et]
end
theorem getD_some {T : List Nat} {i : Nat} (h : i < T.length) : T[i]? = some (T.getD i 0) := by
  rw [List.getD_eq_getElem?_getD, List.getElem?_eq_getElem h]
  rfl
theorem map_at {T : List Nat} {i : Nat} (h : i < T.length) : (T.map vn)[i]? = some (vn (T.getD i 0)) := by
  rw [List.getElem?_map, getD_some h]
  rfl
section
variable {P : Program} {w : World} {K : PySem.W.Frag} {base : Heap} {mg : Str → Option Value}
/-! ## is_onto, is_table, need_table -/
def spTab (K : PySem.W.Frag) : Sp := fun vs H Q _ => ∃ (a : Addr) (T : List Nat), vs = [.ref a] ∧ TabAt K H a T ∧ Tab T ∧ ∀ H', Same H H' → Q (.bl true) H'
theorem sc15 : FnScope ["holds", "place", "hold"] ["holds"] (defScope (top 15)) := ⟨rfl, rfl, rfl, by decide +kernel, rfl, by decide +kernel, by decide +kernel⟩
theorem g_onto (d : Df K mg "is_onto" (top 15) ["holds"]) (B : Bt mg) : GF P w K mg base "is_onto" 1 (spTab K) := by
  refine gf_of d sc15 (fun vs H Q E h => ?_) (fun f cdv A outer s H vs Q E hr h => ?_)
  · obtain ⟨a, T, rfl, _⟩ := h
    rfl
  · obtain ⟨a, T, rfl, hT, X, q⟩ := h
    refine ⟨_, pss_one (ps_ret (pe_cmpR op_eq (pe_callB call_lenS rfl B.len_ bt_len (pa_cons (pe_set (own := [("place", 1), ("hold", 2)]) rfl sc15.nd (pi_enumT rfl B.enum_ (pa_cons (pv 0) pa_nil))
        (blkOk_by (N := ["holds", "place", "hold"]) (sc := defScope (top 15)) (by decide +kernel))
        (fun _ _ _ _ _ => gtup_K (K := K) (n := 2) rfl rfl (pgs_cons (pg_name (i := 1) sc15.nd rfl (Or.inl rfl) (Or.inr rfl)) (pgs_cons (pg_name (i := 2) sc15.nd rfl (Or.inl rfl) (Or.inr rfl)) pgs_nil)))
        (fun _ _ _ _ _ => pe_op op_mod (pe_op op_add (pv 1) (pv 2)) (pe_callB (len_K (K := K) rfl) rfl B.len_ bt_len (pa_cons (pv 0) pa_nil)))) pa_nil))
      (pe_callB call_len_seq rfl B.len_ bt_len (pa_cons (pv 0) pa_nil)) (nomark _))), ?_⟩
    refine ⟨_, rfl, a, _, rfl, hT, fun D hD => ⟨T.length, fun i H2 => Same H H2 ∧ ∃ S, H2 D = some (SetO w D S i) ∧ ∀ k : Int, S k = true ↔ ∃ j, j < i ∧ k = ((j + T.getD j 0) % T.length : Nat), ?_, ?_, ?_⟩⟩
    · exact ⟨same_new hD, _, upd_same, fun k => ⟨fun z => (by cases z), fun ⟨j, hj, _⟩ => absurd hj (Nat.not_lt_zero j)⟩⟩
    · rintro H2 ⟨sm, S, hS, _⟩
      refine ⟨⟨T.map vn, sm.tup hT, List.length_map _⟩, D, S, T.length, rfl, hS, _, rfl, a, _, rfl, .inr (sm.tup hT), rfl, ?_⟩
      rw [List.length_map]
      show Q (.bl (decide (V.int (T.length : Int) = V.int (T.length : Int)))) H2
      rw [decide_eq_true rfl]
      exact q _ sm
    · rintro i H2 lt ⟨sm, S, hS, tell⟩
      refine ⟨⟨T.map vn, _, sm.tup hT, map_at lt⟩, ?_⟩
      rintro x H3 ⟨t, y, rfl, ht, rfl, hy⟩
      obtain rfl : vn (T.getD i 0) = y := Option.some.inj ((map_at lt).symm.trans (hy _ (sm.tup hT)))
      have sm3 : Same H (upd H2 t (.tup [.int (i : Nat), vn (T.getD i 0)])) := sm.trans (same_new ht)
      have ec : ((i : Int) + (T.getD i 0 : Int)) % (((T.map vn).length : Nat) : Int) = (((i + T.getD i 0) % T.length : Nat) : Int) := by
        rw [List.length_map]
        push_cast
        rfl
      have new : S (((i + T.getD i 0) % T.length : Nat) : Int) = false := by
        cases e : S (((i + T.getD i 0) % T.length : Nat) : Int) with
        | false => rfl
        | true =>
          obtain ⟨j, hj, ej⟩ := (tell _).mp e
          have := X.inj i j lt (by omega) (by omega)
          omega
      have hpos : (0 : Int) < (((T.map vn).length : Nat) : Int) := by
        have := X.pos
        rw [List.length_map]
        omega
      have small : i + 1 < scanBound := by
        have := X.len
        unfold scanBound
        omega
      refine ⟨t, [.int (i : Nat), vn (T.getD i 0)], rfl, SqT.of upd_same, rfl, _, _, rfl, _, _, rfl, rfl, rfl, ?_⟩
      refine ⟨_, rfl, _, rfl, (i : Int), _, rfl, rfl, _, rfl, a, _, rfl, .inr (sm3.tup hT), _, _, rfl, rfl, hpos, _, S, i, rfl, (by rw [upd_ne (ne_of_none hS ht)]; exact hS), small, ?_⟩
      rw [ec, if_neg (by rw [new]; exact Bool.false_ne_true)]
      refine ⟨fun b o e => ?_, _, upd_same, fun k => ?_⟩
      · rw [upd_ne (ne_of_none e hD)]
        exact sm3 _ _ e
      · rw [Bool.or_eq_true, tell, decide_eq_true_eq]
        refine ⟨fun z => ?_, fun ⟨j, hj, ej⟩ => ?_⟩
        · rcases z with ⟨j, hj, ej⟩ | z
          · exact ⟨j, by omega, ej⟩
          · exact ⟨i, Nat.lt_succ_self i, z⟩
        · by_cases e : j = i
          · subst e; exact .inr ej
          · exact .inl ⟨j, by omega, ej⟩
theorem sc16 : FnScope ["thing", "hold"] ["thing"] (defScope (top 16)) := ⟨rfl, rfl, rfl, by decide +kernel, rfl, by decide +kernel, by decide +kernel⟩
theorem g_table (d : Df K mg "is_table" (top 16) ["thing"]) (B : Bt mg) (G1 : GF P w K mg base "is_between" 2 spBetween) (G2 : GF P w K mg base "is_onto" 1 (spTab K)) : GF P w K mg base "is_table" 3 (spTab K) := by
  obtain ⟨_, mL⟩ := B.LONGEST
  obtain ⟨_, mG⟩ := B.GREATEST
  refine gf_of d sc16 (fun vs H Q E h => ?_) (fun f cdv A outer s H vs Q E hr h => ?_)
  · obtain ⟨a, T, rfl, _⟩ := h
    rfl
  · obtain ⟨a, T, rfl, hT, X, q⟩ := h
    refine ⟨_, pss_cons (ps_if (PW.pt (pw_or (pt_not (pt_val (pe_callB call_isi rfl B.isi bt_isi (pa_cons (pv 0) (pa_cons (pe_bltn rfl B.tuple_ bt_tuple (v := .ty "tuple") rfl) pa_nil)))))
        (pw_or1 (pt_not (pt_chain op_le op_le pe_int (pe_callB call_len_seq rfl B.len_ bt_len (pa_cons (pv 0) pa_nil)) (pe_glob (v := .int 24) rfl mL ⟨_, rfl⟩)))))) (pss_one (ps_ret pe_bl)) pss_nil)
      (pss_one (ps_ret (pe_and (pe_callB (cr_all rfl) rfl B.all_ bt_all (pa_cons (pe_lc (own := [("hold", 1)]) (g := gName 1) (tt := tYes) rfl sc16.nd (pi_tup (pv 0))
          (blkOk_by (N := ["thing", "hold"]) (sc := defScope (top 16)) (by decide +kernel)) (fun _ _ _ _ _ => pg_name (i := 1) sc16.nd rfl (Or.inl rfl)) (fun _ _ _ _ _ => pts_nil)
          (fun _ _ _ _ _ => pe_g G1 hr (pa_cons (pv 1) (pa_cons pe_int (pa_cons (pe_glob (v := .int 60) rfl mG ⟨_, rfl⟩) pa_nil))))) pa_nil))
        (pe_one (pe_g G2 (hr.mono (by decide)) (pa_cons (pv 0) pa_nil)))))), ?_⟩
    have l1 := X.pos
    have l2 := X.len
    refine ⟨_, rfl, _, _, _, _, true, rfl, .ty "tuple", sqT_ty hT, kit_tt, true, rfl, iteF ?_⟩
    refine ⟨_, rfl, a, _, rfl, .inr hT, 1, (((T.map vn).length : Nat) : Int), rfl, rfl, true, ?_, iteT ⟨(((T.map vn).length : Nat) : Int), 24, rfl, rfl, true, ?_, iteF ?_⟩⟩
    · rw [List.length_map]
      exact congrArg V.bl (decide_eq_true (by omega))
    · rw [List.length_map]
      exact congrArg V.bl (decide_eq_true (by omega))
    refine ⟨_, rfl, a, rfl, ⟨_, hT⟩, fun D hD => lc_map (walk_tup (K := K) (a := a) (xs := T.map vn)) (fun _ => .bl true) hD (by rw [List.length_map]; omega) (fun H2 sm => sm.tup hT) (fun i x H2 H3 Kt lt sm y kt => ?_) (fun H2 sm at_ => ?_)⟩
    · obtain ⟨rfl, hx⟩ := y
      rw [List.length_map] at lt
      rw [map_at lt] at hx
      obtain rfl := Option.some.inj hx
      refine ⟨rfl, _, rfl, (T.getD i 0 : Int), 0, 60, rfl, ?_⟩
      have := X.top _ (getD_mem lt)
      have e : (decide ((0 : Int) ≤ (T.getD i 0 : Int)) && decide ((T.getD i 0 : Int) ≤ 60)) = true := by
        (rw [Bool.and_eq_true, decide_eq_true_eq, decide_eq_true_eq])
        omega
      rw [e]
      exact kt _ (Same.refl _)
    · refine ⟨D, (List.range (T.map vn).length).map fun _ => true, rfl, SqL.of (by rw [at_, List.map_map]; rfl), true, ?_, iteT ⟨_, rfl, a, T, rfl, sm.tup hT, X, fun H3 sm3 => q _ (sm.trans sm3)⟩⟩
      rw [List.all_map]
      exact congrArg V.bl (List.all_eq_true.mpr fun _ _ => rfl)
def spNeedTab (K : PySem.W.Frag) : Sp := fun vs H Q _ => ∃ (a : Addr) (T : List Nat), vs = [.ref a] ∧ TabAt K H a T ∧ Tab T ∧ ∀ H', Same H H' → Q .non H'
theorem sc17 : FnScope ["table"] ["table"] (defScope (top 17)) := ⟨rfl, rfl, rfl, by decide +kernel, rfl, by decide +kernel, by decide +kernel⟩
theorem g_needTab (d : Df K mg "need_table" (top 17) ["table"]) (G : GF P w K mg base "is_table" 3 (spTab K)) : GF P w K mg base "need_table" 4 (spNeedTab K) := by
  refine gf_of d sc17 (fun vs H Q E h => ?_) (fun f cdv A outer s H vs Q E hr h => ?_)
  · obtain ⟨a, T, rfl, _⟩ := h
    rfl
  · obtain ⟨a, T, rfl, hT, X, q⟩ := h
    refine ⟨_, pss_one (ps_if (pt_not (pt_val (pe_g G hr (pa_cons (pv 0) pa_nil)))) pss_never pss_nil), ?_⟩
    exact ⟨_, rfl, a, T, rfl, hT, X, fun H' sm => ⟨true, rfl, iteF (q _ sm)⟩⟩
end
theorem low_none {H H' : Hp} {a : Addr} (s : Same H H') (h : H' a = none) : H a = none := by
  cases e : H a with
  | none => rfl
  | some o => exact absurd ((s a o e).symm.trans h) (by simp)
theorem castSum : ∀ T : List Nat, (T.map fun n : Nat => (n : Int)).sum = ((T.sum : Nat) : Int)
  | [] => rfl
  | x :: T => by
    rw [List.map_cons, List.sum_cons, List.sum_cons, castSum T]
    omega
/-- the greatest of the table's holds -/
theorem maxFar {T : List Nat} {m : Int} (h : m ∈ T.map fun n : Nat => (n : Int)) (g : ∀ y ∈ T.map fun n : Nat => (n : Int), y ≤ m) : m = (far T : Int) := by
  obtain ⟨a, ha, rfl⟩ := List.mem_map.mp h
  refine congrArg Nat.cast (far_eq ha fun y hy => ?_)
  have := g _ (List.mem_map.mpr ⟨y, hy, rfl⟩)
  omega
theorem getD_set {B : List Nat} {j k x : Nat} (h : j < B.length) : (B.set j x).getD k 0 = if k = j then x else B.getD k 0 := by
  rw [List.getD_eq_getElem?_getD, List.getD_eq_getElem?_getD, List.getElem?_set]
  by_cases e : k = j
  · subst e
    rw [if_pos rfl, if_pos h, if_pos rfl]
    rfl
  · rw [if_neg (fun z => e z.symm), if_neg e]
section
variable {P : Program} {w : World} {K : PySem.W.Frag} {base : Heap} {mg : Str → Option Value}
/-! ## held_of, back_of, out_at, held, delay -/
def spHeldOf (K : PySem.W.Frag) : Sp := fun vs H Q _ => ∃ (a : Addr) (T : List Nat), vs = [.ref a] ∧ TabAt K H a T ∧ Tab T ∧ Q (vn (T.sum / T.length)) H
theorem sc22 : FnScope ["table"] ["table"] (defScope (top 22)) := ⟨rfl, rfl, rfl, by decide +kernel, rfl, by decide +kernel, by decide +kernel⟩
theorem g_heldOf (d : Df K mg "held_of" (top 22) ["table"]) (B : Bt mg) : GF P w K mg base "held_of" 1 (spHeldOf K) := by
  refine gf_of d sc22 (fun vs H Q E h => ?_) (fun f cdv A outer s H vs Q E hr h => ?_)
  · obtain ⟨a, T, rfl, _⟩ := h
    rfl
  · obtain ⟨a, T, rfl, hT, X, q⟩ := h
    refine ⟨_, pss_one (ps_ret (pe_op op_fdiv (pe_callB (cr_sumT rfl) rfl B.sum_ bt_sum (pa_cons (pv 0) pa_nil)) (pe_callB call_len_seq rfl B.len_ bt_len (pa_cons (pv 0) pa_nil)))), ?_⟩
    have l1 := X.pos
    have l2 := X.len
    refine ⟨_, rfl, a, _, rfl, (by rw [← map_vn]; exact hT), _, rfl, a, _, rfl, .inr hT, _, _, rfl, rfl, ?_⟩
    rw [List.length_map, castSum]
    refine ⟨⟨by omega, by omega⟩, ?_⟩
    show Q (.int (((T.sum : Nat) : Int) / ((T.length : Nat) : Int))) H
    have e : ((T.sum : Nat) : Int) / ((T.length : Nat) : Int) = ((T.sum / T.length : Nat) : Int) := by push_cast; rfl
    rw [e]
    exact q
def spBack (K : PySem.W.Frag) : Sp := fun vs H Q _ => ∃ (a : Addr) (T : List Nat), vs = [.ref a] ∧ TabAt K H a T ∧ Tab T ∧
  ∀ H' b (B : List Nat), Same H H' → SqT K H' b (B.map vn) → B.length = T.length → (∀ i, i < T.length → B.getD ((i + T.getD i 0) % T.length) 0 = far T - T.getD i 0) → Q (.ref b) H'
theorem sc23 : FnScope ["table", "holds", "place", "hold"] ["table"] (defScope (top 23)) := ⟨rfl, rfl, rfl, by decide +kernel, rfl, by decide +kernel, by decide +kernel⟩
theorem g_back (d : Df K mg "back_of" (top 23) ["table"]) (B : Bt mg) : GF P w K mg base "back_of" 1 (spBack K) := by
  refine gf_of d sc23 (fun vs H Q E h => ?_) (fun f cdv A outer s H vs Q E hr h => ?_)
  · obtain ⟨a, T, rfl, _⟩ := h
    rfl
  · obtain ⟨a, T, rfl, hT, X, q⟩ := h
    refine ⟨_, pss_cons (ps_set (i := 1) sc23.nd rfl (Or.inl rfl) (pe_op op_rep (pe_lst (pa_cons pe_int pa_nil)) (pe_callB call_len_seq rfl B.len_ bt_len (pa_cons (pv 0) pa_nil))))
      (pss_cons (ps_for PassesOwn.never rfl (pi_enumT rfl B.enum_ (pa_cons (pv 0) pa_nil)) (pg_tup rfl (pgs_cons (pg_name (i := 2) sc23.nd rfl (Or.inl rfl)) (pgs_cons (pg_name (i := 3) sc23.nd rfl (Or.inl rfl)) pgs_nil)))
        (pss_one (ps_asg (pe_op op_sub (pe_callB (cr_maxT rfl) rfl B.max_ bt_max (pa_cons (pv 0) pa_nil)) (pv 3))
          (pg_sub (pv 1) (pe_op op_mod (pe_op op_add (pv 2) (pv 3)) (pe_callB call_len_seq rfl B.len_ bt_len (pa_cons (pv 0) pa_nil))) set_list))))
      (pss_one (ps_ret (pe_callTy call_tuple_of rfl B.tuple_ bt_tuple (pa_cons (pv 1) pa_nil))))), ?_⟩
    have l1 := X.pos
    have l2 := X.len
    have ez := sizeLine_eq
    refine ⟨by decide, fun p hp => ⟨_, rfl, a, _, rfl, .inr ((same_new hp).tup hT), p, (((T.map vn).length : Nat) : Int), [vn 0], rfl, rfl, upd_same, by omega, ?_, ?_, fun l hl => ?_⟩⟩
    · rw [List.length_map]; omega
    · rw [List.length_map, List.length_singleton]; omega
    have eb : (List.replicate (((T.map vn).length : Nat) : Int).toNat [vn 0]).flatten = (List.replicate T.length 0).map vn := by
      rw [Int.toNat_natCast, List.length_map, List.map_replicate]
      exact List.flatten_replicate_singleton
    rw [eb]
    have sm0 : Same H (upd (upd H p (.lst [vn 0])) l (.lst ((List.replicate T.length 0).map vn))) := (same_new hp).trans (same_new hl)
    have hlH : H l = none := low_none (same_new hp) hl
    refine ⟨_, rfl, a, _, rfl, sm0.tup hT, for_it (walk_enumT (K := K) (a := a) (xs := T.map vn)) (fun i σ H2 => Same H H2 ∧ ∃ (x y : Option V) (B : List Nat), σ = [some (.ref a), some (.ref l), x, y] ∧ H2 l = some (.lst (B.map vn)) ∧ B.length = T.length ∧
        ∀ j, j < i → j < T.length → B.getD ((j + T.getD j 0) % T.length) 0 = far T - T.getD j 0)
      ⟨sm0, none, none, _, rfl, upd_same, List.length_replicate, fun j hj => absurd hj (Nat.not_lt_zero j)⟩ (fun i σ H2 _ h => h.1.tup hT) ?_ ?_⟩
    · rintro i x σ H2 H3 lt ⟨sm, x0, y0, B, rfl, hB, lB, tell⟩ ⟨t, u, v, rfl, ht, rfl, hu, hv⟩
      rw [List.length_map] at lt
      obtain rfl := Option.some.inj hu
      obtain rfl := Option.some.inj ((map_at lt).symm.trans hv)
      have sm3 : Same H (upd H2 t (.tup [.int (i : Nat), vn (T.getD i 0)])) := sm.trans (same_new ht)
      have hc := le_far (getD_mem lt)
      have hm := Nat.mod_lt (i + T.getD i 0) l1
      refine ⟨t, _, rfl, SqT.of upd_same, rfl, _, _, rfl, _, _, rfl, rfl, ?_⟩
      refine ⟨_, rfl, a, _, rfl, (by rw [← map_vn]; exact sm3.tup hT), (by rw [List.length_map]; exact l1), fun m hm1 hm2 => ?_⟩
      obtain rfl := maxFar hm1 hm2
      refine ⟨_, rfl, _, _, rfl, rfl, _, rfl, _, rfl, _, rfl, _, _, rfl, rfl, _, rfl, a, _, rfl, .inr (sm3.tup hT), _, _, rfl, rfl, (by rw [List.length_map]; omega), l, _, _, (i + T.getD i 0) % T.length, rfl, rfl, (by rw [upd_ne (ne_of_none hB ht)]; exact hB), ?_, ?_⟩
      · rw [List.length_map, List.length_map, lB]
        have e : ((i : Int) + (T.getD i 0 : Int)) % ((T.length : Nat) : Int) = (((i + T.getD i 0) % T.length : Nat) : Int) := by push_cast; rfl
        rw [e]
        unfold ixN
        (rw [if_pos (by omega), if_pos (by omega)])
        rfl
      · have es : (far T : Int) - (T.getD i 0 : Int) = ((far T - T.getD i 0 : Nat) : Int) := by omega
        refine ⟨fun b o e => ?_, _, _, B.set ((i + T.getD i 0) % T.length) (far T - T.getD i 0), rfl, ?_, by rw [List.length_set]; exact lB, fun j hj hjl => ?_⟩
        · rw [upd_ne (ne_of_none e hlH)]
          exact sm3 _ _ e
        · rw [upd_same, List.map_set]
          show some (HO.lst ((B.map vn).set _ (V.int ((far T : Int) - (T.getD i 0 : Int))))) = _
          rw [es]
        · rw [getD_set (by rw [lB]; exact hm)]
          by_cases ej : (j + T.getD j 0) % T.length = (i + T.getD i 0) % T.length
          · rw [if_pos ej]
            obtain rfl := X.inj j i hjl lt ej
            rfl
          · rw [if_neg ej]
            refine tell j ?_ hjl
            rcases Nat.lt_succ_iff_lt_or_eq.mp hj with z | z
            · exact z
            · exact absurd (by rw [z]) ej
    · rintro σ H2 ⟨sm, x0, y0, B, rfl, hB, lB, tell⟩
      refine ⟨_, rfl, l, _, rfl, .inl ⟨SqL.of hB, fun b hb => ?_⟩⟩
      refine q _ b B (sm.trans (same_new hb)) (SqT.of upd_same) lB fun i hi => tell i (by rw [List.length_map]; exact hi) hi
def spOutAt (K : PySem.W.Frag) : Sp := fun vs H Q _ => ∃ (a : Addr) (T : List Nat) (t : Nat), vs = [.ref a, vn t] ∧ TabAt K H a T ∧ Tab T ∧ ∀ H', Same H H' → Q (vn (out T t)) H'
theorem sc24 : FnScope ["table", "thing"] ["table", "thing"] (defScope (top 24)) := ⟨rfl, rfl, rfl, by decide +kernel, rfl, by decide +kernel, by decide +kernel⟩
theorem g_outAt (d : Df K mg "out_at" (top 24) ["table", "thing"]) (G1 : GF P w K mg base "need_table" 4 (spNeedTab K)) (G2 : GF P w K mg base "need_integer" 2 spNeedInt) (G3 : GF P w K mg base "out_of" 2 (spOut K)) :
    GF P w K mg base "out_at" 5 (spOutAt K) := by
  refine gf_of d sc24 (fun vs H Q E h => ?_) (fun f cdv A outer s H vs Q E hr h => ?_)
  · obtain ⟨a, T, t, rfl, _⟩ := h
    rfl
  · obtain ⟨a, T, t, rfl, hT, X, q⟩ := h
    refine ⟨_, pss_cons (ps_expr (pe_g G1 hr (pa_cons (pv 0) pa_nil))) (pss_cons (ps_expr (pe_g G2 (hr.mono (by decide)) (pa_cons (pv 1) pa_nil))) (pss_one (ps_ret (pe_g G3 (hr.mono (by decide)) (pa_cons (pv 0) (pa_cons (pv 1) pa_nil)))))), ?_⟩
    exact ⟨_, rfl, a, T, rfl, hT, X, fun H' sm => ⟨_, rfl, _, rfl, _, rfl, _, rfl, a, T, t, rfl, sm.tup hT, X.pos, q _ sm⟩⟩
def spHeld (K : PySem.W.Frag) : Sp := fun vs H Q _ => ∃ (a : Addr) (T : List Nat), vs = [.ref a] ∧ TabAt K H a T ∧ Tab T ∧ ∀ H', Same H H' → Q (vn (T.sum / T.length)) H'
theorem sc25 : FnScope ["table"] ["table"] (defScope (top 25)) := ⟨rfl, rfl, rfl, by decide +kernel, rfl, by decide +kernel, by decide +kernel⟩
theorem g_held (d : Df K mg "held" (top 25) ["table"]) (G1 : GF P w K mg base "need_table" 4 (spNeedTab K)) (G2 : GF P w K mg base "held_of" 1 (spHeldOf K)) : GF P w K mg base "held" 5 (spHeld K) := by
  refine gf_of d sc25 (fun vs H Q E h => ?_) (fun f cdv A outer s H vs Q E hr h => ?_)
  · obtain ⟨a, T, rfl, _⟩ := h
    rfl
  · obtain ⟨a, T, rfl, hT, X, q⟩ := h
    refine ⟨_, pss_cons (ps_expr (pe_g G1 hr (pa_cons (pv 0) pa_nil))) (pss_one (ps_ret (pe_g G2 (hr.mono (by decide)) (pa_cons (pv 0) pa_nil)))), ?_⟩
    exact ⟨_, rfl, a, T, rfl, hT, X, fun H' sm => ⟨_, rfl, a, T, rfl, sm.tup hT, X, q _ sm⟩⟩
def spDelay (K : PySem.W.Frag) : Sp := fun vs H Q _ => ∃ (a : Addr) (T : List Nat), vs = [.ref a] ∧ TabAt K H a T ∧ Tab T ∧ ∀ H', Same H H' → Q (vn (far T)) H'
theorem sc26 : FnScope ["table"] ["table"] (defScope (top 26)) := ⟨rfl, rfl, rfl, by decide +kernel, rfl, by decide +kernel, by decide +kernel⟩
theorem g_delay (d : Df K mg "delay" (top 26) ["table"]) (B : Bt mg) (G1 : GF P w K mg base "need_table" 4 (spNeedTab K)) : GF P w K mg base "delay" 5 (spDelay K) := by
  refine gf_of d sc26 (fun vs H Q E h => ?_) (fun f cdv A outer s H vs Q E hr h => ?_)
  · obtain ⟨a, T, rfl, _⟩ := h
    rfl
  · obtain ⟨a, T, rfl, hT, X, q⟩ := h
    refine ⟨_, pss_cons (ps_expr (pe_g G1 hr (pa_cons (pv 0) pa_nil))) (pss_one (ps_ret (pe_callB (cr_maxT rfl) rfl B.max_ bt_max (pa_cons (pv 0) pa_nil)))), ?_⟩
    refine ⟨_, rfl, a, T, rfl, hT, X, fun H' sm => ⟨_, rfl, a, _, rfl, (by rw [← map_vn]; exact sm.tup hT), (by rw [List.length_map]; exact X.pos), fun m h1 h2 => ?_⟩⟩
    rw [maxFar h1 h2]
    exact q _ sm
/-! ## is_value, need_value -/
theorem sc31 : FnScope ["thing", "sign"] ["thing"] (defScope (top 31)) := ⟨rfl, rfl, rfl, by decide +kernel, rfl, by decide +kernel, by decide +kernel⟩
theorem g_value (d : Df K mg "is_value" (top 31) ["thing"]) (B : Bt mg) (G1 : GF P w K mg base "is_integer" 1 spInt) : GF P w K mg base "is_value" 2 spInt := by
  refine gf_of d sc31 (fun vs H Q E h => ?_) (fun f cdv A outer s H vs Q E hr h => ?_)
  · obtain ⟨i, rfl, _⟩ := h
    rfl
  · obtain ⟨i, rfl, q⟩ := h
    refine ⟨_, pss_cons (ps_if (pt_val (pe_callB call_isi rfl B.isi bt_isi (pa_cons (pv 0) (pa_cons (pe_bltn rfl B.str_ bt_str (v := .ty "str") rfl) pa_nil)))) pss_never pss_nil) (pss_one (ps_ret (pe_g G1 hr (pa_cons (pv 0) pa_nil)))), ?_⟩
    refine ⟨_, rfl, _, _, _, _, false, rfl, .ty "str", .base (.int i), kit_is, false, rfl, iteF ?_⟩
    exact ⟨_, rfl, i, rfl, q⟩
theorem sc32 : FnScope ["value"] ["value"] (defScope (top 32)) := ⟨rfl, rfl, rfl, by decide +kernel, rfl, by decide +kernel, by decide +kernel⟩
theorem g_needVal (d : Df K mg "need_value" (top 32) ["value"]) (G : GF P w K mg base "is_value" 2 spInt) : GF P w K mg base "need_value" 3 spNeedInt := by
  refine gf_of d sc32 (fun vs H Q E h => ?_) (fun f cdv A outer s H vs Q E hr h => ?_)
  · obtain ⟨i, rfl, _⟩ := h
    rfl
  · obtain ⟨i, rfl, q⟩ := h
    refine ⟨_, pss_one (ps_if (pt_not (pt_val (pe_g G hr (pa_cons (pv 0) pa_nil)))) pss_never pss_nil), ?_⟩
    exact ⟨_, rfl, i, rfl, true, rfl, iteF q⟩
end
/-- a comprehension's words -/
abbrev fnSc (names : List (Str × NameKind)) : Scope := { kind := .function, names := names, isGenerator := false, isCoroutine := false }
theorem sortedI_K {X : Cx} {K : PySem.W.Frag} (e : X.K = K) : CallR X (.builtin "sorted") (rSortedI K) := e ▸ cr_sortedI
theorem listP_K {X : Cx} {tg : Expr} {K : PySem.W.Frag} {l : Expr} {tl : TE} (e : X.K = K) (hl : PE X l tl) : PI X tg l (iList K tl) := e ▸ pi_list hl
theorem vn_srt {ns : List Int} {l : List Nat} (h : ns.Perm (l.map fun n : Nat => (n : Int))) (hs : ns.Pairwise (· ≤ ·)) : ns = (srt l).map fun n : Nat => (n : Int) := by
  have e : ns = (ns.map Int.toNat).map fun n : Nat => (n : Int) := by
    rw [List.map_map]
    refine (List.map_id ns).symm.trans (List.map_congr_left fun x hx => ?_)
    obtain ⟨a, _, rfl⟩ := List.mem_map.mp (h.mem_iff.mp hx)
    rfl
  have p : (ns.map Int.toNat).Perm l := by
    have := h.map Int.toNat
    rw [List.map_map] at this
    have i : (Int.toNat ∘ fun n : Nat => (n : Int)) = id := rfl
    rw [i, List.map_id] at this
    exact this
  rw [e, srt_one p ?_]
  rw [List.pairwise_map]
  exact hs.imp fun h => by omega
section
variable {P : Program} {w : World} {K : PySem.W.Frag} {base : Heap} {mg : Str → Option Value}
/-! ## need_word, need_ticks, need_most -/
def spNeedWord : Sp := fun vs H Q _ => ∃ m : Nat, vs = [vn m] ∧ 1 ≤ m ∧ m ≤ 24 ∧ Q .non H
theorem sc45 : FnScope ["word"] ["word"] (defScope (top 45)) := ⟨rfl, rfl, rfl, by decide +kernel, rfl, by decide +kernel, by decide +kernel⟩
theorem g_needWord (d : Df K mg "need_word" (top 45) ["word"]) (B : Bt mg) (G : GF P w K mg base "is_between" 2 spBetween) : GF P w K mg base "need_word" 3 spNeedWord := by
  obtain ⟨_, mW⟩ := B.WORD
  refine gf_of d sc45 (fun vs H Q E h => ?_) (fun f cdv A outer s H vs Q E hr h => ?_)
  · obtain ⟨m, rfl, _⟩ := h
    rfl
  · obtain ⟨m, rfl, h1, h2, q⟩ := h
    refine ⟨_, pss_one (ps_if (pt_not (pt_val (pe_g G hr (pa_cons (pv 0) (pa_cons pe_int (pa_cons (pe_glob (v := .int 24) rfl mW ⟨_, rfl⟩) pa_nil)))))) pss_never pss_nil), ?_⟩
    refine ⟨_, rfl, (m : Int), 1, 24, rfl, true, congrArg V.bl ?_, iteF q⟩
    (rw [Bool.and_eq_true, decide_eq_true_eq, decide_eq_true_eq])
    omega
def spNeedTicks : Sp := fun vs H Q _ => ∃ b l : Nat, vs = [vn b, vn l] ∧ l ≤ b ∧ b ≤ 400 ∧ Q .non H
theorem sc46 : FnScope ["ticks", "least"] ["ticks", "least"] (defScope (top 46)) := ⟨rfl, rfl, rfl, by decide +kernel, rfl, by decide +kernel, by decide +kernel⟩
theorem g_needTicks (d : Df K mg "need_ticks" (top 46) ["ticks", "least"]) (B : Bt mg) (G : GF P w K mg base "is_between" 2 spBetween) : GF P w K mg base "need_ticks" 3 spNeedTicks := by
  obtain ⟨_, mW⟩ := B.TICKS
  refine gf_of d sc46 (fun vs H Q E h => ?_) (fun f cdv A outer s H vs Q E hr h => ?_)
  · obtain ⟨b, l, rfl, _⟩ := h
    rfl
  · obtain ⟨b, l, rfl, h1, h2, q⟩ := h
    refine ⟨_, pss_one (ps_if (pt_not (pt_val (pe_g G hr (pa_cons (pv 0) (pa_cons (pv 1) (pa_cons (pe_glob (v := .int 400) rfl mW ⟨_, rfl⟩) pa_nil)))))) pss_never pss_nil), ?_⟩
    refine ⟨_, rfl, _, rfl, (b : Int), l, 400, rfl, true, congrArg V.bl ?_, iteF q⟩
    (rw [Bool.and_eq_true, decide_eq_true_eq, decide_eq_true_eq])
    omega
def spNeedMost : Sp := fun vs H Q _ => ∃ m : Nat, vs = [vn m] ∧ m ≤ 24 ∧ Q .non H
theorem sc47 : FnScope ["most"] ["most"] (defScope (top 47)) := ⟨rfl, rfl, rfl, by decide +kernel, rfl, by decide +kernel, by decide +kernel⟩
theorem g_needMost (d : Df K mg "need_most" (top 47) ["most"]) (B : Bt mg) (G : GF P w K mg base "is_between" 2 spBetween) : GF P w K mg base "need_most" 3 spNeedMost := by
  obtain ⟨_, mW⟩ := B.WORD
  refine gf_of d sc47 (fun vs H Q E h => ?_) (fun f cdv A outer s H vs Q E hr h => ?_)
  · obtain ⟨m, rfl, _⟩ := h
    rfl
  · obtain ⟨m, rfl, h2, q⟩ := h
    refine ⟨_, pss_one (ps_if (pt_not (pt_val (pe_g G hr (pa_cons (pv 0) (pa_cons pe_int (pa_cons (pe_glob (v := .int 24) rfl mW ⟨_, rfl⟩) pa_nil)))))) pss_never pss_nil), ?_⟩
    refine ⟨_, rfl, (m : Int), 0, 24, rfl, true, congrArg V.bl ?_, iteF q⟩
    (rw [Bool.and_eq_true, decide_eq_true_eq, decide_eq_true_eq])
    omega
/-! ## words_of -/
/-- m words are a round of the table -/
structure Many (T : List Nat) (w m : Nat) : Prop where
  pos : 0 < m
  le : m ≤ T.length
  per : m * w % T.length = 0
  first : ∀ j, 0 < j → j < m → j * w % T.length ≠ 0
theorem Many.one {T : List Nat} {w m n : Nat} (a : Many T w m) (b : Many T w n) : m = n := by
  rcases Nat.lt_trichotomy m n with h | h | h
  · exact absurd a.per (b.first m a.pos h)
  · exact h
  · exact absurd b.per (a.first n b.pos h)
/-- at p the list of the first m words' ticks -/
def WordsAt (H : Hp) (p : Addr) (T : List Nat) (w m : Nat) : Prop := ∃ ps : List Addr, H p = some (.lst (ps.map V.ref)) ∧ ps.length = m ∧ ∀ k q, ps[k]? = some q → H q = some (.lst ((WL T w k).map vn))
def spWords (K : PySem.W.Frag) : Sp := fun vs H Q _ => ∃ (a : Addr) (T : List Nat) (m : Nat), vs = [.ref a, vn m] ∧ TabAt K H a T ∧ Tab T ∧ m ≤ 24 ∧ ∀ H' p r, Same H H' → WordsAt H' p T m r → Many T m r → Q (.ref p) H'
theorem refs_of {vs : List V} {R : Nat → V → Prop} (h : ∀ i v, vs[i]? = some v → R i v) (hR : ∀ i v, R i v → ∃ q, v = V.ref q) : ∃ ps : List Addr, vs = ps.map V.ref ∧ ps.length = vs.length ∧ ∀ i q, ps[i]? = some q → R i (.ref q) := by
  refine ⟨vs.map fun v => match v with | .ref q => q | _ => 0, ?_, List.length_map _, fun i q e => ?_⟩
  · rw [List.map_map]
    refine (List.map_id vs).symm.trans (List.map_congr_left fun v hv => ?_)
    obtain ⟨i, hi⟩ := List.mem_iff_getElem?.mp hv
    obtain ⟨q, rfl⟩ := hR _ _ (h i v hi)
    rfl
  · rw [List.getElem?_map] at e
    obtain ⟨v, hv, rfl⟩ := Option.map_eq_some_iff.mp e
    obtain ⟨q, rfl⟩ := hR _ _ (h i v hv)
    exact h i _ hv
theorem sc48 : FnScope ["table", "word", "many", "k", "place"] ["table", "word"] (defScope (top 48)) := ⟨rfl, rfl, rfl, by decide +kernel, rfl, by decide +kernel, by decide +kernel⟩
theorem g_words (d : Df K mg "words_of" (top 48) ["table", "word"]) (B : Bt mg) (G : GF P w K mg base "out_of" 2 (spOut K)) : GF P w K mg base "words_of" 3 (spWords K) := by
  refine gf_of d sc48 (fun vs H Q E h => ?_) (fun f cdv A outer s H vs Q E hr h => ?_)
  · obtain ⟨a, T, m, rfl, _⟩ := h
    rfl
  · obtain ⟨a, T, m, rfl, hT, X, hm, q⟩ := h
    refine ⟨_, pss_cons (ps_set (i := 2) sc48.nd rfl (Or.inl rfl) pe_int)
      (pss_cons (ps_while PassesOwn.never (pt_cmpR op_ne (pe_op op_mod (pe_op op_mulN (pv 2) (pv 1)) (pe_callB call_len_seq rfl B.len_ bt_len (pa_cons (pv 0) pa_nil))) pe_int (nomark _))
        (pss_one (ps_set (i := 2) sc48.nd rfl (Or.inl rfl) (pe_op op_add (pv 2) pe_int))))
      (pss_one (ps_ret (pe_lc (own := [("k", 3)]) (g := gName 3) (tt := tYes) rfl sc48.nd (pi_range1 rfl B.range_ (pa_cons (pv 2) pa_nil))
        (blkOk_by (N := ["table", "word", "many", "k", "place"]) (sc := defScope (top 48)) (by decide +kernel)) (fun _ _ _ _ _ => pg_name (i := 3) sc48.nd rfl (Or.inr rfl)) (fun _ _ _ _ _ => pts_nil)
        (fun _ _ _ _ _ => pe_callB (sortedI_K (K := K) rfl) rfl B.sorted_ bt_sorted (pa_cons (pe_lc (own := [("place", 4)]) (g := gName 4) (tt := tYes) rfl sc48.nd (pi_range1 rfl B.range_ (pa_cons (pv 1) pa_nil))
          (blkOk_by (N := ["table", "word", "many", "k", "place"]) (sc := fnSc [(".0", .local), ("k", .cell), ("sorted", .globalImplicit), ("range", .globalImplicit), ("table", .cell), ("word", .cell)]) (by decide +kernel)) (fun _ _ _ _ _ => pg_name (i := 4) sc48.nd rfl (Or.inl rfl)) (fun _ _ _ _ _ => pts_nil)
          (fun _ _ _ _ _ => pe_g G hr (pa_cons (pv 0) (pa_cons (pe_op op_add (pe_op op_mulN (pv 3) (pv 1)) (pv 4)) pa_nil)))) pa_nil)))))), ?_⟩
    have l1 := X.pos
    have l2 := X.len
    refine while_by (fun σ H2 => H2 = H ∧ ∃ r : Nat, σ = [some (.ref a), some (vn m), some (vn r), none, none] ∧ 0 < r ∧ r ≤ T.length ∧ ∀ j, 0 < j → j < r → j * m % T.length ≠ 0) (fun σ _ => match σ with | [_, _, some (.int r), _, _] => T.length - r.toNat | _ => 0)
      ⟨rfl, 1, rfl, Nat.one_pos, l1, fun j h1 h2 => by omega⟩ ?_ ?_
    · rintro σ H2 ⟨rfl, r, rfl, r1, r2, r3⟩
      refine ⟨_, rfl, _, rfl, r, m, rfl, rfl, by omega, _, rfl, a, _, rfl, .inr hT, ((r * m : Nat) : Int), (((T.map vn).length : Nat) : Int), rfl, rfl, ?_, ?_⟩
      · rw [List.length_map]
        omega
      rw [List.length_map]
      refine ⟨rfl, _, rfl, ?_⟩
      have em : ((r * m : Nat) : Int) % ((T.length : Nat) : Int) = ((r * m % T.length : Nat) : Int) := by push_cast; rfl
      refine ite2 (fun c => ?_) fun c => ?_
      · replace c : (!decide (V.int (((r * m : Nat) : Int) % ((T.length : Nat) : Int)) = V.int 0)) = true := c
        have c' : r * m % T.length ≠ 0 := fun z => by
          rw [em, z] at c
          simp at c
        have rl : r ≠ T.length := fun z => c' (by rw [z]; exact Nat.mul_mod_right _ _)
        refine ⟨_, rfl, _, _, rfl, rfl, ⟨rfl, r + 1, rfl, by omega, by omega, fun j h1 h2 => ?_⟩, ?_⟩
        · by_cases e : j = r
          · rw [e]; exact c'
          · exact r3 j h1 (by omega)
        show T.length - ((r : Int) + 1).toNat < T.length - ((r : Nat) : Int).toNat
        omega
      · replace c : ¬ (!decide (V.int (((r * m : Nat) : Int) % ((T.length : Nat) : Int)) = V.int 0)) = true := c
        have c' : r * m % T.length = 0 := by
          rw [em] at c
          by_cases z : r * m % T.length = 0
          · exact z
          · refine absurd ?_ c
            rw [Bool.not_eq_true', decide_eq_false_iff_not]
            exact fun y => z (by have := V.int.inj y; omega)
        refine ⟨_, rfl, (r : Int), rfl, by omega, by omega, fun D hD => lc_rel walk_range (fun k y H3 => ∃ z, y = .ref z ∧ z ≠ D ∧ H3 z = some (.lst ((WL T m k).map vn)))
          (fun i y H3 H4 k ⟨z, e, n, at_⟩ => ⟨z, e, n, k _ _ at_ n⟩) hD (by omega) (fun _ _ => trivial) (fun k x H3 H4 Kt lt sm ⟨L, hL⟩ y kt => ?_) (fun H3 ys sm at_ len tell => ?_)⟩
        · obtain ⟨rfl, rfl⟩ := y
          refine ⟨rfl, _, rfl, (m : Int), rfl, by omega, by omega, fun D2 hD2 => lc_map walk_range (fun j => vn (out T (k * m + j))) hD2 (by omega) (fun _ _ => trivial) (fun j x H5 H6 Ku lt2 sm2 y ku => ?_) (fun H5 sm2 at2 => ?_)⟩
          · obtain ⟨rfl, rfl⟩ := y
            refine ⟨rfl, _, rfl, _, rfl, _, rfl, k, m, ?_, rfl, by omega, _, rfl, _, _, rfl, rfl, a, T, k * m + j, ?_, (sm.trans sm2).tup hT, l1, ku _ (Same.refl _)⟩
            · exact congrArg V.int (by omega)
            · have e : ((k * m : Nat) : Int) + (0 + (j : Int)) = ((k * m + j : Nat) : Int) := by push_cast; omega
              show [V.ref a, V.int (((k * m : Nat) : Int) + (0 + (j : Int)))] = _
              rw [e]
          · have e2 : (List.range (m : Int).toNat).map (fun j => vn (out T (k * m + j))) = ((raw T m k).map fun n : Nat => (n : Int)).map V.int := by
              unfold raw
              (rw [List.map_map, List.map_map])
              rfl
            rw [e2] at at2
            refine ⟨D2, _, rfl, SqL.of at2, fun ns z hp hs hz => ?_⟩
            have e3 : ns.map V.int = (WL T m k).map vn := by rw [vn_srt hp hs, map_vn]; rfl
            rw [e3]
            refine kt _ _ (sm2.trans (same_new hz)) ⟨z, rfl, fun e => ?_, upd_same⟩
            rw [e, sm2 _ _ hL] at hz
            cases hz
        · obtain ⟨ps, rfl, lp, tp⟩ := refs_of (R := fun k y => ∃ z, y = .ref z ∧ z ≠ D ∧ H3 z = some (.lst ((WL T m k).map vn))) tell fun i v ⟨z, e, _⟩ => ⟨z, e⟩
          refine q _ _ r sm ⟨ps, at_, by rw [lp, len]; rfl, fun k z e => ?_⟩ ⟨r1, r2, c', r3⟩
          obtain ⟨z', e', _, h⟩ := tp k z e
          cases e'
          exact h
    · rintro σ H2 Q1 Q2 imp ⟨v1, e1, v2, e2, n1, m1, h1, h2, h3, v3, e3, p3, ys, h4, h5, i5, j5, h6, h7, h8, ⟨h9, k, h10, h11⟩⟩
      exact ⟨v1, e1, v2, e2, n1, m1, h1, h2, h3, v3, e3, p3, ys, h4, h5, i5, j5, h6, h7, h8, h9, k, h10, imp _ _ h11⟩
end
section
variable {J : It} {n : Nat} {G : Hp → Prop} {Y : Nat → Hp → V → Hp → Prop} {g g1 : TG} {wi1 : TI} {te : TE} {vs vs1 : List Nat} {σ : L2.St} {H1 : Hp} {D : Addr} {Qd : Hp → Prop}
/-- what a comprehension of two loops has after i outer turns -/
def flat2 (len : Nat → Nat) (f : Nat → Nat → V) (i : Nat) : List V := ((List.range i).map fun k => (List.range (len k)).map (f k)).flatten
theorem flat2_succ (len : Nat → Nat) (f : Nat → Nat → V) (i : Nat) : flat2 len f (i + 1) = flat2 len f i ++ (List.range (len i)).map (f i) := by
  unfold flat2
  rw [List.range_succ, List.map_append, List.flatten_append]
  simp
theorem flat2_len {len : Nat → Nat} {f : Nat → Nat → V} {b : Nat} (hb : ∀ i, len i ≤ b) : ∀ i, (flat2 len f i).length ≤ i * b
  | 0 => by simp [flat2]
  | i + 1 => by
    rw [flat2_succ, List.length_append, List.length_map, List.length_range, Nat.succ_mul]
    exact Nat.add_le_add (flat2_len hb i) (hb i)
theorem keep_app {H1 H H' : Hp} {D : Addr} {o : HO} (hD : H1 D = none) (s : Same H1 H) (k : Same H H') : Same H1 (upd H' D o) := fun b u e => by
  rw [upd_ne (ne_of_none e hD)]
  exact k _ _ (s _ _ e)
/-- the inner loop's part: n1 turns that make f, the new list at D grows meanwhile -/
def Inn (H1 H4 : Hp) (D : Addr) (σ2 : L2.St) (vs1 : List Nat) (g1 : TG) (te : TE) (n1 : Nat) (f : Nat → V) (J1 : It) : Prop := ∃ (G1 : Hp → Prop) (Y1 : Nat → Hp → V → Hp → Prop), Walk J1 n1 G1 Y1 ∧ (∀ H5, Same H1 H5 → Keep [D] H4 H5 → G1 H5) ∧
  ∀ j y H5 H6 (Kt : V → Hp → Prop), j < n1 → Same H1 H5 → Keep [D] H4 H5 → Y1 j H5 y H6 → (∀ H7, Same H5 H7 → Kt (f j) H7) → g1 y (wipe σ2 vs1) H6 fun σ3 H7 => wipe σ3 vs1 = wipe σ2 vs1 ∧ te σ3 H7 Kt
theorem lc2_fun (w : Walk J n G Y) (len : Nat → Nat) (f : Nat → Nat → V) {c : Nat} (hc : ∀ i, len i ≤ c) (hnc : n * c ≤ 4000000) (hD : H1 D = none) (hG : ∀ H, Same H1 H → G H)
    (hs : ∀ i x H H' (KK : L2.St → It → Hp → Prop), i < n → Same H1 H → (∃ L, H D = some (.lst L)) → Y i H x H' → (∀ σ2 J1 H4, Same H H4 → Inn H1 H4 D σ2 vs1 g1 te (len i) (f i) J1 → KK σ2 J1 H4) →
      g x (wipe σ vs) H' fun σ2 H2 => wipe σ2 vs = wipe σ vs ∧ wi1 σ2 H2 fun J1 H4 => KK σ2 J1 H4)
    (hd : ∀ H, Same H1 H → H D = some (.lst (flat2 len f n)) → Qd H) :
    ∃ W : Nat → Nat → Hp → Prop, (∃ m, W 0 m (upd H1 D (.lst []))) ∧ ∀ i m H, W i m H → (J.stop i H ∧ Qd H) ∨ (J.go i H ∧ ∃ Nx : Hp → Prop, (∀ H', Nx H' → ∃ m', m' < m ∧ W (i + 1) m' H') ∧ ∀ x H', J.yld i H x H' → g x (wipe σ vs) H' fun σ2 H2 => wipe σ2 vs = wipe σ vs ∧ tYes σ2 H2 fun b H3 =>
        if b = true then wi1 σ2 H3 fun J1 H4 => ∃ W1 : Nat → Nat → Hp → Prop, (∃ m, W1 0 m H4) ∧ ∀ j k H, W1 j k H → (J1.stop j H ∧ Nx H) ∨ (J1.go j H ∧ ∃ Nx1 : Hp → Prop, (∀ H', Nx1 H' → ∃ k', k' < k ∧ W1 (j + 1) k' H') ∧ ∀ x H', J1.yld j H x H' → g1 x (wipe σ2 vs1) H' fun σ3 H5 => wipe σ3 vs1 = wipe σ2 vs1 ∧ tYes σ3 H5 fun b H6 =>
            if b = true then te σ3 H6 fun y H7 => ∃ acc, H7 D = some (.lst acc) ∧ acc.length < sizeLine ∧ Nx1 (upd H7 D (.lst (acc ++ [y]))) else Nx1 H6) else Nx H3) := by
  have big : ∀ i, i < n → ∀ j, j < len i → (flat2 len f i ++ (List.range j).map (f i)).length < sizeLine := fun i hi j hj => by
    have l1 := flat2_len (f := f) hc i
    have l2 : (i + 1) * c ≤ n * c := Nat.mul_le_mul_right _ hi
    rw [Nat.succ_mul] at l2
    have l3 := hc i
    rw [List.length_append, List.length_map, List.length_range, sizeLine_eq]
    omega
  refine ⟨fun i m H => m = n - i ∧ i ≤ n ∧ Same H1 H ∧ H D = some (.lst (flat2 len f i)), ⟨n, rfl, Nat.zero_le _, same_new hD, upd_same⟩, ?_⟩
  rintro i m H ⟨rfl, hi, sm, at_⟩
  by_cases lt : i < n
  · refine .inr ⟨w.goes i H lt (hG H sm), fun H' => Same H1 H' ∧ H' D = some (.lst (flat2 len f (i + 1))), fun H' h => ⟨_, by omega, rfl, lt, h⟩, fun x H' y => ?_⟩
    refine hs i x H H' (fun σ2 J1 H4 => _) lt sm ⟨_, at_⟩ (w.yields i H x H' lt (hG H sm) y) fun σ2 J1 H4 s4 ⟨G1, Y1, w1, g1', step⟩ => ?_
    refine ⟨fun j k H5 => k = len i - j ∧ j ≤ len i ∧ Same H1 H5 ∧ Keep [D] H4 H5 ∧ H5 D = some (.lst (flat2 len f i ++ (List.range j).map (f i))), ⟨len i, rfl, Nat.zero_le _, sm.trans s4, fun b o e _ => e, ?_⟩, ?_⟩
    · rw [s4 _ _ at_]
      simp
    · rintro j k H5 ⟨rfl, hj, sm5, k5, at5⟩
      by_cases lj : j < len i
      · refine .inr ⟨w1.goes j H5 lj (g1' _ sm5 k5), fun H6 => Same H1 H6 ∧ Keep [D] H4 H6 ∧ H6 D = some (.lst (flat2 len f i ++ (List.range (j + 1)).map (f i))), fun H6 h => ⟨_, by omega, rfl, lj, h⟩, fun y H6 hy => ?_⟩
        refine step j y H5 H6 _ lj sm5 k5 (w1.yields j H5 y H6 lj (g1' _ sm5 k5) hy) fun H7 s7 => ?_
        refine ⟨_, s7 _ _ at5, big i lt j lj, keep_app hD sm5 s7, fun b o e nb => ?_, ?_⟩
        · rw [upd_ne (fun z => nb (List.mem_singleton.mpr z))]
          exact s7 _ _ (k5 _ _ e nb)
        · rw [upd_same, List.range_succ, List.map_append, List.append_assoc]
          rfl
      · have e : j = len i := by omega
        subst e
        refine .inl ⟨w1.stops H5 (g1' _ sm5 k5), sm5, ?_⟩
        rw [at5, flat2_succ]
  · have e : i = n := by omega
    subst e
    exact .inl ⟨w.stops H (hG H sm), hd H sm at_⟩
end
section
variable {X : Cx} {K : PySem.W.Frag}
theorem slL_K (e : X.K = K) : SlR X (rSlL K) := e ▸ sl_list
theorem min_K (e : X.K = K) (hc : X.calm = true) : CallR X (.builtin "min") (rMin K) := e ▸ cr_min hc
theorem zip_K {e e2 : Expr} {ta : TA} {p pos tpos : Pos} {elts : List Expr} {kk : Nat} (eK : X.K = K) (hg : Gl X "zip") (hm : X.mg "zip" = none) (ha : PA X [e, e2] ta)
    (hs : starEach [e, e2] X.env = (false, eval e X.env) :: starEach [e2] X.env := by rfl) (hpl : (backTo pos (starEach [e2] X.env)).any (·.1) = false := by rfl) : PI X (.Tuple elts kk tpos) (.Call (.Name "zip" p) [e, e2] [] pos) (iZip K ta) := eK ▸ pi_zip hg hm ha hs hpl
theorem cut_from {xs : List V} {e : Nat} (h : e ≤ xs.length) : cutV xs (some (e : Int)) none = xs.drop e := by
  unfold cutV
  rw [HT.sIx_nat, HT.sIx_none, Nat.min_eq_left h]
  (exact List.take_of_length_le (by rw [List.length_drop]; omega))
end
section
variable {P : Program} {w : World} {K : PySem.W.Frag} {base : Heap} {mg : Str → Option Value}
/-! ## guard_of -/
/-- the least of the distances -/
structure Least (T : List Nat) (w m e : Nat) (g : Int) : Prop where
  one : ∃ k, k < m ∧ g ∈ dist T w k e
  all : ∀ k, k < m → ∀ y ∈ dist T w k e, g ≤ y
def spGuard (K : PySem.W.Frag) : Sp := fun vs H Q _ => ∃ (a : Addr) (T : List Nat) (m : Nat), vs = [.ref a, vn m] ∧ TabAt K H a T ∧ Tab T ∧ m ≤ 24 ∧
  ∀ H' p r (gs : Nat → Int), Same H H' → Many T m r → H' p = some (.lst ((List.range m).map fun e => .int (gs e))) → (∀ e, e < m → Least T m r e (gs e)) → Q (.ref p) H'
theorem dist_flat (T : List Nat) (m e r : Nat) : flat2 (fun _ => m - e) (fun k j => .int (((WL T m k).getD (j + e) 0 : Int) - ((WL T m k).getD j 0 : Int))) r = (((List.range r).map fun k => dist T m k e).flatten).map V.int := by
  unfold flat2 dist
  rw [List.map_flatten, List.map_map]
  congr 1
  (refine List.map_congr_left fun k _ => ?_)
  show _ = (List.map _ (List.map _ _))
  rw [List.map_map]
  rfl
theorem sc49 : FnScope ["table", "word", "words", "many", "outs", "near", "far"] ["table", "word"] (defScope (top 49)) := ⟨rfl, rfl, rfl, by decide +kernel, rfl, by decide +kernel, by decide +kernel⟩
theorem g_guard (d : Df K mg "guard_of" (top 49) ["table", "word"]) (B : Bt mg) (G : GF P w K mg base "words_of" 3 (spWords K)) : GF P w K mg base "guard_of" 4 (spGuard K) := by
  refine gf_of d sc49 (fun vs H Q E h => ?_) (fun f cdv A outer s H vs Q E hr h => ?_)
  · obtain ⟨a, T, m, rfl, _⟩ := h
    rfl
  · obtain ⟨a, T, m, rfl, hT, X, hm, q⟩ := h
    refine ⟨_, pss_cons (ps_set (i := 2) sc49.nd rfl (Or.inr rfl) (pe_g G hr (pa_cons (pv 0) (pa_cons (pv 1) pa_nil))))
      (pss_one (ps_ret (pe_lc (own := [("many", 3)]) (g := gName 3) (tt := tYes) rfl sc49.nd (pi_range1 rfl B.range_ (pa_cons (pv 1) pa_nil))
        (blkOk_by (N := ["table", "word", "words", "many", "outs", "near", "far"]) (sc := defScope (top 49)) (by decide +kernel)) (fun _ _ _ _ _ => pg_name (i := 3) sc49.nd rfl (Or.inr rfl)) (fun _ _ _ _ _ => pts_nil)
        (fun _ _ _ _ _ => pe_callB (min_K (K := K) rfl rfl) rfl B.min_ bt_min (pa_cons (pe_lc2 (own := [("outs", 4), ("near", 5), ("far", 6)]) (vs1 := [5, 6]) (g := gName 4) (tt := tYes) (tt1 := tYes) rfl sc49.nd (listP_K (K := K) rfl (pv 2))
          (blkOk_by (N := ["table", "word", "words", "many", "outs", "near", "far"]) (sc := fnSc [(".0", .local), ("many", .cell), ("min", .globalImplicit), ("words", .cell)]) (by decide +kernel)) (by decide)
          (fun _ _ _ _ _ => pg_name (i := 4) sc49.nd rfl (Or.inl rfl)) (fun _ _ _ _ _ => pts_nil)
          (fun _ _ _ _ _ => zip_K (K := K) rfl rfl B.zip_ (pa_cons (pv 4) (pa_cons (pe_slice (slL_K (K := K) rfl) (pv 4) (po_some (pv 3)) po_none) pa_nil)))
          (fun _ _ _ _ _ => gtup_K (K := K) (n := 2) rfl rfl (pgs_cons (pg_name (i := 5) sc49.nd rfl (Or.inl rfl) (Or.inr rfl)) (pgs_cons (pg_name (i := 6) sc49.nd rfl (Or.inl rfl) (Or.inr rfl)) pgs_nil)))
          (fun _ _ _ _ _ => pts_nil) (fun _ _ _ _ _ => pe_op op_sub (pv 6) (pv 5))) pa_nil))))), ?_⟩
    refine ⟨_, rfl, _, rfl, a, T, m, rfl, hT, X, hm, fun H1 p r sm ⟨ps, hp, lp, tell⟩ hM => ?_⟩
    have r9 : r ≤ 9 := Nat.le_trans hM.le X.len
    refine ⟨_, rfl, (m : Int), rfl, by omega, by omega, fun D hD => lc_rel walk_range (fun e y _ => ∃ g, y = .int g ∧ Least T m r e g) (fun _ _ _ _ _ h => h) hD (by omega) (fun _ _ => trivial) (fun e x H2 H3 Kt le sm2 ⟨L, hL⟩ y kt => ?_) (fun H2 ys sm2 at2 len tl => ?_)⟩
    · obtain ⟨rfl, rfl⟩ := y
      have le' : e < m := by omega
      have smH := sm2
      refine ⟨rfl, _, rfl, p, rfl, ⟨_, SqL.of (sm2 _ _ hp)⟩, fun D2 hD2 => lc2_fun (walk_list (K := K) (a := p) (xs := ps.map V.ref)) (fun _ => m - e) (fun k j => .int (((WL T m k).getD (j + e) 0 : Int) - ((WL T m k).getD j 0 : Int))) (c := 24) (fun _ => by omega)
        (by rw [List.length_map, lp]; omega) hD2 (fun H4 s4 => SqL.of (s4 _ _ (sm2 _ _ hp))) (fun k x H4 H5 KK lk s4 ⟨L4, hL4⟩ y kk => ?_) (fun H4 s4 at4 => ?_)⟩
      · obtain ⟨rfl, hx⟩ := y
        rw [List.length_map] at lk
        obtain ⟨q4, hq, rfl⟩ := Option.map_eq_some_iff.mp (by rw [List.getElem?_map] at hx; exact hx)
        have hW := s4 _ _ (sm2 _ _ (tell k q4 hq))
        have lW := WL_len T m k
        refine ⟨rfl, _, rfl, _, rfl, _, rfl, _, rfl, q4, _, rfl, SqL.of hW, fun p2 hp2 => ?_⟩
        have ec : cutV ((WL T m k).map vn) (some (0 + (e : Int))) none = ((WL T m k).map vn).drop e := by
          rw [Int.zero_add]
          exact cut_from (by rw [List.length_map, lW]; omega)
        rw [ec]
        have nD : p2 ≠ D2 := fun z => by rw [z, hL4] at hp2; cases hp2
        refine ⟨q4, p2, _, _, rfl, SqL.of (same_new hp2 _ _ hW), SqL.of upd_same, kk _ _ _ (same_new hp2) ⟨_, _, walk_zip (K := K) (a := q4) (b := p2) (xs := (WL T m k).map vn) (ys := ((WL T m k).map vn).drop e) (by rw [List.length_drop, List.length_map, lW]; omega),
          fun H6 s6 k6 => ⟨SqL.of (s6 _ _ (sm2 _ _ (tell k q4 hq))), SqL.of (k6 _ _ upd_same (by rw [List.mem_singleton]; exact nD))⟩, fun j y H6 H7 Ku lj s6 k6 hy ku => ?_⟩⟩
        obtain ⟨t, u, v, rfl, ht, rfl, hu, hv⟩ := hy
        replace hu : ((WL T m k).map vn)[j]? = some u := hu
        replace hv : (((WL T m k).map vn).drop e)[j]? = some v := hv
        rw [map_at (by omega)] at hu
        rw [List.getElem?_drop, map_at (by omega), Nat.add_comm e j] at hv
        obtain rfl := Option.some.inj hu
        obtain rfl := Option.some.inj hv
        exact ⟨t, _, rfl, SqT.of upd_same, rfl, _, _, rfl, _, _, rfl, rfl, rfl, _, rfl, _, rfl, _, _, rfl, rfl, ku _ (same_new ht)⟩
      · rw [List.length_map, lp, dist_flat] at at4
        have in_ : ∀ y, y ∈ ((List.range r).map fun k => dist T m k e).flatten ↔ ∃ k, k < r ∧ y ∈ dist T m k e := fun y => by
          rw [List.mem_flatten]
          constructor
          · rintro ⟨l, hl, hy⟩
            obtain ⟨k, hk, rfl⟩ := List.mem_map.mp hl
            exact ⟨k, List.mem_range.mp hk, hy⟩
          · rintro ⟨k, hk, hy⟩
            exact ⟨_, List.mem_map.mpr ⟨k, List.mem_range.mpr hk, rfl⟩, hy⟩
        refine ⟨D2, _, rfl, SqL.of at4, ?_, fun g h1 h2 => kt _ _ s4 ⟨g, rfl, (in_ g).mp h1, fun k hk y hy => h2 y ((in_ y).mpr ⟨k, hk, hy⟩)⟩⟩
        refine List.length_pos_of_mem (a := ((WL T m 0).getD (0 + e) 0 : Int) - ((WL T m 0).getD 0 0 : Int)) ((in_ _).mpr ⟨0, hM.pos, ?_⟩)
        exact List.mem_map.mpr ⟨0, List.mem_range.mpr (by omega), rfl⟩
    · refine q _ _ r (fun e => match ys[e]? with | some (.int g) => g | _ => 0) (sm.trans sm2) hM ?_ fun e he => ?_
      · rw [at2]
        refine congrArg some (congrArg HO.lst (List.ext_getElem? fun e => ?_))
        rcases Nat.lt_or_ge e m with lt | ge
        · have ey : ys[e]? = some (ys[e]'(by rw [len]; omega)) := List.getElem?_eq_getElem _
          obtain ⟨g, eg, _⟩ := tl e _ ey
          rw [eg] at ey
          rw [List.getElem?_map, List.getElem?_range lt, ey]
          show _ = some (V.int (match ys[e]? with | some (.int g) => g | _ => 0))
          rw [ey]
        · rw [List.getElem?_eq_none (by rw [len]; omega), List.getElem?_eq_none (by rw [List.length_map, List.length_range]; exact ge)]
      · have ey : ys[e]? = some (ys[e]'(by rw [len]; omega)) := List.getElem?_eq_getElem _
        obtain ⟨g, eg, hg⟩ := tl e _ ey
        rw [eg] at ey
        show Least T m r e (match ys[e]? with | some (.int g) => g | _ => 0)
        rw [ey]
        exact hg
end
/-- the least place of those that there are -/
theorem first_at {p : Nat → Prop} : ∀ n, p n → ∃ m, m ≤ n ∧ p m ∧ ∀ j, j < m → ¬ p j := by
  intro top_
  induction top_ using Nat.strongRecOn with
  | ind n ih =>
    intro h
    by_cases e : ∃ j, j < n ∧ p j
    · obtain ⟨j, lt, hj⟩ := e
      obtain ⟨m, h1, h2, h3⟩ := ih j lt hj
      exact ⟨m, by omega, h2, h3⟩
    · exact ⟨n, Nat.le_refl _, h, fun j lt hj => e ⟨j, lt, hj⟩⟩
theorem all_flat (l : List Nat) : (l.map vn).all flatV = true := by
  rw [List.all_eq_true]
  intro x hx
  obtain ⟨n, _, rfl⟩ := List.mem_map.mp hx
  rfl
/-- the place of the first M of a list of whole numbers -/
theorem index_of {l : List Nat} {M : Nat} (h : M ∈ l) : ∃ j : Nat, l[j]? = some M ∧ ∀ m (z : V), m < j → (l.map vn)[m]? = some z → eqV z (vn M) = false := by
  obtain ⟨n, hn⟩ := List.mem_iff_getElem?.mp h
  obtain ⟨j, _, h1, h2⟩ := first_at (p := fun j : Nat => l[j]? = some M) n hn
  refine ⟨j, h1, fun m z lt hz => ?_⟩
  rw [List.getElem?_map] at hz
  obtain ⟨x, hx, rfl⟩ := Option.map_eq_some_iff.mp hz
  show ((x : Int) == (M : Int)) = false
  rw [beq_eq_false_iff_ne]
  intro e
  exact h2 m lt (by rw [hx]; exact congrArg some (by omega))
theorem eqv_self (M : Nat) : eqV (vn M) (vn M) = true := by
  show ((M : Int) == (M : Int)) = true
  exact beq_self_eq_true _
theorem max_nat {l : List Nat} {m : Int} (h : m ∈ l.map fun n : Nat => (n : Int)) (g : ∀ y ∈ l.map fun n : Nat => (n : Int), y ≤ m) : ∃ M : Nat, m = (M : Int) ∧ M ∈ l ∧ ∀ y ∈ l, y ≤ M := by
  obtain ⟨a, ha, rfl⟩ := List.mem_map.mp h
  refine ⟨a, rfl, ha, fun y hy => ?_⟩
  have := g _ (List.mem_map.mpr ⟨y, hy, rfl⟩)
  omega
theorem filter_places (o : List Nat) (P : Nat → Bool) : ((List.range o.length).filter fun i => P (o.getD i 0)).length = (o.filter P).length := by
  have e : o = (List.range o.length).map fun i => o.getD i 0 := by
    refine List.ext_getElem? fun i => ?_
    rcases Nat.lt_or_ge i o.length with lt | ge
    · rw [List.getElem?_map, List.getElem?_range lt, getD_some lt]
      rfl
    · rw [List.getElem?_eq_none ge, List.getElem?_eq_none (by rw [List.length_map, List.length_range]; exact ge)]
  conv => rhs; rw [e, List.filter_map, List.length_map]
  rfl
section
variable {P : Program} {w : World} {K : PySem.W.Frag} {base : Heap} {mg : Str → Option Value}
/-! ## worst_in, worst, longest -/
theorem lenK {X : Cx} (e : X.K = K) : CallR X (.builtin "len") (rLen K) := len_K e
/-- the most that a burst of b ticks meets of o -/
structure Crest (o : List Nat) (b M : Nat) : Prop where
  one : ∃ i f : Nat, o[i]? = some f ∧ cnt o f b = M
  all : ∀ i f : Nat, o[i]? = some f → cnt o f b ≤ M
def spWorstIn : Sp := fun vs H Q _ => ∃ (q : Addr) (o : List Nat) (b : Nat), vs = [.ref q, vn b] ∧ H q = some (.lst (o.map vn)) ∧ o.Pairwise (· < ·) ∧ 0 < o.length ∧ o.length ≤ 24 ∧ 0 < b ∧
  ∀ H' p M x, Same H H' → H' p = some (.tup [vn M, .int x]) → Crest o b M → Q (.ref p) H'
theorem sc51 : FnScope ["outs", "ticks", "met", "most", "first", "tick"] ["outs", "ticks"] (defScope (top 51)) := ⟨rfl, rfl, rfl, by decide +kernel, rfl, by decide +kernel, by decide +kernel⟩
theorem g_worstIn (d : Df K mg "worst_in" (top 51) ["outs", "ticks"]) (B : Bt mg) : GF P w K mg base "worst_in" 1 spWorstIn := by
  refine gf_of d sc51 (fun vs H Q E h => ?_) (fun f cdv A outer s H vs Q E hr h => ?_)
  · obtain ⟨q, o, b, rfl, _⟩ := h
    rfl
  · obtain ⟨q0, o, b, rfl, ho, pw, l0, l24, hb, q⟩ := h
    refine ⟨_, pss_cons (ps_setLc (i := 2) (own := [("first", 4)]) (g := gName 4) (tt := tYes) rfl sc51.nd rfl rfl (sw_true rfl rfl rfl (by decide +kernel)) (pi_list (pv 0))
        (blkOk_by (N := ["outs", "ticks", "met", "most", "first", "tick"]) (sc := defScope (top 51)) (by decide +kernel)) (fun _ _ _ _ _ => pg_name (i := 4) sc51.nd rfl (Or.inr rfl)) (fun _ _ _ _ _ => pts_nil)
        (fun _ _ _ _ _ => pe_callB (lenK (K := K) rfl) rfl B.len_ bt_len (pa_cons (pe_lc (own := [("tick", 5)]) (g := gName 5) rfl sc51.nd (listP_K (K := K) rfl (pv 0))
          (blkOk_by (N := ["outs", "ticks", "met", "most", "first", "tick"]) (sc := fnSc [(".0", .local), ("first", .cell), ("len", .globalImplicit), ("outs", .cell), ("ticks", .cell)]) (by decide +kernel)) (fun _ _ _ _ _ => pg_name (i := 5) sc51.nd rfl (Or.inl rfl))
          (fun _ _ _ _ _ => pts_one (pt_chain op_le op_lt (pv 4) (pv 5) (pe_op op_add (pv 4) (pv 1)))) (fun _ _ _ _ _ => pv 5)) pa_nil)))
      (pss_cons (ps_set (i := 3) sc51.nd rfl (Or.inl rfl) (pe_callB (cr_max rfl) rfl B.max_ bt_max (pa_cons (pv 2) pa_nil)))
      (pss_one (ps_ret (pe_tup (pa_cons (pv 3) (pa_cons (pe_op op_add (pe_op op_sub (pe_ix ix_list (pv 0) (pe_op op_sub (pe_op op_add (pe_bm PySem.F.plainAttrs_list PySem.F.slot_list_index PySem.F.type_list_index mt_index (pv 2) (pa_cons (pv 3) pa_nil)) (pv 3)) pe_int) (fun _ _ => rfl)) (pv 1)) pe_int) pa_nil)))))), ?_⟩
    have at_o : ∀ {H2 : Hp}, Same H H2 → SqL K H2 q0 (o.map vn) := fun sm => SqL.of (sm _ _ ho)
    refine ⟨_, rfl, q0, rfl, ⟨_, at_o (Same.refl _)⟩, fun D hD => lc_map (walk_list (K := K) (a := q0) (xs := o.map vn)) (fun i => vn (cnt o (o.getD i 0) b)) hD (by rw [List.length_map]; omega) (fun H2 sm => at_o sm) (fun i x H2 H3 Kt li sm y kt => ?_) (fun H2 sm at2 => ?_)⟩
    · obtain ⟨rfl, hx⟩ := y
      rw [List.length_map] at li
      obtain rfl := Option.some.inj ((map_at li).symm.trans hx)
      refine ⟨rfl, _, rfl, q0, rfl, ⟨_, at_o sm⟩, fun D2 hD2 => lc_fun (walk_list (K := K) (a := q0) (xs := o.map vn)) (fun j => decide (o.getD i 0 ≤ o.getD j 0) && decide (o.getD j 0 < o.getD i 0 + b)) (fun j => vn (o.getD j 0)) hD2 (by rw [List.length_map]; omega)
        (fun H4 s4 => at_o (sm.trans s4)) (fun j x H4 H5 Ku Ke lj s4 y ku ke => ?_) (fun H4 s4 at4 => ?_)⟩
      · obtain ⟨rfl, hx⟩ := y
        rw [List.length_map] at lj
        obtain rfl := Option.some.inj ((map_at lj).symm.trans hx)
        refine ⟨rfl, _, rfl, _, rfl, _, _, rfl, rfl, _, rfl, ?_⟩
        refine ite2 (fun c => ?_) fun c => ?_
        · have h1 : o.getD i 0 ≤ o.getD j 0 := by
            have := of_decide_eq_true c
            omega
          refine ⟨_, rfl, _, rfl, _, _, rfl, rfl, _, _, rfl, rfl, _, rfl, ?_⟩
          refine ite2 (fun c => ?_) fun c => ?_
          · have h2 := of_decide_eq_true c
            refine ⟨_, rfl, ku ?_ _ (Same.refl _)⟩
            rw [decide_eq_true h1, decide_eq_true (by omega)]
            rfl
          · have h2 : ¬ o.getD j 0 < o.getD i 0 + b := fun z => c (decide_eq_true (by omega))
            refine ke ?_ _ (Same.refl _)
            rw [decide_eq_false h2, Bool.and_false]
        · have h1 : ¬ o.getD i 0 ≤ o.getD j 0 := fun z => c (decide_eq_true (by omega))
          refine ⟨false, rfl, iteF (ke ?_ _ (Same.refl _))⟩
          rw [decide_eq_false h1, Bool.false_and]
      · rw [List.length_map] at at4
        refine ⟨D2, _, rfl, .inl (SqL.of at4), ?_⟩
        rw [List.length_map, filter_places o fun t => decide (o.getD i 0 ≤ t) && decide (t < o.getD i 0 + b)]
        exact kt _ s4
    · rw [List.length_map] at at2
      have em : (List.range o.length).map (fun i => vn (cnt o (o.getD i 0) b)) = ((List.range o.length).map fun i => cnt o (o.getD i 0) b).map vn := by rw [List.map_map]; rfl
      rw [em] at at2
      refine ⟨_, rfl, D, _, rfl, SqL.of (by rw [at2, map_vn]), by rw [List.length_map, List.length_map, List.length_range]; exact l0, fun m h1 h2 => ?_⟩
      obtain ⟨M, rfl, hM, hall⟩ := max_nat h1 h2
      obtain ⟨j, hj, hno⟩ := index_of hM
      obtain ⟨lt, ej⟩ := List.getElem?_eq_some_iff.mp hj
      rw [List.length_map, List.length_range] at lt
      have eM : cnt o (o.getD j 0) b = M := by rw [← ej, List.getElem_map, List.getElem_range]
      obtain ⟨c1, c2, _⟩ := cnt_facts (b := b) pw (getD_some lt)
      rw [eM] at c1 c2
      have M1 := c2 hb
      have ei : ((j : Int) + (M : Int)) - 1 = ((j + M - 1 : Nat) : Int) := by omega
      refine ⟨_, rfl, _, rfl, _, rfl, .inl ⟨rfl, _, SqL.of at2⟩, _, rfl, D, _, _, j, _, rfl, rfl, SqL.of at2, rfl, all_flat _, by rw [List.getElem?_map, hj]; rfl, eqv_self M, hno, _, rfl, _, _, rfl, rfl, _, _, rfl, rfl, q0, _, _, vn (o.getD (j + M - 1) 0), rfl, rfl, at_o sm, ?_, ?_⟩
      · show atI (o.map vn) ((j : Int) + (M : Int) - 1) = _
        rw [ei]
        exact atI_nat (map_at (by omega))
      · refine ⟨_, rfl, _, _, rfl, rfl, _, _, rfl, rfl, (show 2 ≤ sizeLine by decide), fun p hp => ?_⟩
        refine q _ p M _ (sm.trans (same_new hp)) upd_same ⟨⟨j, _, getD_some lt, eM⟩, fun i f hi => ?_⟩
        refine hall _ (List.mem_map.mpr ⟨i, List.mem_range.mpr (List.getElem?_eq_some_iff.mp hi).1, ?_⟩)
        rw [List.getD_eq_getElem?_getD, hi]
        rfl
def rowOf (H : Hp) (z : Addr) : Nat × Int := match H z with
  | some (.tup [.int M, .int x]) => (M.toNat, x)
  | _ => (0, 0)
theorem rowOf_at {H : Hp} {z : Addr} {M : Nat} {x : Int} (h : H z = some (.tup [vn M, .int x])) : rowOf H z = (M, x) := by
  unfold rowOf
  rw [h]
  rfl
def spWorst (K : PySem.W.Frag) : Sp := fun vs H Q _ => ∃ (a : Addr) (T : List Nat) (m b : Nat), vs = [.ref a, vn m, vn b] ∧ TabAt K H a T ∧ Tab T ∧ 1 ≤ m ∧ m ≤ 24 ∧ 1 ≤ b ∧ b ≤ 400 ∧
  ∀ H' p M x y r, Same H H' → H' p = some (.tup [vn M, x, y]) → Many T m r → IsWorst T m r b M → Q (.ref p) H'
theorem sc52 : FnScope ["table", "word", "ticks", "rows", "most", "k", "outs", "many", "start"] ["table", "word", "ticks"] (defScope (top 52)) := ⟨rfl, rfl, rfl, by decide +kernel, rfl, by decide +kernel, by decide +kernel⟩
theorem maxL_K {X : Cx} (e : X.K = K) (hc : X.calm = true) : CallR X (.builtin "max") (rMax K) := e ▸ cr_max hc
theorem g_worst (d : Df K mg "worst" (top 52) ["table", "word", "ticks"]) (B : Bt mg) (G1 : GF P w K mg base "need_table" 4 (spNeedTab K)) (G2 : GF P w K mg base "need_word" 3 spNeedWord) (G3 : GF P w K mg base "need_ticks" 3 spNeedTicks)
    (G4 : GF P w K mg base "words_of" 3 (spWords K)) (G5 : GF P w K mg base "worst_in" 1 spWorstIn) : GF P w K mg base "worst" 5 (spWorst K) := by
  refine gf_of d sc52 (fun vs H Q E h => ?_) (fun f cdv A outer s H vs Q E hr h => ?_)
  · obtain ⟨a, T, m, b, rfl, _⟩ := h
    rfl
  · obtain ⟨a, T, m, b, rfl, hT, X, m1, hm, b1, hb, q⟩ := h
    have many (tg : Expr) : True := trivial
    refine ⟨_, pss_cons (ps_expr (pe_g G1 hr (pa_cons (pv 0) pa_nil))) (pss_cons (ps_expr (pe_g G2 (hr.mono (by decide)) (pa_cons (pv 1) pa_nil))) (pss_cons (ps_expr (pe_g G3 (hr.mono (by decide)) (pa_cons (pv 2) (pa_cons pe_int pa_nil))))
      (pss_cons (ps_setLc (i := 3) (own := [("outs", 6)]) (g := gName 6) (tt := tYes) rfl sc52.nd rfl rfl (sw_true rfl rfl rfl (by decide +kernel)) (pi_list (pe_g G4 (hr.mono (by decide)) (pa_cons (pv 0) (pa_cons (pv 1) pa_nil))))
        (blkOk_by (N := ["table", "word", "ticks", "rows", "most", "k", "outs", "many", "start"]) (sc := defScope (top 52)) (by decide +kernel)) (fun _ _ _ _ _ => pg_name (i := 6) sc52.nd rfl (Or.inl rfl)) (fun _ _ _ _ _ => pts_nil)
        (fun _ _ _ _ _ => pe_g G5 (hr.mono (by decide)) (pa_cons (pv 6) (pa_cons (pv 2) pa_nil))))
      (pss_cons (ps_set (i := 4) sc52.nd rfl (Or.inl rfl) (pe_callB (cr_max rfl) rfl B.max_ bt_max (pa_cons (pe_lc (own := [("many", 7), ("start", 8)]) (tt := tYes) rfl sc52.nd (pi_list (pv 3))
        (blkOk_by (N := ["table", "word", "ticks", "rows", "most", "k", "outs", "many", "start"]) (sc := defScope (top 52)) (by decide +kernel))
        (fun _ _ _ _ _ => gtup_K (K := K) (n := 2) rfl rfl (pgs_cons (pg_name (i := 7) sc52.nd rfl (Or.inl rfl) (Or.inr rfl)) (pgs_cons (pg_name (i := 8) sc52.nd rfl (Or.inl rfl) (Or.inr rfl)) pgs_nil))) (fun _ _ _ _ _ => pts_nil)
        (fun _ _ _ _ _ => pv 7)) pa_nil)))
      (pss_cons (ps_set (i := 5) sc52.nd rfl (Or.inl rfl) (pe_bm PySem.F.plainAttrs_list PySem.F.slot_list_index PySem.F.type_list_index mt_index (pe_lc (own := [("many", 7), ("start", 8)]) (tt := tYes) rfl sc52.nd (pi_list (pv 3))
        (blkOk_by (N := ["table", "word", "ticks", "rows", "most", "k", "outs", "many", "start"]) (sc := defScope (top 52)) (by decide +kernel))
        (fun _ _ _ _ _ => gtup_K (K := K) (n := 2) rfl rfl (pgs_cons (pg_name (i := 7) sc52.nd rfl (Or.inl rfl) (Or.inr rfl)) (pgs_cons (pg_name (i := 8) sc52.nd rfl (Or.inl rfl) (Or.inr rfl)) pgs_nil))) (fun _ _ _ _ _ => pts_nil)
        (fun _ _ _ _ _ => pv 7)) (pa_cons (pv 4) pa_nil)))
      (pss_one (ps_ret (pe_tup (pa_cons (pv 4) (pa_cons (pv 5) (pa_cons (pe_ix ix_tup (pe_ix ix_list (pv 3) (pv 5) (fun _ _ => rfl)) pe_int (fun _ _ => rfl)) pa_nil))))))))))), ?_⟩
    refine ⟨_, rfl, a, T, rfl, hT, X, fun H1 s1 => ⟨_, rfl, m, rfl, m1, hm, _, rfl, b, 1, rfl, b1, hb, _, rfl, _, rfl, a, T, m, rfl, s1.tup hT, X, hm, fun H2 p r s2 ⟨ps, hp, lp, tell⟩ hM => ?_⟩⟩
    have r9 : r ≤ 9 := Nat.le_trans hM.le X.len
    refine ⟨p, rfl, ⟨_, SqL.of hp⟩, fun D hD => lc_rel (walk_list (K := K) (a := p) (xs := ps.map V.ref)) (fun k y H3 => ∃ z M x, y = .ref z ∧ z ≠ D ∧ H3 z = some (.tup [vn M, .int x]) ∧ Crest (WL T m k) b M)
      (fun i y H3 H4 k ⟨z, M, x, e, n, at_, c⟩ => ⟨z, M, x, e, n, k _ _ at_ n, c⟩) hD (by rw [List.length_map, lp]; omega) (fun H3 s3 => SqL.of (s3 _ _ hp)) (fun k x H3 H4 Kt lk s3 ⟨L, hL⟩ y kt => ?_) (fun H3 ys s3 at3 len tl => ?_)⟩
    · obtain ⟨rfl, hx⟩ := y
      rw [List.getElem?_map] at hx
      obtain ⟨z, hz, rfl⟩ := Option.map_eq_some_iff.mp hx
      refine ⟨rfl, _, rfl, _, rfl, z, WL T m k, b, rfl, s3 _ _ (tell k z hz), WL_lt X m k, by rw [WL_len]; omega, by rw [WL_len]; omega, by omega, fun H5 p5 M x s5 h5 c5 => ?_⟩
      refine kt _ _ s5 ⟨p5, M, x, rfl, fun e => ?_, h5, c5⟩
      rw [e, s5 _ _ hL] at h5
      cases h5
    · rw [List.length_map, lp] at len
      obtain ⟨zs, rfl, lz, tz⟩ := refs_of (R := fun k y => ∃ z M x, y = .ref z ∧ z ≠ D ∧ H3 z = some (.tup [vn M, .int x]) ∧ Crest (WL T m k) b M) tl fun i v ⟨z, M, x, e, _⟩ => ⟨z, e⟩
      rw [len] at lz
      -- what the rows tell
      obtain ⟨Ms, hMs⟩ : ∃ Ms : Nat → Nat × Int, ∀ k z, zs[k]? = some z → H3 z = some (.tup [vn (Ms k).1, .int (Ms k).2]) ∧ Crest (WL T m k) b (Ms k).1 := by
        refine ⟨fun k => rowOf H3 (zs.getD k 0), fun k z hz => ?_⟩
        obtain ⟨z', M, x, e, _, h3, c⟩ := tz k z hz
        cases e
        have e2 : zs.getD k 0 = z := by rw [List.getD_eq_getElem?_getD, hz]; rfl
        show H3 z = some (.tup [vn (rowOf H3 (zs.getD k 0)).1, .int (rowOf H3 (zs.getD k 0)).2]) ∧ Crest (WL T m k) b (rowOf H3 (zs.getD k 0)).1
        rw [e2, rowOf_at h3]
        exact ⟨h3, c⟩
      have step : ∀ (H5 : Hp) (i : Nat) (x : V), Same H3 H5 → i < zs.length → (zs.map V.ref)[i]? = some x → ∃ z, x = .ref z ∧ H5 z = some (.tup [vn (Ms i).1, .int (Ms i).2]) := fun H5 i x s5 li hx => by
        rw [List.getElem?_map] at hx
        obtain ⟨z, hz, rfl⟩ := Option.map_eq_some_iff.mp hx
        exact ⟨z, rfl, s5 _ _ (hMs i z hz).1⟩
      refine ⟨_, rfl, D, rfl, ⟨_, SqL.of at3⟩, fun D2 hD2 => lc_map (walk_list (K := K) (a := D) (xs := zs.map V.ref)) (fun i => vn (Ms i).1) hD2 (by rw [List.length_map]; omega) (fun H5 s5 => SqL.of (s5 _ _ at3)) (fun i x H5 H6 Kt li s5 y kt => ?_) (fun H5 s5 at5 => ?_)⟩
      · obtain ⟨rfl, hx⟩ := y
        rw [List.length_map] at li
        obtain ⟨z, rfl, hz⟩ := step _ i x s5 li hx
        exact ⟨z, _, rfl, SqT.of hz, rfl, _, _, rfl, _, _, rfl, rfl, rfl, _, rfl, kt _ (Same.refl _)⟩
      have ev : (List.range (zs.map V.ref).length).map (fun i => vn (Ms i).1) = ((List.range r).map fun i => (Ms i).1).map vn := by rw [List.length_map, lz, List.map_map]; rfl
      rw [ev] at at5
      refine ⟨D2, _, rfl, SqL.of (by rw [at5, map_vn]), by rw [List.length_map, List.length_map, List.length_range]; exact hM.pos, fun mx h1 h2 => ?_⟩
      obtain ⟨M, rfl, iM, hall⟩ := max_nat h1 h2
      refine ⟨_, rfl, D, rfl, ⟨_, SqL.of (s5 _ _ at3)⟩, fun D3 hD3 => lc_map (walk_list (K := K) (a := D) (xs := zs.map V.ref)) (fun i => vn (Ms i).1) hD3 (by rw [List.length_map]; omega) (fun H7 s7 => SqL.of (s7 _ _ (s5 _ _ at3))) (fun i x H7 H8 Kt li s7 y kt => ?_) (fun H7 s7 at7 => ?_)⟩
      · obtain ⟨rfl, hx⟩ := y
        rw [List.length_map] at li
        obtain ⟨z, rfl, hz⟩ := step _ i x (s5.trans s7) li hx
        exact ⟨z, _, rfl, SqT.of hz, rfl, _, _, rfl, _, _, rfl, rfl, rfl, _, rfl, kt _ (Same.refl _)⟩
      rw [ev] at at7
      obtain ⟨j, hj, hno⟩ := index_of iM
      obtain ⟨lt, ej⟩ := List.getElem?_eq_some_iff.mp hj
      rw [List.length_map, List.length_range] at lt
      have eM : (Ms j).1 = M := by rw [← ej, List.getElem_map, List.getElem_range]
      have hz : zs[j]? = some (zs[j]'(by omega)) := List.getElem?_eq_getElem _
      have rowz := (s5.trans s7) _ _ (hMs j _ hz).1
      refine ⟨.inl ⟨rfl, _, SqL.of at7⟩, _, rfl, D3, _, _, j, _, rfl, rfl, SqL.of at7, rfl, all_flat _, by rw [List.getElem?_map, hj]; rfl, eqv_self M, hno, ?_⟩
      refine ⟨_, rfl, _, rfl, _, rfl, _, rfl, D, _, (j : Int), .ref (zs[j]'(by omega)), rfl, rfl, SqL.of (s7 _ _ (s5 _ _ at3)), atI_nat (by rw [List.getElem?_map, hz]; rfl), ?_⟩
      refine ⟨_, _, 1, .int (Ms j).2, rfl, rfl, SqT.of rowz, rfl, (show 3 ≤ sizeLine by decide), fun p9 hp9 => ?_⟩
      refine q _ p9 M _ _ r (((s1.trans (s2.trans s3)).trans (s5.trans s7)).trans (same_new hp9)) upd_same hM ⟨?_, fun k i f hk hi => ?_⟩
      · obtain ⟨i, f, hi, hc⟩ := (hMs j _ hz).2.one
        exact ⟨j, i, f, lt, hi, hc.trans eM⟩
      · have hk' : zs[k]? = some (zs[k]'(by omega)) := List.getElem?_eq_getElem _
        exact Nat.le_trans ((hMs k _ hk').2.all i f hi) (hall _ (List.mem_map.mpr ⟨k, List.mem_range.mpr hk, rfl⟩))
def spLongest (K : PySem.W.Frag) : Sp := fun vs H Q _ => ∃ (a : Addr) (T : List Nat) (m e : Nat), vs = [.ref a, vn m, vn e] ∧ TabAt K H a T ∧ Tab T ∧ 1 ≤ m ∧ m ≤ 24 ∧ e ≤ 24 ∧
  (e < m → ∀ H' g r, Same H H' → Many T m r → Least T m r e g → Q (.int g) H') ∧ (m ≤ e → ∀ H', Same H H' → Q .non H')
theorem sc53 : FnScope ["table", "word", "most"] ["table", "word", "most"] (defScope (top 53)) := ⟨rfl, rfl, rfl, by decide +kernel, rfl, by decide +kernel, by decide +kernel⟩
theorem g_longest (d : Df K mg "longest" (top 53) ["table", "word", "most"]) (G1 : GF P w K mg base "need_table" 4 (spNeedTab K)) (G2 : GF P w K mg base "need_word" 3 spNeedWord) (G3 : GF P w K mg base "need_most" 3 spNeedMost)
    (G4 : GF P w K mg base "guard_of" 4 (spGuard K)) : GF P w K mg base "longest" 5 (spLongest K) := by
  refine gf_of d sc53 (fun vs H Q E h => ?_) (fun f cdv A outer s H vs Q E hr h => ?_)
  · obtain ⟨a, T, m, e, rfl, _⟩ := h
    rfl
  · obtain ⟨a, T, m, e, rfl, hT, X, m1, hm, he, q1, q2⟩ := h
    refine ⟨_, pss_cons (ps_expr (pe_g G1 hr (pa_cons (pv 0) pa_nil))) (pss_cons (ps_expr (pe_g G2 (hr.mono (by decide)) (pa_cons (pv 1) pa_nil))) (pss_cons (ps_expr (pe_g G3 (hr.mono (by decide)) (pa_cons (pv 2) pa_nil)))
      (pss_one (ps_ret (pe_ifExp (pt_cmpR op_lt (pv 2) (pv 1) (nomark _)) (pe_ix ix_list (pe_g G4 hr (pa_cons (pv 0) (pa_cons (pv 1) pa_nil))) (pv 2) (fun _ _ => rfl)) pe_non))))), ?_⟩
    refine ⟨_, rfl, a, T, rfl, hT, X, fun H1 s1 => ⟨_, rfl, m, rfl, m1, hm, _, rfl, e, rfl, he, _, rfl, _, rfl, _, _, rfl, rfl, _, rfl, ?_⟩⟩
    refine ite2 (fun c => ?_) fun c => ?_
    · have lt : e < m := by
        have := of_decide_eq_true c
        omega
      refine ⟨_, rfl, _, rfl, a, T, m, rfl, s1.tup hT, X, hm, fun H2 p r gs s2 hM hp hg => ?_⟩
      refine ⟨_, rfl, p, _, (e : Int), .int (gs e), rfl, rfl, SqL.of hp, atI_nat (by rw [List.getElem?_map, List.getElem?_range lt]; rfl), q1 lt _ _ r (s1.trans s2) hM (hg e lt)⟩
    · have ge : m ≤ e := Nat.le_of_not_lt fun z => c (decide_eq_true (by omega))
      exact q2 ge _ s1
end
/-! ## a tally as a dict -/
theorem get_val : ∀ (ps : List (Int × Int)) (k : Int), (valV (ps.map intKV) (Sum.inl k)).getD (.int 0) = .int (valOf ps k)
  | [], _ => rfl
  | p :: r, k => by
    by_cases e : p.1 = k
    · rw [List.map_cons, valV_pos (show (intKV p).1 = Sum.inl k from congrArg Sum.inl e)]
      unfold valOf
      rw [List.find?_cons_of_pos (by simpa using e)]
      rfl
    · rw [List.map_cons, valV_neg (fun z => e (Sum.inl.inj z)), get_val r k]
      unfold valOf
      rw [List.find?_cons_of_neg (by simpa using e)]
theorem any_key (ps : List (Int × Int)) (k : Int) : ((ps.map intKV).any fun kv => decide (kv.1 = Sum.inl k)) = decide (k ∈ ps.map (·.1)) := by
  (rw [Bool.eq_iff_iff, List.any_eq_true, decide_eq_true_eq])
  constructor
  · rintro ⟨x, hx, e⟩
    obtain ⟨p, hp, rfl⟩ := List.mem_map.mp hx
    exact List.mem_map.mpr ⟨p, hp, Sum.inl.inj (of_decide_eq_true e)⟩
  · intro h
    (obtain ⟨p, hp, e⟩ := List.mem_map.mp h)
    exact ⟨intKV p, List.mem_map.mpr ⟨p, hp, rfl⟩, decide_eq_true (congrArg Sum.inl e)⟩
theorem bump_out : ∀ {ps : List (Int × Int)} {k : Int}, k ∉ ps.map (·.1) → bump ps k = ps ++ [(k, 1)] ∧ valOf ps k = 0
  | [], _, _ => ⟨rfl, rfl⟩
  | p :: r, k, h => by
    have e : ¬ p.1 = k := fun z => h (by rw [List.map_cons, z]; exact List.mem_cons_self)
    obtain ⟨h1, h2⟩ := bump_out (ps := r) (k := k) fun z => h (List.mem_cons_of_mem _ z)
    unfold valOf at h2 ⊢
    rw [List.find?_cons_of_neg (by simpa using e)]
    refine ⟨?_, h2⟩
    unfold bump
    rw [if_neg e, h1]
    rfl
theorem bump_in : ∀ {ps : List (Int × Int)} {k : Int}, (ps.map (·.1)).Nodup → k ∈ ps.map (·.1) → bump ps k = ps.map fun p => if p.1 = k then (k, valOf ps k + 1) else p
  | [], _, _, h => by simp at h
  | p :: r, k, nd, h => by
    (rw [List.map_cons, List.nodup_cons] at nd)
    unfold bump
    by_cases e : p.1 = k
    · have v : valOf (p :: r) k = p.2 := by
        unfold valOf
        rw [List.find?_cons_of_pos (by simpa using e)]
        rfl
      rw [if_pos e, List.map_cons, if_pos e, v]
      congr 1
      refine (List.map_id r).symm.trans (List.map_congr_left fun q hq => ?_)
      rw [if_neg]
      · rfl
      · intro z
        exact nd.1 (by rw [e, ← z]; exact List.mem_map.mpr ⟨q, hq, rfl⟩)
    · have v : valOf (p :: r) k = valOf r k := by
        unfold valOf
        rw [List.find?_cons_of_neg (by simpa using e)]
      rw [if_neg e, List.map_cons, if_neg e, v, bump_in nd.2 ?_]
      rw [List.map_cons] at h
      (rcases List.mem_cons.mp h with z | z)
      · exact absurd z.symm e
      · exact z
theorem put_bump {ps : List (Int × Int)} (nd : (ps.map (·.1)).Nodup) (k : Int) : putK (ps.map intKV) (Sum.inl k) (.int (valOf ps k + 1)) = (bump ps k).map intKV := by
  unfold putK
  rw [any_key]
  by_cases h : k ∈ ps.map (·.1)
  · rw [if_pos (decide_eq_true h), bump_in nd h, List.map_map, List.map_map]
    (refine List.map_congr_left fun p _ => ?_)
    by_cases e : p.1 = k
    · show (if (Sum.inl p.1 : Key) = Sum.inl k then ((Sum.inl p.1 : Key), V.int (valOf ps k + 1)) else intKV p) = intKV (if p.1 = k then (k, valOf ps k + 1) else p)
      rw [if_pos (congrArg Sum.inl e), if_pos e, e]
      rfl
    · show (if (Sum.inl p.1 : Key) = Sum.inl k then ((Sum.inl p.1 : Key), V.int (valOf ps k + 1)) else intKV p) = intKV (if p.1 = k then (k, valOf ps k + 1) else p)
      rw [if_neg (fun z => e (Sum.inl.inj z)), if_neg e]
  · rw [if_neg (by rw [decide_eq_false h]; exact Bool.false_ne_true), (bump_out h).1, (bump_out h).2, List.map_append]
    rfl
theorem bump_len : ∀ (ps : List (Int × Int)) (k : Int), (bump ps k).length ≤ ps.length + 1
  | [], _ => Nat.le_refl _
  | p :: r, k => by
    unfold bump
    split
    · simp
    · have := bump_len r k
      simp only [List.length_cons]
      omega
theorem tally_len (L : List Int) : (tally L).length ≤ L.length := by
  have go : ∀ (L : List Int) (ps : List (Int × Int)), (L.foldl bump ps).length ≤ ps.length + L.length := by
    intro L
    induction L with
    | nil => intro ps; exact Nat.le_refl _
    | cons x r ih =>
      intro ps
      have h1 := ih (bump ps x)
      have h2 := bump_len ps x
      (rw [List.foldl_cons, List.length_cons])
      omega
  have := go L []
  simpa [tally] using this
/-- the words of the things -/
abbrev wordsOf (m : Nat) (L : List Nat) : List Int := L.map fun t => ((t / m : Nat) : Int)
section
variable {P : Program} {w : World} {K : PySem.W.Frag} {base : Heap} {mg : Str → Option Value}
/-! ## lost -/
def spLost (K : PySem.W.Frag) : Sp := fun vs H Q _ => ∃ (a : Addr) (T : List Nat) (m s b : Nat), vs = [.ref a, vn m, vn s, vn b] ∧ TabAt K H a T ∧ Tab T ∧ 1 ≤ m ∧ m ≤ 24 ∧ far T ≤ s ∧ s ≤ 4000 ∧ b ≤ 400 ∧
  ∀ (H' : Hp) (p : Addr) (ts : List Addr) (qs : List (Int × Int)) (L : List Nat), Same H H' → H' p = some (.tup (ts.map V.ref)) → Tells H' ts qs → Asc qs → L.length = b → (∀ j, j < b → out T (L.getD j 0) = s + j) → qs.Perm (tally (wordsOf m L)) → Q (.ref p) H'
theorem sc50 : FnScope ["table", "word", "start", "ticks", "found", "tick", "k"] ["table", "word", "start", "ticks"] (defScope (top 50)) := ⟨rfl, rfl, rfl, by decide +kernel, rfl, by decide +kernel, by decide +kernel⟩
theorem g_lost (d : Df K mg "lost" (top 50) ["table", "word", "start", "ticks"]) (B : Bt mg) (G1 : GF P w K mg base "need_table" 4 (spNeedTab K)) (G2 : GF P w K mg base "need_word" 3 spNeedWord) (G3 : GF P w K mg base "need_integer" 2 spNeedInt)
    (G4 : GF P w K mg base "need_ticks" 3 spNeedTicks) (G5 : GF P w K mg base "thing_of" 3 (spThing K)) : GF P w K mg base "lost" 5 (spLost K) := by
  refine gf_of d sc50 (fun vs H Q E h => ?_) (fun f cdv A outer s H vs Q E hr h => ?_)
  · obtain ⟨a, T, m, s, b, rfl, _⟩ := h
    rfl
  · obtain ⟨a, T, m, s0, b, rfl, hT, X, m1, hm, hs, hs4, hb, q⟩ := h
    have hu : (CxD P w K mg base ["table", "word", "start", "ticks", "found", "tick", "k"] "lost" (top 50) f cdv A outer s H E).A.units + 1 < cLine := by have := hr.units; show (A.deeper _).units + 1 < cLine; omega
    refine ⟨_, pss_cons (ps_expr (pe_g G1 hr (pa_cons (pv 0) pa_nil))) (pss_cons (ps_expr (pe_g G2 (hr.mono (by decide)) (pa_cons (pv 1) pa_nil))) (pss_cons (ps_expr (pe_g G3 (hr.mono (by decide)) (pa_cons (pv 2) pa_nil)))
      (pss_cons (ps_expr (pe_g G4 (hr.mono (by decide)) (pa_cons (pv 3) (pa_cons pe_int pa_nil)))) (pss_cons (ps_set (i := 4) sc50.nd rfl (Or.inl rfl) pe_dnewK)
      (pss_cons (ps_for PassesOwn.never rfl (pi_range2 rfl B.range_ (pa_cons (pv 2) (pa_cons (pe_op op_add (pv 2) (pv 3)) pa_nil))) (pg_name (i := 5) sc50.nd rfl (Or.inl rfl))
        (pss_cons (ps_set (i := 6) sc50.nd rfl (Or.inl rfl) (pe_op op_fdivNN (pe_g G5 (hr.mono (by decide)) (pa_cons (pv 0) (pa_cons (pv 5) pa_nil))) (pv 1)))
          (pss_one (ps_dput hu (pv 4) (pv 6) (pe_op op_add (pe_dget2 hu (pv 4) (pv 6) pe_int ⟨rfl, rfl, rfl, rfl⟩) pe_int) rfl))))
      (pss_one (ps_ret (pe_callTy call_tuple_of rfl B.tuple_ bt_tuple (pa_cons (pe_sortItems rfl (pv 4) rfl B.sorted_ bt_sorted) pa_nil))))))))), ?_⟩
    refine ⟨_, rfl, a, T, rfl, hT, X, fun H1 s1 => ⟨_, rfl, m, rfl, m1, hm, _, rfl, _, rfl, _, rfl, b, 0, rfl, Nat.zero_le _, hb, fun p hp => ?_⟩⟩
    refine ⟨_, rfl, _, rfl, _, rfl, _, _, rfl, rfl, _, _, rfl, ⟨by omega, by omega, by omega, by omega⟩, ?_⟩
    have eb : ((s0 : Int) + (b : Int) - (s0 : Int)).toNat = b := by omega
    rw [eb]
    refine for_it walk_range (fun i σ H2 => Same H1 H2 ∧ ∃ (x y : Option V) (L : List Nat), σ = [some (.ref a), some (vn m), some (vn s0), some (vn b), some (.ref p), x, y] ∧ L.length = i ∧ (∀ j, j < i → out T (L.getD j 0) = s0 + j) ∧ H2 p = some (.dK ((tally (wordsOf m L)).map intKV)))
      ⟨same_new hp, none, none, [], rfl, rfl, fun j hj => absurd hj (Nat.not_lt_zero j), upd_same⟩ (fun _ _ _ _ _ => trivial) ?_ ?_
    · rintro i x σ H2 H3 lt ⟨s2, x0, y0, L, rfl, lL, hL, at2⟩ ⟨rfl, rfl⟩
      refine ⟨_, rfl, _, rfl, a, T, s0 + i, rfl, (s1.trans s2).tup hT, X, by omega, fun t ht => ?_⟩
      refine ⟨_, rfl, t, m, rfl, rfl, ⟨m1, by omega⟩, ?_⟩
      refine ⟨_, rfl, p, rfl, .inl ⟨_, .inl at2⟩, _, rfl, _, DGet.k (k := Sum.inl ((t / m : Nat) : Int)) at2, (valOf (tally (wordsOf m L)) ((t / m : Nat) : Int)), 1, get_val _ _, rfl, _, rfl, _, rfl, p, _, rfl, DPut.k (k := Sum.inl ((t / m : Nat) : Int)) at2 ?_, ?_⟩
      · have l1 := tally_len (wordsOf m L)
        rw [List.length_map] at l1
        (rw [List.length_map, sizeLine_eq])
        omega
      · refine ⟨fun b' o e => ?_, _, _, L ++ [t], rfl, by rw [List.length_append, lL]; rfl, fun j hj => ?_, ?_⟩
        · rw [upd_ne (ne_of_none e hp)]
          exact s2 _ _ e
        · by_cases ej : j = i
          · subst ej
            rw [List.getD_eq_getElem?_getD, List.getElem?_append_right (by omega), lL, Nat.sub_self]
            exact ht
          · rw [List.getD_eq_getElem?_getD, List.getElem?_append_left (by omega), ← List.getD_eq_getElem?_getD]
            exact hL j (by omega)
        · rw [upd_same, put_bump (tally_facts _).1, ← tally_snoc]
          simp [wordsOf]
    · rintro σ H2 ⟨s2, x0, y0, L, rfl, lL, hL, at2⟩
      refine ⟨_, rfl, p, _, rfl, at2, fun H3 r ts qs s3 hr0 h3 pm asc tl => ⟨r, _, rfl, .inl ⟨SqL.of h3, fun l hl => ?_⟩⟩⟩
      exact q _ l ts qs L (s1.trans (s2.trans (s3.trans (same_new hl)))) upd_same (tells_same (same_new hl) tl) asc lL hL pm
end
/-! ## objects -/
/-- a new thing, the heap then told by what it holds -/
theorem al {H : Hp} {o : HO} {Q : VK} (h : ∀ p H1, H p = none → Same H H1 → H1 p = some o → Q (.ref p) H1) : ∀ p, H p = none → Q (.ref p) (upd H p o) := fun p hp => h p _ hp (same_new hp) upd_same
theorem Keep.low {W : List Addr} {H H' : Hp} {a : Addr} (k : Keep W H H') (h : H' a = none) (ha : a ∉ W) : H a = none := by
  cases e : H a with
  | none => rfl
  | some o => exact absurd ((k a o e ha).symm.trans h) (by simp)
theorem Keep.same {W : List Addr} {H H1 H2 : Hp} (k : Keep W H H1) (s : Same H1 H2) : Keep W H H2 := fun b o e n => s _ _ (k b o e n)
/-- instances of C are plain; of these names no class of theirs tells -/
structure Ob (K : PySem.W.Frag) (C : Addr) (ns : List Str) : Prop where
  cls : Cls K C
  no : ∀ f ∈ ns, NoAttr K C f
/-- a field of the instance in slot i is set -/
theorem fld_step {K : PySem.W.Frag} {ns : List Str} {i : Nat} {f : Str} {v : V} {σ : L2.St} {H : Hp} {Q : L2.St → Hp → Prop} {x C dx : Addr} {fs : List (Str × V)} (O : Ob K C ns) (h0 : σ[i]? = some (some (.ref x))) (hx : H x = some (.ins C dx fs)) (hf : f ∈ ns) (hl : fs.length < 1000)
    (q : ∀ H1, Keep [x] H H1 → (∀ b, b ≠ x → H1 b = H b) → H1 x = some (.ins C dx (putF f v fs)) → Q σ H1) : gFld K (tVar i) f v σ H Q := by
  refine ⟨_, h0, x, C, dx, fs, rfl, hx, O.cls, O.no f hf, hl, q _ (fun b o e n => ?_) (fun b n => upd_ne n) upd_same⟩
  rw [upd_ne (fun z => n (List.mem_singleton.mpr z))]
  exact e

theorem pl {f : Str} {v : V} : ∀ {fs : List (Str × V)} {n : Nat}, fs.length < n → (putF f v fs).length < n + 1
  | [], n, h => Nat.succ_lt_succ h
  | (g, x) :: r, n, h => by
    unfold putF
    split
    · exact Nat.lt_succ_of_lt h
    · cases n with
      | zero => exact absurd h (Nat.not_lt_zero _)
      | succ n => exact Nat.succ_lt_succ (pl (fs := r) (Nat.lt_of_succ_lt_succ h))
structure Mkc (K : PySem.W.Frag) (mg : Str → Option Value) (x : Str) (C : Addr) : Prop where
  makes : (PySem.W.makesIn K C = true)
  kp : (PySem.W.keepIn K (.ref C) = true)
  at_ : mg x = some (.ref C)
section
variable {X : Cx} {k : Nat} {sp : Sp} {x : Str} {C : Addr} {e : Expr} {es : List Expr} {t : TA} {p pos : Pos}
/-- C(e, ..) -/
theorem pe_mk (M : MF X.prog X.w X.K X.mg X.base C "__init__" k sp) (c : Mkc X.K X.mg x C) (hr : Room (k + 1) X.A) (ha : PA X (e :: es) t) (hg : Gl X x := by rfl) (hdb : (x == ("__debug__" : Str)) = false := by decide)
    (he : starEach (e :: es) X.env = (false, eval e X.env) :: starEach es X.env := by rfl) (hpl : (backTo pos (starEach es X.env)).any (·.1) = false := by rfl) : PE X (.Call (.Name x p) (e :: es) [] pos) (StX.tMakeR C sp E0 t) := by
  obtain ⟨f, F, m⟩ := M
  exact StX.pe_makeR ⟨c.makes, m.at_, m.fn, c.kp⟩ F hr hg c.at_ pass0 ha hdb he hpl
end
abbrev standNs : List Str := ["own", "begin", "coming", "ins", "outs", "due", "cuts", "gone", "many", "later"]
def stF (own begin coming ins outs due cuts gone many later : V) : List (Str × V) := [("own", own), ("begin", begin), ("coming", coming), ("ins", ins), ("outs", outs), ("due", due), ("cuts", cuts), ("gone", gone), ("many", many), ("later", later)]
section
variable {P : Program} {w : World} {K : PySem.W.Frag} {base : Heap} {mg : Str → Option Value}
def spInit (C : Addr) : Sp := fun vs H Q _ => ∃ (x dx : Addr) (o : V), vs = [.ref x, o] ∧ H x = some (.ins C dx []) ∧
  ∀ (H' : Hp) (c li lo dd cu go dl : Addr), Keep [x] H H' → H' x = some (.ins C dx (stF o (.int 0) (.ref c) (.ref li) (.ref lo) (.ref dd) (.ref cu) (.ref go) (.int 0) (.ref dl))) →
    H' c = some (.tup []) → H' li = some (.lst []) → H' lo = some (.lst []) → H' dd = some (.dK []) → H' cu = some (.tup []) → H' go = some (.tup []) → H' dl = some (.dK []) → li ≠ lo → dd ≠ dl → H li = none → H lo = none → H dd = none → H dl = none → Q .non H'
theorem sc33 : FnScope ["self", "own"] ["self", "own"] (defScope (inClass (top 33) 0)) := ⟨rfl, rfl, rfl, by decide +kernel, rfl, by decide +kernel, by decide +kernel⟩
theorem m_stand {C : Addr} (O : Ob K C standNs) (d : Dm K C "__init__" "Stand.__init__" (inClass (top 33) 0) ["self", "own"]) : MF P w K mg base C "__init__" 1 (spInit C) := by
  refine mf_of d sc33 (fun vs H Q E h => ?_) (fun f cdv A outer s H vs Q E hr h => ?_)
  · obtain ⟨x, dx, o, rfl, _⟩ := h
    rfl
  · obtain ⟨x, dx, o, rfl, hx, q⟩ := h
    refine ⟨_, pss_cons (ps_asg (pe_tup (pa_cons (pv 1) (pa_cons pe_int (pa_cons (pe_tup pa_nil) pa_nil)))) (pg_tup rfl (pgs_cons (pg_fld (pv 0)) (pgs_cons (pg_fld (pv 0)) (pgs_cons (pg_fld (pv 0)) pgs_nil)))))
      (pss_cons (ps_asg (pe_tup (pa_cons (pe_lst pa_nil) (pa_cons (pe_lst pa_nil) (pa_cons pe_dnewK pa_nil)))) (pg_tup rfl (pgs_cons (pg_fld (pv 0)) (pgs_cons (pg_fld (pv 0)) (pgs_cons (pg_fld (pv 0)) pgs_nil)))))
      (pss_one (ps_asg (pe_tup (pa_cons (pe_tup pa_nil) (pa_cons (pe_tup pa_nil) (pa_cons pe_int (pa_cons pe_dnewK pa_nil))))) (pg_tup rfl (pgs_cons (pg_fld (pv 0)) (pgs_cons (pg_fld (pv 0)) (pgs_cons (pg_fld (pv 0)) (pgs_cons (pg_fld (pv 0)) pgs_nil)))))))), ?_⟩
    have off : ∀ {H2 H3 : Hp} {a : Addr} {u : HO}, Keep [x] H2 H3 → a ≠ x → H2 a = some u → H3 a = some u := fun k n e => k _ _ e (by simpa using n)
    have new : ∀ {H2 : Hp} {a : Addr} {u : HO}, H2 x = some u → H2 a = none → a ≠ x := fun e n z => by rw [z, e] at n; cases n
    refine ⟨_, rfl, Nat.zero_le _, ?_⟩
    intro c hc
    have s1 := same_new (o := .tup []) hc
    have ec : upd H c (.tup []) c = some (.tup []) := upd_same
    generalize upd H c (.tup []) = H1 at s1 ec ⊢
    refine ⟨(show 3 ≤ sizeLine by decide), ?_⟩
    intro t1 ht1
    have s2 := same_new (o := .tup [o, .int 0, .ref c]) ht1
    have et1 : upd H1 t1 (.tup [o, .int 0, .ref c]) t1 = some (.tup [o, .int 0, .ref c]) := upd_same
    generalize upd H1 t1 (.tup [o, .int 0, .ref c]) = H2 at s2 et1 ⊢
    refine ⟨t1, _, rfl, SqT.of et1, rfl, _, _, rfl, ?_⟩
    have cx := new hx hc
    refine fld_step O rfl (s2 _ _ (s1 _ _ hx)) (by decide) (by repeat' (first | decide | refine pl ?_)) fun H3 k3 _ e3 => ⟨_, _, rfl, fld_step O rfl e3 (by decide) (by repeat' (first | decide | refine pl ?_)) fun H4 k4 _ e4 => ⟨_, _, rfl, fld_step O rfl e4 (by decide) (by repeat' (first | decide | refine pl ?_)) fun H5 k5 _ e5 => ⟨rfl, ?_⟩⟩⟩
    have c5 := off k5 cx (off k4 cx (off k3 cx (s2 _ _ ec)))
    have kk5 : Keep [x] H H5 := ((((Keep.of s1).same s2).trans k3).trans k4).trans k5
    clear k3 k4 k5 e3 e4 s1 s2 et1 ht1 ec
    refine ⟨Nat.zero_le _, ?_⟩
    intro li hli
    have s6 := same_new (o := .lst []) hli
    have eli : upd H5 li (.lst []) li = some (.lst []) := upd_same
    generalize upd H5 li (.lst []) = H6 at s6 eli ⊢
    refine ⟨Nat.zero_le _, ?_⟩
    intro lo hlo
    have s7 := same_new (o := .lst []) hlo
    have elo : upd H6 lo (.lst []) lo = some (.lst []) := upd_same
    generalize upd H6 lo (.lst []) = H7 at s7 elo ⊢
    intro dd hdd
    have s8 := same_new (o := .dK []) hdd
    have edd : upd H7 dd (.dK []) dd = some (.dK []) := upd_same
    generalize upd H7 dd (.dK []) = H8 at s8 edd ⊢
    refine ⟨(show 3 ≤ sizeLine by decide), ?_⟩
    intro t2 ht2
    have s9 := same_new (o := .tup [.ref li, .ref lo, .ref dd]) ht2
    have et2 : upd H8 t2 (.tup [.ref li, .ref lo, .ref dd]) t2 = some (.tup [.ref li, .ref lo, .ref dd]) := upd_same
    generalize upd H8 t2 (.tup [.ref li, .ref lo, .ref dd]) = H9 at s9 et2 ⊢
    refine ⟨t2, _, rfl, SqT.of et2, rfl, _, _, rfl, ?_⟩
    have x5 := s9 _ _ (s8 _ _ (s7 _ _ (s6 _ _ e5)))
    have nlo := ne_of_none eli hlo
    have lix := new e5 hli
    have lox := new (s6 _ _ e5) hlo
    have ddx := new (s7 _ _ (s6 _ _ e5)) hdd
    refine fld_step O rfl x5 (by decide) (by repeat' (first | decide | refine pl ?_)) fun H10 k10 _ e10 => ⟨_, _, rfl, fld_step O rfl e10 (by decide) (by repeat' (first | decide | refine pl ?_)) fun H11 k11 _ e11 => ⟨_, _, rfl, fld_step O rfl e11 (by decide) (by repeat' (first | decide | refine pl ?_)) fun H12 k12 _ e12 => ⟨rfl, ?_⟩⟩⟩
    have k9 : Keep [x] H9 H12 := (k10.trans k11).trans k12
    have li12 := off k9 lix (s9 _ _ (s8 _ _ (s7 _ _ eli)))
    have lo12 := off k9 lox (s9 _ _ (s8 _ _ elo))
    have dd12 := off k9 ddx (s9 _ _ edd)
    have fli := kk5.low hli (by simpa using lix)
    have flo := (kk5.same s6).low hlo (by simpa using lox)
    have fdd := ((kk5.same s6).same s7).low hdd (by simpa using ddx)
    have kk9 : Keep [x] H5 H12 := ((((Keep.of s6).same s7).same s8).same s9).trans k9
    have c12 := off kk9 cx c5
    clear k9 k10 k11 k12 e10 e11 s6 s7 s8 s9
    refine ⟨Nat.zero_le _, ?_⟩
    intro cu hcu
    have s13 := same_new (o := .tup []) hcu
    have ecu : upd H12 cu (.tup []) cu = some (.tup []) := upd_same
    generalize upd H12 cu (.tup []) = H13 at s13 ecu ⊢
    refine ⟨Nat.zero_le _, ?_⟩
    intro go hgo
    have s14 := same_new (o := .tup []) hgo
    have ego : upd H13 go (.tup []) go = some (.tup []) := upd_same
    generalize upd H13 go (.tup []) = H14 at s14 ego ⊢
    intro dl hdl
    have s15 := same_new (o := .dK []) hdl
    have edl : upd H14 dl (.dK []) dl = some (.dK []) := upd_same
    generalize upd H14 dl (.dK []) = H15 at s15 edl ⊢
    refine ⟨(show 4 ≤ sizeLine by decide), ?_⟩
    intro t3 ht3
    have s16 := same_new (o := .tup [.ref cu, .ref go, .int 0, .ref dl]) ht3
    have et3 : upd H15 t3 (.tup [.ref cu, .ref go, .int 0, .ref dl]) t3 = some (.tup [.ref cu, .ref go, .int 0, .ref dl]) := upd_same
    generalize upd H15 t3 (.tup [.ref cu, .ref go, .int 0, .ref dl]) = H16 at s16 et3 ⊢
    refine ⟨t3, _, rfl, SqT.of et3, rfl, _, _, rfl, ?_⟩
    have x12 := s16 _ _ (s15 _ _ (s14 _ _ (s13 _ _ e12)))
    have cux := new e12 hcu
    have gox := new (s13 _ _ e12) hgo
    have dlx := new (s14 _ _ (s13 _ _ e12)) hdl
    refine fld_step O rfl x12 (by decide) (by repeat' (first | decide | refine pl ?_)) fun H17 k17 _ e17 => ⟨_, _, rfl, fld_step O rfl e17 (by decide) (by repeat' (first | decide | refine pl ?_)) fun H18 k18 _ e18 => ⟨_, _, rfl, fld_step O rfl e18 (by decide) (by repeat' (first | decide | refine pl ?_)) fun H19 k19 _ e19 => ⟨_, _, rfl, fld_step O rfl e19 (by decide) (by repeat' (first | decide | refine pl ?_)) fun H20 k20 _ e20 => ⟨rfl, ?_⟩⟩⟩⟩
    have k16 : Keep [x] H16 H20 := ((k17.trans k18).trans k19).trans k20
    have kk16 : Keep [x] H12 H20 := ((((Keep.of s13).same s14).same s15).same s16).trans k16
    exact q H20 c li lo dd cu go dl ((kk5.trans kk9).trans kk16) e20 (off kk16 cx c12) (off kk16 lix li12) (off kk16 lox lo12) (off kk16 ddx dd12) (off k16 cux (s16 _ _ (s15 _ _ (s14 _ _ ecu)))) (off k16 gox (s16 _ _ (s15 _ _ ego))) (off k16 dlx (s16 _ _ edl)) nlo (ne_of_none (s14 _ _ (s13 _ _ dd12)) hdl) fli flo fdd ((((kk5.trans kk9).same s13).same s14).low hdl (by simpa using dlx))
end
/-- the parts of a stand -/
structure Stn (H : Hp) (C S dx li lo dd dl : Addr) (o be co cu go mn : V) (xs ys : List V) (kd kl : List (Key × V)) : Prop where
  st : H S = some (.ins C dx (stF o be co (.ref li) (.ref lo) (.ref dd) cu go mn (.ref dl)))
  ins : H li = some (.lst xs)
  outs : H lo = some (.lst ys)
  due : H dd = some (.dK kd)
  lat : H dl = some (.dK kl)
  n1 : li ≠ lo
  n2 : dd ≠ dl
theorem Stn.same {H H' : Hp} {C S dx li lo dd dl : Addr} {o be co cu go mn : V} {xs ys : List V} {kd kl : List (Key × V)} (s : Same H H') (h : Stn H C S dx li lo dd dl o be co cu go mn xs ys kd kl) : Stn H' C S dx li lo dd dl o be co cu go mn xs ys kd kl :=
  ⟨s _ _ h.st, s _ _ h.ins, s _ _ h.outs, s _ _ h.due, s _ _ h.lat, h.n1, h.n2⟩
theorem stF_len {o be co i u d cu go mn l : V} {n : Nat} (h : 10 < n) : (stF o be co i u d cu go mn l).length < n := h
section
variable {P : Program} {w : World} {K : PySem.W.Frag} {base : Heap} {mg : Str → Option Value}
/-- a field of the instance in slot i -/
theorem get_step {ns : List Str} {i : Nat} {f : Str} {v : V} {σ : L2.St} {H : Hp} {Q : VK} {x C dx : Addr} {fs : List (Str × V)} (O : Ob K C ns) (hx : H x = some (.ins C dx fs)) (h0 : σ[i]? = some (some (.ref x))) (hf : f ∈ ns) (hl : fs.lookup f = some v) (q : Q v H) : tFld K (tVar i) f σ H Q :=
  ⟨_, h0, x, C, dx, fs, v, rfl, hx, O.cls, O.no f hf, hl, q⟩
/-! ## copied -/
def spCopied (C : Addr) : Sp := fun vs H Q _ => ∃ (S dx li lo dd dl : Addr) (o be co cu go mn : V) (xs ys : List V) (kd kl : List (Key × V)), vs = [.ref S] ∧ Stn H C S dx li lo dd dl o be co cu go mn xs ys kd kl ∧
  ∀ (H' : Hp) (S' dx' li' lo' dd' dl' : Addr), Same H H' → H S' = none → H li' = none → H lo' = none → H dd' = none → H dl' = none → Stn H' C S' dx' li' lo' dd' dl' o be co cu go mn xs ys kd kl → Q (.ref S') H'
theorem sc34 : FnScope ["stood", "found"] ["stood"] (defScope (top 34)) := ⟨rfl, rfl, rfl, by decide +kernel, rfl, by decide +kernel, by decide +kernel⟩
theorem g_copied {C : Addr} (O : Ob K C standNs) (mk : Mkc K mg "Stand" C) (B : Bt mg) (M : MF P w K mg base C "__init__" 1 (spInit C)) (d : Df K mg "copied" (top 34) ["stood"]) : GF P w K mg base "copied" 3 (spCopied C) := by
  refine gf_of d sc34 (fun vs H Q E h => ?_) (fun f cdv A outer s H vs Q E hr h => ?_)
  · obtain ⟨S, dx, li, lo, dd, dl, o, be, co, cu, go, mn, xs, ys, kd, kl, rfl, _⟩ := h
    rfl
  · obtain ⟨S, dx, li, lo, dd, dl, o, be, co, cu, go, mn, xs, ys, kd, kl, rfl, hS, q⟩ := h
    refine ⟨_, pss_cons (ps_set (i := 1) sc34.nd rfl (Or.inl rfl) (pe_mk M mk hr (pa_cons (pe_fld (pv 0) rfl) pa_nil)))
      (pss_cons (ps_asg (pe_tup (pa_cons (pe_fld (pv 0) rfl) (pa_cons (pe_fld (pv 0) rfl) pa_nil))) (pg_tup rfl (pgs_cons (pg_fld (pv 1)) (pgs_cons (pg_fld (pv 1)) pgs_nil))))
      (pss_cons (ps_asg (pe_tup (pa_cons (pe_callTy call_list_of rfl B.list_ bt_list (pa_cons (pe_fld (pv 0) rfl) pa_nil)) (pa_cons (pe_callTy call_list_of rfl B.list_ bt_list (pa_cons (pe_fld (pv 0) rfl) pa_nil)) (pa_cons (pe_callTy call_dictD rfl B.dict_ bt_dict (pa_cons (pe_fld (pv 0) rfl) pa_nil)) pa_nil))))
        (pg_tup rfl (pgs_cons (pg_fld (pv 1)) (pgs_cons (pg_fld (pv 1)) (pgs_cons (pg_fld (pv 1)) pgs_nil)))))
      (pss_cons (ps_asg (pe_tup (pa_cons (pe_fld (pv 0) rfl) (pa_cons (pe_fld (pv 0) rfl) (pa_cons (pe_fld (pv 0) rfl) (pa_cons (pe_callTy call_dictD rfl B.dict_ bt_dict (pa_cons (pe_fld (pv 0) rfl) pa_nil)) pa_nil)))))
        (pg_tup rfl (pgs_cons (pg_fld (pv 1)) (pgs_cons (pg_fld (pv 1)) (pgs_cons (pg_fld (pv 1)) (pgs_cons (pg_fld (pv 1)) pgs_nil))))))
      (pss_one (ps_ret (pv 1)))))), ?_⟩
    refine get_step O hS.st rfl (by decide) rfl fun x dx1 hx0 hdx0 ndx => ?_
    refine ⟨x, dx1, o, rfl, upd_same, fun H2 c li0 lo0 dd0 cu0 go0 dl0 k2 e2 _ _ _ _ _ _ _ _ _ _ _ _ _ => ⟨rfl, ?_⟩⟩
    have sH : Same H H2 := fun b u e => k2 _ _ (by rw [upd_ne (ne_of_none e hx0), upd_ne (ne_of_none e hdx0)]; exact e) (by rw [List.mem_singleton]; exact ne_of_none e hx0)
    have off : ∀ {H2 H3 : Hp} {a : Addr} {u : HO}, Keep [x] H2 H3 → a ≠ x → H2 a = some u → H3 a = some u := fun k n e => k _ _ e (by simpa using n)
    have new : ∀ {H2 : Hp} {a : Addr} {u : HO}, H2 x = some u → H2 a = none → a ≠ x := fun e n z => by rw [z, e] at n; cases n
    have grow : ∀ {H2 H3 : Hp}, Same H H2 → Keep [x] H2 H3 → Same H H3 := fun s k b u e => k _ _ (s _ _ e) (by rw [List.mem_singleton]; exact ne_of_none e hx0)
    have hS2 := hS.same sH
    refine ⟨_, rfl, S, C, dx, _, _, rfl, hS2.st, O.cls, O.no _ (by decide), rfl, ?_⟩
    refine ⟨_, rfl, S, C, dx, _, _, rfl, hS2.st, O.cls, O.no _ (by decide), rfl, ?_⟩
    refine ⟨(show 2 ≤ sizeLine by decide), ?_⟩
    intro t1 ht1
    have s3 := same_new (o := .tup [be, co]) ht1
    have et1 : upd H2 t1 (.tup [be, co]) t1 = some (.tup [be, co]) := upd_same
    generalize upd H2 t1 (.tup [be, co]) = H3 at s3 et1 ⊢
    refine ⟨t1, _, rfl, SqT.of et1, rfl, _, _, rfl, ?_⟩
    refine fld_step O rfl (s3 _ _ e2) (by decide) (show 10 < 1000 by decide) fun H4 k4 _ e4 => ⟨_, _, rfl, fld_step O rfl e4 (by decide) (by repeat' (first | decide | exact stF_len (by decide) | refine pl ?_)) fun H5 k5 _ e5 => ⟨rfl, ?_⟩⟩
    replace e5 : H5 x = some (.ins C dx1 (stF o be co (.ref li0) (.ref lo0) (.ref dd0) (.ref cu0) (.ref go0) (.int 0) (.ref dl0))) := e5
    have s5 : Same H H5 := grow (grow (sH.trans s3) k4) k5
    have hS5 := hS.same s5
    clear k4 k5 e4 s3 et1 ht1 e2 k2 hS2 sH
    refine ⟨_, rfl, S, C, dx, _, _, rfl, hS5.st, O.cls, O.no _ (by decide), rfl, ?_⟩
    refine ⟨li, xs, rfl, .inl (SqL.of hS5.ins), ?_⟩
    intro li1 hli1
    have s6 := same_new (o := .lst xs) hli1
    have eli1 : upd H5 li1 (.lst xs) li1 = some (.lst xs) := upd_same
    generalize upd H5 li1 (.lst xs) = H6 at s6 eli1 ⊢
    have hS6 := hS5.same s6
    refine ⟨_, rfl, S, C, dx, _, _, rfl, hS6.st, O.cls, O.no _ (by decide), rfl, ?_⟩
    refine ⟨lo, ys, rfl, .inl (SqL.of hS6.outs), ?_⟩
    intro lo1 hlo1
    have s7 := same_new (o := .lst ys) hlo1
    have elo1 : upd H6 lo1 (.lst ys) lo1 = some (.lst ys) := upd_same
    generalize upd H6 lo1 (.lst ys) = H7 at s7 elo1 ⊢
    have hS7 := hS6.same s7
    refine ⟨_, rfl, S, C, dx, _, _, rfl, hS7.st, O.cls, O.no _ (by decide), rfl, ?_⟩
    refine ⟨dd, kd, rfl, .inl hS7.due, ?_⟩
    intro dd1 hdd1
    have s8 := same_new (o := .dK kd) hdd1
    have edd1 : upd H7 dd1 (.dK kd) dd1 = some (.dK kd) := upd_same
    generalize upd H7 dd1 (.dK kd) = H8 at s8 edd1 ⊢
    refine ⟨(show 3 ≤ sizeLine by decide), ?_⟩
    intro t2 ht2
    have s9 := same_new (o := .tup [.ref li1, .ref lo1, .ref dd1]) ht2
    have et2 : upd H8 t2 (.tup [.ref li1, .ref lo1, .ref dd1]) t2 = some (.tup [.ref li1, .ref lo1, .ref dd1]) := upd_same
    generalize upd H8 t2 (.tup [.ref li1, .ref lo1, .ref dd1]) = H9 at s9 et2 ⊢
    refine ⟨t2, _, rfl, SqT.of et2, rfl, _, _, rfl, ?_⟩
    have x5 := s9 _ _ (s8 _ _ (s7 _ _ (s6 _ _ e5)))
    have nlo := ne_of_none eli1 hlo1
    have lix := new e5 hli1
    have lox := new (s6 _ _ e5) hlo1
    have ddx := new (s7 _ _ (s6 _ _ e5)) hdd1
    refine fld_step O rfl x5 (by decide) (show 10 < 1000 by decide) fun H10 k10 _ e10 => ⟨_, _, rfl, fld_step O rfl e10 (by decide) (by repeat' (first | decide | exact stF_len (by decide) | refine pl ?_)) fun H11 k11 _ e11 => ⟨_, _, rfl, fld_step O rfl e11 (by decide) (by repeat' (first | decide | exact stF_len (by decide) | refine pl ?_)) fun H12 k12 _ e12 => ⟨rfl, ?_⟩⟩⟩
    replace e12 : H12 x = some (.ins C dx1 (stF o be co (.ref li1) (.ref lo1) (.ref dd1) (.ref cu0) (.ref go0) (.int 0) (.ref dl0))) := e12
    have k9 : Keep [x] H9 H12 := (k10.trans k11).trans k12
    have li12 := off k9 lix (s9 _ _ (s8 _ _ (s7 _ _ eli1)))
    have lo12 := off k9 lox (s9 _ _ (s8 _ _ elo1))
    have dd12 := off k9 ddx (s9 _ _ edd1)
    have s12 : Same H H12 := grow (s5.trans (s6.trans (s7.trans (s8.trans s9)))) k9
    have fli : H li1 = none := low_none s5 hli1
    have flo : H lo1 = none := low_none (s5.trans s6) hlo1
    have fdd : H dd1 = none := low_none (s5.trans (s6.trans s7)) hdd1
    have hS12 := hS.same s12
    clear k9 k10 k11 k12 e10 e11 s6 s7 s8 s9 hS5 hS6 hS7 e5 x5
    refine ⟨_, rfl, S, C, dx, _, _, rfl, hS12.st, O.cls, O.no _ (by decide), rfl, ?_⟩
    refine ⟨_, rfl, S, C, dx, _, _, rfl, hS12.st, O.cls, O.no _ (by decide), rfl, ?_⟩
    refine ⟨_, rfl, S, C, dx, _, _, rfl, hS12.st, O.cls, O.no _ (by decide), rfl, ?_⟩
    refine ⟨_, rfl, S, C, dx, _, _, rfl, hS12.st, O.cls, O.no _ (by decide), rfl, ?_⟩
    refine ⟨dl, kl, rfl, .inl hS12.lat, ?_⟩
    intro dl1 hdl1
    have s13 := same_new (o := .dK kl) hdl1
    have edl1 : upd H12 dl1 (.dK kl) dl1 = some (.dK kl) := upd_same
    generalize upd H12 dl1 (.dK kl) = H13 at s13 edl1 ⊢
    refine ⟨(show 4 ≤ sizeLine by decide), ?_⟩
    intro t3 ht3
    have s14 := same_new (o := .tup [cu, go, mn, .ref dl1]) ht3
    have et3 : upd H13 t3 (.tup [cu, go, mn, .ref dl1]) t3 = some (.tup [cu, go, mn, .ref dl1]) := upd_same
    generalize upd H13 t3 (.tup [cu, go, mn, .ref dl1]) = H14 at s14 et3 ⊢
    refine ⟨t3, _, rfl, SqT.of et3, rfl, _, _, rfl, ?_⟩
    have dlx := new e12 hdl1
    refine fld_step O rfl (s14 _ _ (s13 _ _ e12)) (by decide) (show 10 < 1000 by decide) fun H15 k15 _ e15 => ⟨_, _, rfl, fld_step O rfl e15 (by decide) (by repeat' (first | decide | exact stF_len (by decide) | refine pl ?_)) fun H16 k16 _ e16 => ⟨_, _, rfl, fld_step O rfl e16 (by decide) (by repeat' (first | decide | exact stF_len (by decide) | refine pl ?_)) fun H17 k17 _ e17 => ⟨_, _, rfl, fld_step O rfl e17 (by decide) (by repeat' (first | decide | exact stF_len (by decide) | refine pl ?_)) fun H18 k18 _ e18 => ⟨rfl, ?_⟩⟩⟩⟩
    replace e18 : H18 x = some (.ins C dx1 (stF o be co (.ref li1) (.ref lo1) (.ref dd1) cu go mn (.ref dl1))) := e18
    have k14 : Keep [x] H14 H18 := ((k15.trans k16).trans k17).trans k18
    have kk : Keep [x] H12 H18 := ((Keep.of s13).same s14).trans k14
    exact ⟨_, rfl, q H18 x dx1 li1 lo1 dd1 dl1 (grow s12 kk) hx0 fli flo fdd (low_none s12 hdl1) ⟨e18, off kk lix li12, off kk lox lo12, off kk ddx dd12, off k14 dlx (s14 _ _ edl1), nlo, ne_of_none dd12 hdl1⟩⟩
/-! ## hold_ahead, cuts_ahead -/
def spAhead (C : Addr) (K : PySem.W.Frag) : Sp := fun vs H Q _ => ∃ (S dx li lo dd dl a c : Addr) (T : List Nat) (cu go mn : V) (xs ys : List V) (kd kl : List (Key × V)), vs = [.ref S, .int 0] ∧ Stn H C S dx li lo dd dl (.ref a) (.int 0) (.ref c) cu go mn xs ys kd kl ∧
  SqT K H c [] ∧ TabAt K H a T ∧ Tab T ∧ Q (vn (hd T xs.length)) H
theorem sc35 : FnScope ["stood", "far"] ["stood", "far"] (defScope (top 35)) := ⟨rfl, rfl, rfl, by decide +kernel, rfl, by decide +kernel, by decide +kernel⟩
theorem g_ahead {C : Addr} (O : Ob K C standNs) (B : Bt mg) (d : Df K mg "hold_ahead" (top 35) ["stood", "far"]) : GF P w K mg base "hold_ahead" 1 (spAhead C K) := by
  refine gf_of d sc35 (fun vs H Q E h => ?_) (fun f cdv A outer s H vs Q E hr h => ?_)
  · obtain ⟨S, dx, li, lo, dd, dl, a, c, T, cu, go, mn, xs, ys, kd, kl, rfl, _⟩ := h
    rfl
  · obtain ⟨S, dx, li, lo, dd, dl, a, c, T, cu, go, mn, xs, ys, kd, kl, rfl, hS, hc, hT, X, q⟩ := h
    refine ⟨_, pss_cons (ps_if (pt_cmpR op_lt (pv 1) (pe_callB call_len_seq rfl B.len_ bt_len (pa_cons (pe_fld (pv 0) rfl) pa_nil)) (nomark _)) (pss_one (ps_ret (pe_ix ix_tup (pe_fld (pv 0) rfl) (pv 1) (fun _ _ => rfl)))) pss_nil)
      (pss_one (ps_ret (pe_ix ix_tup (pe_fld (pv 0) rfl) (pe_op op_mod (pe_op op_sub (pe_op op_add (pe_callB call_len_seq rfl B.len_ bt_len (pa_cons (pe_fld (pv 0) rfl) pa_nil)) (pv 1)) (pe_fld (pv 0) rfl)) (pe_callB call_len_seq rfl B.len_ bt_len (pa_cons (pe_fld (pv 0) rfl) pa_nil))) (fun _ _ => rfl)))), ?_⟩
    have l1 := X.pos
    refine ⟨_, rfl, ?_⟩
    refine ⟨_, rfl, S, C, dx, _, _, rfl, hS.st, O.cls, O.no _ (by decide), rfl, ?_⟩
    refine ⟨c, [], rfl, .inr hc, _, _, rfl, rfl, false, rfl, iteF ?_⟩
    refine ⟨_, rfl, S, C, dx, _, _, rfl, hS.st, O.cls, O.no _ (by decide), rfl, ?_⟩
    refine ⟨_, rfl, S, C, dx, _, _, rfl, hS.st, O.cls, O.no _ (by decide), rfl, ?_⟩
    refine ⟨li, xs, rfl, .inl (SqL.of hS.ins), _, rfl, _, _, rfl, rfl, ?_⟩
    refine ⟨_, rfl, S, C, dx, _, _, rfl, hS.st, O.cls, O.no _ (by decide), rfl, ?_⟩
    refine ⟨_, _, rfl, rfl, ?_⟩
    refine ⟨_, rfl, S, C, dx, _, _, rfl, hS.st, O.cls, O.no _ (by decide), rfl, ?_⟩
    refine ⟨a, _, rfl, .inr hT, _, _, rfl, rfl, ?_, ?_⟩
    · rw [List.length_map]; omega
    · refine ⟨a, _, _, vn (hd T xs.length), rfl, rfl, hT, ?_, q⟩
      rw [List.length_map]
      have e : ((xs.length : Int) + 0 - 0) % ((T.length : Nat) : Int) = ((xs.length % T.length : Nat) : Int) := by
        rw [Int.add_zero, Int.sub_zero]
        push_cast
        rfl
      rw [e]
      exact atI_nat (map_at (Nat.mod_lt _ l1))
def spCutsAhead (C : Addr) (K : PySem.W.Frag) : Sp := fun vs H Q _ => ∃ (S dx li lo dd dl c : Addr) (o be co go mn : V) (xs ys : List V) (kd kl : List (Key × V)), vs = [.ref S] ∧ Stn H C S dx li lo dd dl o be co (.ref c) go mn xs ys kd kl ∧
  SqT K H c [] ∧ ∀ H' p, Same H H' → H p = none → H' p = some (.lst []) → Q (.ref p) H'
theorem sc37 : FnScope ["stood", "when"] ["stood"] (defScope (top 37)) := ⟨rfl, rfl, rfl, by decide +kernel, rfl, by decide +kernel, by decide +kernel⟩
theorem g_cutsAhead {C : Addr} (O : Ob K C standNs) (B : Bt mg) (d : Df K mg "cuts_ahead" (top 37) ["stood"]) : GF P w K mg base "cuts_ahead" 1 (spCutsAhead C K) := by
  refine gf_of d sc37 (fun vs H Q E h => ?_) (fun f cdv A outer s H vs Q E hr h => ?_)
  · obtain ⟨S, dx, li, lo, dd, dl, c, o, be, co, go, mn, xs, ys, kd, kl, rfl, _⟩ := h
    rfl
  · obtain ⟨S, dx, li, lo, dd, dl, c, o, be, co, go, mn, xs, ys, kd, kl, rfl, hS, hc, q⟩ := h
    refine ⟨_, pss_one (ps_ret (pe_lc (own := [("when", 1)]) (g := gName 1) rfl sc37.nd (pi_tup (pe_fld (pv 0) rfl))
      (blkOk_by (N := ["stood", "when"]) (sc := defScope (top 37)) (by decide +kernel)) (fun _ _ _ _ _ => pg_name (i := 1) sc37.nd rfl (Or.inl rfl))
      (fun _ _ _ _ _ => pts_one (pt_cmpR op_ge (pv 1) (pe_callB (len_K (K := K) rfl) rfl B.len_ bt_len (pa_cons (fld_K (K := K) rfl (pv 0) rfl) pa_nil)) (nomark _))) (fun _ _ _ _ _ => pv 1))), ?_⟩
    refine ⟨_, rfl, S, C, dx, _, _, rfl, hS.st, O.cls, O.no _ (by decide), rfl, ?_⟩
    refine ⟨c, rfl, ⟨_, hc⟩, fun D hD => lc_fun (walk_tup (K := K) (a := c) (xs := [])) (fun _ => true) (fun _ => .non) hD (Nat.zero_le _) (fun H2 sm => sm.tup hc) (fun i x H2 H3 Kt Ke lt _ _ _ _ => absurd lt (Nat.not_lt_zero i)) (fun H2 sm at_ => q H2 D sm hD at_)⟩
end
theorem in_list {n : Nat} : ∀ l : List Nat, inV (vn n) (l.map vn) = decide (n ∈ l)
  | [] => rfl
  | x :: r => by
    have ih := in_list (n := n) r
    unfold inV at ih ⊢
    rw [List.map_cons, List.any_cons, ih]
    show (((x : Int) == (n : Int)) || decide (n ∈ r)) = _
    rw [Bool.eq_iff_iff, Bool.or_eq_true, decide_eq_true_eq, decide_eq_true_eq, beq_iff_eq, List.mem_cons]
    constructor
    · rintro (h | h)
      · exact .inl (by omega)
      · exact .inr h
    · rintro (h | h)
      · exact .inl (by omega)
      · exact .inr h
theorem flat_vn (l : List Nat) : (l.map vn).all flatV = true := by
  rw [List.all_eq_true]
  intro x hx
  obtain ⟨n, _, rfl⟩ := List.mem_map.mp hx
  rfl
section
variable {H H1 : Hp} {C S dx li lo dd dl : Addr} {o be co cu go mn be' co' cu' go' mn' : V} {xs ys : List V} {kd kl : List (Key × V)}
/-- its fields are set, its parts left -/
theorem Stn.fld (h : Stn H C S dx li lo dd dl o be co cu go mn xs ys kd kl) (k : Keep [S] H H1) (e : H1 S = some (.ins C dx (stF o be' co' (.ref li) (.ref lo) (.ref dd) cu' go' mn' (.ref dl)))) : Stn H1 C S dx li lo dd dl o be' co' cu' go' mn' xs ys kd kl := by
  have off : ∀ {b : Addr} {u : HO}, H b = some u → (∀ C' d' f', u ≠ .ins C' d' f') → H1 b = some u := fun {b u} eb nu => k _ _ eb fun z => nu _ _ _ (by
    rw [List.mem_singleton.mp z, h.st] at eb
    exact (Option.some.inj eb).symm)
  exact ⟨e, off h.ins fun _ _ _ => by simp, off h.outs fun _ _ _ => by simp, off h.due fun _ _ _ => by simp, off h.lat fun _ _ _ => by simp, h.n1, h.n2⟩
theorem keep_at {W : List Addr} {a : Addr} {u : HO} (h : a ∈ W) : Keep W H (upd H a u) := fun b o e n => by rw [upd_ne (fun z => n (by rw [z]; exact h))]; exact e
end
/-- a method whose one captured cell is __class__ -/
structure Sf (K : PySem.W.Frag) (P : Program) (D f : Addr) (qual : Str) (st : Stmt) (ps : List Str) : Prop where
  ex : ∃ (name : Str) (dV kV doc pm ct oc : Value) (an : Option Addr) (cda cc : Addr) (od : Option Addr) (osl : Array (Option Value)),
    K.lookup f = some ⟨oc, od, .func (PySem.W.ksFn name qual (defArgs st) (defBody st) (defScope st) dV kV doc pm an (.ref cda) ct cc), osl⟩ ∧ PySem.W.codeIn K (.ref cda) qual = true ∧
    Act K P f cda cc D (PySem.W.ksFn name qual (defArgs st) (defBody st) (defScope st) dV kV doc pm an (.ref cda) ct cc) ∧ Binds K (PySem.W.ksFn name qual (defArgs st) (defBody st) (defScope st) dV kV doc pm an (.ref cda) ct cc) ps []
section
variable {P : Program} {w : World} {K : PySem.W.Frag} {mg : Str → Option Value} {base : Heap} {k : Nat} {sp : Sp} {N ps : List Str} {qual : Str} {st : Stmt} {D f : Addr}
theorem fnr_sup (S : Sf K P D f qual st ps) (sc : ScopeS N ps (defScope st)) (len : ∀ vs H Q E, sp vs H Q E → vs.length = ps.length)
    (hbody : ∀ (cda cc : Addr) (fd : FuncData) (A : Around) (outer : List Env) (s : Shared) (H : Hp) (vs : List V) (Q : VK) (E : XK), Act K P f cda cc D fd → Room k (A.deeper (envS qual (defScope st) s.heap.objs.size f cda cc)) → sp vs H Q E →
      ∃ t, PAt (cxS P w K mg base N qual (defScope st) f cda cc A outer s H) (.func (defBody st) (envS qual (defScope st) s.heap.objs.size f cda cc)) (defBody st) t ∧ t { nx := fun _ H' => Q .non H', rt := Q } (start N vs) H) : FnR P w K mg base CX0 (k + 1) f sp := by
  obtain ⟨name, dV, kV, doc, pm, ct, oc, an, cda, cc, od, osl, h1, h2, h3, h4⟩ := S.ex
  exact FnR.imp (FnOk.raw (fn_sup h1 h2 sc h3.cell len fun A outer s H vs Q E hr h => hbody cda cc _ A outer s H vs Q E h3 hr h) h4 .nil) fun vs H Q E h => by rw [List.append_nil]; exact h
end
section
variable {P : Program} {w : World} {K : PySem.W.Frag} {base : Heap} {mg : Str → Option Value}
/-! ## put_out -/
def spRowPut : Sp := fun vs H Q _ => ∃ (x0 x1 x2 fd : V), vs = [x0, x1, x2, fd] ∧ ((fd = .non ∧ Q .non H) ∨ ∃ p u v, fd = .ref p ∧ H p = some (.tup [u, v]) ∧ Q v H)
theorem scPut : FnScope ["self", "stood", "now", "found"] ["self", "stood", "now", "found"] (defScope (inClass (top 39) 7)) := ⟨rfl, rfl, rfl, by decide +kernel, rfl, by decide +kernel, by decide +kernel⟩
theorem m_rowPut {f : Addr} {fd : FuncData} (F : Fun K "put_out" "Row.put_out" (inClass (top 39) 7) f fd) (Bd : Binds K fd ["self", "stood", "now", "found"] []) : FnR P w K mg base CX0 1 f spRowPut := by
  refine fnr_of F Bd scPut (fun vs H Q E h => ?_) (fun cdv A outer s H vs Q E hr h => ?_)
  · obtain ⟨x0, x1, x2, fd, rfl, _⟩ := h
    rfl
  · obtain ⟨x0, x1, x2, fd, rfl, q⟩ := h
    refine ⟨_, pss_one (ps_ret (pe_ifExp (pt_cmpR op_isN (pv 3) pe_non (nomark _)) pe_non (pe_ix ix_tup (pv 3) pe_int (fun _ _ => rfl)))), ?_⟩
    rcases q with ⟨rfl, q⟩ | ⟨p, u, v, rfl, hp, q⟩
    · exact ⟨_, rfl, rfl, _, rfl, iteT q⟩
    · exact ⟨_, rfl, rfl, false, rfl, iteF ⟨_, rfl, p, _, 1, v, rfl, rfl, SqT.of hp, rfl, q⟩⟩
def goneL (b k n : Nat) : List Nat := (List.range n).filter (Cut b k)
theorem gone_succ (b k n : Nat) : goneL b k (n + 1) = if Cut b k n = true then goneL b k n ++ [n] else goneL b k n := by
  unfold goneL
  rw [List.range_succ, List.filter_append]
  by_cases h : Cut b k n = true
  · rw [if_pos h, List.filter_cons_of_pos h]
    rfl
  · rw [if_neg h, List.filter_cons_of_neg h, List.filter_nil, List.append_nil]
/-- what the caller found due -/
def Fnd (H : Hp) (T : List Nat) (n : Nat) (fd : V) : Prop := (fd = .non ∧ ∀ t, out T t ≠ n) ∨ ∃ p t, fd = .ref p ∧ H p = some (.tup [vn t, vn t]) ∧ out T t = n
def spLosePut (K : PySem.W.Frag) (Cs C : Addr) : Sp := fun vs H Q _ => ∃ (B S dxB dx li lo dd dl cu go : Addr) (T cl : List Nat) (b k n : Nat) (fsB : List (Str × V)) (o be co mn fd : V) (xs ys : List V) (kd kl : List (Key × V)), vs = [.ref B, .ref S, vn n, fd] ∧
  H B = some (.ins C dxB fsB) ∧ Stn H Cs S dx li lo dd dl o be co (.ref cu) (.ref go) mn xs ys kd kl ∧ Tab T ∧ far T ≤ b ∧ n ≤ 4000 ∧ SqT K H cu (cl.map vn) ∧ decide (n ∈ cl) = Cut b k n ∧ SqT K H go ((goneL b k n).map vn) ∧ Fnd H T n fd ∧
  ∀ H' v go', Keep [S] H H' → Stn H' Cs S dx li lo dd dl o be co (.ref cu) (.ref go') mn xs ys kd kl → SqT K H' go' ((goneL b k (n + 1)).map vn) → Out T b k n v → Q v H'
theorem scLosePut : ScopeS ["self", "stood", "now", "found"] ["self", "stood", "now", "found"] (defScope (inClass (top 40) 2)) := ⟨rfl, rfl, rfl, by decide +kernel, rfl, by decide +kernel, by decide +kernel, by decide +kernel⟩
theorem m_losePut {Cs C D f g : Addr} (O : Ob K Cs standNs) (B0 : Bt mg) (S0 : Sf K P D f "Losing.put_out" (inClass (top 40) 2) ["self", "stood", "now", "found"]) (U : Sup K C D "put_out" g) (G : FnR P w K mg base CX0 1 g spRowPut) : FnR P w K mg base CX0 2 f (spLosePut K Cs C) := by
  refine fnr_sup S0 scLosePut (fun vs H Q E h => ?_) (fun cda cc fd0 A outer s H vs Q E hA hr h => ?_)
  · obtain ⟨B, S, dxB, dx, li, lo, dd, dl, cu, go, T, cl, b, k, n, fsB, o, be, co, mn, fd, xs, ys, kd, kl, rfl, _⟩ := h
    rfl
  · obtain ⟨B, S, dxB, dx, li, lo, dd, dl, cu, go, T, cl, b, k, n, fsB, o, be, co, mn, fd, xs, ys, kd, kl, rfl, hB, hS, X, hb, hn, hcu, hcl, hgo, hf, q⟩ := h
    refine ⟨_, pat_cons (ps_if (PW.pt (pw_and (pt_cmpR op_notN (pv 3) pe_non (nomark _)) (pw_and1 (pt_cmpR op_in_seq (pv 2) (pe_fld (pv 1) rfl) rfl))))
        (pss_cons (ps_fld (pv 1) (pe_tup (StX.pa_star (pe_fld (pv 1) rfl) (pa_cons (pv 2) pa_nil))) rfl) (pss_one (ps_ret pe_non))) pss_nil)
      (pat_ret (ea_super hA rfl rfl rfl rfl rfl rfl rfl B0.super_ (by decide) G hr pass0 (pa_cons (pv 1) (pa_cons (pv 2) (pa_cons (pv 3) pa_nil))))), ?_⟩
    rcases hf with ⟨rfl, no⟩ | ⟨p, t, rfl, hp, ht⟩
    · have nc : ¬ Cut b k n = true := fun z => by
        obtain ⟨t, ht, _⟩ := out_at X (u := n) (Nat.le_trans hb (cut_iff.mp z).1)
        exact no t ht
      refine ⟨_, rfl, rfl, false, rfl, iteF (iteF ⟨B, C, dxB, fsB, rfl, hB, U, fun q0 hq0 => ⟨_, rfl, _, rfl, _, rfl, upd_same, _, _, _, _, rfl, .inl ⟨rfl, ?_⟩⟩⟩)⟩
      have sm := same_new (o := .met g B) hq0
      exact q _ _ go (Keep.of sm) (hS.same sm) (by rw [gone_succ, if_neg nc]; exact sm.tup hgo) (.inl ⟨rfl, .inr no⟩)
    · refine ⟨_, rfl, rfl, true, rfl, iteT ⟨_, rfl, _, rfl, S, Cs, dx, _, _, rfl, hS.st, O.cls, O.no _ (by decide), rfl, cu, _, rfl, .inr hcu, rfl, flat_vn _, Cut b k n, ?_, ?_⟩⟩
      · rw [if_neg (by decide), in_list, hcl]
      by_cases hc : Cut b k n = true
      · refine (if_pos hc).mpr ?_
        refine ⟨_, rfl, S, Cs, dx, _, _, rfl, hS.st, O.cls, O.no _ (by decide), rfl, go, _, rfl, .inl hgo, _, rfl, ?_, fun p9 hp9 => ?_⟩
        · have := List.length_filter_le (Cut b k) (List.range n)
          rw [List.length_range] at this
          rw [List.length_append, List.length_map, sizeLine_eq]
          show (goneL b k n).length + 1 ≤ _
          unfold goneL
          omega
        have sm := same_new (o := .tup ((goneL b k n).map vn ++ [vn n])) hp9
        have e9 : upd H p9 (.tup ((goneL b k n).map vn ++ [vn n])) p9 = some (.tup ((goneL b k n).map vn ++ [vn n])) := upd_same
        have nS : p9 ≠ S := fun z => by rw [z, hS.st] at hp9; cases hp9
        refine ⟨_, rfl, S, Cs, dx, _, rfl, sm _ _ hS.st, O.cls, O.no _ (by decide), stF_len (by decide), ?_⟩
        have k2 : Keep [S] H (upd (upd H p9 (.tup ((goneL b k n).map vn ++ [vn n]))) S (.ins Cs dx (stF o be co (.ref li) (.ref lo) (.ref dd) (.ref cu) (.ref p9) mn (.ref dl)))) := (Keep.of sm).trans (keep_at (List.mem_singleton.mpr rfl))
        refine q _ .non p9 k2 (hS.fld k2 upd_same) (SqT.of ?_) (.inl ⟨rfl, .inl hc⟩)
        rw [upd_ne nS, e9, gone_succ, if_pos hc, List.map_append]
        rfl
      · refine (if_neg hc).mpr ⟨B, C, dxB, fsB, rfl, hB, U, fun q0 hq0 => ⟨_, rfl, _, rfl, _, rfl, upd_same, _, _, _, _, rfl, .inr ⟨p, vn t, vn t, rfl, ?_, ?_⟩⟩⟩
        · exact same_new hq0 _ _ hp
        have sm := same_new (o := .met g B) hq0
        exact q _ _ go (Keep.of sm) (hS.same sm) (by rw [gone_succ, if_neg hc]; exact sm.tup hgo) (.inr ⟨t, rfl, ht, by simpa using hc⟩)
end
section
variable {P : Program} {w : World} {K : PySem.W.Frag} {base : Heap} {mg : Str → Option Value}
def spLinkPut (K : PySem.W.Frag) (Cs C : Addr) : Sp := fun vs H Q _ => ∃ (B S dxB dx li lo dd dl cu go a : Addr) (T cl L : List Nat) (b k n : Nat) (fsB : List (Str × V)) (be co mn fd : V) (xs ys : List V) (kd : List (Key × V)), vs = [.ref B, .ref S, vn n, fd] ∧
  H B = some (.ins C dxB fsB) ∧ Stn H Cs S dx li lo dd dl (.ref a) be co (.ref cu) (.ref go) mn xs ys kd (kv (· + far T) vn L) ∧ Tab T ∧ far T ≤ b ∧ n ≤ 4000 ∧ SqT K H cu (cl.map vn) ∧ decide (n ∈ cl) = Cut b k n ∧ SqT K H go ((goneL b k n).map vn) ∧ Fnd H T n fd ∧
  TabAt K H a T ∧ Lat T b k n L ∧ L.length ≤ 4000 ∧
  ∀ H' v go' L', Keep [S, dl] H H' → Stn H' Cs S dx li lo dd dl (.ref a) be co (.ref cu) (.ref go') mn xs ys kd (kv (· + far T) vn L') → SqT K H' go' ((goneL b k (n + 1)).map vn) → Lat T b k (n + 1) L' → L'.length ≤ L.length + 1 → OutL T b k n v → Q v H'
theorem scLinkPut : ScopeS ["self", "stood", "now", "found", "crossed", "again"] ["self", "stood", "now", "found"] (defScope (inClass (top 41) 2)) := ⟨rfl, rfl, rfl, by decide +kernel, rfl, by decide +kernel, by decide +kernel, by decide +kernel⟩
/-- another dict stands for the later -/
theorem Stn.setLat {H : Hp} {C S dx li lo dd dl : Addr} {o be co cu go mn : V} {xs ys : List V} {kd kl kl' : List (Key × V)} (h : Stn H C S dx li lo dd dl o be co cu go mn xs ys kd kl) : Stn (upd H dl (.dK kl')) C S dx li lo dd dl o be co cu go mn xs ys kd kl' := by
  have off : ∀ {b : Addr} {u : HO}, H b = some u → (∀ z, u ≠ .dK z) → upd H dl (.dK kl') b = some u := fun {b u} eb nu => by
    rw [upd_ne (fun z => nu kl (by rw [z, h.lat] at eb; exact (Option.some.inj eb).symm))]
    exact eb
  exact ⟨off h.st fun _ => by simp, off h.ins fun _ => by simp, off h.outs fun _ => by simp, by rw [upd_ne h.n2]; exact h.due, upd_same, h.n1, h.n2⟩
theorem sqt_off {H H' : Hp} {W : List Addr} {a : Addr} {xs : List V} (k : Keep W H H') (h : SqT K H a xs) (hw : ∀ b ∈ W, ∀ ys, H b ≠ some (.tup ys)) (hf : ∀ b ∈ W, ∀ o u, H b ≠ some (.frz o u)) : SqT K H' a xs := by
  (rcases h with (h | ⟨o, h⟩) | h)
  · exact .inl (.inl (k _ _ h fun z => hw _ z _ h))
  · exact .inl (.inr ⟨o, k _ _ h fun z => hf _ z _ _ h⟩)
  · exact .inr h
theorem m_linkPut {Cs C D f g : Addr} (O : Ob K Cs standNs) (B0 : Bt mg) (S0 : Sf K P D f "Link.put_out" (inClass (top 41) 2) ["self", "stood", "now", "found"]) (U : Sup K C D "put_out" g) (G : FnR P w K mg base CX0 2 g (spLosePut K Cs C)) (Gb : GF P w K mg base "back_of" 1 (spBack K)) :
    FnR P w K mg base CX0 3 f (spLinkPut K Cs C) := by
  refine fnr_sup S0 scLinkPut (fun vs H Q E h => ?_) (fun cda cc fd0 A outer s H vs Q E hA hr h => ?_)
  · obtain ⟨B, S, dxB, dx, li, lo, dd, dl, cu, go, a, T, cl, L, b, k, n, fsB, be, co, mn, fd, xs, ys, kd, rfl, _⟩ := h
    rfl
  · obtain ⟨B, S, dxB, dx, li, lo, dd, dl, cu, go, a, T, cl, L, b, k, n, fsB, be, co, mn, fd, xs, ys, kd, rfl, hB, hS, X, hb, hn, hcu, hcl, hgo, hf, hT, hL, lL, q⟩ := h
    have hu : (cxS P w K mg base ["self", "stood", "now", "found", "crossed", "again"] "Link.put_out" (defScope (inClass (top 41) 2)) f cda cc A outer s H).A.units + 1 < cLine := by have := hr.units; show (A.deeper _).units + 1 < cLine; omega
    refine ⟨_, pat_set (i := 4) scLinkPut.nd rfl (Or.inl rfl) (ea_super hA rfl rfl rfl rfl rfl rfl rfl B0.super_ (by decide) G hr pass0 (pa_cons (pv 1) (pa_cons (pv 2) (pa_cons (pv 3) pa_nil))))
      (pat_plain (pss_cons (ps_if (pt_cmpR op_notN (pv 4) pe_non (nomark _)) (pss_cons (ps_set (i := 5) scLinkPut.nd rfl (Or.inl rfl) (pe_g Gb (hr.mono (by decide)) (pa_cons (pe_fld (pv 1) rfl) pa_nil)))
          (pss_one (ps_dput hu (pe_fld (pv 1) rfl) (pe_op op_add (pv 2) (pe_ix ix_tup (pv 5) (pe_op op_mod (pv 2) (pe_callB call_len_seq rfl B0.len_ bt_len (pa_cons (pv 5) pa_nil))) (fun _ _ => rfl))) (pv 4) rfl))) pss_nil)
        (pss_one (ps_ret (pe_dpop2 (pe_fld (pv 1) rfl) (pv 2) pe_non ⟨rfl, rfl, rfl, rfl⟩))))), ?_⟩
    refine ⟨B, C, dxB, fsB, rfl, hB, U, fun q0 hq0 => ⟨_, rfl, _, rfl, _, rfl, upd_same, ?_⟩⟩
    have sm0 := same_new (o := .met g B) hq0
    generalize upd H q0 (.met g B) = H0 at sm0
    refine ⟨B, S, dxB, dx, li, lo, dd, dl, cu, go, T, cl, b, k, n, fsB, _, be, co, mn, fd, xs, ys, kd, _, rfl, sm0 _ _ hB, hS.same sm0, X, hb, hn, sm0.tup hcu, hcl, sm0.tup hgo, ?_, fun H1 v go' k1 hS1 hgo1 hv => ?_⟩
    · rcases hf with h | ⟨p, t, h1, h2, h3⟩
      · exact .inl h
      · exact .inr ⟨p, t, h1, sm0 _ _ h2, h3⟩
    have hT1 : TabAt K H1 a T := sqt_off k1 (sm0.tup hT) (fun b hb ys => by rw [List.mem_singleton.mp hb, (hS.same sm0).st]; simp) fun b hb o u => by rw [List.mem_singleton.mp hb, (hS.same sm0).st]; simp
    have kk1 : Keep [S, dl] H H1 := (Keep.of sm0).trans (k1.mono fun z hz => by rw [List.mem_singleton.mp hz]; exact List.mem_cons_self)
    have fin : ∀ (σ : L2.St) (H3 : Hp) (M : List Nat) (D : Ends), D.rt = Q → σ[1]? = some (some (.ref S)) → σ[2]? = some (some (vn n)) → Keep [S, dl] H H3 → SqT K H3 go' ((goneL b k (n + 1)).map vn) → Stn H3 Cs S dx li lo dd dl (.ref a) be co (.ref cu) (.ref go') mn xs ys kd (kv (· + far T) vn M) → M.length ≤ L.length + 1 →
        Lat T b k (n + 1) (M.filter fun u => decide (u + far T ≠ n)) → ((n < far T ∨ Cut b k (out T (n - far T)) = true) → ∀ u ∈ M, u + far T ≠ n) → (far T ≤ n → Cut b k (out T (n - far T)) = false → n - far T ∈ M) →
        tRet (tDPop2 (tFld K (tVar 1) "later") (tVar 2) (tC .non)) D σ H3 := by
      intro σ H3 M D eD h1 h2 k3 hg3 hS3 lM hl3 no yes
      show tDPop2 _ _ _ σ H3 D.rt
      rw [eD]
      have rd : ∀ {W : VK}, W (.ref dl) H3 → tFld K (tVar 1) "later" σ H3 W := fun {W} z => ⟨_, h1, S, Cs, dx, _, _, rfl, hS3.st, O.cls, O.no _ (by decide), rfl, z⟩
      refine rd ⟨dl, rfl, .inl ⟨_, .inl hS3.lat⟩, _, h2, _, Sum.inl ((n : Nat) : Int), hS3.lat, rfl, fun v0 hv0 => ?_, fun hv0 => ?_⟩
      · -- something is back
        have k4 : Keep [S, dl] H (upd H3 dl (.dK (dropK (kv (· + far T) vn M) (Sum.inl ((n : Nat) : Int))))) := k3.trans (keep_at (by simp))
        rw [kv_drop] at k4 ⊢
        have good : far T ≤ n ∧ Cut b k (out T (n - far T)) = false := by
          by_cases c : n < far T ∨ Cut b k (out T (n - far T)) = true
          · rw [kv_none (no c)] at hv0
            cases hv0
          · constructor
            · exact Nat.le_of_not_lt fun z => c (.inl z)
            · simpa using fun z => c (.inr z)
        have ev : v0 = vn (n - far T) := by
          have z := kv_some (κ := (· + far T)) (f := vn) (yes good.1 good.2) (fun u _ e => by have e' : u + far T = n - far T + far T := e; omega)
          have en : ((n - far T + far T : Nat) : Int) = ((n : Nat) : Int) := by have := good.1; omega
          rw [show ((((· + far T) (n - far T) : Nat)) : Int) = ((n : Nat) : Int) from en] at z
          exact Option.some.inj (hv0.symm.trans z)
        refine q _ v0 go' _ k4 hS3.setLat (sqt_off (keep_at (W := [dl]) (List.mem_singleton.mpr rfl)) hg3 (fun b hb ys => by rw [List.mem_singleton.mp hb, hS3.lat]; simp) fun b hb o u => by rw [List.mem_singleton.mp hb, hS3.lat]; simp) hl3 (Nat.le_trans (List.length_filter_le _ _) lM) (.inl ⟨good.1, good.2, ev⟩)
      · -- nothing
        have none' : ∀ u ∈ M, u + far T ≠ n := fun u hu e => by
          have z := kv_some (κ := (· + far T)) (f := vn) hu (fun x _ e2 => by have e' : x + far T = u + far T := e2; omega)
          rw [show ((((· + far T) u : Nat)) : Int) = ((n : Nat) : Int) from by show ((u + far T : Nat) : Int) = _; rw [e]] at z
          rw [z] at hv0
          cases hv0
        have ef : M.filter (fun u => decide (u + far T ≠ n)) = M := List.filter_eq_self.mpr fun u hu => decide_eq_true (none' u hu)
        rw [ef] at hl3
        refine q _ .non go' M k3 hS3 hg3 hl3 lM (.inr ⟨?_, rfl⟩)
        by_cases c : far T ≤ n
        · right
          cases e : Cut b k (out T (n - far T)) with
          | true => rfl
          | false => exact absurd (by omega) (none' _ (yes c e))
        · exact .inl (by omega)
    rcases hv with ⟨rfl, hno⟩ | ⟨t, rfl, ht, hc⟩
    · obtain ⟨l1, l2, l3⟩ := lat_no X hL hno
      exact ⟨_, rfl, rfl, false, rfl, iteF (fin _ H1 L _ rfl rfl rfl kk1 hgo1 hS1 (Nat.le_succ _) l1 l2 l3)⟩
    · obtain ⟨l1, l0, l2, l3⟩ := lat_in X hL ht hc
      refine ⟨_, rfl, rfl, true, rfl, iteT ⟨_, rfl, S, Cs, dx, _, _, rfl, hS1.st, O.cls, O.no _ (by decide), rfl, a, T, rfl, hT1, X, fun H2 p Bk s2 hBk lB hbk => ?_⟩⟩
      have hS2 := hS1.same s2
      have key : Bk.getD (n % T.length) 0 = far T - hd T t := by
        have z := hbk (t % T.length) (Nat.mod_lt _ X.pos)
        rw [← out_mod, ht] at z
        exact z
      have lt : n % T.length < Bk.length := by rw [lB]; exact Nat.mod_lt _ X.pos
      have hle := hd_le X t
      have hout : t + hd T t = n := ht
      refine ⟨_, rfl, _, rfl, S, Cs, dx, _, _, rfl, hS2.st, O.cls, O.no _ (by decide), rfl, _, rfl, _, rfl, _, rfl, _, rfl, p, _, rfl, .inr hBk, _, _, rfl, rfl, ?_, p, _, _, vn (far T - hd T t), rfl, rfl, hBk, ?_, _, _, rfl, rfl, dl, upd H2 dl (.dK (putK (kv (· + far T) vn L) (Sum.inl ((n : Int) + ((far T - hd T t : Nat) : Int))) (vn t))), rfl, ?_, ?_⟩
      · have := X.pos
        rw [List.length_map, lB]
        omega
      · rw [List.length_map, lB]
        have e : ((n : Int) % ((T.length : Nat) : Int)) = ((n % T.length : Nat) : Int) := by push_cast; rfl
        rw [e, ← key]
        exact atI_nat (map_at lt)
      · exact DPut.k (k := Sum.inl ((n : Int) + ((far T - hd T t : Nat) : Int))) hS2.lat (by rw [kv_len, sizeLine_eq]; omega)
      · have ek : (n : Int) + ((far T - hd T t : Nat) : Int) = ((t + far T : Nat) : Int) := by omega
        rw [ek, kv_put (n := t + far T) (fun u hu e => l0 ((show u = t from by have e' : u + far T = t + far T := e; omega) ▸ hu))]
        have kk2 : Keep [S, dl] H (upd H2 dl (.dK (kv (· + far T) vn (L ++ [t])))) := (kk1.same s2).trans (keep_at (by simp))
        have e3 : kv (· + far T) vn L ++ [(Sum.inl ((t + far T : Nat) : Int), vn t)] = kv (· + far T) vn (L ++ [t]) := by rw [kv_app]; rfl
        rw [e3]
        refine fin _ _ (L ++ [t]) _ rfl rfl rfl kk2 ?_ hS2.setLat (by rw [List.length_append]; exact Nat.le_refl _) l1 l2 l3
        exact sqt_off (keep_at (W := [dl]) (List.mem_singleton.mpr rfl)) (s2.tup hgo1) (fun b hb ys => by rw [List.mem_singleton.mp hb, hS2.lat]; simp) fun b hb o u => by rw [List.mem_singleton.mp hb, hS2.lat]; simp
end
section
variable {H H' : Hp} {C S dx li lo dd dl : Addr} {o be co cu go mn : V} {xs ys : List V} {kd kl : List (Key × V)}
theorem Stn.setDue (h : Stn H C S dx li lo dd dl o be co cu go mn xs ys kd kl) (kd' : List (Key × V)) : Stn (upd H dd (.dK kd')) C S dx li lo dd dl o be co cu go mn xs ys kd' kl := by
  have off : ∀ {b : Addr} {u : HO}, H b = some u → (∀ z, u ≠ .dK z) → upd H dd (.dK kd') b = some u := fun {b u} eb nu => by
    rw [upd_ne (fun z => nu kd (by rw [z, h.due] at eb; exact (Option.some.inj eb).symm))]
    exact eb
  exact ⟨off h.st fun _ => by simp, off h.ins fun _ => by simp, off h.outs fun _ => by simp, upd_same, by rw [upd_ne (Ne.symm h.n2)]; exact h.lat, h.n1, h.n2⟩
theorem Stn.setIns (h : Stn H C S dx li lo dd dl o be co cu go mn xs ys kd kl) (xs' : List V) : Stn (upd H li (.lst xs')) C S dx li lo dd dl o be co cu go mn xs' ys kd kl := by
  have off : ∀ {b : Addr} {u : HO}, H b = some u → (∀ z, u ≠ .lst z) → upd H li (.lst xs') b = some u := fun {b u} eb nu => by
    rw [upd_ne (fun z => nu xs (by rw [z, h.ins] at eb; exact (Option.some.inj eb).symm))]
    exact eb
  exact ⟨off h.st fun _ => by simp, upd_same, by rw [upd_ne (Ne.symm h.n1)]; exact h.outs, off h.due fun _ => by simp, off h.lat fun _ => by simp, h.n1, h.n2⟩
theorem Stn.setOuts (h : Stn H C S dx li lo dd dl o be co cu go mn xs ys kd kl) (ys' : List V) : Stn (upd H lo (.lst ys')) C S dx li lo dd dl o be co cu go mn xs ys' kd kl := by
  have off : ∀ {b : Addr} {u : HO}, H b = some u → (∀ z, u ≠ .lst z) → upd H lo (.lst ys') b = some u := fun {b u} eb nu => by
    rw [upd_ne (fun z => nu ys (by rw [z, h.outs] at eb; exact (Option.some.inj eb).symm))]
    exact eb
  exact ⟨off h.st fun _ => by simp, by rw [upd_ne h.n1]; exact h.ins, upd_same, off h.due fun _ => by simp, off h.lat fun _ => by simp, h.n1, h.n2⟩
/-- no part of a stand is a tuple -/
theorem Stn.parts (h : Stn H C S dx li lo dd dl o be co cu go mn xs ys kd kl) : ∀ b ∈ [S, li, lo, dd, dl], (∀ zs, H b ≠ some (.tup zs)) ∧ ∀ o' u, H b ≠ some (.frz o' u) := by
  intro b hb
  (simp only [List.mem_cons, List.not_mem_nil, or_false] at hb)
  rcases hb with rfl | rfl | rfl | rfl | rfl
  · rw [h.st]; exact ⟨fun _ => by simp, fun _ _ => by simp⟩
  · rw [h.ins]; exact ⟨fun _ => by simp, fun _ _ => by simp⟩
  · rw [h.outs]; exact ⟨fun _ => by simp, fun _ _ => by simp⟩
  · rw [h.due]; exact ⟨fun _ => by simp, fun _ _ => by simp⟩
  · rw [h.lat]; exact ⟨fun _ => by simp, fun _ _ => by simp⟩
theorem Stn.sqt {K : PySem.W.Frag} (h : Stn H C S dx li lo dd dl o be co cu go mn xs ys kd kl) (k : Keep [S, li, lo, dd, dl] H H') {a : Addr} {zs : List V} (q : SqT K H a zs) : SqT K H' a zs := sqt_off k q (fun b hb => (h.parts b hb).1) fun b hb => (h.parts b hb).2
theorem Stn.tupOff (h : Stn H C S dx li lo dd dl o be co cu go mn xs ys kd kl) (k : Keep [S, li, lo, dd, dl] H H') {a : Addr} {zs : List V} (q : H a = some (.tup zs)) : H' a = some (.tup zs) := k _ _ q fun z => (h.parts a z).1 zs q
end
def LatB (link : Bool) (T : List Nat) (b k n : Nat) (L : List Nat) : Prop := if link = true then Lat T b k n L else L = []
def OutB (link : Bool) (T : List Nat) (b k n : Nat) (v : V) : Prop := if link = true then OutL T b k n v else Out T b k n v
def cutL (b k : Nat) (c : Bool) : List Nat := if c = true then (List.range k).map (b + ·) else []
theorem cut_mem {b k n : Nat} {c : Bool} (h : c = false → n < b) : decide (n ∈ cutL b k c) = Cut b k n := by
  rw [Bool.eq_iff_iff, decide_eq_true_eq, cut_iff]
  cases c with
  | false =>
    have := h rfl
    constructor
    · intro z; cases z
    · omega
  | true =>
    show n ∈ (List.range k).map (b + ·) ↔ _
    rw [List.mem_map]
    constructor
    · rintro ⟨i, hi, rfl⟩
      rw [List.mem_range] at hi
      omega
    · rintro ⟨h1, h2⟩
      exact ⟨n - b, List.mem_range.mpr (by omega), by omega⟩
section
variable {P : Program} {w : World} {K : PySem.W.Frag} {base : Heap} {mg : Str → Option Value}
/-- put_out of a Losing (link = false) or of a Link -/
def spPut (K : PySem.W.Frag) (Cs C : Addr) (link : Bool) : Sp := fun vs H Q _ => ∃ (B S dxB dx li lo dd dl cu go a : Addr) (T cl L : List Nat) (b k n : Nat) (fsB : List (Str × V)) (be co mn fd : V) (xs ys : List V) (kd : List (Key × V)), vs = [.ref B, .ref S, vn n, fd] ∧
  H B = some (.ins C dxB fsB) ∧ Stn H Cs S dx li lo dd dl (.ref a) be co (.ref cu) (.ref go) mn xs ys kd (kv (· + far T) vn L) ∧ Tab T ∧ far T ≤ b ∧ n ≤ 4000 ∧ SqT K H cu (cl.map vn) ∧ decide (n ∈ cl) = Cut b k n ∧ SqT K H go ((goneL b k n).map vn) ∧ Fnd H T n fd ∧
  TabAt K H a T ∧ LatB link T b k n L ∧ L.length ≤ 4000 ∧
  ∀ H' v go' L', Keep [S, dl] H H' → Stn H' Cs S dx li lo dd dl (.ref a) be co (.ref cu) (.ref go') mn xs ys kd (kv (· + far T) vn L') → SqT K H' go' ((goneL b k (n + 1)).map vn) → LatB link T b k (n + 1) L' → L'.length ≤ L.length + 1 → OutB link T b k n v → Q v H'
theorem put_false {Cs C f : Addr} {j : Nat} (F : FnR P w K mg base CX0 j f (spLosePut K Cs C)) : FnR P w K mg base CX0 j f (spPut K Cs C false) := by
  refine F.imp ?_
  rintro vs H Q E ⟨B, S, dxB, dx, li, lo, dd, dl, cu, go, a, T, cl, L, b, k, n, fsB, be, co, mn, fd, xs, ys, kd, rfl, hB, hS, X, hb, hn, hcu, hcl, hgo, hf, hT, hL, lL, q⟩
  exact ⟨B, S, dxB, dx, li, lo, dd, dl, cu, go, T, cl, b, k, n, fsB, _, be, co, mn, fd, xs, ys, kd, _, rfl, hB, hS, X, hb, hn, hcu, hcl, hgo, hf, fun H' v go' k1 h1 h2 h3 => q H' v go' L (k1.mono fun z hz => by rw [List.mem_singleton.mp hz]; exact List.mem_cons_self) h1 h2 hL (Nat.le_succ _) h3⟩
theorem put_true {Cs C f : Addr} {j : Nat} (F : FnR P w K mg base CX0 j f (spLinkPut K Cs C)) : FnR P w K mg base CX0 j f (spPut K Cs C true) := by
  refine F.imp ?_
  rintro vs H Q E ⟨B, S, dxB, dx, li, lo, dd, dl, cu, go, a, T, cl, L, b, k, n, fsB, be, co, mn, fd, xs, ys, kd, rfl, hB, hS, X, hb, hn, hcu, hcl, hgo, hf, hT, hL, lL, q⟩
  exact ⟨B, S, dxB, dx, li, lo, dd, dl, cu, go, a, T, cl, L, b, k, n, fsB, be, co, mn, fd, xs, ys, kd, rfl, hB, hS, X, hb, hn, hcu, hcl, hgo, hf, hT, hL, lL, q⟩
/-- a stand behind n pushes -/
structure StAt (K : PySem.W.Frag) (H : Hp) (Cs S dx li lo dd dl : Addr) (T : List Nat) (b k n : Nat) (c link : Bool) : Prop where
  ex : ∃ (a co cu go : Addr) (xs ys : List V) (pt : Nat → Addr) (L : List Nat),
    Stn H Cs S dx li lo dd dl (.ref a) (.int 0) (.ref co) (.ref cu) (.ref go) (.int 0) xs ys (kv (out T) (fun t => .ref (pt t)) (held_at T n)) (kv (· + far T) vn L) ∧ xs.length = n ∧ ys.length = n ∧ TabAt K H a T ∧ SqT K H co [] ∧ SqT K H cu ((cutL b k c).map vn) ∧
    SqT K H go ((goneL b k n).map vn) ∧ (∀ t ∈ held_at T n, H (pt t) = some (.tup [vn t, vn t])) ∧ L.length ≤ n ∧ LatB link T b k n L
def spStep (K : PySem.W.Frag) (Cs C : Addr) (link : Bool) : Sp := fun vs H Q _ => ∃ (B S dxB dx li lo dd dl : Addr) (T : List Nat) (b k n : Nat) (c : Bool) (fsB : List (Str × V)), vs = [.ref B, .ref S, vn n] ∧ H B = some (.ins C dxB fsB) ∧ fsB.lookup ("put_out" : Str) = none ∧ B ≠ S ∧
  StAt K H Cs S dx li lo dd dl T b k n c link ∧ (c = false → n < b) ∧ Tab T ∧ far T ≤ b ∧ n ≤ 3000 ∧
  ∀ H' v, Keep [S, li, lo, dd, dl] H H' → StAt K H' Cs S dx li lo dd dl T b k (n + 1) c link → OutB link T b k n v → Q v H'
theorem scStep : FnScope ["self", "stood", "value", "now", "out"] ["self", "stood", "value"] (defScope (inClass (top 39) 8)) := ⟨rfl, rfl, rfl, by decide +kernel, rfl, by decide +kernel, by decide +kernel⟩
theorem m_step {Cs C : Addr} {link : Bool} (O : Ob K Cs standNs) (hC : Cls K C) (B0 : Bt mg) (d : Dm K C "step" "Row.step" (inClass (top 39) 8) ["self", "stood", "value"]) (G : GF P w K mg base "hold_ahead" 1 (spAhead Cs K)) (M : MF P w K mg base C "put_out" 3 (spPut K Cs C link)) :
    MF P w K mg base C "step" 4 (spStep K Cs C link) := by
  refine mf_of d scStep (fun vs H Q E h => ?_) (fun f cdv A outer s H vs Q E hr h => ?_)
  · obtain ⟨B, S, dxB, dx, li, lo, dd, dl, T, b, k, n, c, fsB, rfl, _⟩ := h
    rfl
  · obtain ⟨B, S, dxB, dx, li, lo, dd, dl, T, b, k, n, c, fsB, rfl, hB, hfB, nBS, ⟨a, co, cu, go, xs, ys, pt, L, hS, lx, ly, hT, hco, hcu, hgo, hpt, lL, hL⟩, hcn, X, hb, hn, q⟩ := h
    have hu : (CxD P w K mg base ["self", "stood", "value", "now", "out"] "Row.step" (inClass (top 39) 8) f cdv A outer s H E).A.units + 1 < cLine := by have := hr.units; show (A.deeper _).units + 1 < cLine; omega
    refine ⟨_, pss_cons (ps_set (i := 3) scStep.nd rfl (Or.inl rfl) (pe_callB call_len_seq rfl B0.len_ bt_len (pa_cons (pe_fld (pv 1) rfl) pa_nil)))
      (pss_cons (ps_dput hu (pe_fld (pv 1) rfl) (pe_op op_add (pv 3) (pe_g G (hr.mono (by decide)) (pa_cons (pv 1) (pa_cons pe_int pa_nil)))) (pe_tup (pa_cons (pv 3) (pa_cons (pv 2) pa_nil))) rfl)
      (pss_cons (ps_fld (pv 1) (pe_slice sl_tupA (pe_fld (pv 1) rfl) (po_some pe_int) po_none) rfl)
      (pss_cons (ps_expr (pe_bm PySem.F.plainAttrs_list PySem.F.slot_list_append PySem.F.type_list_append mt_append (pe_fld (pv 1) rfl) (pa_cons (pv 2) pa_nil)))
      (pss_cons (ps_set (i := 4) scStep.nd rfl (Or.inl rfl) (pe_mt M hC hr (pv 0) (pa_cons (pv 1) (pa_cons (pv 3) (pa_cons (pe_dpop2 (pe_fld (pv 1) rfl) (pv 3) pe_non ⟨rfl, rfl, rfl, rfl⟩) pa_nil)))))
      (pss_cons (ps_expr (pe_bm PySem.F.plainAttrs_list PySem.F.slot_list_append PySem.F.type_list_append mt_append (pe_fld (pv 1) rfl) (pa_cons (pv 4) pa_nil)))
      (pss_one (ps_ret (pv 4)))))))), ?_⟩
    have l1 := X.pos
    have lh := held_len X n
    refine ⟨_, rfl, S, Cs, dx, _, _, rfl, hS.st, O.cls, O.no _ (by decide), rfl, li, xs, rfl, .inl (SqL.of hS.ins), ?_⟩
    rw [lx]
    -- the tuple
    refine ⟨_, rfl, _, rfl, (show 2 ≤ sizeLine by decide), ?_⟩
    intro p hp
    have sp := same_new (o := .tup [vn n, vn n]) hp
    have ep : upd H p (.tup [vn n, vn n]) p = some (.tup [vn n, vn n]) := upd_same
    generalize upd H p (.tup [vn n, vn n]) = H1 at sp ep ⊢
    have hS1 := hS.same sp
    refine ⟨_, rfl, S, Cs, dx, _, _, rfl, hS1.st, O.cls, O.no _ (by decide), rfl, _, rfl, _, rfl, S, dx, li, lo, dd, dl, a, co, T, .ref cu, .ref go, .int 0, xs, ys, _, _, rfl, hS1, sp.tup hco, sp.tup hT, X, _, _, rfl, rfl, ?_⟩
    rw [lx]
    refine ⟨dd, upd H1 dd (.dK (putK (kv (out T) (fun t => .ref (pt t)) (held_at T n)) (Sum.inl ((n : Int) + (hd T n : Int))) (.ref p))), rfl, DPut.k (k := Sum.inl ((n : Int) + (hd T n : Int))) hS1.due (by rw [kv_len, sizeLine_eq]; omega), ?_⟩
    have eo : (n : Int) + (hd T n : Int) = ((out T n : Nat) : Int) := rfl
    have fresh : ∀ u ∈ held_at T n, out T u ≠ out T n := fun u hu e => by
      have := (mem_held.mp hu).1
      have := out_inj X e
      omega
    rw [eo, kv_put fresh]
    have e1 : kv (out T) (fun t => .ref (pt t)) (held_at T n) ++ [(Sum.inl ((out T n : Nat) : Int), V.ref p)] = kv (out T) (fun t => .ref (if t = n then p else pt t)) (held_at T n ++ [n]) := by
      rw [kv_app]
      refine congr (congrArg _ (kv_congr fun t ht => ?_)) ?_
      · have := (mem_held.mp ht).1
        rw [if_neg (by omega)]
      · show _ = [(Sum.inl ((out T n : Nat) : Int), V.ref (if n = n then p else pt n))]
        rw [if_pos rfl]
    rw [e1]
    have hS2 := hS1.setDue (kv (out T) (fun t => .ref (if t = n then p else pt t)) (held_at T n ++ [n]))
    have k2 : Keep [S, li, lo, dd, dl] H (upd H1 dd (.dK (kv (out T) (fun t => .ref (if t = n then p else pt t)) (held_at T n ++ [n])))) := (Keep.of sp).trans (keep_at (by simp))
    have ep2 : upd H1 dd (.dK (kv (out T) (fun t => .ref (if t = n then p else pt t)) (held_at T n ++ [n]))) p = some (.tup [vn n, vn n]) := by
      rw [upd_ne (fun z => by rw [z, hS1.due] at ep; cases ep)]
      exact ep
    generalize upd H1 dd (.dK (kv (out T) (fun t => .ref (if t = n then p else pt t)) (held_at T n ++ [n]))) = H2 at hS2 k2 ep2 ⊢
    -- coming
    refine ⟨_, rfl, S, Cs, dx, _, _, rfl, hS2.st, O.cls, O.no _ (by decide), rfl, 1, rfl, co, [], rfl, hS.sqt k2 hco, fun _ => ?_, fun z => absurd ⟨rfl, rfl⟩ z⟩
    refine ⟨_, rfl, S, Cs, dx, _, rfl, hS2.st, O.cls, O.no _ (by decide), stF_len (by decide), ?_⟩
    have kS : Keep [S] H2 (upd H2 S (.ins Cs dx (stF (.ref a) (.int 0) (.ref co) (.ref li) (.ref lo) (.ref dd) (.ref cu) (.ref go) (.int 0) (.ref dl)))) := keep_at (List.mem_singleton.mpr rfl)
    have hS3 := hS2.fld (be' := .int 0) (co' := .ref co) (cu' := .ref cu) (go' := .ref go) (mn' := .int 0) kS upd_same
    have k3 : Keep [S, li, lo, dd, dl] H (upd H2 S (.ins Cs dx (stF (.ref a) (.int 0) (.ref co) (.ref li) (.ref lo) (.ref dd) (.ref cu) (.ref go) (.int 0) (.ref dl)))) := k2.trans (keep_at (by simp))
    have ep3 : upd H2 S (.ins Cs dx (stF (.ref a) (.int 0) (.ref co) (.ref li) (.ref lo) (.ref dd) (.ref cu) (.ref go) (.int 0) (.ref dl))) p = some (.tup [vn n, vn n]) := by
      rw [upd_ne (fun z => by rw [z, hS2.st] at ep2; cases ep2)]
      exact ep2
    show tSeq _ _ _ _ (upd H2 S (.ins Cs dx (stF (.ref a) (.int 0) (.ref co) (.ref li) (.ref lo) (.ref dd) (.ref cu) (.ref go) (.int 0) (.ref dl))))
    generalize upd H2 S (.ins Cs dx (stF (.ref a) (.int 0) (.ref co) (.ref li) (.ref lo) (.ref dd) (.ref cu) (.ref go) (.int 0) (.ref dl))) = H3 at hS3 k3 ep3 ⊢
    clear kS
    -- ins
    refine ⟨_, rfl, S, Cs, dx, _, _, rfl, hS3.st, O.cls, O.no _ (by decide), rfl, .inl ⟨rfl, _, SqL.of hS3.ins⟩, _, rfl, li, xs, _, rfl, rfl, hS3.ins, (by rw [lx, sizeLine_eq]; omega), ?_⟩
    have hS4 := hS3.setIns (xs ++ [vn n])
    have k4 : Keep [S, li, lo, dd, dl] H (upd H3 li (.lst (xs ++ [vn n]))) := k3.trans (keep_at (by simp))
    have ep4 : upd H3 li (.lst (xs ++ [vn n])) p = some (.tup [vn n, vn n]) := by
      rw [upd_ne (fun z => by rw [z, hS3.ins] at ep3; cases ep3)]
      exact ep3
    generalize upd H3 li (.lst (xs ++ [vn n])) = H4 at hS4 k4 ep4 ⊢
    have hB4 : ∀ {H5 : Hp}, Keep [S, li, lo, dd, dl] H H5 → H5 B = some (.ins C dxB fsB) := fun k5 => k5 _ _ hB fun z => by
      simp only [List.mem_cons, List.not_mem_nil, or_false] at z
      rcases z with z | z | z | z | z
      · exact nBS z
      · rw [z, hS.ins] at hB; cases hB
      · rw [z, hS.outs] at hB; cases hB
      · rw [z, hS.due] at hB; cases hB
      · rw [z, hS.lat] at hB; cases hB
    -- put_out and the rest
    have pts : ∀ {H5 : Hp}, Keep [S, li, lo, dd, dl] H H5 → H5 p = some (.tup [vn n, vn n]) → ∀ t ∈ held_at T n ++ [n], H5 (if t = n then p else pt t) = some (.tup [vn t, vn t]) := fun {H5} k5 e5 t ht => by
      rcases List.mem_append.mp ht with z | z
      · have := (mem_held.mp z).1
        rw [if_neg (by omega)]
        exact hS.tupOff k5 (hpt t z)
      · obtain rfl := List.mem_singleton.mp z
        rw [if_pos rfl]
        exact e5
    refine ⟨_, rfl, B, dxB, fsB, rfl, hB4 k4, hfB, _, rfl, _, rfl, ?_⟩
    have after : ∀ (H5 : Hp) (fd : V), Keep [S, li, lo, dd, dl] H H5 → H5 p = some (.tup [vn n, vn n]) → Stn H5 Cs S dx li lo dd dl (.ref a) (.int 0) (.ref co) (.ref cu) (.ref go) (.int 0) (xs ++ [vn n]) ys (kv (out T) (fun t => .ref (if t = n then p else pt t)) (held_at T (n + 1))) (kv (· + far T) vn L) → Fnd H5 T n fd →
        ∀ (Q5 : VK), (∀ v H6, Keep [S, li, lo, dd, dl] H H6 → (∃ go' L', Stn H6 Cs S dx li lo dd dl (.ref a) (.int 0) (.ref co) (.ref cu) (.ref go') (.int 0) (xs ++ [vn n]) ys (kv (out T) (fun t => .ref (if t = n then p else pt t)) (held_at T (n + 1))) (kv (· + far T) vn L') ∧
            SqT K H6 go' ((goneL b k (n + 1)).map vn) ∧ L'.length ≤ n + 1 ∧ LatB link T b k (n + 1) L' ∧ H6 p = some (.tup [vn n, vn n])) → OutB link T b k n v → Q5 v H6) → spPut K Cs C link [.ref B, .ref S, vn n, fd] H5 Q5 E0 := by
      intro H5 fd k5 e5 hS5 hf Q5 q5
      refine ⟨B, S, dxB, dx, li, lo, dd, dl, cu, go, a, T, cutL b k c, L, b, k, n, fsB, _, _, _, fd, _, ys, _, rfl, hB4 k5, hS5, X, hb, by omega, hS.sqt k5 hcu, cut_mem hcn, hS.sqt k5 hgo, hf, hS.sqt k5 hT, hL, by omega, fun H6 v go' L' k6 hS6 hg6 hL6 l6 hv => ?_⟩
      have k56 : Keep [S, li, lo, dd, dl] H5 H6 := k6.mono fun z hz => by
        simp only [List.mem_cons, List.not_mem_nil, or_false] at hz ⊢
        rcases hz with z | z
        · exact .inl z
        · exact .inr (.inr (.inr (.inr z)))
      exact q5 v H6 (k5.trans k56) ⟨go', L', hS6, hg6, by omega, hL6, hS5.tupOff k56 e5⟩ hv
    have last : ∀ v H6, Keep [S, li, lo, dd, dl] H H6 → (∃ go' L', Stn H6 Cs S dx li lo dd dl (.ref a) (.int 0) (.ref co) (.ref cu) (.ref go') (.int 0) (xs ++ [vn n]) ys (kv (out T) (fun t => .ref (if t = n then p else pt t)) (held_at T (n + 1))) (kv (· + far T) vn L') ∧
            SqT K H6 go' ((goneL b k (n + 1)).map vn) ∧ L'.length ≤ n + 1 ∧ LatB link T b k (n + 1) L' ∧ H6 p = some (.tup [vn n, vn n])) → OutB link T b k n v →
        ∃ (H7 : Hp), H7 = upd H6 lo (.lst (ys ++ [v])) ∧ H6 lo = some (.lst ys) ∧ (∃ fs6, H6 S = some (.ins Cs dx fs6) ∧ fs6.lookup ("outs" : Str) = some (V.ref lo)) ∧ Q v H7 := by
      rintro v H6 k6 ⟨go', L', hS6, hg6, l6, hL6, e6⟩ hv
      have k7 : Keep [S, li, lo, dd, dl] H (upd H6 lo (.lst (ys ++ [v]))) := k6.trans (keep_at (by simp))
      have k67 : Keep [S, li, lo, dd, dl] H6 (upd H6 lo (.lst (ys ++ [v]))) := keep_at (by simp)
      refine ⟨_, rfl, hS6.outs, ⟨_, hS6.st, rfl⟩, q _ v k7 ⟨a, co, cu, go', _, _, fun t => if t = n then p else pt t, L', hS6.setOuts (ys ++ [v]), by rw [List.length_append, lx]; rfl, by rw [List.length_append, ly]; rfl, hS.sqt k7 hT, hS.sqt k7 hco, hS.sqt k7 hcu, hS6.sqt k67 hg6, fun t ht => ?_, l6, hL6⟩ hv⟩
      refine pts k7 (hS6.tupOff k67 e6) t ?_
      rw [held_step X] at ht
      exact (List.mem_filter.mp ht).1
    refine ⟨_, rfl, S, Cs, dx, _, _, rfl, hS4.st, O.cls, O.no _ (by decide), rfl, dd, rfl, .inl ⟨_, .inl hS4.due⟩, _, rfl, _, Sum.inl ((n : Nat) : Int), hS4.due, rfl, fun v0 hv0 => ?_, fun hv0 => ?_⟩
    · -- found
      have some_t : ∃ t ∈ held_at T n ++ [n], out T t = n := by
        apply Classical.byContradiction
        intro z
        rw [kv_none (fun u hu e => z ⟨u, hu, e⟩)] at hv0
        cases hv0
      obtain ⟨t, ht, et⟩ := some_t
      have hv := kv_some (κ := out T) (f := fun t => V.ref (if t = n then p else pt t)) ht fun u _ e => out_inj X e
      rw [et] at hv
      have ev : v0 = .ref (if t = n then p else pt t) := Option.some.inj (hv0.symm.trans hv)
      subst ev
      rw [kv_drop, ← held_step X]
      have hS5 := hS4.setDue (kv (out T) (fun t => .ref (if t = n then p else pt t)) (held_at T (n + 1)))
      have k5 : Keep [S, li, lo, dd, dl] H (upd H4 dd (.dK (kv (out T) (fun t => .ref (if t = n then p else pt t)) (held_at T (n + 1))))) := k4.trans (keep_at (by simp))
      have e5 : upd H4 dd (.dK (kv (out T) (fun t => .ref (if t = n then p else pt t)) (held_at T (n + 1)))) p = some (.tup [vn n, vn n]) := by
        rw [upd_ne (fun z => by rw [z, hS4.due] at ep4; cases ep4)]
        exact ep4
      refine after _ _ k5 e5 hS5 (.inr ⟨_, t, rfl, pts k5 e5 t ht, et⟩) _ fun v H6 k6 hx hv => ?_
      obtain ⟨H7, e7, hlo, ⟨fs6, h6, hl6⟩, q7⟩ := last v H6 k6 hx hv
      exact ⟨_, rfl, S, Cs, dx, _, _, rfl, h6, O.cls, O.no _ (by decide), hl6, .inl ⟨rfl, _, SqL.of hlo⟩, _, rfl, lo, ys, _, rfl, rfl, hlo, (by rw [ly, sizeLine_eq]; omega), _, rfl, by rw [← e7]; exact q7⟩
    · have no : ∀ u ∈ held_at T n ++ [n], out T u ≠ n := fun u hu e => by
        have hv := kv_some (κ := out T) (f := fun t => V.ref (if t = n then p else pt t)) hu fun x _ e => out_inj X e
        rw [e, hv0] at hv
        cases hv
      have eh : held_at T (n + 1) = held_at T n ++ [n] := by
        rw [held_step X]
        exact List.filter_eq_self.mpr fun u hu => decide_eq_true (no u hu)
      rw [← eh] at hS4
      refine after _ _ k4 ep4 hS4 (.inl ⟨rfl, fun t e => ?_⟩) _ fun v H6 k6 hx hv => ?_
      · refine no t ?_ e
        have := le_out X t
        rw [List.mem_append, List.mem_singleton, mem_held]
        omega
      · obtain ⟨H7, e7, hlo, ⟨fs6, h6, hl6⟩, q7⟩ := last v H6 k6 hx hv
        exact ⟨_, rfl, S, Cs, dx, _, _, rfl, h6, O.cls, O.no _ (by decide), hl6, .inl ⟨rfl, _, SqL.of hlo⟩, _, rfl, lo, ys, _, rfl, rfl, hlo, (by rw [ly, sizeLine_eq]; omega), _, rfl, by rw [← e7]; exact q7⟩
end
theorem StAt.keep {K : PySem.W.Frag} {H H' : Hp} {Vs : List Addr} {Cs S dx li lo dd dl : Addr} {T : List Nat} {b k n : Nat} {c link : Bool} (h : StAt K H Cs S dx li lo dd dl T b k n c link) (kp : Keep Vs H H') (hV : ∀ v ∈ Vs, v ∉ [S, li, lo, dd, dl] ∧ (∀ zs, H v ≠ some (.tup zs)) ∧ ∀ o u, H v ≠ some (.frz o u)) :
    StAt K H' Cs S dx li lo dd dl T b k n c link := by
  obtain ⟨a, co, cu, go, xs, ys, pt, L, hS, lx, ly, hT, hco, hcu, hgo, hpt, lL, hL⟩ := h.ex
  have off : ∀ {x : Addr} {u : HO}, H x = some u → x ∈ [S, li, lo, dd, dl] → H' x = some u := fun e hx => kp _ _ e fun z => (hV _ z).1 hx
  have tp : ∀ {x : Addr} {zs : List V}, H x = some (.tup zs) → H' x = some (.tup zs) := fun e => kp _ _ e fun z => (hV _ z).2.1 _ e
  have sq : ∀ {x : Addr} {zs : List V}, SqT K H x zs → SqT K H' x zs := fun q => sqt_off kp q (fun v hv => (hV v hv).2.1) fun v hv => (hV v hv).2.2
  exact ⟨a, co, cu, go, xs, ys, pt, L, ⟨off hS.st (by simp), off hS.ins (by simp), off hS.outs (by simp), off hS.due (by simp), off hS.lat (by simp), hS.n1, hS.n2⟩, lx, ly, sq hT, sq hco, sq hcu, sq hgo, fun t ht => tp (hpt t ht), lL, hL⟩
theorem StAt.same {K : PySem.W.Frag} {H H' : Hp} {Cs S dx li lo dd dl : Addr} {T : List Nat} {b k n : Nat} {c link : Bool} (s : Same H H') (h : StAt K H Cs S dx li lo dd dl T b k n c link) : StAt K H' Cs S dx li lo dd dl T b k n c link := h.keep (Vs := []) (Keep.of s) fun _ z => by cases z
theorem yes_go {σ : L2.St} {H : Hp} {A B : Hp → Prop} (h : A H) : tYes σ H (fun b H3 => if b = true then A H3 else B H3) := by
  show (if (true : Bool) = true then A H else B H)
  rw [if_pos rfl]
  exact h
/-- how many stands more than pushes -/
def roomOf (c : Bool) : Nat := if c = true then 2 else 1
theorem roomOf_le (c : Bool) : roomOf c ≤ 2 := by cases c <;> decide
/-- a row behind n pushes; W: its parts -/
structure RowAt (K : PySem.W.Frag) (H : Hp) (Cs C B l : Addr) (T : List Nat) (b k n : Nat) (c link : Bool) (W : List Addr) : Prop where
  ex : ∃ (dxB S dx li lo dd dl : Addr) (Ls : List V), W = [B, l, S, li, lo, dd, dl] ∧ H B = some (.ins C dxB [("stands", .ref l)]) ∧ H l = some (.lst (Ls ++ [.ref S])) ∧ Ls.length ≤ n + roomOf c ∧ B ≠ S ∧ l ≠ li ∧ l ≠ lo ∧ StAt K H Cs S dx li lo dd dl T b k n c link
theorem RowAt.keep {K : PySem.W.Frag} {H H' : Hp} {Vs : List Addr} {Cs C B l : Addr} {T : List Nat} {b k n : Nat} {c link : Bool} {W : List Addr} (h : RowAt K H Cs C B l T b k n c link W) (kp : Keep Vs H H') (hV : ∀ v ∈ Vs, v ∉ W ∧ (∀ zs, H v ≠ some (.tup zs)) ∧ ∀ o u, H v ≠ some (.frz o u)) : RowAt K H' Cs C B l T b k n c link W := by
  obtain ⟨dxB, S, dx, li, lo, dd, dl, Ls, rfl, h1, h2, h3, h4, h5, h6, h7⟩ := h.ex
  exact ⟨dxB, S, dx, li, lo, dd, dl, Ls, rfl, kp _ _ h1 fun z => (hV _ z).1 (by simp), kp _ _ h2 fun z => (hV _ z).1 (by simp), h3, h4, h5, h6, h7.keep kp fun v hv => ⟨fun z => (hV v hv).1 (List.mem_cons_of_mem _ (List.mem_cons_of_mem _ z)), (hV v hv).2⟩⟩
theorem RowAt.same {K : PySem.W.Frag} {H H' : Hp} {Cs C B l : Addr} {T : List Nat} {b k n : Nat} {c link : Bool} {W : List Addr} (s : Same H H') (h : RowAt K H Cs C B l T b k n c link W) : RowAt K H' Cs C B l T b k n c link W := h.keep (Vs := []) (Keep.of s) fun _ z => by cases z
section
variable {P : Program} {w : World} {K : PySem.W.Frag} {base : Heap} {mg : Str → Option Value}
/-! ## Row.__init__ -/
def spRowInit (K : PySem.W.Frag) (Cs C : Addr) : Sp := fun vs H Q _ => ∃ (B dxB a : Addr) (T : List Nat), vs = [.ref B, .ref a] ∧ H B = some (.ins C dxB []) ∧ TabAt K H a T ∧ Tab T ∧
  ∀ H' l W, Keep [B] H H' → H l = none → (∀ z ∈ W, z = B ∨ H z = none) → (∀ (b k : Nat) (link : Bool), RowAt K H' Cs C B l T b k 0 false link W) → Q .non H'
theorem scRow : FnScope ["self", "table"] ["self", "table"] (defScope (inClass (top 39) 1)) := ⟨rfl, rfl, rfl, by decide +kernel, rfl, by decide +kernel, by decide +kernel⟩
theorem m_row {Cs C : Addr} (O : Ob K C ["stands"]) (mk : Mkc K mg "Stand" Cs) (M : MF P w K mg base Cs "__init__" 1 (spInit Cs)) (G : GF P w K mg base "need_table" 4 (spNeedTab K)) (d : Dm K C "__init__" "Row.__init__" (inClass (top 39) 1) ["self", "table"]) :
    MF P w K mg base C "__init__" 5 (spRowInit K Cs C) := by
  refine mf_of d scRow (fun vs H Q E h => ?_) (fun f cdv A outer s H vs Q E hr h => ?_)
  · obtain ⟨B, dxB, a, T, rfl, _⟩ := h
    rfl
  · obtain ⟨B, dxB, a, T, rfl, hB, hT, X, q⟩ := h
    refine ⟨_, pss_cons (ps_expr (pe_g G hr (pa_cons (pv 1) pa_nil))) (pss_one (ps_fld (pv 0) (pe_lst (pa_cons (pe_mk M mk (hr.mono (by decide)) (pa_cons (pv 1) pa_nil)) pa_nil)) rfl)), ?_⟩
    refine ⟨_, rfl, a, T, rfl, hT, X, fun H1 s1 => ⟨_, rfl, fun x dx hx hdx nd => ⟨x, dx, _, rfl, upd_same, fun H2 c li lo dd cu go dl k2 e2 ec eli elo edd ecu ego edl n1 n2 fli flo fdd fdl => ⟨rfl, (show 1 ≤ sizeLine by decide), ?_⟩⟩⟩⟩
    have s01 : Same H1 (upd (upd H1 dx (.own x)) x (.ins Cs dx [])) := fun b u e => by rw [upd_ne (ne_of_none e hx), upd_ne (ne_of_none e hdx)]; exact e
    have s2 : Same H1 H2 := fun b u e => k2 _ _ (s01 _ _ e) (by rw [List.mem_singleton]; exact ne_of_none e hx)
    intro l hl
    have s3 := same_new (o := .lst [.ref x]) hl
    have el : upd H2 l (.lst [.ref x]) l = some (.lst [.ref x]) := upd_same
    have nl : ∀ {z : Addr} {u : HO}, H2 z = some u → l ≠ z := fun e z => by rw [← z, hl] at e; cases e
    have nlli := nl eli
    have nllo := nl elo
    generalize upd H2 l (.lst [.ref x]) = H3 at s3 el ⊢
    have sH := s1.trans (s2.trans s3)
    refine ⟨_, rfl, B, C, dxB, _, rfl, sH _ _ hB, O.cls, O.no _ (by decide), (show 0 < 1000 by decide), ?_⟩
    have low : ∀ {z : Addr}, (upd (upd H1 dx (.own x)) x (.ins Cs dx [])) z = none → H z = none := fun h => low_none s1 (low_none s01 h)
    have k4 : Keep [B] H (upd H3 B (.ins C dxB (putF "stands" (.ref l) []))) := (Keep.of sH).trans (keep_at (List.mem_singleton.mpr rfl))
    have e4 : upd H3 B (.ins C dxB (putF "stands" (.ref l) [])) B = some (.ins C dxB [("stands", .ref l)]) := upd_same
    have k34 : Keep [B] H3 (upd H3 B (.ins C dxB (putF "stands" (.ref l) []))) := keep_at (List.mem_singleton.mpr rfl)
    have nB : ∀ {z : Addr}, H z = none → z ∉ [B] := fun e z => by rw [List.mem_singleton.mp z, hB] at e; cases e
    have nBx : B ≠ x := fun z => by rw [← z, s1 _ _ hB] at hx; cases hx
    have at4 : ∀ {z : Addr} {u : HO}, H2 z = some u → (∀ C' d' f', u ≠ .ins C' d' f') → upd H3 B (.ins C dxB (putF "stands" (.ref l) [])) z = some u := fun {z u} e nu => k34 _ _ (s3 _ _ e) fun m => by
      rw [List.mem_singleton.mp m, (s1.trans s2) _ _ hB] at e
      exact nu _ _ _ (Option.some.inj e).symm
    refine q _ l [B, l, x, li, lo, dd, dl] k4 (low_none (s1.trans s2) hl) (fun z hz => ?_) fun b k link => ⟨dxB, x, dx, li, lo, dd, dl, [], rfl, e4, k34 _ _ el (nB (low_none (s1.trans s2) hl)), Nat.zero_le _, nBx, nlli, nllo, a, c, cu, go, [], [], fun _ => 0, [],
      ⟨k34 _ _ (s3 _ _ e2) (by rw [List.mem_singleton]; exact Ne.symm nBx), at4 eli fun _ _ _ => by simp, at4 elo fun _ _ _ => by simp, at4 edd fun _ _ _ => by simp, at4 edl fun _ _ _ => by simp, n1, n2⟩, rfl, rfl, ?_, SqT.of (at4 ec fun _ _ _ => by simp), SqT.of (at4 ecu fun _ _ _ => by simp), SqT.of (at4 ego fun _ _ _ => by simp), (fun t ht => by cases ht), Nat.le_refl _, ?_⟩
    · simp only [List.mem_cons, List.not_mem_nil, or_false] at hz
      rcases hz with rfl | rfl | rfl | rfl | rfl | rfl | rfl
      · exact .inl rfl
      · exact .inr (low_none (s1.trans s2) hl)
      · exact .inr (low_none s1 hx)
      · exact .inr (low fli)
      · exact .inr (low flo)
      · exact .inr (low fdd)
      · exact .inr (low fdl)
    · exact sqt_off k34 (sH.tup hT) (fun b hb ys => by rw [List.mem_singleton.mp hb, sH _ _ hB]; simp) fun b hb o u => by rw [List.mem_singleton.mp hb, sH _ _ hB]; simp
    · unfold LatB
      cases link with
      | false => rfl
      | true => exact ⟨List.nodup_nil, fun t => ⟨(fun z => by cases z), fun z => absurd z.1 (Nat.not_lt_zero _)⟩⟩
/-! ## push_all, push -/
structure Dv (K : PySem.W.Frag) (C : Addr) (m qual : Str) (st : Stmt) : Prop where
  ex : ∃ f fd, Fun K m qual st f fd ∧ Meth K C m f
theorem bindVals (kV doc pm ct cdv : Value) (an : Option Addr) : ∀ us rest : List Value, us.length = ["self"].length →
    bindArgs (PySem.W.fnOf "push_all" "Row.push_all" (defArgs (inClass (top 39) 10)) (defBody (inClass (top 39) 10)) (defScope (inClass (top 39) 10)) .none kV doc pm an cdv ct) ⟨us ++ rest, []⟩ = (newTuple rest >>= fun t => pure ((["self"] : List Str).zip us ++ [(("values" : Str), t)])) :=
  StX.bind_star1 (B := fun us => bindArgs (PySem.W.fnOf "push_all" "Row.push_all" (defArgs (inClass (top 39) 10)) (defBody (inClass (top 39) 10)) (defScope (inClass (top 39) 10)) .none kV doc pm an cdv ct) ⟨us, []⟩) (fun a => rfl) (fun a r rs => rfl)
def spPush (K : PySem.W.Frag) (Cs C : Addr) (link : Bool) (vk : VK → VK) : Sp := fun vs H Q _ => ∃ (B l : Addr) (T W : List Nat) (b k n : Nat) (c : Bool), vs = [.ref B, vn n] ∧ RowAt K H Cs C B l T b k n c link W ∧ (c = false → n < b) ∧ Tab T ∧ far T ≤ b ∧ n ≤ 3000 ∧
  ∀ H' v W', Keep [l] H H' → (∀ z ∈ W', z ∈ W ∨ H z = none) → RowAt K H' Cs C B l T b k (n + 1) c link W' → OutB link T b k n v → vk Q v H'
/-- the result within a tuple -/
def inTup : VK → VK := fun Q v H => ∀ p, H p = some (.tup [v]) → Q (.ref p) H
theorem scPushAll : FnScope ["self", "values", "value", "stood", "found"] ((["self"] : List Str) ++ [("values" : Str)]) (defScope (inClass (top 39) 10)) := ⟨rfl, rfl, rfl, by decide +kernel, rfl, by decide +kernel, by decide +kernel⟩
theorem m_pushAll {Cs C : Addr} {link : Bool} (O : Ob K C ["stands"]) (B0 : Bt mg) (G1 : GF P w K mg base "need_value" 3 spNeedInt) (G2 : GF P w K mg base "copied" 3 (spCopied Cs)) (M : MF P w K mg base C "step" 4 (spStep K Cs C link)) (d : Dv K C "push_all" "Row.push_all" (inClass (top 39) 10)) :
    MF P w K mg base C "push_all" 5 (spPush K Cs C link inTup) := by
  obtain ⟨f, fd, ⟨⟨oc, od, kV, doc, pm, an, cdv, ct, osl, rfl, lk, hcd⟩, kp⟩, hm⟩ := d.ex
  refine ⟨f, FnR.imp (StX.fn_star (sp := fun vs H Q _ => ∃ (B l p : Addr) (T W : List Nat) (b k n : Nat) (c : Bool), vs = [.ref B, .ref p] ∧ H p = some (.tup [vn n]) ∧ RowAt K H Cs C B l T b k n c link W ∧ (c = false → n < b) ∧ Tab T ∧ far T ≤ b ∧ n ≤ 3000 ∧
      ∀ H' v W', Keep [l] H H' → (∀ z ∈ W', z ∈ W ∨ H z = none) → RowAt K H' Cs C B l T b k (n + 1) c link W' → OutB link T b k n v → inTup Q v H') lk hcd scPushAll (fun outer s H s2 H2 E e s' _ _ _ z => z) (bindVals kV doc pm ct cdv an) ?_) ?_, hm⟩
  · rintro A outer s H vs Q E hr ⟨B, l, p, T, W, b, k, n, c, rfl, hp, hR, hcn, X, hb, hn, q⟩
    refine ⟨_, PSs.nox (pss_cons (ps_for PassesOwn.never rfl (pi_tup (pv 1)) (pg_name (i := 2) scPushAll.nd rfl (Or.inl rfl)) (pss_one (ps_expr (pe_g G1 (hr.mono (by decide)) (pa_cons (pv 2) pa_nil)))))
      (pss_cons (ps_set (i := 3) scPushAll.nd rfl (Or.inr rfl) (pe_g G2 (hr.mono (by decide)) (pa_cons (pe_ix ix_list (pe_fld (pv 0) rfl) (pe_un un_neg pe_int) (fun _ _ => rfl)) pa_nil)))
      (pss_cons (ps_set (i := 4) scPushAll.nd rfl (Or.inl rfl) (pe_callTy call_tuple_of rfl B0.tuple_ bt_tuple (pa_cons (pe_lc (own := [("value", 2)]) (g := gName 2) (tt := tYes) rfl scPushAll.nd (pi_tup (pv 1))
          (blkOk_by (N := ["self", "values", "value", "stood", "found"]) (sc := defScope (inClass (top 39) 10)) (by decide +kernel)) (fun _ _ _ _ _ => pg_name (i := 2) scPushAll.nd rfl (Or.inl rfl)) (fun _ _ _ _ _ => pts_nil)
          (fun _ _ _ _ _ => pe_mt M O.cls hr (pv 0) (pa_cons (pv 3) (pa_cons (pv 2) pa_nil)))) pa_nil)))
      (pss_cons (ps_expr (pe_bm PySem.F.plainAttrs_list PySem.F.slot_list_append PySem.F.type_list_append mt_append (pe_fld (pv 0) rfl) (pa_cons (pv 3) pa_nil)))
      (pss_one (ps_ret (pv 4))))))), ?_⟩
    obtain ⟨dxB, S, dx, li, lo, dd, dl, Ls, rfl, hB, hl, lLs, nBS, n1, n2, ⟨a, co, cu, go, xs, ys, pt, L, hS, lx, ly, hT, hco, hcu, hgo, hpt, lL, hL⟩⟩ := hR.ex
    refine ⟨_, rfl, p, rfl, ⟨_, SqT.of hp⟩, for_tup (K := K) (a := p) (xs := [vn n]) (fun i σ H2 => H2 = H ∧ ∃ x, σ = [some (.ref B), some (.ref p), x, none, none]) ⟨rfl, none, rfl⟩ (fun i σ H2 _ h => by rw [h.1]; exact SqT.of hp) ?_ ?_⟩
    · rintro i x σ H2 hi ⟨rfl, x0, rfl⟩
      obtain ⟨h1, h2⟩ := List.getElem?_eq_some_iff.mp hi
      have : i = 0 := by simp at h1; omega
      subst this
      obtain rfl : vn n = x := h2
      exact ⟨_, rfl, _, rfl, rfl, _, rfl⟩
    · rintro σ H2 ⟨rfl, x0, rfl⟩
      refine ⟨_, rfl, B, C, dxB, _, _, rfl, hB, O.cls, O.no _ (by decide), rfl, _, rfl, l, _, _, .ref S, rfl, rfl, SqL.of hl, atI_last _ _, ?_⟩
      refine ⟨S, dx, li, lo, dd, dl, _, _, _, _, _, _, xs, ys, _, _, rfl, hS, fun H3 S' dx' li' lo' dd' dl' s3 f1 f2 f3 f4 f5 hS' => ?_⟩
      have st3 : StAt K H3 Cs S' dx' li' lo' dd' dl' T b k n c link := ⟨a, co, cu, go, xs, ys, pt, L, hS', lx, ly, s3.tup hT, s3.tup hco, s3.tup hcu, s3.tup hgo, fun t ht => s3 _ _ (hpt t ht), lL, hL⟩
      have old : ∀ {z : Addr} {u : HO}, H2 z = some u → z ∉ [S', li', lo', dd', dl'] := fun {z u} e m => by
        simp only [List.mem_cons, List.not_mem_nil, or_false] at m
        rcases m with rfl | rfl | rfl | rfl | rfl
        · rw [f1] at e; cases e
        · rw [f2] at e; cases e
        · rw [f3] at e; cases e
        · rw [f4] at e; cases e
        · rw [f5] at e; cases e
      have nBS' : B ≠ S' := fun z => old hB (by rw [z]; simp)
      have rc := roomOf_le c
      refine ⟨_, rfl, p, rfl, ⟨_, SqT.of (s3 _ _ hp)⟩, fun D hD => lc_it (walk_tup (K := K) (a := p) (xs := [vn n])) (fun i H4 => (i = 0 ∧ H4 = upd H3 D (.lst [])) ∨ (i = 1 ∧ ∃ v, Keep [S', li', lo', dd', dl'] H3 H4 ∧ H4 D = some (.lst [v]) ∧ StAt K H4 Cs S' dx' li' lo' dd' dl' T b k (n + 1) c link ∧ OutB link T b k n v))
        (.inl ⟨rfl, rfl⟩) (fun i H4 _ h => ?_) (fun i x H4 H5 lt h y => ?_) fun H4 h => ?_⟩
      · rcases h with ⟨_, rfl⟩ | ⟨_, v, k4, _⟩
        · exact SqT.of (same_new hD _ _ (s3 _ _ hp))
        · exact SqT.of (k4 _ _ (s3 _ _ hp) (old hp))
      · have i0 : i = 0 := by simp at lt; omega
        subst i0
        obtain ⟨rfl, hx⟩ := y
        obtain rfl : vn n = x := Option.some.inj hx
        rcases h with ⟨_, rfl⟩ | ⟨h, _⟩
        · have sD := same_new (o := .lst []) hD
          have nD : D ∉ [S', li', lo', dd', dl'] := fun m => by
            simp only [List.mem_cons, List.not_mem_nil, or_false] at m
            rcases m with rfl | rfl | rfl | rfl | rfl
            · rw [hS'.st] at hD; cases hD
            · rw [hS'.ins] at hD; cases hD
            · rw [hS'.outs] at hD; cases hD
            · rw [hS'.due] at hD; cases hD
            · rw [hS'.lat] at hD; cases hD
          refine ⟨rfl, yes_go ?_⟩
          refine ⟨_, rfl, B, dxB, _, rfl, sD _ _ (s3 _ _ hB), rfl, _, rfl, _, rfl, B, S', dxB, dx', li', lo', dd', dl', T, b, k, n, c, _, rfl, sD _ _ (s3 _ _ hB), rfl, nBS', st3.same sD, hcn, X, hb, hn, fun H6 v k6 st6 hv => ?_⟩
          have k36 : Keep [S', li', lo', dd', dl'] H3 H6 := (Keep.of sD).trans k6
          have eD : H6 D = some (.lst []) := k6 _ _ upd_same nD
          refine ⟨[], eD, (show 0 < sizeLine by decide), .inr ⟨rfl, v, ?_, upd_same, st6.keep (Vs := [D]) (keep_at (List.mem_singleton.mpr rfl)) fun z hz => ?_, hv⟩⟩
          · intro z u e nz
            rw [upd_ne (ne_of_none e hD)]
            exact k36 _ _ e nz
          · rw [List.mem_singleton.mp hz]
            exact ⟨nD, fun zs => by rw [eD]; simp, fun _ _ => by rw [eD]; simp⟩
        · exact absurd h (by decide)
      · rcases h with ⟨h, _⟩ | ⟨_, v, k4, eD, st4, hv⟩
        · exact absurd h (by simp)
        refine ⟨D, _, rfl, .inl ⟨SqL.of eD, fun p2 hp2 => ?_⟩⟩
        have s5 := same_new (o := .tup [v]) hp2
        have e5 : upd H4 p2 (.tup [v]) p2 = some (.tup [v]) := upd_same
        generalize upd H4 p2 (.tup [v]) = H5 at s5 e5 ⊢
        have hB5 := s5 _ _ (k4 _ _ (s3 _ _ hB) (old hB))
        have hl5 := s5 _ _ (k4 _ _ (s3 _ _ hl) (old hl))
        refine ⟨_, rfl, B, C, dxB, _, _, rfl, hB5, O.cls, O.no _ (by decide), rfl, .inl ⟨rfl, _, SqL.of hl5⟩, _, rfl, l, _, _, rfl, rfl, hl5, (by rw [List.length_append, sizeLine_eq]; simp; omega), ?_⟩
        have np2 : p2 ≠ l := fun z => by rw [z, hl5] at e5; cases e5
        have kH5 : Keep [l] H2 H5 := fun z u e _ => s5 _ _ (k4 _ _ (s3 _ _ e) (old e))
        refine ⟨_, rfl, q _ v [B, l, S', li', lo', dd', dl'] (kH5.trans (keep_at (List.mem_singleton.mpr rfl))) (fun z hz => ?_) ⟨dxB, S', dx', li', lo', dd', dl', Ls ++ [.ref S], rfl, ?_, upd_same, by rw [List.length_append]; simp; omega, nBS', ?_, ?_, ?_⟩ hv p2 (by rw [upd_ne np2]; exact e5)⟩
        · simp only [List.mem_cons, List.not_mem_nil, or_false] at hz
          rcases hz with rfl | rfl | rfl | rfl | rfl | rfl | rfl
          · exact .inl (by simp)
          · exact .inl (by simp)
          · exact .inr f1
          · exact .inr f2
          · exact .inr f3
          · exact .inr f4
          · exact .inr f5
        · rw [upd_ne (fun z => by rw [z, hl5] at hB5; cases hB5)]
          exact hB5
        · exact fun z => old hl (by rw [z]; simp)
        · exact fun z => old hl (by rw [z]; simp)
        · refine (st4.same s5).keep (Vs := [l]) (keep_at (List.mem_singleton.mpr rfl)) fun z hz => ?_
          rw [List.mem_singleton.mp hz]
          exact ⟨old hl, fun zs => by rw [hl5]; simp, fun _ _ => by rw [hl5]; simp⟩
  · rintro vs H Q E ⟨B, l, T, W, b, k, n, c, rfl, hR, hcn, X, hb, hn, q⟩
    refine ⟨[.ref B], [vn n], rfl, rfl, (show 1 ≤ sizeLine by decide), fun p hp => ⟨B, l, p, T, W, b, k, n, c, rfl, upd_same, hR.same (same_new hp), hcn, X, hb, hn, fun H' v W' k1 hw hR' hv => q H' v W' (fun b o e n => k1 b o (same_new hp _ _ e) n) (fun z hz => ?_) hR' hv⟩⟩
    rcases hw z hz with h | h
    · exact .inl h
    · exact .inr (low_none (same_new hp) h)
end
/-- ascending lists with the same members -/
theorem asc_ext : ∀ {l m : List Int}, l.Pairwise (· < ·) → m.Pairwise (· < ·) → (∀ x, x ∈ l ↔ x ∈ m) → l = m
  | [], [], _, _, _ => rfl
  | [], y :: m, _, _, h => by have := (h y).mpr List.mem_cons_self; cases this
  | x :: l, [], _, _, h => by have := (h x).mp List.mem_cons_self; cases this
  | x :: l, y :: m, h1, h2, h => by
    obtain ⟨a1, b1⟩ := List.pairwise_cons.mp h1
    obtain ⟨a2, b2⟩ := List.pairwise_cons.mp h2
    have e : x = y := by
      rcases List.mem_cons.mp ((h x).mp List.mem_cons_self) with z | z
      · exact z
      · rcases List.mem_cons.mp ((h y).mpr List.mem_cons_self) with z2 | z2
        · exact z2.symm
        · have := a2 _ z
          have := a1 _ z2
          omega
    subst e
    rw [asc_ext b1 b2 fun z => ?_]
    constructor
    · intro hz
      rcases List.mem_cons.mp ((h z).mp (List.mem_cons_of_mem _ hz)) with q | q
      · have := a1 _ hz
        omega
      · exact q
    · intro hz
      rcases List.mem_cons.mp ((h z).mpr (List.mem_cons_of_mem _ hz)) with q | q
      · have := a2 _ hz
        omega
      · exact q
/-- so many from n on -/
def upFrom (n m : Nat) : List Int := (List.range m).map fun j => ((n + j : Nat) : Int)
theorem upFrom_asc (n m : Nat) : (upFrom n m).Pairwise (· < ·) := by
  unfold upFrom
  rw [List.pairwise_map]
  exact (List.pairwise_lt_range (n := m)).imp fun h => by omega
theorem upFrom_mem {n m : Nat} {x : Int} : x ∈ upFrom n m ↔ ∃ y : Nat, x = (y : Int) ∧ n ≤ y ∧ y < n + m := by
  unfold upFrom
  rw [List.mem_map]
  constructor
  · rintro ⟨j, hj, rfl⟩
    rw [List.mem_range] at hj
    exact ⟨_, rfl, by omega, by omega⟩
  · rintro ⟨y, rfl, h1, h2⟩
    exact ⟨y - n, List.mem_range.mpr (by omega), by congr 1; omega⟩
/-- a property of the instances of C -/
structure Dpr (K : PySem.W.Frag) (C : Addr) (f qual : Str) (st : Stmt) : Prop where
  ex : ∃ p g fd, PropOf K C f p g ∧ Fun K f qual st g fd ∧ Binds K fd ["self"] []
def PF (P : Program) (w : World) (K : PySem.W.Frag) (mg : Str → Option Value) (base : Heap) (C : Addr) (f : Str) (k : Nat) (sp : Sp) : Prop := ∃ p g fd ps, PropOf K C f p g ∧ FnOk P w K mg base CX0 k g fd ps sp ∧ Binds K fd ps []
theorem pf_of {P : Program} {w : World} {K : PySem.W.Frag} {mg : Str → Option Value} {base : Heap} {k : Nat} {sp : Sp} {N : List Str} {x qual : Str} {st : Stmt} {C : Addr} (d : Dpr K C x qual st) (S : FnScope N ["self"] (defScope st)) (len : ∀ vs H Q E, sp vs H Q E → vs.length = 1)
    (hbody : ∀ (f : Addr) (cdv : Value) (A : Around) (outer : List Env) (s : Shared) (H : Hp) (vs : List V) (Q : VK) (E : XK), Room k (A.deeper (envOfC qual (defScope st) s.heap.objs.size f cdv)) → sp vs H Q E →
      ∃ t, PSs (CxD P w K mg base N qual st f cdv A outer s H E) (defBody st) t ∧ t { nx := fun _ H' => Q .non H', rt := Q } (start N vs) H) : PF P w K mg base C x (k + 1) sp := by
  obtain ⟨p, g, fd, h1, F, B⟩ := d.ex
  exact ⟨p, g, fd, _, h1, F.ok S len (hbody g), B⟩
theorem pe_pf {X : Cx} {k : Nat} {sp : Sp} {C : Addr} {f : Str} {e : Expr} {ta : TE} {pos : Pos} (F : PF X.prog X.w X.K X.mg X.base C f k sp) (c : Cls X.K C) (hr : Room (k + 1) X.A) (he : PE X e ta) (hab : attributeBase e f X.env (eval e X.env) = eval e X.env := by rfl) :
    PE X (.Attribute e f pos) (tProp C sp [] E0 ta) := by
  obtain ⟨p, g, fd, ps, h1, h2, h3⟩ := F
  exact pe_prop he c h1 h2 hr h3 .nil pass0 hab
section
variable {P : Program} {w : World} {K : PySem.W.Frag} {base : Heap} {mg : Str → Option Value}
theorem scPush : FnScope ["self", "value"] ["self", "value"] (defScope (inClass (top 39) 9)) := ⟨rfl, rfl, rfl, by decide +kernel, rfl, by decide +kernel, by decide +kernel⟩
theorem m_push {Cs C : Addr} {link : Bool} (O : Ob K C ["stands"]) (G : GF P w K mg base "need_value" 3 spNeedInt) (M : MF P w K mg base C "push_all" 5 (spPush K Cs C link inTup)) (d : Dm K C "push" "Row.push" (inClass (top 39) 9) ["self", "value"]) :
    MF P w K mg base C "push" 6 (spPush K Cs C link id) := by
  refine mf_of d scPush (fun vs H Q E h => ?_) (fun f cdv A outer s H vs Q E hr h => ?_)
  · obtain ⟨B, l, T, W, b, k, n, c, rfl, _⟩ := h
    rfl
  · obtain ⟨B, l, T, W, b, k, n, c, rfl, hR, hcn, X, hb, hn, q⟩ := h
    refine ⟨_, pss_cons (ps_expr (pe_g G (hr.mono (by decide)) (pa_cons (pv 1) pa_nil))) (pss_one (ps_ret (pe_ix ix_tup (pe_mt M O.cls hr (pv 0) (pa_cons (pv 1) pa_nil)) pe_int (fun _ _ => rfl)))), ?_⟩
    obtain ⟨dxB, S, dx, li, lo, dd, dl, Ls, eW, hB, _⟩ := hR.ex
    refine ⟨_, rfl, _, rfl, _, rfl, B, dxB, _, rfl, hB, rfl, _, rfl, B, l, T, W, b, k, n, c, rfl, hR, hcn, X, hb, hn, fun H' v W' k1 hw hR' hv p hp => ?_⟩
    exact ⟨p, _, 0, v, rfl, rfl, SqT.of hp, rfl, q H' v W' k1 hw hR' hv⟩
/-! ## tick, lost, held, lose -/
def spTick (K : PySem.W.Frag) (Cs C : Addr) : Sp := fun vs H Q _ => ∃ (B l : Addr) (T W : List Nat) (b k n : Nat) (c link : Bool), vs = [.ref B] ∧ RowAt K H Cs C B l T b k n c link W ∧ Q (vn n) H
theorem scTick : FnScope ["self"] ["self"] (defScope (inClass (top 39) 4)) := ⟨rfl, rfl, rfl, by decide +kernel, rfl, by decide +kernel, by decide +kernel⟩
theorem p_tick {Cs C : Addr} (Os : Ob K Cs standNs) (O : Ob K C ["stands"]) (B0 : Bt mg) (d : Dpr K C "tick" "Row.tick" (inClass (top 39) 4)) : PF P w K mg base C "tick" 1 (spTick K Cs C) := by
  refine pf_of d scTick (fun vs H Q E h => ?_) (fun f cdv A outer s H vs Q E hr h => ?_)
  · obtain ⟨B, l, T, W, b, k, n, c, link, rfl, _⟩ := h
    rfl
  · obtain ⟨B, l, T, W, b, k, n, c, link, rfl, hR, q⟩ := h
    obtain ⟨dxB, S, dx, li, lo, dd, dl, Ls, eW, hB, hl, _, _, _, _, ⟨a, co, cu, go, xs, ys, pt, L, hS, lx, ly, hT, hco, hcu, hgo, hpt, lL, hL⟩⟩ := hR.ex
    refine ⟨_, pss_one (ps_ret (pe_callB call_len_seq rfl B0.len_ bt_len (pa_cons (pe_fld (pe_ix ix_list (pe_fld (pv 0) rfl) (pe_un un_neg pe_int) (fun _ _ => rfl)) rfl) pa_nil))), ?_⟩
    refine ⟨_, rfl, B, C, dxB, _, _, rfl, hB, O.cls, O.no _ (by decide), rfl, _, rfl, l, _, _, .ref S, rfl, rfl, SqL.of hl, atI_last _ _, ?_⟩
    refine ⟨S, Cs, dx, _, _, rfl, hS.st, Os.cls, Os.no _ (by decide), rfl, li, xs, rfl, .inl (SqL.of hS.ins), ?_⟩
    rw [lx]
    exact q
def spGone (K : PySem.W.Frag) (Cs C : Addr) : Sp := fun vs H Q _ => ∃ (B l : Addr) (T W : List Nat) (b k n : Nat) (c link : Bool), vs = [.ref B] ∧ RowAt K H Cs C B l T b k n c link W ∧ ∀ go, SqT K H go ((goneL b k n).map vn) → Q (.ref go) H
theorem scGone : FnScope ["self"] ["self"] (defScope (inClass (top 40) 1)) := ⟨rfl, rfl, rfl, by decide +kernel, rfl, by decide +kernel, by decide +kernel⟩
theorem p_gone {Cs C : Addr} (Os : Ob K Cs standNs) (O : Ob K C ["stands"]) (d : Dpr K C "lost" "Losing.lost" (inClass (top 40) 1)) : PF P w K mg base C "lost" 1 (spGone K Cs C) := by
  refine pf_of d scGone (fun vs H Q E h => ?_) (fun f cdv A outer s H vs Q E hr h => ?_)
  · obtain ⟨B, l, T, W, b, k, n, c, link, rfl, _⟩ := h
    rfl
  · obtain ⟨B, l, T, W, b, k, n, c, link, rfl, hR, q⟩ := h
    obtain ⟨dxB, S, dx, li, lo, dd, dl, Ls, eW, hB, hl, _, _, _, _, ⟨a, co, cu, go, xs, ys, pt, L, hS, lx, ly, hT, hco, hcu, hgo, hpt, lL, hL⟩⟩ := hR.ex
    refine ⟨_, pss_one (ps_ret (pe_fld (pe_ix ix_list (pe_fld (pv 0) rfl) (pe_un un_neg pe_int) (fun _ _ => rfl)) rfl)), ?_⟩
    refine ⟨_, rfl, B, C, dxB, _, _, rfl, hB, O.cls, O.no _ (by decide), rfl, _, rfl, l, _, _, .ref S, rfl, rfl, SqL.of hl, atI_last _ _, ?_⟩
    exact ⟨S, Cs, dx, _, _, rfl, hS.st, Os.cls, Os.no _ (by decide), rfl, q go hgo⟩
def spHeldR (K : PySem.W.Frag) (Cs C : Addr) : Sp := fun vs H Q _ => ∃ (B l : Addr) (T W : List Nat) (b k n : Nat) (c link : Bool), vs = [.ref B] ∧ RowAt K H Cs C B l T b k n c link W ∧ Tab T ∧ n ≤ 4000 ∧
  ∀ H' p zs, Same H H' → H' p = some (.tup zs) → zs.length = (held_at T n).length → Q (.ref p) H'
theorem scHeldR : FnScope ["self", "due", "when"] ["self"] (defScope (inClass (top 39) 5)) := ⟨rfl, rfl, rfl, by decide +kernel, rfl, by decide +kernel, by decide +kernel⟩
theorem sortedDI_K {X : Cx} {K : PySem.W.Frag} (hc : X.calm = true) : CallR X (.builtin "sorted") (fun xs H Q => ∃ (a : Addr) (kvs : List (Key × V)) (ks : List Int), xs = [.ref a] ∧ Rd H a (.dK kvs) ∧ kvs.map (·.1) = ks.map Sum.inl ∧ ks.length < 64 ∧
    ∀ (ys : List Int) (p : Addr), ys.Perm ks → ys.Pairwise (· ≤ ·) → H p = none → Q (.ref p) (upd H p (.lst (ys.map V.int)))) := call_sortedDI hc
theorem kv_keys {κ : Nat → Nat} {f : Nat → V} (l : List Nat) : (kv κ f l).map (·.1) = (l.map fun t => ((κ t : Nat) : Int)).map Sum.inl := by
  unfold kv
  (rw [List.map_map, List.map_map])
  rfl
theorem p_heldR {Cs C : Addr} (Os : Ob K Cs standNs) (O : Ob K C ["stands"]) (B0 : Bt mg) (Tk : PF P w K mg base C "tick" 1 (spTick K Cs C)) (d : Dpr K C "held" "Row.held" (inClass (top 39) 5)) : PF P w K mg base C "held" 3 (spHeldR K Cs C) := by
  refine pf_of d scHeldR (fun vs H Q E h => ?_) (fun f cdv A outer s H vs Q E hr h => ?_)
  · obtain ⟨B, l, T, W, b, k, n, c, link, rfl, _⟩ := h
    rfl
  · obtain ⟨B, l, T, W, b, k, n, c, link, rfl, hR, X, hn, q⟩ := h
    have hu : (CxD P w K mg base ["self", "due", "when"] "Row.held" (inClass (top 39) 5) f cdv A outer s H E).A.units + 1 < cLine := by have := hr.units; show (A.deeper _).units + 1 < cLine; omega
    obtain ⟨dxB, S, dx, li, lo, dd, dl, Ls, eW, hB, hl, _, _, _, _, ⟨a, co, cu, go, xs, ys, pt, L, hS, lx, ly, hT, hco, hcu, hgo, hpt, lL, hL⟩⟩ := hR.ex
    refine ⟨_, pss_cons (ps_set (i := 1) scHeldR.nd rfl (Or.inr rfl) (pe_fld (pe_ix ix_list (pe_fld (pv 0) rfl) (pe_un un_neg pe_int) (fun _ _ => rfl)) rfl))
      (pss_one (ps_ret (pe_callTy call_tuple_of rfl B0.tuple_ bt_tuple (pa_cons (pe_lc (own := [("when", 2)]) (g := gName 2) (tt := tYes) rfl scHeldR.nd (pi_list (pe_callB (call_sortedDI rfl) rfl B0.sorted_ bt_sorted (pa_cons (pv 1) pa_nil)))
        (blkOk_by (N := ["self", "due", "when"]) (sc := defScope (inClass (top 39) 5)) (by decide +kernel)) (fun _ _ _ _ _ => pg_name (i := 2) scHeldR.nd rfl (Or.inl rfl)) (fun _ _ _ _ _ => pts_nil)
        (fun _ _ _ _ _ => pe_tup (pa_cons (pe_op op_sub (pv 2) (pe_pf Tk O.cls hr (pv 0))) (pa_cons (pe_ix (ixT_K (K := K) rfl) (pe_dget hu (pv 1) (pv 2) (fun _ _ => rfl)) pe_int (fun _ _ => rfl)) pa_nil)))) pa_nil)))), ?_⟩
    refine ⟨_, rfl, B, C, dxB, _, _, rfl, hB, O.cls, O.no _ (by decide), rfl, _, rfl, l, _, _, .ref S, rfl, rfl, SqL.of hl, atI_last _ _, ?_⟩
    refine ⟨S, Cs, dx, _, _, rfl, hS.st, Os.cls, Os.no _ (by decide), rfl, ?_⟩
    have lh := held_len X n
    refine ⟨_, rfl, dd, _, (held_at T n).map fun t => ((out T t : Nat) : Int), rfl, .inl hS.due, kv_keys _, by rw [List.length_map]; omega, fun ks r hks _ hr0 => ?_⟩
    have lk : ks.length = (held_at T n).length := by rw [hks.length_eq, List.length_map]
    have s1 := same_new (o := .lst (ks.map V.int)) hr0
    have e1 : upd H r (.lst (ks.map V.int)) r = some (.lst (ks.map V.int)) := upd_same
    generalize upd H r (.lst (ks.map V.int)) = H1 at s1 e1 ⊢
    refine ⟨r, rfl, ⟨_, SqL.of e1⟩, fun D hD => lc_rel (walk_list (K := K) (a := r) (xs := ks.map V.int)) (fun _ _ _ => True) (fun _ _ _ _ _ h => h) hD (by rw [List.length_map]; omega) (fun H2 s2 => SqL.of (s2 _ _ e1)) (fun i x H2 H3 Kt lt s2 ⟨L2, hL2⟩ y kt => ?_) (fun H2 zs s2 at2 len _ => ?_)⟩
    · obtain ⟨rfl, hx⟩ := y
      rw [List.getElem?_map] at hx
      obtain ⟨z, hz, rfl⟩ := Option.map_eq_some_iff.mp hx
      obtain ⟨t, ht, rfl⟩ := List.mem_map.mp (hks.mem_iff.mp (List.mem_of_getElem? hz))
      have s12 := s1.trans s2
      refine ⟨rfl, _, rfl, _, rfl, B, dxB, _, rfl, s12 _ _ hB, B, l, T, W, b, k, n, c, link, rfl, hR.same s12, _, _, rfl, rfl, ?_⟩
      refine ⟨_, rfl, _, rfl, dd, .ref (pt t), rfl, ?_, pt t, _, 1, vn t, rfl, rfl, SqT.of (s12 _ _ (hpt t ht)), rfl, (show 2 ≤ sizeLine by decide), fun p hp => kt _ _ (same_new hp) trivial⟩
      have := DGet.k (k := Sum.inl ((out T t : Nat) : Int)) (s12 _ _ hS.due)
      rw [kv_some ht fun u _ e => out_inj X e] at this
      exact this
    · refine ⟨D, _, rfl, .inl ⟨SqL.of at2, fun p hp => q _ p zs (s1.trans (s2.trans (same_new hp))) upd_same ?_⟩⟩
      rw [len, List.length_map, lk]
end
theorem setL_K {X : Cx} {K : PySem.W.Frag} {w : World} (e1 : X.K = K) (e2 : X.w = w) (hc : X.calm = true) : CallR X (.type "set") (rSetL K w) := by
  subst e1 e2
  exact cr_setL hc
theorem sortedSet_w {X : Cx} {w : World} (e2 : X.w = w) (hc : X.calm = true) : CallR X (.builtin "sorted") (rSortedSet w) := by
  subst e2
  exact cr_sortedSet hc
section
variable {P : Program} {w : World} {K : PySem.W.Frag} {base : Heap} {mg : Str → Option Value}
/-! ## lose -/
def spLose (K : PySem.W.Frag) (Cs C : Addr) : Sp := fun vs H Q _ => ∃ (B l : Addr) (T W : List Nat) (b k : Nat) (link : Bool), vs = [.ref B, vn k] ∧ RowAt K H Cs C B l T b k b false link W ∧ 1 ≤ k ∧ k ≤ 60 ∧ b ≤ 3000 ∧
  ∀ H' W', Keep [l] H H' → (∀ z ∈ W', z ∈ W ∨ H z = none) → RowAt K H' Cs C B l T b k b true link W' → Q .non H'
theorem scLose : FnScope ["self", "ticks", "stood", "more", "far"] ["self", "ticks"] (defScope (inClass (top 40) 3)) := ⟨rfl, rfl, rfl, by decide +kernel, rfl, by decide +kernel, by decide +kernel⟩
theorem m_lose {Cs C : Addr} (Os : Ob K Cs standNs) (O : Ob K C ["stands"]) (B0 : Bt mg) (G1 : GF P w K mg base "is_between" 2 spBetween) (G2 : GF P w K mg base "copied" 3 (spCopied Cs)) (G3 : GF P w K mg base "cuts_ahead" 1 (spCutsAhead Cs K)) (Tk : PF P w K mg base C "tick" 1 (spTick K Cs C))
    (d : Dm K C "lose" "Losing.lose" (inClass (top 40) 3) ["self", "ticks"]) : MF P w K mg base C "lose" 5 (spLose K Cs C) := by
  obtain ⟨_, mC⟩ := B0.CUT
  refine mf_of d scLose (fun vs H Q E h => ?_) (fun f cdv A outer s H vs Q E hr h => ?_)
  · obtain ⟨B, l, T, W, b, k, link, rfl, _⟩ := h
    rfl
  · obtain ⟨B, l, T, W, b, k, link, rfl, hR, k1, k60, hb, q⟩ := h
    obtain ⟨dxB, S, dx, li, lo, dd, dl, Ls, rfl, hB, hl, lLs, nBS, n1, n2, ⟨a, co, cu, go, xs, ys, pt, L, hS, lx, ly, hT, hco, hcu, hgo, hpt, lL, hL⟩⟩ := hR.ex
    refine ⟨_, pss_cons (ps_if (pt_not (pt_val (pe_g G1 (hr.mono (by decide)) (pa_cons (pv 1) (pa_cons pe_int (pa_cons (pe_glob (v := .int 400) rfl mC ⟨_, rfl⟩) pa_nil)))))) pss_never pss_nil)
      (pss_cons (ps_set (i := 2) scLose.nd rfl (Or.inl rfl) (pe_g G2 (hr.mono (by decide)) (pa_cons (pe_ix ix_list (pe_fld (pv 0) rfl) (pe_un un_neg pe_int) (fun _ _ => rfl)) pa_nil)))
      (pss_cons (ps_setLc (i := 3) (own := [("far", 4)]) (g := gName 4) (tt := tYes) rfl scLose.nd rfl rfl (sw_true rfl rfl rfl (by decide +kernel)) (pi_range1 rfl B0.range_ (pa_cons (pv 1) pa_nil))
        (blkOk_by (N := ["self", "ticks", "stood", "more", "far"]) (sc := defScope (inClass (top 40) 3)) (by decide +kernel)) (fun _ _ _ _ _ => pg_name (i := 4) scLose.nd rfl (Or.inl rfl)) (fun _ _ _ _ _ => pts_nil)
        (fun _ _ _ _ _ => pe_op op_add (pe_pf Tk O.cls (hr.mono (by decide)) (pv 0)) (pv 4)))
      (pss_cons (ps_fld (pv 2) (pe_callTy call_tuple_of rfl B0.tuple_ bt_tuple (pa_cons (pe_callB (sortedSet_w (w := w) rfl rfl) rfl B0.sorted_ bt_sorted (pa_cons (pe_callTy (setL_K (K := K) (w := w) rfl rfl rfl) rfl B0.set_ bt_set (pa_cons
        (pe_op op_cat (pe_g G3 (hr.mono (by decide)) (pa_cons (pv 2) pa_nil)) (pv 3)) pa_nil)) pa_nil)) pa_nil)) rfl)
      (pss_one (ps_expr (pe_bm PySem.F.plainAttrs_list PySem.F.slot_list_append PySem.F.type_list_append mt_append (pe_fld (pv 0) rfl) (pa_cons (pv 2) pa_nil))))))), ?_⟩
    refine ⟨_, rfl, (k : Int), 1, 400, rfl, true, ?_, iteF ?_⟩
    · refine congrArg V.bl ?_
      (rw [Bool.and_eq_true, decide_eq_true_eq, decide_eq_true_eq])
      omega
    refine ⟨_, rfl, B, C, dxB, _, _, rfl, hB, O.cls, O.no _ (by decide), rfl, _, rfl, l, _, _, .ref S, rfl, rfl, SqL.of hl, atI_last _ _, ?_⟩
    refine ⟨S, dx, li, lo, dd, dl, _, _, _, _, _, _, xs, ys, _, _, rfl, hS, fun H1 S' dx' li' lo' dd' dl' s1 f1 f2 f3 f4 f5 hS' => ?_⟩
    have old : ∀ {z : Addr} {u : HO}, H z = some u → z ∉ [S', li', lo', dd', dl'] := fun {z u} e m => by
      simp only [List.mem_cons, List.not_mem_nil, or_false] at m
      rcases m with rfl | rfl | rfl | rfl | rfl
      · rw [f1] at e; cases e
      · rw [f2] at e; cases e
      · rw [f3] at e; cases e
      · rw [f4] at e; cases e
      · rw [f5] at e; cases e
    refine ⟨_, rfl, (k : Int), rfl, by omega, by omega, fun D hD => lc_map walk_range (fun j => vn (b + j)) hD (by omega) (fun _ _ => trivial) (fun j x H2 H3 Kt lt s2 y kt => ?_) (fun H2 s2 at2 => ?_)⟩
    · obtain ⟨rfl, rfl⟩ := y
      have s12 := s1.trans s2
      refine ⟨rfl, _, rfl, B, dxB, _, rfl, s12 _ _ hB, B, l, T, _, b, k, b, false, link, rfl, hR.same s12, _, rfl, _, _, rfl, rfl, ?_⟩
      have e : (b : Int) + (0 + (j : Int)) = ((b + j : Nat) : Int) := by push_cast; omega
      show Kt (.int ((b : Int) + (0 + (j : Int)))) _
      rw [e]
      exact kt _ (Same.refl _)
    have s12 := s1.trans s2
    have hS2 := hS'.same s2
    refine ⟨_, rfl, S', dx', li', lo', dd', dl', cu, _, _, _, _, _, xs, ys, _, _, rfl, hS2, s12.tup hcu, fun H3 c3 s3 hc3 e3 => ?_⟩
    have eD3 := s3 _ _ at2
    have e2 : (List.range (k : Int).toNat).map (fun j => vn (b + j)) = (upFrom b k).map V.int := by
      unfold upFrom
      rw [List.map_map]
      rfl
    rw [e2] at eD3
    refine ⟨_, rfl, c3, D, [], _, rfl, rfl, e3, eD3, ?_, fun p4 hp4 => ?_⟩
    · unfold upFrom
      rw [List.length_map, List.length_map, List.length_range, sizeLine_eq]
      simp
      omega
    rw [List.nil_append]
    have s4 := same_new (o := .lst ((upFrom b k).map V.int)) hp4
    have e4 : upd H3 p4 (.lst ((upFrom b k).map V.int)) p4 = some (.lst ((upFrom b k).map V.int)) := upd_same
    generalize upd H3 p4 (.lst ((upFrom b k).map V.int)) = H4 at s4 e4 ⊢
    have h2 : roomOf false = 1 := rfl
    have lu : (upFrom b k).length = k := by unfold upFrom; rw [List.length_map, List.length_range]
    refine ⟨p4, upFrom b k, rfl, SqL.of e4, by omega, fun p5 c5 hc5 hp5 => ?_⟩
    have s5 := same_new (o := SetO w p5 (fun j => decide (j ∈ upFrom b k)) c5) hp5
    refine ⟨p5, _, c5, rfl, upd_same, by omega, fun ns p6 hasc hmem hlen hp6 => ?_⟩
    have ens : ns = upFrom b k := asc_ext hasc (upFrom_asc b k) fun x => by rw [hmem, decide_eq_true_eq]
    subst ens
    have s6 := same_new (o := .lst ((upFrom b k).map V.int)) hp6
    have e6 : upd (upd H4 p5 (SetO w p5 (fun j => decide (j ∈ upFrom b k)) c5)) p6 (.lst ((upFrom b k).map V.int)) p6 = some (.lst ((upFrom b k).map V.int)) := upd_same
    refine ⟨p6, _, rfl, .inl ⟨SqL.of e6, fun p7 hp7 => ?_⟩⟩
    have s7 := same_new (o := .tup ((upFrom b k).map V.int)) hp7
    have e7 : upd (upd (upd H4 p5 (SetO w p5 (fun j => decide (j ∈ upFrom b k)) c5)) p6 (.lst ((upFrom b k).map V.int))) p7 (.tup ((upFrom b k).map V.int)) p7 = some (.tup ((upFrom b k).map V.int)) := upd_same
    have s27 := s3.trans (s4.trans (s5.trans (s6.trans s7)))
    generalize upd (upd (upd H4 p5 (SetO w p5 (fun j => decide (j ∈ upFrom b k)) c5)) p6 (.lst ((upFrom b k).map V.int))) p7 (.tup ((upFrom b k).map V.int)) = H7 at s27 e7 ⊢
    have hS7 := hS2.same s27
    have sH7 := s12.trans s27
    refine ⟨_, rfl, S', Cs, dx', _, rfl, hS7.st, Os.cls, Os.no _ (by decide), stF_len (by decide), ?_⟩
    have k8 : Keep [S'] H7 (upd H7 S' (.ins Cs dx' (stF (.ref a) (.int 0) (.ref co) (.ref li') (.ref lo') (.ref dd') (.ref p7) (.ref go) (.int 0) (.ref dl')))) := keep_at (List.mem_singleton.mpr rfl)
    have hS8 := hS7.fld (be' := .int 0) (co' := .ref co) (cu' := .ref p7) (go' := .ref go) (mn' := .int 0) k8 upd_same
    have ep : putF ("cuts" : Str) (.ref p7) (stF (.ref a) (.int 0) (.ref co) (.ref li') (.ref lo') (.ref dd') (.ref cu) (.ref go) (.int 0) (.ref dl')) = stF (.ref a) (.int 0) (.ref co) (.ref li') (.ref lo') (.ref dd') (.ref p7) (.ref go) (.int 0) (.ref dl') := rfl
    rw [ep]
    generalize upd H7 S' (.ins Cs dx' (stF (.ref a) (.int 0) (.ref co) (.ref li') (.ref lo') (.ref dd') (.ref p7) (.ref go) (.int 0) (.ref dl'))) = H8 at k8 hS8 ⊢
    have kH8 : ∀ {z : Addr} {u : HO}, H z = some u → H8 z = some u := fun {z u} e => k8 _ _ (sH7 _ _ e) fun m => old e (by rw [List.mem_singleton.mp m]; simp)
    have hB8 := kH8 hB
    have hl8 := kH8 hl
    have tp8 : ∀ {z : Addr} {zs : List V}, SqT K H z zs → SqT K H8 z zs := fun {z zs} t => by
      have sH8 : Same H H8 := fun z u e => kH8 e
      exact sH8.tup t
    have nBS' : B ≠ S' := fun z => old hB (by rw [z]; simp)
    have st8 : StAt K H8 Cs S' dx' li' lo' dd' dl' T b k b true link := by
      refine ⟨a, co, p7, go, xs, ys, pt, L, hS8, lx, ly, tp8 hT, tp8 hco, ?_, tp8 hgo, fun t ht => kH8 (hpt t ht), lL, hL⟩
      have ec : (cutL b k true).map vn = (upFrom b k).map V.int := by
        unfold cutL upFrom
        rw [if_pos rfl, List.map_map, List.map_map]
        rfl
      rw [ec]
      exact SqT.of (k8 _ _ e7 fun m => by rw [List.mem_singleton.mp m, hS7.st] at e7; cases e7)
    refine ⟨_, rfl, B, C, dxB, _, _, rfl, hB8, O.cls, O.no _ (by decide), rfl, .inl ⟨rfl, _, SqL.of hl8⟩, _, rfl, l, _, _, rfl, rfl, hl8, (by rw [List.length_append, sizeLine_eq]; simp; omega), ?_⟩
    have kk : Keep [l] H (upd H8 l (.lst (Ls ++ [.ref S] ++ [.ref S']))) := fun z u e nz => by
      rw [upd_ne (fun m => nz (List.mem_singleton.mpr m))]
      exact kH8 e
    refine q _ [B, l, S', li', lo', dd', dl'] kk (fun z hz => ?_) ⟨dxB, S', dx', li', lo', dd', dl', Ls ++ [.ref S], rfl, ?_, upd_same, ?_, nBS', fun z => old hl (by rw [z]; simp), fun z => old hl (by rw [z]; simp), ?_⟩
    · simp only [List.mem_cons, List.not_mem_nil, or_false] at hz
      rcases hz with rfl | rfl | rfl | rfl | rfl | rfl | rfl
      · exact .inl (by simp)
      · exact .inl (by simp)
      · exact .inr f1
      · exact .inr f2
      · exact .inr f3
      · exact .inr f4
      · exact .inr f5
    · rw [upd_ne (fun z => by rw [z, hl8] at hB8; cases hB8)]
      exact hB8
    · have h1 : roomOf true = 2 := rfl
      have h2 : roomOf false = 1 := rfl
      rw [h2] at lLs
      rw [List.length_append, h1]
      exact Nat.succ_le_succ lLs
    · refine st8.keep (Vs := [l]) (keep_at (List.mem_singleton.mpr rfl)) fun z hz => ?_
      rw [List.mem_singleton.mp hz]
      exact ⟨old hl, fun zs => by rw [hl8]; simp, fun _ _ => by rw [hl8]; simp⟩
end
theorem perm_mem : ∀ {l m : List Nat}, l.Nodup → m.Nodup → (∀ x, x ∈ l ↔ x ∈ m) → l.Perm m
  | [], m, _, _, h => by
    cases m with
    | nil => exact .nil
    | cons y r => have := (h y).mpr List.mem_cons_self; cases this
  | x :: l, m, h1, h2, h => by
    obtain ⟨a, b⟩ := List.nodup_cons.mp h1
    have xm := (h x).mp List.mem_cons_self
    refine List.Perm.trans (List.Perm.cons x (perm_mem b (h2.erase x) fun y => ?_)) (List.perm_cons_erase xm).symm
    rw [h2.mem_erase_iff, ← h y, List.mem_cons]
    constructor
    · intro hy
      exact ⟨fun e => a (by rw [← e]; exact hy), .inr hy⟩
    · rintro ⟨n, e | e⟩
      · exact absurd e n
      · exact e
/-- the last far T things, each once -/
theorem last_perm {T : List Nat} (X : Tab T) {b k n : Nat} {L : List Nat} (hL : Lat T b k n L) (hn : b + k + far T < n) : ((L ++ held_at T n).map fun t => ((t + far T : Nat) : Int)).Perm (upFrom n (far T)) ∧ (L ++ held_at T n).Nodup ∧ (∀ t ∈ held_at T n, t ∉ L) ∧ ∀ t ∈ held_at T n, Cut b k (out T t) = false ∧ b + k < out T t := by
  have dis : ∀ t ∈ held_at T n, t ∉ L := fun t ht hl => by
    have := (mem_held.mp ht).2
    have := ((hL.mem t).mp hl).1
    omega
  have nd : (L ++ held_at T n).Nodup := by
    rw [List.nodup_append]
    refine ⟨hL.nd, nodup_held X n, fun x hx y hy e => ?_⟩
    subst e
    exact dis _ hy hx
  have nc : ∀ u, b + k ≤ u → Cut b k u = false := fun u hu => by
    cases e : Cut b k u with
    | false => rfl
    | true => have := cut_iff.mp e; omega
  have mem : ∀ t, t ∈ L ++ held_at T n ↔ n ≤ t + far T ∧ t < n := fun t => by
    have h1 := le_out X t
    have h2 := out_le X t
    rw [List.mem_append, hL.mem, mem_held]
    constructor
    · rintro (⟨a, b', c⟩ | ⟨a, b'⟩)
      · omega
      · omega
    · rintro ⟨a, c⟩
      by_cases e : out T t < n
      · exact .inl ⟨e, nc _ (by omega), a⟩
      · exact .inr ⟨c, by omega⟩
  refine ⟨?_, nd, dis, fun t ht => ?_⟩
  · have e : upFrom n (far T) = ((List.range (far T)).map fun j => n - far T + j).map fun t => ((t + far T : Nat) : Int) := by
      unfold upFrom
      rw [List.map_map]
      refine List.map_congr_left fun j _ => ?_
      show _ = ((n - far T + j + far T : Nat) : Int)
      congr 1
      omega
    rw [e]
    refine List.Perm.map _ ?_
    have nd2 : ((List.range (far T)).map fun j => n - far T + j).Nodup := nodup_map_range fun i j _ _ e => by omega
    have sub1 : ∀ x, x ∈ L ++ held_at T n ↔ x ∈ (List.range (far T)).map fun j => n - far T + j := fun x => by
      rw [mem, List.mem_map]
      constructor
      · rintro ⟨h1, h2⟩
        exact ⟨x - (n - far T), List.mem_range.mpr (by omega), by omega⟩
      · rintro ⟨j, hj, rfl⟩
        rw [List.mem_range] at hj
        omega
    exact perm_mem nd nd2 sub1
  · have h2 := (mem_held.mp ht).2
    exact ⟨nc _ (by omega), by omega⟩
section
variable {P : Program} {w : World} {K : PySem.W.Frag} {base : Heap} {mg : Str → Option Value}
/-! ## Link.held -/
def spHeldK (K : PySem.W.Frag) (Cs C : Addr) : Sp := fun vs H Q _ => ∃ (B l : Addr) (T W : List Nat) (b k n : Nat), vs = [.ref B] ∧ RowAt K H Cs C B l T b k n true true W ∧ Tab T ∧ n ≤ 4000 ∧ b + k + far T < n ∧
  ∀ H' p (ps : List Addr), Same H H' → H' p = some (.tup (ps.map V.ref)) → ps.length = far T → (∀ j q, ps[j]? = some q → H' q = some (.tup [vn j, vn (n - far T + j)])) → Q (.ref p) H'
theorem scHeldK : FnScope ["self", "stood", "found", "when", "came", "value"] ["self"] (defScope (inClass (top 41) 1)) := ⟨rfl, rfl, rfl, by decide +kernel, rfl, by decide +kernel, by decide +kernel⟩
theorem p_heldK {Cs C : Addr} (Os : Ob K Cs standNs) (O : Ob K C ["stands"]) (B0 : Bt mg) (Tk : PF P w K mg base C "tick" 1 (spTick K Cs C)) (d : Dpr K C "held" "Link.held" (inClass (top 41) 1)) : PF P w K mg base C "held" 3 (spHeldK K Cs C) := by
  refine pf_of d scHeldK (fun vs H Q E h => ?_) (fun f cdv A outer s H vs Q E hr h => ?_)
  · obtain ⟨B, l, T, W, b, k, n, rfl, _⟩ := h
    rfl
  · obtain ⟨B, l, T, W, b, k, n, rfl, hR, X, hn, hbn, q⟩ := h
    have hu : (CxD P w K mg base ["self", "stood", "found", "when", "came", "value"] "Link.held" (inClass (top 41) 1) f cdv A outer s H E).A.units + 1 < cLine := by have := hr.units; show (A.deeper _).units + 1 < cLine; omega
    obtain ⟨dxB, S, dx, li, lo, dd, dl, Ls, eW, hB, hl, _, _, _, _, ⟨a, co, cu, go, xs, ys, pt, L, hS, lx, ly, hT, hco, hcu, hgo, hpt, lL, hL⟩⟩ := hR.ex
    have hL : Lat T b k n L := hL
    obtain ⟨pm, nd, dis, nocut⟩ := last_perm X hL hbn
    refine ⟨_, pss_cons (ps_set (i := 1) scHeldK.nd rfl (Or.inl rfl) (pe_ix ix_list (pe_fld (pv 0) rfl) (pe_un un_neg pe_int) (fun _ _ => rfl)))
      (pss_cons (ps_set (i := 2) scHeldK.nd rfl (Or.inr rfl) (pe_callTy call_dictD rfl B0.dict_ bt_dict (pa_cons (pe_fld (pv 1) rfl) pa_nil)))
      (pss_cons (ps_lock (ps_for PassesOwn.never rfl (pi_keys (pe_fld (pv 1) rfl)) (pg_name (i := 3) scHeldK.nd rfl (Or.inl rfl))
        (pss_one (ps_if (pt_cmpR op_notIn_seq (pv 3) (pe_fld (pv 1) rfl) rfl)
          (pss_cons (ps_asg (pe_dget hu (pe_fld (pv 1) rfl) (pv 3) (fun _ _ => rfl)) (pg_tup rfl (pgs_cons (pg_name (i := 4) scHeldK.nd rfl (Or.inl rfl)) (pgs_cons (pg_name (i := 5) scHeldK.nd rfl (Or.inl rfl)) pgs_nil))))
            (pss_one (ps_dput hu (pv 2) (pe_op op_add (pv 4) (pe_callB (cr_maxT rfl) rfl B0.max_ bt_max (pa_cons (pe_fld (pv 1) rfl) pa_nil))) (pv 5) rfl))) pss_nil))))
      (pss_one (ps_ret (pe_callTy call_tuple_of rfl B0.tuple_ bt_tuple (pa_cons (pe_lc (own := [("when", 3)]) (g := gName 3) (tt := tYes) rfl scHeldK.nd (pi_list (pe_callB (call_sortedDI rfl) rfl B0.sorted_ bt_sorted (pa_cons (pv 2) pa_nil)))
        (blkOk_by (N := ["self", "stood", "found", "when", "came", "value"]) (sc := defScope (inClass (top 41) 1)) (by decide +kernel)) (fun _ _ _ _ _ => pg_name (i := 3) scHeldK.nd rfl (Or.inl rfl)) (fun _ _ _ _ _ => pts_nil)
        (fun _ _ _ _ _ => pe_tup (pa_cons (pe_op op_sub (pv 3) (pe_pf Tk O.cls hr (pv 0))) (pa_cons (pe_dget hu (pv 2) (pv 3) (fun _ _ => rfl)) pa_nil)))) pa_nil)))))), ?_⟩
    have lh := held_len X n
    refine ⟨_, rfl, B, C, dxB, _, _, rfl, hB, O.cls, O.no _ (by decide), rfl, _, rfl, l, _, _, .ref S, rfl, rfl, SqL.of hl, atI_last _ _, ?_⟩
    refine ⟨_, rfl, S, Cs, dx, _, _, rfl, hS.st, Os.cls, Os.no _ (by decide), rfl, dl, _, rfl, .inl hS.lat, fun r hr0 => ?_⟩
    have s1 := same_new (o := .dK (kv (· + far T) vn L)) hr0
    have e1 : upd H r (.dK (kv (· + far T) vn L)) r = some (.dK (kv (· + far T) vn L)) := upd_same
    generalize upd H r (.dK (kv (· + far T) vn L)) = H1 at s1 e1 ⊢
    have hS1 := hS.same s1
    have ndd : dd ≠ r := fun z => by rw [← z, hS.due] at hr0; cases hr0
    refine ⟨dd, _, hS1.due, trivial, fun od => ?_⟩
    -- while due is locked
    have kz : Keep [dd] H1 (upd H1 dd (.frz od (.dK (kv (out T) (fun t => .ref (pt t)) (held_at T n))))) := keep_at (List.mem_singleton.mpr rfl)
    have ez : upd H1 dd (.frz od (.dK (kv (out T) (fun t => .ref (pt t)) (held_at T n)))) dd = some (.frz od (.dK (kv (out T) (fun t => .ref (pt t)) (held_at T n)))) := upd_same
    have nS : S ∉ [dd] := fun m => by have e := hS1.due; rw [← List.mem_singleton.mp m, hS1.st] at e; cases e
    refine ⟨_, rfl, S, Cs, dx, _, _, rfl, kz _ _ hS1.st nS, Os.cls, Os.no _ (by decide), rfl, dd, od, rfl, .inl ⟨_, ez, for_it (walk_keys (d := dd) (o := od) (kvs := kv (out T) (fun t => .ref (pt t)) (held_at T n)))
      (fun i σ H2 => Keep [r, dd] H1 H2 ∧ H2 dd = some (.frz od (.dK (kv (out T) (fun t => .ref (pt t)) (held_at T n)))) ∧ H2 r = some (.dK (kv (· + far T) vn (L ++ (held_at T n).take i))) ∧ ∃ x y z : Option V, σ = [some (.ref B), some (.ref S), some (.ref r), x, y, z])
      ⟨kz.mono fun z hz => by rw [List.mem_singleton.mp hz]; simp, ez, by rw [kz _ _ e1 (by rw [List.mem_singleton]; exact Ne.symm ndd)]; simp, none, none, none, rfl⟩ (fun i σ H2 _ h => h.2.1) ?_ ?_⟩⟩
    · rintro i x σ H2 H3 lt ⟨k2, ed, er, x0, y0, z0, rfl⟩ ⟨rfl, key, v, hkv, rfl⟩
      have lt' : i < (held_at T n).length := by rw [kv_len] at lt; exact lt
      obtain ⟨t, ht, e⟩ := Option.map_eq_some_iff.mp (by unfold kv at hkv; rw [List.getElem?_map] at hkv; exact hkv)
      cases e
      have tm := List.mem_of_getElem? ht
      have off : ∀ {z : Addr} {u : HO}, H1 z = some u → z ≠ r → z ≠ dd → H3 z = some u := fun e n1 n2 => k2 _ _ e (by simp [n1, n2])
      have hSt : H3 S = some _ := off hS1.st (fun z => by rw [← z, hS1.st] at e1; cases e1) (fun z => nS (by rw [z]; simp))
      have sq : ∀ {z : Addr} {zs : List V}, SqT K H1 z zs → SqT K H3 z zs := fun q => sqt_off k2 q (fun b hb ys => by
        (simp only [List.mem_cons, List.not_mem_nil, or_false] at hb)
        rcases hb with rfl | rfl
        · rw [e1]; simp
        · rw [hS1.due]; simp) fun b hb o u => by
        (simp only [List.mem_cons, List.not_mem_nil, or_false] at hb)
        rcases hb with rfl | rfl
        · rw [e1]; simp
        · rw [hS1.due]; simp
      have hp3 : H3 (pt t) = some (.tup [vn t, vn t]) := off (s1 _ _ (hpt t tm)) (fun z => by rw [← z, s1 _ _ (hpt t tm)] at e1; cases e1) (fun z => by have e := hS1.due; rw [← z, s1 _ _ (hpt t tm)] at e; cases e)
      have nin : inV (vn (out T t)) ((cutL b k true).map vn) = false := by
        rw [in_list, cut_mem (fun z => by cases z)]
        exact (nocut t tm).1
      refine ⟨_, rfl, _, rfl, S, Cs, dx, _, _, rfl, hSt, Os.cls, Os.no _ (by decide), rfl, cu, _, rfl, .inr (sq (s1.tup hcu)), rfl, flat_vn _, true, ?_, iteT ?_⟩
      · exact congrArg V.bl (by
          show (if (true : Bool) = true then !(inV (vn (out T t)) ((cutL b k true).map vn)) else _) = true
          rw [if_pos rfl, nin]
          rfl)
      refine ⟨_, rfl, S, Cs, dx, _, _, rfl, hSt, Os.cls, Os.no _ (by decide), rfl, _, rfl, dd, .ref (pt t), rfl, .inl ⟨_, Sum.inl ((out T t : Nat) : Int), .inr ⟨od, ed⟩, rfl, (kv_some (f := fun t => V.ref (pt t)) tm fun u _ e => out_inj X e).symm⟩, pt t, _, rfl, SqT.of hp3, rfl, _, _, rfl, _, _, rfl, rfl, ?_⟩
      refine ⟨_, rfl, _, rfl, _, rfl, _, rfl, S, Cs, dx, _, _, rfl, hSt, Os.cls, Os.no _ (by decide), rfl, a, _, rfl, (by rw [← map_vn]; exact sq (s1.tup hT)), (by rw [List.length_map]; exact X.pos), fun m h1 h2 => ?_⟩
      rw [maxFar h1 h2]
      have fr : ∀ u ∈ L ++ (held_at T n).take i, u + far T ≠ t + far T := fun u hu e => by
        have e2 : u = t := by omega
        subst e2
        rcases List.mem_append.mp hu with z | z
        · exact dis u tm z
        · obtain ⟨j, hj⟩ := List.mem_iff_getElem?.mp z
          rw [List.getElem?_take] at hj
          split at hj
          · rename_i lj
            obtain ⟨a1, b1⟩ := List.getElem?_eq_some_iff.mp hj
            obtain ⟨a2, b2⟩ := List.getElem?_eq_some_iff.mp ht
            have := (List.getElem_inj (nodup_held X n)).mp (b1.trans b2.symm)
            omega
          · cases hj
      have ek : (t : Int) + (far T : Int) = ((t + far T : Nat) : Int) := rfl
      refine ⟨_, _, rfl, rfl, r, upd H3 r (.dK (putK (kv (· + far T) vn (L ++ (held_at T n).take i)) (Sum.inl ((t : Int) + (far T : Int))) (vn t))), rfl, DPut.k (k := Sum.inl ((t : Int) + (far T : Int))) er ?_, ?_⟩
      · have l1 := List.length_take_le i (held_at T n)
        rw [kv_len, List.length_append, sizeLine_eq]
        omega
      · rw [ek, kv_put (n := t + far T) fr]
        refine ⟨fun z u e nz => ?_, ?_, ?_, _, _, _, rfl⟩
        · rw [upd_ne (fun m => nz (by rw [m]; simp))]
          exact k2 _ _ e nz
        · rw [upd_ne ndd]
          exact ed
        · rw [upd_same, List.take_add_one, ht, ← List.append_assoc]
          exact congrArg (fun z => some (HO.dK z)) (kv_app (l := L ++ (held_at T n).take i) (m := [t])).symm
    · rintro σ H2 ⟨k2, ed, er, x0, y0, z0, rfl⟩
      rw [kv_len, List.take_length] at er
      refine ⟨ed, ?_⟩
      -- due stands as it was
      have s2 : Same H (upd H2 dd (.dK (kv (out T) (fun t => .ref (pt t)) (held_at T n)))) := fun z u e => by
        by_cases nz : z = dd
        · subst nz
          rw [upd_same, ← hS.due, e]
        · rw [upd_ne nz]
          exact k2 _ _ (s1 _ _ e) (by simp only [List.mem_cons, List.not_mem_nil, or_false, not_or]; exact ⟨ne_of_none e hr0, nz⟩)
      have er2 : upd H2 dd (.dK (kv (out T) (fun t => .ref (pt t)) (held_at T n))) r = some (.dK (kv (· + far T) vn (L ++ held_at T n))) := by
        rw [upd_ne (Ne.symm ndd)]
        exact er
      generalize upd H2 dd (.dK (kv (out T) (fun t => .ref (pt t)) (held_at T n))) = H3 at s2 er2 ⊢
      refine ⟨_, rfl, r, _, (L ++ held_at T n).map fun t => ((t + far T : Nat) : Int), rfl, .inl er2, kv_keys _, ?_, fun ks p4 hks hasc hp4 => ?_⟩
      · rw [pm.length_eq]
        unfold upFrom
        (rw [List.length_map, List.length_range])
        have := far_le X
        omega
      have eks : ks = upFrom n (far T) := List.Perm.eq_of_pairwise (le := (· ≤ ·)) (fun a b _ _ h1 h2 => Int.le_antisymm h1 h2) hasc ((upFrom_asc n (far T)).imp fun h => Int.le_of_lt h) (hks.trans pm)
      subst eks
      have s4 := same_new (o := .lst ((upFrom n (far T)).map V.int)) hp4
      have e4 : upd H3 p4 (.lst ((upFrom n (far T)).map V.int)) p4 = some (.lst ((upFrom n (far T)).map V.int)) := upd_same
      generalize upd H3 p4 (.lst ((upFrom n (far T)).map V.int)) = H4 at s4 e4 ⊢
      have lu : (upFrom n (far T)).length = far T := by unfold upFrom; rw [List.length_map, List.length_range]
      have hf := far_le X
      refine ⟨p4, rfl, ⟨_, SqL.of e4⟩, fun D hD => lc_rel (walk_list (K := K) (a := p4) (xs := (upFrom n (far T)).map V.int)) (fun j y H5 => ∃ z, y = .ref z ∧ z ≠ D ∧ H5 z = some (.tup [vn j, vn (n - far T + j)]))
        (fun i y H5 H6 k ⟨z, e, nz, at_⟩ => ⟨z, e, nz, k _ _ at_ nz⟩) hD (by rw [List.length_map, lu]; omega) (fun H5 s5 => SqL.of (s5 _ _ e4)) (fun j x H5 H6 Kt lt s5 ⟨L5, hL5⟩ y kt => ?_) (fun H5 zs s5 at5 len tl => ?_)⟩
      · obtain ⟨rfl, hx⟩ := y
        rw [List.length_map, lu] at lt
        have hx2 : ((upFrom n (far T)).map V.int)[j]? = some (vn (n + j)) := by
          unfold upFrom
          rw [List.getElem?_map, List.getElem?_map, List.getElem?_range lt]
          rfl
        obtain rfl := Option.some.inj (hx2.symm.trans hx)
        have s25 := s2.trans (s4.trans s5)
        have hm : n - far T + j ∈ L ++ held_at T n := by
          have z := (pm.mem_iff (a := ((n + j : Nat) : Int))).mpr (upFrom_mem.mpr ⟨n + j, rfl, by omega, by omega⟩)
          obtain ⟨t, ht, e⟩ := List.mem_map.mp z
          have e2 : t = n - far T + j := by omega
          rw [← e2]
          exact ht
        have hv := kv_some (κ := (· + far T)) (f := vn) hm fun u _ e => by have e' : u + far T = n - far T + j + far T := e; omega
        have ek : (((n - far T + j) + far T : Nat) : Int) = ((n + j : Nat) : Int) := by congr 1; omega
        refine ⟨rfl, _, rfl, _, rfl, B, dxB, _, rfl, s25 _ _ hB, B, l, T, W, b, k, n, true, true, rfl, hR.same s25, _, _, rfl, rfl, _, rfl, _, rfl, r, vn (n - far T + j), rfl, ?_, (show 2 ≤ sizeLine by decide), fun p6 hp6 => kt _ _ (same_new hp6) ⟨p6, rfl, (fun z => by rw [z, hL5] at hp6; cases hp6), ?_⟩⟩
        · have z := DGet.k (k := Sum.inl ((n + j : Nat) : Int)) (s5 _ _ (s4 _ _ er2))
          rw [show ((((· + far T) (n - far T + j) : Nat)) : Int) = ((n + j : Nat) : Int) from ek] at hv
          rw [hv] at z
          exact z
        · rw [upd_same]
          have e : ((n + j : Nat) : Int) - (n : Int) = ((j : Nat) : Int) := by push_cast; omega
          show some (HO.tup [V.int (((n + j : Nat) : Int) - (n : Int)), vn (n - far T + j)]) = _
          rw [e]
      · rw [List.length_map, lu] at len
        obtain ⟨zs', rfl, lz, tz⟩ := refs_of (R := fun j y => ∃ z, y = .ref z ∧ z ≠ D ∧ H5 z = some (.tup [vn j, vn (n - far T + j)])) tl fun i v ⟨z, e, _⟩ => ⟨z, e⟩
        refine ⟨D, _, rfl, .inl ⟨SqL.of at5, fun p6 hp6 => q _ p6 zs' (s2.trans (s4.trans (s5.trans (same_new hp6)))) upd_same (by rw [lz, len]) fun j q0 hq => ?_⟩⟩
        obtain ⟨z, e, _, h⟩ := tz j q0 hq
        cases e
        exact same_new hp6 _ _ h
end
section
variable {P : Program} {w : World} {K : PySem.W.Frag} {base : Heap} {mg : Str → Option Value}
/-! ## the law's own: cell, pen, draw -/
def spCell (K : PySem.W.Frag) : Sp := fun vs H Q _ => ∃ (a : Addr) (ns : List Int) (k : Nat), vs = [.ref a, vn k] ∧ SqL K H a (ns.map V.int) ∧ ∀ i : Int, Q (.int i) H
theorem sc55 : FnScope ["_law_script", "_law_k"] ["_law_script", "_law_k"] (defScope (top 55)) := ⟨rfl, rfl, rfl, by decide +kernel, rfl, by decide +kernel, by decide +kernel⟩
theorem g_cell (d : Df K mg "_law_cell" (top 55) ["_law_script", "_law_k"]) (B0 : Bt mg) : GF P w K mg base "_law_cell" 1 (spCell K) := by
  refine gf_of d sc55 (fun vs H Q E h => ?_) (fun f cdv A outer s H vs Q E hr h => ?_)
  · obtain ⟨a, ns, k, rfl, _⟩ := h
    rfl
  · obtain ⟨a, ns, k, rfl, hS, q⟩ := h
    refine ⟨_, pss_cons (ps_if (pt_cmpR op_lt (pv 1) (pe_callB call_len_seq rfl B0.len_ bt_len (pa_cons (pv 0) pa_nil)) (nomark _)) (pss_one (ps_ret (pe_ix ix_list (pv 0) (pv 1) (fun _ _ => rfl)))) pss_nil) (pss_one (ps_ret pe_int)), ?_⟩
    refine ⟨_, rfl, _, rfl, a, _, rfl, .inl hS, _, _, rfl, rfl, _, rfl, ?_⟩
    refine ite2 (fun c => ?_) fun c => ?_
    · have lt : k < ns.length := by
        have c2 : decide ((k : Int) < (((ns.map V.int).length : Nat) : Int)) = true := c
        have := of_decide_eq_true c2
        rw [List.length_map] at this
        omega
      exact ⟨_, rfl, _, rfl, a, _, _, .int (ns[k]'lt), rfl, rfl, hS, atI_nat (by rw [List.getElem?_map, List.getElem?_eq_getElem lt]; rfl), q _⟩
    · exact q 0
/-- three whole numbers, none below zero -/
def PenAt (H : Hp) (p : Addr) : Prop := ∃ x y z : Int, 0 ≤ x ∧ 0 ≤ y ∧ y < 4294967296 ∧ 0 ≤ z ∧ H p = some (.lst [.int x, .int y, .int z])
def spPen : Sp := fun vs H Q _ => ∃ i : Int, vs = [.int i] ∧ ∀ H' p, Same H H' → H p = none → PenAt H' p → Q (.ref p) H'
theorem sc56 : FnScope ["_law_cell_here"] ["_law_cell_here"] (defScope (top 56)) := ⟨rfl, rfl, rfl, by decide +kernel, rfl, by decide +kernel, by decide +kernel⟩
theorem g_pen (d : Df K mg "_law_pen" (top 56) ["_law_cell_here"]) (B0 : Bt mg) : GF P w K mg base "_law_pen" 1 spPen := by
  refine gf_of d sc56 (fun vs H Q E h => ?_) (fun f cdv A outer s H vs Q E hr h => ?_)
  · obtain ⟨i, rfl, _⟩ := h
    rfl
  · obtain ⟨i, rfl, q⟩ := h
    refine ⟨_, pss_one (ps_ret (pe_lst (pa_cons (pe_callB (call_max2 rfl) rfl B0.max_ bt_max (pa_cons pe_int (pa_cons (pe_op op_sub (pv 0) (pe_op op_pow pe_int pe_int)) pa_nil))) (pa_cons (pe_op op_add (pe_op op_mod (pv 0) pe_int) pe_int) (pa_cons pe_int pa_nil))))), ?_⟩
    refine ⟨_, rfl, _, _, rfl, rfl, ⟨by decide, by decide, by decide⟩, _, _, rfl, rfl, _, _, rfl, ?_⟩
    refine ⟨_, rfl, _, _, rfl, rfl, (show (0 : Int) < 2147483629 by decide), _, _, rfl, rfl, (show 3 ≤ sizeLine by decide), fun p hp => q _ p (same_new hp) hp ⟨_, _, _, ?_, ?_, ?_, Int.le_refl 0, upd_same⟩⟩
    · split <;> omega
    · have := Int.emod_nonneg i (show (2147483629 : Int) ≠ 0 by decide)
      show (0 : Int) ≤ i % 2147483629 + 1
      omega
    · have := Int.emod_lt_of_pos i (show (0 : Int) < 2147483629 by decide)
      show i % 2147483629 + 1 < (4294967296 : Int)
      omega
def spDraw : Sp := fun vs H Q _ => ∃ (p : Addr) (u : Nat), vs = [.ref p, vn u] ∧ PenAt H p ∧ 0 < u ∧ u < 1000 ∧ ∀ H' (r : Nat), r < u → Keep [p] H H' → PenAt H' p → Q (vn r) H'
theorem sc57 : FnScope ["_law_pen_here", "_law_upto", "_law_found", "_law_stirred"] ["_law_pen_here", "_law_upto"] (defScope (top 57)) := ⟨rfl, rfl, rfl, by decide +kernel, rfl, by decide +kernel, by decide +kernel⟩
theorem below {r : Int} {u : Nat} (h0 : 0 ≤ r) (h1 : r < (u : Int)) : ∃ n : Nat, r = (n : Int) ∧ n < u := ⟨r.toNat, by omega, by omega⟩
theorem g_draw (d : Df K mg "_law_draw" (top 57) ["_law_pen_here", "_law_upto"]) : GF P w K mg base "_law_draw" 1 spDraw := by
  refine gf_of d sc57 (fun vs H Q E h => ?_) (fun f cdv A outer s H vs Q E hr h => ?_)
  · obtain ⟨p, u, rfl, _⟩ := h
    rfl
  · obtain ⟨p, u, rfl, ⟨x, y, z, hx, hy, hy2, hz, hp⟩, u0, u1, q⟩ := h
    refine ⟨_, pss_cons (ps_if (pt_cmpR op_gt (pe_ix ix_list (pv 0) pe_int (fun _ _ => rfl)) pe_int (nomark _))
        (pss_cons (ps_set (i := 2) sc57.nd rfl (Or.inl rfl) (pe_op op_mod (pe_ix ix_list (pv 0) pe_int (fun _ _ => rfl)) (pv 1)))
        (pss_cons (ps_asg (pe_op op_fdiv (pe_ix ix_list (pv 0) pe_int (fun _ _ => rfl)) (pv 1)) (pg_sub (pv 0) pe_int set_list))
        (pss_one (ps_ret (pv 2))))) pss_nil)
      (pss_cons (ps_asg (pe_op op_add (pe_ix ix_list (pv 0) pe_int (fun _ _ => rfl)) pe_int) (pg_sub (pv 0) pe_int set_list))
      (pss_cons (ps_asg (pe_op op_mod (pe_op op_add (pe_op op_add (pe_op op_mul (pe_ix ix_list (pv 0) pe_int (fun _ _ => rfl)) pe_int) (pe_op op_mul pe_int (pe_ix ix_list (pv 0) pe_int (fun _ _ => rfl)))) pe_int) pe_int) (pg_sub (pv 0) pe_int set_list))
      (pss_cons (ps_set (i := 3) sc57.nd rfl (Or.inl rfl) (pe_op op_mod (pe_op op_add (pe_op op_add (pe_op op_mul (pe_ix ix_list (pv 0) pe_int (fun _ _ => rfl)) (pe_ix ix_list (pv 0) pe_int (fun _ _ => rfl))) (pe_op op_mul pe_int (pe_ix ix_list (pv 0) pe_int (fun _ _ => rfl)))) pe_int) pe_int))
      (pss_cons (ps_set (i := 3) sc57.nd rfl (Or.inl rfl) (pe_op op_mod (pe_op op_add (pe_op op_mul (pv 3) (pv 3)) (pe_op op_mul pe_int (pv 3))) pe_int))
      (pss_one (ps_ret (pe_op op_mod (pe_op op_fdiv (pv 3) pe_int) (pv 1)))))))), ?_⟩
    have rd : ∀ {H2 : Hp} {a b c : Int}, H2 p = some (.lst [.int a, .int b, .int c]) → SqL K H2 p [.int a, .int b, .int c] := fun e => SqL.of e
    refine ⟨_, rfl, p, _, 0, .int x, rfl, rfl, rd hp, rfl, _, _, rfl, rfl, _, rfl, ?_⟩
    refine ite2 (fun c => ?_) fun c => ?_
    · refine ⟨_, rfl, p, _, 0, .int x, rfl, rfl, rd hp, rfl, _, rfl, _, _, rfl, rfl, by omega, ?_⟩
      refine ⟨_, rfl, p, _, 0, .int x, rfl, rfl, rd hp, rfl, _, rfl, _, _, rfl, rfl, ⟨by omega, by omega⟩, ?_⟩
      refine ⟨_, rfl, p, _, 0, 0, rfl, rfl, hp, rfl, ?_⟩
      obtain ⟨r, er, lr⟩ := below (Int.emod_nonneg x (show (u : Int) ≠ 0 by omega)) (Int.emod_lt_of_pos x (show (0 : Int) < (u : Int) by omega))
      refine ⟨.int (x % (u : Int)), rfl, ?_⟩
      rw [er]
      exact q _ r lr (keep_at (List.mem_singleton.mpr rfl)) ⟨x / (u : Int), y, z, Int.ediv_nonneg hx (by omega), hy, hy2, hz, upd_same⟩
    · refine ⟨_, rfl, p, _, 2, .int z, rfl, rfl, rd hp, rfl, _, _, rfl, rfl, _, rfl, p, _, 2, 2, rfl, rfl, hp, rfl, ?_⟩
      have k1 : Keep [p] H (upd H p (.lst [.int x, .int y, .int (z + 1)])) := keep_at (List.mem_singleton.mpr rfl)
      have e1 : upd H p (.lst [.int x, .int y, .int (z + 1)]) p = some (.lst [.int x, .int y, .int (z + 1)]) := upd_same
      show tSeq _ _ _ _ (upd H p (.lst [.int x, .int y, .int (z + 1)]))
      generalize upd H p (.lst [.int x, .int y, .int (z + 1)]) = H1 at k1 e1 ⊢
      refine ⟨_, rfl, p, _, 1, .int y, rfl, rfl, rd e1, rfl, _, _, rfl, rfl, .inr ⟨by decide, by decide⟩, _, rfl, p, _, 2, .int (z + 1), rfl, rfl, rd e1, rfl, _, _, rfl, rfl, .inl ⟨by decide, by decide⟩, _, _, rfl, rfl, _, _, rfl, rfl, _, _, rfl, rfl, (show (0 : Int) < 2147483647 by decide), ?_⟩
      refine ⟨_, rfl, p, _, 1, 1, rfl, rfl, e1, rfl, ?_⟩
      obtain ⟨y', ey, ly⟩ := below (u := 2147483647) (Int.emod_nonneg (y * 48271 + 1009 * (z + 1) + 7) (show (2147483647 : Int) ≠ 0 by decide)) (Int.emod_lt_of_pos _ (by decide))
      show tSeq _ _ _ _ (upd H1 p (.lst [.int x, .int ((y * 48271 + 1009 * (z + 1) + 7) % 2147483647), .int (z + 1)]))
      rw [ey]
      have k2 : Keep [p] H (upd H1 p (.lst [.int x, vn y', .int (z + 1)])) := k1.trans (keep_at (List.mem_singleton.mpr rfl))
      have e2 : upd H1 p (.lst [.int x, vn y', .int (z + 1)]) p = some (.lst [.int x, vn y', .int (z + 1)]) := upd_same
      generalize upd H1 p (.lst [.int x, vn y', .int (z + 1)]) = H2 at k2 e2 ⊢
      refine ⟨_, rfl, p, _, 1, vn y', rfl, rfl, rd e2, rfl, _, rfl, p, _, 1, vn y', rfl, rfl, rd e2, rfl, _, _, rfl, rfl, .inl ⟨by omega, by omega⟩, _, rfl, p, _, 1, vn y', rfl, rfl, rd e2, rfl, _, _, rfl, rfl, .inl ⟨by decide, by decide⟩, _, _, rfl, rfl, _, _, rfl, rfl, _, _, rfl, rfl, (show (0 : Int) < 2147483629 by decide), ?_⟩
      obtain ⟨s1, es1, ls1⟩ := below (u := 2147483629) (Int.emod_nonneg ((y' : Int) * y' + 69621 * y' + 11) (show (2147483629 : Int) ≠ 0 by decide)) (Int.emod_lt_of_pos _ (by decide))
      refine ⟨.int (((y' : Int) * y' + 69621 * y' + 11) % 2147483629), rfl, _, rfl, _, _, rfl, rfl, ?_, _, rfl, _, _, rfl, rfl, .inl ⟨by decide, by decide⟩, _, _, rfl, rfl, _, _, rfl, rfl, (show (0 : Int) < 2147483587 by decide), ?_⟩
      · rw [es1]
        exact .inl ⟨by omega, by omega⟩
      refine ⟨.int _, rfl, _, _, rfl, rfl, ⟨by decide, by decide⟩, _, rfl, _, _, rfl, rfl, by omega, ?_⟩
      obtain ⟨r, er, lr⟩ := below (Int.emod_nonneg ((((y' : Int) * y' + 69621 * y' + 11) % 2147483629 * (((y' : Int) * y' + 69621 * y' + 11) % 2147483629) + 40014 * (((y' : Int) * y' + 69621 * y' + 11) % 2147483629)) % 2147483587 / 16) (show (u : Int) ≠ 0 by omega)) (Int.emod_lt_of_pos _ (show (0 : Int) < (u : Int) by omega))
      show Q (.int ((((y' : Int) * y' + 69621 * y' + 11) % 2147483629 * (((y' : Int) * y' + 69621 * y' + 11) % 2147483629) + 40014 * (((y' : Int) * y' + 69621 * y' + 11) % 2147483629)) % 2147483587 / 16 % (u : Int))) H2
      rw [er]
      exact q _ r lr k2 ⟨x, y', z + 1, hx, by omega, by omega, by omega, e2⟩
end
theorem out_erase : ∀ {L : List Nat} {r v : Nat}, L.Nodup → L[r]? = some v → v ∉ L.eraseIdx r
  | [], r, v, _, h => by simp at h
  | x :: L, 0, v, nd, h => by
    obtain rfl : x = v := Option.some.inj h
    exact (List.nodup_cons.mp nd).1
  | x :: L, r + 1, v, nd, h => by
    have h' : L[r]? = some v := h
    intro z
    rcases List.mem_cons.mp (show v ∈ x :: L.eraseIdx r from z) with e | e
    · exact (List.nodup_cons.mp nd).1 (by rw [← e]; exact List.mem_of_getElem? h')
    · exact out_erase (List.nodup_cons.mp nd).2 h' e
theorem erase_map (f : Nat → V) : ∀ (L : List Nat) (t : Nat), (L.map f).eraseIdx t = (L.eraseIdx t).map f
  | [], _ => rfl
  | x :: L, 0 => rfl
  | x :: L, t + 1 => congrArg (f x :: ·) (erase_map f L t)
theorem sub_mod {n i v : Nat} (hn : 0 < n) (hi : i < n) (hv : v < n) : ((v : Int) - (i : Int)) % (n : Int) = (((v + (n - i)) % n : Nat) : Int) ∧ (i + (v + (n - i)) % n) % n = v := by
  constructor
  · have e : (((v + (n - i)) % n : Nat) : Int) = ((v : Int) - i + n * 1) % n := by
      rw [show (v : Int) - i + n * 1 = ((v + (n - i) : Nat) : Int) from by omega]
      push_cast
      rfl
    rw [e, Int.add_mul_emod_self_left]
  · rw [Nat.add_mod_mod, show i + (v + (n - i)) = v + n from by omega, Nat.add_mod_right]
    exact Nat.mod_eq_of_lt hv
/-- what a table is built of: the places that are left, the holds so far -/
structure Half (n i : Nat) (L Hs : List Nat) : Prop where
  nd : L.Nodup
  lt : ∀ x ∈ L, x < n
  len : L.length + i = n
  hl : Hs.length = i
  top : ∀ h ∈ Hs, h ≤ 26
  out : ∀ j, j < i → (j + Hs.getD j 0) % n ∉ L
  inj : ∀ j j', j < i → j' < i → (j + Hs.getD j 0) % n = (j' + Hs.getD j' 0) % n → j = j'
theorem Half.step {n i r d v : Nat} {L Hs : List Nat} (h : Half n i L Hs) (hn : n ≤ 9) (hi : i < n) (hv : L[r]? = some v) (hd : d < 3) : Half n (i + 1) (L.eraseIdx r) (Hs ++ [(v + (n - i)) % n + n * d]) := by
  have n0 : 0 < n := by omega
  obtain ⟨lt, ev⟩ := List.getElem?_eq_some_iff.mp hv
  have hvn := h.lt v (List.mem_of_getElem? hv)
  have place : (i + ((v + (n - i)) % n + n * d)) % n = v := by
    rw [← Nat.add_assoc, Nat.add_mul_mod_self_left]
    exact (sub_mod n0 hi hvn).2
  have old : ∀ j, j < i → (Hs ++ [(v + (n - i)) % n + n * d]).getD j 0 = Hs.getD j 0 := fun j hj => by
    rw [List.getD_eq_getElem?_getD, List.getElem?_append_left (by rw [h.hl]; exact hj), ← List.getD_eq_getElem?_getD]
  have new : (Hs ++ [(v + (n - i)) % n + n * d]).getD i 0 = (v + (n - i)) % n + n * d := by
    rw [List.getD_eq_getElem?_getD, List.getElem?_append_right (by rw [h.hl]; exact Nat.le_refl _), h.hl, Nat.sub_self]
    rfl
  have gone : v ∉ L.eraseIdx r := fun z => by
    exact out_erase h.nd hv z
  refine ⟨h.nd.sublist (List.eraseIdx_sublist L r), fun x hx => h.lt x ((List.eraseIdx_sublist L r).subset hx), ?_, by rw [List.length_append, h.hl]; rfl, fun x hx => ?_, fun j hj => ?_, fun j j' hj hj' e => ?_⟩
  · rw [List.length_eraseIdx_of_lt lt]
    have := h.len
    omega
  · rcases List.mem_append.mp hx with z | z
    · exact h.top x z
    · (rw [List.mem_singleton.mp z])
      have h1 := Nat.mod_lt (v + (n - i)) n0
      have h2 : n * d ≤ 9 * 2 := Nat.mul_le_mul hn (by omega)
      omega
  · by_cases e : j = i
    · subst e
      rw [new, place]
      exact gone
    · rw [old j (by omega)]
      exact fun z => h.out j (by omega) ((List.eraseIdx_sublist L r).subset z)
  · by_cases e1 : j = i
    · by_cases e2 : j' = i
      · omega
      · subst e1
        rw [new, place, old j' (by omega)] at e
        exact absurd (by rw [← e]; exact List.mem_of_getElem? hv) (h.out j' (by omega))
    · by_cases e2 : j' = i
      · subst e2
        rw [new, place, old j (by omega)] at e
        exact absurd (by rw [e]; exact List.mem_of_getElem? hv) (h.out j (by omega))
      · rw [old j (by omega), old j' (by omega)] at e
        exact h.inj j j' (by omega) (by omega) e
section
variable {P : Program} {w : World} {K : PySem.W.Frag} {base : Heap} {mg : Str → Option Value}
def spMkTab (K : PySem.W.Frag) : Sp := fun vs H Q _ => ∃ (p : Addr) (m : Nat), vs = [.ref p, vn m, .int 2] ∧ PenAt H p ∧ 0 < m ∧ m ≤ 9 ∧ ∀ H' a T, Keep [p] H H' → PenAt H' p → SqT K H' a (T.map vn) → Tab T → Q (.ref a) H'
theorem sc58 : FnScope ["_law_pen_here", "_law_most", "_law_times", "_law_length", "_law_holds", "_law_left", "_law_place", "_law_hold", "_law_more"] ["_law_pen_here", "_law_most", "_law_times"] (defScope (top 58)) := ⟨rfl, rfl, rfl, by decide +kernel, rfl, by decide +kernel, by decide +kernel⟩
theorem g_mkTab (d : Df K mg "_law_table" (top 58) ["_law_pen_here", "_law_most", "_law_times"]) (B0 : Bt mg) (G : GF P w K mg base "_law_draw" 1 spDraw) : GF P w K mg base "_law_table" 2 (spMkTab K) := by
  refine gf_of d sc58 (fun vs H Q E h => ?_) (fun f cdv A outer s H vs Q E hr h => ?_)
  · obtain ⟨p, m, rfl, _⟩ := h
    rfl
  · obtain ⟨p, m, rfl, hP, m0, m9, q⟩ := h
    refine ⟨_, pss_cons (ps_par (i := 3) (j := 4) rfl sc58.nd rfl rfl (by decide) rfl rfl (pa_cons (pe_op op_addN pe_int (pe_g G hr (pa_cons (pv 0) (pa_cons (pv 1) pa_nil)))) (pa_cons (pe_lst pa_nil) pa_nil)) rfl)
      (pss_cons (ps_set (i := 5) sc58.nd rfl (Or.inl rfl) (pe_listRg rfl rfl B0.list_ (prg_1 rfl B0.range_ (pv 3))))
      (pss_cons (ps_for PassesOwn.never rfl (pi_range1 rfl B0.range_ (pa_cons (pv 3) pa_nil)) (pg_name (i := 6) sc58.nd rfl (Or.inl rfl))
        (pss_cons (ps_set (i := 7) sc58.nd rfl (Or.inl rfl) (pe_op op_mod (pe_op op_sub (pe_bm PySem.F.plainAttrs_list PySem.F.slot_list_pop PySem.F.type_list_pop mt_popAt (pv 5) (pa_cons (pe_g G hr (pa_cons (pv 0) (pa_cons (pe_callB call_len_seq rfl B0.len_ bt_len (pa_cons (pv 5) pa_nil)) pa_nil))) pa_nil)) (pv 6)) (pv 3)))
        (pss_cons (ps_set (i := 8) sc58.nd rfl (Or.inl rfl) (pe_op op_add (pv 7) (pe_op op_mul (pv 3) (pe_g G hr (pa_cons (pv 0) (pa_cons (pe_op op_add (pv 2) pe_int) pa_nil))))))
        (pss_one (ps_expr (pe_bm PySem.F.plainAttrs_list PySem.F.slot_list_append PySem.F.type_list_append mt_append (pv 4) (pa_cons (pe_ifExp (pt_cmpR op_lt (pv 8) pe_int (nomark _)) (pv 8) (pv 7)) pa_nil)))))))
      (pss_one (ps_ret (pe_callTy call_tuple_of rfl B0.tuple_ bt_tuple (pa_cons (pv 4) pa_nil)))))), ?_⟩
    refine ⟨_, rfl, _, rfl, p, m, rfl, hP, m0, by omega, fun H1 r lr k1 hP1 => ?_⟩
    refine ⟨1, r, rfl, rfl, Nat.zero_le _, ?_⟩
    intro lh hlh
    have s2 := same_new (o := .lst []) hlh
    have e2 : upd H1 lh (.lst []) lh = some (.lst []) := upd_same
    have nlp : lh ≠ p := fun z => by obtain ⟨x, y, z', _, _, _, _, e⟩ := hP1; rw [z, e] at hlh; cases hlh
    generalize upd H1 lh (.lst []) = H2 at s2 e2 ⊢
    have pen_same : ∀ {H2 H3 : Hp}, Same H2 H3 → PenAt H2 p → PenAt H3 p := fun s ⟨x, y, z, h1, h2, h3, h4, e⟩ => ⟨x, y, z, h1, h2, h3, h4, s _ _ e⟩
    have hP2 := pen_same s2 hP1
    refine ⟨_, _, rfl, _, rfl, _, rfl, RgOk.of_le (by omega) (by omega) (by omega) (by omega), ?_⟩
    intro ll hll
    have s3 := same_new (o := .lst (rgV 0 ((1 + r : Nat) : Int))) hll
    have e3 : upd H2 ll (.lst (rgV 0 ((1 + r : Nat) : Int))) ll = some (.lst (rgV 0 ((1 + r : Nat) : Int))) := upd_same
    have nllp : ll ≠ p := fun z => by obtain ⟨x, y, z', _, _, _, _, e⟩ := hP2; rw [z, e] at hll; cases hll
    have nll : ll ≠ lh := fun z => by rw [z, e2] at hll; cases hll
    generalize upd H2 ll (.lst (rgV 0 ((1 + r : Nat) : Int))) = H3 at s3 e3 ⊢
    have er : rgV 0 ((1 + r : Nat) : Int) = (List.range (1 + r)).map vn := by
      unfold rgV
      rw [Int.sub_zero, Int.toNat_natCast]
      refine List.map_congr_left fun i _ => congrArg V.int (by omega)
    rw [er] at e3
    have fh : H lh = none := k1.low hlh (by simpa using nlp)
    have fl : H ll = none := (k1.same s2).low hll (by simpa using nllp)
    refine ⟨_, rfl, ((1 + r : Nat) : Int), rfl, by omega, by omega, ?_⟩
    rw [Int.toNat_natCast]
    refine for_it walk_range (fun i σ H4 => Keep [p] H H4 ∧ PenAt H4 p ∧ ∃ (L Hs : List Nat) (x y z : Option V), Half (1 + r) i L Hs ∧ H4 ll = some (.lst (L.map vn)) ∧ H4 lh = some (.lst (Hs.map vn)) ∧ σ = [some (.ref p), some (vn m), some (.int 2), some (vn (1 + r)), some (.ref lh), some (.ref ll), x, y, z])
      ⟨(k1.same s2).same s3, pen_same s3 hP2, List.range (1 + r), [], none, none, none, ⟨List.nodup_range, fun x hx => List.mem_range.mp hx, by rw [List.length_range]; rfl, rfl, (fun h hh => by cases hh), fun j hj => absurd hj (Nat.not_lt_zero j), fun j j' hj => absurd hj (Nat.not_lt_zero j)⟩, e3, s3 _ _ e2, rfl⟩ (fun _ _ _ _ _ => trivial) ?_ ?_
    · rintro i x σ H4 H5 li ⟨k4, hP4, L, Hs, x0, y0, z0, hh, eL, eH, rfl⟩ ⟨rfl, rfl⟩
      have lL : 0 < L.length := by have := hh.len; omega
      refine ⟨_, rfl, .inl ⟨rfl, _, SqL.of eL⟩, _, rfl, _, rfl, ll, _, rfl, .inl (SqL.of eL), ?_⟩
      rw [List.length_map]
      refine ⟨p, L.length, rfl, hP4, lL, by have := hh.len; omega, fun H6 t lt k6 hP6 => ?_⟩
      have eL6 := k6 _ _ eL (by simpa using nllp)
      have eH6 := k6 _ _ eH (by simpa using Ne.symm (Ne.symm nlp))
      have hv : L[t]? = some (L[t]'lt) := List.getElem?_eq_getElem lt
      have l9 := hh.len
      refine ⟨ll, _, (t : Int), t, vn (L[t]'lt), rfl, rfl, eL6, by omega, by omega, ?_, by rw [List.getElem?_map, hv]; rfl, ?_⟩
      · rw [List.length_map]
        exact seqIndex_of (by omega) (by omega)
      have ee : (L.map vn).eraseIdx t = (L.eraseIdx t).map vn := erase_map _ _ _
      rw [ee]
      have eL7 : upd H6 ll (.lst ((L.eraseIdx t).map vn)) ll = some (.lst ((L.eraseIdx t).map vn)) := upd_same
      have k7 : Keep [ll] H6 (upd H6 ll (.lst ((L.eraseIdx t).map vn))) := keep_at (List.mem_singleton.mpr rfl)
      have kH7 : Keep [p] H (upd H6 ll (.lst ((L.eraseIdx t).map vn))) := fun b o e nb => by
        rw [upd_ne (ne_of_none e fl)]
        exact (k4.trans k6) b o e nb
      generalize upd H6 ll (.lst ((L.eraseIdx t).map vn)) = H7 at eL7 k7 kH7 ⊢
      have eH7 := k7 _ _ eH6 (by simpa using Ne.symm nll)
      have hP7 : PenAt H7 p := by
        obtain ⟨a, b, c, h1, h2, h3, h4, e⟩ := hP6
        exact ⟨a, b, c, h1, h2, h3, h4, k7 _ _ e (by simpa using Ne.symm nllp)⟩
      obtain ⟨m1, m2⟩ := sub_mod (n := 1 + r) (by omega) li (hh.lt _ (List.mem_of_getElem? hv))
      refine ⟨_, rfl, _, _, rfl, rfl, _, rfl, _, _, rfl, rfl, (show (0 : Int) < ((1 + r : Nat) : Int) by omega), ?_⟩
      have m3 : ((L[t]'lt : Int) - (0 + (i : Int))) % ((1 + r : Nat) : Int) = (((L[t]'lt + (1 + r - i)) % (1 + r) : Nat) : Int) := by rw [Int.zero_add]; exact m1
      refine ⟨.int (((L[t]'lt : Int) - (0 + (i : Int))) % ((1 + r : Nat) : Int)), rfl, _, rfl, _, rfl, _, rfl, _, _, rfl, rfl, p, 3, rfl, hP7, by omega, by omega, fun H8 dd ld k8 hP8 => ?_⟩
      have eL8 := k8 _ _ eL7 (by simpa using nllp)
      have eH8 := k8 _ _ eH7 (by simpa using nlp)
      refine ⟨_, _, rfl, rfl, .inl ⟨by omega, by omega⟩, _, _, rfl, rfl, ?_⟩
      have eq9 : ((L[t]'lt : Int) - (0 + (i : Int))) % ((1 + r : Nat) : Int) + ((1 + r : Nat) : Int) * (dd : Int) = (((L[t]'lt + (1 + r - i)) % (1 + r) + (1 + r) * dd : Nat) : Int) := by rw [m3]; push_cast; rfl
      have stp := hh.step (by omega) li hv ld
      have top := stp.top _ (List.mem_append.mpr (.inr (List.mem_singleton.mpr rfl)))
      refine ⟨_, rfl, .inl ⟨rfl, _, SqL.of eH8⟩, .int (((L[t]'lt : Int) - (0 + (i : Int))) % ((1 + r : Nat) : Int) + ((1 + r : Nat) : Int) * (dd : Int)), rfl, _, _, rfl, rfl, true, congrArg V.bl (decide_eq_true (by omega)), iteT ⟨_, rfl, lh, _, _, rfl, rfl, eH8, by rw [List.length_map, hh.hl, sizeLine_eq]; omega, ?_⟩⟩
      have kH9 : Keep [p] H (upd H8 lh (.lst (Hs.map vn ++ [.int (((L[t]'lt : Int) - (0 + (i : Int))) % ((1 + r : Nat) : Int) + ((1 + r : Nat) : Int) * (dd : Int))]))) := fun b o e nb => by
        rw [upd_ne (ne_of_none e fh)]
        exact (kH7.trans k8) b o e nb
      refine ⟨kH9, ?_, L.eraseIdx t, _, _, _, _, stp, ?_, ?_, rfl⟩
      · obtain ⟨a, b, c, h1, h2, h3, h4, e⟩ := hP8
        exact ⟨a, b, c, h1, h2, h3, h4, by rw [upd_ne (Ne.symm nlp)]; exact e⟩
      · rw [upd_ne nll]
        exact eL8
      · rw [upd_same]
        show some (HO.lst (Hs.map vn ++ [V.int (((L[t]'lt : Int) - (0 + (i : Int))) % ((1 + r : Nat) : Int) + ((1 + r : Nat) : Int) * (dd : Int))])) = _
        rw [eq9, List.map_append]
        rfl
    · rintro σ H4 ⟨k4, hP4, L, Hs, x0, y0, z0, hh, eL, eH, rfl⟩
      refine ⟨_, rfl, lh, _, rfl, .inl ⟨SqL.of eH, fun a ha => q _ a Hs (k4.same (same_new ha)) (pen_same (same_new ha) hP4) (SqT.of upd_same) ⟨by rw [hh.hl]; omega, by rw [hh.hl]; omega, fun h hm => hh.top h hm, fun j j' hj hj' e => ?_⟩⟩⟩
      rw [hh.hl] at hj hj' e
      exact hh.inj j j' hj hj' e
end
theorem RowAt.has {K : PySem.W.Frag} {H : Hp} {Cs C B l : Addr} {T : List Nat} {b k n : Nat} {c link : Bool} {W : List Addr} (h : RowAt K H Cs C B l T b k n c link W) : (∀ z ∈ W, ∃ u, H z = some u) ∧ l ∈ W ∧ ∃ L, H l = some (.lst L) := by
  obtain ⟨dxB, S, dx, li, lo, dd, dl, Ls, rfl, h1, h2, h3, h4, h5, h6, ⟨a, co, cu, go, xs, ys, pt, L, hS, _⟩⟩ := h.ex
  refine ⟨fun z hz => ?_, by simp, _, h2⟩
  simp only [List.mem_cons, List.not_mem_nil, or_false] at hz
  rcases hz with rfl | rfl | rfl | rfl | rfl | rfl | rfl
  · exact ⟨_, h1⟩
  · exact ⟨_, h2⟩
  · exact ⟨_, hS.st⟩
  · exact ⟨_, hS.ins⟩
  · exact ⟨_, hS.outs⟩
  · exact ⟨_, hS.due⟩
  · exact ⟨_, hS.lat⟩
section
variable {P : Program} {w : World} {K : PySem.W.Frag} {base : Heap} {mg : Str → Option Value}
def spGoneF (K : PySem.W.Frag) (Cs C : Addr) (link : Bool) : Sp := fun vs H Q _ => ∃ (B l : Addr) (T W : List Nat) (b k cn : Nat), vs = [.ref B, vn b, vn k, vn cn] ∧ RowAt K H Cs C B l T b k 0 false link W ∧ Tab T ∧ far T ≤ b ∧ 1 ≤ k ∧ k ≤ 60 ∧ b < cn ∧ cn ≤ 3000 ∧
  ∀ H' p vs' W', Keep [l] H H' → (∀ z ∈ W', z ∈ W ∨ H z = none) → H p = none → p ∉ W' → RowAt K H' Cs C B l T b k cn true link W' → H' p = some (.lst vs') → vs'.length = cn → (∀ u v, vs'[u]? = some v → OutB link T b k u v) → Q (.ref p) H'
theorem sc59 : FnScope ["_law_box", "_law_begin", "_law_ticks", "_law_count", "_law_found", "_law_thing"] ["_law_box", "_law_begin", "_law_ticks", "_law_count"] (defScope (top 59)) := ⟨rfl, rfl, rfl, by decide +kernel, rfl, by decide +kernel, by decide +kernel⟩
theorem g_gone {Cs C : Addr} {link : Bool} (d : Df K mg "_law_gone" (top 59) ["_law_box", "_law_begin", "_law_ticks", "_law_count"]) (B0 : Bt mg) (hC : Cls K C) (M1 : MF P w K mg base C "lose" 5 (spLose K Cs C)) (M2 : MF P w K mg base C "push" 6 (spPush K Cs C link id)) :
    GF P w K mg base "_law_gone" 7 (spGoneF K Cs C link) := by
  refine gf_of d sc59 (fun vs H Q E h => ?_) (fun f cdv A outer s H vs Q E hr h => ?_)
  · obtain ⟨B, l, T, W, b, k, cn, rfl, _⟩ := h
    rfl
  · obtain ⟨B, l, T, W, b, k, cn, rfl, hR, X, hb, k1, k60, hcn, hc3, q⟩ := h
    refine ⟨_, pss_cons (ps_set (i := 4) sc59.nd rfl (Or.inl rfl) (pe_lst pa_nil))
      (pss_cons (ps_for PassesOwn.never rfl (pi_range1 rfl B0.range_ (pa_cons (pv 3) pa_nil)) (pg_name (i := 5) sc59.nd rfl (Or.inl rfl))
        (pss_cons (ps_if (pt_cmpR op_eq (pv 5) (pv 1) (nomark _)) (pss_one (ps_expr (pe_mt M1 hC (hr.mono (by decide)) (pv 0) (pa_cons (pv 2) pa_nil)))) pss_nil)
        (pss_one (ps_expr (pe_bm PySem.F.plainAttrs_list PySem.F.slot_list_append PySem.F.type_list_append mt_append (pv 4) (pa_cons (pe_mt M2 hC hr (pv 0) (pa_cons (pv 5) pa_nil)) pa_nil))))))
      (pss_one (ps_ret (pv 4)))), ?_⟩
    obtain ⟨hW, lW, Ll, hl⟩ := hR.has
    refine ⟨Nat.zero_le _, ?_⟩
    intro lf hlf
    have s1 := same_new (o := .lst []) hlf
    have e1 : upd H lf (.lst []) lf = some (.lst []) := upd_same
    have nlf : lf ≠ l := fun z => by rw [z, hl] at hlf; cases hlf
    generalize upd H lf (.lst []) = H1 at s1 e1 ⊢
    have fW : lf ∉ W := fun m => by obtain ⟨u, hu⟩ := hW lf m; rw [hu] at hlf; cases hlf
    refine ⟨_, rfl, (cn : Int), rfl, by omega, by omega, ?_⟩
    rw [Int.toNat_natCast]
    refine for_it walk_range (fun i σ H2 => Keep [l, lf] H1 H2 ∧ ∃ (vs' : List V) (Wi : List Addr) (x : Option V), RowAt K H2 Cs C B l T b k i (decide (b < i)) link Wi ∧ (∀ z ∈ Wi, z ∈ W ∨ H1 z = none) ∧ H2 lf = some (.lst vs') ∧ vs'.length = i ∧ (∀ u v, vs'[u]? = some v → OutB link T b k u v) ∧
        σ = [some (.ref B), some (vn b), some (vn k), some (vn cn), some (.ref lf), x])
      ⟨fun _ _ e _ => e, [], W, none, by rw [decide_eq_false (Nat.not_lt_zero b)]; exact hR.same s1, fun z hz => .inl hz, e1, rfl, (fun u v hu => by simp at hu), rfl⟩ (fun _ _ _ _ _ => trivial) ?_ ?_
    · rintro i x σ H2 H3 li ⟨k2, vs', Wi, x0, hRi, hWi, eF, lv, hv, rfl⟩ ⟨rfl, rfl⟩
      -- the push, when the burst stands rightly
      have push : ∀ (H4 : Hp) (c : Bool) (W4 : List Addr), Keep [l] H3 H4 → RowAt K H4 Cs C B l T b k i c link W4 → (∀ z ∈ W4, z ∈ W ∨ H1 z = none) → (c = false → i < b) → c = decide (b < i + 1) →
          ∀ (R : VK), (∀ v H5, Keep [l, lf] H1 H5 → H5 lf = some (.lst vs') → (∃ W5, RowAt K H5 Cs C B l T b k (i + 1) (decide (b < i + 1)) link W5 ∧ (∀ z ∈ W5, z ∈ W ∨ H1 z = none)) → OutB link T b k i v → R v H5) →
          spPush K Cs C link id [.ref B, .int (0 + (i : Int))] H4 R E0 := by
        intro H4 c W4 k4 hR4 hW4 hc ec R r
        refine ⟨B, l, T, W4, b, k, i, c, by rw [Int.zero_add], hR4, hc, X, hb, by omega, fun H5 v W5 k5 hW5 hR5 hv5 => ?_⟩
        have m2 : ∀ z ∈ [l], z ∈ [l, lf] := fun z hz => by rw [List.mem_singleton.mp hz]; simp
        have k14 : Keep [l, lf] H1 H4 := k2.trans (k4.mono m2)
        have e4 := k4 _ _ eF (by simpa using nlf)
        refine r v H5 (k14.trans (k5.mono m2)) (k5 _ _ (k4 _ _ eF (by simpa using nlf)) (by simpa using nlf)) ⟨W5, by rw [← ec]; exact hR5, fun z hz => ?_⟩ hv5
        rcases hW5 z hz with m | m
        · exact hW4 z m
        · by_cases e : z = l
          · rw [e]; exact .inl lW
          · refine .inr (k14.low m fun q => ?_)
            simp only [List.mem_cons, List.not_mem_nil, or_false] at q
            rcases q with q | q
            · exact e q
            · rw [q, e4] at m; cases m
      have fin : ∀ (v : V) (H5 : Hp), Keep [l, lf] H1 H5 → H5 lf = some (.lst vs') → (∃ W5, RowAt K H5 Cs C B l T b k (i + 1) (decide (b < i + 1)) link W5 ∧ (∀ z ∈ W5, z ∈ W ∨ H1 z = none)) → OutB link T b k i v →
          ∃ (vs6 : List V) (W6 : List Addr), RowAt K (upd H5 lf (.lst (vs' ++ [v]))) Cs C B l T b k (i + 1) (decide (b < i + 1)) link W6 ∧ (∀ z ∈ W6, z ∈ W ∨ H1 z = none) ∧ upd H5 lf (.lst (vs' ++ [v])) lf = some (.lst vs6) ∧ vs6.length = i + 1 ∧ (∀ u v, vs6[u]? = some v → OutB link T b k u v) := by
        rintro v H5 k5 e5 ⟨W5, hR5, hW5⟩ hv5
        have f5 : lf ∉ W5 := fun m => by
          rcases hW5 lf m with z | z
          · exact fW z
          · rw [e1] at z; cases z
        refine ⟨vs' ++ [v], W5, hR5.keep (Vs := [lf]) (keep_at (List.mem_singleton.mpr rfl)) fun z hz => ?_, hW5, upd_same, by rw [List.length_append, lv]; rfl, fun u v2 hu => ?_⟩
        · rw [List.mem_singleton.mp hz]
          exact ⟨f5, fun zs => by rw [e5]; simp, fun _ _ => by rw [e5]; simp⟩
        · by_cases eu : u < vs'.length
          · rw [List.getElem?_append_left eu] at hu
            exact hv u v2 hu
          · have lt := (List.getElem?_eq_some_iff.mp hu).1
            rw [List.length_append, List.length_singleton] at lt
            have e : u = i := by omega
            subst e
            rw [List.getElem?_append_right (by omega), lv, Nat.sub_self] at hu
            obtain rfl : v = v2 := by simpa using hu
            exact hv5
      obtain ⟨dxB, _, _, _, _, _, _, _, _, hB, _⟩ := hRi.ex
      refine ⟨_, rfl, _, rfl, rfl, _, rfl, ?_⟩
      refine ite2 (fun c => ?_) fun c => ?_
      · have ei : i = b := by
          have := V.int.inj (of_decide_eq_true c)
          omega
        subst ei
        have hRb : RowAt K H3 Cs C B l T i k i false link Wi := by rw [decide_eq_false (Nat.lt_irrefl i)] at hRi; exact hRi
        refine ⟨_, rfl, B, dxB, _, rfl, hB, rfl, _, rfl, B, l, T, Wi, i, k, link, rfl, hRb, k1, k60, by omega, fun H4 W4 k4 hW4 hR4 => ?_⟩
        have eF4 := k4 _ _ eF (by simpa using nlf)
        obtain ⟨dxB4, _, _, _, _, _, _, _, _, hB4, _⟩ := hR4.ex
        refine ⟨_, rfl, .inl ⟨rfl, _, SqL.of eF4⟩, _, rfl, B, dxB4, _, rfl, hB4, rfl, _, rfl, push H4 true W4 k4 hR4 (fun z hz => ?_) (fun z => by cases z) (decide_eq_true (Nat.lt_succ_self i)).symm _ fun v H5 k5 e5 h5 hv5 => ?_⟩
        · rcases hW4 z hz with m | m
          · exact hWi z m
          · by_cases e : z = l
            · rw [e]; exact .inl lW
            · refine .inr (k2.low m fun q => ?_)
              simp only [List.mem_cons, List.not_mem_nil, or_false] at q
              rcases q with q | q
              · exact e q
              · rw [q, eF] at m; cases m
        · obtain ⟨vs6, W6, g1, g2, g3, g4, g5⟩ := fin v H5 k5 e5 h5 hv5
          refine ⟨lf, _, _, rfl, rfl, e5, by rw [lv, sizeLine_eq]; omega, k5.trans (keep_at (by simp)), vs6, W6, _, g1, g2, g3, g4, g5, rfl⟩
      · have nb : i ≠ b := fun z => c (decide_eq_true (by rw [z]; show V.int (0 + (b : Int)) = _; rw [Int.zero_add]))
        refine ⟨_, rfl, .inl ⟨rfl, _, SqL.of eF⟩, _, rfl, B, dxB, _, rfl, hB, rfl, _, rfl, push H3 (decide (b < i)) Wi (fun _ _ e _ => e) hRi hWi (fun z => by have := of_decide_eq_false z; omega) ?_ _ fun v H5 k5 e5 h5 hv5 => ?_⟩
        · by_cases h : b < i
          · rw [decide_eq_true h, decide_eq_true (by omega)]
          · rw [decide_eq_false h, decide_eq_false (by omega)]
        · obtain ⟨vs6, W6, g1, g2, g3, g4, g5⟩ := fin v H5 k5 e5 h5 hv5
          refine ⟨lf, _, _, rfl, rfl, e5, by rw [lv, sizeLine_eq]; omega, k5.trans (keep_at (by simp)), vs6, W6, _, g1, g2, g3, g4, g5, rfl⟩
    · rintro σ H2 ⟨k2, vs', Wi, x0, hRi, hWi, eF, lv, hv, rfl⟩
      rw [decide_eq_true hcn] at hRi
      refine ⟨_, rfl, q _ lf vs' Wi (fun b' o e nb => k2 _ _ (s1 _ _ e) fun m => by
        simp only [List.mem_cons, List.not_mem_nil, or_false] at m
        rcases m with m | m
        · exact nb (List.mem_singleton.mpr m)
        · rw [m, hlf] at e; cases e) (fun z hz => ?_) hlf (fun m => ?_) hRi eF lv hv⟩
      · rcases hWi z hz with m | m
        · exact .inl m
        · exact .inr (low_none s1 m)
      · rcases hWi lf m with z | z
        · exact fW z
        · rw [e1] at z; cases z
end
/-! ## data of what is compared -/
theorem lay_all : ∀ {ds : List PyData} {n : Nat}, (∀ d ∈ ds, d.canLay0 = true ∧ d.depth ≤ n) → PyData.canLayAll0 ds = true ∧ PyData.depthAll ds ≤ n
  | [], n, _ => ⟨by simp [PyData.canLayAll0], by simp [PyData.depthAll]⟩
  | d :: r, n, h => by
    obtain ⟨a1, a2⟩ := lay_all (ds := r) (n := n) fun x hx => h x (List.mem_cons_of_mem _ hx)
    obtain ⟨b1, b2⟩ := h d List.mem_cons_self
    exact ⟨by simp [PyData.canLayAll0, a1, b1], by simp only [PyData.depthAll]; omega⟩
theorem shaped_tup {ds : List PyData} {n : Nat} (h : ∀ d ∈ ds, d.canLay0 = true ∧ d.depth ≤ n) (hn : n < 64) : SeqAt.shaped (.tuple ds) = true ∧ (PyData.tuple ds).canLay0 = true ∧ (PyData.tuple ds).depth ≤ n + 1 := by
  obtain ⟨h1, h2⟩ := lay_all h
  have c : (PyData.tuple ds).canLay0 = true := by simpa [PyData.canLay0] using h1
  have d : (PyData.tuple ds).depth ≤ n + 1 := by simp only [PyData.depth]; omega
  exact ⟨by unfold SeqAt.shaped; rw [c, decide_eq_true (by omega)]; rfl, c, d⟩
theorem shaped_lst {ds : List PyData} {n : Nat} (h : ∀ d ∈ ds, d.canLay0 = true ∧ d.depth ≤ n) (hn : n < 64) : SeqAt.shaped (.list ds) = true ∧ (PyData.list ds).canLay0 = true := by
  obtain ⟨h1, h2⟩ := lay_all h
  have c : (PyData.list ds).canLay0 = true := by simpa [PyData.canLay0] using h1
  have d : (PyData.list ds).depth ≤ n + 1 := by simp only [PyData.depth]; omega
  exact ⟨by unfold SeqAt.shaped; rw [c, decide_eq_true (by omega)]; rfl, c⟩
/-- None and ints as data -/
def toD : V → PyData
  | .int i => .int i
  | _ => .none
def Flat2 (v : V) : Prop := v = .non ∨ ∃ i, v = .int i
theorem toD_lay (v : V) : (toD v).canLay0 = true ∧ (toD v).depth ≤ 0 := by
  cases v with
  | int i => exact ⟨by simp [toD, PyData.canLay0], by simp [toD, PyData.depth]⟩
  | _ => exact ⟨by simp [toD, PyData.canLay0], by simp [toD, PyData.depth]⟩
theorem toD_all {K : PySem.W.Frag} {H : Hp} : ∀ {vs : List V}, (∀ v ∈ vs, Flat2 v) → DpAll K H vs (vs.map toD)
  | [], _ => .nil
  | v :: vs, h => by
    refine .cons ?_ (toD_all fun x hx => h x (List.mem_cons_of_mem _ hx))
    rcases h v List.mem_cons_self with rfl | ⟨i, rfl⟩
    · exact .non
    · exact .int i
/-- flat lists that are alike: not told apart -/
theorem ne_flatL {K : PySem.W.Frag} {H : Hp} {p q : Addr} {vs : List V} {Q : VK} (hp : SqL K H p vs) (hq : SqL K H q vs) (hf : ∀ v ∈ vs, Flat2 v) (r : Q (.bl false) H) : rNeD K (.ref p) (.ref q) H Q := by
  obtain ⟨s1, s2⟩ := shaped_lst (ds := vs.map toD) (n := 0) (fun d hd => by obtain ⟨v, _, rfl⟩ := List.mem_map.mp hd; exact toD_lay v) (by decide)
  refine ⟨_, _, .lst hp (toD_all hf), .lst hq (toD_all hf), s1, s1, ?_⟩
  rw [SeqAt.eqv_refl _ s2]
  exact r
theorem ne_flatT {K : PySem.W.Frag} {H : Hp} {p q : Addr} {vs : List V} {Q : VK} (hp : SqT K H p vs) (hq : SqT K H q vs) (hf : ∀ v ∈ vs, Flat2 v) (r : Q (.bl false) H) : rNeD K (.ref p) (.ref q) H Q := by
  obtain ⟨s1, s2, _⟩ := shaped_tup (ds := vs.map toD) (n := 0) (fun d hd => by obtain ⟨v, _, rfl⟩ := List.mem_map.mp hd; exact toD_lay v) (by decide)
  refine ⟨_, _, .tup hp (toD_all hf), .tup hq (toD_all hf), s1, s1, ?_⟩
  rw [SeqAt.eqv_refl _ s2]
  exact r
theorem flat2_vn (l : List Nat) : ∀ v ∈ l.map vn, Flat2 v := fun v hv => by
  obtain ⟨n, _, rfl⟩ := List.mem_map.mp hv
  exact .inr ⟨_, rfl⟩
/-- tuples of pairs of ints -/
def pairD (q : Int × Int) : PyData := .tuple [.int q.1, .int q.2]
theorem pair_all {K : PySem.W.Frag} {H : Hp} : ∀ {ts : List Addr} {qs : List (Int × Int)}, Tells H ts qs → DpAll K H (ts.map V.ref) (qs.map pairD)
  | _, _, .nil => .nil
  | _, _, .cons h r => .cons (.tup (SqT.of h) (.cons (.int _) (.cons (.int _) .nil))) (pair_all r)
theorem ne_pairs {K : PySem.W.Frag} {H : Hp} {p q : Addr} {ts us : List Addr} {qs : List (Int × Int)} {Q : VK} (hp : SqT K H p (ts.map V.ref)) (hq : SqT K H q (us.map V.ref)) (ht : Tells H ts qs) (hu : Tells H us qs) (r : Q (.bl false) H) : rNeD K (.ref p) (.ref q) H Q := by
  obtain ⟨s1, s2, _⟩ := shaped_tup (ds := qs.map pairD) (n := 1) (fun d hd => by
    obtain ⟨v, _, rfl⟩ := List.mem_map.mp hd
    obtain ⟨_, b, c⟩ := shaped_tup (ds := [.int v.1, .int v.2]) (n := 0) (fun d hd => by
      simp only [List.mem_cons, List.not_mem_nil, or_false] at hd
      rcases hd with rfl | rfl
      · exact toD_lay (.int _)
      · exact toD_lay (.int _)) (by decide)
    exact ⟨b, c⟩) (by decide)
  refine ⟨_, _, .tup hp (pair_all ht), .tup hq (pair_all hu), s1, s1, ?_⟩
  rw [SeqAt.eqv_refl _ s2]
  exact r
theorem tells_by {H : Hp} : ∀ {ts : List Addr} {qs : List (Int × Int)}, ts.length = qs.length → (∀ (j : Nat) (t : Addr) (q : Int × Int), ts[j]? = some t → qs[j]? = some q → H t = some (.tup [.int q.1, .int q.2])) → Tells H ts qs
  | [], [], _, _ => .nil
  | t :: ts, q :: qs, hl, h => .cons (h 0 t q rfl rfl) (tells_by (by simpa using hl) fun j t' q' e1 e2 => h (j + 1) t' q' (by simpa using e1) (by simpa using e2))
  | [], _ :: _, hl, _ => (by simp at hl)
  | _ :: _, [], hl, _ => (by simp at hl)
/-- all that was lost, at the end -/
theorem gone_all {b k n : Nat} (h : b + k ≤ n) : (goneL b k n).map vn = (upFrom b k).map V.int := by
  have e : (goneL b k n).map (fun n : Nat => (n : Int)) = upFrom b k := by
    refine asc_ext ?_ (upFrom_asc b k) fun x => ?_
    · rw [List.pairwise_map]
      refine List.Pairwise.imp (fun h => by omega) ((List.pairwise_lt_range (n := n)).sublist (List.filter_sublist (p := Cut b k)))
    · rw [upFrom_mem, List.mem_map]
      constructor
      · rintro ⟨y, hy, rfl⟩
        have := cut_iff.mp (List.mem_filter.mp hy).2
        exact ⟨y, rfl, this.1, this.2⟩
      · rintro ⟨y, rfl, h1, h2⟩
        exact ⟨y, List.mem_filter.mpr ⟨List.mem_range.mpr (by omega), cut_iff.mpr ⟨h1, h2⟩⟩, rfl⟩
  rw [map_vn, e]
theorem paired_tells {H : Hp} : ∀ {ts : List Addr} {ps : List (Int × Int)}, Paired (fun (t : Addr) (q : Key × V) => H t = some (.tup [kV q.1, q.2])) ts (ps.map intKV) → Tells H ts ps
  | [], [], _ => .nil
  | t :: ts, q :: ps, .cons h r => .cons h (paired_tells r)
/-- how many of a word are gone -/
theorem word_count {T Gs : List Nat} {m r k M b : Nat} (X : Tab T) (W : IsWorst T m r k M) (hM : Many T m r) (hm : 0 < m) (nd : Gs.Nodup) (mem : ∀ t ∈ Gs, Cut b k (out T t) = true) {j c : Int} (h : (j, c) ∈ tally (wordsOf m Gs)) : c ≤ (M : Int) := by
  have e := tally_mem _ h
  have e2 : (wordsOf m Gs).count j = (Gs.filter fun t => decide (((t / m : Nat) : Int) = j)).length := by
    rw [List.count_eq_length_filter]
    unfold wordsOf
    rw [List.filter_map, List.length_map]
    congr 1
  by_cases h0 : (Gs.filter fun t => decide (((t / m : Nat) : Int) = j)) = []
  · rw [e, e2, h0]
    simp
  · obtain ⟨t0, ht0⟩ := List.exists_mem_of_ne_nil _ h0
    have ej := of_decide_eq_true (List.mem_filter.mp ht0).2
    have z := lost_le X W hm hM.pos hM.per (s := b) (nd.sublist (List.filter_sublist (p := fun t => decide (((t / m : Nat) : Int) = j)))) (k := t0 / m) fun t ht => by
      obtain ⟨h1, h2⟩ := List.mem_filter.mp ht
      have h3 := of_decide_eq_true h2
      have h4 := cut_iff.mp (mem t h1)
      exact ⟨by omega, h4.1, h4.2⟩
    rw [e, e2]
    omega
theorem got_perm {T L Gs : List Nat} {b k : Nat} (X : Tab T) (lL : L.length = k) (hL : ∀ j, j < k → out T (L.getD j 0) = b + j) (nd : Gs.Nodup) (mem : ∀ t, t ∈ Gs ↔ Cut b k (out T t) = true) : L.Perm Gs := by
  have at_ : ∀ {i : Nat} {x : Nat}, L[i]? = some x → i < k ∧ out T x = b + i := fun {i x} e => by
    have lt := (List.getElem?_eq_some_iff.mp e).1
    have z := hL i (by omega)
    rw [List.getD_eq_getElem?_getD, e] at z
    exact ⟨by omega, z⟩
  refine perm_mem ?_ nd fun t => ?_
  · rw [List.nodup_iff_pairwise_ne, List.pairwise_iff_getElem]
    intro i j hi hj lt e
    have h1 := (at_ (List.getElem?_eq_getElem hi)).2
    have h2 := (at_ (List.getElem?_eq_getElem hj)).2
    rw [e] at h1
    omega
  · rw [mem, cut_iff]
    constructor
    · intro h
      obtain ⟨i, hi⟩ := List.mem_iff_getElem?.mp h
      have := at_ hi
      omega
    · rintro ⟨h1, h2⟩
      have lt : out T t - b < L.length := by omega
      have z := hL (out T t - b) (by omega)
      have e : L.getD (out T t - b) 0 = t := out_inj X (by rw [z]; omega)
      rw [← e]
      exact getD_mem lt
section
variable {P : Program} {w : World} {K : PySem.W.Frag} {base : Heap} {mg : Str → Option Value}
theorem sortedPO_K {X : Cx} : CallR X (.builtin "sorted") (rSortedPO X.K) := cr_sortedPO
/-! ## _law_words_right -/
def spWR (K : PySem.W.Frag) : Sp := fun vs H Q _ => ∃ (a g : Addr) (T Gs : List Nat) (m b k : Nat), vs = [.ref a, vn m, vn b, vn k, .ref g] ∧ TabAt K H a T ∧ Tab T ∧ 1 ≤ m ∧ m ≤ 24 ∧ far T ≤ b ∧ b ≤ 3000 ∧ 1 ≤ k ∧ k ≤ 60 ∧ H g = some (.lst (Gs.map vn)) ∧ Gs.Nodup ∧
  (∀ t, t ∈ Gs ↔ Cut b k (out T t) = true) ∧ Gs.length ≤ 1000 ∧ ∀ H', Same H H' → Q (.bl true) H'
theorem sc60 : FnScope ["_law_table_here", "_law_word", "_law_begin", "_law_ticks", "_law_gone_here", "_law_rows", "_law_thing", "_law_most", "_law_amount", "_law_far", "_law_more"] ["_law_table_here", "_law_word", "_law_begin", "_law_ticks", "_law_gone_here"] (defScope (top 60)) := ⟨rfl, rfl, rfl, by decide +kernel, rfl, by decide +kernel, by decide +kernel⟩
theorem g_wr (d : Df K mg "_law_words_right" (top 60) ["_law_table_here", "_law_word", "_law_begin", "_law_ticks", "_law_gone_here"]) (B0 : Bt mg) (G1 : GF P w K mg base "lost" 5 (spLost K)) (G2 : GF P w K mg base "worst" 5 (spWorst K)) (G3 : GF P w K mg base "longest" 5 (spLongest K)) :
    GF P w K mg base "_law_words_right" 6 (spWR K) := by
  refine gf_of d sc60 (fun vs H Q E h => ?_) (fun f cdv A outer s H vs Q E hr h => ?_)
  · obtain ⟨a, g, T, Gs, m, b, k, rfl, _⟩ := h
    rfl
  · obtain ⟨a, g, T, Gs, m, b, k, rfl, hT, X, m1, m24, hb, hb3, k1, k60, hg, nd, mem, lG, q⟩ := h
    have hu : (CxD P w K mg base ["_law_table_here", "_law_word", "_law_begin", "_law_ticks", "_law_gone_here", "_law_rows", "_law_thing", "_law_most", "_law_amount", "_law_far", "_law_more"] "_law_words_right" (top 60) f cdv A outer s H E).A.units + 64 < cLine := hr.units
    have hu1 : (CxD P w K mg base ["_law_table_here", "_law_word", "_law_begin", "_law_ticks", "_law_gone_here", "_law_rows", "_law_thing", "_law_most", "_law_amount", "_law_far", "_law_more"] "_law_words_right" (top 60) f cdv A outer s H E).A.units + 1 < cLine := by omega
    refine ⟨_, pss_cons (ps_set (i := 5) sc60.nd rfl (Or.inl rfl) pe_dnewK)
      (pss_cons (ps_for PassesOwn.never rfl (pi_list (pv 4)) (pg_name (i := 6) sc60.nd rfl (Or.inl rfl))
        (pss_one (ps_dput hu1 (pv 5) (pe_op op_fdivNN (pv 6) (pv 1)) (pe_op op_add (pe_dget2 hu1 (pv 5) (pe_op op_fdivNN (pv 6) (pv 1)) pe_int ⟨rfl, rfl, rfl, rfl⟩) pe_int) rfl)))
      (pss_cons (ps_if (pt_cmpR (op_neD hu) (pe_callTy call_tuple_of rfl B0.tuple_ bt_tuple (pa_cons (pe_callB sortedPO_K rfl B0.sorted_ bt_sorted (pa_cons (LiI.pe_listItems rfl (pv 5) rfl B0.list_ bt_list) pa_nil)) pa_nil))
          (pe_g G1 hr (pa_cons (pv 0) (pa_cons (pv 1) (pa_cons (pv 2) (pa_cons (pv 3) pa_nil))))) (nomark _)) (pss_one (ps_ret pe_bl)) pss_nil)
      (pss_cons (ps_set (i := 7) sc60.nd rfl (Or.inr rfl) (pe_ix ix_tup (pe_g G2 hr (pa_cons (pv 0) (pa_cons (pv 1) (pa_cons (pv 3) pa_nil)))) pe_int (fun _ _ => rfl)))
      (pss_cons (ps_if (pt_cmpR (op_neD hu) (pe_lock (pe_lc (own := [("_law_amount", 8)]) (g := gName 8) rfl sc60.nd (pi_values (pv 5))
          (blkOk_by (N := ["_law_table_here", "_law_word", "_law_begin", "_law_ticks", "_law_gone_here", "_law_rows", "_law_thing", "_law_most", "_law_amount", "_law_far", "_law_more"]) (sc := defScope (top 60)) (by decide +kernel)) (fun _ _ _ _ _ => pg_name (i := 8) sc60.nd rfl (Or.inl rfl))
          (fun _ _ _ _ _ => pts_one (pt_cmpR op_gt (pv 8) (pv 7) (nomark _))) (fun _ _ _ _ _ => pe_int))) (pe_lst pa_nil) (nomark _)) (pss_one (ps_ret pe_bl)) pss_nil)
      (pss_cons (ps_par (i := 9) (j := 10) rfl sc60.nd rfl rfl (by decide) rfl rfl (pa_cons (pe_g G3 hr (pa_cons (pv 0) (pa_cons (pv 1) (pa_cons (pe_op op_sub (pv 7) pe_int) pa_nil)))) (pa_cons (pe_g G3 hr (pa_cons (pv 0) (pa_cons (pv 1) (pa_cons (pv 7) pa_nil)))) pa_nil)) rfl)
      (pss_one (ps_ret (pe_and (pe_cmpR op_notN (pv 9) pe_non (nomark _)) (pe_and (pe_cmpR op_lt (pv 9) (pv 3) (nomark _)) (pe_one (pe_or (pe_cmpR op_isN (pv 10) pe_non (nomark _)) (pe_one (pe_cmpR op_ge (pv 10) (pv 3) (nomark _)))))))))))))), ?_⟩
    intro r hr0
    have s1 := same_new (o := .dK []) hr0
    have e1 : upd H r (.dK []) r = some (.dK []) := upd_same
    generalize upd H r (.dK []) = H1 at s1 e1 ⊢
    refine ⟨_, rfl, g, rfl, ⟨_, SqL.of (s1 _ _ hg)⟩, for_it (walk_list (K := K) (a := g) (xs := Gs.map vn)) (fun i σ H2 => Same H H2 ∧ H2 r = some (.dK ((tally (wordsOf m (Gs.take i))).map intKV)) ∧ ∃ x : Option V, σ = [some (.ref a), some (vn m), some (vn b), some (vn k), some (.ref g), some (.ref r), x, none, none, none, none])
      ⟨s1, e1, none, rfl⟩ (fun i σ H2 _ h => SqL.of (h.1 _ _ hg)) ?_ ?_⟩
    · rintro i x σ H2 H3 li ⟨s2, e2, x0, rfl⟩ ⟨rfl, hx⟩
      rw [List.length_map] at li
      have eG := map_at li
      obtain rfl := Option.some.inj (eG.symm.trans hx)
      have kv2 := get_val (tally (wordsOf m (Gs.take i))) ((Gs.getD i 0 / m : Nat) : Int)
      refine ⟨_, rfl, r, rfl, .inl ⟨_, .inl e2⟩, _, rfl, _, rfl, Gs.getD i 0, m, rfl, rfl, ⟨m1, by omega⟩, _, DGet.k (k := Sum.inl ((Gs.getD i 0 / m : Nat) : Int)) e2, (valOf (tally (wordsOf m (Gs.take i))) ((Gs.getD i 0 / m : Nat) : Int)), 1, kv2, rfl, ?_⟩
      refine ⟨_, rfl, _, rfl, _, rfl, Gs.getD i 0, m, rfl, rfl, ⟨m1, by omega⟩, r, _, rfl, DPut.k (k := Sum.inl ((Gs.getD i 0 / m : Nat) : Int)) e2 ?_, fun b' o e => ?_, ?_, _, rfl⟩
      · have l1 := tally_len (wordsOf m (Gs.take i))
        have l2 := List.length_take_le i Gs
        rw [List.length_map] at l1
        (rw [List.length_map, sizeLine_eq])
        omega
      · rw [upd_ne (ne_of_none e hr0)]
        exact s2 _ _ e
      · rw [upd_same, put_bump (tally_facts _).1, ← tally_snoc, List.take_add_one, getD_some li]
        simp [wordsOf]
    · rintro σ H2 ⟨s2, e2, x0, rfl⟩
      rw [List.length_map, List.take_length] at e2
      refine ⟨_, rfl, r, _, rfl, e2, fun H3 p3 ts s3 hp3 _ _ at3 pr => ?_⟩
      have tl := paired_tells pr
      obtain ⟨tk1, tk2⟩ := tells_k tl
      refine ⟨p3, ts.map V.ref, kOf H3, rfl, SqL.of at3, tk2, fun ys p4 srt4 stb4 hp4 => ?_⟩
      obtain ⟨us, qs, rfl, pm4, asc4, tl4⟩ := sorted_tells tl srt4 stb4.perm
      have s4 := same_new (o := .lst (us.map V.ref)) hp4
      have e4 : upd H3 p4 (.lst (us.map V.ref)) p4 = some (.lst (us.map V.ref)) := upd_same
      generalize upd H3 p4 (.lst (us.map V.ref)) = H4 at s4 e4 ⊢
      refine ⟨p4, _, rfl, .inl ⟨SqL.of e4, fun p5 hp5 => ?_⟩⟩
      have s5 := same_new (o := .tup (us.map V.ref)) hp5
      have e5 : upd H4 p5 (.tup (us.map V.ref)) p5 = some (.tup (us.map V.ref)) := upd_same
      generalize upd H4 p5 (.tup (us.map V.ref)) = H5 at s5 e5 ⊢
      have s25 : Same H2 H5 := fun b' o e => s5 _ _ (s4 _ _ (s3 _ _ e))
      have sH5 := s2.trans s25
      refine ⟨_, rfl, _, rfl, _, rfl, _, rfl, a, T, m, b, k, rfl, sH5.tup hT, X, m1, m24, hb, by omega, by omega, fun H6 p6 ts6 qs6 L s6 e6 tl6 asc6 lL hL pm6 => ?_⟩
      have eqs : qs = qs6 := asc_one (pm4.trans ((tally_perm ((got_perm X lL hL nd mem).map _)).symm.trans pm6.symm)) asc4 asc6
      subst eqs
      refine ne_pairs (SqT.of (s6 _ _ e5)) (SqT.of e6) (tells_same ((s4.trans s5).trans s6) tl4) tl6 ⟨false, rfl, iteF ?_⟩
      have sH6 := sH5.trans s6
      have r6 := s6 _ _ (s25 _ _ e2)
      refine ⟨_, rfl, _, rfl, _, rfl, a, T, m, k, rfl, sH6.tup hT, X, m1, m24, k1, by omega, fun H7 p7 M wx wy r7 s7 e7 hM hW => ?_⟩
      obtain ⟨M1, Mm⟩ := worst_range X hW k1
      refine ⟨p7, _, 0, vn M, rfl, rfl, SqT.of e7, rfl, ?_⟩
      have rr7 := s7 _ _ r6
      have sH7 := sH6.trans s7
      refine ⟨r, _, rr7, trivial, fun od => ⟨_, rfl, r, od, _, rfl, upd_same, fun D hD => lc_fun (walk_values (d := r) (o := od) (kvs := (tally (wordsOf m Gs)).map intKV)) (fun _ => false) (fun _ => .non) hD ?_ (fun H8 s8 => s8 _ _ upd_same) (fun i x H8 H9 Kt Ke li s8 y kt ke => ?_) (fun H8 s8 at8 => ?_)⟩⟩
      · have l1 := tally_len (wordsOf m Gs)
        rw [List.length_map] at l1
        rw [List.length_map]
        omega
      · obtain ⟨rfl, key, hk⟩ := y
        rw [List.getElem?_map] at hk
        obtain ⟨q0, hq0, e⟩ := Option.map_eq_some_iff.mp hk
        cases e
        have le := word_count X hW hM m1 nd (fun t ht => (mem t).mp ht) (j := q0.1) (c := q0.2) (List.mem_of_getElem? hq0)
        refine ⟨rfl, _, rfl, _, rfl, _, _, rfl, rfl, false, ?_, iteF (ke rfl _ (Same.refl _))⟩
        exact congrArg V.bl (decide_eq_false (by omega))
      have at8' : H8 D = some (.lst []) := by rw [at8]; simp
      have fz := s8 _ _ (upd_same (H := H7) (a := r) (o := .frz od (.dK ((tally (wordsOf m Gs)).map intKV))))
      refine ⟨fz, ?_⟩
      have nDr : D ≠ r := fun z => by rw [z, fz] at at8'; cases at8'
      have s9 : Same H7 (upd H8 r (.dK ((tally (wordsOf m Gs)).map intKV))) := fun b' o e => by
        by_cases z : b' = r
        · subst z
          rw [upd_same, ← rr7, e]
        · rw [upd_ne z]
          exact s8 _ _ (by rw [upd_ne z]; exact e)
      have e9 : upd H8 r (.dK ((tally (wordsOf m Gs)).map intKV)) D = some (.lst []) := by rw [upd_ne nDr]; exact at8'
      generalize upd H8 r (.dK ((tally (wordsOf m Gs)).map intKV)) = H9 at s9 e9 ⊢
      refine ⟨Nat.zero_le _, fun pA hpA => ne_flatL (vs := []) (SqL.of (same_new hpA _ _ e9)) (SqL.of upd_same) (fun v hv => by cases hv) ⟨false, rfl, iteF ?_⟩⟩
      have sA := same_new (o := .lst []) hpA
      generalize upd H9 pA (.lst []) = HA at sA ⊢
      have sHA := sH7.trans (s9.trans sA)
      have eM : (M : Int) - 1 = ((M - 1 : Nat) : Int) := by omega
      refine ⟨_, rfl, _, rfl, _, rfl, _, _, rfl, rfl, a, T, m, M - 1, by show [V.ref a, vn m, V.int ((M : Int) - 1)] = _; rw [eM], sHA.tup hT, X, m1, m24, by omega, fun lt HB gB rB sB hMB hgB => ?_, fun ge => by omega⟩
      obtain rfl := Many.one hMB hM
      have less : gB < (k : Int) := by
        obtain ⟨kk, hkk, y, hy, lt⟩ := guard_below X hW k1
        exact Int.lt_of_le_of_lt (hgB.all kk hkk y hy) lt
      refine ⟨_, rfl, _, rfl, _, rfl, a, T, m, M, rfl, (sHA.trans sB).tup hT, X, m1, m24, by omega, fun lt HC gC rC sC hMC hgC => ?_, fun ge HC sC => ?_⟩
      · obtain rfl := Many.one hMC hMB
        have more : (k : Int) ≤ gC := by
          obtain ⟨kk, hkk, hy⟩ := hgC.one
          exact guard_above X hW lt hkk _ hy
        refine ⟨_, _, rfl, _, rfl, rfl, true, rfl, iteT ⟨_, rfl, _, rfl, _, _, rfl, rfl, true, congrArg V.bl (decide_eq_true less), iteT ⟨_, rfl, rfl, false, rfl, iteF ⟨_, rfl, _, rfl, _, _, rfl, rfl, ?_⟩⟩⟩⟩
        show Q (.bl (decide ((k : Int) ≤ gC))) HC
        rw [decide_eq_true more]
        exact q HC (sHA.trans (sB.trans sC))
      · exact ⟨_, _, rfl, _, rfl, rfl, true, rfl, iteT ⟨_, rfl, _, rfl, _, _, rfl, rfl, true, congrArg V.bl (decide_eq_true less), iteT ⟨_, rfl, rfl, true, rfl, iteT (q HC (sHA.trans (sB.trans sC)))⟩⟩⟩
end
abbrev rightNs : List Str := ["_law_pen_here", "_law_table_here", "_law_far", "_law_word", "_law_ticks", "_law_begin", "_law_count", "_law_box", "_law_line", "_law_outs", "_law_crossed", "_law_end", "_law_gone_here", "_law_due", "_law_thing", "_law_tick", "_law_one", "_law_ticks_left"]
/-- what a Link gives, as a comprehension tells it -/
def dueV (T : List Nat) (b k u : Nat) : V := if far T ≤ u ∧ Cut b k (out T (u - far T)) = false then vn (u - far T) else .non
theorem dueV_of {T : List Nat} {b k u : Nat} {v : V} (h : OutL T b k u v) : v = dueV T b k u := by
  unfold dueV
  rcases h with ⟨h1, h2, rfl⟩ | ⟨h1, rfl⟩
  · rw [if_pos ⟨h1, h2⟩]
  · rw [if_neg]
    rintro ⟨h2, h3⟩
    rcases h1 with z | z
    · omega
    · rw [h3] at z; cases z
theorem dueV_flat (T : List Nat) (b k u : Nat) : Flat2 (dueV T b k u) := by
  unfold dueV
  split
  · exact .inr ⟨_, rfl⟩
  · exact .inl rfl
theorem list_by {vs : List V} {n : Nat} {f : Nat → V} (hl : vs.length = n) (h : ∀ u v, vs[u]? = some v → v = f u) : vs = (List.range n).map f := by
  refine List.ext_getElem? fun i => ?_
  rcases Nat.lt_or_ge i n with lt | ge
  · have e : vs[i]? = some (vs[i]'(by omega)) := List.getElem?_eq_getElem _
    rw [e, h i _ e, List.getElem?_map, List.getElem?_range lt]
    rfl
  · rw [List.getElem?_eq_none (by omega), List.getElem?_eq_none (by rw [List.length_map, List.length_range]; exact ge)]
theorem non_in : ∀ l : List Nat, inV .non (l.map vn) = false
  | [] => rfl
  | x :: r => by
    have ih := non_in r
    unfold inV at ih ⊢
    rw [List.map_cons, List.any_cons, ih]
    rfl
theorem pen_same {H H' : Hp} {p : Addr} (s : Same H H') (h : PenAt H p) : PenAt H' p := by
  obtain ⟨x, y, z, h1, h2, h3, h4, e⟩ := h
  exact ⟨x, y, z, h1, h2, h3, h4, s _ _ e⟩
/-- the things whose tick is cut -/
def cutThings (T : List Nat) (b k n : Nat) : List Nat := (List.range n).filter fun t => Cut b k (out T t)
theorem cut_things {T : List Nat} (X : Tab T) {b k n t : Nat} (h : b + k ≤ n) : t ∈ cutThings T b k n ↔ Cut b k (out T t) = true := by
  unfold cutThings
  rw [List.mem_filter, List.mem_range]
  refine ⟨fun z => z.2, fun z => ⟨?_, z⟩⟩
  have := cut_iff.mp z
  have := le_out X t
  omega
theorem cut_nodup (T : List Nat) (b k n : Nat) : (cutThings T b k n).Nodup := List.Nodup.sublist List.filter_sublist List.nodup_range
theorem rg_up (b k : Nat) : rgV ((b : Nat) : Int) ((b + k : Nat) : Int) = (upFrom b k).map V.int := by
  unfold rgV upFrom
  have e : (((b + k : Nat) : Int) - ((b : Nat) : Int)).toNat = k := by omega
  rw [e, List.map_map]
  refine List.map_congr_left fun i _ => congrArg V.int (by push_cast; rfl)
section
variable {P : Program} {w : World} {K : PySem.W.Frag} {base : Heap} {mg : Str → Option Value}
def spRight (K : PySem.W.Frag) : Sp := fun vs H Q _ => ∃ (p a : Addr) (T : List Nat), vs = [.ref p, .ref a] ∧ PenAt H p ∧ TabAt K H a T ∧ Tab T ∧ ∀ H', Keep [p] H H' → PenAt H' p → Q (.bl true) H'
theorem sc61 : FnScope rightNs ["_law_pen_here", "_law_table_here"] (defScope (top 61)) := ⟨rfl, rfl, rfl, by decide +kernel, rfl, by decide +kernel, by decide +kernel⟩
theorem in_any {X : Cx} {K : PySem.W.Frag} (e : X.K = K) : OpR X (compareOp .In) (rIn K false) := in_K e
theorem g_right {Cs CL CK : Addr} (B0 : Bt mg) (d : Df K mg "_law_right" (top 61) ["_law_pen_here", "_law_table_here"]) (OL : Ob K CL ["stands"]) (OK : Ob K CK ["stands"]) (mkL : Mkc K mg "Losing" CL) (mkK : Mkc K mg "Link" CK)
    (G1 : GF P w K mg base "delay" 5 (spDelay K)) (G2 : GF P w K mg base "_law_draw" 1 spDraw) (ML : MF P w K mg base CL "__init__" 5 (spRowInit K Cs CL)) (MK : MF P w K mg base CK "__init__" 5 (spRowInit K Cs CK))
    (GK : GF P w K mg base "_law_gone" 7 (spGoneF K Cs CK true)) (GL : GF P w K mg base "_law_gone" 7 (spGoneF K Cs CL false)) (Go : GF P w K mg base "out_at" 5 (spOutAt K)) (Gh : GF P w K mg base "held" 5 (spHeld K))
    (PKl : PF P w K mg base CK "lost" 1 (spGone K Cs CK)) (PLl : PF P w K mg base CL "lost" 1 (spGone K Cs CL)) (PKh : PF P w K mg base CK "held" 3 (spHeldK K Cs CK)) (PLh : PF P w K mg base CL "held" 3 (spHeldR K Cs CL)) (Gw : GF P w K mg base "_law_words_right" 6 (spWR K)) :
    GF P w K mg base "_law_right" 8 (spRight K) := by
  refine gf_of d sc61 (fun vs H Q E h => ?_) (fun f cdv A outer s H vs Q E hr h => ?_)
  · obtain ⟨p, a, T, rfl, _⟩ := h
    rfl
  · obtain ⟨p, a, T, rfl, hP, hT, X, q⟩ := h
    have hu : (CxD P w K mg base rightNs "_law_right" (top 61) f cdv A outer s H E).A.units + 64 < cLine := hr.units
    refine ⟨_, pss_cons (ps_asg (pe_tup (pa_cons (pe_g G1 (hr.mono (by decide)) (pa_cons (pv 1) pa_nil)) (pa_cons (pe_op op_addN pe_int (pe_g G2 (hr.mono (by decide)) (pa_cons (pv 0) (pa_cons pe_int pa_nil)))) (pa_cons (pe_op op_addN pe_int (pe_g G2 (hr.mono (by decide)) (pa_cons (pv 0) (pa_cons pe_int pa_nil)))) pa_nil))))
          (pg_tup rfl (pgs_cons (pg_name (i := 2) sc61.nd rfl (Or.inr rfl)) (pgs_cons (pg_name (i := 3) sc61.nd rfl (Or.inl rfl)) (pgs_cons (pg_name (i := 4) sc61.nd rfl (Or.inl rfl)) pgs_nil)))))
      (pss_cons (ps_set (i := 5) sc61.nd rfl (Or.inr rfl) (pe_op op_addN (pv 2) (pe_g G2 (hr.mono (by decide)) (pa_cons (pv 0) (pa_cons pe_int pa_nil)))))
      (pss_cons (ps_set (i := 6) sc61.nd rfl (Or.inr rfl) (pe_op op_addN (pe_op op_addN (pe_op op_addN (pv 5) (pv 4)) (pe_op op_mulN pe_int (pv 2))) pe_int))
      (pss_cons (ps_par (i := 7) (j := 8) rfl sc61.nd rfl rfl (by decide) rfl rfl (pa_cons (pe_mk MK mkK (hr.mono (by decide)) (pa_cons (pv 1) pa_nil)) (pa_cons (pe_mk ML mkL (hr.mono (by decide)) (pa_cons (pv 1) pa_nil)) pa_nil)) rfl)
      (pss_cons (ps_set (i := 9) sc61.nd rfl (Or.inl rfl) (pe_g GK hr (pa_cons (pv 7) (pa_cons (pv 5) (pa_cons (pv 4) (pa_cons (pv 6) pa_nil))))))
      (pss_cons (ps_set (i := 10) sc61.nd rfl (Or.inl rfl) (pe_g GL hr (pa_cons (pv 8) (pa_cons (pv 5) (pa_cons (pv 4) (pa_cons (pv 6) pa_nil))))))
      (pss_cons (ps_set (i := 11) sc61.nd rfl (Or.inr rfl) (pe_op op_addN (pv 5) (pv 4)))
      (pss_cons (ps_set (i := 12) sc61.nd rfl (Or.inr rfl) (pe_lc (own := [("_law_thing", 14)]) (g := gName 14) rfl sc61.nd (pi_range1 rfl B0.range_ (pa_cons (pv 6) pa_nil))
          (blkOk_by (N := rightNs) (sc := defScope (top 61)) (by decide +kernel)) (fun _ _ _ _ _ => pg_name (i := 14) sc61.nd rfl (Or.inl rfl))
          (fun _ _ _ _ _ => pts_one (pt_chain op_le op_lt (pv 5) (pe_g Go (hr.mono (by decide)) (pa_cons (pv 1) (pa_cons (pv 14) pa_nil))) (pv 11))) (fun _ _ _ _ _ => pv 14)))
      (pss_cons (ps_setLc (i := 13) (own := [("_law_tick", 15)]) (g := gName 15) (tt := tYes) rfl sc61.nd rfl rfl (sw_true rfl rfl rfl (by decide +kernel)) (pi_range1 rfl B0.range_ (pa_cons (pv 6) pa_nil))
          (blkOk_by (N := rightNs) (sc := defScope (top 61)) (by decide +kernel)) (fun _ _ _ _ _ => pg_name (i := 15) sc61.nd rfl (Or.inl rfl)) (fun _ _ _ _ _ => pts_nil)
          (fun _ _ _ _ _ => pe_ifExp (PW.pt (pw_or (pt_cmpR op_lt (pv 15) (pv 2) (nomark _)) (pw_or1 (pt_cmpR (in_K (K := K) rfl) (pe_op op_sub (pv 15) (pv 2)) (pv 12) rfl)))) pe_non (pe_op op_sub (pv 15) (pv 2))))
      (pss_cons (ps_if (PW.pt (pw_or (pt_cmpR (op_neD hu) (pv 9) (pv 13) (nomark _)) (pw_or (pt_cmpR (op_neD hu) (pe_pf PKl OK.cls (hr.mono (by decide)) (pv 7)) (pe_pf PLl OL.cls (hr.mono (by decide)) (pv 8)) (nomark _))
          (pw_or1 (pt_cmpR (op_neD hu) (pe_pf PKl OK.cls (hr.mono (by decide)) (pv 7)) (pe_callTy call_tuple_of rfl B0.tuple_ bt_tuple (pa_cons (pe_listRg rfl rfl B0.list_ (prg_2 rfl B0.range_ (pv 5) (pv 11))) pa_nil)) (nomark _))))))
          (pss_one (ps_ret pe_bl)) pss_nil)
      (pss_cons (ps_if (PW.pt (pw_or (pt_cmpR (op_neD hu) (pe_lc (own := [("_law_one", 16)]) (g := gName 16) rfl sc61.nd (pi_list (pv 10)) (blkOk_by (N := rightNs) (sc := defScope (top 61)) (by decide +kernel)) (fun _ _ _ _ _ => pg_name (i := 16) sc61.nd rfl (Or.inl rfl))
            (fun _ _ _ _ _ => pts_one (pt_cmpR (in_K (K := K) rfl) (pv 16) (pv 12) rfl)) (fun _ _ _ _ _ => pv 16)) (pe_lst pa_nil) (nomark _))
          (pw_or1 (pt_cmpR op_ne (pe_callB call_len_seq rfl B0.len_ bt_len (pa_cons (pe_pf PLh OL.cls (hr.mono (by decide)) (pv 8)) pa_nil)) (pe_g Gh (hr.mono (by decide)) (pa_cons (pv 1) pa_nil)) (nomark _)))))
          (pss_one (ps_ret pe_bl)) pss_nil)
      (pss_cons (ps_if (pt_cmpR (op_neD hu) (pe_pf PKh OK.cls (hr.mono (by decide)) (pv 7)) (pe_callTy call_tuple_of rfl B0.tuple_ bt_tuple (pa_cons (pe_lc (own := [("_law_ticks_left", 17)]) (g := gName 17) (tt := tYes) rfl sc61.nd (pi_range1 rfl B0.range_ (pa_cons (pv 2) pa_nil))
            (blkOk_by (N := rightNs) (sc := defScope (top 61)) (by decide +kernel)) (fun _ _ _ _ _ => pg_name (i := 17) sc61.nd rfl (Or.inl rfl)) (fun _ _ _ _ _ => pts_nil)
            (fun _ _ _ _ _ => pe_tup (pa_cons (pv 17) (pa_cons (pe_op op_add (pe_op op_sub (pv 6) (pv 2)) (pv 17)) pa_nil)))) pa_nil)) (nomark _)) (pss_one (ps_ret pe_bl)) pss_nil)
      (pss_one (ps_ret (pe_g Gw (hr.mono (by decide)) (pa_cons (pv 1) (pa_cons (pv 3) (pa_cons (pv 5) (pa_cons (pv 4) (pa_cons (pv 12) pa_nil))))))))))))))))))), ?_⟩
    have hf := far_le X
    refine ⟨_, rfl, a, T, rfl, hT, X, fun H1 s1 => ⟨_, rfl, p, 6, rfl, pen_same s1 hP, by decide, by decide, fun H2 r1 lt1 k2 hP2 => ⟨1, r1, rfl, rfl, ?_⟩⟩⟩
    refine ⟨_, rfl, p, 20, rfl, hP2, by decide, by decide, fun H3 r2 lt2 k3 hP3 => ⟨1, r2, rfl, rfl, (show 3 ≤ sizeLine by decide), ?_⟩⟩
    have k13 : Keep [p] H H3 := ((Keep.of s1).trans k2).trans k3
    have off : ∀ {Hx Hy : Hp}, Keep [p] Hx Hy → PenAt Hx p → TabAt K Hx a T → TabAt K Hy a T := fun {Hx Hy} k ⟨x, y, z, _, _, _, _, e⟩ t => sqt_off k t (fun b hb ys => by rw [List.mem_singleton.mp hb, e]; simp) fun b hb o u => by rw [List.mem_singleton.mp hb, e]; simp
    have hT3 := off k13 hP hT
    intro t1 ht1
    have s4 := same_new (o := .tup [vn (far T), vn (1 + r1), vn (1 + r2)]) ht1
    have e4 : upd H3 t1 (.tup [vn (far T), vn (1 + r1), vn (1 + r2)]) t1 = some (.tup [vn (far T), vn (1 + r1), vn (1 + r2)]) := upd_same
    generalize upd H3 t1 (.tup [vn (far T), vn (1 + r1), vn (1 + r2)]) = H4 at s4 e4 ⊢
    refine ⟨t1, _, rfl, SqT.of e4, rfl, _, _, rfl, _, _, rfl, _, _, rfl, rfl, ?_⟩
    have hP4 := pen_same s4 hP3
    refine ⟨_, rfl, _, rfl, p, 9, rfl, hP4, by decide, by decide, fun H5 r3 lt3 k5 hP5 => ⟨far T, r3, rfl, rfl, ?_⟩⟩
    have hT5 := off k5 hP4 (s4.tup hT3)
    have k05 : Keep [p] H H5 := (k13.same s4).trans k5
    generalize em : 1 + r1 = m
    generalize ek : 1 + r2 = k
    generalize eb : far T + r3 = b
    have m1 : 1 ≤ m := by omega
    have m24 : m ≤ 24 := by omega
    have k1 : 1 ≤ k := by omega
    have k60 : k ≤ 60 := by omega
    have hb : far T ≤ b := by omega
    have hb3 : b ≤ 100 := by omega
    refine ⟨_, rfl, _, rfl, b, k, rfl, rfl, _, rfl, 2, far T, rfl, rfl, by decide, _, _, rfl, rfl, _, 1, rfl, rfl, ?_⟩
    generalize ec : b + k + 2 * far T + 1 = cn
    have c1 : b + k + far T < cn := by omega
    have c3 : cn ≤ 3000 := by omega
    -- the two rows
    refine ⟨_, rfl, fun B dx hB0 hdx nd => ⟨B, dx, a, T, rfl, upd_same, ?_, X, fun H6 l1 W1 k6 hl1 hW1 hR1 => ⟨rfl, ?_⟩⟩⟩
    · exact (show Same H5 (upd (upd H5 dx (.own B)) B (.ins CK dx [])) from fun b u e => by rw [upd_ne (ne_of_none e hB0), upd_ne (ne_of_none e hdx)]; exact e).tup hT5
    have s51 : Same H5 (upd (upd H5 dx (.own B)) B (.ins CK dx [])) := fun b u e => by rw [upd_ne (ne_of_none e hB0), upd_ne (ne_of_none e hdx)]; exact e
    have s6 : Same H5 H6 := fun b u e => k6 _ _ (s51 _ _ e) (by rw [List.mem_singleton]; exact ne_of_none e hB0)
    refine ⟨_, rfl, fun B2 dx2 hB2 hdx2 nd2 => ⟨B2, dx2, a, T, rfl, upd_same, ?_, X, fun H7 l2 W2 k7 hl2 hW2 hR2 => ⟨rfl, ?_⟩⟩⟩
    · exact (show Same H6 (upd (upd H6 dx2 (.own B2)) B2 (.ins CL dx2 [])) from fun b u e => by rw [upd_ne (ne_of_none e hB2), upd_ne (ne_of_none e hdx2)]; exact e).tup (s6.tup hT5)
    have s61 : Same H6 (upd (upd H6 dx2 (.own B2)) B2 (.ins CL dx2 [])) := fun b u e => by rw [upd_ne (ne_of_none e hB2), upd_ne (ne_of_none e hdx2)]; exact e
    have s7 : Same H6 H7 := fun b u e => k7 _ _ (s61 _ _ e) (by rw [List.mem_singleton]; exact ne_of_none e hB2)
    have hRb := hR1 b k true
    have hRl := hR2 b k false
    obtain ⟨hasb, l1W, L1, el1⟩ := hRb.has
    obtain ⟨hasl, l2W, L2, el2⟩ := hRl.has
    have f1 : H5 l1 = none := low_none s51 hl1
    have f2 : H6 l2 = none := low_none s61 hl2
    have l1W2 : l1 ∉ W2 := fun z => by
      rcases hW2 l1 z with e | e
      · rw [← e, el1] at hB2; cases hB2
      · rw [s61 _ _ el1] at e; cases e
    have l2W1 : l2 ∉ W1 := fun z => by
      obtain ⟨u, hu⟩ := hasb l2 z
      rw [hu] at f2; cases f2
    refine ⟨_, _, rfl, ?_⟩
    -- the Link
    refine ⟨_, rfl, _, rfl, _, rfl, _, rfl, B, l1, T, W1, b, k, cn, rfl, hRb.same s7, X, hb, k1, k60, by omega, c3, fun H8 p1 vs1 W1' k8 hW1' hp1 hpW1 hR8 e8 l8 o8 => ?_⟩
    have g8 : Same H5 H8 := fun b u e => k8 _ _ (s7 _ _ (s6 _ _ e)) (by rw [List.mem_singleton]; exact ne_of_none e f1)
    have hRl8 := hRl.keep (Vs := [l1]) k8 fun z hz => by
      rw [List.mem_singleton.mp hz]
      exact ⟨l1W2, fun zs => by rw [s7 _ _ el1]; simp, fun _ _ => by rw [s7 _ _ el1]; simp⟩
    -- the Losing
    refine ⟨_, rfl, _, rfl, _, rfl, _, rfl, B2, l2, T, W2, b, k, cn, rfl, hRl8, X, hb, k1, k60, by omega, c3, fun H9 p2 vs2 W2' k9 hW2' hp2 hpW2 hR9 e9 l9 o9 => ?_⟩
    have l2n : l2 ≠ l1 := fun z => by rw [z, el1] at f2; cases f2
    have el28 : H8 l2 = some (.lst L2) := k8 _ _ el2 (by rw [List.mem_singleton]; exact l2n)
    have g9 : Same H5 H9 := fun b u e => k9 _ _ (g8 _ _ e) (by rw [List.mem_singleton]; exact ne_of_none (s6 _ _ e) f2)
    have hRb9 := hR8.keep (Vs := [l2]) k9 fun z hz => by
      rw [List.mem_singleton.mp hz]
      refine ⟨fun q => ?_, fun zs => by rw [el28]; simp, fun _ _ => by rw [el28]; simp⟩
      rcases hW1' l2 q with e | e
      · exact l2W1 e
      · rw [el2] at e; cases e
    have e89 : H9 p1 = some (.lst vs1) := k9 _ _ e8 (by
      rw [List.mem_singleton]
      intro z
      rw [z, el2] at hp1
      cases hp1)
    refine ⟨_, rfl, _, rfl, b, k, rfl, rfl, ?_⟩
    have hT9 := g9.tup hT5
    show tSeq _ _ _ [some (.ref p), some (.ref a), some (vn (far T)), some (vn m), some (vn k), some (vn b), some (vn cn), some (.ref B), some (.ref B2), some (.ref p1), some (.ref p2), some (vn (b + k)), none, none, none, none, none, none] H9
    -- what is gone
    refine ⟨_, rfl, (cn : Int), rfl, by omega, by omega, fun D1 hD1 => lc_fun walk_range (fun t => Cut b k (out T t)) (fun t => vn t) hD1 (by omega) (fun _ _ => trivial) (fun t x Ha Hb Kt Ke lt sa y kt ke => ?_) (fun HA sA atA => ?_)⟩
    · obtain ⟨rfl, rfl⟩ := y
      refine ⟨rfl, _, rfl, _, rfl, _, rfl, a, T, t, by show [V.ref a, V.int (0 + (t : Int))] = _; rw [Int.zero_add], sa.tup hT9, X, fun Hc sc => ⟨_, _, rfl, rfl, _, rfl, ?_⟩⟩
      refine ite2 (fun c => ?_) fun c => ?_
      · have h1 : b ≤ out T t := by have := of_decide_eq_true c; omega
        refine ⟨_, rfl, _, _, rfl, rfl, _, rfl, ?_⟩
        refine ite2 (fun c => ?_) fun c => ?_
        · have h2 : out T t < b + k := by have := of_decide_eq_true c; omega
          refine ⟨_, rfl, ?_⟩
          show Kt (.int (0 + (t : Int))) Hc
          rw [Int.zero_add]
          exact kt (cut_iff.mpr ⟨h1, h2⟩) _ sc
        · refine ke ?_ _ sc
          cases e : Cut b k (out T t) with
          | false => rfl
          | true => exact absurd (decide_eq_true (by have := cut_iff.mp e; omega)) c
      · refine ⟨false, rfl, iteF (ke ?_ _ sc)⟩
        cases e : Cut b k (out T t) with
        | false => rfl
        | true => exact absurd (decide_eq_true (by have := cut_iff.mp e; omega)) c
    rw [Int.toNat_natCast] at atA
    replace atA : HA D1 = some (.lst ((cutThings T b k cn).map vn)) := atA
    show tSeq _ _ _ [some (.ref p), some (.ref a), some (vn (far T)), some (vn m), some (vn k), some (vn b), some (vn cn), some (.ref B), some (.ref B2), some (.ref p1), some (.ref p2), some (vn (b + k)), some (.ref D1), none, none, none, none, none] HA
    have lG : (cutThings T b k cn).length ≤ 1000 := by
      have := List.length_filter_le (fun t => Cut b k (out T t)) (List.range cn)
      rw [List.length_range] at this
      unfold cutThings
      omega
    -- what is due
    refine ⟨_, rfl, (cn : Int), rfl, by omega, by omega, fun D2 hD2 => lc_map walk_range (dueV T b k) hD2 (by omega) (fun _ _ => trivial) (fun u x Ha Hb Kt lt sa y kt => ?_) (fun HB sB atB => ?_)⟩
    · obtain ⟨rfl, rfl⟩ := y
      refine ⟨rfl, _, rfl, _, rfl, _, _, rfl, rfl, _, rfl, ?_⟩
      refine ite2 (fun c => ?_) fun c => ?_
      · have h1 : u < far T := by have := of_decide_eq_true c; omega
        refine iteT ?_
        have e : dueV T b k u = .non := by unfold dueV; rw [if_neg]; rintro ⟨h2, _⟩; omega
        rw [← e]
        exact kt _ (Same.refl _)
      · have h1 : far T ≤ u := Nat.le_of_not_lt fun z => c (decide_eq_true (by omega))
        have e0 : (0 + (u : Int)) - (far T : Int) = ((u - far T : Nat) : Int) := by omega
        have ein : inV (.int ((0 + (u : Int)) - (far T : Int))) ((cutThings T b k cn).map vn) = Cut b k (out T (u - far T)) := by
          rw [e0, in_list, Bool.eq_iff_iff, decide_eq_true_eq]
          exact cut_things X (by omega)
        refine ⟨_, rfl, _, rfl, _, _, rfl, rfl, _, rfl, D1, _, rfl, .inl (SqL.of (sa _ _ atA)), rfl, flat_vn _, Cut b k (out T (u - far T)), congrArg V.bl (by rw [if_neg (by decide)]; exact ein), ?_⟩
        by_cases hc : Cut b k (out T (u - far T)) = true
        · refine (if_pos hc).mpr ?_
          have e : dueV T b k u = .non := by unfold dueV; rw [if_neg]; rintro ⟨_, h2⟩; rw [hc] at h2; cases h2
          show Kt .non Hb
          rw [← e]
          exact kt _ (Same.refl _)
        · refine (if_neg hc).mpr ?_
          have e : dueV T b k u = vn (u - far T) := by unfold dueV; rw [if_pos ⟨h1, by simpa using hc⟩]
          refine ⟨_, rfl, _, rfl, _, _, rfl, rfl, ?_⟩
          show Kt (.int ((0 + (u : Int)) - (far T : Int))) Hb
          rw [e0, show V.int ((u - far T : Nat) : Int) = dueV T b k u from e.symm]
          exact kt _ (Same.refl _)
    rw [Int.toNat_natCast] at atB
    show tSeq _ _ _ [some (.ref p), some (.ref a), some (vn (far T)), some (vn m), some (vn k), some (vn b), some (vn cn), some (.ref B), some (.ref B2), some (.ref p1), some (.ref p2), some (vn (b + k)), some (.ref D1), some (.ref D2), none, none, none, none] HB
    have s9B : Same H9 HB := sA.trans sB
    have ev1 : vs1 = (List.range cn).map (dueV T b k) := list_by l8 fun u v e => dueV_of (o8 u v e)
    rw [← ev1] at atB
    have hRbB := hRb9.same s9B
    have hRlB := hR9.same s9B
    obtain ⟨dxB, _, _, _, _, _, _, _, _, hBB, _⟩ := hRbB.ex
    obtain ⟨dxL, _, _, _, _, _, _, _, _, hBL, _⟩ := hRlB.ex
    have fl1 : ∀ v ∈ vs1, Flat2 v := fun v hv => by
      rw [ev1] at hv
      obtain ⟨u, _, rfl⟩ := List.mem_map.mp hv
      exact dueV_flat T b k u
    -- the first test
    refine ⟨_, rfl, _, rfl, ne_flatL (SqL.of (s9B _ _ e89)) (SqL.of atB) fl1 ⟨false, rfl, iteF ?_⟩⟩
    refine ⟨_, rfl, B, dxB, _, rfl, hBB, B, l1, T, W1', b, k, cn, true, true, rfl, hRbB, fun go hgo => ⟨_, rfl, B2, dxL, _, rfl, hBL, B2, l2, T, W2', b, k, cn, true, false, rfl, hRlB, fun go2 hgo2 => ne_flatT hgo hgo2 (flat2_vn _) ⟨false, rfl, iteF ?_⟩⟩⟩
    refine ⟨_, rfl, B, dxB, _, rfl, hBB, B, l1, T, W1', b, k, cn, true, true, rfl, hRbB, fun go3 hgo3 => ⟨_, rfl, _, rfl, _, _, rfl, rfl, RgOk.of_le (by omega) (by omega) (by omega) (by omega), fun pl hpl => ⟨pl, _, rfl, .inl ⟨SqL.of upd_same, fun pt hpt => ?_⟩⟩⟩⟩
    rw [rg_up]
    have sC := (same_new (o := .lst ((upFrom b k).map V.int)) hpl).trans (same_new (o := .tup ((upFrom b k).map V.int)) (by rw [rg_up] at hpt; exact hpt))
    have eC : upd (upd HB pl (.lst ((upFrom b k).map V.int))) pt (.tup ((upFrom b k).map V.int)) pt = some (.tup ((upFrom b k).map V.int)) := upd_same
    generalize upd (upd HB pl (.lst ((upFrom b k).map V.int))) pt (.tup ((upFrom b k).map V.int)) = HC at sC eC ⊢
    have hgC := sC.tup hgo3
    rw [gone_all (by omega)] at hgC
    refine ne_flatT hgC (SqT.of eC) (fun v hv => ?_) ⟨false, rfl, iteF ?_⟩
    · obtain ⟨i, _, rfl⟩ := List.mem_map.mp hv
      exact .inr ⟨i, rfl⟩
    -- the second
    have s9C := s9B.trans sC
    have atC := sC _ _ (sB _ _ atA)
    refine ⟨_, rfl, p2, rfl, ⟨_, SqL.of (s9C _ _ e9)⟩, fun D3 hD3 => lc_fun (walk_list (K := K) (a := p2) (xs := vs2)) (fun _ => false) (fun _ => .non) hD3 (by omega) (fun Hx sx => SqL.of (sx _ _ (s9C _ _ e9))) (fun u x Ha Hb Kt Ke lt sa y kt ke => ?_) (fun HD sD atD => ?_)⟩
    · obtain ⟨rfl, hx⟩ := y
      have ov : Out T b k u x := o9 u x hx
      have no : inV x ((cutThings T b k cn).map vn) = false ∧ flatV x = true := by
        rcases ov with ⟨rfl, _⟩ | ⟨t, rfl, ht, hc⟩
        · exact ⟨non_in _, rfl⟩
        · refine ⟨?_, rfl⟩
          rw [in_list, decide_eq_false_iff_not, cut_things X (by omega), ht, hc]
          exact Bool.false_ne_true
      exact ⟨rfl, _, rfl, _, rfl, D1, _, rfl, .inl (SqL.of (sa _ _ atC)), no.2, flat_vn _, false, congrArg V.bl (by rw [if_neg (by decide)]; exact no.1), iteF (ke rfl _ (Same.refl _))⟩
    have atD' : HD D3 = some (.lst []) := by rw [atD]; simp
    refine ⟨Nat.zero_le _, fun pe hpe => ne_flatL (vs := []) (SqL.of (same_new hpe _ _ atD')) (SqL.of upd_same) (fun v hv => by cases hv) ⟨false, rfl, iteF ?_⟩⟩
    have sE := sD.trans (same_new (o := .lst []) hpe)
    generalize upd HD pe (.lst []) = HE at sE ⊢
    have s9E := s9C.trans sE
    have hRlE := hRlB.same (sC.trans sE)
    have hBLE := (sC.trans sE) _ _ hBL
    refine ⟨_, rfl, B2, dxL, _, rfl, hBLE, B2, l2, T, W2', b, k, cn, true, false, rfl, hRlE, X, by omega, fun HF pz zs sF eF lz => ⟨pz, _, rfl, .inr (SqT.of eF), _, rfl, a, T, rfl, (s9E.trans sF).tup hT9, X, fun HG sG => ?_⟩⟩
    have lz2 : zs.length = T.sum / T.length := lz.trans (held_mean X (by omega))
    rw [lz2]
    refine ⟨rfl, false, congrArg V.bl (by rw [decide_eq_true rfl]; rfl), iteF ?_⟩
    -- the third
    have sG9 := (s9E.trans sF).trans sG
    have hRbG := hRb9.same sG9
    have hBG := ((sC.trans sE).trans (sF.trans sG)) _ _ hBB
    refine ⟨_, rfl, B, dxB, _, rfl, hBG, B, l1, T, W1', b, k, cn, rfl, hRbG, X, by omega, by omega, fun HH ph ps sH eH lps tps => ?_⟩
    refine ⟨_, rfl, (far T : Int), rfl, by omega, by omega, fun D4 hD4 => lc_rel walk_range (fun j y Hx => ∃ z, y = .ref z ∧ z ≠ D4 ∧ Hx z = some (.tup [vn j, vn (cn - far T + j)]))
      (fun i y Hx Hy k ⟨z, e, nz, at_⟩ => ⟨z, e, nz, k _ _ at_ nz⟩) hD4 (by omega) (fun _ _ => trivial) (fun j x Ha Hb Kt lt sa ⟨L5, hL5⟩ y kt => ?_) (fun HI ys sI atI2 len tl => ?_)⟩
    · obtain ⟨rfl, rfl⟩ := y
      refine ⟨rfl, _, rfl, _, rfl, _, rfl, _, _, rfl, rfl, _, rfl, _, _, rfl, rfl, (show 2 ≤ sizeLine by decide), fun pn hpn => kt _ _ (same_new hpn) ⟨pn, rfl, (fun z => by rw [z, hL5] at hpn; cases hpn), ?_⟩⟩
      rw [upd_same]
      show some (HO.tup [V.int (0 + (j : Int)), V.int (((cn : Int) - (far T : Int)) + (0 + (j : Int)))]) = _
      rw [Int.zero_add, show ((cn : Int) - (far T : Int)) + (j : Int) = ((cn - far T + j : Nat) : Int) from by omega]
    rw [Int.toNat_natCast] at len
    obtain ⟨us, rfl, lus, tus⟩ := refs_of (R := fun j y => ∃ z, y = .ref z ∧ z ≠ D4 ∧ HI z = some (.tup [vn j, vn (cn - far T + j)])) tl fun i v ⟨z, e, _⟩ => ⟨z, e⟩
    refine ⟨D4, _, rfl, .inl ⟨SqL.of atI2, fun pq hpq => ?_⟩⟩
    have sJ := same_new (o := .tup (us.map V.ref)) hpq
    have eJ : upd HI pq (.tup (us.map V.ref)) pq = some (.tup (us.map V.ref)) := upd_same
    generalize upd HI pq (.tup (us.map V.ref)) = HJ at sJ eJ ⊢
    have qsl : ((List.range (far T)).map fun j => (((j : Nat) : Int), ((cn - far T + j : Nat) : Int))).length = far T := by rw [List.length_map, List.length_range]
    have qat : ∀ {j : Nat} {q0 : Int × Int}, ((List.range (far T)).map fun j => (((j : Nat) : Int), ((cn - far T + j : Nat) : Int)))[j]? = some q0 → q0 = (((j : Nat) : Int), ((cn - far T + j : Nat) : Int)) := fun {j q0} e => by
      rw [List.getElem?_map] at e
      obtain ⟨i, hi, rfl⟩ := Option.map_eq_some_iff.mp e
      obtain ⟨lt, e2⟩ := List.getElem?_eq_some_iff.mp hi
      rw [List.getElem_range] at e2
      rw [← e2]
    have tA : Tells HJ ps ((List.range (far T)).map fun j => (((j : Nat) : Int), ((cn - far T + j : Nat) : Int))) := tells_by (by rw [lps, qsl]) fun j t q0 e1 e2 => by
      rw [qat e2]
      exact sJ _ _ (sI _ _ (tps j t e1))
    have tB : Tells HJ us ((List.range (far T)).map fun j => (((j : Nat) : Int), ((cn - far T + j : Nat) : Int))) := tells_by (by rw [lus, len, qsl]) fun j t q0 e1 e2 => by
      obtain ⟨z, e, _, h⟩ := tus j t e1
      cases e
      rw [qat e2]
      exact sJ _ _ h
    refine ne_pairs (SqT.of (sJ _ _ (sI _ _ eH))) (SqT.of eJ) tA tB ⟨false, rfl, iteF ?_⟩
    -- the words
    have s9J := (sG9.trans sH).trans (sI.trans sJ)
    have sCJ := (((sE.trans sF).trans sG).trans sH).trans (sI.trans sJ)
    refine ⟨_, rfl, _, rfl, _, rfl, _, rfl, _, rfl, a, D1, T, cutThings T b k cn, m, b, k, rfl, s9J.tup hT9, X, m1, m24, hb, by omega, k1, k60, sCJ _ _ atC, cut_nodup T b k cn, fun t => cut_things X (by omega), lG, fun HK sK => ?_⟩
    have s5K : Same H5 HK := (g9.trans s9J).trans sK
    exact q HK (k05.same s5K) (pen_same s5K hP5)
end
theorem sql_same {K : PySem.W.Frag} {H H' : Hp} {a : Addr} {xs : List V} (e : Same H H') (h : SqL K H a xs) : SqL K H' a xs := by
  (rcases h with (h | ⟨o, h⟩) | h)
  · exact .inl (.inl (e _ _ h))
  · (exact .inl (.inr ⟨o, e _ _ h⟩))
  · exact .inr h
section
variable {P : Program} {w : World} {K : PySem.W.Frag} {base : Heap} {mg : Str → Option Value}
def spLaw (K : PySem.W.Frag) : Sp := fun vs H Q _ => ∃ (a : Addr) (ns : List Int), vs = [.ref a] ∧ SqL K H a (ns.map V.int) ∧ ∀ H', Q (.bl true) H'
theorem sc62 : FnScope ["_law_script", "_law_k", "_law_pen_here", "_law_lap"] ["_law_script"] (defScope (top 62)) := ⟨rfl, rfl, rfl, by decide +kernel, rfl, by decide +kernel, by decide +kernel⟩
theorem ok_law {f : Addr} {fd : FuncData} (F : Fun K "law" "law" (top 62) f fd) (B0 : Bt mg) (G1 : GF P w K mg base "_law_cell" 1 (spCell K)) (G2 : GF P w K mg base "_law_pen" 1 spPen) (G3 : GF P w K mg base "_law_table" 2 (spMkTab K)) (G4 : GF P w K mg base "_law_right" 8 (spRight K)) :
    FnOk P w K mg base CX0 9 f fd ["_law_script"] (spLaw K) := by
  refine F.ok sc62 (fun vs H Q E h => ?_) (fun cdv A outer s H vs Q E hr h => ?_)
  · obtain ⟨a, ns, rfl, _⟩ := h
    rfl
  · obtain ⟨a, ns, rfl, hS, q⟩ := h
    refine ⟨_, pss_cons (ps_for PassesOwn.never rfl (pi_range1 rfl B0.range_ (pa_cons (pe_callB (call_max2 rfl) rfl B0.max_ bt_max (pa_cons pe_int (pa_cons (pe_callB (call_min2 rfl) rfl B0.min_ bt_min (pa_cons (pe_callB call_len_seq rfl B0.len_ bt_len (pa_cons (pv 0) pa_nil)) (pa_cons pe_int pa_nil))) pa_nil))) pa_nil)) (pg_name (i := 1) sc62.nd rfl (Or.inl rfl))
        (pss_cons (ps_set (i := 2) sc62.nd rfl (Or.inl rfl) (pe_g G2 (hr.mono (by decide)) (pa_cons (pe_g G1 (hr.mono (by decide)) (pa_cons (pv 0) (pa_cons (pv 1) pa_nil))) pa_nil)))
        (pss_one (ps_for PassesOwn.never rfl (pi_range1 rfl B0.range_ (pa_cons pe_int pa_nil)) (pg_name (i := 3) sc62.nd rfl (Or.inl rfl))
          (pss_one (ps_if (pt_not (pt_val (pe_g G4 hr (pa_cons (pv 2) (pa_cons (pe_g G3 (hr.mono (by decide)) (pa_cons (pv 2) (pa_cons (pe_ix ix_list (pe_lst (pa_cons pe_int (pa_cons pe_int (pa_cons pe_int pa_nil)))) (pe_op op_mod (pv 3) pe_int) (fun _ _ => rfl)) (pa_cons pe_int pa_nil)))) pa_nil)))))
            (pss_one (ps_ret pe_bl)) pss_nil))))))
      (pss_one (ps_ret pe_bl)), ?_⟩
    refine ⟨_, rfl, a, _, rfl, .inl hS, _, _, rfl, _, _, rfl, _, rfl, ?_, ?_, ?_⟩
    · split <;> split <;> omega
    · split <;> split <;> omega
    refine for_it walk_range (fun i σ H2 => Same H H2 ∧ ∃ (x y z : Option V), σ = [some (.ref a), x, y, z]) ⟨Same.refl _, none, none, none, rfl⟩ (fun _ _ _ _ _ => trivial) ?_ ?_
    · rintro i x σ H2 H3 _ ⟨s2, x0, y0, z0, rfl⟩ ⟨rfl, rfl⟩
      refine ⟨_, rfl, _, rfl, a, ns, i, by show [V.ref a, V.int (0 + (i : Int))] = _; rw [Int.zero_add], sql_same s2 hS, fun c => ⟨c, rfl, fun H4 p s4 hp hP => ?_⟩⟩
      have fp : H p = none := low_none s2 hp
      refine ⟨5, rfl, by decide, by decide, ?_⟩
      refine for_it walk_range (fun j σ H5 => Keep [p] H4 H5 ∧ PenAt H5 p ∧ ∃ (x y : Option V), σ = [some (.ref a), x, some (.ref p), y]) ⟨fun _ _ e _ => e, hP, _, _, rfl⟩ (fun _ _ _ _ _ => trivial) ?_ ?_
      · rintro j x σ H5 H6 lj ⟨k5, hP5, x1, y1, rfl⟩ ⟨rfl, rfl⟩
        refine ⟨_, rfl, _, rfl, (show 3 ≤ sizeLine by decide), fun l hl => ?_⟩
        have s6 := same_new (o := .lst [.int 3, .int 6, .int 9]) hl
        have e6 : upd H6 l (.lst [.int 3, .int 6, .int 9]) l = some (.lst [.int 3, .int 6, .int 9]) := upd_same
        generalize upd H6 l (.lst [.int 3, .int 6, .int 9]) = H7 at s6 e6 ⊢
        obtain ⟨m, hm, m0, m9⟩ : ∃ m : Nat, atI [V.int 3, V.int 6, V.int 9] ((0 + (j : Int)) % 3) = some (vn m) ∧ 0 < m ∧ m ≤ 9 := by
          have e : (0 + (j : Int)) % 3 = ((j % 3 : Nat) : Int) := by omega
          have h3 := Nat.mod_lt j (show 0 < 3 by decide)
          rw [e]
          generalize j % 3 = t at h3
          match t, h3 with
          | 0, _ => exact ⟨3, rfl, by decide, by decide⟩
          | 1, _ => exact ⟨6, rfl, by decide, by decide⟩
          | 2, _ => exact ⟨9, rfl, by decide, by decide⟩
        refine ⟨_, rfl, _, _, rfl, rfl, (show (0 : Int) < 3 by decide), l, _, _, vn m, rfl, rfl, SqL.of e6, hm, p, m, rfl, pen_same s6 hP5, m0, m9, fun H8 ta T k8 hP8 hT8 X => ?_⟩
        refine ⟨p, ta, T, rfl, hP8, hT8, X, fun H9 k9 hP9 => ⟨true, rfl, iteF ⟨((k5.same s6).trans k8).trans k9, hP9, _, _, rfl⟩⟩⟩
      · rintro σ H5 ⟨k5, hP5, x1, y1, rfl⟩
        refine ⟨fun b o e => ?_, _, _, _, rfl⟩
        exact k5 _ _ (s4 _ _ (s2 _ _ e)) (by rw [List.mem_singleton]; exact ne_of_none e fp)
    · rintro σ H2 ⟨s2, x0, y0, z0, rfl⟩
      exact q H2
end
/-! ## the head: what the top leaves, by names -/
inductive Pa where
  | glo (x : Str)
  | met (C m : Str)
  | get (C f : Str)
def getterOf (K : PySem.W.Frag) (p : Addr) : Addr := match PySem.W.recIn K p "property" with
  | some (.ref g :: _) => g
  | _ => 0
def Pa.ad (K : PySem.W.Frag) : Pa → Addr
  | .glo x => He.ga K x
  | .met C m => He.ma K (He.ga K C) m
  | .get C f => getterOf K (He.ma K (He.ga K C) f)
/-- one def: where it stands, its name, its qualified name, its text, the names of its closure -/
structure Fd where
  pa : Pa
  name : Str
  qual : Str
  st : Stmt
  cl : List Str
abbrev FnC : Type := Option (Str × Str × Arguments × FuncBody × Scope × Addr × List Str × Addr)
def fnC (K : PySem.W.Frag) (a : Addr) : FnC := match K.lookup a with
  | some ⟨_, _, .func fd, _⟩ => some (fd.name, fd.qualname, fd.params, fd.body, fd.scope, fd.globals, fd.closure.map (·.1), fd.builtins)
  | _ => none
def Fd.val (d : Fd) : FnC := some (d.name, d.qual, defArgs d.st, .stmts (defBody d.st), defScope d.st, mainGlobals, d.cl, builtinsNs)
def noV : Value → Bool
  | .none => true
  | _ => false
def Fd.ok (K : PySem.W.Frag) (d : Fd) : Bool := PySem.W.keepIn K (.ref (d.pa.ad K)) && (match K.lookup (d.pa.ad K) with
  | some ⟨_, _, .func fd, _⟩ => PySem.W.codeIn K fd.code d.qual && noV fd.defaults
  | _ => false)
def eqA (a b : Option (Option Value)) : Bool := decide (a = b)
def mkB (K : PySem.W.Frag) (x : Str) : Bool := PySem.W.makesIn K (He.ga K x) && PySem.W.keepIn K (.ref (He.ga K x))
def propB (K : PySem.W.Frag) (C f : Str) : Bool := eqA (PySem.W.findIn K (.ref (He.ga K C)) f) (some (some (.ref (He.ma K (He.ga K C) f)))) && (eqA (PySem.W.specialIn K (.ref (He.ma K (He.ga K C) f)) "__get__") (some (some (.builtin "property.__get__"))) &&
  (decide (PySem.W.takesIn K (.ref (He.ma K (He.ga K C) f)) = some true) && match PySem.W.recIn K (He.ma K (He.ga K C) f) "property" with
    | some (.ref _ :: _) => true
    | _ => false))
/-- super() of an instance of C in a method of D finds the put_out of G -/
def supB (K : PySem.W.Frag) (C D G : Str) : Bool := decide (PySem.W.mroIn K (He.ga K C) (.ref (He.ga K D)) = some true) && (eqA (PySem.W.ks_superIn K (He.ga K C) (He.ga K D) "put_out") (some (some (.ref (He.ma K (He.ga K G) "put_out")))) &&
  (decide (PySem.W.typeIn K (.ref (He.ma K (He.ga K G) "put_out")) = some (.type "function")) && (PySem.W.fnIn K (He.ma K (He.ga K G) "put_out") && eqA (PySem.W.nsIn K cStatics "thirdparty.any") (some none))))
/-- the put_out of D: its code's file, its cell -/
def actB (K : PySem.W.Frag) (file : Str) (D : Str) : Bool := (PySem.W.clsIn K (He.ga K D)).isSome && match K.lookup (He.ma K (He.ga K D) "put_out") with
  | some ⟨_, _, .func fx, _⟩ => (match fx.code with
    | .ref cda => (match K.lookup cda with
      | some ⟨_, _, .fields vs, _⟩ => (match (vs[2]? : Option Value) with
        | some (.str f _) => file == f
        | _ => false)
      | _ => false)
    | _ => false) && (match fx.closure with
    | [(_, cc)] => (match K.lookup cc with
      | some ⟨_, _, .cell (some (.ref a)), _⟩ => decide (a = He.ga K D)
      | _ => false)
    | _ => false)
  | _ => false
def fds0 : List Fd := [⟨.glo "is_integer", "is_integer", "is_integer", top 13, []⟩,
  ⟨.glo "is_between", "is_between", "is_between", top 14, []⟩,
  ⟨.glo "is_onto", "is_onto", "is_onto", top 15, []⟩,
  ⟨.glo "is_table", "is_table", "is_table", top 16, []⟩,
  ⟨.glo "need_table", "need_table", "need_table", top 17, []⟩,
  ⟨.glo "need_integer", "need_integer", "need_integer", top 18, []⟩,
  ⟨.glo "hold_of", "hold_of", "hold_of", top 19, []⟩,
  ⟨.glo "out_of", "out_of", "out_of", top 20, []⟩,
  ⟨.glo "thing_of", "thing_of", "thing_of", top 21, []⟩,
  ⟨.glo "held_of", "held_of", "held_of", top 22, []⟩,
  ⟨.glo "back_of", "back_of", "back_of", top 23, []⟩,
  ⟨.glo "out_at", "out_at", "out_at", top 24, []⟩,
  ⟨.glo "held", "held", "held", top 25, []⟩,
  ⟨.glo "delay", "delay", "delay", top 26, []⟩,
  ⟨.glo "is_value", "is_value", "is_value", top 31, []⟩,
  ⟨.glo "need_value", "need_value", "need_value", top 32, []⟩,
  ⟨.glo "copied", "copied", "copied", top 34, []⟩,
  ⟨.glo "hold_ahead", "hold_ahead", "hold_ahead", top 35, []⟩,
  ⟨.glo "cuts_ahead", "cuts_ahead", "cuts_ahead", top 37, []⟩,
  ⟨.glo "need_word", "need_word", "need_word", top 45, []⟩]
def fds1 : List Fd := [⟨.glo "need_ticks", "need_ticks", "need_ticks", top 46, []⟩,
  ⟨.glo "need_most", "need_most", "need_most", top 47, []⟩,
  ⟨.glo "words_of", "words_of", "words_of", top 48, []⟩,
  ⟨.glo "guard_of", "guard_of", "guard_of", top 49, []⟩,
  ⟨.glo "lost", "lost", "lost", top 50, []⟩,
  ⟨.glo "worst_in", "worst_in", "worst_in", top 51, []⟩,
  ⟨.glo "worst", "worst", "worst", top 52, []⟩,
  ⟨.glo "longest", "longest", "longest", top 53, []⟩,
  ⟨.glo "_law_cell", "_law_cell", "_law_cell", top 55, []⟩,
  ⟨.glo "_law_pen", "_law_pen", "_law_pen", top 56, []⟩,
  ⟨.glo "_law_draw", "_law_draw", "_law_draw", top 57, []⟩,
  ⟨.glo "_law_table", "_law_table", "_law_table", top 58, []⟩,
  ⟨.glo "_law_gone", "_law_gone", "_law_gone", top 59, []⟩,
  ⟨.glo "_law_words_right", "_law_words_right", "_law_words_right", top 60, []⟩,
  ⟨.glo "_law_right", "_law_right", "_law_right", top 61, []⟩,
  ⟨.glo "law", "law", "law", top 62, []⟩,
  ⟨.met "Stand" "__init__", "__init__", "Stand.__init__", (inClass (top 33) 0), []⟩,
  ⟨.met "Losing" "__init__", "__init__", "Row.__init__", (inClass (top 39) 1), []⟩,
  ⟨.met "Losing" "step", "step", "Row.step", (inClass (top 39) 8), []⟩,
  ⟨.met "Losing" "push", "push", "Row.push", (inClass (top 39) 9), []⟩]
def fds2 : List Fd := [⟨.met "Losing" "lose", "lose", "Losing.lose", (inClass (top 40) 3), []⟩,
  ⟨.met "Losing" "push_all", "push_all", "Row.push_all", (inClass (top 39) 10), []⟩,
  ⟨.met "Link" "__init__", "__init__", "Row.__init__", (inClass (top 39) 1), []⟩,
  ⟨.met "Link" "step", "step", "Row.step", (inClass (top 39) 8), []⟩,
  ⟨.met "Link" "push", "push", "Row.push", (inClass (top 39) 9), []⟩,
  ⟨.met "Link" "lose", "lose", "Losing.lose", (inClass (top 40) 3), []⟩,
  ⟨.met "Link" "push_all", "push_all", "Row.push_all", (inClass (top 39) 10), []⟩,
  ⟨.get "Losing" "tick", "tick", "Row.tick", (inClass (top 39) 4), []⟩,
  ⟨.get "Losing" "lost", "lost", "Losing.lost", (inClass (top 40) 1), []⟩,
  ⟨.get "Link" "tick", "tick", "Row.tick", (inClass (top 39) 4), []⟩,
  ⟨.get "Link" "lost", "lost", "Losing.lost", (inClass (top 40) 1), []⟩,
  ⟨.get "Losing" "held", "held", "Row.held", (inClass (top 39) 5), []⟩,
  ⟨.get "Link" "held", "held", "Link.held", (inClass (top 41) 1), []⟩,
  ⟨.met "Row" "put_out", "put_out", "Row.put_out", (inClass (top 39) 7), []⟩,
  ⟨.met "Losing" "put_out", "put_out", "Losing.put_out", (inClass (top 40) 2), ["__class__"]⟩,
  ⟨.met "Link" "put_out", "put_out", "Link.put_out", (inClass (top 41) 2), ["__class__"]⟩]
def fds : List Fd := fds0 ++ fds1 ++ fds2
def fas0 : List He.Fa := [.free "isinstance", .free "int", .free "bool", .free "str", .free "tuple", .free "list", .free "dict", .free "set", .free "len", .free "all", .free "sum", .free "max", .free "min", .free "range", .free "sorted", .free "enumerate", .free "zip", .free "super", .int "LONGEST" 24, .int "GREATEST_HOLD" 60, .int "LONGEST_CUT" 400, .int "MOST_WORD" 24, .int "MOST_TICKS" 400, .glo "is_integer", .glo "is_between"]
def fas1 : List He.Fa := [.glo "is_onto", .glo "is_table", .glo "need_table", .glo "need_integer", .glo "hold_of", .glo "out_of", .glo "thing_of", .glo "held_of", .glo "back_of", .glo "out_at", .glo "held", .glo "delay", .glo "is_value", .glo "need_value", .glo "copied", .glo "hold_ahead", .glo "cuts_ahead", .glo "need_word", .glo "need_ticks", .glo "need_most", .glo "words_of", .glo "guard_of", .glo "lost", .glo "worst_in", .glo "worst"]
def fas2 : List He.Fa := [.glo "longest", .glo "_law_cell", .glo "_law_pen", .glo "_law_draw", .glo "_law_table", .glo "_law_gone", .glo "_law_words_right", .glo "_law_right", .glo "law", .glo "Stand", .glo "Losing", .glo "Link", .cls "Stand", .cls "Losing", .cls "Link", .noat "Stand" "own", .noat "Stand" "begin", .noat "Stand" "coming", .noat "Stand" "ins", .noat "Stand" "outs", .noat "Stand" "due", .noat "Stand" "cuts", .noat "Stand" "gone", .noat "Stand" "many", .noat "Stand" "later"]
def fas3 : List He.Fa := [.noat "Losing" "stands", .noat "Link" "stands", .meth "Stand" "__init__", .meth "Losing" "__init__", .meth "Losing" "step", .meth "Losing" "push", .meth "Losing" "lose", .meth "Losing" "push_all", .meth "Link" "__init__", .meth "Link" "step", .meth "Link" "push", .meth "Link" "lose", .meth "Link" "push_all", .meth "Losing" "put_out", .meth "Link" "put_out"]
def fas : List He.Fa := fas0 ++ fas1 ++ fas2 ++ fas3
def more (K : PySem.W.Frag) (file : Str) : Bool := mkB K "Stand" && (mkB K "Losing" && (mkB K "Link" && (propB K "Losing" "tick" && (propB K "Link" "tick" && (propB K "Losing" "lost" && (propB K "Link" "lost" && (propB K "Losing" "held" && (propB K "Link" "held" &&
  (supB K "Losing" "Losing" "Row" && (supB K "Link" "Losing" "Row" && (supB K "Link" "Link" "Losing" && (actB K file "Losing" && actB K file "Link"))))))))))))
abbrev AlC : Type := Bool × List FnC
def obC (file : Str) (K : PySem.W.Frag) : AlC := ((fas.all fun f => f.ok K) && ((fds.all fun d => d.ok K) && more K file), fds.map fun d => fnC K (d.pa.ad K))
def valC : AlC := (true, fds.map Fd.val)
/-- what of an object is looked at further: a def's code and cells, a class's names, a property's parts -/
def refC (o : Obj) : List Addr := match o.data with
  | .func fd => He.refV fd.code ++ fd.closure.map (·.2)
  | .cls cd => [cd.ns]
  | .dict es _ => es.toList.flatMap fun e => He.refV e.val
  | .fields vs => (match o.cls with
    | .type n => if n == "property" then vs.toList.flatMap He.refV else []
    | _ => [])
  | _ => []
def stepC (g : Addr → Option Obj) (as : List Addr) : List Addr := as.flatMap fun a => match g a with
  | some o => refC o
  | none => []
def walkC (g : Addr → Option Obj) : Nat → List Addr → List Addr
  | 0, as => as
  | n + 1, as => as ++ walkC g n (stepC g as)
def gloOf (d : Fd) : Option Str := match d.pa with
  | .glo x => some x
  | _ => none
def wanted : List Str := (["Stand", "Row", "Losing", "Link"] : List Str) ++ fds.filterMap gloOf
def seenAt (g : Addr → Option Obj) : List Addr := mainGlobals :: cStatics :: walkC g 4 (wanted.map fun x => He.ga (He.frG g [mainGlobals]) x)
def obG (file : Str) (g : Addr → Option Obj) : AlC := obC file (He.frG g (seenAt g))
def hkC (file : Str) : PySem.W.Hook where
  α := AlC
  obs := fun s => obG file s.heap.get?
  val := fun _ => valC
  says := fun _ h => ∃ K : PySem.W.Frag, K.In h ∧ obC file K = valC
  of := fun _ _ e => ⟨_, He.frG_in, e⟩
  keeps := (fun _ _ _ ⟨K, hK, c⟩ k => ⟨K, PySem.W.Frag.In.keeps hK k, c⟩)
abbrev R : PySem.W.OpenRow := PySem.W.OpenLaw.row PySem.Challenge.rw_burstapart_k75_whole_links_and_bursts
abbrev qv : Program := PySem.W.view R.prog [62]
abbrev fileC : Str := "/claim/cut.py"
abbrev hk : PySem.W.Hook := hkC fileC
def ob (s : PySem.W.SharedT) : AlC := obG fileC (HandSHeadRun.getT s)
theorem ob_eq (s : PySem.W.SharedT) : ob s = hk.obs s.abs := by
  have e : HandSHeadRun.getT s = s.abs.heap.get? := funext (HandSHeadRun.getT_eq s)
  show obG fileC (HandSHeadRun.getT s) = obG fileC s.abs.heap.get?
  rw [e]
def names1 : List Str := ["_wall", "BurstError", "NoTable", "NoInteger", "NoWord", "NoBurst", "NoNumber", "NoPlace", "NoValue", "LONGEST", "GREATEST_HOLD", "is_integer", "is_between", "is_onto", "is_table", "need_table", "need_integer", "hold_of", "out_of", "thing_of", "held_of", "back_of", "out_at", "held", "delay"]
def names2 : List Str := ["LETTERS", "MOST_LETTERS", "LONGEST_CUT", "is_value", "need_value", "Stand", "copied", "hold_ahead", "holds_ahead", "cuts_ahead", "go_on_alike", "Row", "Losing", "Link", "MOST_WORD", "MOST_TICKS", "need_word", "need_ticks", "need_most", "words_of", "guard_of", "lost", "worst_in", "worst", "longest", "_law_cell", "_law_pen", "_law_draw", "_law_table", "_law_gone", "_law_words_right", "_law_right"]
def names : List Str := names1 ++ names2
theorem run_head (w : World) : HandSHeadRun.RunEq R qv hk ob 20000 names w := by
  intro os
  kernel_rfl
theorem ba2 {a b : Bool} (h : (a && b) = true) : a = true ∧ b = true := Bool.and_eq_true_iff.mp h
section
variable {K : PySem.W.Frag} {mg : Str → Option Value}
theorem fd_fun {d : Fd} (hc : d.cl = []) (e : fnC K (d.pa.ad K) = d.val) (c : d.ok K = true) : ∃ fd, Fun K d.name d.qual d.st (d.pa.ad K) fd := by
  obtain ⟨kp, c2⟩ := ba2 c
  unfold fnC at e
  cases q : K.lookup (d.pa.ad K) with
  | none =>
    rw [q] at c2
    cases c2
  | some o =>
    obtain ⟨oc, od, dt, osl⟩ := o
    rw [q] at c2 e
    cases dt with
    | func fd =>
      (obtain ⟨n1, n2, n3, n4, n5, n6, n7, n8, n9, n10, n11, n12, n13, n14, n15⟩ := fd)
      have e2 : (some (n1, n2, n3, n4, n5, n6, n7.map (·.1), n15) : FnC) = some (d.name, d.qual, defArgs d.st, .stmts (defBody d.st), defScope d.st, mainGlobals, d.cl, builtinsNs) := e
      rw [hc] at e2
      simp only [Option.some.injEq, Prod.mk.injEq, List.map_eq_nil_iff] at e2
      (obtain ⟨h1, h2, h3, h4, h5, h6, h7, h8⟩ := e2)
      subst h1 h2 h3 h4 h5 h6 h7 h8
      obtain ⟨k1, k2⟩ := ba2 (show (PySem.W.codeIn K n13 d.qual && noV n8) = true from c2)
      cases n8 with
      | none => exact ⟨_, ⟨oc, od, n9, n10, n11, n12, n13, n14, osl, rfl, q, k1⟩, kp⟩
      | _ => cases k2
    | _ => cases c2
theorem df_mk {x : Str} {st : Stmt} {ps : List Str} (hm : mg x = some (.ref (He.ga K x))) (F : ∃ fd, Fun K x x st (He.ga K x) fd)
    (hb : ∀ (kV doc pm : Value) (an : Option Addr) (cdv ct : Value) (us : List Value), us.length = ps.length → bindArgs (PySem.W.fnOf x x (defArgs st) (defBody st) (defScope st) .none kV doc pm an cdv ct) ⟨us, []⟩ = pure (ps.zip us)) : Df K mg x st ps := by
  obtain ⟨fd, F⟩ := F
  exact ⟨_, fd, F, hm, F.binds hb⟩
theorem dm_mk {C : Addr} {m qual : Str} {st : Stmt} {ps : List Str} (hm : Meth K C m (He.ma K C m)) (F : ∃ fd, Fun K m qual st (He.ma K C m) fd)
    (hb : ∀ (kV doc pm : Value) (an : Option Addr) (cdv ct : Value) (us : List Value), us.length = ps.length → bindArgs (PySem.W.fnOf m qual (defArgs st) (defBody st) (defScope st) .none kV doc pm an cdv ct) ⟨us, []⟩ = pure (ps.zip us)) : Dm K C m qual st ps := by
  obtain ⟨fd, F⟩ := F
  exact ⟨_, fd, F, hm, F.binds hb⟩
theorem dv_mk {C : Addr} {m qual : Str} {st : Stmt} (hm : Meth K C m (He.ma K C m)) (F : ∃ fd, Fun K m qual st (He.ma K C m) fd) : Dv K C m qual st := by
  obtain ⟨fd, F⟩ := F
  exact ⟨_, fd, F, hm⟩
theorem eqA_ok {a b : Option (Option Value)} (h : eqA a b = true) : a = b := of_decide_eq_true h
theorem mk_of {x : Str} (h : mkB K x = true) (hm : mg x = some (.ref (He.ga K x))) : Mkc K mg x (He.ga K x) := by
  obtain ⟨h1, h2⟩ := ba2 h
  exact ⟨h1, h2, hm⟩
theorem dpr_mk {C f qual : Str} {st : Stmt} (h : propB K C f = true) (F : ∃ fd, Fun K f qual st (getterOf K (He.ma K (He.ga K C) f)) fd)
    (hb : ∀ (kV doc pm : Value) (an : Option Addr) (cdv ct : Value) (us : List Value), us.length = (["self"] : List Str).length → bindArgs (PySem.W.fnOf f qual (defArgs st) (defBody st) (defScope st) .none kV doc pm an cdv ct) ⟨us, []⟩ = pure ((["self"] : List Str).zip us)) : Dpr K (He.ga K C) f qual st := by
  obtain ⟨fd, F⟩ := F
  obtain ⟨h1, h⟩ := ba2 h
  obtain ⟨h2, h⟩ := ba2 h
  obtain ⟨h3, h4⟩ := ba2 h
  refine ⟨_, _, fd, ⟨eqA_ok h1, eqA_ok h2, of_decide_eq_true h3, ?_⟩, F, F.binds hb⟩
  unfold getterOf
  split at h4
  · rename_i g rest q
    rw [q]
    exact ⟨_, rfl⟩
  · cases h4
theorem sup_mk {C D G : Str} (c : Cls K (He.ga K C)) (h : supB K C D G = true) : Sup K (He.ga K C) (He.ga K D) "put_out" (He.ma K (He.ga K G) "put_out") := by
  obtain ⟨h1, h⟩ := ba2 h
  obtain ⟨h2, h⟩ := ba2 h
  obtain ⟨h3, h⟩ := ba2 h
  obtain ⟨h4, h5⟩ := ba2 h
  exact ⟨of_decide_eq_true h1, eqA_ok h2, of_decide_eq_true h3, h4, eqA_ok h5, c⟩
theorem sf_mk {P : Program} {file D qual : Str} {st : Stmt} {ps : List Str} (hfile : ((P.main.file : Str) == file) = true) (hsup : (P.main.scope.names.lookup ("super" : Str)).isSome = false) (ha : actB K file D = true) {d : Fd} (e : fnC K (d.pa.ad K) = d.val) (c : d.ok K = true)
    (ed : d = ⟨.met D "put_out", "put_out", qual, st, ["__class__"]⟩) (hself : ∃ ar, ((defArgs st).posonlyargs ++ (defArgs st).args).head? = some ar ∧ ar.arg = "self")
    (hb : ∀ (kV doc pm : Value) (an : Option Addr) (cdv ct : Value) (cc : Addr) (name : Str) (us : List Value), us.length = ps.length → bindArgs (PySem.W.ksFn name qual (defArgs st) (defBody st) (defScope st) .none kV doc pm an cdv ct cc) ⟨us, []⟩ = pure (ps.zip us)) :
    Sf K P (He.ga K D) (He.ma K (He.ga K D) "put_out") qual st ps := by
  subst ed
  obtain ⟨kp, c2⟩ := ba2 c
  obtain ⟨a1, a2⟩ := ba2 ha
  have e1 : fnC K (He.ma K (He.ga K D) "put_out") = _ := e
  have c3 : (match K.lookup (He.ma K (He.ga K D) "put_out") with
    | some ⟨_, _, .func fd, _⟩ => PySem.W.codeIn K fd.code qual && noV fd.defaults
    | _ => false) = true := c2
  unfold fnC at e1
  cases q : K.lookup (He.ma K (He.ga K D) "put_out") with
  | none =>
    rw [q] at c3
    cases c3
  | some o =>
    obtain ⟨oc, od, dt, osl⟩ := o
    rw [q] at c3 e1 a2
    cases dt with
    | func fd =>
      (obtain ⟨n1, n2, n3, n4, n5, n6, n7, n8, n9, n10, n11, n12, n13, n14, n15⟩ := fd)
      have e2 : (some (n1, n2, n3, n4, n5, n6, n7.map (·.1), n15) : FnC) = some (("put_out" : Str), qual, defArgs st, .stmts (defBody st), defScope st, mainGlobals, (["__class__"] : List Str), builtinsNs) := e1
      (simp only [Option.some.injEq, Prod.mk.injEq] at e2)
      (obtain ⟨h1, h2, h3, h4, h5, h6, h7, h8⟩ := e2)
      subst h1 h2 h3 h4 h5 h6 h8
      obtain ⟨k1, k2⟩ := ba2 (show (PySem.W.codeIn K n13 n2 && noV n8) = true from c3)
      cases n8 with
      | none =>
        obtain ⟨a3, a4⟩ := ba2 a2
        -- the closure has one cell
        obtain ⟨cc, rfl⟩ : ∃ cc, n7 = [(("__class__" : Str), cc)] := by
          match n7, h7 with
          | [(x, cc)], h7 =>
            refine ⟨cc, ?_⟩
            have : x = ("__class__" : Str) := by simpa using h7
            rw [this]
        -- the code
        cases n13 with
        | ref cda =>
          have a5 : (match K.lookup cda with
            | some ⟨_, _, .fields vs, _⟩ => (match (vs[2]? : Option Value) with
              | some (.str f _) => file == f
              | _ => false)
            | _ => false) = true := a3
          have a6 : (match K.lookup cc with
            | some ⟨_, _, .cell (some (.ref a)), _⟩ => decide (a = He.ga K D)
            | _ => false) = true := a4
          obtain ⟨vs, tf, oc2, od2, sl2, q2, hv⟩ : ∃ (vs : Array Value) (tf : Tok) (oc2 : Value) (od2 : Option Addr) (sl2 : Array (Option Value)), K.lookup cda = some ⟨oc2, od2, .fields vs, sl2⟩ ∧ vs[2]? = some (.str file tf) := by
            split at a5
            · rename_i oc2 od2 vs sl2 q2
              split at a5
              · rename_i f t q3
                have := eq_of_beq a5
                subst this
                exact ⟨vs, t, oc2, od2, sl2, q2, q3⟩
              · cases a5
            · cases a5
          obtain ⟨oc3, od3, sl3, q3⟩ : ∃ (oc3 : Value) (od3 : Option Addr) (sl3 : Array (Option Value)), K.lookup cc = some ⟨oc3, od3, .cell (some (.ref (He.ga K D))), sl3⟩ := by
            split at a6
            · rename_i oc3 od3 a sl3 q3
              have := of_decide_eq_true a6
              subst this
              exact ⟨oc3, od3, sl3, q3⟩
            · cases a6
          obtain ⟨cd, hcd⟩ := Option.isSome_iff_exists.mp a1
          exact ⟨"put_out", .none, n9, n10, n11, n14, oc, n12, cda, cc, od, osl, q, k1, ⟨⟨oc, od, osl, q⟩, hself, ⟨oc2, od2, vs, sl2, file, tf, q2, hv, hfile⟩, ⟨oc3, od3, sl3, q3⟩, ⟨cd, hcd⟩, hsup⟩, .all fun us hl => hb _ _ _ _ _ _ _ _ us hl⟩
        | _ => cases a3
      | _ => cases k2
    | _ => cases c3
end
/-- THE FACTS put in, and the law's own promise -/
theorem facts {P : Program} {w : World} {K : PySem.W.Frag} {h : Heap} {mg : Str → Option Value} {f : Addr} (X : K.In h) (G : h.Ns mainGlobals mg) (hfile : ((P.main.file : Str) == fileC) = true) (hsup : (P.main.scope.names.lookup ("super" : Str)).isSome = false) (hfa : mg ("law" : Str) = some (.ref f)) (c : obC fileC K = valC) :
    ∃ fd : FuncData, (∀ (s : Shared) (v : Value), BindsTo s fd ⟨[v], []⟩ [("_law_script", v)]) ∧ ∀ base : Heap, FnOk P w K mg base CX0 9 f fd ["_law_script"] (spLaw K) := by
  have c1 : ((fas.all fun f => f.ok K) && ((fds.all fun d => d.ok K) && more K fileC)) = true := congrArg (fun z : AlC => z.1) c
  have c2 : fds.map (fun d => fnC K (d.pa.ad K)) = fds.map Fd.val := congrArg (fun z : AlC => z.2) c
  obtain ⟨c3, c4⟩ := ba2 c1
  obtain ⟨c5, c6⟩ := ba2 c4
  have fact : ∀ (i : Nat) {f : He.Fa}, fas[i]? = some f → f.ok K = true := fun i f e => List.all_eq_true.mp c3 f (List.mem_of_getElem? e)
  have fok : ∀ (i : Nat) {d : Fd}, fds[i]? = some d → d.ok K = true := fun i d e => List.all_eq_true.mp c5 d (List.mem_of_getElem? e)
  have fnv : ∀ (i : Nat) {d : Fd}, fds[i]? = some d → fnC K (d.pa.ad K) = d.val := fun i d e => by
    have z : (fds.map fun d => fnC K (d.pa.ad K))[i]? = (fds.map Fd.val)[i]? := by rw [c2]
    rw [List.getElem?_map, List.getElem?_map, e] at z
    exact Option.some.inj z
  have fn0 : ∀ (i : Nat) {d : Fd}, fds[i]? = some d → d.cl = [] → ∃ fd, Fun K d.name d.qual d.st (d.pa.ad K) fd := fun i d e hc => fd_fun hc (fnv i e) (fok i e)
  have glo : ∀ (i : Nat) {x : Str}, fas[i]? = some (.glo x) → mg x = some (.ref (He.ga K x)) := fun i x e => He.glo_ok X G (fact i e)
  have fre : ∀ (i : Nat) {x : Str}, fas[i]? = some (.free x) → mg x = none := fun i x e => He.free_ok X G (fact i e)
  have con : ∀ (i : Nat) {x : Str} {n : Int}, fas[i]? = some (.int x n) → ∃ t, mg x = some (.int n t) := fun i x n e => He.int_ok X G (fact i e)
  obtain ⟨bmS, c6⟩ := ba2 c6
  obtain ⟨bmL, c6⟩ := ba2 c6
  obtain ⟨bmK, c6⟩ := ba2 c6
  obtain ⟨bLosing_tick, c6⟩ := ba2 c6
  obtain ⟨bLink_tick, c6⟩ := ba2 c6
  obtain ⟨bLosing_lost, c6⟩ := ba2 c6
  obtain ⟨bLink_lost, c6⟩ := ba2 c6
  obtain ⟨bLosing_held, c6⟩ := ba2 c6
  obtain ⟨bLink_held, c6⟩ := ba2 c6
  obtain ⟨bsLR, c6⟩ := ba2 c6
  obtain ⟨bsKR, c6⟩ := ba2 c6
  obtain ⟨bsKL, c6⟩ := ba2 c6
  obtain ⟨baLosing, baLink⟩ := ba2 c6
  have d13 : Df K mg "is_integer" (top 13) ["thing"] := df_mk (glo 23 rfl) (fn0 0 rfl rfl) (fun _ _ _ _ _ _ us hl => match us, hl with | [_], _ => rfl)
  have d14 : Df K mg "is_between" (top 14) ["thing", "low", "high"] := df_mk (glo 24 rfl) (fn0 1 rfl rfl) (fun _ _ _ _ _ _ us hl => match us, hl with | [_, _, _], _ => rfl)
  have d15 : Df K mg "is_onto" (top 15) ["holds"] := df_mk (glo 25 rfl) (fn0 2 rfl rfl) (fun _ _ _ _ _ _ us hl => match us, hl with | [_], _ => rfl)
  have d16 : Df K mg "is_table" (top 16) ["thing"] := df_mk (glo 26 rfl) (fn0 3 rfl rfl) (fun _ _ _ _ _ _ us hl => match us, hl with | [_], _ => rfl)
  have d17 : Df K mg "need_table" (top 17) ["table"] := df_mk (glo 27 rfl) (fn0 4 rfl rfl) (fun _ _ _ _ _ _ us hl => match us, hl with | [_], _ => rfl)
  have d18 : Df K mg "need_integer" (top 18) ["number"] := df_mk (glo 28 rfl) (fn0 5 rfl rfl) (fun _ _ _ _ _ _ us hl => match us, hl with | [_], _ => rfl)
  have d19 : Df K mg "hold_of" (top 19) ["table", "thing"] := df_mk (glo 29 rfl) (fn0 6 rfl rfl) (fun _ _ _ _ _ _ us hl => match us, hl with | [_, _], _ => rfl)
  have d20 : Df K mg "out_of" (top 20) ["table", "thing"] := df_mk (glo 30 rfl) (fn0 7 rfl rfl) (fun _ _ _ _ _ _ us hl => match us, hl with | [_, _], _ => rfl)
  have d21 : Df K mg "thing_of" (top 21) ["table", "tick"] := df_mk (glo 31 rfl) (fn0 8 rfl rfl) (fun _ _ _ _ _ _ us hl => match us, hl with | [_, _], _ => rfl)
  have d22 : Df K mg "held_of" (top 22) ["table"] := df_mk (glo 32 rfl) (fn0 9 rfl rfl) (fun _ _ _ _ _ _ us hl => match us, hl with | [_], _ => rfl)
  have d23 : Df K mg "back_of" (top 23) ["table"] := df_mk (glo 33 rfl) (fn0 10 rfl rfl) (fun _ _ _ _ _ _ us hl => match us, hl with | [_], _ => rfl)
  have d24 : Df K mg "out_at" (top 24) ["table", "thing"] := df_mk (glo 34 rfl) (fn0 11 rfl rfl) (fun _ _ _ _ _ _ us hl => match us, hl with | [_, _], _ => rfl)
  have d25 : Df K mg "held" (top 25) ["table"] := df_mk (glo 35 rfl) (fn0 12 rfl rfl) (fun _ _ _ _ _ _ us hl => match us, hl with | [_], _ => rfl)
  have d26 : Df K mg "delay" (top 26) ["table"] := df_mk (glo 36 rfl) (fn0 13 rfl rfl) (fun _ _ _ _ _ _ us hl => match us, hl with | [_], _ => rfl)
  have d31 : Df K mg "is_value" (top 31) ["thing"] := df_mk (glo 37 rfl) (fn0 14 rfl rfl) (fun _ _ _ _ _ _ us hl => match us, hl with | [_], _ => rfl)
  have d32 : Df K mg "need_value" (top 32) ["value"] := df_mk (glo 38 rfl) (fn0 15 rfl rfl) (fun _ _ _ _ _ _ us hl => match us, hl with | [_], _ => rfl)
  have d34 : Df K mg "copied" (top 34) ["stood"] := df_mk (glo 39 rfl) (fn0 16 rfl rfl) (fun _ _ _ _ _ _ us hl => match us, hl with | [_], _ => rfl)
  have d35 : Df K mg "hold_ahead" (top 35) ["stood", "far"] := df_mk (glo 40 rfl) (fn0 17 rfl rfl) (fun _ _ _ _ _ _ us hl => match us, hl with | [_, _], _ => rfl)
  have d37 : Df K mg "cuts_ahead" (top 37) ["stood"] := df_mk (glo 41 rfl) (fn0 18 rfl rfl) (fun _ _ _ _ _ _ us hl => match us, hl with | [_], _ => rfl)
  have d45 : Df K mg "need_word" (top 45) ["word"] := df_mk (glo 42 rfl) (fn0 19 rfl rfl) (fun _ _ _ _ _ _ us hl => match us, hl with | [_], _ => rfl)
  have d46 : Df K mg "need_ticks" (top 46) ["ticks", "least"] := df_mk (glo 43 rfl) (fn0 20 rfl rfl) (fun _ _ _ _ _ _ us hl => match us, hl with | [_, _], _ => rfl)
  have d47 : Df K mg "need_most" (top 47) ["most"] := df_mk (glo 44 rfl) (fn0 21 rfl rfl) (fun _ _ _ _ _ _ us hl => match us, hl with | [_], _ => rfl)
  have d48 : Df K mg "words_of" (top 48) ["table", "word"] := df_mk (glo 45 rfl) (fn0 22 rfl rfl) (fun _ _ _ _ _ _ us hl => match us, hl with | [_, _], _ => rfl)
  have d49 : Df K mg "guard_of" (top 49) ["table", "word"] := df_mk (glo 46 rfl) (fn0 23 rfl rfl) (fun _ _ _ _ _ _ us hl => match us, hl with | [_, _], _ => rfl)
  have d50 : Df K mg "lost" (top 50) ["table", "word", "start", "ticks"] := df_mk (glo 47 rfl) (fn0 24 rfl rfl) (fun _ _ _ _ _ _ us hl => match us, hl with | [_, _, _, _], _ => rfl)
  have d51 : Df K mg "worst_in" (top 51) ["outs", "ticks"] := df_mk (glo 48 rfl) (fn0 25 rfl rfl) (fun _ _ _ _ _ _ us hl => match us, hl with | [_, _], _ => rfl)
  have d52 : Df K mg "worst" (top 52) ["table", "word", "ticks"] := df_mk (glo 49 rfl) (fn0 26 rfl rfl) (fun _ _ _ _ _ _ us hl => match us, hl with | [_, _, _], _ => rfl)
  have d53 : Df K mg "longest" (top 53) ["table", "word", "most"] := df_mk (glo 50 rfl) (fn0 27 rfl rfl) (fun _ _ _ _ _ _ us hl => match us, hl with | [_, _, _], _ => rfl)
  have d55 : Df K mg "_law_cell" (top 55) ["_law_script", "_law_k"] := df_mk (glo 51 rfl) (fn0 28 rfl rfl) (fun _ _ _ _ _ _ us hl => match us, hl with | [_, _], _ => rfl)
  have d56 : Df K mg "_law_pen" (top 56) ["_law_cell_here"] := df_mk (glo 52 rfl) (fn0 29 rfl rfl) (fun _ _ _ _ _ _ us hl => match us, hl with | [_], _ => rfl)
  have d57 : Df K mg "_law_draw" (top 57) ["_law_pen_here", "_law_upto"] := df_mk (glo 53 rfl) (fn0 30 rfl rfl) (fun _ _ _ _ _ _ us hl => match us, hl with | [_, _], _ => rfl)
  have d58 : Df K mg "_law_table" (top 58) ["_law_pen_here", "_law_most", "_law_times"] := df_mk (glo 54 rfl) (fn0 31 rfl rfl) (fun _ _ _ _ _ _ us hl => match us, hl with | [_, _, _], _ => rfl)
  have d59 : Df K mg "_law_gone" (top 59) ["_law_box", "_law_begin", "_law_ticks", "_law_count"] := df_mk (glo 55 rfl) (fn0 32 rfl rfl) (fun _ _ _ _ _ _ us hl => match us, hl with | [_, _, _, _], _ => rfl)
  have d60 : Df K mg "_law_words_right" (top 60) ["_law_table_here", "_law_word", "_law_begin", "_law_ticks", "_law_gone_here"] := df_mk (glo 56 rfl) (fn0 33 rfl rfl) (fun _ _ _ _ _ _ us hl => match us, hl with | [_, _, _, _, _], _ => rfl)
  have d61 : Df K mg "_law_right" (top 61) ["_law_pen_here", "_law_table_here"] := df_mk (glo 57 rfl) (fn0 34 rfl rfl) (fun _ _ _ _ _ _ us hl => match us, hl with | [_, _], _ => rfl)
  obtain ⟨fd, FL⟩ := fn0 35 rfl rfl
  have B0 : Bt mg := ⟨fre 0 rfl, fre 1 rfl, fre 2 rfl, fre 3 rfl, fre 4 rfl, fre 5 rfl, fre 6 rfl, fre 7 rfl, fre 8 rfl, fre 9 rfl, fre 10 rfl, fre 11 rfl, fre 12 rfl, fre 13 rfl, fre 14 rfl, fre 15 rfl, fre 16 rfl, fre 17 rfl, con 18 rfl, con 19 rfl, con 20 rfl, con 21 rfl, con 22 rfl⟩
  have OS : Ob K (He.ga K "Stand") standNs := ⟨He.cls_ok (fact 62 rfl), fun f hf => by
    simp only [standNs, List.mem_cons, List.not_mem_nil, or_false] at hf
    rcases hf with rfl | rfl | rfl | rfl | rfl | rfl | rfl | rfl | rfl | rfl
    · exact He.noat_ok (fact 65 rfl)
    · exact He.noat_ok (fact 66 rfl)
    · exact He.noat_ok (fact 67 rfl)
    · exact He.noat_ok (fact 68 rfl)
    · exact He.noat_ok (fact 69 rfl)
    · exact He.noat_ok (fact 70 rfl)
    · exact He.noat_ok (fact 71 rfl)
    · exact He.noat_ok (fact 72 rfl)
    · exact He.noat_ok (fact 73 rfl)
    · exact He.noat_ok (fact 74 rfl)
    ⟩
  have OL : Ob K (He.ga K "Losing") ["stands"] := ⟨He.cls_ok (fact 63 rfl), fun f hf => by rw [List.mem_singleton.mp hf]; exact He.noat_ok (fact 75 rfl)⟩
  have OK : Ob K (He.ga K "Link") ["stands"] := ⟨He.cls_ok (fact 64 rfl), fun f hf => by rw [List.mem_singleton.mp hf]; exact He.noat_ok (fact 76 rfl)⟩
  have mS : Mkc K mg "Stand" (He.ga K "Stand") := mk_of bmS (glo 59 rfl)
  have mL : Mkc K mg "Losing" (He.ga K "Losing") := mk_of bmL (glo 60 rfl)
  have mK : Mkc K mg "Link" (He.ga K "Link") := mk_of bmK (glo 61 rfl)
  have mStand___init__ : Dm K (He.ga K "Stand") "__init__" "Stand.__init__" (inClass (top 33) 0) ["self", "own"] := dm_mk (He.meth_ok (fact 77 rfl)) (fn0 36 rfl rfl) (fun _ _ _ _ _ _ us hl => match us, hl with | [_, _], _ => rfl)
  have mLosing___init__ : Dm K (He.ga K "Losing") "__init__" "Row.__init__" (inClass (top 39) 1) ["self", "table"] := dm_mk (He.meth_ok (fact 78 rfl)) (fn0 37 rfl rfl) (fun _ _ _ _ _ _ us hl => match us, hl with | [_, _], _ => rfl)
  have mLosing_step : Dm K (He.ga K "Losing") "step" "Row.step" (inClass (top 39) 8) ["self", "stood", "value"] := dm_mk (He.meth_ok (fact 79 rfl)) (fn0 38 rfl rfl) (fun _ _ _ _ _ _ us hl => match us, hl with | [_, _, _], _ => rfl)
  have mLosing_push : Dm K (He.ga K "Losing") "push" "Row.push" (inClass (top 39) 9) ["self", "value"] := dm_mk (He.meth_ok (fact 80 rfl)) (fn0 39 rfl rfl) (fun _ _ _ _ _ _ us hl => match us, hl with | [_, _], _ => rfl)
  have mLosing_lose : Dm K (He.ga K "Losing") "lose" "Losing.lose" (inClass (top 40) 3) ["self", "ticks"] := dm_mk (He.meth_ok (fact 81 rfl)) (fn0 40 rfl rfl) (fun _ _ _ _ _ _ us hl => match us, hl with | [_, _], _ => rfl)
  have vLosing : Dv K (He.ga K "Losing") "push_all" "Row.push_all" (inClass (top 39) 10) := dv_mk (He.meth_ok (fact 82 rfl)) (fn0 41 rfl rfl)
  have mLink___init__ : Dm K (He.ga K "Link") "__init__" "Row.__init__" (inClass (top 39) 1) ["self", "table"] := dm_mk (He.meth_ok (fact 83 rfl)) (fn0 42 rfl rfl) (fun _ _ _ _ _ _ us hl => match us, hl with | [_, _], _ => rfl)
  have mLink_step : Dm K (He.ga K "Link") "step" "Row.step" (inClass (top 39) 8) ["self", "stood", "value"] := dm_mk (He.meth_ok (fact 84 rfl)) (fn0 43 rfl rfl) (fun _ _ _ _ _ _ us hl => match us, hl with | [_, _, _], _ => rfl)
  have mLink_push : Dm K (He.ga K "Link") "push" "Row.push" (inClass (top 39) 9) ["self", "value"] := dm_mk (He.meth_ok (fact 85 rfl)) (fn0 44 rfl rfl) (fun _ _ _ _ _ _ us hl => match us, hl with | [_, _], _ => rfl)
  have mLink_lose : Dm K (He.ga K "Link") "lose" "Losing.lose" (inClass (top 40) 3) ["self", "ticks"] := dm_mk (He.meth_ok (fact 86 rfl)) (fn0 45 rfl rfl) (fun _ _ _ _ _ _ us hl => match us, hl with | [_, _], _ => rfl)
  have vLink : Dv K (He.ga K "Link") "push_all" "Row.push_all" (inClass (top 39) 10) := dv_mk (He.meth_ok (fact 87 rfl)) (fn0 46 rfl rfl)
  have pLosing_tick : Dpr K (He.ga K "Losing") "tick" "Row.tick" (inClass (top 39) 4) := dpr_mk bLosing_tick (fn0 47 rfl rfl) (fun _ _ _ _ _ _ us hl => match us, hl with | [_], _ => rfl)
  have pLosing_lost : Dpr K (He.ga K "Losing") "lost" "Losing.lost" (inClass (top 40) 1) := dpr_mk bLosing_lost (fn0 48 rfl rfl) (fun _ _ _ _ _ _ us hl => match us, hl with | [_], _ => rfl)
  have pLink_tick : Dpr K (He.ga K "Link") "tick" "Row.tick" (inClass (top 39) 4) := dpr_mk bLink_tick (fn0 49 rfl rfl) (fun _ _ _ _ _ _ us hl => match us, hl with | [_], _ => rfl)
  have pLink_lost : Dpr K (He.ga K "Link") "lost" "Losing.lost" (inClass (top 40) 1) := dpr_mk bLink_lost (fn0 50 rfl rfl) (fun _ _ _ _ _ _ us hl => match us, hl with | [_], _ => rfl)
  have pLosing_held : Dpr K (He.ga K "Losing") "held" "Row.held" (inClass (top 39) 5) := dpr_mk bLosing_held (fn0 51 rfl rfl) (fun _ _ _ _ _ _ us hl => match us, hl with | [_], _ => rfl)
  have pLink_held : Dpr K (He.ga K "Link") "held" "Link.held" (inClass (top 41) 1) := dpr_mk bLink_held (fn0 52 rfl rfl) (fun _ _ _ _ _ _ us hl => match us, hl with | [_], _ => rfl)
  obtain ⟨fdR, FR⟩ := fn0 53 rfl rfl
  have bR : Binds K fdR ["self", "stood", "now", "found"] [] := FR.binds (fun _ _ _ _ _ _ us hl => match us, hl with | [_, _, _, _], _ => rfl)
  have sLosing : Sf K P (He.ga K "Losing") (He.ma K (He.ga K "Losing") "put_out") "Losing.put_out" (inClass (top 40) 2) ["self", "stood", "now", "found"] := sf_mk hfile hsup baLosing (fnv 54 rfl) (fok 54 rfl) rfl ⟨_, rfl, rfl⟩ (fun _ _ _ _ _ _ _ _ us hl => match us, hl with | [_, _, _, _], _ => rfl)
  have sLink : Sf K P (He.ga K "Link") (He.ma K (He.ga K "Link") "put_out") "Link.put_out" (inClass (top 41) 2) ["self", "stood", "now", "found"] := sf_mk hfile hsup baLink (fnv 55 rfl) (fok 55 rfl) rfl ⟨_, rfl, rfl⟩ (fun _ _ _ _ _ _ _ _ us hl => match us, hl with | [_, _, _, _], _ => rfl)
  -- the small defs
  have g13 : ∀ base, GF P w K mg base "is_integer" 1 spInt := fun base => g_int d13 B0
  have g14 : ∀ base, GF P w K mg base "is_between" 2 spBetween := fun base => g_between d14 (g13 base)
  have g17 : ∀ base, GF P w K mg base "need_table" 4 (spNeedTab K) := fun base => g_needTab d17 (g_table d16 B0 (g14 base) (g_onto d15 B0))
  have g18 : ∀ base, GF P w K mg base "need_integer" 2 spNeedInt := fun base => g_needInt d18 (g13 base)
  have g20 : ∀ base, GF P w K mg base "out_of" 2 (spOut K) := fun base => g_out d20 (g_hold d19 B0)
  have g32 : ∀ base, GF P w K mg base "need_value" 3 spNeedInt := fun base => g_needVal d32 (g_value d31 B0 (g13 base))
  have g45 : ∀ base, GF P w K mg base "need_word" 3 spNeedWord := fun base => g_needWord d45 B0 (g14 base)
  have g46 : ∀ base, GF P w K mg base "need_ticks" 3 spNeedTicks := fun base => g_needTicks d46 B0 (g14 base)
  have g47 : ∀ base, GF P w K mg base "need_most" 3 spNeedMost := fun base => g_needMost d47 B0 (g14 base)
  have g48 : ∀ base, GF P w K mg base "words_of" 3 (spWords K) := fun base => g_words d48 B0 (g20 base)
  have g52 : ∀ base, GF P w K mg base "worst" 5 (spWorst K) := fun base => g_worst d52 B0 (g17 base) (g45 base) (g46 base) (g48 base) (g_worstIn d51 B0)
  have g53 : ∀ base, GF P w K mg base "longest" 5 (spLongest K) := fun base => g_longest d53 (g17 base) (g45 base) (g47 base) (g_guard d49 B0 (g48 base))
  have g50 : ∀ base, GF P w K mg base "lost" 5 (spLost K) := fun base => g_lost d50 B0 (g17 base) (g45 base) (g18 base) (g46 base) (g_thing d21 (g20 base))
  have g60 : ∀ base, GF P w K mg base "_law_words_right" 6 (spWR K) := fun base => g_wr d60 B0 (g50 base) (g52 base) (g53 base)
  -- the rows
  have iS : ∀ base, MF P w K mg base (He.ga K "Stand") "__init__" 1 (spInit (He.ga K "Stand")) := fun base => m_stand OS mStand___init__
  have g34 : ∀ base, GF P w K mg base "copied" 3 (spCopied (He.ga K "Stand")) := fun base => g_copied OS mS B0 (iS base) d34
  have g35 : ∀ base, GF P w K mg base "hold_ahead" 1 (spAhead (He.ga K "Stand") K) := fun base => g_ahead OS B0 d35
  have g37 : ∀ base, GF P w K mg base "cuts_ahead" 1 (spCutsAhead (He.ga K "Stand") K) := fun base => g_cutsAhead OS B0 d37
  have fR : ∀ base, FnR P w K mg base CX0 1 (He.ma K (He.ga K "Row") "put_out") spRowPut := fun base => m_rowPut FR bR
  have putL : ∀ base, MF P w K mg base (He.ga K "Losing") "put_out" 3 (spPut K (He.ga K "Stand") (He.ga K "Losing") false) := fun base =>
    ⟨_, FnR.mono (put_false (m_losePut OS B0 sLosing (sup_mk OL.cls bsLR) (fR base))) (by decide), He.meth_ok (fact 88 rfl)⟩
  have putK : ∀ base, MF P w K mg base (He.ga K "Link") "put_out" 3 (spPut K (He.ga K "Stand") (He.ga K "Link") true) := fun base =>
    ⟨_, put_true (m_linkPut OS B0 sLink (sup_mk OK.cls bsKL) (m_losePut OS B0 sLosing (sup_mk OK.cls bsKR) (fR base)) (g_back d23 B0)), He.meth_ok (fact 89 rfl)⟩
  have goneL' : ∀ base, GF P w K mg base "_law_gone" 7 (spGoneF K (He.ga K "Stand") (He.ga K "Losing") false) := fun base =>
    g_gone d59 B0 OL.cls (m_lose OS OL B0 (g14 base) (g34 base) (g37 base) (p_tick OS OL B0 pLosing_tick) mLosing_lose)
      (m_push OL (g32 base) (m_pushAll OL B0 (g32 base) (g34 base) (m_step OS OL.cls B0 mLosing_step (g35 base) (putL base)) vLosing) mLosing_push)
  have goneK' : ∀ base, GF P w K mg base "_law_gone" 7 (spGoneF K (He.ga K "Stand") (He.ga K "Link") true) := fun base =>
    g_gone d59 B0 OK.cls (m_lose OS OK B0 (g14 base) (g34 base) (g37 base) (p_tick OS OK B0 pLink_tick) mLink_lose)
      (m_push OK (g32 base) (m_pushAll OK B0 (g32 base) (g34 base) (m_step OS OK.cls B0 mLink_step (g35 base) (putK base)) vLink) mLink_push)
  have g57 : ∀ base, GF P w K mg base "_law_draw" 1 spDraw := fun base => g_draw d57
  have g61 : ∀ base, GF P w K mg base "_law_right" 8 (spRight K) := fun base =>
    g_right B0 d61 OL OK mL mK (g_delay d26 B0 (g17 base)) (g57 base) (m_row OL mS (iS base) (g17 base) mLosing___init__) (m_row OK mS (iS base) (g17 base) mLink___init__) (goneK' base) (goneL' base)
      (g_outAt d24 (g17 base) (g18 base) (g20 base)) (g_held d25 (g17 base) (g_heldOf d22 B0)) (p_gone OS OK pLink_lost) (p_gone OS OL pLosing_lost)
      (p_heldK OS OK B0 (p_tick OS OK B0 pLink_tick) pLink_held) (p_heldR OS OL B0 (p_tick OS OL B0 pLosing_tick) pLosing_held) (g60 base)
  have ef := hfa.symm.trans (glo 58 rfl)
  cases ef
  have b : Binds K fd ["_law_script"] [] := FL.binds (fun _ _ _ _ _ _ us hl => match us, hl with | [_], _ => rfl)
  refine ⟨fd, fun s v => ?_, fun base => ok_law FL B0 (g_cell d55 B0) (g_pen d56 B0) (g_mkTab d58 B0 (g57 base)) (g61 base)⟩
  obtain ⟨oc, od, kV, doc, pm, an, cdv, ct, osl, rfl, lk, hcd⟩ := FL.ex
  exact .of_eq rfl
end BA
open PySem PySem.W PySem.Calls PyProof.Rows
theorem PySem.Challenge.cw_burstapart_k75_whole_links_and_bursts_holds : PySem.Challenge.rw_burstapart_k75_whole_links_and_bursts.Holds := by
  w_on; o_law
  refine HandSHeadRun.head_any (r := OpenLaw.row PySem.Challenge.rw_burstapart_k75_whole_links_and_bursts) (q := view (OpenLaw.row PySem.Challenge.rw_burstapart_k75_whole_links_and_bursts).prog [62]) (H := BA.hk) (ob := BA.ob) (M := 20000) (loose := BA.names) (d := HandSHeadRun.topDef (OpenLaw.row PySem.Challenge.rw_burstapart_k75_whole_links_and_bursts).prog 62) (kwd := []) BA.ob_eq
    (by kernel_rfl) (fun s => by kernel_rfl) BA.run_head (by kernel_rfl) (by kernel_rfl) (by kernel_rfl) (by rfl) (by first | assumption | decide +kernel) (by decide +kernel) ⟨rfl, rfl, rfl, rfl, rfl, by decide +kernel⟩ ?hw ?hc
  case hw => w_witness2
  case hc =>
    refine L2.walk_ofE (l := PySem.Challenge.rw_burstapart_k75_whole_links_and_bursts) (n := 63) (k := 9) (x := "_law_script") (CX := L2.CX0) rfl (by decide) (by kernel_rfl) ⟨rfl, by decide, by decide⟩ ?F (fun _ _ _ _ z => z)
    intro w mg fa h Y G hmg0
    obtain ⟨K, KX, c⟩ := Y
    have hmg : mg ("law" : PySem.Str) = some (.ref fa) := by
      have e : (HandSHeadRun.topDef (OpenLaw.row PySem.Challenge.rw_burstapart_k75_whole_links_and_bursts).prog 62).name = ("law" : PySem.Str) := by kernel_rfl
      rw [← e]
      exact hmg0
    obtain ⟨fd, hb, hF⟩ := BA.facts (P := (PySem.Challenge.rw_burstapart_k75_whole_links_and_bursts).prog) (w := w) KX G (by decide +kernel) (by decide +kernel) hmg c
    exact ⟨K, fd, BA.spLaw K, KX, hb, fun H a ns hl _ hS => ⟨a, ns, rfl, hS, fun _ => rfl⟩, fun base _ _ => hF base⟩
