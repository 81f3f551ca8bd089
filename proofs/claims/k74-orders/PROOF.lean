import PyProof.Rows.All
import Wide.All
import OpenK.AllK
import Wide.FinOn
import HandS.ForMost
import HandS.Deep
import HandS.TupAny
import HandS.TupMul
import KE.KDictKeyed
import KE.KDictDisplayH
import HandS.Walk
import HandS.Star
import HandS.NoneIn
import HandS.IsInst
import HandS.Style
import HandS.Wide
import KE.GoesEnum
import HandS.Codes
import PyProof.StrOps2
import HandS.More
import PySem.Challenge.RW_buswindows_k74_whole_orders_by_all_runs
set_option Elab.async false
set_option linter.all false
set_option maxRecDepth 100000
set_option maxHeartbeats 8000000
/-! K74, part 1: ways in a tree whose nodes are lists of numbers -/
namespace K74
abbrev Path := List Nat

/-- the neighbour of z towards y -/
def nxt (z y : Path) : Path := if z <+: y then y.take (z.length + 1) else z.dropLast
def mu (x y : Path) : Nat := if x <+: y then y.length - x.length else x.length + y.length + 1

theorem pre_len {x y : Path} (h : x <+: y) (ne : x ≠ y) : x.length < y.length := by
  rcases Nat.lt_or_ge x.length y.length with q | q
  · exact q
  · exact absurd (h.eq_of_length_le q) ne
theorem pre_take {x y : Path} (h : x <+: y) : y.take x.length = x := by
  obtain ⟨t, rfl⟩ := h
  simp
theorem take_pre (y : Path) (n : Nat) : y.take n <+: y := List.take_prefix n y
theorem dropLast_pre (y : Path) : y.dropLast <+: y := List.dropLast_prefix y
theorem pre_comp {a b c : Path} (h1 : a <+: c) (h2 : b <+: c) : a <+: b ∨ b <+: a := by
  rcases Nat.le_total a.length b.length with q | q
  · exact .inl (List.prefix_of_prefix_length_le h1 h2 q)
  · exact .inr (List.prefix_of_prefix_length_le h2 h1 q)
theorem pre_antisymm {a b : Path} (h1 : a <+: b) (h2 : b <+: a) : a = b := h1.eq_of_length_le h2.length_le
theorem nil_pre (y : Path) : [] <+: y := ⟨y, rfl⟩
theorem pre_take_iff {v y : Path} {n : Nat} : v <+: y.take n ↔ v <+: y ∧ v.length ≤ n := by
  constructor
  · intro h
    exact ⟨h.trans (take_pre y n), by have := h.length_le; rw [List.length_take] at this; omega⟩
  · rintro ⟨h, hl⟩
    have e := pre_take h
    rw [← e]
    exact List.take_prefix_take_left (l := y) hl
theorem not_nil_of_npre {x y : Path} (h : ¬ x <+: y) : x ≠ [] := fun e => h (e ▸ nil_pre y)
theorem pre_dropLast_iff {v x : Path} (hx : x ≠ []) : v <+: x.dropLast ↔ v <+: x ∧ v ≠ x := by
  have hl : 0 < x.length := List.length_pos_iff.mpr hx
  rw [List.dropLast_eq_take, pre_take_iff]
  constructor
  · rintro ⟨h, l⟩
    exact ⟨h, fun e => by subst e; omega⟩
  · rintro ⟨h, ne⟩
    have := pre_len h ne
    exact ⟨h, by omega⟩

theorem nxt_down {x y : Path} (h : x <+: y) : nxt x y = y.take (x.length + 1) := by unfold nxt; rw [if_pos h]
theorem nxt_up {x y : Path} (h : ¬ x <+: y) : nxt x y = x.dropLast := by unfold nxt; rw [if_neg h]
theorem mu_lt {x y : Path} (ne : x ≠ y) : mu (nxt x y) y < mu x y := by
  by_cases h : x <+: y
  · rw [nxt_down h]
    have hl := pre_len h ne
    unfold mu
    rw [if_pos (take_pre y _), if_pos h, List.length_take]
    omega
  · rw [nxt_up h]
    have hx := not_nil_of_npre h
    have hl : 0 < x.length := List.length_pos_iff.mpr hx
    unfold mu
    rw [if_neg h, List.length_dropLast]
    split <;> omega

/-- the nodes from x to y -/
def way (x y : Path) : List Path := if h : x = y then [x] else x :: way (nxt x y) y
termination_by mu x y
decreasing_by exact mu_lt h
theorem way_self (x : Path) : way x x = [x] := by rw [way]; simp
theorem way_ne {x y : Path} (h : x ≠ y) : way x y = x :: way (nxt x y) y := by rw [way]; simp [h]
theorem way_head (x y : Path) : ∃ t, way x y = x :: t := by
  by_cases h : x = y
  · subst h; exact ⟨[], way_self x⟩
  · exact ⟨_, way_ne h⟩
theorem way_ind {C : Path → Path → Prop} (h0 : ∀ x, C x x) (h1 : ∀ x y, x ≠ y → C (nxt x y) y → C x y) (x y : Path) : C x y := by
  generalize hn : mu x y = n
  induction n using Nat.strongRecOn generalizing x with
  | _ n ih =>
    by_cases h : x = y
    · subst h; exact h0 x
    · exact h1 x y h (ih _ (by rw [← hn]; exact mu_lt h) _ rfl)

/-- z lies between x and y -/
def Btw (x z y : Path) : Prop := ∀ v : Path, (v <+: x → v <+: y → v <+: z) ∧ (v <+: z → v <+: x ∨ v <+: y)
theorem Btw.left (x y : Path) : Btw x x y := fun _ => ⟨fun a _ => a, fun a => .inl a⟩
theorem Btw.right (x y : Path) : Btw x y y := fun _ => ⟨fun _ b => b, fun a => .inr a⟩
theorem Btw.symm {x z y : Path} (h : Btw x z y) : Btw y z x := fun v => ⟨fun a b => (h v).1 b a, fun a => ((h v).2 a).symm⟩
theorem Btw.trans {x n z y : Path} (h1 : Btw x n y) (h2 : Btw n z y) : Btw x z y := fun v =>
  ⟨fun a b => (h2 v).1 ((h1 v).1 a b) b, fun a => ((h2 v).2 a).elim (fun b => (h1 v).2 b) .inr⟩
theorem Btw.anti {x n y : Path} (h1 : Btw x n y) (h2 : Btw n x y) : x = n := by
  refine pre_antisymm ?_ ?_
  · rcases (h2 x).2 List.prefix_rfl with q | q
    · exact q
    · exact (h1 x).1 List.prefix_rfl q
  · rcases (h1 n).2 List.prefix_rfl with q | q
    · exact q
    · exact (h2 n).1 List.prefix_rfl q
theorem Btw.self {x z : Path} (h : Btw x z x) : z = x := by
  refine pre_antisymm ?_ ?_
  · exact ((h z).2 List.prefix_rfl).elim id id
  · exact (h x).1 List.prefix_rfl List.prefix_rfl

theorem nxt_ne {x y : Path} (ne : x ≠ y) : nxt x y ≠ x := by
  by_cases h : x <+: y
  · have hl := pre_len h ne
    rw [nxt_down h]
    intro e
    have := congrArg List.length e
    rw [List.length_take] at this
    omega
  · have hx := not_nil_of_npre h
    have hl : 0 < x.length := List.length_pos_iff.mpr hx
    rw [nxt_up h]
    intro e
    have := congrArg List.length e
    rw [List.length_dropLast] at this
    omega
theorem btw_nxt {x y : Path} (ne : x ≠ y) : Btw x (nxt x y) y := by
  by_cases h : x <+: y
  · rw [nxt_down h]
    exact fun v => ⟨fun a b => pre_take_iff.mpr ⟨b, by have := a.length_le; omega⟩, fun a => .inr (a.trans (take_pre y _))⟩
  · rw [nxt_up h]
    have hx := not_nil_of_npre h
    refine fun v => ⟨fun a b => (pre_dropLast_iff hx).mpr ⟨a, fun e => h (e ▸ b)⟩, fun a => .inl (a.trans (dropLast_pre x))⟩
theorem btw_step {x y z : Path} (h : Btw x z y) (ne : z ≠ x) : Btw (nxt x y) z y := by
  by_cases hp : x <+: y
  · rw [nxt_down hp]
    have zy : z <+: y := ((h z).2 List.prefix_rfl).elim (fun a => a.trans hp) id
    have xz : x <+: z := (h x).1 List.prefix_rfl hp
    have hl := pre_len xz (Ne.symm ne)
    refine fun v => ⟨fun a b => ?_, fun a => .inr (a.trans zy)⟩
    have := (pre_take_iff.mp a).2
    exact List.prefix_of_prefix_length_le b zy (by omega)
  · rw [nxt_up hp]
    have hx := not_nil_of_npre hp
    refine fun v => ⟨fun a b => (h v).1 (a.trans (dropLast_pre x)) b, fun a => ?_⟩
    rcases (h v).2 a with q | q
    · by_cases e : v = x
      · subst e
        rcases (h z).2 List.prefix_rfl with r | r
        · exact absurd (pre_antisymm r a) ne
        · exact .inr (a.trans r)
      · exact .inl ((pre_dropLast_iff hx).mpr ⟨q, e⟩)
    · exact .inr q
theorem mem_way {x y z : Path} : z ∈ way x y ↔ Btw x z y := by
  revert z
  refine way_ind (C := fun x y => ∀ {z}, z ∈ way x y ↔ Btw x z y) (fun x z => ?_) (fun x y ne ih z => ?_) x y
  · rw [way_self, List.mem_singleton]
    exact ⟨fun e => e ▸ Btw.left x x, Btw.self⟩
  · rw [way_ne ne, List.mem_cons, ih]
    constructor
    · rintro (rfl | h)
      · exact Btw.left _ _
      · exact (btw_nxt ne).trans h
    · intro h
      by_cases e : z = x
      · exact .inl e
      · exact .inr (btw_step h e)
theorem way_nodup (x y : Path) : (way x y).Nodup := by
  refine way_ind (C := fun x y => (way x y).Nodup) (fun x => ?_) (fun x y ne ih => ?_) x y
  · rw [way_self]; simp
  · rw [way_ne ne, List.nodup_cons]
    refine ⟨fun h => ?_, ih⟩
    have := mem_way.mp h
    exact nxt_ne ne ((btw_nxt ne).anti this).symm
theorem way_suffix {x y z : Path} (h : Btw x z y) : ∃ l, way x y = l ++ way z y := by
  revert h z
  refine way_ind (C := fun x y => ∀ {z}, Btw x z y → ∃ l, way x y = l ++ way z y) (fun x z h => ?_) (fun x y ne ih z h => ?_) x y
  · have := h.self; subst this; exact ⟨[], rfl⟩
  · by_cases e : z = x
    · subst e; exact ⟨[], rfl⟩
    · obtain ⟨l, q⟩ := ih (btw_step h e)
      exact ⟨x :: l, by rw [way_ne ne, q]; rfl⟩
/-- the way's first step does not depend on how far one looks -/
theorem nxt_btw {x y z : Path} (h : Btw x z y) (ne : x ≠ z) : nxt x z = nxt x y := by
  by_cases hp : x <+: z
  · have hl := pre_len hp ne
    have zy : z <+: y := by
      rcases (h z).2 List.prefix_rfl with q | q
      · have := q.length_le; omega
      · exact q
    rw [nxt_down hp, nxt_down (hp.trans zy)]
    exact (List.prefix_of_prefix_length_le (l₃ := y) ((take_pre z _).trans zy) (take_pre y _) (by rw [List.length_take, List.length_take]; have := zy.length_le; omega)).eq_of_length (by rw [List.length_take, List.length_take]; have := zy.length_le; omega)
  · rw [nxt_up hp, nxt_up fun q => hp ((h x).1 List.prefix_rfl q)]
theorem ne_of_btw {x y z : Path} (h : Btw x z y) (ne : x ≠ z) : x ≠ y := fun e => by subst e; exact ne h.self.symm
/-- two ways from z part at once or go on together -/
theorem btw_iff_dir {x y z : Path} : Btw x z y ↔ x = z ∨ y = z ∨ nxt z x ≠ nxt z y := by
  constructor
  · intro h
    by_cases e1 : x = z
    · exact .inl e1
    by_cases e2 : y = z
    · exact .inr (.inl e2)
    refine .inr (.inr fun e => ?_)
    by_cases p1 : z <+: x
    · have l1 := pre_len p1 (Ne.symm e1)
      by_cases p2 : z <+: y
      · have l2 := pre_len p2 (Ne.symm e2)
        rw [nxt_down p1, nxt_down p2] at e
        have a := (h (x.take (z.length + 1))).1 (take_pre x _) (e ▸ take_pre y _)
        have := a.length_le
        rw [List.length_take] at this
        omega
      · rw [nxt_down p1, nxt_up p2] at e
        have := congrArg List.length e
        rw [List.length_take, List.length_dropLast] at this
        omega
    · by_cases p2 : z <+: y
      · have l2 := pre_len p2 (Ne.symm e2)
        rw [nxt_up p1, nxt_down p2] at e
        have := congrArg List.length e
        rw [List.length_take, List.length_dropLast] at this
        omega
      · exact ((h z).2 List.prefix_rfl).elim p1 p2
  · rintro (rfl | rfl | h)
    · exact Btw.left _ _
    · exact Btw.right _ _
    · refine fun v => ⟨fun a b => ?_, fun a => ?_⟩
      · apply Classical.byContradiction
        intro c
        apply h
        by_cases p : z <+: v
        · have hl := pre_len p (fun e => c (e ▸ List.prefix_rfl))
          rw [nxt_down (p.trans a), nxt_down (p.trans b)]
          have e1 : x.take (z.length + 1) <+: v := List.prefix_of_prefix_length_le (take_pre x _) a (by rw [List.length_take]; omega)
          have e2 : y.take (z.length + 1) <+: v := List.prefix_of_prefix_length_le (take_pre y _) b (by rw [List.length_take]; omega)
          have := a.length_le
          have := b.length_le
          exact (List.prefix_of_prefix_length_le e1 e2 (by rw [List.length_take, List.length_take]; omega)).eq_of_length (by rw [List.length_take, List.length_take]; omega)
        · have p1 : ¬ z <+: x := fun q => (pre_comp q a).elim p c
          have p2 : ¬ z <+: y := fun q => (pre_comp q b).elim p c
          rw [nxt_up p1, nxt_up p2]
      · apply Classical.byContradiction
        intro c
        apply h
        have p1 : ¬ z <+: x := fun q => c (.inl (a.trans q))
        have p2 : ¬ z <+: y := fun q => c (.inr (a.trans q))
        rw [nxt_up p1, nxt_up p2]
theorem way_last (x y : Path) : ∃ l, way x y = l ++ [y] := by
  obtain ⟨l, q⟩ := way_suffix (Btw.right x y)
  exact ⟨l, by rw [q, way_self]⟩
theorem way_split {x y z : Path} (h : Btw x z y) : way x y = (way x z).dropLast ++ way z y := by
  revert h y
  refine way_ind (C := fun x z => ∀ {y}, Btw x z y → way x y = (way x z).dropLast ++ way z y) (fun x y h => ?_) (fun x z ne ih y h => ?_) x z
  · rw [way_self]; rfl
  · have e := nxt_btw h ne
    have hs := btw_step h (Ne.symm ne)
    rw [← e] at hs
    rw [way_ne (ne_of_btw h ne), ← e, ih hs, way_ne ne]
    obtain ⟨t, q⟩ := way_head (nxt x z) z
    rw [q]
    rfl

/-- the links of a way -/
def links {α : Type} (l : List α) : List (α × α) := l.zip l.tail
theorem links_cons {α : Type} (a b : α) (l : List α) : links (a :: b :: l) = (a, b) :: links (b :: l) := rfl
theorem links_len {α : Type} (l : List α) : (links l).length = l.length - 1 := by
  unfold links; rw [List.length_zip, List.length_tail]; omega
theorem links_cat {α : Type} (l : List α) (z : α) (r : List α) : links (l ++ z :: r) = links (l ++ [z]) ++ links (z :: r) := by
  induction l with
  | nil => rfl
  | cons a l ih =>
    cases l with
    | nil => rfl
    | cons b l =>
      show (a, b) :: links (b :: l ++ z :: r) = ((a, b) :: links (b :: l ++ [z])) ++ links (z :: r)
      rw [ih]; rfl
def lk (x y : Path) : List (Path × Path) := links (way x y)
theorem lk_self (x : Path) : lk x x = [] := by unfold lk; rw [way_self]; rfl
theorem lk_ne {x y : Path} (h : x ≠ y) : lk x y = (x, nxt x y) :: lk (nxt x y) y := by
  unfold lk
  rw [way_ne h]
  obtain ⟨t, q⟩ := way_head (nxt x y) y
  rw [q, links_cons]
theorem lk_split {x y z : Path} (h : Btw x z y) : lk x y = lk x z ++ lk z y := by
  unfold lk
  rw [way_split h]
  obtain ⟨l, q⟩ := way_last x z
  obtain ⟨t, q'⟩ := way_head z y
  rw [q, q', List.dropLast_concat, links_cat]
theorem mem_lk {x y : Path} {e : Path × Path} : e ∈ lk x y ↔ Btw x e.1 y ∧ e.1 ≠ y ∧ e.2 = nxt e.1 y := by
  refine way_ind (C := fun x y => e ∈ lk x y ↔ Btw x e.1 y ∧ e.1 ≠ y ∧ e.2 = nxt e.1 y) (fun x => ?_) (fun x y ne ih => ?_) x y
  · rw [lk_self]
    exact ⟨(fun h => nomatch h), fun h => absurd h.1.self h.2.1⟩
  · rw [lk_ne ne, List.mem_cons, ih]
    constructor
    · rintro (rfl | ⟨h1, h2, h3⟩)
      · exact ⟨Btw.left _ _, ne, rfl⟩
      · exact ⟨(btw_nxt ne).trans h1, h2, h3⟩
    · rintro ⟨h1, h2, h3⟩
      by_cases q : e.1 = x
      · exact .inl (by obtain ⟨a, b⟩ := e; simp only at q h3; subst q; rw [h3])
      · exact .inr ⟨btw_step h1 q, h2, h3⟩
theorem lk_nodup (x y : Path) : (lk x y).Nodup := by
  refine way_ind (C := fun x y => (lk x y).Nodup) (fun x => by rw [lk_self]; exact List.nodup_nil) (fun x y ne ih => ?_) x y
  rw [lk_ne ne, List.nodup_cons]
  refine ⟨fun h => ?_, ih⟩
  have := (mem_lk.mp h).1
  exact nxt_ne ne ((btw_nxt ne).anti this).symm
theorem lk_nil {x y : Path} : lk x y = [] ↔ x = y := by
  constructor
  · intro h
    apply Classical.byContradiction
    intro ne
    rw [lk_ne ne] at h
    cases h
  · rintro rfl; exact lk_self x
theorem way_len (x y : Path) : (way x y).length ≤ (if x <+: y then y.length - x.length + 1 else x.length + y.length + 1) := by
  refine way_ind (C := fun x y => (way x y).length ≤ (if x <+: y then y.length - x.length + 1 else x.length + y.length + 1)) (fun x => ?_) (fun x y ne ih => ?_) x y
  · rw [way_self, if_pos List.prefix_rfl]; simp
  · rw [way_ne ne, List.length_cons]
    by_cases h : x <+: y
    · have hl := pre_len h ne
      rw [if_pos h]
      rw [nxt_down h] at ih ⊢
      rw [if_pos (take_pre y _), List.length_take] at ih
      omega
    · have hx := not_nil_of_npre h
      have hl : 0 < x.length := List.length_pos_iff.mpr hx
      rw [if_neg h]
      rw [nxt_up h] at ih ⊢
      rw [List.length_dropLast] at ih
      split at ih <;> omega
theorem lk_len (x y : Path) : (lk x y).length ≤ x.length + y.length := by
  have := way_len x y
  unfold lk
  rw [links_len]
  split at this <;> omega

/-- the last node up to which two ways are the same -/
def parting (l r : List Path) : Path := (((l.zip r).filter fun p => p.1 == p.2).map (·.1)).getLastD []
theorem filter_none_zip {l r : List Path} (h : ∀ u, u ∈ l → u ∉ r) : (l.zip r).filter (fun p => p.1 == p.2) = [] := by
  refine List.filter_eq_nil_iff.mpr fun p hp => ?_
  have h1 := List.of_mem_zip hp
  intro e
  have e' : p.1 = p.2 := by simpa using e
  exact h _ h1.1 (e' ▸ h1.2)
theorem parting_one (a : Path) (l r : List Path) (h : ∀ u, u ∈ l → u ∉ r) : parting (a :: l) (a :: r) = a := by
  unfold parting
  rw [List.zip_cons_cons, List.filter_cons_of_pos (by simp), filter_none_zip h]
  rfl
theorem parting_cons (a b : Path) (l r : List Path) : parting (a :: b :: l) (a :: b :: r) = parting (b :: l) (b :: r) := by
  unfold parting
  rw [List.zip_cons_cons, List.filter_cons_of_pos (by simp), List.map_cons]
  have : (((b :: l).zip (b :: r)).filter fun p => p.1 == p.2) ≠ [] := by
    rw [List.zip_cons_cons, List.filter_cons_of_pos (by simp)]
    exact List.cons_ne_nil _ _
  generalize h : (((b :: l).zip (b :: r)).filter fun p => p.1 == p.2) = m at this ⊢
  cases m with
  | nil => exact absurd rfl this
  | cons c m => rfl
theorem parting_way (p d f : Path) : ∃ z, parting (way p d) (way p f) = z ∧ Btw p z d ∧ Btw p z f ∧ Btw d z f := by
  refine way_ind (C := fun p d => ∃ z, parting (way p d) (way p f) = z ∧ Btw p z d ∧ Btw p z f ∧ Btw d z f) (fun p => ?_) (fun p d ne ih => ?_) p d
  · obtain ⟨t, q⟩ := way_head p f
    rw [way_self, q]
    exact ⟨p, parting_one p [] t (fun _ h => nomatch h), Btw.left _ _, Btw.left _ _, Btw.left _ _⟩
  · by_cases e : p = f
    · subst e
      rw [way_self, way_ne ne]
      exact ⟨p, parting_one p _ [] (fun _ _ h => nomatch h), Btw.left _ _, Btw.left _ _, Btw.right _ _⟩
    · by_cases en : nxt p d = nxt p f
      · obtain ⟨z, h1, h2, h3, h4⟩ := ih
        refine ⟨z, ?_, (btw_nxt ne).trans h2, ?_, h4⟩
        · rw [← h1, way_ne ne, way_ne e, ← en]
          obtain ⟨t, q⟩ := way_head (nxt p d) d
          obtain ⟨t', q'⟩ := way_head (nxt p d) f
          rw [q, q', parting_cons]
        · rw [en] at h3
          exact (btw_nxt e).trans h3
      · refine ⟨p, ?_, Btw.left _ _, Btw.left _ _, btw_iff_dir.mpr (.inr (.inr en))⟩
        rw [way_ne ne, way_ne e]
        refine parting_one p _ _ fun u hu hv => ?_
        have b1 := mem_way.mp hu
        have b2 := mem_way.mp hv
        have c1 := (btw_nxt ne).trans b1
        have c2 := (btw_nxt e).trans b2
        have up : p ≠ u := fun z => by
          subst z
          exact nxt_ne ne ((btw_nxt ne).anti b1).symm
        exact en ((nxt_btw c1 up).symm.trans (nxt_btw c2 up))
/-- the place of something on a list -/
theorem idx_suffix {α : Type} [BEq α] [LawfulBEq α] {l r m : List α} {a : α} (h : m = l ++ a :: r) (hn : m.Nodup) : m.drop (m.idxOf a) = a :: r := by
  subst h
  have hal : a ∉ l := fun q => (List.nodup_append.mp hn).2.2 a q a List.mem_cons_self rfl
  rw [List.idxOf_append, if_neg hal, List.idxOf_cons_self]
  simp
theorem way_drop {x y z : Path} (h : Btw x z y) : (way x y).drop ((way x y).idxOf z) = way z y := by
  obtain ⟨l, q⟩ := way_suffix h
  obtain ⟨t, q'⟩ := way_head z y
  rw [q'] at q ⊢
  exact idx_suffix q (way_nodup x y)

/-- what forbidden reckons: where the ways part, and how far the answer's way goes with the data's -/
def startOf (p d f : Path) : Path := parting (way p d) (way p f)
def lastOf (p c d f : Path) : Path :=
  let z := startOf p d f
  if z ∈ way f c then parting ((way p d).drop ((way p d).idxOf z)) ((way f c).drop ((way f c).idxOf z)) else z

/-- the facts of a law's four places -/
structure Places (p c d f : Path) (z y : Path) : Prop where
  pd : Btw p z d
  pf : Btw p z f
  df : Btw d z f
  zd : Btw z y d
  cd : Btw c y d
  fc : z = y ∨ (Btw f z c ∧ Btw z y c)
  off : y = d ∨ ¬ (y, nxt y d) ∈ lk f c
  offz : z = y ∨ ¬ (z, nxt z d) ∈ lk c d
theorem nodir {x f d z y : Path} (df : Btw d z f) (zd : Btw z y d) (ne : y ≠ d) : (y, nxt y d) ∉ lk x f := by
  intro h
  obtain ⟨_, nf, e⟩ := mem_lk.mp h
  simp only at nf e
  by_cases zy : z = y
  · subst zy
    rcases btw_iff_dir.mp df with q | q | q
    · exact ne q.symm
    · exact nf q.symm
    · exact q e
  · have h1 : nxt y z ≠ nxt y d := by
      rcases btw_iff_dir.mp zd with q | q | q
      · exact absurd q zy
      · exact absurd q.symm ne
      · exact q
    have h2 : Btw z y f := btw_iff_dir.mpr (.inr (.inr (by rw [← e]; exact h1)))
    have dz : z ≠ d := ne_of_btw zd zy
    have fz : z ≠ f := ne_of_btw h2 zy
    rcases btw_iff_dir.mp df with q | q | q
    · exact dz q.symm
    · exact fz q.symm
    · exact q ((nxt_btw zd zy).symm.trans (nxt_btw h2 zy))
theorem places (p c d f : Path) : Places p c d f (startOf p d f) (lastOf p c d f) := by
  obtain ⟨z, hz, pd, pf, df⟩ := parting_way p d f
  have ez : startOf p d f = z := hz
  unfold lastOf
  simp only [ez]
  by_cases hm : z ∈ way f c
  · have bz := mem_way.mp hm
    rw [if_pos hm, way_drop pd, way_drop bz]
    obtain ⟨y, hy, zd, zc, dc⟩ := parting_way z d c
    rw [hy]
    refine ⟨pd, pf, df, zd, dc.symm, .inr ⟨bz, zc⟩, ?_, ?_⟩
    · by_cases e : y = d
      · exact .inl e
      · refine .inr fun h => ?_
        obtain ⟨_, nf, e'⟩ := mem_lk.mp h
        simp only at nf e'
        rcases btw_iff_dir.mp dc with q | q | q
        · exact e q.symm
        · exact nf q.symm
        · exact q e'
    · by_cases e : z = y
      · exact .inl e
      · refine .inr fun h => ?_
        have b := (mem_lk.mp h).1
        simp only at b
        have dz : z ≠ d := ne_of_btw zd e
        have cz : z ≠ c := ne_of_btw zc e
        rcases btw_iff_dir.mp b with q | q | q
        · exact cz q.symm
        · exact dz q.symm
        · exact q ((nxt_btw zc e).symm.trans (nxt_btw zd e))
  · rw [if_neg hm]
    have nb : ¬ Btw f z c := fun b => hm (mem_way.mpr b)
    refine ⟨pd, pf, df, Btw.left _ _, ?_, .inl rfl, ?_, .inl rfl⟩
    · have n1 : ¬ (f = z ∨ c = z ∨ nxt z f ≠ nxt z c) := fun q => nb (btw_iff_dir.mpr q)
      have e : nxt z f = nxt z c := Classical.byContradiction fun q => n1 (.inr (.inr q))
      refine btw_iff_dir.mpr ?_
      rcases btw_iff_dir.mp df with q | q | q
      · exact .inr (.inl q)
      · exact absurd (.inl q) n1
      · exact .inr (.inr (by rw [← e]; exact Ne.symm q))
    · exact .inr fun h => nb (mem_lk.mp h).1

/-! what the transition system asks of the routes -/
theorem lk_rev_nil (x y : Path) : lk x y = [] ↔ lk y x = [] := by rw [lk_nil, lk_nil]; exact eq_comm
/-- the routes' parts: data = a ++ b ++ c, flag = a ++ .., told = .. ++ b ++ .., get = .. ++ c -/
theorem parts (p c d f : Path) : ∃ a b e f' t1 t2 g1, lk p d = a ++ b ++ e ∧ lk p f = a ++ f' ∧ (b = [] ∨ lk f c = t1 ++ b ++ t2) ∧ lk c d = g1 ++ e ∧
    (b = [] ↔ lastOf p c d f = startOf p d f) ∧ (e = [] ↔ lastOf p c d f = d) ∧
    (∀ h, b.head? = some h → h ∉ lk p f ∧ h ∉ lk c f ∧ h ∉ lk c d) ∧ (∀ h, e.head? = some h → h ∉ lk p f ∧ h ∉ lk c f ∧ h ∉ lk f c) := by
  have P := places p c d f
  generalize startOf p d f = z at P
  generalize lastOf p c d f = y at P
  refine ⟨lk p z, lk z y, lk y d, lk z f, lk f z, lk y c, lk c y, ?_, lk_split P.pf, ?_, lk_split P.cd, ?_, lk_nil, fun h hh => ?_, fun h hh => ?_⟩
  · rw [lk_split P.pd, lk_split P.zd, List.append_assoc]
  · rcases P.fc with q | ⟨q1, q2⟩
    · exact .inl (lk_nil.mpr q)
    · exact .inr (by rw [lk_split q1, lk_split q2, List.append_assoc])
  · rw [lk_nil]; exact eq_comm
  · have ne : z ≠ y := fun e => by rw [lk_nil.mpr e] at hh; cases hh
    rw [lk_ne ne] at hh
    cases hh
    have zd : z ≠ d := ne_of_btw P.zd ne
    rw [nxt_btw P.zd ne]
    exact ⟨nodir P.df (Btw.left z d) zd, nodir P.df (Btw.left z d) zd, P.offz.resolve_left ne⟩
  · have ne : y ≠ d := fun e => by rw [lk_nil.mpr e] at hh; cases hh
    rw [lk_ne ne] at hh
    cases hh
    exact ⟨nodir P.df P.zd ne, nodir P.df P.zd ne, P.off.resolve_left ne⟩
end K74
/-! K74, part 2: the five messages -/
namespace K74
inductive W where
  | data | flag | ask | told | get
  deriving DecidableEq
inductive Kd where
  | answer | read | write
  deriving DecidableEq
def kd : W → Kd
  | .data => .write
  | .flag => .write
  | .told => .answer
  | .ask => .read
  | .get => .read
structure S where
  q : List (List W)
  made : Nat
  stage : Nat
  isd : Bool
  isf : Bool
  deriving DecidableEq
abbrev Rt := W → List Nat
abbrev Al := List (Kd × Kd)

def entered (q : List (List W)) (i : Nat) (w : W) : List (List W) := q.take i ++ (q.getD i [] ++ [w]) :: q.drop (i + 1)
def arrived (rt : Rt) (s : S) : W → List (Option S)
  | .data => [some { s with isd := true }]
  | .flag => [some { s with isf := true }]
  | .ask => if s.isf then [some { s with q := entered s.q ((rt .told).headD 0) .told }] else []
  | .told => [some { s with stage := 2 }]
  | .get => if s.isd then [] else [none]
def started (rt : Rt) (s : S) (w : W) : List (Option S) :=
  if rt w ≠ [] then [some { s with q := entered s.q ((rt w).headD 0) w }]
  else if w = .ask then (if s.isf then [some { s with stage := 2 }] else [])
  else arrived rt s w
def isFree (al : Al) (line : List W) (k : Nat) : Bool := ((line.take k).filter fun o => decide ((kd (line.getD k .data), kd o) ∉ al)) = []
def goneOn (rt : Rt) (s : S) (i : Nat) (w : W) : List (Option S) :=
  if (rt w).getLastD 0 = i then arrived rt s w
  else [some { s with q := entered s.q ((rt w).getD ((rt w).idxOf i + 1) 0) w }]
def cut (q : List (List W)) (i k : Nat) : List (List W) := q.take i ++ ((q.getD i []).take k ++ (q.getD i []).drop (k + 1)) :: q.drop (i + 1)
def moveAt (rt : Rt) (al : Al) (s : S) (i k : Nat) : List (Option S) :=
  if isFree al (s.q.getD i []) k = true then goneOn rt { s with q := cut s.q i k } i ((s.q.getD i []).getD k .data) else []
def moves (rt : Rt) (al : Al) (s : S) : List (Option S) :=
  (List.range s.q.length).flatMap fun i => (List.range (s.q.getD i []).length).flatMap fun k => moveAt rt al s i k
def behind (rt : Rt) (al : Al) (s : S) : List (Option S) :=
  moves rt al s ++ (if s.made < 2 then started rt { s with made := s.made + 1 } (if s.made = 0 then .data else .flag) else [])
    ++ (if s.stage = 0 then started rt { s with stage := 1 } .ask else []) ++ (if s.stage = 2 then started rt { s with stage := 3 } .get else [])
def start (many : Nat) : S := ⟨List.replicate many [], 0, 0, false, false⟩
inductive Reach (rt : Rt) (al : Al) (many : Nat) : S → Prop where
  | start : Reach rt al many (start many)
  | step {s s' : S} : Reach rt al many s → some s' ∈ behind rt al s → Reach rt al many s'
def Miss (rt : Rt) (al : Al) (many : Nat) : Prop := ∃ s, Reach rt al many s ∧ none ∈ behind rt al s

/-! ### the messages in the order in which they came -/
structure A where
  fl : List (W × Nat)
  made : Nat
  stage : Nat
  isd : Bool
  isf : Bool
def lineOf (fl : List (W × Nat)) (i : Nat) : List W := (fl.filter fun p => p.2 == i).map (·.1)
def queues (many : Nat) (fl : List (W × Nat)) : List (List W) := (List.range many).map (lineOf fl)
def conc (many : Nat) (a : A) : S := ⟨queues many a.fl, a.made, a.stage, a.isd, a.isf⟩

theorem lineOf_append (l r : List (W × Nat)) (i : Nat) : lineOf (l ++ r) i = lineOf l i ++ lineOf r i := by
  unfold lineOf; rw [List.filter_append, List.map_append]
theorem lineOf_same (w : W) (i : Nat) : lineOf [(w, i)] i = [w] := by simp [lineOf]
theorem lineOf_other (w : W) {i j : Nat} (h : i ≠ j) : lineOf [(w, i)] j = [] := by simp [lineOf, h]
theorem queues_len (many : Nat) (fl : List (W × Nat)) : (queues many fl).length = many := by simp [queues]
theorem queues_get {many : Nat} {fl : List (W × Nat)} {i : Nat} (h : i < many) : (queues many fl).getD i [] = lineOf fl i := by
  unfold queues
  rw [List.getD_eq_getElem?_getD, List.getElem?_map, List.getElem?_range h]; rfl
theorem put_eq_set {α : Type} (q : List α) (i : Nat) (x : α) (h : i < q.length) : q.take i ++ x :: q.drop (i + 1) = q.set i x := by
  rw [List.set_eq_take_append_cons_drop, if_pos h]
theorem queues_set {many : Nat} {fl fl' : List (W × Nat)} {i : Nat} {x : List W} (h : i < many) (hx : x = lineOf fl' i) (ho : ∀ j, j ≠ i → lineOf fl j = lineOf fl' j) : (queues many fl).set i x = queues many fl' := by
  apply List.ext_getElem?
  intro j
  by_cases e : j = i
  · subst e
    rw [List.getElem?_set_self (by rw [queues_len]; exact h)]
    unfold queues
    rw [List.getElem?_map, List.getElem?_range h, hx]; rfl
  · rw [List.getElem?_set_ne (Ne.symm e)]
    unfold queues
    rw [List.getElem?_map, List.getElem?_map]
    by_cases hj : j < many
    · rw [List.getElem?_range hj]
      simp only [Option.map_some]
      rw [ho j e]
    · rw [List.getElem?_eq_none (by simpa using hj)]; rfl
theorem entered_queues {many : Nat} {fl : List (W × Nat)} {i : Nat} {w : W} (h : i < many) : entered (queues many fl) i w = queues many (fl ++ [(w, i)]) := by
  unfold entered
  rw [put_eq_set _ _ _ (by rw [queues_len]; exact h), queues_get h]
  refine queues_set h ?_ fun j hj => ?_
  · rw [lineOf_append, lineOf_same]
  · rw [lineOf_append, lineOf_other w (Ne.symm hj), List.append_nil]
theorem lineOf_mid (l1 : List (W × Nat)) (w : W) (i : Nat) (l2 : List (W × Nat)) : lineOf (l1 ++ (w, i) :: l2) i = lineOf l1 i ++ w :: lineOf l2 i := by
  rw [lineOf_append]
  show lineOf l1 i ++ lineOf ([(w, i)] ++ l2) i = _
  rw [lineOf_append, lineOf_same]; rfl
theorem lineOf_mid_ne (l1 : List (W × Nat)) (w : W) {i j : Nat} (l2 : List (W × Nat)) (h : i ≠ j) : lineOf (l1 ++ (w, i) :: l2) j = lineOf (l1 ++ l2) j := by
  rw [lineOf_append, lineOf_append]
  show lineOf l1 j ++ lineOf ([(w, i)] ++ l2) j = _
  rw [lineOf_append, lineOf_other w h]; rfl
theorem cut_queues {many : Nat} {l1 l2 : List (W × Nat)} {i : Nat} {w : W} (h : i < many) : cut (queues many (l1 ++ (w, i) :: l2)) i (lineOf l1 i).length = queues many (l1 ++ l2) := by
  unfold cut
  rw [put_eq_set _ _ _ (by rw [queues_len]; exact h), queues_get h, lineOf_mid]
  refine queues_set h ?_ fun j hj => lineOf_mid_ne l1 w l2 (Ne.symm hj)
  rw [lineOf_append]
  simp
theorem line_at {fl : List (W × Nat)} {i k : Nat} (h : k < (lineOf fl i).length) : ∃ l1 w l2, fl = l1 ++ (w, i) :: l2 ∧ (lineOf l1 i).length = k := by
  induction fl generalizing k with
  | nil => simp [lineOf] at h
  | cons p fl ih =>
    obtain ⟨w, j⟩ := p
    by_cases e : j = i
    · subst e
      have e1 : lineOf ((w, j) :: fl) j = w :: lineOf fl j := lineOf_mid [] w j fl
      rw [e1, List.length_cons] at h
      cases k with
      | zero => exact ⟨[], w, fl, rfl, by simp [lineOf]⟩
      | succ k =>
        obtain ⟨l1, w', l2, q1, q2⟩ := ih (k := k) (by omega)
        refine ⟨(w, j) :: l1, w', l2, by rw [q1]; rfl, ?_⟩
        rw [show lineOf ((w, j) :: l1) j = w :: lineOf l1 j from lineOf_mid [] w j l1, List.length_cons, q2]
    · have e1 : lineOf ((w, j) :: fl) i = lineOf fl i := lineOf_mid_ne [] w fl e
      rw [e1] at h
      obtain ⟨l1, w', l2, q1, q2⟩ := ih h
      refine ⟨(w, j) :: l1, w', l2, by rw [q1]; rfl, ?_⟩
      rw [show lineOf ((w, j) :: l1) i = lineOf ([] ++ l1) i from lineOf_mid_ne [] w l1 e]
      exact q2

def push (a : A) (w : W) (i : Nat) : A := { a with fl := a.fl ++ [(w, i)] }
def arrivedA (rt : Rt) (a : A) : W → List (Option A)
  | .data => [some { a with isd := true }]
  | .flag => [some { a with isf := true }]
  | .ask => if a.isf then [some (push a .told ((rt .told).headD 0))] else []
  | .told => [some { a with stage := 2 }]
  | .get => if a.isd then [] else [none]
def startedA (rt : Rt) (a : A) (w : W) : List (Option A) :=
  if rt w ≠ [] then [some (push a w ((rt w).headD 0))]
  else if w = .ask then (if a.isf then [some { a with stage := 2 }] else [])
  else arrivedA rt a w
def goneOnA (rt : Rt) (a : A) (i : Nat) (w : W) : List (Option A) :=
  if (rt w).getLastD 0 = i then arrivedA rt a w else [some (push a w ((rt w).getD ((rt w).idxOf i + 1) 0))]
inductive Step (rt : Rt) (al : Al) (a : A) (r : Option A) : Prop where
  | move (l1 : List (W × Nat)) (w : W) (i : Nat) (l2 : List (W × Nat)) (e : a.fl = l1 ++ (w, i) :: l2) (free : ∀ o, (o, i) ∈ l1 → (kd w, kd o) ∈ al) (h : r ∈ goneOnA rt { a with fl := l1 ++ l2 } i w) : Step rt al a r
  | made (h : a.made < 2) (h : r ∈ startedA rt { a with made := a.made + 1 } (if a.made = 0 then .data else .flag)) : Step rt al a r
  | ask (h : a.stage = 0) (h : r ∈ startedA rt { a with stage := 1 } .ask) : Step rt al a r
  | get (h : a.stage = 2) (h : r ∈ startedA rt { a with stage := 3 } .get) : Step rt al a r

structure RtOk (rt : Rt) (many : Nat) : Prop where
  nd : ∀ w, (rt w).Nodup
  lt : ∀ w i, i ∈ rt w → i < many
  at' : rt .ask = [] ↔ rt .told = []
section
variable {rt : Rt} {al : Al} {many : Nat}
theorem head_mem {l : List Nat} (h : l ≠ []) : l.headD 0 ∈ l := by cases l with | nil => exact absurd rfl h | cons a l => exact List.mem_cons_self
theorem arrived_conc (R : RtOk rt many) (a : A) (w : W) (hw : w = .ask → rt .told ≠ []) : arrived rt (conc many a) w = (arrivedA rt a w).map (Option.map (conc many)) := by
  cases w with
  | data => rfl
  | flag => rfl
  | ask =>
    show (if a.isf = true then _ else _) = List.map _ (if a.isf = true then _ else _)
    split
    · show [some _] = [some _]
      unfold push conc
      rw [entered_queues (R.lt _ _ (head_mem (hw rfl)))]
    · rfl
  | told => rfl
  | get =>
    show (if a.isd = true then _ else _) = List.map _ (if a.isd = true then _ else _)
    split <;> rfl
theorem started_conc (R : RtOk rt many) (a : A) (w : W) : started rt (conc many a) w = (startedA rt a w).map (Option.map (conc many)) := by
  unfold started startedA
  by_cases h : rt w ≠ []
  · rw [if_pos h, if_pos h]
    show [some _] = [some _]
    unfold push conc
    rw [entered_queues (R.lt _ _ (head_mem h))]
  · rw [if_neg h, if_neg h]
    by_cases e : w = .ask
    · rw [if_pos e, if_pos e]
      show (if a.isf = true then _ else _) = List.map _ (if a.isf = true then _ else _)
      split <;> rfl
    · rw [if_neg e, if_neg e]
      exact arrived_conc R a w fun q => absurd q e
theorem last_ne {l : List Nat} {i : Nat} (hm : i ∈ l) (h : l.getLastD 0 ≠ i) : l.idxOf i + 1 < l.length := by
  have h1 := List.idxOf_lt_length_of_mem hm
  rcases Nat.lt_or_ge (l.idxOf i + 1) l.length with q | q
  · exact q
  · exfalso
    apply h
    have e : l.idxOf i = l.length - 1 := by omega
    rw [List.getLastD_eq_getLast?, List.getLast?_eq_getElem?, ← e, List.getElem?_eq_getElem h1]
    simp
theorem next_mem {l : List Nat} {i : Nat} (hm : i ∈ l) (h : l.getLastD 0 ≠ i) : l.getD (l.idxOf i + 1) 0 ∈ l := by
  have := last_ne hm h
  rw [List.getD_eq_getElem?_getD, List.getElem?_eq_getElem this]
  exact List.getElem_mem this
theorem goneOn_conc (R : RtOk rt many) (a : A) (i : Nat) (w : W) (hi : i ∈ rt w) : goneOn rt (conc many a) i w = (goneOnA rt a i w).map (Option.map (conc many)) := by
  unfold goneOn goneOnA
  by_cases h : (rt w).getLastD 0 = i
  · rw [if_pos h, if_pos h]
    refine arrived_conc R a w fun e => ?_
    subst e
    intro q
    rw [R.at'.mpr q] at hi
    exact nomatch hi
  · rw [if_neg h, if_neg h]
    show [some _] = [some _]
    unfold push conc
    rw [entered_queues (R.lt _ _ (next_mem hi h))]
theorem free_iff (l1 : List (W × Nat)) (w : W) (i : Nat) (l2 : List (W × Nat)) : isFree al (lineOf (l1 ++ (w, i) :: l2) i) (lineOf l1 i).length = true ↔ ∀ o, (o, i) ∈ l1 → (kd w, kd o) ∈ al := by
  unfold isFree
  rw [decide_eq_true_iff, lineOf_mid, List.filter_eq_nil_iff]
  have e1 : (lineOf l1 i ++ w :: lineOf l2 i).take (lineOf l1 i).length = lineOf l1 i := by simp
  have e2 : (lineOf l1 i ++ w :: lineOf l2 i).getD (lineOf l1 i).length .data = w := by simp
  rw [e1, e2]
  constructor
  · intro h o ho
    have := h o (by unfold lineOf; exact List.mem_map.mpr ⟨(o, i), List.mem_filter.mpr ⟨ho, by simp⟩, rfl⟩)
    simpa using this
  · intro h o ho
    unfold lineOf at ho
    obtain ⟨p, hp, rfl⟩ := List.mem_map.mp ho
    obtain ⟨h1, h2⟩ := List.mem_filter.mp hp
    obtain ⟨o, j⟩ := p
    have e : j = i := by simpa using h2
    subst e
    simpa using h o h1
theorem behind_conc (R : RtOk rt many) (a : A) (hen : ∀ p ∈ a.fl, p.2 ∈ rt p.1) (r' : Option S) : r' ∈ behind rt al (conc many a) ↔ ∃ r, Step rt al a r ∧ r' = r.map (conc many) := by
  have hl : (conc many a).q.length = many := queues_len _ _
  unfold behind
  rw [List.mem_append, List.mem_append, List.mem_append]
  have hm : r' ∈ moves rt al (conc many a) ↔ ∃ (l1 : List (W × Nat)) (w : W) (i : Nat) (l2 : List (W × Nat)), a.fl = l1 ++ (w, i) :: l2 ∧ (∀ o, (o, i) ∈ l1 → (kd w, kd o) ∈ al) ∧ ∃ r ∈ goneOnA rt { a with fl := l1 ++ l2 } i w, r' = r.map (conc many) := by
    unfold moves
    simp only [List.mem_flatMap, List.mem_range, hl]
    constructor
    · rintro ⟨i, hi, k, hk, h⟩
      have eq : (conc many a).q.getD i [] = lineOf a.fl i := queues_get hi
      rw [eq] at hk
      obtain ⟨l1, w, l2, e, hk'⟩ := line_at hk
      unfold moveAt at h
      rw [eq, e, ← hk'] at h
      split at h
      · rename_i hf
        have hf := (free_iff l1 w i l2).mp hf
        refine ⟨l1, w, i, l2, e, hf, ?_⟩
        have e2 : (lineOf (l1 ++ (w, i) :: l2) i).getD (lineOf l1 i).length .data = w := by rw [lineOf_mid]; simp
        have e3 : ({ conc many a with q := cut (conc many a).q i (lineOf l1 i).length } : S) = conc many { a with fl := l1 ++ l2 } := by
          unfold conc
          simp only
          rw [e, cut_queues hi]
        rw [e2, e3, goneOn_conc R _ i w (hen (w, i) (by rw [e]; simp))] at h
        obtain ⟨r, hr, rfl⟩ := List.mem_map.mp h
        exact ⟨r, hr, rfl⟩
      · exact nomatch h
    · rintro ⟨l1, w, i, l2, e, hf, r, hr, rfl⟩
      have hin : i ∈ rt w := hen (w, i) (by rw [e]; simp)
      have hi : i < many := R.lt _ _ hin
      have eq : (conc many a).q.getD i [] = lineOf a.fl i := queues_get hi
      refine ⟨i, hi, (lineOf l1 i).length, ?_, ?_⟩
      · rw [eq, e, lineOf_mid, List.length_append, List.length_cons]; omega
      · unfold moveAt
        rw [eq, e, if_pos ((free_iff l1 w i l2).mpr hf)]
        have e2 : (lineOf (l1 ++ (w, i) :: l2) i).getD (lineOf l1 i).length .data = w := by rw [lineOf_mid]; simp
        have e3 : ({ conc many a with q := cut (conc many a).q i (lineOf l1 i).length } : S) = conc many { a with fl := l1 ++ l2 } := by
          unfold conc
          simp only
          rw [e, cut_queues hi]
        rw [e2, e3, goneOn_conc R _ i w hin]
        exact List.mem_map.mpr ⟨r, hr, rfl⟩
  have st : ∀ (c : Prop) [Decidable c] (b : A) (w : W), r' ∈ (if c then started rt (conc many b) w else []) ↔ c ∧ ∃ r ∈ startedA rt b w, r' = r.map (conc many) := by
    intro c _ b w
    split
    · rename_i hc
      rw [started_conc R, List.mem_map]
      exact ⟨fun ⟨r, h1, h2⟩ => ⟨hc, r, h1, h2.symm⟩, fun ⟨_, r, h1, h2⟩ => ⟨r, h1, h2.symm⟩⟩
    · rename_i hc
      exact ⟨(fun h => nomatch h), fun h => absurd h.1 hc⟩
  have s1 := st (a.made < 2) { a with made := a.made + 1 } (if a.made = 0 then .data else .flag)
  have s2 := st (a.stage = 0) { a with stage := 1 } .ask
  have s3 := st (a.stage = 2) { a with stage := 3 } .get
  have h1 : r' ∈ (if (conc many a).made < 2 then started rt { conc many a with made := (conc many a).made + 1 } (if (conc many a).made = 0 then .data else .flag) else []) ↔ _ := s1
  have h2 : r' ∈ (if (conc many a).stage = 0 then started rt { conc many a with stage := 1 } .ask else []) ↔ _ := s2
  have h3 : r' ∈ (if (conc many a).stage = 2 then started rt { conc many a with stage := 3 } .get else []) ↔ _ := s3
  rw [hm, h1, h2, h3]
  constructor
  · rintro (((⟨l1, w, i, l2, e, hf, r, hr, q⟩ | ⟨c, r, hr, q⟩) | ⟨c, r, hr, q⟩) | ⟨c, r, hr, q⟩)
    · exact ⟨r, .move l1 w i l2 e hf hr, q⟩
    · exact ⟨r, .made c hr, q⟩
    · exact ⟨r, .ask c hr, q⟩
    · exact ⟨r, .get c hr, q⟩
  · rintro ⟨r, h, q⟩
    cases h with
    | move l1 w i l2 e hf hr => exact .inl (.inl (.inl ⟨l1, w, i, l2, e, hf, r, hr, q⟩))
    | made c hr => exact .inl (.inl (.inr ⟨c, r, hr, q⟩))
    | ask c hr => exact .inl (.inr ⟨c, r, hr, q⟩)
    | get c hr => exact .inr ⟨c, r, hr, q⟩
end
end K74
/-! K74, part 3: what holds of every state; when a miss can not be reached -/
namespace K74
def cls : W → Nat
  | .data => 0
  | .flag => 1
  | _ => 2
/-- what holds of every state -/
structure Wf (rt : Rt) (a : A) : Prop where
  nd : (a.fl.map fun p => cls p.1).Nodup
  ent : ∀ p ∈ a.fl, p.2 ∈ rt p.1
  m2 : a.made ≤ 2
  s3 : a.stage ≤ 3
  dm : ∀ i, (W.data, i) ∈ a.fl → 1 ≤ a.made ∧ a.isd = false
  id : a.isd = true → 1 ≤ a.made
  fm : ∀ i, (W.flag, i) ∈ a.fl → a.made = 2 ∧ a.isf = false
  if' : a.isf = true → a.made = 2
  ak : ∀ i, (W.ask, i) ∈ a.fl → a.stage = 1
  tl : ∀ i, (W.told, i) ∈ a.fl → a.stage = 1 ∧ a.isf = true
  gt : ∀ i, (W.get, i) ∈ a.fl → a.stage = 3
  sf : 2 ≤ a.stage → a.isf = true
  pr : 1 ≤ a.made → a.isd = false → ∃ i, (W.data, i) ∈ a.fl
  pf : a.made = 2 → a.isf = false → ∃ i, (W.flag, i) ∈ a.fl

theorem uniq {fl : List (W × Nat)} (nd : (fl.map fun p => cls p.1).Nodup) {p q : W × Nat} (hp : p ∈ fl) (hq : q ∈ fl) (h : cls p.1 = cls q.1) : p = q := by
  induction fl with
  | nil => exact nomatch hp
  | cons r fl ih =>
    rw [List.map_cons, List.nodup_cons] at nd
    rcases List.mem_cons.mp hp with rfl | hp'
    · rcases List.mem_cons.mp hq with rfl | hq'
      · rfl
      · exact absurd (List.mem_map.mpr ⟨q, hq', h.symm⟩) nd.1
    · rcases List.mem_cons.mp hq with rfl | hq'
      · exact absurd (List.mem_map.mpr ⟨p, hp', h⟩) nd.1
      · exact ih nd.2 hp' hq'
theorem nd_mid {l1 l2 : List (W × Nat)} {e : W × Nat} (nd : ((l1 ++ e :: l2).map fun p => cls p.1).Nodup) : ((l1 ++ l2).map fun p => cls p.1).Nodup ∧ ∀ p ∈ l1 ++ l2, cls p.1 ≠ cls e.1 := by
  rw [List.map_append, List.map_cons, List.nodup_append] at nd
  obtain ⟨h1, h2, h3⟩ := nd
  rw [List.nodup_cons] at h2
  refine ⟨by rw [List.map_append, List.nodup_append]; exact ⟨h1, h2.2, fun a ha b hb => h3 a ha b (List.mem_cons_of_mem _ hb)⟩, fun p hp q => ?_⟩
  rcases List.mem_append.mp hp with r | r
  · exact h3 _ (List.mem_map.mpr ⟨p, r, rfl⟩) _ List.mem_cons_self q
  · exact h2.1 (List.mem_map.mpr ⟨p, r, q⟩)
theorem nd_push {fl : List (W × Nat)} {e : W × Nat} (nd : (fl.map fun p => cls p.1).Nodup) (h : ∀ p ∈ fl, cls p.1 ≠ cls e.1) : ((fl ++ [e]).map fun p => cls p.1).Nodup := by
  rw [List.map_append, List.nodup_append]
  refine ⟨nd, by simp, fun a ha b hb => ?_⟩
  obtain ⟨p, hp, rfl⟩ := List.mem_map.mp ha
  have : b = cls e.1 := by simpa using hb
  rw [this]
  exact h p hp

section
variable {rt : Rt} {al : Al} {a a' : A}
theorem mid_mem {l1 l2 : List (W × Nat)} {e p : W × Nat} (h : p ∈ l1 ++ l2) : p ∈ l1 ++ e :: l2 := by
  rcases List.mem_append.mp h with h | h
  · exact List.mem_append_left _ h
  · exact List.mem_append_right _ (List.mem_cons_of_mem _ h)
theorem mem_mid {l1 l2 : List (W × Nat)} {e p : W × Nat} (h : p ∈ l1 ++ e :: l2) : p = e ∨ p ∈ l1 ++ l2 := by
  rcases List.mem_append.mp h with h | h
  · exact .inr (List.mem_append_left _ h)
  · rcases List.mem_cons.mp h with h | h
    · exact .inl h
    · exact .inr (List.mem_append_right _ h)
theorem mem_push {l : List (W × Nat)} {e p : W × Nat} : p ∈ l ++ [e] ↔ p ∈ l ∨ p = e := by simp

/-- the four kinds of deeds, one by one -/
inductive Deed (rt : Rt) (al : Al) (a : A) : Option A → Prop where
  | on (l1 : List (W × Nat)) (w : W) (i : Nat) (l2 : List (W × Nat)) (e : a.fl = l1 ++ (w, i) :: l2) (free : ∀ o, (o, i) ∈ l1 → (kd w, kd o) ∈ al) (nl : (rt w).getLastD 0 ≠ i) :
      Deed rt al a (some { a with fl := l1 ++ l2 ++ [(w, (rt w).getD ((rt w).idxOf i + 1) 0)] })
  | dataIn (l1 : List (W × Nat)) (i : Nat) (l2 : List (W × Nat)) (e : a.fl = l1 ++ (.data, i) :: l2) (free : ∀ o, (o, i) ∈ l1 → (kd .data, kd o) ∈ al) (nl : (rt .data).getLastD 0 = i) : Deed rt al a (some { a with fl := l1 ++ l2, isd := true })
  | flagIn (l1 : List (W × Nat)) (i : Nat) (l2 : List (W × Nat)) (e : a.fl = l1 ++ (.flag, i) :: l2) (free : ∀ o, (o, i) ∈ l1 → (kd .flag, kd o) ∈ al) (nl : (rt .flag).getLastD 0 = i) : Deed rt al a (some { a with fl := l1 ++ l2, isf := true })
  | askIn (l1 : List (W × Nat)) (i : Nat) (l2 : List (W × Nat)) (e : a.fl = l1 ++ (.ask, i) :: l2) (hf : a.isf = true) : Deed rt al a (some { a with fl := l1 ++ l2 ++ [(.told, (rt .told).headD 0)] })
  | toldIn (l1 : List (W × Nat)) (i : Nat) (l2 : List (W × Nat)) (e : a.fl = l1 ++ (.told, i) :: l2) (free : ∀ o, (o, i) ∈ l1 → (kd .told, kd o) ∈ al) (nl : (rt .told).getLastD 0 = i) : Deed rt al a (some { a with fl := l1 ++ l2, stage := 2 })
  | getIn (l1 : List (W × Nat)) (i : Nat) (l2 : List (W × Nat)) (e : a.fl = l1 ++ (.get, i) :: l2) (free : ∀ o, (o, i) ∈ l1 → (kd .get, kd o) ∈ al) (nl : (rt .get).getLastD 0 = i) (nd : a.isd = false) : Deed rt al a none
  | data (h : a.made = 0) (hr : rt .data ≠ []) : Deed rt al a (some { a with made := 1, fl := a.fl ++ [(.data, (rt .data).headD 0)] })
  | data0 (h : a.made = 0) (hr : rt .data = []) : Deed rt al a (some { a with made := 1, isd := true })
  | flag (h : a.made = 1) (hr : rt .flag ≠ []) : Deed rt al a (some { a with made := 2, fl := a.fl ++ [(.flag, (rt .flag).headD 0)] })
  | flag0 (h : a.made = 1) (hr : rt .flag = []) : Deed rt al a (some { a with made := 2, isf := true })
  | ask (h : a.stage = 0) (hr : rt .ask ≠ []) : Deed rt al a (some { a with stage := 1, fl := a.fl ++ [(.ask, (rt .ask).headD 0)] })
  | ask0 (h : a.stage = 0) (hr : rt .ask = []) (hf : a.isf = true) : Deed rt al a (some { a with stage := 2 })
  | get (h : a.stage = 2) (hr : rt .get ≠ []) : Deed rt al a (some { a with stage := 3, fl := a.fl ++ [(.get, (rt .get).headD 0)] })
  | get0 (h : a.stage = 2) (hr : rt .get = []) (nd : a.isd = false) : Deed rt al a none
theorem deed_of {r : Option A} (h : Step rt al a r) : Deed rt al a r := by
  cases h with
  | move l1 w i l2 e free h =>
    unfold goneOnA at h
    by_cases hl : (rt w).getLastD 0 = i
    · rw [if_pos hl] at h
      cases w with
      | data =>
        have h := List.mem_singleton.mp h
        subst h
        exact .dataIn l1 i l2 e free hl
      | flag =>
        have h := List.mem_singleton.mp h
        subst h
        exact .flagIn l1 i l2 e free hl
      | ask =>
        have h : r ∈ (if a.isf = true then [some (push { a with fl := l1 ++ l2 } .told ((rt .told).headD 0))] else []) := h
        split at h
        · rename_i hf
          have h := List.mem_singleton.mp h
          subst h
          exact .askIn l1 i l2 e hf
        · exact nomatch h
      | told =>
        have h := List.mem_singleton.mp h
        subst h
        exact .toldIn l1 i l2 e free hl
      | get =>
        have h : r ∈ (if a.isd = true then [] else [none]) := h
        split at h
        · exact nomatch h
        · rename_i hd
          have h := List.mem_singleton.mp h
          subst h
          exact .getIn l1 i l2 e free hl (by simpa using hd)
    · rw [if_neg hl] at h
      have h := List.mem_singleton.mp h
      subst h
      exact .on l1 w i l2 e free hl
  | made hm h =>
    by_cases h0 : a.made = 0
    · rw [if_pos h0] at h
      unfold startedA at h
      by_cases hr : rt .data ≠ []
      · rw [if_pos hr] at h
        have h := List.mem_singleton.mp h
        subst h
        have := Deed.data (al := al) h0 hr
        simpa [push, h0] using this
      · rw [if_neg hr, if_neg (by decide)] at h
        have h := List.mem_singleton.mp h
        subst h
        have := Deed.data0 (al := al) h0 (by simpa using hr)
        simpa [h0] using this
    · rw [if_neg h0] at h
      have h1 : a.made = 1 := by omega
      unfold startedA at h
      by_cases hr : rt .flag ≠ []
      · rw [if_pos hr] at h
        have h := List.mem_singleton.mp h
        subst h
        have := Deed.flag (al := al) h1 hr
        simpa [push, h1] using this
      · rw [if_neg hr, if_neg (by decide)] at h
        have h := List.mem_singleton.mp h
        subst h
        have := Deed.flag0 (al := al) h1 (by simpa using hr)
        simpa [h1] using this
  | ask h0 h =>
    unfold startedA at h
    by_cases hr : rt .ask ≠ []
    · rw [if_pos hr] at h
      have h := List.mem_singleton.mp h
      subst h
      exact .ask h0 hr
    · rw [if_neg hr, if_pos rfl] at h
      split at h
      · rename_i hf
        have h := List.mem_singleton.mp h
        subst h
        exact .ask0 h0 (by simpa using hr) hf
      · exact nomatch h
  | get h0 h =>
    unfold startedA at h
    by_cases hr : rt .get ≠ []
    · rw [if_pos hr] at h
      have h := List.mem_singleton.mp h
      subst h
      exact .get h0 hr
    · rw [if_neg hr, if_neg (by decide)] at h
      have h : r ∈ (if a.isd = true then [] else [none]) := h
      split at h
      · exact nomatch h
      · rename_i hd
        have h := List.mem_singleton.mp h
        subst h
        exact .get0 h0 (by simpa using hr) (by simpa using hd)

theorem Wf.start : Wf rt ⟨[], 0, 0, false, false⟩ := by
  constructor <;> simp
theorem Wf.rest (W' : Wf rt a) {l1 l2 : List (W × Nat)} {w : W} {i : Nat} (e : a.fl = l1 ++ (w, i) :: l2) :
    ((l1 ++ l2).map fun p => cls p.1).Nodup ∧ (∀ p ∈ l1 ++ l2, cls p.1 ≠ cls w ∧ p ∈ a.fl) ∧ (w, i) ∈ a.fl := by
  have nd := W'.nd
  rw [e] at nd
  obtain ⟨h1, h2⟩ := nd_mid nd
  exact ⟨h1, fun p hp => ⟨h2 p hp, by rw [e]; exact mid_mem hp⟩, by rw [e]; simp⟩
theorem Wf.step (W' : Wf rt a) (ha : rt .ask = [] ↔ rt .told = []) (h : Deed rt al a (some a')) : Wf rt a' := by
  cases h with
  | on l1 w i l2 e free nl =>
    obtain ⟨n1, n2, n3⟩ := W'.rest e
    have hin := W'.ent _ n3
    have key : ∀ v j, (v, j) ∈ l1 ++ l2 ++ [(w, (rt w).getD ((rt w).idxOf i + 1) 0)] → ∃ j', (v, j') ∈ a.fl := by
      intro v j hv
      rcases mem_push.mp hv with q | q
      · exact ⟨j, (n2 _ q).2⟩
      · cases q; exact ⟨i, n3⟩
    have back : ∀ v j, (v, j) ∈ a.fl → ∃ j', (v, j') ∈ l1 ++ l2 ++ [(w, (rt w).getD ((rt w).idxOf i + 1) 0)] := by
      intro v j hv
      rw [e] at hv
      rcases mem_mid hv with q | q
      · cases q; exact ⟨_, mem_push.mpr (.inr rfl)⟩
      · exact ⟨j, mem_push.mpr (.inl q)⟩
    refine ⟨nd_push n1 fun p hp => (n2 p hp).1, fun p hp => ?_, W'.m2, W'.s3, fun j hj => ?_, W'.id, fun j hj => ?_, W'.if', fun j hj => ?_, fun j hj => ?_, fun j hj => ?_, W'.sf, fun h1 h2 => ?_, fun h1 h2 => ?_⟩
    · rcases mem_push.mp hp with q | q
      · exact W'.ent p (n2 p q).2
      · subst q; exact next_mem hin nl
    · obtain ⟨j', q⟩ := key _ _ hj; exact W'.dm _ q
    · obtain ⟨j', q⟩ := key _ _ hj; exact W'.fm _ q
    · obtain ⟨j', q⟩ := key _ _ hj; exact W'.ak _ q
    · obtain ⟨j', q⟩ := key _ _ hj; exact W'.tl _ q
    · obtain ⟨j', q⟩ := key _ _ hj; exact W'.gt _ q
    · obtain ⟨j, q⟩ := W'.pr h1 h2; exact back _ _ q
    · obtain ⟨j, q⟩ := W'.pf h1 h2; exact back _ _ q
  | dataIn l1 i l2 e free nl =>
    obtain ⟨n1, n2, n3⟩ := W'.rest e
    refine ⟨n1, fun p hp => W'.ent p (n2 p hp).2, W'.m2, W'.s3, fun j hj => absurd rfl (n2 _ hj).1, fun _ => (W'.dm _ n3).1, fun j hj => W'.fm j (n2 _ hj).2, W'.if', fun j hj => W'.ak j (n2 _ hj).2, fun j hj => W'.tl j (n2 _ hj).2, fun j hj => W'.gt j (n2 _ hj).2, W'.sf, fun h1 h2 => (nomatch h2), fun h1 h2 => ?_⟩
    obtain ⟨j, q⟩ := W'.pf h1 h2
    rw [e] at q
    rcases mem_mid q with q | q
    · exact nomatch q
    · exact ⟨j, q⟩
  | flagIn l1 i l2 e free nl =>
    obtain ⟨n1, n2, n3⟩ := W'.rest e
    refine ⟨n1, fun p hp => W'.ent p (n2 p hp).2, W'.m2, W'.s3, fun j hj => W'.dm j (n2 _ hj).2, W'.id, fun j hj => absurd rfl (n2 _ hj).1, fun _ => (W'.fm _ n3).1, fun j hj => W'.ak j (n2 _ hj).2, fun j hj => ⟨(W'.tl j (n2 _ hj).2).1, rfl⟩, fun j hj => W'.gt j (n2 _ hj).2, fun _ => rfl, fun h1 h2 => ?_, fun h1 h2 => (nomatch h2)⟩
    obtain ⟨j, q⟩ := W'.pr h1 h2
    rw [e] at q
    rcases mem_mid q with q | q
    · exact nomatch q
    · exact ⟨j, q⟩
  | askIn l1 i l2 e hf =>
    obtain ⟨n1, n2, n3⟩ := W'.rest e
    have st := W'.ak _ n3
    refine ⟨nd_push n1 fun p hp => (n2 p hp).1, fun p hp => ?_, W'.m2, W'.s3, fun j hj => ?_, W'.id, fun j hj => ?_, W'.if', fun j hj => ?_, fun j hj => ⟨st, hf⟩, fun j hj => ?_, W'.sf, fun h1 h2 => ?_, fun h1 h2 => ?_⟩
    · rcases mem_push.mp hp with q | q
      · exact W'.ent p (n2 p q).2
      · subst q
        have hin := W'.ent _ n3
        exact head_mem fun z => by rw [ha.mpr z] at hin; exact nomatch hin
    · rcases mem_push.mp hj with q | q
      · exact W'.dm j (n2 _ q).2
      · exact nomatch q
    · rcases mem_push.mp hj with q | q
      · exact W'.fm j (n2 _ q).2
      · exact nomatch q
    · rcases mem_push.mp hj with q | q
      · exact absurd rfl (n2 _ q).1
      · exact nomatch q
    · rcases mem_push.mp hj with q | q
      · exact absurd rfl (n2 _ q).1
      · exact nomatch q
    · obtain ⟨j, q⟩ := W'.pr h1 h2
      rw [e] at q
      rcases mem_mid q with q | q
      · exact nomatch q
      · exact ⟨j, mem_push.mpr (.inl q)⟩
    · rw [show a.isf = false from h2] at hf; exact nomatch hf
  | toldIn l1 i l2 e free nl =>
    obtain ⟨n1, n2, n3⟩ := W'.rest e
    have tl := W'.tl _ n3
    refine ⟨n1, fun p hp => W'.ent p (n2 p hp).2, W'.m2, by simp, fun j hj => W'.dm j (n2 _ hj).2, W'.id, fun j hj => W'.fm j (n2 _ hj).2, W'.if', fun j hj => absurd rfl (n2 _ hj).1, fun j hj => absurd rfl (n2 _ hj).1, fun j hj => absurd rfl (n2 _ hj).1, fun _ => tl.2, fun h1 h2 => ?_, fun h1 h2 => ?_⟩
    · obtain ⟨j, q⟩ := W'.pr h1 h2
      rw [e] at q
      rcases mem_mid q with q | q
      · exact nomatch q
      · exact ⟨j, q⟩
    · have := tl.2
      rw [show a.isf = false from h2] at this; exact nomatch this
  | data h hr =>
    have no : ∀ p ∈ a.fl, cls p.1 ≠ cls .data := fun p hp q => by
      obtain ⟨v, j⟩ := p
      cases v with
      | data => have := (W'.dm _ hp).1; omega
      | flag => exact absurd q (by simp [cls])
      | ask => exact absurd q (by simp [cls])
      | told => exact absurd q (by simp [cls])
      | get => exact absurd q (by simp [cls])
    refine ⟨nd_push W'.nd no, fun p hp => ?_, by simp, W'.s3, fun j hj => ⟨by simp, ?_⟩, fun _ => Nat.le_refl _, fun j hj => ?_, fun q => ?_, fun j hj => ?_, fun j hj => ?_, fun j hj => ?_, W'.sf, fun h1 h2 => ⟨_, mem_push.mpr (.inr rfl)⟩, fun h1 h2 => absurd h1 (by simp)⟩
    · rcases mem_push.mp hp with q | q
      · exact W'.ent p q
      · subst q; exact head_mem hr
    · cases hd : a.isd with
      | false => rfl
      | true => have := W'.id hd; omega
    · rcases mem_push.mp hj with q | q
      · have := (W'.fm j q).1; omega
      · exact nomatch q
    · have := W'.if' q; omega
    · rcases mem_push.mp hj with q | q
      · exact W'.ak j q
      · exact nomatch q
    · rcases mem_push.mp hj with q | q
      · exact W'.tl j q
      · exact nomatch q
    · rcases mem_push.mp hj with q | q
      · exact W'.gt j q
      · exact nomatch q
  | data0 h hr =>
    refine ⟨W'.nd, W'.ent, by simp, W'.s3, fun j hj => ?_, fun _ => Nat.le_refl _, fun j hj => ?_, fun q => ?_, W'.ak, W'.tl, W'.gt, W'.sf, fun h1 h2 => (nomatch h2), fun h1 h2 => absurd h1 (by simp)⟩
    · have := (W'.dm j hj).1; omega
    · have := (W'.fm j hj).1; omega
    · have := W'.if' q; omega
  | flag h hr =>
    have no : ∀ p ∈ a.fl, cls p.1 ≠ cls .flag := fun p hp q => by
      obtain ⟨v, j⟩ := p
      cases v with
      | flag => have := (W'.fm _ hp).1; omega
      | data => exact absurd q (by simp [cls])
      | ask => exact absurd q (by simp [cls])
      | told => exact absurd q (by simp [cls])
      | get => exact absurd q (by simp [cls])
    have nf : a.isf = false := by
      cases hd : a.isf with
      | false => rfl
      | true => have := W'.if' hd; omega
    refine ⟨nd_push W'.nd no, fun p hp => ?_, by simp, W'.s3, fun j hj => ?_, fun q => by simp, fun j hj => ⟨rfl, nf⟩, fun q => rfl, fun j hj => ?_, fun j hj => ?_, fun j hj => ?_, W'.sf, fun h1 h2 => ?_, fun h1 h2 => ⟨_, mem_push.mpr (.inr rfl)⟩⟩
    · rcases mem_push.mp hp with q | q
      · exact W'.ent p q
      · subst q; exact head_mem hr
    · rcases mem_push.mp hj with q | q
      · exact ⟨by simp, (W'.dm j q).2⟩
      · exact nomatch q
    · rcases mem_push.mp hj with q | q
      · exact W'.ak j q
      · exact nomatch q
    · rcases mem_push.mp hj with q | q
      · exact W'.tl j q
      · exact nomatch q
    · rcases mem_push.mp hj with q | q
      · exact W'.gt j q
      · exact nomatch q
    · obtain ⟨j, q⟩ := W'.pr (by omega) h2
      exact ⟨j, mem_push.mpr (.inl q)⟩
  | flag0 h hr =>
    refine ⟨W'.nd, W'.ent, by simp, W'.s3, fun j hj => ⟨by simp, (W'.dm j hj).2⟩, fun _ => by simp, fun j hj => ?_, fun q => rfl, W'.ak, fun j hj => ⟨(W'.tl j hj).1, rfl⟩, W'.gt, fun _ => rfl, fun h1 h2 => W'.pr (by omega) h2, fun h1 h2 => (nomatch h2)⟩
    have := (W'.fm j hj).1; omega
  | ask h hr =>
    have no : ∀ p ∈ a.fl, cls p.1 ≠ cls .ask := fun p hp q => by
      obtain ⟨v, j⟩ := p
      cases v with
      | ask => have := W'.ak _ hp; omega
      | told => have := (W'.tl _ hp).1; omega
      | get => have := W'.gt _ hp; omega
      | data => exact absurd q (by simp [cls])
      | flag => exact absurd q (by simp [cls])
    refine ⟨nd_push W'.nd no, fun p hp => ?_, W'.m2, by simp, fun j hj => ?_, W'.id, fun j hj => ?_, W'.if', fun j hj => rfl, fun j hj => ?_, fun j hj => ?_, fun q => absurd q (by simp), fun h1 h2 => ?_, fun h1 h2 => ?_⟩
    · rcases mem_push.mp hp with q | q
      · exact W'.ent p q
      · subst q; exact head_mem hr
    · rcases mem_push.mp hj with q | q
      · exact W'.dm j q
      · exact nomatch q
    · rcases mem_push.mp hj with q | q
      · exact W'.fm j q
      · exact nomatch q
    · rcases mem_push.mp hj with q | q
      · exact ⟨rfl, (W'.tl j q).2⟩
      · exact nomatch q
    · rcases mem_push.mp hj with q | q
      · have := W'.gt j q; omega
      · exact nomatch q
    · obtain ⟨j, q⟩ := W'.pr h1 h2
      exact ⟨j, mem_push.mpr (.inl q)⟩
    · obtain ⟨j, q⟩ := W'.pf h1 h2
      exact ⟨j, mem_push.mpr (.inl q)⟩
  | ask0 h hr hf =>
    refine ⟨W'.nd, W'.ent, W'.m2, by simp, W'.dm, W'.id, W'.fm, W'.if', fun j hj => ?_, fun j hj => ?_, fun j hj => ?_, fun _ => hf, W'.pr, W'.pf⟩
    · have := W'.ak _ hj; omega
    · have := (W'.tl _ hj).1; omega
    · have := W'.gt _ hj; omega
  | get h hr =>
    have no : ∀ p ∈ a.fl, cls p.1 ≠ cls .get := fun p hp q => by
      obtain ⟨v, j⟩ := p
      cases v with
      | ask => have := W'.ak _ hp; omega
      | told => have := (W'.tl _ hp).1; omega
      | get => have := W'.gt _ hp; omega
      | data => exact absurd q (by simp [cls])
      | flag => exact absurd q (by simp [cls])
    refine ⟨nd_push W'.nd no, fun p hp => ?_, W'.m2, by simp, fun j hj => ?_, W'.id, fun j hj => ?_, W'.if', fun j hj => ?_, fun j hj => ?_, fun j hj => rfl, fun q => W'.sf (by omega), fun h1 h2 => ?_, fun h1 h2 => ?_⟩
    · rcases mem_push.mp hp with q | q
      · exact W'.ent p q
      · subst q; exact head_mem hr
    · rcases mem_push.mp hj with q | q
      · exact W'.dm j q
      · exact nomatch q
    · rcases mem_push.mp hj with q | q
      · exact W'.fm j q
      · exact nomatch q
    · rcases mem_push.mp hj with q | q
      · have := W'.ak j q; omega
      · exact nomatch q
    · rcases mem_push.mp hj with q | q
      · have := (W'.tl j q).1; omega
      · exact nomatch q
    · obtain ⟨j, q⟩ := W'.pr h1 h2
      exact ⟨j, mem_push.mpr (.inl q)⟩
    · obtain ⟨j, q⟩ := W'.pf h1 h2
      exact ⟨j, mem_push.mpr (.inl q)⟩
end
end K74
/-! K74, part 4: without a forbidden pair no miss -/
namespace K74
def Bh (rt : Rt) (fl : List (W × Nat)) (w : W) (i j : Nat) : Prop := (rt w).idxOf j < (rt w).idxOf i ∨ (j = i ∧ [(W.data, i), (w, j)].Sublist fl)
/-- the follower w stays behind the data in i -/
def Ch (rt : Rt) (fl : List (W × Nat)) (w : W) (i : Nat) : Prop := ∀ j, (w, j) ∈ fl → Bh rt fl w i j
structure Segs (rt : Rt) (al : Al) (la lb : Nat) : Prop where
  f : ∀ i ∈ rt .data, (rt .data).idxOf i < la → i ∈ rt .flag
  fe : ∀ i ∈ rt .data, ∀ j ∈ rt .data, (rt .data).idxOf j = (rt .data).idxOf i + 1 → (rt .data).idxOf j < la → (rt .flag).idxOf j = (rt .flag).idxOf i + 1
  t : ∀ i ∈ rt .data, la ≤ (rt .data).idxOf i → (rt .data).idxOf i < la + lb → i ∈ rt .told
  te : ∀ i ∈ rt .data, ∀ j ∈ rt .data, (rt .data).idxOf j = (rt .data).idxOf i + 1 → la ≤ (rt .data).idxOf i → (rt .data).idxOf j < la + lb → (rt .told).idxOf j = (rt .told).idxOf i + 1
  g : ∀ i ∈ rt .data, la + lb ≤ (rt .data).idxOf i → i ∈ rt .get
  ge : ∀ i ∈ rt .data, ∀ j ∈ rt .data, (rt .data).idxOf j = (rt .data).idxOf i + 1 → la + lb ≤ (rt .data).idxOf i → (rt .get).idxOf j = (rt .get).idxOf i + 1
  nf : (Kd.write, Kd.write) ∉ al
  nt : ∀ i ∈ rt .data, la ≤ (rt .data).idxOf i → (rt .data).idxOf i < la + lb → (Kd.answer, Kd.write) ∉ al
  ng : ∀ i ∈ rt .data, la + lb ≤ (rt .data).idxOf i → (Kd.read, Kd.write) ∉ al
structure Safe (rt : Rt) (la lb : Nat) (a : A) : Prop where
  v1 : ∀ i, (W.data, i) ∈ a.fl → (rt .data).idxOf i < la → a.isf = false ∧ Ch rt a.fl .flag i
  v2 : ∀ i, (W.data, i) ∈ a.fl → la ≤ (rt .data).idxOf i → (rt .data).idxOf i < la + lb → a.stage ≤ 1 ∧ Ch rt a.fl .told i
  v3 : ∀ i, (W.data, i) ∈ a.fl → la + lb ≤ (rt .data).idxOf i → Ch rt a.fl .get i

section
variable {rt : Rt} {al : Al} {a a' : A} {la lb : Nat}
theorem sub_pair {p q : W × Nat} {l : List (W × Nat)} (hp : p ∈ l) : [p, q].Sublist (l ++ [q]) := by
  have : [p].Sublist l := List.singleton_sublist.mpr hp
  exact List.Sublist.append this (List.Sublist.refl [q])
theorem sub_mid {p q e : W × Nat} {l1 l2 : List (W × Nat)} (h : [p, q].Sublist (l1 ++ e :: l2)) (hp : p ≠ e) (hq : q ≠ e) (he : e ∉ l1 ++ l2) : [p, q].Sublist (l1 ++ l2) := by
  have h1 := h.filter (fun x => x ≠ e)
  have e1 : [p, q].filter (fun x => decide (x ≠ e)) = [p, q] := by simp [hp, hq]
  have e2 : (l1 ++ e :: l2).filter (fun x => decide (x ≠ e)) = l1 ++ l2 := by
    rw [List.filter_append, List.filter_cons_of_neg (by simp), ← List.filter_append]
    refine List.filter_eq_self.mpr fun x hx => ?_
    have : x ≠ e := fun z => he (z ▸ hx)
    simpa using this
  rw [e1, e2] at h1
  exact h1
theorem ch_rem {l1 l2 : List (W × Nat)} {e : W × Nat} {w : W} {i : Nat} (hd : (W.data, i) ∈ l1 ++ l2) (he : e ∉ l1 ++ l2) (h : Ch rt (l1 ++ e :: l2) w i) : Ch rt (l1 ++ l2) w i := by
  intro j hj
  rcases h j (mid_mem hj) with q | ⟨q1, q2⟩
  · exact .inl q
  · exact .inr ⟨q1, sub_mid q2 (fun z => he (z ▸ hd)) (fun z => he (z ▸ hj)) he⟩
theorem ch_push {l : List (W × Nat)} {v w : W} {i j : Nat} (ne : v ≠ w) (h : Ch rt l w i) : Ch rt (l ++ [(v, j)]) w i := by
  intro k hk
  rcases mem_push.mp hk with q | q
  · rcases h k q with r | ⟨r1, r2⟩
    · exact .inl r
    · exact .inr ⟨r1, r2.trans (List.sublist_append_left _ _)⟩
  · cases q; exact absurd rfl ne
theorem bh_new {l : List (W × Nat)} {w : W} {i j : Nat} (hd : (W.data, i) ∈ l) (hj : j ∈ rt w) (hi : i ∈ rt w) (hl : (rt w).idxOf j ≤ (rt w).idxOf i) : Bh rt (l ++ [(w, j)]) w i j := by
  rcases Nat.lt_or_ge ((rt w).idxOf j) ((rt w).idxOf i) with q | q
  · exact .inl q
  · have e : (rt w).idxOf j = (rt w).idxOf i := by omega
    have : j = i := by
      have h1 := List.getElem_idxOf (List.idxOf_lt_length_of_mem hj)
      have h2 := List.getElem_idxOf (List.idxOf_lt_length_of_mem hi)
      rw [← h1, ← h2]
      simp only [e]
    exact .inr ⟨this, sub_pair hd⟩
theorem idx_head {l : List Nat} (h : l ≠ []) : l.idxOf (l.headD 0) = 0 := by
  cases l with
  | nil => exact absurd rfl h
  | cons a l => simp
theorem ch_new {l : List (W × Nat)} {w : W} {i : Nat} (no : ∀ j, (w, j) ∉ l) (hd : (W.data, i) ∈ l) (hi : i ∈ rt w) (hr : rt w ≠ []) : Ch rt (l ++ [(w, (rt w).headD 0)]) w i := by
  intro j hj
  rcases mem_push.mp hj with q | q
  · exact absurd q (no j)
  · cases q
    exact bh_new hd (head_mem hr) hi (by rw [idx_head hr]; exact Nat.zero_le _)
theorem idx_next {l : List Nat} (nd : l.Nodup) {i : Nat} (hm : i ∈ l) (h : l.getLastD 0 ≠ i) : l.idxOf (l.getD (l.idxOf i + 1) 0) = l.idxOf i + 1 := by
  have hl := last_ne hm h
  rw [List.getD_eq_getElem?_getD, List.getElem?_eq_getElem hl, Option.getD_some]
  exact nd.idxOf_getElem _ hl
theorem blocked {l1 l2 : List (W × Nat)} {w : W} {i : Nat} (hw : w ≠ .data) (nd : ((l1 ++ (w, i) :: l2).map fun p => cls p.1).Nodup) (hs : [(W.data, i), (w, i)].Sublist (l1 ++ (w, i) :: l2)) (np : (kd w, Kd.write) ∉ al) (free : ∀ o, (o, i) ∈ l1 → (kd w, kd o) ∈ al) : False := by
  have he : (w, i) ∉ l1 ++ l2 := fun h => (nd_mid nd).2 _ h rfl
  have : (W.data, i) ∈ l1 := by
    obtain ⟨s1, s2, e, h1, h2⟩ := List.sublist_append_iff.mp hs
    cases s1 with
    | nil =>
      have e' : s2 = [(W.data, i), (w, i)] := by simpa using e.symm
      rw [e'] at h2
      cases h2 with
      | cons _ h => exact absurd (List.mem_append_right _ (h.subset (by simp))) he
      | cons_cons _ h => exact absurd rfl hw
    | cons p s1 =>
      have e' : p = (W.data, i) := by injection e with z _; exact z.symm
      exact h1.subset (by rw [e']; exact List.mem_cons_self)
  exact np (free .data this)
theorem ch_on {l1 l2 : List (W × Nat)} {v w : W} {i j : Nat} (hw : w ≠ .data) (nd : ((l1 ++ (v, j) :: l2).map fun p => cls p.1).Nodup) (rn : (rt w).Nodup) (hd : (W.data, i) ∈ l1 ++ l2) (hi : i ∈ rt w) (hj : j ∈ rt v) (np : (kd w, Kd.write) ∉ al)
    (h : Ch rt (l1 ++ (v, j) :: l2) w i) (free : ∀ o, (o, j) ∈ l1 → (kd v, kd o) ∈ al) (nl : (rt v).getLastD 0 ≠ j) : Ch rt (l1 ++ l2 ++ [(v, (rt v).getD ((rt v).idxOf j + 1) 0)]) w i := by
  have he : (v, j) ∉ l1 ++ l2 := fun h => (nd_mid nd).2 _ h rfl
  by_cases e : v = w
  · subst e
    intro k hk
    rcases mem_push.mp hk with q | q
    · exact absurd (rfl : cls v = cls v) ((nd_mid nd).2 _ q)
    · cases q
      refine bh_new hd (next_mem hj nl) hi ?_
      rw [idx_next rn hj nl]
      rcases h j (by simp) with q | ⟨q1, q2⟩
      · exact q
      · subst q1
        exact (blocked hw nd q2 np free).elim
  · exact ch_push e (ch_rem hd he h)

theorem Safe.start : Safe rt la lb ⟨[], 0, 0, false, false⟩ := by
  constructor <;> simp
theorem isf_of (W' : Wf rt a) (h : a.isf = false) : a.stage ≤ 1 := by
  rcases Nat.lt_or_ge a.stage 2 with q | q
  · omega
  · have := W'.sf q; rw [h] at this; exact nomatch this
theorem Safe.step (W' : Wf rt a) (hs : Safe rt la lb a) (G : Segs rt al la lb) (rn : ∀ w, (rt w).Nodup) (ha : rt .ask = [] ↔ rt .told = []) (h : Deed rt al a (some a')) : Safe rt la lb a' := by
  have din : ∀ {i}, (W.data, i) ∈ a.fl → i ∈ rt .data := fun q => W'.ent _ q
  cases h with
  | on l1 w i l2 e free nl =>
    obtain ⟨n1, n2, n3⟩ := W'.rest e
    have hin : i ∈ rt w := W'.ent _ n3
    have nd := W'.nd
    obtain ⟨v1, v2, v3⟩ := hs
    rw [e] at v1 v2 v3 nd
    by_cases hw : w = .data
    · subst hw
      have hx := idx_next (rn .data) hin nl
      have hm := next_mem hin nl
      generalize (rt .data).getD ((rt .data).idxOf i + 1) 0 = i' at hx hm
      have only : ∀ k, (W.data, k) ∈ l1 ++ l2 ++ [(W.data, i')] → k = i' := fun k hk => by
        rcases mem_push.mp hk with q | q
        · exact absurd rfl (n2 _ q).1
        · cases q; rfl
      have n3' : (W.data, i) ∈ l1 ++ (W.data, i) :: l2 := by simp
      refine ⟨fun k hk hl => ?_, fun k hk h1 h2 => ?_, fun k hk h1 => ?_⟩
      · rw [only k hk] at hl ⊢
        obtain ⟨q1, q2⟩ := v1 i n3' (by omega)
        refine ⟨q1, fun j hj => ?_⟩
        rcases mem_push.mp hj with q | q
        · have hn := G.fe i hin i' hm hx hl
          rcases q2 j (mid_mem q) with r | ⟨r, _⟩
          · exact .inl (by omega)
          · exact .inl (by rw [r]; omega)
        · exact nomatch q
      · rw [only k hk] at h1 h2 ⊢
        rcases Nat.lt_or_ge ((rt .data).idxOf i) la with c | c
        · obtain ⟨q1, q2⟩ := v1 i n3' c
          refine ⟨(show a.stage ≤ 1 from isf_of W' q1), fun j hj => ?_⟩
          rcases mem_push.mp hj with q | q
          · have := (W'.tl j (n2 _ q).2).2
            rw [q1] at this; exact nomatch this
          · exact nomatch q
        · obtain ⟨q1, q2⟩ := v2 i n3' c (by omega)
          refine ⟨q1, fun j hj => ?_⟩
          rcases mem_push.mp hj with q | q
          · have hn := G.te i hin i' hm hx c h2
            rcases q2 j (mid_mem q) with r | ⟨r, _⟩
            · exact .inl (by omega)
            · exact .inl (by rw [r]; omega)
          · exact nomatch q
      · rw [only k hk] at h1 ⊢
        intro j hj
        rcases mem_push.mp hj with q | q
        · rcases Nat.lt_or_ge ((rt .data).idxOf i) la with c | c
          · obtain ⟨q1, q2⟩ := v1 i n3' c
            have := isf_of W' q1
            have := W'.gt j (n2 _ q).2
            omega
          · rcases Nat.lt_or_ge ((rt .data).idxOf i) (la + lb) with c2 | c2
            · obtain ⟨q1, q2⟩ := v2 i n3' c c2
              have := W'.gt j (n2 _ q).2
              omega
            · have hn := G.ge i hin i' hm hx c2
              rcases v3 i n3' c2 j (mid_mem q) with r | ⟨r, _⟩
              · exact .inl (by omega)
              · exact .inl (by rw [r]; omega)
        · exact nomatch q
    · have back : ∀ k, (W.data, k) ∈ l1 ++ l2 ++ [(w, (rt w).getD ((rt w).idxOf i + 1) 0)] → (W.data, k) ∈ l1 ++ l2 := fun k hk => by
        rcases mem_push.mp hk with q | q
        · exact q
        · cases q; exact absurd rfl hw
      refine ⟨fun k hk hl => ?_, fun k hk h1 h2 => ?_, fun k hk h1 => ?_⟩
      · have hk' := back k hk
        obtain ⟨q1, q2⟩ := v1 k (mid_mem hk') hl
        exact ⟨q1, ch_on (by simp) nd (rn _) hk' (G.f k (din (n2 _ hk').2) hl) hin G.nf q2 free nl⟩
      · have hk' := back k hk
        obtain ⟨q1, q2⟩ := v2 k (mid_mem hk') h1 h2
        exact ⟨q1, ch_on (by simp) nd (rn _) hk' (G.t k (din (n2 _ hk').2) h1 h2) hin (G.nt k (din (n2 _ hk').2) h1 h2) q2 free nl⟩
      · have hk' := back k hk
        exact ch_on (by simp) nd (rn _) hk' (G.g k (din (n2 _ hk').2) h1) hin (G.ng k (din (n2 _ hk').2) h1) (v3 k (mid_mem hk') h1) free nl
  | dataIn l1 i l2 e free nl =>
    obtain ⟨n1, n2, n3⟩ := W'.rest e
    exact ⟨fun k hk => absurd rfl (n2 _ hk).1, fun k hk => absurd rfl (n2 _ hk).1, fun k hk => absurd rfl (n2 _ hk).1⟩
  | flagIn l1 i l2 e free nl =>
    obtain ⟨n1, n2, n3⟩ := W'.rest e
    have nd := W'.nd
    obtain ⟨v1, v2, v3⟩ := hs
    rw [e] at v1 v2 v3 nd
    have he : (W.flag, i) ∉ l1 ++ l2 := fun h => (nd_mid nd).2 _ h rfl
    refine ⟨fun k hk hl => ?_, fun k hk h1 h2 => ?_, fun k hk h1 => ch_rem hk he (v3 k (mid_mem hk) h1)⟩
    · obtain ⟨q1, q2⟩ := v1 k (mid_mem hk) hl
      have hk2 := G.f k (din (n2 _ hk).2) hl
      rcases q2 i (by simp) with r | ⟨r1, r2⟩
      · exfalso
        have hin := W'.ent _ n3
        have h3 : (rt .flag).getLastD 0 ≠ i := fun _ => ?_
        · exact h3 nl
        · have h4 := List.idxOf_lt_length_of_mem hk2
          have hne : rt .flag ≠ [] := fun z => by rw [z] at hin; exact nomatch hin
          have h5 : (rt .flag).getLastD 0 = (rt .flag)[(rt .flag).length - 1]'(by have := List.length_pos_iff.mpr hne; omega) := by
            rw [List.getLastD_eq_getLast?, List.getLast?_eq_getElem?, List.getElem?_eq_getElem (by have := List.length_pos_iff.mpr hne; omega)]; rfl
          have h6 : (rt .flag).idxOf i = (rt .flag).length - 1 := by
            have := (rn .flag).idxOf_getElem ((rt .flag).length - 1) (by have := List.length_pos_iff.mpr hne; omega)
            rw [← h5, nl] at this
            exact this
          omega
      · subst r1
        exact (blocked (by simp) nd r2 G.nf free).elim
    · obtain ⟨q1, q2⟩ := v2 k (mid_mem hk) h1 h2
      exact ⟨q1, ch_rem hk he q2⟩
  | askIn l1 i l2 e hf =>
    obtain ⟨n1, n2, n3⟩ := W'.rest e
    have nd := W'.nd
    obtain ⟨v1, v2, v3⟩ := hs
    rw [e] at v1 v2 v3 nd
    have he : (W.ask, i) ∉ l1 ++ l2 := fun h => (nd_mid nd).2 _ h rfl
    have back : ∀ k, (W.data, k) ∈ l1 ++ l2 ++ [(W.told, (rt .told).headD 0)] → (W.data, k) ∈ l1 ++ l2 := fun k hk => by
      rcases mem_push.mp hk with q | q
      · exact q
      · cases q
    refine ⟨fun k hk hl => ?_, fun k hk h1 h2 => ?_, fun k hk h1 => ?_⟩
    · have := (v1 k (mid_mem (back k hk)) hl).1
      rw [hf] at this; exact nomatch this
    · have hk' := back k hk
      have hk2 := G.t k (din (n2 _ hk').2) h1 h2
      refine ⟨by have := W'.ak _ n3; show a.stage ≤ 1; omega, ch_new (fun j hj => (n2 _ hj).1 rfl) hk' hk2 fun z => by rw [z] at hk2; exact nomatch hk2⟩
    · have hk' := back k hk
      exact ch_push (by simp) (ch_rem hk' he (v3 k (mid_mem hk') h1))
  | toldIn l1 i l2 e free nl =>
    obtain ⟨n1, n2, n3⟩ := W'.rest e
    have nd := W'.nd
    obtain ⟨v1, v2, v3⟩ := hs
    rw [e] at v1 v2 v3 nd
    have he : (W.told, i) ∉ l1 ++ l2 := fun h => (nd_mid nd).2 _ h rfl
    refine ⟨fun k hk hl => ?_, fun k hk h1 h2 => ?_, fun k hk h1 => ch_rem hk he (v3 k (mid_mem hk) h1)⟩
    · obtain ⟨q1, q2⟩ := v1 k (mid_mem hk) hl
      have := (W'.tl _ n3).2
      rw [q1] at this; exact nomatch this
    · exfalso
      obtain ⟨q1, q2⟩ := v2 k (mid_mem hk) h1 h2
      have hk2 := G.t k (din (n2 _ hk).2) h1 h2
      rcases q2 i (by simp) with r | ⟨r1, r2⟩
      · have hin := W'.ent _ n3
        have h4 := List.idxOf_lt_length_of_mem hk2
        have hne : rt .told ≠ [] := fun z => by rw [z] at hin; exact nomatch hin
        have h5 : (rt .told).getLastD 0 = (rt .told)[(rt .told).length - 1]'(by have := List.length_pos_iff.mpr hne; omega) := by
          rw [List.getLastD_eq_getLast?, List.getLast?_eq_getElem?, List.getElem?_eq_getElem (by have := List.length_pos_iff.mpr hne; omega)]; rfl
        have h6 : (rt .told).idxOf i = (rt .told).length - 1 := by
          have := (rn .told).idxOf_getElem ((rt .told).length - 1) (by have := List.length_pos_iff.mpr hne; omega)
          rw [← h5, nl] at this
          exact this
        omega
      · subst r1
        exact blocked (by simp) nd r2 (G.nt i (din (n2 _ hk).2) h1 h2) free
  | data h hr =>
    have nod : ∀ j, (W.data, j) ∉ a.fl := fun j hj => by have := (W'.dm j hj).1; omega
    have nof : ∀ j, (W.flag, j) ∉ a.fl := fun j hj => by have := (W'.fm j hj).1; omega
    have nf : a.isf = false := by
      cases hd : a.isf with
      | false => rfl
      | true => have := W'.if' hd; omega
    have st := isf_of W' nf
    refine ⟨fun k hk hl => ⟨nf, fun j hj => ?_⟩, fun k hk h1 h2 => ⟨st, fun j hj => ?_⟩, fun k hk h1 j hj => ?_⟩
    · rcases mem_push.mp hj with q | q
      · exact absurd q (nof j)
      · exact nomatch q
    · rcases mem_push.mp hj with q | q
      · have := (W'.tl j q).2
        rw [nf] at this; exact nomatch this
      · exact nomatch q
    · rcases mem_push.mp hj with q | q
      · have := W'.gt j q; omega
      · exact nomatch q
  | data0 h hr =>
    have nod : ∀ j, (W.data, j) ∉ a.fl := fun j hj => by have := (W'.dm j hj).1; omega
    exact ⟨fun k hk => absurd hk (nod k), fun k hk => absurd hk (nod k), fun k hk => absurd hk (nod k)⟩
  | flag h hr =>
    have nof : ∀ j, (W.flag, j) ∉ a.fl := fun j hj => by have := (W'.fm j hj).1; omega
    have back : ∀ k, (W.data, k) ∈ a.fl ++ [(W.flag, (rt .flag).headD 0)] → (W.data, k) ∈ a.fl := fun k hk => by
      rcases mem_push.mp hk with q | q
      · exact q
      · cases q
    refine ⟨fun k hk hl => ?_, fun k hk h1 h2 => ?_, fun k hk h1 => ch_push (by simp) (hs.v3 k (back k hk) h1)⟩
    · have hk' := back k hk
      exact ⟨(hs.v1 k hk' hl).1, ch_new nof hk' (G.f k (din hk') hl) hr⟩
    · obtain ⟨q1, q2⟩ := hs.v2 k (back k hk) h1 h2
      exact ⟨q1, ch_push (by simp) q2⟩
  | flag0 h hr =>
    refine ⟨fun k hk hl => ?_, hs.v2, hs.v3⟩
    have := G.f k (din hk) hl
    rw [hr] at this; exact nomatch this
  | ask h hr =>
    have back : ∀ k, (W.data, k) ∈ a.fl ++ [(W.ask, (rt .ask).headD 0)] → (W.data, k) ∈ a.fl := fun k hk => by
      rcases mem_push.mp hk with q | q
      · exact q
      · cases q
    refine ⟨fun k hk hl => ?_, fun k hk h1 h2 => ?_, fun k hk h1 => ch_push (by simp) (hs.v3 k (back k hk) h1)⟩
    · obtain ⟨q1, q2⟩ := hs.v1 k (back k hk) hl
      exact ⟨q1, ch_push (by simp) q2⟩
    · obtain ⟨q1, q2⟩ := hs.v2 k (back k hk) h1 h2
      exact ⟨Nat.le_refl _, ch_push (by simp) q2⟩
  | ask0 h hr hf =>
    refine ⟨hs.v1, fun k hk h1 h2 => ?_, hs.v3⟩
    have := G.t k (din hk) h1 h2
    rw [ha.mp hr] at this; exact nomatch this
  | get h hr =>
    have nog : ∀ j, (W.get, j) ∉ a.fl := fun j hj => by have := W'.gt j hj; omega
    have back : ∀ k, (W.data, k) ∈ a.fl ++ [(W.get, (rt .get).headD 0)] → (W.data, k) ∈ a.fl := fun k hk => by
      rcases mem_push.mp hk with q | q
      · exact q
      · cases q
    refine ⟨fun k hk hl => ?_, fun k hk h1 h2 => ?_, fun k hk h1 => ?_⟩
    · obtain ⟨q1, q2⟩ := hs.v1 k (back k hk) hl
      exact ⟨q1, ch_push (by simp) q2⟩
    · obtain ⟨q1, q2⟩ := hs.v2 k (back k hk) h1 h2
      omega
    · have hk' := back k hk
      exact ch_new nog hk' (G.g k (din hk') h1) hr
theorem Safe.none (W' : Wf rt a) (hs : Safe rt la lb a) (G : Segs rt al la lb) (rn : ∀ w, (rt w).Nodup) (h : Deed rt al a none) : False := by
  have key : ∀ (hf : 2 ≤ a.stage) (hd : a.isd = false), ∃ i, (W.data, i) ∈ a.fl ∧ la + lb ≤ (rt .data).idxOf i := fun hf hd => by
    have isf := W'.sf hf
    obtain ⟨i, hi⟩ := W'.pr (by have := W'.if' isf; omega) hd
    refine ⟨i, hi, ?_⟩
    rcases Nat.lt_or_ge ((rt .data).idxOf i) la with c | c
    · have := (hs.v1 i hi c).1
      rw [isf] at this; exact nomatch this
    · rcases Nat.lt_or_ge ((rt .data).idxOf i) (la + lb) with c2 | c2
      · have := (hs.v2 i hi c c2).1; omega
      · exact c2
  cases h with
  | getIn l1 i l2 e free nl nd =>
    obtain ⟨n1, n2, n3⟩ := W'.rest e
    obtain ⟨k, hk, hc⟩ := key (by have := W'.gt _ n3; omega) nd
    have hk2 := G.g k (W'.ent _ hk) hc
    have hin := W'.ent _ n3
    have nd' := W'.nd
    rcases hs.v3 k hk hc i n3 with r | ⟨r1, r2⟩
    · have h4 := List.idxOf_lt_length_of_mem hk2
      have hne : rt .get ≠ [] := fun z => by rw [z] at hin; exact nomatch hin
      have h5 : (rt .get).getLastD 0 = (rt .get)[(rt .get).length - 1]'(by have := List.length_pos_iff.mpr hne; omega) := by
        rw [List.getLastD_eq_getLast?, List.getLast?_eq_getElem?, List.getElem?_eq_getElem (by have := List.length_pos_iff.mpr hne; omega)]; rfl
      have h6 : (rt .get).idxOf i = (rt .get).length - 1 := by
        have := (rn .get).idxOf_getElem ((rt .get).length - 1) (by have := List.length_pos_iff.mpr hne; omega)
        rw [← h5, nl] at this
        exact this
      omega
    · subst r1
      rw [e] at r2 nd'
      exact blocked (by simp) nd' r2 (G.ng i (W'.ent _ hk) hc) free
  | get0 h hr nd =>
    obtain ⟨k, hk, hc⟩ := key (by omega) nd
    have := G.g k (W'.ent _ hk) hc
    rw [hr] at this; exact nomatch this
end
/-- no miss -/
theorem no_miss {rt : Rt} {al : Al} {many la lb : Nat} (R : RtOk rt many) (G : Segs rt al la lb) : ¬ Miss rt al many := by
  have reach : ∀ s, Reach rt al many s → ∃ a, s = conc many a ∧ Wf rt a ∧ Safe rt la lb a := by
    intro s h
    induction h with
    | start =>
      refine ⟨⟨[], 0, 0, false, false⟩, ?_, Wf.start, Safe.start⟩
      unfold start conc queues
      congr 1
      exact (List.eq_replicate_iff.mpr ⟨by simp, fun b hb => by obtain ⟨i, _, rfl⟩ := List.mem_map.mp hb; rfl⟩).symm
    | step _ hb ih =>
      obtain ⟨a, rfl, W', hs⟩ := ih
      obtain ⟨r, hr, e⟩ := (behind_conc R a W'.ent _).mp hb
      cases r with
      | none => exact nomatch e
      | some a' =>
        have e' := Option.some.inj e
        exact ⟨a', e', W'.step R.at' (deed_of hr), hs.step W' G R.nd R.at' (deed_of hr)⟩
  rintro ⟨s, h, hb⟩
  obtain ⟨a, rfl, W', hs⟩ := reach s h
  obtain ⟨r, hr, e⟩ := (behind_conc R a W'.ent _).mp hb
  cases r with
  | some a' => exact nomatch e
  | none => exact hs.none W' G R.nd (deed_of hr)
end K74
/-! K74, part 5: with a forbidden pair a run that misses; the number of states -/
namespace K74
section
variable {rt : Rt} {al : Al} {many : Nat}
def Pt (rt : Rt) (al : Al) (many : Nat) (a : A) : Prop := Reach rt al many (conc many a) ∧ Wf rt a
theorem pt_start : Pt rt al many ⟨[], 0, 0, false, false⟩ := by
  refine ⟨?_, Wf.start⟩
  have e : conc many ⟨[], 0, 0, false, false⟩ = start many := by
    unfold start conc queues
    congr 1
    exact List.eq_replicate_iff.mpr ⟨by simp, fun b hb => by obtain ⟨i, _, rfl⟩ := List.mem_map.mp hb; rfl⟩
  rw [e]
  exact Reach.start
theorem Pt.step (R : RtOk rt many) {a a' : A} (h : Pt rt al many a) (st : Step rt al a (some a')) : Pt rt al many a' :=
  ⟨Reach.step h.1 ((behind_conc R a h.2.ent _).mpr ⟨some a', st, rfl⟩), h.2.step R.at' (deed_of st)⟩
theorem Pt.miss (R : RtOk rt many) {a : A} (h : Pt rt al many a) (st : Step rt al a none) : Miss rt al many :=
  ⟨_, h.1, (behind_conc R a h.2.ent _).mpr ⟨none, st, rfl⟩⟩
theorem getLast_of {l : List Nat} {k : Nat} (h : k + 1 = l.length) (hk : k < l.length) : l.getLastD 0 = l[k] := by
  rw [List.getLastD_eq_getLast?, List.getLast?_eq_getElem?, ← h, Nat.add_sub_cancel, List.getElem?_eq_getElem hk]; rfl
theorem notLast {l : List Nat} (nd : l.Nodup) {k : Nat} (h : k + 1 < l.length) : l.getLastD 0 ≠ l[k]'(by omega) := by
  rw [List.getLastD_eq_getLast?, List.getLast?_eq_getElem?, List.getElem?_eq_getElem (by omega)]
  intro e
  have e' : l[l.length - 1] = l[k] := e
  have := (List.getElem_inj nd).mp e'
  omega
theorem nextOf {l : List Nat} (nd : l.Nodup) {k : Nat} (h : k + 1 < l.length) : l.getD (l.idxOf (l[k]'(by omega)) + 1) 0 = l[k + 1] := by
  rw [nd.idxOf_getElem k (by omega), List.getD_eq_getElem?_getD, List.getElem?_eq_getElem h]; rfl
theorem headOf {l : List Nat} (h : 0 < l.length) : l.headD 0 = l[0] := by
  cases l with
  | nil => exact absurd h (by simp)
  | cons a l => rfl
theorem gone {a : A} {i : Nat} {w : W} (nl : (rt w).getLastD 0 ≠ i) : some (push a w ((rt w).getD ((rt w).idxOf i + 1) 0)) ∈ goneOnA rt a i w := by
  unfold goneOnA; rw [if_neg nl]; exact List.mem_singleton_self _
/-- the messages ahead l stand, w goes on to its k-th link -/
theorem along (R : RtOk rt many) {l : List (W × Nat)} {w : W} {m st : Nat} {d f : Bool} (free : ∀ o i, (o, i) ∈ l → i ∈ rt w → (kd w, kd o) ∈ al) (h0 : 0 < (rt w).length)
    (h : Pt rt al many ⟨l ++ [(w, (rt w).headD 0)], m, st, d, f⟩) : ∀ (k : Nat) (hk : k < (rt w).length), Pt rt al many ⟨l ++ [(w, (rt w)[k])], m, st, d, f⟩
  | 0, hk => by rw [headOf h0] at h; exact h
  | k + 1, hk => by
    have ih := along R free h0 h k (by omega)
    have st := Step.move (rt := rt) (al := al) (a := ⟨l ++ [(w, (rt w)[k])], m, st, d, f⟩) l w ((rt w)[k]) [] rfl (fun o ho => free o _ ho (List.getElem_mem _)) (gone (notLast (R.nd w) hk))
    have := ih.step R st
    rw [nextOf (R.nd w) hk] at this
    simpa [push] using this
theorem arrives (R : RtOk rt many) {l : List (W × Nat)} {w : W} {m st : Nat} {d f : Bool} (free : ∀ o i, (o, i) ∈ l → i ∈ rt w → (kd w, kd o) ∈ al) (h0 : 0 < (rt w).length)
    (h : Pt rt al many ⟨l ++ [(w, (rt w).headD 0)], m, st, d, f⟩) : ∃ a, Pt rt al many a ∧ ∀ r, r ∈ arrivedA rt ⟨l, m, st, d, f⟩ w → Step rt al a r := by
  have hk : (rt w).length - 1 < (rt w).length := by omega
  refine ⟨_, along R free h0 h ((rt w).length - 1) hk, fun r hr => ?_⟩
  refine .move l w ((rt w)[(rt w).length - 1]) [] rfl (fun o ho => free o _ ho (List.getElem_mem _)) ?_
  unfold goneOnA
  rw [if_pos (getLast_of (by omega) hk)]
  simpa using hr
theorem miss_run (R : RtOk rt many) {h : Nat} (hd : h ∈ rt .data) (hf : h ∉ rt .flag) (ha : h ∉ rt .ask) (ht : h ∈ rt .told → (Kd.answer, Kd.write) ∈ al) (hg : h ∈ rt .get → (Kd.read, Kd.write) ∈ al) : Miss rt al many := by
  have ld : 0 < (rt .data).length := List.length_pos_of_mem hd
  have s0 : Pt rt al many ⟨[(.data, (rt .data).headD 0)], 1, 0, false, false⟩ := by
    refine pt_start.step R (.made (by simp) ?_)
    show _ ∈ startedA rt _ .data
    unfold startedA
    rw [if_pos (List.length_pos_iff.mp ld)]
    exact List.mem_singleton_self _
  have s1 : Pt rt al many ⟨[(.data, h)], 1, 0, false, false⟩ := by
    have hk := List.idxOf_lt_length_of_mem hd
    have := along (l := []) R (fun o i ho => nomatch ho) ld s0 ((rt .data).idxOf h) hk
    rw [List.getElem_idxOf hk] at this
    exact this
  have s2 : Pt rt al many ⟨[(.data, h)], 2, 0, false, true⟩ := by
    by_cases e : rt .flag = []
    · refine s1.step R (.made (by simp) ?_)
      show _ ∈ startedA rt _ .flag
      unfold startedA
      rw [if_neg (by simp [e]), if_neg (by simp)]
      exact List.mem_singleton_self _
    · have l0 := List.length_pos_iff.mpr e
      have s : Pt rt al many ⟨[(.data, h)] ++ [(.flag, (rt .flag).headD 0)], 2, 0, false, false⟩ := by
        refine s1.step R (.made (by simp) ?_)
        show _ ∈ startedA rt _ .flag
        unfold startedA
        rw [if_pos e]
        exact List.mem_singleton_self _
      obtain ⟨a, pa, st⟩ := arrives R (fun o i ho hi => by cases List.mem_singleton.mp ho; exact absurd hi hf) l0 s
      exact pa.step R (st _ (List.mem_singleton_self _))
  have s3 : Pt rt al many ⟨[(.data, h)], 2, 2, false, true⟩ := by
    by_cases e : rt .ask = []
    · refine s2.step R (.ask rfl ?_)
      unfold startedA
      rw [if_neg (by simp [e]), if_pos rfl]
      exact List.mem_singleton_self _
    · have l0 := List.length_pos_iff.mpr e
      have l1 := List.length_pos_iff.mpr (fun z => e (R.at'.mpr z))
      have s : Pt rt al many ⟨[(.data, h)] ++ [(.ask, (rt .ask).headD 0)], 2, 1, false, true⟩ := by
        refine s2.step R (.ask rfl ?_)
        unfold startedA
        rw [if_pos e]
        exact List.mem_singleton_self _
      obtain ⟨a, pa, st⟩ := arrives R (fun o i ho hi => by cases List.mem_singleton.mp ho; exact absurd hi ha) l0 s
      have s' : Pt rt al many ⟨[(.data, h)] ++ [(.told, (rt .told).headD 0)], 2, 1, false, true⟩ := pa.step R (st _ (by simp [arrivedA, push]))
      obtain ⟨a, pa, st⟩ := arrives R (fun o i ho hi => by cases List.mem_singleton.mp ho; exact ht hi) l1 s'
      exact pa.step R (st _ (List.mem_singleton_self _))
  by_cases e : rt .get = []
  · refine s3.miss R (.get rfl ?_)
    unfold startedA
    rw [if_neg (by simp [e]), if_neg (by simp)]
    simp [arrivedA]
  · have l0 := List.length_pos_iff.mpr e
    have s : Pt rt al many ⟨[(.data, h)] ++ [(.get, (rt .get).headD 0)], 2, 3, false, true⟩ := by
      refine s3.step R (.get rfl ?_)
      unfold startedA
      rw [if_pos e]
      exact List.mem_singleton_self _
    obtain ⟨a, pa, st⟩ := arrives R (fun o i ho hi => by cases List.mem_singleton.mp ho; exact hg hi) l0 s
    exact pa.miss R (st _ (by simp [arrivedA]))
end

/-! ### the number of states -/
def prod {α β : Type} (l : List α) (r : List β) : List (α × β) := l.flatMap fun a => r.map fun b => (a, b)
theorem prod_len {α β : Type} (l : List α) (r : List β) : (prod l r).length = l.length * r.length := by
  unfold prod
  induction l with
  | nil => simp
  | cons a l ih => rw [List.flatMap_cons, List.length_append, ih, List.length_map, List.length_cons, Nat.add_mul]; omega
theorem mem_prod {α β : Type} {l : List α} {r : List β} {a : α} {b : β} (ha : a ∈ l) (hb : b ∈ r) : (a, b) ∈ prod l r :=
  List.mem_flatMap.mpr ⟨a, ha, List.mem_map.mpr ⟨b, hb, rfl⟩⟩
theorem nodup_len {α : Type} [DecidableEq α] : ∀ {l u : List α}, l.Nodup → (∀ x ∈ l, x ∈ u) → l.length ≤ u.length
  | [], u, _, _ => Nat.zero_le _
  | a :: l, u, nd, h => by
    rw [List.nodup_cons] at nd
    have ha := h a List.mem_cons_self
    have : l.length ≤ (u.erase a).length := nodup_len nd.2 fun x hx => by
      have hne : x ≠ a := fun e => nd.1 (e ▸ hx)
      exact (List.mem_erase_of_ne hne).mpr (h x (List.mem_cons_of_mem _ hx))
    rw [List.length_erase_of_mem ha] at this
    have := List.length_pos_of_mem ha
    rw [List.length_cons]
    omega
def spots (rt : Rt) : List (W × Nat) := [W.data, .flag, .ask, .told, .get].flatMap fun w => (rt w).map fun i => (w, i)
theorem mem_spots {rt : Rt} {p : W × Nat} (h : p.2 ∈ rt p.1) : p ∈ spots rt :=
  List.mem_flatMap.mpr ⟨p.1, by cases p.1 <;> simp, List.mem_map.mpr ⟨p.2, h, rfl⟩⟩
theorem spots_len {rt : Rt} {n : Nat} (h : ∀ w, (rt w).length ≤ n) : (spots rt).length ≤ 5 * n := by
  unfold spots
  simp only [List.flatMap_cons, List.flatMap_nil, List.length_append, List.length_map, List.length_nil]
  have h1 := h .data
  have h2 := h .flag
  have h3 := h .ask
  have h4 := h .told
  have h5 := h .get
  omega
def cells (rt : Rt) : List (Option (W × Nat)) := none :: (spots rt).map some
def all (rt : Rt) (many : Nat) : List S :=
  (prod (prod (cells rt) (prod (cells rt) (cells rt))) (prod (prod [0, 1, 2] [0, 1, 2, 3]) (prod [false, true] [false, true]))).map fun x =>
    conc many ⟨[x.1.1, x.1.2.1, x.1.2.2].filterMap id, x.2.1.1, x.2.1.2, x.2.2.1, x.2.2.2⟩
theorem all_len {rt : Rt} {many : Nat} (h : ∀ w, (rt w).length ≤ 8) : (all rt many).length ≤ 3308208 := by
  have hc : (cells rt).length ≤ 41 := by
    have := spots_len h
    unfold cells
    rw [List.length_cons, List.length_map]
    omega
  unfold all
  rw [List.length_map, prod_len, prod_len, prod_len, prod_len, prod_len, prod_len]
  have h1 : (cells rt).length * (cells rt).length ≤ 41 * 41 := Nat.mul_le_mul hc hc
  have h2 : (cells rt).length * ((cells rt).length * (cells rt).length) ≤ 41 * (41 * 41) := Nat.mul_le_mul hc h1
  simp only [List.length_cons, List.length_nil]
  omega
theorem short {rt : Rt} {a : A} (w : Wf rt a) : a.fl.length ≤ 3 := by
  have := nodup_len (u := [0, 1, 2]) w.nd fun x hx => by
    obtain ⟨p, _, rfl⟩ := List.mem_map.mp hx
    cases p.1 <;> simp [cls]
  simpa using this
theorem in_all {rt : Rt} {many : Nat} {a : A} (w : Wf rt a) : conc many a ∈ all rt many := by
  obtain ⟨fl, m, s, d, f⟩ := a
  have hm := w.m2
  have hs := w.s3
  have hl := short w
  have he : ∀ p ∈ fl, some p ∈ cells rt := fun p hp => List.mem_cons_of_mem _ (List.mem_map.mpr ⟨p, mem_spots (w.ent p hp), rfl⟩)
  have h0 : (none : Option (W × Nat)) ∈ cells rt := List.mem_cons_self
  have hb : (((m, s) : Nat × Nat), ((d, f) : Bool × Bool)) ∈ prod (prod [0, 1, 2] [0, 1, 2, 3]) (prod [false, true] [false, true]) := by
    refine mem_prod (mem_prod ?_ ?_) (mem_prod ?_ ?_)
    · simp only at hm; have : m = 0 ∨ m = 1 ∨ m = 2 := by omega
      rcases this with rfl | rfl | rfl <;> simp
    · simp only at hs; have : s = 0 ∨ s = 1 ∨ s = 2 ∨ s = 3 := by omega
      rcases this with rfl | rfl | rfl | rfl <;> simp
    · cases d <;> simp
    · cases f <;> simp
  refine List.mem_map.mpr ?_
  match fl, he, hl with
  | [], he, _ => exact ⟨((none, none, none), ((m, s), (d, f))), mem_prod (mem_prod h0 (mem_prod h0 h0)) hb, rfl⟩
  | [p], he, _ => exact ⟨((some p, none, none), ((m, s), (d, f))), mem_prod (mem_prod (he p (by simp)) (mem_prod h0 h0)) hb, rfl⟩
  | [p, q], he, _ => exact ⟨((some p, some q, none), ((m, s), (d, f))), mem_prod (mem_prod (he p (by simp)) (mem_prod (he q (by simp)) h0)) hb, rfl⟩
  | [p, q, r], he, _ => exact ⟨((some p, some q, some r), ((m, s), (d, f))), mem_prod (mem_prod (he p (by simp)) (mem_prod (he q (by simp)) (he r (by simp)))) hb, rfl⟩
  | p :: q :: r :: t :: l, he, hl => simp at hl
theorem reach_wf {rt : Rt} {al : Al} {many : Nat} (R : RtOk rt many) : ∀ s, Reach rt al many s → ∃ a, s = conc many a ∧ Wf rt a := by
  intro s h
  induction h with
  | start =>
    refine ⟨⟨[], 0, 0, false, false⟩, ?_, Wf.start⟩
    unfold start conc queues
    congr 1
    exact (List.eq_replicate_iff.mpr ⟨by simp, fun b hb => by obtain ⟨i, _, rfl⟩ := List.mem_map.mp hb; rfl⟩).symm
  | step _ hb ih =>
    obtain ⟨a, rfl, W'⟩ := ih
    obtain ⟨r, hr, e⟩ := (behind_conc R a W'.ent _).mp hb
    cases r with
    | none => exact nomatch e
    | some a' => exact ⟨a', Option.some.inj e, W'.step R.at' (deed_of hr)⟩
/-- so many different states at most -/
theorem few {rt : Rt} {al : Al} {many : Nat} (R : RtOk rt many) (h8 : ∀ w, (rt w).length ≤ 8) {l : List S} (nd : l.Nodup) (h : ∀ s ∈ l, Reach rt al many s) : l.length ≤ 3308208 :=
  Nat.le_trans (nodup_len nd fun s hs => by obtain ⟨a, rfl, w⟩ := reach_wf R s (h s hs); exact in_all w) (all_len h8)
end K74
/-! K74, part 6: the routes' numbers; what forbidden returns is the answer -/
namespace K74
/-- the links of further ways behind those that are there -/
def more (L : List (Path × Path)) (x y : Path) : List (Path × Path) := L ++ (lk x y).filter fun p => decide (p ∉ L)
section
variable {L : List (Path × Path)} {x y : Path}
theorem more_nodup (h : L.Nodup) : (more L x y).Nodup := by
  unfold more
  rw [List.nodup_append]
  refine ⟨h, (lk_nodup x y).filter _, fun a ha b hb e => ?_⟩
  have := (List.mem_filter.mp hb).2
  subst e
  exact absurd ha (by simpa using this)
theorem more_pre : ∃ r, more L x y = L ++ r := ⟨_, rfl⟩
theorem more_mem {p : Path × Path} (h : p ∈ lk x y) : p ∈ more L x y := by
  unfold more
  by_cases e : p ∈ L
  · exact List.mem_append_left _ e
  · exact List.mem_append_right _ (List.mem_filter.mpr ⟨h, by simpa using e⟩)
end
structure Four where
  p : Path
  c : Path
  d : Path
  f : Path
def Four.from' (F : Four) : W → Path
  | .data => F.p
  | .flag => F.p
  | .ask => F.c
  | .told => F.f
  | .get => F.c
def Four.to (F : Four) : W → Path
  | .data => F.d
  | .flag => F.f
  | .ask => F.f
  | .told => F.c
  | .get => F.d
def Four.lk (F : Four) (w : W) : List (Path × Path) := K74.lk (F.from' w) (F.to w)
/-- the links when so many ways are laid -/
def Four.net (F : Four) (ws : List W) : List (Path × Path) := ws.foldl (fun L w => more L (F.from' w) (F.to w)) []
def five : List W := [.data, .flag, .ask, .told, .get]
def Four.links (F : Four) : List (Path × Path) := F.net five
def Four.rt (F : Four) : Rt := fun w => (F.lk w).map fun p => F.links.idxOf p
def Four.many (F : Four) : Nat := F.links.length
section
variable {F : Four}
theorem net_nodup (ws : List W) : (F.net ws).Nodup := by
  have : ∀ (ws : List W) (L : List (Path × Path)), L.Nodup → (ws.foldl (fun L w => more L (F.from' w) (F.to w)) L).Nodup := by
    intro ws
    induction ws with
    | nil => exact fun _ h => h
    | cons w ws ih => exact fun L h => ih _ (more_nodup h)
  exact this ws [] List.nodup_nil
theorem net_pre (ws vs : List W) : ∃ r, F.net (ws ++ vs) = F.net ws ++ r := by
  have : ∀ (vs : List W) (L : List (Path × Path)), ∃ r, vs.foldl (fun L w => more L (F.from' w) (F.to w)) L = L ++ r := by
    intro vs
    induction vs with
    | nil => exact fun L => ⟨[], by simp⟩
    | cons w vs ih =>
      intro L
      obtain ⟨r, e⟩ := ih (more L (F.from' w) (F.to w))
      obtain ⟨r', e'⟩ := more_pre (L := L) (x := F.from' w) (y := F.to w)
      exact ⟨r' ++ r, by rw [List.foldl_cons, e, e', List.append_assoc]⟩
  unfold Four.net
  rw [List.foldl_append]
  exact this vs _
theorem net_snoc (ws : List W) (w : W) : F.net (ws ++ [w]) = more (F.net ws) (F.from' w) (F.to w) := by
  unfold Four.net; rw [List.foldl_append]; rfl
theorem net_idx {ws vs : List W} {w : W} {p : Path × Path} (e : ws ++ w :: vs = five) (h : p ∈ F.lk w) : (F.net (ws ++ [w])).idxOf p = F.links.idxOf p ∧ p ∈ F.net (ws ++ [w]) := by
  have hm : p ∈ F.net (ws ++ [w]) := by rw [net_snoc]; exact more_mem h
  obtain ⟨r, er⟩ := net_pre (F := F) (ws ++ [w]) vs
  have : F.links = F.net (ws ++ [w]) ++ r := by
    rw [← er]; unfold Four.links; rw [← e]; simp
  refine ⟨?_, hm⟩
  rw [this, List.idxOf_append, if_pos hm]
theorem in_links {w : W} {p : Path × Path} (h : p ∈ F.lk w) : p ∈ F.links := by
  have : ∃ ws vs, ws ++ w :: vs = five := by
    cases w
    · exact ⟨[], _, rfl⟩
    · exact ⟨[.data], _, rfl⟩
    · exact ⟨[.data, .flag], _, rfl⟩
    · exact ⟨[.data, .flag, .ask], _, rfl⟩
    · exact ⟨[.data, .flag, .ask, .told], _, rfl⟩
  obtain ⟨ws, vs, e⟩ := this
  obtain ⟨r, er⟩ := net_pre (F := F) (ws ++ [w]) vs
  have q : F.links = F.net (ws ++ [w]) ++ r := by
    rw [← er]; unfold Four.links; rw [← e]; simp
  rw [q]
  exact List.mem_append_left _ (net_idx e h).2
theorem idx_inj {l : List (Path × Path)} {p q : Path × Path} (hp : p ∈ l) (hq : q ∈ l) (e : l.idxOf p = l.idxOf q) : p = q := by
  have h1 := List.getElem_idxOf (List.idxOf_lt_length_of_mem hp)
  have h2 := List.getElem_idxOf (List.idxOf_lt_length_of_mem hq)
  rw [← h1, ← h2]
  simp only [e]
theorem map_nodup {α β : Type} {f : α → β} : ∀ {l : List α}, l.Nodup → (∀ a ∈ l, ∀ b ∈ l, f a = f b → a = b) → (l.map f).Nodup
  | [], _, _ => List.nodup_nil
  | a :: l, nd, h => by
    rw [List.nodup_cons] at nd
    rw [List.map_cons, List.nodup_cons]
    refine ⟨fun q => ?_, map_nodup nd.2 fun b hb c hc => h b (List.mem_cons_of_mem _ hb) c (List.mem_cons_of_mem _ hc)⟩
    obtain ⟨b, hb, e⟩ := List.mem_map.mp q
    have := h b (List.mem_cons_of_mem _ hb) a List.mem_cons_self e
    subst this
    exact nd.1 hb
theorem rt_mem {w : W} {p : Path × Path} (hp : p ∈ F.links) : F.links.idxOf p ∈ F.rt w ↔ p ∈ F.lk w := by
  constructor
  · intro h
    obtain ⟨q, hq, e⟩ := List.mem_map.mp h
    exact idx_inj (in_links hq) hp e ▸ hq
  · exact fun h => List.mem_map.mpr ⟨p, h, rfl⟩
theorem rt_nil {w : W} : F.rt w = [] ↔ F.lk w = [] := by unfold Four.rt; exact List.map_eq_nil_iff
theorem rt_ok (F : Four) : RtOk F.rt F.many where
  nd := fun w => map_nodup (lk_nodup _ _) fun a ha b hb e => idx_inj (in_links ha) (in_links hb) e
  lt := fun w i h => by
    obtain ⟨p, hp, rfl⟩ := List.mem_map.mp h
    exact List.idxOf_lt_length_of_mem (in_links hp)
  at' := by rw [rt_nil, rt_nil]; exact lk_rev_nil _ _
theorem rt_len {w : W} {n : Nat} (h : (F.from' w).length ≤ n ∧ (F.to w).length ≤ n) : (F.rt w).length ≤ n + n := by
  have := lk_len (F.from' w) (F.to w)
  unfold Four.rt Four.lk
  rw [List.length_map]
  omega
end
theorem seg {r r' u s v u' v' : List Nat} (e : r = u ++ s ++ v) (e' : r' = u' ++ s ++ v') (nd : r.Nodup) (nd' : r'.Nodup) : ∀ i ∈ r, u.length ≤ r.idxOf i → r.idxOf i < u.length + s.length → i ∈ r' ∧ r'.idxOf i + u.length = r.idxOf i + u'.length := by
  intro i hi h1 h2
  have hl := List.idxOf_lt_length_of_mem hi
  have hx := List.getElem_idxOf hl
  have hs : r.idxOf i - u.length < s.length := by omega
  have g1 : s[r.idxOf i - u.length] = i := by
    have : r[r.idxOf i]? = some i := by rw [List.getElem?_eq_getElem hl, hx]
    rw [show r[r.idxOf i]? = (u ++ s ++ v)[r.idxOf i]? from by rw [← e], List.append_assoc, List.getElem?_append_right h1, List.getElem?_append_left hs, List.getElem?_eq_getElem hs] at this
    exact Option.some.inj this
  have hl' : u'.length + (r.idxOf i - u.length) < r'.length := by rw [e', List.length_append, List.length_append]; omega
  have g2 : r'[u'.length + (r.idxOf i - u.length)] = i := by
    have : r'[u'.length + (r.idxOf i - u.length)]? = some i := by
      rw [show r'[u'.length + (r.idxOf i - u.length)]? = (u' ++ s ++ v')[u'.length + (r.idxOf i - u.length)]? from by rw [← e'], List.append_assoc, List.getElem?_append_right (by omega), List.getElem?_append_left (by omega), Nat.add_sub_cancel_left, List.getElem?_eq_getElem hs, g1]
    rw [List.getElem?_eq_getElem hl'] at this
    exact Option.some.inj this
  refine ⟨g2 ▸ List.getElem_mem hl', ?_⟩
  have := nd'.idxOf_getElem _ hl'
  rw [g2] at this
  omega
/-- THE ANSWER: a miss can be reached exactly if a pair that forbidden returns is allowed -/
theorem answer (F : Four) {al : Al} (hw : (Kd.write, Kd.write) ∉ al) :
    Miss F.rt al F.many ↔ ((lastOf F.p F.c F.d F.f ≠ startOf F.p F.d F.f ∧ (Kd.answer, Kd.write) ∈ al) ∨ (lastOf F.p F.c F.d F.f ≠ F.d ∧ (Kd.read, Kd.write) ∈ al)) := by
  obtain ⟨a, b, e, f', t1, t2, g1, hd, hf, ht, hg, nb, ne, cb, ce⟩ := parts F.p F.c F.d F.f
  have R := rt_ok F
  have ix : ∀ w, F.rt w = (F.lk w).map fun p => F.links.idxOf p := fun _ => rfl
  have rd : F.rt .data = a.map (fun p => F.links.idxOf p) ++ b.map (fun p => F.links.idxOf p) ++ e.map (fun p => F.links.idxOf p) := by
    rw [ix, show F.lk .data = a ++ b ++ e from hd, List.map_append, List.map_append]
  have rf : F.rt .flag = [] ++ a.map (fun p => F.links.idxOf p) ++ f'.map (fun p => F.links.idxOf p) := by
    rw [ix, show F.lk .flag = a ++ f' from hf, List.map_append]; rfl
  have rg : F.rt .get = g1.map (fun p => F.links.idxOf p) ++ e.map (fun p => F.links.idxOf p) ++ [] := by
    rw [ix, show F.lk .get = g1 ++ e from hg, List.map_append, List.append_nil]
  constructor
  · intro hm
    apply Classical.byContradiction
    intro no
    have no1 : b ≠ [] → (Kd.answer, Kd.write) ∉ al := fun h q => no (.inl ⟨fun z => h (nb.mpr z), q⟩)
    have no2 : e ≠ [] → (Kd.read, Kd.write) ∉ al := fun h q => no (.inr ⟨fun z => h (ne.mpr z), q⟩)
    have sf := seg (u := []) (by rw [rd, List.nil_append, List.append_assoc] : F.rt .data = [] ++ a.map (fun p => F.links.idxOf p) ++ (b.map (fun p => F.links.idxOf p) ++ e.map (fun p => F.links.idxOf p))) rf (R.nd _) (R.nd _)
    have sg := seg (v := []) (by rw [rd, List.append_nil] : F.rt .data = (a.map (fun p => F.links.idxOf p) ++ b.map (fun p => F.links.idxOf p)) ++ e.map (fun p => F.links.idxOf p) ++ []) rg (R.nd _) (R.nd _)
    have st : ∀ i ∈ F.rt .data, a.length ≤ (F.rt .data).idxOf i → (F.rt .data).idxOf i < a.length + b.length → i ∈ F.rt .told ∧ (F.rt .told).idxOf i + a.length = (F.rt .data).idxOf i + t1.length := by
      intro i hi h1 h2
      rcases ht with q | q
      · rw [q] at h2; simp only [List.length_nil] at h2; omega
      · have rt' : F.rt .told = t1.map (fun p => F.links.idxOf p) ++ b.map (fun p => F.links.idxOf p) ++ t2.map (fun p => F.links.idxOf p) := by
          rw [ix, show F.lk .told = t1 ++ b ++ t2 from q, List.map_append, List.map_append]
        have := seg rd rt' (R.nd _) (R.nd _) i hi (by rw [List.length_map]; exact h1) (by rw [List.length_map, List.length_map]; exact h2)
        rw [List.length_map, List.length_map] at this
        exact this
    simp only [List.length_map, List.length_nil, List.length_append, Nat.zero_add, Nat.zero_le, true_implies, Nat.add_zero] at sf sg
    have ld : (F.rt .data).length = a.length + b.length + e.length := by rw [rd]; simp [Nat.add_assoc]
    have lt : ∀ i ∈ F.rt .data, (F.rt .data).idxOf i < a.length + b.length + e.length := fun i hi => by rw [← ld]; exact List.idxOf_lt_length_of_mem hi
    refine no_miss R (la := a.length) (lb := b.length) ?_ hm
    refine ⟨fun i hi h => (sf i hi h).1, fun i hi j hj h1 h2 => ?_, fun i hi h1 h2 => (st i hi h1 h2).1, fun i hi j hj h1 h2 h3 => ?_, fun i hi h => (sg i hi h (lt i hi)).1, fun i hi j hj h1 h2 => ?_, hw, fun i hi h1 h2 => no1 fun z => ?_, fun i hi h => no2 fun z => ?_⟩
    · have := (sf i hi (by omega)).2
      have := (sf j hj h2).2
      omega
    · have := (st i hi h2 (by omega)).2
      have := (st j hj (by omega) h3).2
      omega
    · have := (sg i hi h2 (lt i hi)).2
      have := (sg j hj (by omega) (lt j hj)).2
      omega
    · rw [z] at h2; simp only [List.length_nil] at h2; omega
    · have := lt i hi
      rw [z] at this; simp only [List.length_nil] at this; omega
  · rintro (⟨h, q⟩ | ⟨h, q⟩)
    · have hb : b ≠ [] := fun z => h (nb.mp z)
      cases b with
      | nil => exact absurd rfl hb
      | cons x b =>
        obtain ⟨c1, c2, c3⟩ := cb x rfl
        have hx : x ∈ F.lk .data := by show x ∈ lk F.p F.d; rw [hd]; simp
        have hl := in_links hx
        refine miss_run R (h := F.links.idxOf x) ((rt_mem hl).mpr hx) (fun z => c1 ((rt_mem hl).mp z)) (fun z => c2 ((rt_mem hl).mp z)) (fun _ => q) fun z => absurd ((rt_mem hl).mp z) c3
    · have hb : e ≠ [] := fun z => h (ne.mp z)
      cases e with
      | nil => exact absurd rfl hb
      | cons x e =>
        obtain ⟨c1, c2, c3⟩ := ce x rfl
        have hx : x ∈ F.lk .data := by show x ∈ lk F.p F.d; rw [hd]; simp
        have hl := in_links hx
        exact miss_run R (h := F.links.idxOf x) ((rt_mem hl).mpr hx) (fun z => c1 ((rt_mem hl).mp z)) (fun z => c2 ((rt_mem hl).mp z)) (fun z => absurd ((rt_mem hl).mp z) c3) fun _ => q

/-! ### the ways as the program writes them -/
/-- m: how far two paths go together -/
structure Meet (x y : Path) (m : Nat) : Prop where
  lx : m ≤ x.length
  ly : m ≤ y.length
  eq : x.take m = y.take m
  mx : m = x.length ∨ m = y.length ∨ x[m]? ≠ y[m]?
theorem Meet.pre {x y : Path} {m : Nat} (h : Meet x y m) : x <+: y ↔ m = x.length := by
  constructor
  · intro p
    have hl := p.length_le
    have := h.lx
    have := h.ly
    rcases h.mx with q | q | q
    · exact q
    · omega
    · apply Classical.byContradiction
      intro c
      apply q
      obtain ⟨t, rfl⟩ := p
      rw [List.getElem?_append_left (by omega)]
  · intro e
    have := h.eq
    rw [e, List.take_length] at this
    rw [this]
    exact take_pre y _
/-- the paths above x from x on up; those above y from the top down to y -/
def Dn (y : Path) : List Path := (List.range (y.length + 1)).map fun k => y.take k
def Up (x : Path) : List Path := (Dn x).reverse
theorem Dn_len (y : Path) : (Dn y).length = y.length + 1 := by simp [Dn]
theorem Up_len (y : Path) : (Up y).length = y.length + 1 := by simp [Up, Dn_len]
theorem Dn_get {y : Path} {k : Nat} (h : k ≤ y.length) : (Dn y)[k]? = some (y.take k) := by
  unfold Dn
  rw [List.getElem?_map, List.getElem?_range (by omega)]; rfl
theorem Up_get {y : Path} {k : Nat} (h : k ≤ y.length) : (Up y)[k]? = some (y.take (y.length - k)) := by
  unfold Up
  rw [List.getElem?_reverse (by rw [Dn_len]; omega), Dn_len, show y.length + 1 - 1 - k = y.length - k from by omega, Dn_get (by omega)]
theorem Dn_drop {y : Path} {k : Nat} (h : k ≤ y.length) : (Dn y).drop k = y.take k :: (Dn y).drop (k + 1) := by
  have hk : k < (Dn y).length := by rw [Dn_len]; omega
  rw [List.drop_eq_getElem_cons hk]
  have := Dn_get h
  rw [List.getElem?_eq_getElem hk] at this
  rw [Option.some.inj this]
theorem mem_Dn {y v : Path} : v ∈ Dn y ↔ v <+: y := by
  unfold Dn
  rw [List.mem_map]
  constructor
  · rintro ⟨k, _, rfl⟩; exact take_pre y k
  · intro h
    exact ⟨v.length, List.mem_range.mpr (by have := h.length_le; omega), pre_take h⟩
theorem way_down {x y : Path} (h : x <+: y) : way x y = (Dn y).drop x.length := by
  generalize hn : y.length - x.length = n
  induction n generalizing x with
  | zero =>
    have := h.length_le
    have e : x = y := h.eq_of_length_le (by omega)
    subst e
    rw [way_self, Dn_drop (Nat.le_refl _), List.take_length, List.drop_eq_nil_of_le (by rw [Dn_len]; omega)]
  | succ n ih =>
    have ne : x ≠ y := fun e => by subst e; omega
    have hl := pre_len h ne
    rw [way_ne ne, nxt_down h, Dn_drop h.length_le, pre_take h]
    have := ih (x := y.take (x.length + 1)) (take_pre y _) (by rw [List.length_take]; omega)
    rw [this, List.length_take, show min (x.length + 1) y.length = x.length + 1 from by omega]
theorem Up_cons {x : Path} (h : x ≠ []) : Up x = x :: Up x.dropLast := by
  have hl : 0 < x.length := List.length_pos_iff.mpr h
  unfold Up Dn
  rw [List.range_succ, List.map_append, List.reverse_append]
  show x.take x.length :: _ = _
  rw [List.take_length, List.length_dropLast, show x.length - 1 + 1 = x.length from by omega]
  congr 1
  show (List.map (fun k => x.take k) (List.range x.length)).reverse = _
  congr 1
  refine List.map_congr_left fun k hk => ?_
  have := List.mem_range.mp hk
  rw [List.dropLast_eq_take, List.take_take, show min k (x.length - 1) = k from by omega]
theorem way_meet {x y : Path} {m : Nat} (h : Meet x y m) : way x y = (Up x).take (x.length - m) ++ (Dn y).drop m := by
  generalize hn : x.length - m = n
  induction n generalizing x with
  | zero =>
    have := h.lx
    have e : m = x.length := by omega
    rw [way_down (h.pre.mpr e), e]; rfl
  | succ n ih =>
    have hp : ¬ x <+: y := fun p => by have := h.pre.mp p; omega
    have ne : x ≠ y := fun e => hp (e ▸ List.prefix_rfl)
    have hx : x ≠ [] := not_nil_of_npre hp
    have hlx := h.lx
    have hly := h.ly
    have h' : Meet x.dropLast y m := by
      refine ⟨by rw [List.length_dropLast]; omega, hly, ?_, ?_⟩
      · rw [List.dropLast_eq_take, List.take_take, show min m (x.length - 1) = m from by omega, h.eq]
      · rw [List.length_dropLast]
        rcases h.mx with q | q | q
        · omega
        · exact .inr (.inl q)
        · by_cases c : m = x.length - 1
          · exact .inl c
          · refine .inr (.inr ?_)
            rw [List.dropLast_eq_take, List.getElem?_take_of_lt (by omega)]
            exact q
    rw [way_ne ne, nxt_up hp, ih h' (by rw [List.length_dropLast]; omega), Up_cons hx]
    rfl
def lcp : Path → Path → Nat
  | a :: x, b :: y => if a = b then lcp x y + 1 else 0
  | _, _ => 0
theorem meet : ∀ x y : Path, Meet x y (lcp x y)
  | [], y => ⟨Nat.le_refl _, Nat.zero_le _, rfl, .inl rfl⟩
  | a :: x, [] => ⟨Nat.zero_le _, Nat.le_refl _, rfl, .inr (.inl rfl)⟩
  | a :: x, b :: y => by
    unfold lcp
    by_cases e : a = b
    · subst e
      rw [if_pos rfl]
      have ih := meet x y
      refine ⟨Nat.succ_le_succ ih.lx, Nat.succ_le_succ ih.ly, ?_, ?_⟩
      · rw [List.take_succ_cons, List.take_succ_cons, ih.eq]
      · rcases ih.mx with q | q | q
        · exact .inl (by rw [List.length_cons, q])
        · exact .inr (.inl (by rw [List.length_cons, q]))
        · exact .inr (.inr (by simpa using q))
    · rw [if_neg e]
      exact ⟨Nat.zero_le _, Nat.zero_le _, rfl, .inr (.inr (by simpa using e))⟩
/-- way_between's list -/
theorem way_prog {x y : Path} {m : Nat} (h : Meet x y m) : way x y = (Up x).take (x.length - m + 1) ++ (Dn y).drop (m + 1) := by
  have hx := h.lx
  rw [way_meet h, Dn_drop h.ly, ← h.eq]
  have hk : x.length - m < (Up x).length := by rw [Up_len]; omega
  have := Up_get (y := x) (k := x.length - m) (by omega)
  rw [show x.length - (x.length - m) = m from by omega, List.getElem?_eq_getElem hk] at this
  rw [List.take_add_one, List.getElem?_eq_getElem hk, Option.some.inj this]
  simp
/-- the law's own way -/
def lawTop (x y : Path) : Path := ((Up x).filter fun v => decide (v ∈ Dn y)).headD []
theorem law_top {x y : Path} {m : Nat} (h : Meet x y m) : (Up x).filter (fun v => decide (v ∈ Dn y)) = (Up x).drop (x.length - m) := by
  have hx := h.lx
  have e := List.take_append_drop (x.length - m) (Up x)
  have mem_take : ∀ k, k ≤ x.length → (x.take k <+: y ↔ k ≤ m) := by
    intro k hk
    constructor
    · intro p
      rcases Nat.lt_or_ge m k with c | c
      · exfalso
        have hly := p.length_le
        rw [List.length_take, show min k x.length = k from by omega] at hly
        rcases h.mx with q | q | q
        · omega
        · omega
        · apply q
          obtain ⟨t, ht⟩ := p
          rw [← ht, List.getElem?_append_left (by rw [List.length_take]; omega), List.getElem?_take_of_lt c]
      · exact c
    · intro hkm
      have : x.take k <+: x.take m := List.take_prefix_take_left (l := x) hkm
      rw [h.eq] at this
      exact this.trans (take_pre y m)
  rw [← e, List.filter_append]
  have f1 : ((Up x).take (x.length - m)).filter (fun v => decide (v ∈ Dn y)) = [] := by
    refine List.filter_eq_nil_iff.mpr fun v hv => ?_
    obtain ⟨k, hk, hkv⟩ := List.mem_iff_getElem.mp hv
    have hk2 := hk
    rw [List.length_take, Up_len] at hk2
    have : (Up x)[k]? = some v := by rw [← hkv, List.getElem_take, List.getElem?_eq_getElem]
    rw [Up_get (by omega)] at this
    cases this
    intro q
    have q := mem_Dn.mp (of_decide_eq_true q)
    have := (mem_take _ (by omega)).mp q
    omega
  have f2 : ((Up x).drop (x.length - m)).filter (fun v => decide (v ∈ Dn y)) = (Up x).drop (x.length - m) := by
    refine List.filter_eq_self.mpr fun v hv => ?_
    obtain ⟨k, hk, hkv⟩ := List.mem_iff_getElem.mp hv
    have hk2 := hk
    rw [List.length_drop, Up_len] at hk2
    have : (Up x)[x.length - m + k]? = some v := by rw [← hkv, List.getElem_drop, List.getElem?_eq_getElem]
    rw [Up_get (by omega)] at this
    cases this
    exact decide_eq_true (mem_Dn.mpr ((mem_take _ (by omega)).mpr (by omega)))
  rw [f1, f2, List.nil_append, e]
theorem Dn_nodup (y : Path) : (Dn y).Nodup := by
  unfold Dn
  refine map_nodup List.nodup_range fun a ha b hb e => ?_
  have ha := List.mem_range.mp ha
  have hb := List.mem_range.mp hb
  have := congrArg List.length e
  rw [List.length_take, List.length_take] at this
  omega
theorem Up_nodup (y : Path) : (Up y).Nodup := by
  unfold Up
  exact (List.reverse_perm (Dn y)).nodup_iff.mpr (Dn_nodup y)
theorem law_way (x y : Path) : ∃ m, m ≤ x.length ∧ m ≤ y.length ∧ ((Up x).filter fun v => decide (v ∈ Dn y))[0]? = some (x.take m) ∧ (Up x)[x.length - m]? = some (x.take m) ∧ (Dn y)[m]? = some (x.take m) ∧
    way x y = (Up x).take (x.length - m) ++ (Dn y).drop m := by
  have h := meet x y
  have hx := h.lx
  have hy := h.ly
  generalize lcp x y = m at h hx hy
  have e1 := Up_get (y := x) (k := x.length - m) (by omega)
  rw [show x.length - (x.length - m) = m from by omega] at e1
  have e2 := Dn_get h.ly
  rw [← h.eq] at e2
  refine ⟨m, hx, hy, ?_, e1, e2, way_meet h⟩
  rw [law_top h, List.getElem?_drop, Nat.add_zero]
  exact e1
end K74
/-! K74, the walk's base: data in the heap; a dict with nested keys -/
namespace KW
open L2 PySem PySem.Spec PyProof.Rows
mutual
/-- the value is this data, all of it tracked tuples -/
inductive TD (H : Hp) : V → PyData → Prop
  | non : TD H .non .none
  | bl (b : Bool) : TD H (.bl b) (.bool b)
  | int (i : Int) : TD H (.int i) (.int i)
  | str (x : Str) : TD H (.str x) (.str x)
  | tup {a : Addr} {xs : List V} {ds : List PyData} : H a = some (.tup xs) → TDs H xs ds → TD H (.ref a) (.tuple ds)
inductive TDs (H : Hp) : List V → List PyData → Prop
  | nil : TDs H [] []
  | cons {v : V} {vs : List V} {d : PyData} {ds : List PyData} : TD H v d → TDs H vs ds → TDs H (v :: vs) (d :: ds)
end
/-- the tuples stand -/
def TK (H H' : Hp) : Prop := ∀ b xs, H b = some (.tup xs) → H' b = some (.tup xs)
theorem TK.refl (H : Hp) : TK H H := fun _ _ h => h
theorem TK.trans {H H1 H2 : Hp} (a : TK H H1) (b : TK H1 H2) : TK H H2 := fun c o h => b c o (a c o h)
theorem TK.same {H H' : Hp} (s : Same H H') : TK H H' := fun b xs h => s b _ h
theorem TK.put {H : Hp} {a : Addr} {o : HO} (h : ∀ xs, H a ≠ some (.tup xs)) : TK H (upd H a o) := fun b xs e => by
  have hb : b ≠ a := fun z => by subst z; exact h xs e
  rw [upd_ne hb]; exact e
section
variable {H H' : Hp}
mutual
theorem TD.keep (k : TK H H') : ∀ (d : PyData) (v : V), TD H v d → TD H' v d
  | .none, _, h => by cases h; exact .non
  | .bool b, _, h => by cases h; exact .bl b
  | .int b, _, h => by cases h; exact .int b
  | .str b, _, h => by cases h; exact .str b
  | .tuple ds, _, h => by
    cases h with
    | tup e hs => exact .tup (k _ _ e) (TDs.keep k ds _ hs)
  | .list ds, _, h => by cases h
  | .dict ds, _, h => by cases h
theorem TDs.keep (k : TK H H') : ∀ (ds : List PyData) (vs : List V), TDs H vs ds → TDs H' vs ds
  | [], _, h => by cases h; exact .nil
  | d :: ds, _, h => by
    cases h with
    | cons h1 h2 => exact .cons (TD.keep k d _ h1) (TDs.keep k ds _ h2)
end
mutual
theorem TD.dp (K : PySem.W.Frag) : ∀ (d : PyData) (v : V), TD H v d → Dp K H v d
  | .none, _, h => by cases h; exact .non
  | .bool b, _, h => by cases h; exact .bl b
  | .int b, _, h => by cases h; exact .int b
  | .str b, _, h => by cases h; exact .str b
  | .tuple ds, _, h => by
    cases h with
    | tup e hs => exact .tup (SqT.of e) (TDs.dp K ds _ hs)
  | .list ds, _, h => by cases h
  | .dict ds, _, h => by cases h
theorem TDs.dp (K : PySem.W.Frag) : ∀ (ds : List PyData) (vs : List V), TDs H vs ds → DpAll K H vs ds
  | [], _, h => by cases h; exact .nil
  | d :: ds, _, h => by
    cases h with
    | cons h1 h2 => exact .cons (TD.dp K d _ h1) (TDs.dp K ds _ h2)
end
theorem TD.k {d : PyData} {v : V} (h : TD H v d) (k : TK H H') : TD H' v d := TD.keep k d v h
theorem TDs.k {ds : List PyData} {vs : List V} (h : TDs H vs ds) (k : TK H H') : TDs H' vs ds := TDs.keep k ds vs h
theorem TDs.length : ∀ {vs : List V} {ds : List PyData}, TDs H vs ds → vs.length = ds.length
  | _, _, .nil => rfl
  | _, _, .cons _ h => by rw [List.length_cons, List.length_cons, TDs.length h]
theorem TDs.append : ∀ {vs ws : List V} {ds es : List PyData}, TDs H vs ds → TDs H ws es → TDs H (vs ++ ws) (ds ++ es)
  | _, _, _, _, .nil, h => h
  | _, _, _, _, .cons h1 h2, h => .cons h1 (TDs.append h2 h)
theorem TDs.take : ∀ {vs : List V} {ds : List PyData} (n : Nat), TDs H vs ds → TDs H (vs.take n) (ds.take n)
  | _, _, 0, _ => .nil
  | _, _, _ + 1, .nil => .nil
  | _, _, n + 1, .cons h t => .cons h (TDs.take n t)
theorem TDs.drop : ∀ {vs : List V} {ds : List PyData} (n : Nat), TDs H vs ds → TDs H (vs.drop n) (ds.drop n)
  | _, _, 0, r => r
  | _, _, _ + 1, .nil => .nil
  | _, _, n + 1, .cons _ t => TDs.drop n t
theorem TDs.get : ∀ {vs : List V} {ds : List PyData} {i : Nat} {d : PyData}, TDs H vs ds → ds[i]? = some d → ∃ v, vs[i]? = some v ∧ TD H v d
  | _, _, _, _, .nil, e => by simp at e
  | _, _, 0, d, .cons h _, e => by simp at e; subst e; exact ⟨_, rfl, h⟩
  | _, _, i + 1, d, .cons _ t, e => by
    obtain ⟨v, h1, h2⟩ := TDs.get (i := i) (d := d) t (by simpa using e)
    exact ⟨v, by simpa using h1, h2⟩
theorem TDs.getV : ∀ {vs : List V} {ds : List PyData} {i : Nat} {v : V}, TDs H vs ds → vs[i]? = some v → ∃ d, ds[i]? = some d ∧ TD H v d
  | _, _, _, _, .nil, e => by simp at e
  | _, _, 0, v, .cons h _, e => by simp at e; subst e; exact ⟨_, rfl, h⟩
  | _, _, i + 1, v, .cons _ t, e => by
    obtain ⟨d, h1, h2⟩ := TDs.getV (i := i) (v := v) t (by simpa using e)
    exact ⟨d, by simpa using h1, h2⟩
theorem TDs.one {v : V} {d : PyData} (h : TD H v d) : TDs H [v] [d] := .cons h .nil
theorem TDs.mem {vs : List V} {ds : List PyData} {d : PyData} (h : TDs H vs ds) (hm : d ∈ ds) : ∃ v, v ∈ vs ∧ TD H v d := by
  obtain ⟨i, hi, e⟩ := List.mem_iff_getElem.mp hm
  obtain ⟨v, h1, h2⟩ := h.get (i := i) (d := d) (by rw [List.getElem?_eq_getElem hi, e])
  exact ⟨v, List.mem_of_getElem? h1, h2⟩
theorem TDs.rev : ∀ {vs : List V} {ds : List PyData}, TDs H vs ds → TDs H vs.reverse ds.reverse
  | _, _, .nil => .nil
  | _, _, .cons h t => by rw [List.reverse_cons, List.reverse_cons]; exact (TDs.rev t).append (TDs.one h)
theorem TDs.ints (l : List Int) : TDs H (l.map V.int) (l.map PyData.int) := by
  induction l with
  | nil => exact .nil
  | cons a l ih => exact .cons (.int a) ih
end

/-! ### data as keys -/
mutual
def nk : PyData → NestedKey
  | .bool b => .num (if b = true then 1 else 0)
  | .int i => .num i
  | .str x => .text x
  | .tuple ds => .tup (nks ds)
  | _ => .none
def nks : List PyData → List NestedKey
  | [] => []
  | d :: ds => nk d :: nks ds
end
theorem nks_map : ∀ ds : List PyData, nks ds = ds.map nk
  | [] => rfl
  | d :: ds => by rw [nks, nks_map ds]; rfl
section
variable {X : Cx} {pins : List (Addr × Obj)} {σ : L2.St} {H : Hp} {s : Shared}
mutual
theorem TD.nested (I : L2.Inv X pins σ H s) : ∀ (d : PyData) (v : V) (u : Value), TD H v d → RelV v u → NestedIs s.heap (nk d) u
  | .none, _, _, h, r => by cases h; cases r; exact .none
  | .bool b, _, _, h, r => by cases h; cases r; exact .bool rfl
  | .int i, _, _, h, r => by cases h; obtain ⟨t, rfl⟩ := r; exact .int i t
  | .str x, _, _, h, r => by cases h; obtain ⟨t, rfl⟩ := r; exact .text x t
  | .tuple ds, _, _, h, r => by
    cases h with
    | tup e hs =>
      cases r
      obtain ⟨its, rv, ⟨o, ho, hc, n, hd⟩, _⟩ := I.tuple (SqT.of (K := X.K) e)
      exact .tup ho hc hd (TDs.nested I ds _ _ hs rv)
  | .list ds, _, _, h, r => by cases h
  | .dict ds, _, _, h, r => by cases h
theorem TDs.nested (I : L2.Inv X pins σ H s) : ∀ (ds : List PyData) (vs : List V) (us : List Value), TDs H vs ds → Vals vs us → NestedAll s.heap (nks ds) us.toArray.toList
  | [], _, _, h, r => by cases h; cases r; exact .nil
  | d :: ds, _, _, h, r => by
    cases h with
    | cons h1 h2 =>
      cases r with
      | cons r1 r2 => exact .cons (TD.nested I d _ _ h1 r1) (TDs.nested I ds _ _ h2 r2)
end
end

/-! ### a dict of True under nested keys -/
def ent (x : NestedKey × Addr) : NestedKey × Addr × Value := (x.1, x.2, .bool true)
/-- the dict's object holds just these keys -/
def SeenO (P : Program) (w : World) (a : Addr) (ks : List (NestedKey × Addr)) : HO := .ext fun h =>
  ∃ o es ep, h.get? a = some o ∧ o.ExactDict ∧ o.data = .dict es ep ∧ es.toList = (ks.map ent).map (entryOfKey (nestedKind P w)) ∧ (ks.map (·.1)).Nodup ∧ (a == sysModules) = false
def SeenAt (P : Program) (w : World) (H : Hp) (a : Addr) (ds : List PyData) : Prop :=
  ∃ ks : List (NestedKey × Addr), H a = some (SeenO P w a ks) ∧ ks.map (·.1) = ds.map nk ∧ ∀ x ∈ ks, ∃ d, TD H (.ref x.2) d ∧ nk d = x.1 ∧ x.1.depth ≤ 8
theorem SeenAt.keep {P : Program} {w : World} {H H' : Hp} {a : Addr} {ds : List PyData} (h : SeenAt P w H a ds) (s : Same H H') : SeenAt P w H' a ds := by
  obtain ⟨ks, e, m, f⟩ := h
  exact ⟨ks, s _ _ e, m, fun x hx => let ⟨d, h1, h2⟩ := f x hx; ⟨d, h1.k (TK.same s), h2⟩⟩
theorem SeenAt.keep' {P : Program} {w : World} {H H' : Hp} {a : Addr} {ds : List PyData} (h : SeenAt P w H a ds) (s : H' a = H a) (k : TK H H') : SeenAt P w H' a ds := by
  obtain ⟨ks, e, m, f⟩ := h
  exact ⟨ks, s.trans e, m, fun x hx => let ⟨d, h1, h2⟩ := f x hx; ⟨d, h1.k k, h2⟩⟩
theorem atKey_ent (ks : List (NestedKey × Addr)) (k : NestedKey) : (atKey (ks.map ent) k).isSome = decide (k ∈ ks.map (·.1)) := by
  induction ks with
  | nil => rfl
  | cons x ks ih =>
    by_cases h : x.1 = k
    · simp [atKey, ent, h]
    · have h' : ¬ k = x.1 := fun e => h e.symm
      simp only [List.map_cons, List.mem_cons, h', false_or] at ih ⊢
      rw [← ih]
      simp [atKey, ent, h]
section
variable {X : Cx} {pins : List (Addr × Obj)} {σ : L2.St} {H : Hp} {s : Shared} {a b : Addr} {ds : List PyData} {d : PyData}
theorem seen_raw (I : L2.Inv X pins σ H s) (h : SeenAt X.prog X.w H a ds) : ∃ ks, H a = some (SeenO X.prog X.w a ks) ∧ ks.map (·.1) = ds.map nk ∧ (∀ x ∈ ks, ∃ d, TD H (.ref x.2) d ∧ nk d = x.1 ∧ x.1.depth ≤ 8) ∧
    s.heap.DictOfH (nestedKind X.prog X.w) a (ks.map ent) ∧ (a == sysModules) = false := by
  obtain ⟨ks, e, m, f⟩ := h
  obtain ⟨⟨o, es, ep, h1, h2, h3, h4, h5, h6⟩, _, _⟩ := I.hok a _ e
  refine ⟨ks, e, m, f, ⟨o, es, ep, h1, h2, h3, h4, ?_, ?_⟩, h6⟩
  · intro x hx
    obtain ⟨y, hy, rfl⟩ := List.mem_map.mp hx
    obtain ⟨d, hd, e1, e2⟩ := f y hy
    have := TD.nested I d _ _ hd (show RelV (.ref y.2) (.ref y.2) from rfl)
    rw [e1] at this
    exact ⟨this, e2⟩
  · simpa [ent, Function.comp_def] using h5
theorem seenO_ok {P : Program} {w : World} {H : Hp} {h : Heap} {a : Addr} {ks : List (NestedKey × Addr)}
    (x : ∃ o es ep, h.get? a = some o ∧ o.ExactDict ∧ o.data = .dict es ep ∧ es.toList = (ks.map ent).map (entryOfKey (nestedKind P w)) ∧ (ks.map (·.1)).Nodup ∧ (a == sysModules) = false) : ObjOk P w H h a (SeenO P w a ks) := by
  refine ⟨x, ?_, ?_⟩
  · obtain ⟨o, _, _, e, _⟩ := x; exact ⟨o, e⟩
  · rintro h1 h2 ⟨o, es, ep, e, r⟩ k
    exact ⟨o, es, ep, k o e, r⟩
/-- x not in d -/
def rNotSeen (P : Program) (w : World) : R2 := fun x y H Q => ∃ a b ds d, x = .ref b ∧ y = .ref a ∧ SeenAt P w H a ds ∧ TD H (.ref b) d ∧ (nk d).depth ≤ 8 ∧ Q (.bl (!decide (nk d ∈ ds.map nk))) H
theorem op_notSeen (hu : X.A.units + 9 < cLine) : OpR X (compareOp .NotIn) (rNotSeen X.prog X.w) := by
  intro pins s σ H x y v u Q I rx ry want
  obtain ⟨a, b, ds, d, rfl, rfl, hs, hd, hk, q⟩ := want
  cases rx
  cases ry
  obtain ⟨ks, e, m, f, dd, ns⟩ := seen_raw I hs
  have hn := TD.nested I d _ _ hd (show RelV (.ref b) (.ref b) from rfl)
  refine wpAny_notIn_heap (knd := nestedKind X.prog X.w) (show X.A.units + 1 + 8 < cLine by omega) ⟨hn, hk⟩ ns dd ?_
  rw [atKey_ent, m]
  exact ⟨.bl _, H, I.tok _, rfl, q⟩
/-- d[x] = True, a new key -/
def rPutSeen (P : Program) (w : World) : TSet := fun o i v H Q => ∃ a b ds d, o = .ref a ∧ i = .ref b ∧ v = .bl true ∧ SeenAt P w H a ds ∧ TD H (.ref b) d ∧ (nk d).depth ≤ 8 ∧ nk d ∉ ds.map nk ∧ ds.length < sizeLine ∧
  ∀ u, SeenAt P w (upd H a u) a (ds ++ [d]) → Mut (H a) → Q (upd H a u)
theorem set_seen (hu : X.A.units + 9 < cLine) : PSet X (rPutSeen X.prog X.w) := by
  intro pins s σ H o i v ov iv u Q I ro ri rv want
  obtain ⟨a, b, ds, d, rfl, rfl, rfl, hs, hd, hk, hno, hz, q⟩ := want
  cases ro
  cases ri
  cases rv
  obtain ⟨ks, e, m, f, dd, ns⟩ := seen_raw I hs
  have hn := TD.nested I d _ _ hd (show RelV (.ref b) (.ref b) from rfl)
  have hlen : ks.length = ds.length := by have := congrArg List.length m; simpa using this
  have hat : atKey (ks.map ent) (nk d) = none := by
    have := atKey_ent ks (nk d)
    rw [m, decide_eq_false hno] at this
    cases z : atKey (ks.map ent) (nk d) with
    | none => rfl
    | some p => rw [z] at this; exact nomatch this
  have mu : Mut (H a) := by rw [e]; exact True.intro
  refine wpAny_setItem_heap (hsz := by rw [List.length_map]; omega) (knd := nestedKind X.prog X.w) (show X.A.units + 1 + 8 < cLine by omega) ⟨hn, hk⟩ dd fun h' dd' hsb => ?_
  rw [storedH_new hat] at dd'
  have e2 : ks.map ent ++ [(nk d, b, Value.bool true)] = (ks ++ [(nk d, b)]).map ent := by rw [List.map_append]; rfl
  rw [e2] at dd'
  obtain ⟨o, es, ep, h1, h2, h3, h4, _, h5⟩ := dd'
  have hno' : ∀ xs, H a ≠ some (.tup xs) := fun xs z => by rw [e] at z; cases z
  refine ⟨upd H a (SeenO X.prog X.w a (ks ++ [(nk d, b)])), I.write (x := a) (e := a) mu (.inl rfl) (fun c r hc z => (hsb.2 c hc).trans z) ⟨o, h1⟩ (seenO_ok ⟨o, es, ep, h1, h2, h3, h4, ?_, ns⟩), q _ ⟨_, upd_same, ?_, ?_⟩ mu⟩
  · simpa [ent, Function.comp_def] using h5
  · rw [List.map_append, m, List.map_append]; rfl
  · intro x hx
    rcases List.mem_append.mp hx with z | z
    · obtain ⟨d', r1, r2⟩ := f x z
      exact ⟨d', r1.k (TK.put hno'), r2⟩
    · cases List.mem_singleton.mp z
      exact ⟨d, hd.k (TK.put hno'), rfl, hk⟩
/-- {k: True} -/
def tDispSeen (P : Program) (w : World) (tk : TE) : TE := fun σ H Q => ∀ p, H p = none → tk σ (upd H p (SeenO P w p [])) fun x H2 => H2 p = some (SeenO P w p []) ∧ ∃ b d, x = .ref b ∧ TD H2 (.ref b) d ∧ (nk d).depth ≤ 8 ∧
  ∀ u, SeenAt P w (upd H2 p u) p [d] → Q (.ref p) (upd H2 p u)
theorem pe_dispSeen {k : Expr} {j : Nat} {p1 pos : Pos} {tk : TE} (hu : X.A.units + 9 < cLine) (hk : PE X k tk) : PE X (.Dict [some k] [.Constant (.bool true) j p1] pos) (tDispSeen X.prog X.w tk) := by
  constructor
  intro pins s σ H Q I q
  have hn := I.hok.fresh (a := s.heap.objs.size) (Nat.le_refl _)
  have big : (s.heap.objs.size == sysModules) = false := beq_eq_false_iff_ne.mpr (Ne.symm (Nat.ne_of_lt I.big))
  have I1 := I.laid (a := s.heap.objs.size) (o := SeenO X.prog X.w s.heap.objs.size []) (h' := s.heap.push { cls := .type "dict", data := .dict #[] }) (t' := s.toks) (fun _ _ q => Heap.get?_push_of_some _ q) (Nat.le_refl _)
    (seenO_ok ⟨_, #[], 0, Heap.get?_push_size _ rfl, ⟨rfl, rfl, rfl⟩, rfl, rfl, List.nodup_nil, big⟩)
  have pp := thn (hk.run pins _ σ _ _ I1 (q _ hn)) (Q' := fun v s1 => ∃ b d H2, v = .ref b ∧ L2.Inv X pins σ H2 s1 ∧ H2 s.heap.objs.size = some (SeenO X.prog X.w s.heap.objs.size []) ∧ TD H2 (.ref b) d ∧ (nk d).depth ≤ 8 ∧
    ∀ u, SeenAt X.prog X.w (upd H2 s.heap.objs.size u) s.heap.objs.size [d] → Q (.ref s.heap.objs.size) (upd H2 s.heap.objs.size u)) fun v s1 ⟨x, H2, I2, r, hp, b, d, ex, hd, hdp, q2⟩ => by
      subst ex
      exact ⟨b, d, H2, r, I2, hp, hd, hdp, q2⟩
  rw [arm_eval_Dict, show (evalEachOpt [some k] X.env).zip ((evalEach [.Constant (.bool true) j p1] X.env).map fun v => do let x ← v; standAt pos; pure x) = (pairTrees [some k] [.Constant (.bool true) j p1] X.env pos).map (fun p => (some p.1, p.2)) from rfl,
    dictDisplay_pairs _ (by intro z; cases z) (by show 1 < 17; decide)]
  refine wpAny_bind (wpAny_standAt (wpAny_bind (wpAny_subDictH (knd := nestedKind X.prog X.w) (Q := fun d s' => wpAny (model X.prog X.w) X.A (pure (Value.ref d)) (EP X pins σ Q) X.xe s') (show X.A.units + 8 < cLine by omega) (by show 1 ≤ 15; decide) ?_)))
  refine pairTrees_cons_walk (thn pp fun v s1 ⟨b, d, H2, ev, I2, hp, hd, hdp, q2⟩ => ?_)
  subst ev
  refine Constant_bool (pairTrees_nil_walk ?_)
  have nd := TD.nested I2 d _ _ hd (show RelV (.ref b) (.ref b) from rfl)
  obtain ⟨⟨o, es, epc, h1, h2, h3, h4, h5, h6⟩, _, _⟩ := I2.hok _ _ hp
  refine ⟨[(nk d, b, .bool true)], ⟨rfl, rfl, ⟨nd, hdp⟩, trivial⟩, ⟨o, es, epc, h1, h2, h3, h4, (fun _ z => nomatch z), List.nodup_nil⟩, fun h' tk dk hsb => wpAny_pure ?_⟩
  obtain ⟨o', es', ep', g1, g2, g3, g4, g5, g6⟩ := dk
  have mu : Mut (H2 s.heap.objs.size) := by rw [hp]; exact True.intro
  have hno' : ∀ xs, H2 s.heap.objs.size ≠ some (.tup xs) := fun xs z => by rw [hp] at z; cases z
  refine ⟨.ref s.heap.objs.size, upd H2 s.heap.objs.size (SeenO X.prog X.w s.heap.objs.size [(nk d, b)]), I2.write (x := s.heap.objs.size) (e := s.heap.objs.size) (t' := tk) mu (.inl rfl) (fun c r hc z => (hsb.2 c hc).trans z) ⟨o', g1⟩ (seenO_ok ⟨o', es', ep', g1, g2, g3, g4, g6, big⟩), rfl, q2 _ ⟨[(nk d, b)], upd_same, rfl, fun x hx => ?_⟩⟩
  cases List.mem_singleton.mp hx
  exact ⟨d, hd.k (TK.put hno'), rfl, hdp⟩
end
end KW
/-! K74, rules over data -/
namespace KW
open L2 PySem PySem.Spec PyProof.Rows
theorem same_new {H : Hp} {p : Addr} {o : HO} (h : H p = none) : Same H (upd H p o) := fun b u q => by rw [upd_ne (ne_of_none q h)]; exact q
/-- at a stands a list of this data -/
def Lt (H : Hp) (a : Addr) (ds : List PyData) : Prop := ∃ vs, H a = some (.lst vs) ∧ TDs H vs ds
theorem Lt.keep {H H' : Hp} {a : Addr} {ds : List PyData} (h : Lt H a ds) (s : Same H H') : Lt H' a ds := let ⟨vs, e, t⟩ := h; ⟨vs, s _ _ e, t.k (TK.same s)⟩
theorem Lt.new {H : Hp} {p : Addr} {vs : List V} {ds : List PyData} (h : H p = none) (t : TDs H vs ds) : Lt (upd H p (.lst vs)) p ds := ⟨vs, upd_same, t.k (TK.same (same_new h))⟩
theorem TD.new {H : Hp} {p : Addr} {vs : List V} {ds : List PyData} (h : H p = none) (t : TDs H vs ds) : TD (upd H p (.tup vs)) (.ref p) (.tuple ds) := .tup upd_same (t.k (TK.same (same_new h)))
theorem TD.inv {H : Hp} {x : V} {ds : List PyData} (h : TD H x (.tuple ds)) : ∃ a vs, x = .ref a ∧ H a = some (.tup vs) ∧ TDs H vs ds := by
  cases h with
  | tup e hs => exact ⟨_, _, rfl, e, hs⟩
theorem TD.inv2 {H : Hp} {x : V} {d e : PyData} (h : TD H x (.tuple [d, e])) : ∃ a v w, x = .ref a ∧ H a = some (.tup [v, w]) ∧ TD H v d ∧ TD H w e := by
  obtain ⟨a, vs, rfl, ha, t⟩ := h.inv
  cases t with
  | cons h1 t => cases t with
    | cons h2 t => cases t; exact ⟨a, _, _, rfl, ha, h1, h2⟩
theorem TD.inv3 {H : Hp} {x : V} {d e f : PyData} (h : TD H x (.tuple [d, e, f])) : ∃ a v w u, x = .ref a ∧ H a = some (.tup [v, w, u]) ∧ TD H v d ∧ TD H w e ∧ TD H u f := by
  obtain ⟨a, vs, rfl, ha, t⟩ := h.inv
  cases t with
  | cons h1 t => cases t with
    | cons h2 t => cases t with
      | cons h3 t => cases t; exact ⟨a, _, _, _, rfl, ha, h1, h2, h3⟩
theorem TD.invS {H : Hp} {x : V} {z : Str} (h : TD H x (.str z)) : x = .str z := by cases h; rfl
theorem TD.invI {H : Hp} {x : V} {z : Int} (h : TD H x (.int z)) : x = .int z := by cases h; rfl
theorem TD.invB {H : Hp} {x : V} {z : Bool} (h : TD H x (.bool z)) : x = .bl z := by cases h; rfl
theorem TD.invN {H : Hp} {x : V} (h : TD H x .none) : x = .non := by cases h; rfl

/-! ### displays -/
def tTd (t : TA) : TE := fun σ H Q => t σ H fun xs H1 => ∃ ds, TDs H1 xs ds ∧ ds.length ≤ sizeLine ∧ ∀ v H2, Same H1 H2 → TD H2 v (.tuple ds) → Q v H2
def tLt (t : TA) : TE := fun σ H Q => t σ H fun xs H1 => ∃ ds, TDs H1 xs ds ∧ ds.length ≤ sizeLine ∧ ∀ p H2, H1 p = none → Same H1 H2 → Lt H2 p ds → Q (.ref p) H2
section
variable {X : Cx} {es : List Expr} {t : TA} {pos : Pos}
theorem pe_td {x1} (h : PA X es t) : PE X (.Tuple es x1 pos) (tTd t) := by
  constructor
  intro pins s σ H Q I hq
  refine wpAny_Tuple_spliced (thn (h.run pos pins s σ H _ I hq) fun us s1 ⟨xs, H1, I1, r, ds, hd, z, q⟩ => ⟨by rw [← r.length, hd.length]; exact z, ?_⟩)
  have new1 : H1 s1.heap.objs.size = none := I1.hok.fresh (Nat.le_refl _)
  refine ⟨.ref s1.heap.objs.size, upd H1 s1.heap.objs.size (.tup xs), I1.laid (t' := s1.toks) (fun b u e => Heap.get?_push_of_some _ e) (Nat.le_refl _) ?_, rfl, q _ _ (same_new new1) (TD.new new1 hd)⟩
  exact ⟨by rw [hd.length]; exact z, us, r, ⟨_, Heap.get?_push_size _ rfl, rfl, _, rfl⟩⟩
theorem pe_lt (h : PA X es t) : PE X (.List es pos) (tLt t) := by
  constructor
  intro pins s σ H Q I hq
  refine wpAny_List_spliced (thn (h.run pos pins s σ H _ I hq) fun us s1 ⟨xs, H1, I1, r, ds, hd, z, q⟩ => ⟨by rw [← r.length, hd.length]; exact z, ?_⟩)
  have new1 : H1 s1.heap.objs.size = none := I1.hok.fresh (Nat.le_refl _)
  refine ⟨.ref s1.heap.objs.size, upd H1 s1.heap.objs.size (.lst xs), I1.laid (t' := s1.toks) (fun b u e => Heap.get?_push_of_some _ e) (Nat.le_refl _) ?_, rfl, q _ _ new1 (same_new new1) (Lt.new new1 hd)⟩
  exact ⟨by rw [hd.length]; exact z, us, 0, r, Heap.get?_push_size _ rfl⟩
end

/-! ### operators -/
def cutD (ds : List PyData) (lo hi : Option Int) : List PyData := (ds.drop (HT.sIx ds.length 0 lo)).take (HT.sIx ds.length ds.length hi - HT.sIx ds.length 0 lo)
theorem cut_tds {H : Hp} {vs : List V} {ds : List PyData} (t : TDs H vs ds) (lo hi : Option Int) : TDs H (cutV vs lo hi) (cutD ds lo hi) := by
  unfold cutV cutD
  rw [t.length]
  exact (t.drop _).take _
theorem cutD_to (ds : List PyData) (k : Nat) : cutD ds none (some (k : Int)) = ds.take k := by
  unfold cutD
  rw [HT.sIx_none, HT.sIx_nat, List.drop_zero, Nat.sub_zero]
  rcases Nat.le_total k ds.length with h | h
  · rw [Nat.min_eq_left h]
  · rw [Nat.min_eq_right h, List.take_of_length_le h, List.take_of_length_le (Nat.le_refl _)]
theorem cutD_from (ds : List PyData) (k : Nat) : cutD ds (some (k : Int)) none = ds.drop k := by
  unfold cutD
  rw [HT.sIx_none, HT.sIx_nat]
  rcases Nat.le_total k ds.length with h | h
  · rw [Nat.min_eq_left h, List.take_of_length_le (by rw [List.length_drop]; omega)]
  · rw [Nat.min_eq_right h, List.drop_eq_nil_of_le h, List.drop_eq_nil_of_le (Nat.le_refl _)]; simp
theorem atI_td {H : Hp} {vs : List V} {ds : List PyData} {i : Int} {d : PyData} (t : TDs H vs ds) (e : atI ds i = some d) : ∃ v, atI vs i = some v ∧ TD H v d := by
  unfold atI at e ⊢
  rw [t.length]
  cases h : ixN ds.length i with
  | none => rw [h] at e; exact nomatch e
  | some j =>
    rw [h] at e
    exact t.get e
section
variable {X : Cx}
def rCatTD : R2 := fun x y H Q => ∃ ds es, TD H x (.tuple ds) ∧ TD H y (.tuple es) ∧ ds.length + es.length ≤ sizeLine ∧ ∀ v H2, Same H H2 → TD H2 v (.tuple (ds ++ es)) → Q v H2
theorem op_catTD : OpR X (binaryOp .Add) rCatTD := by
  intro pins s σ H x y v u Q I rx ry want
  obtain ⟨ds, es, h1, h2, hz, q⟩ := want
  obtain ⟨a, vs, rfl, ha, t1⟩ := h1.inv
  obtain ⟨b, ws, rfl, hb, t2⟩ := h2.inv
  refine op_catA pins s σ H _ _ v u Q I rx ry ⟨a, b, vs, ws, rfl, rfl, SqT.of ha, SqT.of hb, by rw [t1.length, t2.length]; exact hz, fun e => ?_, fun _ e => ?_, fun _ _ p hp => ?_⟩
  · subst e
    cases t1
    exact q _ _ (Same.refl H) h2
  · subst e
    cases t2
    exact q _ _ (Same.refl H) (by rw [List.append_nil]; exact h1)
  · exact q _ _ (same_new hp) (TD.new hp (t1.append t2))
def rSlTD : V → Option Int → Option Int → Hp → VK → Prop := fun x lo hi H Q => ∃ ds, TD H x (.tuple ds) ∧ ∀ v H2, Same H H2 → TD H2 v (.tuple (cutD ds lo hi)) → Q v H2
theorem sl_TD : SlR X rSlTD := by
  intro pins s σ H x v vl vu lo hi sl Q I rx hs pl pu want
  obtain ⟨ds, h1, q⟩ := want
  obtain ⟨a, vs, rfl, ha, t⟩ := h1.inv
  refine sl_tupA pins s σ H _ v vl vu lo hi sl Q I rx hs pl pu ⟨a, vs, rfl, SqT.of ha, fun e => ?_, fun _ p hp => ?_⟩
  · refine q _ _ (Same.refl H) ?_
    unfold cutD
    rw [← t.length, e.1, e.2, List.drop_zero, Nat.sub_zero, List.take_of_length_le (Nat.le_of_eq t.length.symm)]
    exact h1
  · exact q _ _ (same_new hp) (TD.new hp (cut_tds t lo hi))
def rIxTD : R2 := fun x y H Q => ∃ ds i d, TD H x (.tuple ds) ∧ y = .int i ∧ atI ds i = some d ∧ ∀ v, TD H v d → Q v H
theorem ix_TD : IxR X rIxTD := by
  intro value slice pins s σ H x y v u Q I rx ry want hs
  obtain ⟨ds, i, d, h1, rfl, e, q⟩ := want
  obtain ⟨a, vs, rfl, ha, t⟩ := h1.inv
  obtain ⟨z, hz, td⟩ := atI_td t e
  exact ix_tup value slice pins s σ H _ _ v u Q I rx ry ⟨a, vs, i, z, rfl, rfl, SqT.of ha, hz, q z td⟩ hs
def rCatLt : R2 := fun x y H Q => ∃ a b ds es, x = .ref a ∧ y = .ref b ∧ Lt H a ds ∧ Lt H b es ∧ ds.length + es.length ≤ sizeLine ∧ ∀ p H2, H p = none → Same H H2 → Lt H2 p (ds ++ es) → Q (.ref p) H2
theorem op_catLt : OpR X (binaryOp .Add) rCatLt := by
  intro pins s σ H x y v u Q I rx ry want
  obtain ⟨a, b, ds, es, rfl, rfl, ⟨vs, ha, t1⟩, ⟨ws, hb, t2⟩, hz, q⟩ := want
  exact op_cat pins s σ H _ _ v u Q I rx ry ⟨a, b, vs, ws, rfl, rfl, ha, hb, by rw [t1.length, t2.length]; exact hz, fun p hp => q p _ hp (same_new hp) (Lt.new hp (t1.append t2))⟩
def rSlLt : V → Option Int → Option Int → Hp → VK → Prop := fun x lo hi H Q => ∃ a ds, x = .ref a ∧ Lt H a ds ∧ ∀ p H2, H p = none → Same H H2 → Lt H2 p (cutD ds lo hi) → Q (.ref p) H2
theorem sl_Lt : SlR X rSlLt := by
  intro pins s σ H x v vl vu lo hi sl Q I rx hs pl pu want
  obtain ⟨a, ds, rfl, ⟨vs, ha, t⟩, q⟩ := want
  exact sl_list pins s σ H _ v vl vu lo hi sl Q I rx hs pl pu ⟨a, vs, rfl, SqL.of ha, fun p hp => q p _ hp (same_new hp) (Lt.new hp (cut_tds t lo hi))⟩
def rIxLt : R2 := fun x y H Q => ∃ a ds i d, x = .ref a ∧ y = .int i ∧ Lt H a ds ∧ atI ds i = some d ∧ ∀ v, TD H v d → Q v H
theorem ix_Lt : IxR X rIxLt := by
  intro value slice pins s σ H x y v u Q I rx ry want hs
  obtain ⟨a, ds, i, d, rfl, rfl, ⟨vs, ha, t⟩, e, q⟩ := want
  obtain ⟨z, hz, td⟩ := atI_td t e
  exact ix_list value slice pins s σ H _ _ v u Q I rx ry ⟨a, vs, i, z, rfl, rfl, SqL.of ha, hz, q z td⟩ hs
def rLenLt : List V → Hp → VK → Prop := fun xs H Q => ∃ a ds, xs = [.ref a] ∧ Lt H a ds ∧ Q (.int (ds.length : Nat)) H
theorem call_lenLt : CallR X (.builtin "len") rLenLt := by
  intro pins s σ H xs us Q I r want
  obtain ⟨a, ds, rfl, ⟨vs, ha, t⟩, q⟩ := want
  exact call_len_seq pins s σ H _ us Q I r ⟨a, vs, rfl, .inl (SqL.of ha), by rw [t.length]; exact q⟩
def rLenTD : List V → Hp → VK → Prop := fun xs H Q => ∃ x ds, xs = [x] ∧ TD H x (.tuple ds) ∧ Q (.int (ds.length : Nat)) H
theorem call_lenTD : CallR X (.builtin "len") rLenTD := by
  intro pins s σ H xs us Q I r want
  obtain ⟨x, ds, rfl, h1, q⟩ := want
  obtain ⟨a, vs, rfl, ha, t⟩ := h1.inv
  exact call_len_seq pins s σ H _ us Q I r ⟨a, vs, rfl, .inr (SqT.of ha), by rw [t.length]; exact q⟩
def rTupLt : List V → Hp → VK → Prop := fun xs H Q => ∃ a ds, xs = [.ref a] ∧ Lt H a ds ∧ ∀ v H2, Same H H2 → TD H2 v (.tuple ds) → Q v H2
theorem call_tupLt : CallR X (.type "tuple") rTupLt := by
  intro pins s σ H xs us Q I r want
  obtain ⟨a, ds, rfl, ⟨vs, ha, t⟩, q⟩ := want
  exact call_tuple_of pins s σ H _ us Q I r ⟨a, vs, rfl, .inl ⟨SqL.of ha, fun p hp => q _ _ (same_new hp) (TD.new hp t)⟩⟩
end

/-! ### equality -/
def NiceN (n : Nat) (d : PyData) : Prop := d.canLay0 = true ∧ d.depth ≤ n
theorem NiceN.mono {m n : Nat} {d : PyData} (h : NiceN m d) (l : m ≤ n) : NiceN n d := ⟨h.1, Nat.le_trans h.2 l⟩
theorem NiceN.all {n : Nat} : ∀ {ds : List PyData}, (∀ d ∈ ds, NiceN n d) → PyData.canLayAll0 ds = true ∧ PyData.depthAll ds ≤ n
  | [], _ => by simp [PyData.canLayAll0, PyData.depthAll]
  | d :: ds, h => by
    obtain ⟨h1, h2⟩ := NiceN.all fun e he => h e (List.mem_cons_of_mem _ he)
    obtain ⟨h3, h4⟩ := h d List.mem_cons_self
    simp only [PyData.canLayAll0, PyData.depthAll, Bool.and_eq_true]
    exact ⟨⟨h3, h1⟩, by omega⟩
theorem NiceN.tup {n : Nat} {ds : List PyData} (h : ∀ d ∈ ds, NiceN n d) : NiceN (n + 1) (.tuple ds) := by
  obtain ⟨h1, h2⟩ := NiceN.all h
  exact ⟨by simp only [PyData.canLay0]; exact h1, by simp only [PyData.depth]; omega⟩
theorem NiceN.lst {n : Nat} {ds : List PyData} (h : ∀ d ∈ ds, NiceN n d) : NiceN (n + 1) (.list ds) := by
  obtain ⟨h1, h2⟩ := NiceN.all h
  exact ⟨by simp only [PyData.canLay0]; exact h1, by simp only [PyData.depth]; omega⟩
theorem NiceN.shaped {n : Nat} {d : PyData} (h : NiceN n d) (l : n ≤ 64) : SeqAt.shaped d = true := by
  show (d.canLay0 && decide (d.depth ≤ 64)) = true
  rw [Bool.and_eq_true]
  exact ⟨h.1, decide_eq_true (by have := h.2; omega)⟩
theorem nice_int (n : Nat) (i : Int) : NiceN n (.int i) := ⟨by simp only [PyData.canLay0], by simp only [PyData.depth]; exact Nat.zero_le _⟩
theorem nice_bool (n : Nat) (i : Bool) : NiceN n (.bool i) := ⟨by simp only [PyData.canLay0], by simp only [PyData.depth]; exact Nat.zero_le _⟩
theorem nice_str {n : Nat} {z : Str} (h : PyData.strOk z = true) : NiceN n (.str z) := ⟨by simp only [PyData.canLay0]; exact h, by simp only [PyData.depth]; exact Nat.zero_le _⟩
mutual
/-- data whose == is equality -/
def pl : PyData → Bool
  | .int _ => true
  | .str _ => true
  | .tuple ds => plAll ds
  | _ => false
def plAll : List PyData → Bool
  | [] => true
  | d :: ds => pl d && plAll ds
end
theorem plAll_iff : ∀ {ds : List PyData}, plAll ds = true ↔ ∀ d ∈ ds, pl d = true
  | [] => by simp [plAll]
  | d :: ds => by simp [plAll, plAll_iff (ds := ds)]
mutual
theorem eqv_iff : ∀ (d e : PyData), pl d = true → pl e = true → (PyData.eqv d e = true ↔ d = e)
  | .int a, .int b, _, _ => by simp [PyData.eqv]
  | .str a, .str b, _, _ => by simp [PyData.eqv]
  | .tuple as, .tuple bs, h1, h2 => by
    have := eqvAll_iff as bs (by simpa [pl] using h1) (by simpa [pl] using h2)
    simp [PyData.eqv, this]
  | .int a, .str b, _, _ => by simp [PyData.eqv]
  | .int a, .tuple b, _, _ => by simp [PyData.eqv]
  | .str a, .int b, _, _ => by simp [PyData.eqv]
  | .str a, .tuple b, _, _ => by simp [PyData.eqv]
  | .tuple a, .int b, _, _ => by simp [PyData.eqv]
  | .tuple a, .str b, _, _ => by simp [PyData.eqv]
  | .none, _, h, _ => by simp [pl] at h
  | .bool _, _, h, _ => by simp [pl] at h
  | .list _, _, h, _ => by simp [pl] at h
  | .dict _, _, h, _ => by simp [pl] at h
  | _, .none, _, h => by simp [pl] at h
  | _, .bool _, _, h => by simp [pl] at h
  | _, .list _, _, h => by simp [pl] at h
  | _, .dict _, _, h => by simp [pl] at h
theorem eqvAll_iff : ∀ (ds es : List PyData), plAll ds = true → plAll es = true → (PyData.eqvAll ds es = true ↔ ds = es)
  | [], [], _, _ => by simp [PyData.eqvAll]
  | [], _ :: _, _, _ => by simp [PyData.eqvAll]
  | _ :: _, [], _, _ => by simp [PyData.eqvAll]
  | d :: ds, e :: es, h1, h2 => by
    simp only [plAll, Bool.and_eq_true] at h1 h2
    simp [PyData.eqvAll, eqv_iff d e h1.1 h2.1, eqvAll_iff ds es h1.2 h2.2]
end
theorem Lt.dp {H : Hp} {a : Addr} {ds : List PyData} (K : PySem.W.Frag) (h : Lt H a ds) : Dp K H (.ref a) (.list ds) := by
  obtain ⟨vs, e, t⟩ := h
  exact .lst (SqL.of e) (TDs.dp K ds _ t)
/-- plain, nice data -/
def Good (d : PyData) : Prop := pl d = true ∧ NiceN 8 d
section
variable {X : Cx}
def rInLt : R2 := fun x y H Q => ∃ a d ds, y = .ref a ∧ Lt H a ds ∧ TD H x d ∧ Good d ∧ (∀ e ∈ ds, Good e) ∧ ∀ b : Bool, (b = true ↔ d ∈ ds) → Q (.bl b) H
def rNotInLt : R2 := fun x y H Q => ∃ a d ds, y = .ref a ∧ Lt H a ds ∧ TD H x d ∧ Good d ∧ (∀ e ∈ ds, Good e) ∧ ∀ b : Bool, (b = true ↔ d ∈ ds) → Q (.bl (!b)) H
theorem any_eqv {d : PyData} {ds : List PyData} (h : Good d) (hs : ∀ e ∈ ds, Good e) : (ds.any fun z => PyData.eqv z d) = true ↔ d ∈ ds := by
  rw [List.any_eq_true]
  constructor
  · rintro ⟨z, hz, e⟩
    rw [eqv_iff z d (hs z hz).1 h.1] at e
    exact e ▸ hz
  · exact fun hd => ⟨d, hd, (eqv_iff d d h.1 h.1).mpr rfl⟩
theorem op_inLt (hu : X.A.units + 65 < cLine) : OpR X (compareOp .In) rInLt := by
  intro pins s σ H x y v u Q I rx ry want
  obtain ⟨a, d, ds, rfl, hl, hd, g, gs, q⟩ := want
  exact op_inD hu pins s σ H _ _ v u Q I rx ry ⟨d, ds, hd.dp X.K, hl.dp X.K, g.2.shaped (by decide), (NiceN.lst fun e he => (gs e he).2).shaped (by decide), q _ (any_eqv g gs)⟩
theorem op_notInLt (hu : X.A.units + 65 < cLine) : OpR X (compareOp .NotIn) rNotInLt := by
  intro pins s σ H x y v u Q I rx ry want
  obtain ⟨a, d, ds, rfl, hl, hd, g, gs, q⟩ := want
  exact op_notInD hu pins s σ H _ _ v u Q I rx ry ⟨d, ds, hd.dp X.K, hl.dp X.K, g.2.shaped (by decide), (NiceN.lst fun e he => (gs e he).2).shaped (by decide), q _ (any_eqv g gs)⟩
def rIndexLt : V → List V → Hp → VK → Prop := fun x xs H Q => ∃ a y d ds j, x = .ref a ∧ xs = [y] ∧ Lt H a ds ∧ TD H y d ∧ Good d ∧ (∀ e ∈ ds, Good e) ∧ ds[j]? = some d ∧ (∀ m, m < j → ds[m]? ≠ some d) ∧ Q (.int (j : Nat)) H
theorem mt_indexLt (hu : X.A.units + 65 < cLine) : MtR X "list.index" rIndexLt := by
  intro pins s σ H x xs v us Q I rx rxs want
  obtain ⟨a, y, d, ds, j, rfl, rfl, hl, hd, g, gs, hj, hno, q⟩ := want
  refine mt_indexD hu pins s σ H _ _ v us Q I rx rxs ⟨a, y, d, ds, j, d, rfl, rfl, hl.dp X.K, hd.dp X.K, (NiceN.lst fun e he => (gs e he).2).shaped (by decide), g.2.shaped (by decide), hj, (eqv_iff d d g.1 g.1).mpr rfl, fun m z' hm hz => ?_, q⟩
  cases hb : PyData.eqv z' d with
  | false => rfl
  | true =>
    rw [eqv_iff z' d (gs z' (List.mem_of_getElem? hz)).1 g.1] at hb
    exact absurd (hb ▸ hz) (hno m hm)
/-- == of plain data -/
def rEqTD : R2 := fun x y H Q => ∃ d e, TD H x d ∧ TD H y e ∧ Good d ∧ Good e ∧ ∀ b : Bool, (b = true ↔ d = e) → Q (.bl b) H
def rNeTD : R2 := fun x y H Q => ∃ d e, TD H x d ∧ TD H y e ∧ Good d ∧ Good e ∧ ∀ b : Bool, (b = true ↔ d = e) → Q (.bl (!b)) H
theorem op_eqTD (hu : X.A.units + 64 < cLine) : OpR X (compareOp .Eq) rEqTD := by
  intro pins s σ H x y v u Q I rx ry want
  obtain ⟨d, e, hd, he, g1, g2, q⟩ := want
  exact op_eqD hu pins s σ H _ _ v u Q I rx ry ⟨d, e, hd.dp X.K, he.dp X.K, g1.2.shaped (by decide), g2.2.shaped (by decide), q _ (eqv_iff d e g1.1 g2.1)⟩
theorem op_neTD (hu : X.A.units + 64 < cLine) : OpR X (compareOp .NotEq) rNeTD := by
  intro pins s σ H x y v u Q I rx ry want
  obtain ⟨d, e, hd, he, g1, g2, q⟩ := want
  exact op_neD hu pins s σ H _ _ v u Q I rx ry ⟨d, e, hd.dp X.K, he.dp X.K, g1.2.shaped (by decide), g2.2.shaped (by decide), q _ (eqv_iff d e g1.1 g2.1)⟩
/-- a list against a list that is empty -/
def rEqNil : R2 := fun x y H Q => ∃ a b ds, x = .ref a ∧ y = .ref b ∧ Lt H a ds ∧ Lt H b [] ∧ (∀ e ∈ ds, NiceN 20 e) ∧ Q (.bl ds.isEmpty) H
def rNeNil : R2 := fun x y H Q => ∃ a b ds, x = .ref a ∧ y = .ref b ∧ Lt H a ds ∧ Lt H b [] ∧ (∀ e ∈ ds, NiceN 20 e) ∧ Q (.bl (!ds.isEmpty)) H
theorem eqv_nil (ds : List PyData) : PyData.eqv (.list ds) (.list []) = ds.isEmpty := by cases ds <;> simp [PyData.eqv, PyData.eqvAll]
theorem shaped_nil : SeqAt.shaped (.list []) = true := by decide
theorem op_eqNil (hu : X.A.units + 64 < cLine) : OpR X (compareOp .Eq) rEqNil := by
  intro pins s σ H x y v u Q I rx ry want
  obtain ⟨a, b, ds, rfl, rfl, h1, h2, g, q⟩ := want
  exact op_eqD hu pins s σ H _ _ v u Q I rx ry ⟨_, _, h1.dp X.K, h2.dp X.K, (NiceN.lst g).shaped (by decide), shaped_nil, by rw [eqv_nil]; exact q⟩
theorem op_neNil (hu : X.A.units + 64 < cLine) : OpR X (compareOp .NotEq) rNeNil := by
  intro pins s σ H x y v u Q I rx ry want
  obtain ⟨a, b, ds, rfl, rfl, h1, h2, g, q⟩ := want
  exact op_neD hu pins s σ H _ _ v u Q I rx ry ⟨_, _, h1.dp X.K, h2.dp X.K, (NiceN.lst g).shaped (by decide), shaped_nil, by rw [eqv_nil]; exact q⟩
end

/-! ### comprehensions that only read -/
def LcP (H1 : Hp) (D : Addr) (F : Nat → List PyData) : Nat → Hp → Prop := fun i H => Same H1 H ∧ Lt H D (F i)
section
variable {H1 H H4 : Hp} {D : Addr} {F : Nat → List PyData} {i : Nat}
theorem LcP.start (h : H1 D = none) (h0 : F 0 = []) : LcP H1 D F 0 (upd H1 D (.lst [])) := ⟨same_new h, by rw [h0]; exact Lt.new h .nil⟩
theorem Same.put {o : HO} (hD : H1 D = none) (s : Same H1 H) : Same H1 (upd H D o) := fun b u e => by rw [upd_ne (ne_of_none e hD)]; exact s b u e
theorem LcP.put {y : V} {e : PyData} (hD : H1 D = none) (p : LcP H1 D F i H) (s : Same H H4) (t : TD H4 y e) (hF : F (i + 1) = F i ++ [e]) (hz : (F i).length < sizeLine) :
    ∃ acc, H4 D = some (.lst acc) ∧ acc.length < sizeLine ∧ LcP H1 D F (i + 1) (upd H4 D (.lst (acc ++ [y]))) := by
  obtain ⟨p1, vs, p2, p3⟩ := p
  have hl := s _ _ p2
  have nt : ∀ xs, H4 D ≠ some (.tup xs) := fun xs z => by rw [hl] at z; cases z
  refine ⟨vs, hl, by rw [p3.length]; exact hz, Same.put hD (p1.trans s), vs ++ [y], upd_same, ?_⟩
  rw [hF]
  exact ((p3.k (TK.same s)).append (TDs.one t)).k (TK.put nt)
theorem LcP.skip (p : LcP H1 D F i H) (s : Same H H4) (hF : F (i + 1) = F i) : LcP H1 D F (i + 1) H4 := by
  obtain ⟨p1, p2⟩ := p
  exact ⟨p1.trans s, by rw [hF]; exact p2.keep s⟩
end
theorem take_snoc {α : Type} {l : List α} {i : Nat} {a : α} (h : l[i]? = some a) : l.take (i + 1) = l.take i ++ [a] := by rw [List.take_add_one, h]; rfl
theorem range_snoc (i : Nat) : List.range (i + 1) = List.range i ++ [i] := List.range_succ
end KW
/-! K74: enumerate over a tuple -/
namespace KW
open L2 PySem PySem.Spec PyProof.Rows
set_option maxHeartbeats 8000000 in
theorem meets_enumT (t : Addr) (items : Array Value) :
    Meets (Builtin.«enumerate.__new__» ⟨[.type "enumerate", .ref t], []⟩) (fun _ R s => s.heap.IsTuple t items ∧
      R (.ok (.ret (.ref (s.heap.push { cls := .type "tuple_iterator", data := .fields #[.ref t, .int 0 0] }).objs.size)))
        { s with heap := (s.heap.push { cls := .type "tuple_iterator", data := .fields #[.ref t, .int 0 0] }).push { cls := .type "enumerate", data := .fields #[.none, .bool false, .ref s.heap.objs.size, rawInt 0, .none, .none] } }) :=
  .of_wp fun pg w A R s h => by
    obtain ⟨hp, g, d, tk, os⟩ := s
    obtain ⟨h1, h⟩ := h
    have hsub := PySem.sub_enumerate
    have q1 : ∀ {A' : Around} {E : Value → Shared → Prop} {Q : Value → Shared → Prop}, Q (.ref hp.objs.size) ⟨hp.push { cls := .type "tuple_iterator", data := .fields #[.ref t, .int 0 0] }, g, d, tk, os⟩ → wpAny (model pg w) A' (pyIter (.ref t)) Q E ⟨hp, g, d, tk, os⟩ :=
      fun q => (begins_tuple t items).iter pg w _ _ ⟨hp, g, d, tk, os⟩ _ h1 q
    wp_walk using q1
    refine wpAny_stack_any fun st => wpAny_pure ?_
    split
    · rename_i c _ _ _ _ _
      cases (c == Value.type "enumerate")
      · wp_walk using q1
        exact ⟨_, rfl, h⟩
      · wp_walk using q1
        exact ⟨_, rfl, h⟩
    · wp_walk using q1
      exact ⟨_, rfl, h⟩
/-- the record that enumerate lays over the iterator n -/
abbrev enumRec (n : Nat) : Obj := { cls := .type "enumerate", data := .fields #[.none, .bool false, .ref n, rawInt 0, .none, .none] }
section
variable {pg : Program} {w : World} {A : Around} {E : Value → Shared → Prop} {s : Shared}
theorem call_enumT {t : Addr} {items : Array Value} {Q : Value → Shared → Prop} (h1 : s.heap.IsTuple t items)
    (h : ∀ h', IsEnum h' (s.heap.objs.size + 1) s.heap.objs.size 0 .none → h'.IsTupleIter s.heap.objs.size t 0 → h'.objs.size = s.heap.objs.size + 2 →
      (∀ x y, s.heap.get? x = some y → h'.get? x = some y) → Q (.ref (s.heap.objs.size + 1)) { s with heap := h' }) :
    wpAny (model pg w) A (call (.type "enumerate") [.ref t]) Q E s := by
  refine callType_new F.called_enumerate (by decide) (F.typeCall_enumerate_1 _) (F.newCall_enumerate_1 _) (fun ob => F.args_object_init_2 ob _)
    F.entry_enumerate_new
    (meets_enumT t items) ⟨h1, ?_⟩
  have grown : (s.heap.push { cls := .type "tuple_iterator", data := .fields #[.ref t, .int 0 0] }).objs.size = s.heap.objs.size + 1 := Heap.size_push ..
  show _ ∧ _
  rw [grown]
  have onE : IsEnum ((s.heap.push { cls := .type "tuple_iterator", data := .fields #[.ref t, .int 0 0] }).push
      (enumRec s.heap.objs.size)) (s.heap.objs.size + 1) s.heap.objs.size 0 .none := by
    have := Heap.get?_push_size (s.heap.push { cls := .type "tuple_iterator", data := .fields #[.ref t, .int 0 0] })
      (o := enumRec s.heap.objs.size) rfl
    rw [grown] at this; exact this
  refine ⟨⟨_, onE, rfl⟩, h _ onE ⟨_, Heap.get?_push_of_some _ (Heap.get?_push_size _ rfl), rfl, rfl⟩ (by rw [Heap.size_push, grown]) fun b o x => Heap.get?_push_of_some _ (Heap.get?_push_of_some _ x)⟩
end
/-- the tuple at a, each item in a fresh pair -/
def IteT (K : PySem.W.Frag) (a : Addr) : It :=
  ⟨fun i H => ∃ (xs : List V) (x : V), SqT K H a xs ∧ xs[i]? = some x, fun i H v H' => ∃ T x, v = .ref T ∧ H T = none ∧ H' = upd H T (.tup [.int (i : Nat), x]) ∧ ∀ xs, SqT K H a xs → xs[i]? = some x, fun i H => ∃ xs : List V, SqT K H a xs ∧ xs.length = i⟩
theorem turn_enumT {P : Program} {w : World} {K : PySem.W.Frag} {elts : List Expr} {kk : Nat} {tpos : Pos} (a e it : Addr) :
    Turn P w K (.Tuple elts kk tpos) (IteT K a) [e, it] e (fun i h => (∃ pre, IsEnum h e it ((i : Nat) : Int) pre) ∧ h.IsTupleIter it a i ∧ e ≠ it) where
  mem := by simp
  obj := fun i h st b hb => by
    obtain ⟨⟨pre, onE⟩, ⟨o, ho, hc, hd⟩, _⟩ := st
    have two : b = e ∨ b = it := by simpa using hb
    rcases two with z | z
    · rw [z]; exact ⟨_, onE, fun v q => nomatch q⟩
    · rw [z]; exact ⟨o, ho, fun v y => by rw [hd] at y; cases y⟩
  keep := fun i h h' st k => let ⟨⟨pre, onE⟩, hi, hne⟩ := st; ⟨⟨pre, k e (by simp) _ onE⟩, hi.at fun o q => k it (by simp) o q, hne⟩
  item := by
    intro X eP eW eK calm i pins s σ H E I apart st hg
    subst eP eW eK
    obtain ⟨⟨pre, onE⟩, onIt, hne⟩ := st
    obtain ⟨xs, x, hq, hx⟩ := hg
    obtain ⟨cells, rvs, p, grown⟩ := I.tuple hq
    have pT : s.heap.IsTuple a cells.toArray := p
    obtain ⟨u, getU, relU⟩ := rvs.get hx
    have ltE : e < s.heap.objs.size := Heap.lt_size onE
    have ltI : it < s.heap.objs.size := by obtain ⟨_, q, _⟩ := onIt; exact Heap.lt_size q
    have neAI : a ≠ it := fun z => by
      obtain ⟨o, h1, h2, _⟩ := id pT
      obtain ⟨o', h1', h2', _⟩ := id onIt
      rw [z] at h1
      rw [h1] at h1'
      cases h1'
      rw [h2] at h2'
      injection h2' with zz
      exact absurd zz (by decide)
    have hea : e ≠ a := fun z => by
      obtain ⟨o, h1, h2, _⟩ := id pT
      rw [← z] at h1
      have he' : s.heap.get? e = some _ := onE
      rw [h1] at he'
      have he2 := Option.some.inj he'
      rw [he2] at h2
      have h2 : Value.type "enumerate" = Value.type "tuple" := h2
      injection h2 with zz
      exact absurd zz (by decide)
    have hlt : i < cells.toArray.size := by
      have := (List.getElem?_eq_some_iff.mp hx).1
      have := rvs.length
      rw [List.size_toArray]; omega
    have D := Draws.tuple (prog := X.prog) (w := X.w) (A := X.A.in1) (show X.A.in1.handled = none from I.ok.hd calm) it a neAI cells.toArray
    refine wpAny_pyNext_enum_itemC D onE ⟨onIt, pT⟩ hlt hne (by simp [hne, hea]) fun x' h' tk eP ho hst' hT hsz stay => ?_
    have eP : cells.toArray[i]? = some x' := eP
    have ex : x' = u := by
      have : cells[i]? = some x' := by simpa using eP
      rw [getU] at this
      exact (Option.some.inj this).symm
    subst ex
    refine ⟨_, rfl, wpAny_letOwnedTupleGo_enum (s := { s with heap := h', toks := tk + 1 }) ho fun h'' he' sb => ?_⟩
    have hT2 : h''.get? s.heap.objs.size = some { cls := .type "tuple", data := .seq #[.int i tk, x'] } := (sb.2 _ (Nat.ne_of_gt ltE)).trans hT
    have fresh : ObjOk X.prog X.w (upd H s.heap.objs.size (.tup [.int (i : Nat), x])) h'' s.heap.objs.size (.tup [.int (i : Nat), x]) :=
      ⟨by show 2 ≤ sizeLine; decide, [.int i tk, x'], .cons ⟨_, rfl⟩ (.cons relU .nil), ⟨_, hT2, rfl, _, rfl⟩⟩
    have I1 : L2.Inv X pins σ (upd H s.heap.objs.size (.tup [.int (i : Nat), x])) { s with heap := h'', toks := tk + 1 } :=
      I.turnedNew (ch := [e, it]) (fun b ob nb q => (sb.2 b (fun z => nb (by simp [z]))).trans (stay b ob (fun z => nb (by simp [z])) (fun z => nb (by simp [z])) q)) apart (Nat.le_refl _) fresh
    refine ⟨.ref s.heap.objs.size, _, I1, rfl, ⟨_, x, rfl, I.hok.fresh (Nat.le_refl _), rfl, fun ys hy => by rw [I.tuple_inj hy hq]; exact hx⟩, ⟨⟨x', ?_⟩, hst'.1.at fun o q => (sb.2 it (Ne.symm hne)).trans q, hne⟩, fun b hb => ?_⟩
    · have e1 : ((i + 1 : Nat) : Int) = (i : Int) + 1 := by omega
      rw [e1]; exact he'
    · have ltB : b < s.heap.objs.size := by
        have two : b = e ∨ b = it := by simpa using hb
        rcases two with z | z
        · rw [z]; exact ltE
        · rw [z]; exact ltI
      rw [upd_ne (Nat.ne_of_lt ltB)]
      exact (apart b hb).1
  done := by
    intro X eP eW eK calm i pins s σ H E I apart st hg
    subst eP eW eK
    obtain ⟨⟨pre, onE⟩, onIt, hne⟩ := st
    obtain ⟨xs, hq, hx⟩ := hg
    obtain ⟨cells, rvs, p, grown⟩ := I.tuple hq
    have pT : s.heap.IsTuple a cells.toArray := p
    obtain ⟨q0f, q1f, q2f, q3f, q4f, q5f⟩ := apart it (by simp)
    have hl := rvs.length
    have neAI : a ≠ it := fun z => by
      obtain ⟨o, h1, h2, _⟩ := id pT
      obtain ⟨o', h1', h2', _⟩ := id onIt
      rw [z] at h1
      rw [h1] at h1'
      cases h1'
      rw [h2] at h2'
      injection h2' with zz
      exact absurd zz (by decide)
    have D := Draws.tuple (prog := X.prog) (w := X.w) (A := X.A.in1) (show X.A.in1.handled = none from I.ok.hd calm) it a neAI cells.toArray
    have hn : i = cells.toArray.size := by rw [List.size_toArray]; omega
    refine wpAny_pyNext_enum_endD D onE ⟨hn ▸ onIt, pT⟩ fun h' eb => ⟨rfl, I.turned (t' := s.toks) (fun b o hb e => eb b o hb e) q0f q1f q3f q4f q5f⟩
  self := fun A i s Q E st h => let ⟨⟨_, onE⟩, _⟩ := st; wpAny_pyIter_enum onE h
def iEnumT (K : PySem.W.Frag) (ta : TA) : TI := fun σ H R => ta σ H fun vs H1 => ∃ (a : Addr) (xs : List V), vs = [V.ref a] ∧ SqT K H1 a xs ∧ R (IteT K a) H1
theorem pi_enumT {X : Cx} {e : Expr} {ta : TA} {p pos tpos : Pos} {elts : List Expr} {kk : Nat} (hg : Gl X "enumerate") (hm : X.mg "enumerate" = none) (hp : PA X [e] ta) (hs : starEach [e] X.env = [(false, eval e X.env)] := by rfl) :
    PI X (.Tuple elts kk tpos) (.Call (.Name "enumerate" p) [e] [] pos) (iEnumT X.K ta) := by
  constructor
  intro pins s σ H R I h
  refine Call_ (ld_blt I hg hm boot_enumerate (PyProof.Rows.callWith_type1 (thn (hp.run pos pins s σ H _ I h) fun us s1 q0 => ?_) hs rfl))
  obtain ⟨vs, H1, I1, r1, a, xs, ex, hq, q⟩ := q0
  subst ex
  cases r1 with
  | cons r rr =>
    cases rr
    cases r
    obtain ⟨cells, rvs, pT, grown⟩ := I1.tuple hq
    refine call_enumT (items := cells.toArray) pT fun h' onE onIt hsz stay => wpAny_pyIter_enum onE ?_
    have I2 : L2.Inv X pins σ H1 { s1 with heap := h' } := I1.kept (t' := s1.toks) stay
    refine ⟨s1.heap.objs.size + 1, [s1.heap.objs.size + 1, s1.heap.objs.size], _, _, H1, rfl, I2, turn_enumT a (s1.heap.objs.size + 1) s1.heap.objs.size, ⟨⟨.none, onE⟩, onIt, Nat.succ_ne_self _⟩, fun b hb => ?_, q⟩
    have atLeast : s1.heap.objs.size ≤ b := by
      rcases List.mem_cons.mp hb with z | z
      · rw [z]; exact Nat.le_add_right _ _
      · rw [List.mem_singleton.mp z]; exact Nat.le_refl _
    exact I1.fpOk atLeast (I1.hok.fresh atLeast)
theorem walk_enumT {K : PySem.W.Frag} {a : Addr} {xs : List V} : Walk (IteT K a) xs.length (fun H => SqT K H a xs) (YPair (fun i => some (.int (i : Nat))) (fun i => xs[i]?)) := by
  constructor
  · intro i H hi q
    exact ⟨xs, xs[i], q, List.getElem?_eq_getElem hi⟩
  · intro H q
    exact ⟨xs, q, rfl⟩
  · rintro i H v H' _ q ⟨T, x, h1, h2, h3, h4⟩
    exact ⟨T, _, x, h1, h2, h3, rfl, h4 xs q⟩
end KW
/-! K74, the small defs of the law -/
namespace KW
open L2 PySem PySem.Spec PyProof.Rows
def top (i : Nat) : Stmt := PySem.Challenge.pw_buswindows_k74_whole_orders_by_all_runs.main.body.getD i (.Pass ⟨0, 0, 0, 0⟩)
/-- a def that callers may call: where it stands, how its arguments bind, what it promises -/
def Cal (P : Program) (w : World) (K : PySem.W.Frag) (mg : Str → Option Value) (base : Heap) (k : Nat) (x : Str) (ps : List Str) (sp : Sp) : Prop :=
  ∃ f fd, FnOk P w K mg base CX0 k f fd ps sp ∧ mg x = some (.ref f) ∧ PySem.W.keepIn K (.ref f) = true ∧ Binds K fd ps []
def tCal (sp : Sp) (t : TA) : TE := fun σ H Q => t σ H fun vs H1 => sp vs H1 Q E0
theorem pe_cal {X : Cx} {k : Nat} {x : Str} {ps : List Str} {sp : Sp} {e : Expr} {es : List Expr} {t : TA} {p pos : Pos} (C : Cal X.prog X.w X.K X.mg X.base k x ps sp) (hr : Room k X.A) (hg : Gl X x) (ha : PA X (e :: es) t)
    (hNo : (x == ("__debug__" : Str)) = false := by decide) (hFirst : starEach (e :: es) X.env = (false, eval e X.env) :: starEach es X.env := by rfl) (hPlain : (backTo pos (starEach es X.env)).any (·.1) = false := by rfl) :
    PE X (.Call (.Name x p) (e :: es) [] pos) (tCal sp t) := by
  obtain ⟨f, fd, G, m, kp, b⟩ := C
  have h := pe_call (pos := pos) (p := p) G hr hg m kp b (.nil) (pass0 (X := X)) ha hNo hFirst hPlain
  have e1 : tCall sp [] E0 t = tCal sp t := by
    funext σ H Q
    show (t σ H fun vs H1 => sp (vs ++ []) H1 Q E0) = t σ H fun vs H1 => sp vs H1 Q E0
    congr 1
    funext vs H1
    rw [List.append_nil]
  rw [e1] at h
  exact h
structure DefAt (K : PySem.W.Frag) (mg : Str → Option Value) (x : Str) (st : Stmt) (ps : List Str) (f : Addr) (fd : FuncData) : Prop where
  F : Fun K x x st f fd
  b : Binds K fd ps []
  m : mg x = some (.ref f)
theorem DefAt.cal {P : Program} {w : World} {K : PySem.W.Frag} {mg : Str → Option Value} {base : Heap} {k : Nat} {x : Str} {st : Stmt} {ps : List Str} {f : Addr} {fd : FuncData} {sp : Sp} (D : DefAt K mg x st ps f fd) (G : FnOk P w K mg base CX0 k f fd ps sp) :
    Cal P w K mg base k x ps sp := ⟨f, fd, G, D.m, D.F.kp, D.b⟩
theorem hu64 {A : Around} {k : Nat} (hr : Room k A) : A.units + 65 < cLine := by have := hr.un; omega
theorem hu9 {A : Around} {k : Nat} (hr : Room k A) : A.units + 9 < cLine := by have := hr.un; omega
theorem hu64' {A : Around} {k : Nat} (hr : Room k A) : A.units + 64 < cLine := by have := hr.un; omega
/-- the built-in names that stand -/
structure Blt (mg : Str → Option Value) : Prop where
  len : mg "len" = none
  range : mg "range" = none
  tuple : mg "tuple" = none
  isinstance : mg "isinstance" = none
  min : mg "min" = none
  zip : mg "zip" = none
  enumerate : mg "enumerate" = none
  abs : mg "abs" = none
  sorted : mg "sorted" = none
  dict : mg "dict" = none
  int : mg "int" = none
  str : mg "str" = none
  bool : mg "bool" = none

theorem szl {n : Nat} (h : n ≤ 16777216) : n ≤ sizeLine := by rw [sizeLine_eq]; exact h
/-! ### the law's data -/
def wS : K74.W → Str
  | .data => "data"
  | .flag => "flag"
  | .ask => "ask"
  | .told => "told"
  | .get => "get"
def kS : K74.Kd → Str
  | .answer => "answer"
  | .read => "read"
  | .write => "write"
theorem wS_inj : ∀ {a b : K74.W}, wS a = wS b → a = b := by
  intro a b h
  cases a <;> cases b <;> first | rfl | exact absurd h (by decide +kernel)
theorem kS_inj : ∀ {a b : K74.Kd}, kS a = kS b → a = b := by
  intro a b h
  cases a <;> cases b <;> first | rfl | exact absurd h (by decide +kernel)
theorem wS_ok (w : K74.W) : PyData.strOk (wS w) = true := by cases w <;> decide +kernel
theorem kS_ok (w : K74.Kd) : PyData.strOk (kS w) = true := by cases w <;> decide +kernel
def wD (w : K74.W) : PyData := .str (wS w)
def lineD (l : List K74.W) : PyData := .tuple (l.map wD)
def quD (q : List (List K74.W)) : PyData := .tuple (q.map lineD)
def stD (s : K74.S) : PyData := .tuple [quD s.q, .int (s.made : Nat), .int (s.stage : Nat), .bool s.isd, .bool s.isf]
def resD : Option K74.S → PyData
  | none => .tuple [.bool true]
  | some s => stD s
def pairD (p : K74.Kd × K74.Kd) : PyData := .tuple [.str (kS p.1), .str (kS p.2)]
def natV (n : Nat) : V := .int (n : Int)
def natD (n : Nat) : PyData := .int (n : Int)
theorem good_str {z : Str} (h : PyData.strOk z = true) : Good (.str z) := ⟨by simp [pl], nice_str h⟩
theorem nice_w (n : Nat) (w : K74.W) : NiceN n (wD w) := nice_str (wS_ok w)
theorem nice_line (l : List K74.W) : NiceN 1 (lineD l) := NiceN.tup (n := 0) fun d hd => by
  obtain ⟨w, _, rfl⟩ := List.mem_map.mp hd
  exact nice_w 0 w
theorem nice_qu (q : List (List K74.W)) : NiceN 2 (quD q) := NiceN.tup (n := 1) fun d hd => by
  obtain ⟨l, _, rfl⟩ := List.mem_map.mp hd
  exact nice_line l
theorem nice_st (s : K74.S) : NiceN 3 (stD s) := NiceN.tup (n := 2) fun d hd => by
  simp only [List.mem_cons, List.not_mem_nil, or_false] at hd
  rcases hd with rfl | rfl | rfl | rfl | rfl
  · exact nice_qu _
  · exact nice_int _ _
  · exact nice_int _ _
  · exact nice_bool _ _
  · exact nice_bool _ _
theorem nice_res (r : Option K74.S) : NiceN 3 (resD r) := by
  cases r with
  | some s => exact nice_st s
  | none =>
    refine NiceN.tup (n := 2) fun d hd => ?_
    simp only [List.mem_cons, List.not_mem_nil, or_false] at hd
    subst hd
    exact nice_bool _ _
theorem good_pair (p : K74.Kd × K74.Kd) : Good (pairD p) := by
  refine ⟨by simp [pairD, pl, plAll], (NiceN.tup (n := 0) fun d hd => ?_).mono (by decide)⟩
  simp only [List.mem_cons, List.not_mem_nil, or_false] at hd
  rcases hd with rfl | rfl
  · exact nice_str (kS_ok _)
  · exact nice_str (kS_ok _)
theorem pairD_inj {p q : K74.Kd × K74.Kd} (h : pairD p = pairD q) : p = q := by
  obtain ⟨a, b⟩ := p
  obtain ⟨c, d⟩ := q
  simp only [pairD, PyData.tuple.injEq, List.cons.injEq, PyData.str.injEq, and_true] at h
  rw [kS_inj h.1, kS_inj h.2]
theorem pair_mem {p : K74.Kd × K74.Kd} {l : List (K74.Kd × K74.Kd)} : pairD p ∈ l.map pairD ↔ p ∈ l := by
  constructor
  · intro h
    obtain ⟨q, hq, e⟩ := List.mem_map.mp h
    exact pairD_inj e ▸ hq
  · exact fun h => List.mem_map.mpr ⟨p, h, rfl⟩
/-- the dict of routes -/
def RtAt (H : Hp) (r : Addr) (rt : K74.Rt) : Prop := ∃ ra : K74.W → Addr, H r = some (.dK (K74.five.map fun w => (Sum.inr (wS w), V.ref (ra w)))) ∧ ∀ w, Lt H (ra w) ((rt w).map natD)
theorem RtAt.keep {H H' : Hp} {r : Addr} {rt : K74.Rt} (h : RtAt H r rt) (s : Same H H') : RtAt H' r rt := let ⟨ra, e, f⟩ := h; ⟨ra, s _ _ e, fun w => (f w).keep s⟩
theorem RtAt.get {H : Hp} {r : Addr} {rt : K74.Rt} (h : RtAt H r rt) (w : K74.W) : ∃ a, DGet H r (.str (wS w)) (some (.ref a)) ∧ Lt H a ((rt w).map natD) := by
  obtain ⟨ra, e, f⟩ := h
  refine ⟨ra w, ?_, f w⟩
  have := DGet.k (k := Sum.inr (wS w)) e
  have e2 : valV (K74.five.map fun w => ((Sum.inr (wS w) : L2.Key), V.ref (ra w))) (Sum.inr (wS w)) = some (.ref (ra w)) := by
    cases w <;> rfl
  rw [e2] at this
  exact this

section
variable {P : Program} {w : World} {K : PySem.W.Frag} {mg : Str → Option Value} {base : Heap} {f : Addr} {fd : FuncData}
/-! ### _law_kind -/
abbrev sKind : Stmt := top 30
def spKind : Sp := fun vs H Q _ => ∃ x : K74.W, vs = [.str (wS x)] ∧ ∀ H', Same H H' → Q (.str (kS (K74.kd x))) H'
theorem scKind : FnScope ["_law_word"] ["_law_word"] (defScope sKind) := ⟨rfl, rfl, rfl, by decide +kernel, rfl, by decide +kernel, by decide +kernel⟩
theorem ok_kind (D : DefAt K mg "_law_kind" sKind ["_law_word"] f fd) : FnOk P w K mg base CX0 1 f fd ["_law_word"] spKind := by
  refine D.F.ok scKind (fun vs H Q E h => ?_) (fun cdv A outer s H vs Q E hr h => ?_)
  · obtain ⟨x, rfl, _⟩ := h
    rfl
  obtain ⟨x, rfl, q⟩ := h
  have hu := hu_of hr
  refine ⟨_, pss_one (ps_ret (pe_dget2 hu (pe_disp (pps_cons pe_str pe_str (pps_cons pe_str pe_str (pps_cons pe_str pe_str pps_nil))) rfl rfl (fun z => by cases z) (by decide)) (pv 0) pe_str ⟨rfl, rfl, rfl, rfl⟩)), ?_⟩
  intro p hp
  refine ⟨upd_same, [(Sum.inr "data", .str "write"), (Sum.inr "flag", .str "write"), (Sum.inr "told", .str "answer")], rfl, by decide, p, rfl, .inl ⟨_, Rd.of upd_same⟩, _, rfl, _, DGet.k (k := Sum.inr (wS x)) upd_same, ?_⟩
  have sm : Same H (upd (upd H p (.dK [])) p (.dK (mergeK [] [((Sum.inr "data" : L2.Key), V.str "write"), (Sum.inr "flag", .str "write"), (Sum.inr "told", .str "answer")]))) := by
    rw [upd_upd]; exact same_new hp
  have fin := q _ sm
  cases x <;> exact fin
/-! ### _law_entered -/
abbrev sEntered : Stmt := top 31
def spEntered : Sp := fun vs H Q _ => ∃ (v : V) (qu : List (List K74.W)) (i : Nat) (x : K74.W), vs = [v, natV i, .str (wS x)] ∧ TD H v (quD qu) ∧ i < qu.length ∧ qu.length ≤ 1000 ∧ (qu.getD i []).length ≤ 1000 ∧
  ∀ v' H', Same H H' → TD H' v' (quD (K74.entered qu i x)) → Q v' H'
theorem scEntered : FnScope ["_law_queues", "_law_spot", "_law_word"] ["_law_queues", "_law_spot", "_law_word"] (defScope sEntered) := ⟨rfl, rfl, rfl, by decide +kernel, rfl, by decide +kernel, by decide +kernel⟩
theorem ok_entered (D : DefAt K mg "_law_entered" sEntered ["_law_queues", "_law_spot", "_law_word"] f fd) : FnOk P w K mg base CX0 1 f fd ["_law_queues", "_law_spot", "_law_word"] spEntered := by
  refine D.F.ok scEntered (fun vs H Q E h => ?_) (fun cdv A outer s H vs Q E hr h => ?_)
  · obtain ⟨v, qu, i, x, rfl, _⟩ := h
    rfl
  obtain ⟨v, qu, i, x, rfl, hv, hi, hz, hz2, q⟩ := h
  refine ⟨_, pss_one (ps_ret (pe_op op_catTD (pe_op op_catTD (pe_slice sl_TD (pv 0) po_none (po_some (pv 1))) (pe_td (pa_cons (pe_op op_catTD (pe_ix ix_TD (pv 0) (pv 1) (fun _ _ => rfl)) (pe_td (pa_cons (pv 2) pa_nil))) pa_nil)))
    (pe_slice sl_TD (pv 0) (po_some (pe_op op_add (pv 1) pe_int)) po_none))), ?_⟩
  have hs : sizeLine = 16777216 := sizeLine_eq
  -- queues[:spot]
  refine ⟨_, rfl, _, rfl, _, rfl, _, hv, fun v1 H1 s1 t1 => ?_⟩
  rw [cutD_to] at t1
  -- queues[spot] + (word,)
  refine ⟨_, rfl, _, rfl, _, _, lineD (qu.getD i []), hv.k (TK.same s1), rfl, ?_, fun v2 t2 => ?_⟩
  · refine atI_nat ?_
    rw [List.getElem?_map, List.getD_eq_getElem?_getD, List.getElem?_eq_getElem hi]; rfl
  refine ⟨_, rfl, [wD x], TDs.one (.str _), szl (by simp), fun v3 H3 s3 t3 => ?_⟩
  refine ⟨_, _, t2.k (TK.same s3), t3, by rw [List.length_map, List.length_singleton, hs]; omega, fun v4 H4 s4 t4 => ?_⟩
  refine ⟨[_], TDs.one t4, szl (by simp), fun v5 H5 s5 t5 => ?_⟩
  have s15 := (s3.trans s4).trans s5
  refine ⟨_, _, t1.k (TK.same s15), t5, by rw [List.length_take, List.length_map, List.length_singleton, hs]; omega, fun v6 H6 s6 t6 => ?_⟩
  refine ⟨_, rfl, _, rfl, _, _, rfl, rfl, _, rfl, _, (hv.k (TK.same (s1.trans (s15.trans s6)))), fun v7 H7 s7 t7 => ?_⟩
  have e1 : (i : Int) + 1 = ((i + 1 : Nat) : Int) := by omega
  have t7 : TD H7 v7 (.tuple (cutD (qu.map lineD) (some ((i : Int) + 1)) none)) := t7
  rw [e1, cutD_from] at t7
  refine ⟨_, _, t6.k (TK.same s7), t7, ?_, fun v8 H8 s8 t8 => ?_⟩
  · rw [List.length_append, List.length_take, List.length_drop, List.length_map, List.length_singleton, hs]; omega
  refine q v8 H8 (s1.trans (s15.trans (s6.trans (s7.trans s8)))) ?_
  have e2 : quD (K74.entered qu i x) = .tuple (((qu.map lineD).take i ++ [.tuple ((qu.getD i []).map wD ++ [wD x])]) ++ (qu.map lineD).drop (i + 1)) := by
    unfold quD K74.entered
    rw [List.map_append, List.map_cons, List.map_take, List.map_drop, List.append_assoc]
    unfold lineD
    rw [List.map_append]; rfl
  rw [e2]
  exact t8
end
end KW
/-! K74, arrivals, starts, moves -/
namespace KW
open L2 PySem PySem.Spec PyProof.Rows
theorem itY {b : Bool} {A B : Prop} (h : b = true) (a : A) : if b = true then A else B := by rw [if_pos h]; exact a
theorem itN {b : Bool} {A B : Prop} (h : b = false) (a : B) : if b = true then A else B := by rw [if_neg (by rw [h]; simp)]; exact a
theorem TD.st {H : Hp} {v : V} {s : K74.S} (h : TD H v (stD s)) : ∃ a qv, v = .ref a ∧ H a = some (.tup [qv, natV s.made, natV s.stage, .bl s.isd, .bl s.isf]) ∧ TD H qv (quD s.q) := by
  obtain ⟨a, vs, rfl, ha, t⟩ := h.inv
  cases t with
  | cons h1 t => cases t with
    | cons h2 t => cases t with
      | cons h3 t => cases t with
        | cons h4 t => cases t with
          | cons h5 t =>
            cases t
            obtain rfl := h2.invI
            obtain rfl := h3.invI
            obtain rfl := h4.invB
            obtain rfl := h5.invB
            exact ⟨a, _, rfl, ha, h1⟩
theorem TDs.st {H : Hp} {qv : V} {q : List (List K74.W)} {m n : Nat} {d f : Bool} (h : TD H qv (quD q)) : TDs H [qv, natV m, natV n, .bl d, .bl f] [quD q, natD m, natD n, .bool d, .bool f] :=
  .cons h (.cons (.int _) (.cons (.int _) (.cons (.bl _) (.cons (.bl _) .nil))))
theorem atI_head {l : List Nat} (h : l ≠ []) : atI (l.map natD) 0 = some (natD (l.headD 0)) := by
  cases l with
  | nil => exact absurd rfl h
  | cons a l => exact atI_nat (j := 0) rfl
/-- a state with few and short queues -/
def Sm (s : K74.S) : Prop := s.q.length ≤ 1000 ∧ ∀ i, (s.q.getD i []).length ≤ 1000
section
variable {P : Program} {w : World} {K : PySem.W.Frag} {mg : Str → Option Value} {base : Heap} {f : Addr} {fd : FuncData}
abbrev EnC (P : Program) (w : World) (K : PySem.W.Frag) (mg : Str → Option Value) (base : Heap) : Prop := Cal P w K mg base 1 "_law_entered" ["_law_queues", "_law_spot", "_law_word"] spEntered
/-! ### _law_arrived -/
abbrev sArrived : Stmt := top 32
abbrev psArrived : List Str := ["_law_routes_here", "_law_state", "_law_word"]
def spArrived (rt : K74.Rt) : Sp := fun vs H Q _ => ∃ (r : Addr) (v : V) (s : K74.S) (x : K74.W), vs = [.ref r, v, .str (wS x)] ∧ RtAt H r rt ∧ TD H v (stD s) ∧ Sm s ∧ (x = .ask → rt .told ≠ [] ∧ (rt .told).headD 0 < s.q.length) ∧
  ∀ p H', H p = none → Same H H' → Lt H' p ((K74.arrived rt s x).map resD) → Q (.ref p) H'
abbrev nsArrived : List Str := ["_law_routes_here", "_law_state", "_law_word", "_law_queues", "_law_made", "_law_stage", "_law_is_data", "_law_is_flag", "_law_fresh"]
theorem scArrived : FnScope nsArrived psArrived (defScope sArrived) := ⟨rfl, rfl, rfl, by decide +kernel, rfl, by decide +kernel, by decide +kernel⟩
theorem ok_arrived {rt : K74.Rt} (D : DefAt K mg "_law_arrived" sArrived psArrived f fd) (CE : EnC P w K mg base) : FnOk P w K mg base CX0 2 f fd psArrived (spArrived rt) := by
  refine D.F.ok scArrived (fun vs H Q E h => ?_) (fun cdv A outer s H vs Q E hr h => ?_)
  · obtain ⟨r, v, s, x, rfl, _⟩ := h
    rfl
  obtain ⟨r, v, st, x, rfl, hrt, hv, hsm, hask, q⟩ := h
  have hu := hu_of hr
  have nd := scArrived.nd
  refine ⟨_, pss_cons (ps_asg (pv 1) (pg_tup rfl (pgs_cons (pg_name (i := 3) nd rfl (.inl rfl)) (pgs_cons (pg_name (i := 4) nd rfl (.inl rfl)) (pgs_cons (pg_name (i := 5) nd rfl (.inl rfl)) (pgs_cons (pg_name (i := 6) nd rfl (.inl rfl)) (pgs_cons (pg_name (i := 7) nd rfl (.inl rfl)) pgs_nil)))))))
    (pss_cons (ps_if (pt_cmpR op_eq (pv 2) pe_str (nomark _)) (pss_one (ps_ret (pe_lt (pa_cons (pe_td (pa_cons (pv 3) (pa_cons (pv 4) (pa_cons (pv 5) (pa_cons pe_bl (pa_cons (pv 7) pa_nil)))))) pa_nil)))) pss_nil)
    (pss_cons (ps_if (pt_cmpR op_eq (pv 2) pe_str (nomark _)) (pss_one (ps_ret (pe_lt (pa_cons (pe_td (pa_cons (pv 3) (pa_cons (pv 4) (pa_cons (pv 5) (pa_cons (pv 6) (pa_cons pe_bl pa_nil)))))) pa_nil)))) pss_nil)
    (pss_cons (ps_if (pt_cmpR op_eq (pv 2) pe_str (nomark _)) (pss_cons (ps_set (i := 8) nd rfl (Or.inl rfl) (pe_cal CE hr rfl (pa_cons (pv 3) (pa_cons (pe_ix ix_Lt (pe_dget hu (pv 0) pe_str (fun _ _ => rfl)) pe_int (fun _ _ => rfl)) (pa_cons pe_str pa_nil)))))
      (pss_one (ps_ret (pe_ifExp (pt_val (pv 7)) (pe_lt (pa_cons (pe_td (pa_cons (pv 8) (pa_cons (pv 4) (pa_cons (pv 5) (pa_cons (pv 6) (pa_cons (pv 7) pa_nil)))))) pa_nil)) (pe_lt pa_nil))))) pss_nil)
    (pss_cons (ps_if (pt_cmpR op_eq (pv 2) pe_str (nomark _)) (pss_one (ps_ret (pe_lt (pa_cons (pe_td (pa_cons (pv 3) (pa_cons (pv 4) (pa_cons pe_int (pa_cons (pv 6) (pa_cons (pv 7) pa_nil)))))) pa_nil)))) pss_nil)
    (pss_one (ps_ret (pe_ifExp (pt_val (pv 6)) (pe_lt pa_nil) (pe_lt (pa_cons (pe_td (pa_cons pe_bl pa_nil)) pa_nil))))))))), ?_⟩
  obtain ⟨a, qv, rfl, ha, hq⟩ := hv.st
  refine ⟨_, rfl, a, _, rfl, SqT.of ha, rfl, _, _, rfl, _, _, rfl, _, _, rfl, _, _, rfl, _, _, rfl, rfl, ?_⟩
  refine ⟨_, rfl, rfl, _, rfl, ?_⟩
  cases x with
  | data =>
    refine itY (by decide +kernel) ?_
    refine ⟨_, rfl, _, rfl, _, rfl, _, rfl, _, TDs.st hq, szl (by simp), fun v1 H1 s1 t1 => ?_⟩
    exact ⟨_, TDs.one t1, szl (by simp), fun p H2 hp s2 l2 => q p H2 (s1.free hp) (s1.trans s2) l2⟩
  | flag =>
    refine itN (by decide +kernel) ⟨_, rfl, rfl, _, rfl, itY (by decide +kernel) ?_⟩
    refine ⟨_, rfl, _, rfl, _, rfl, _, rfl, _, TDs.st hq, szl (by simp), fun v1 H1 s1 t1 => ?_⟩
    exact ⟨_, TDs.one t1, szl (by simp), fun p H2 hp s2 l2 => q p H2 (s1.free hp) (s1.trans s2) l2⟩
  | ask =>
    obtain ⟨hne, hlt⟩ := hask rfl
    obtain ⟨ta, g, lt⟩ := hrt.get .told
    refine itN (by decide +kernel) ⟨_, rfl, rfl, _, rfl, itN (by decide +kernel) ⟨_, rfl, rfl, _, rfl, itY (by decide +kernel) ?_⟩⟩
    refine ⟨_, rfl, _, rfl, r, _, rfl, g, ta, _, 0, _, rfl, rfl, lt, atI_head hne, fun v0 t0 => ?_⟩
    obtain rfl := t0.invI
    refine ⟨qv, st.q, _, .told, rfl, hq, hlt, hsm.1, hsm.2 _, fun v1 H1 s1 t1 => ?_⟩
    refine ⟨_, rfl, _, rfl, ?_⟩
    cases hf : st.isf with
    | true =>
      refine iteT ⟨_, rfl, _, rfl, _, rfl, _, rfl, _, rfl, _, TDs.st t1, szl (by simp), fun v2 H2 s2 t2 => ?_⟩
      refine ⟨_, TDs.one t2, szl (by simp), fun p H3 hp s3 l3 => q p H3 ((s1.trans s2).free hp) (s1.trans (s2.trans s3)) ?_⟩
      have e : K74.arrived rt st .ask = [some { st with q := K74.entered st.q ((rt .told).headD 0) .told }] := by
        show (if st.isf = true then _ else _) = _
        rw [if_pos hf]
      rw [e]
      have l3 : Lt H3 p [.tuple [quD (K74.entered st.q ((rt .told).headD 0) .told), natD st.made, natD st.stage, .bool st.isd, .bool true]] := l3
      rw [← hf] at l3
      exact l3
    | false =>
      refine iteF ⟨_, .nil, szl (by simp), fun p H3 hp s3 l3 => q p H3 (s1.free hp) (s1.trans s3) ?_⟩
      have e : K74.arrived rt st .ask = [] := by
        show (if st.isf = true then _ else _) = _
        rw [if_neg (by rw [hf]; simp)]
      rw [e]
      exact l3
  | told =>
    refine itN (by decide +kernel) ⟨_, rfl, rfl, _, rfl, itN (by decide +kernel) ⟨_, rfl, rfl, _, rfl, itN (by decide +kernel) ⟨_, rfl, rfl, _, rfl, itY (by decide +kernel) ?_⟩⟩⟩
    refine ⟨_, rfl, _, rfl, _, rfl, _, rfl, _, TDs.st hq (n := 2), szl (by simp), fun v1 H1 s1 t1 => ?_⟩
    exact ⟨_, TDs.one t1, szl (by simp), fun p H2 hp s2 l2 => q p H2 (s1.free hp) (s1.trans s2) l2⟩
  | get =>
    refine itN (by decide +kernel) ⟨_, rfl, rfl, _, rfl, itN (by decide +kernel) ⟨_, rfl, rfl, _, rfl, itN (by decide +kernel) ⟨_, rfl, rfl, _, rfl, itN (by decide +kernel) ⟨_, rfl, _, rfl, ?_⟩⟩⟩⟩
    cases hd : st.isd with
    | true =>
      refine iteT ⟨_, .nil, szl (by simp), fun p H3 hp s3 l3 => q p H3 hp s3 ?_⟩
      have e : K74.arrived rt st .get = [] := by
        show (if st.isd = true then _ else _) = _
        rw [if_pos hd]
      rw [e]
      exact l3
    | false =>
      refine iteF ⟨_, TDs.one (.bl true), szl (by simp), fun v2 H2 s2 t2 => ?_⟩
      refine ⟨_, TDs.one t2, szl (by simp), fun p H3 hp s3 l3 => q p H3 (s2.free hp) (s2.trans s3) ?_⟩
      have e : K74.arrived rt st .get = [none] := by
        show (if st.isd = true then _ else _) = _
        rw [if_neg (by rw [hd]; simp)]
      rw [e]
      exact l3
end
end KW
/-! K74: starts, moves, what is behind a state -/
namespace KW
open L2 PySem PySem.Spec PyProof.Rows
theorem empty_map {α : Type} {f : α → PyData} {l : List α} : (l.map f).isEmpty = decide (l = []) := by cases l <;> simp
theorem idxF {α : Type} [BEq α] [LawfulBEq α] {f : α → PyData} (inj : ∀ a b, f a = f b → a = b) {l : List α} {a : α} (h : a ∈ l) : (l.map f)[l.idxOf a]? = some (f a) ∧ ∀ m, m < l.idxOf a → (l.map f)[m]? ≠ some (f a) := by
  have hl := List.idxOf_lt_length_of_mem h
  refine ⟨by rw [List.getElem?_map, List.getElem?_eq_getElem hl, List.getElem_idxOf hl]; rfl, fun m hm e => ?_⟩
  rw [List.getElem?_map, List.getElem?_eq_getElem (by omega)] at e
  have e' := inj _ _ (Option.some.inj e)
  have := List.not_of_lt_findIdx (show m < List.findIdx (· == a) l from hm)
  rw [e'] at this
  simp at this
theorem natD_inj (a b : Nat) (h : natD a = natD b) : a = b := by
  have : ((a : Nat) : Int) = b := by injection h
  omega
theorem good_nat (n : Nat) : Good (natD n) := ⟨by simp [natD, pl], nice_int _ _⟩
theorem good_nats {l : List Nat} : ∀ e ∈ l.map natD, Good e := fun e he => by
  obtain ⟨n, _, rfl⟩ := List.mem_map.mp he
  exact good_nat n
theorem atI_lastD {l : List Nat} (h : l ≠ []) : atI (l.map natD) (-1) = some (natD (l.getLastD 0)) := by
  obtain ⟨l', a, rfl⟩ : ∃ l' a, l = l' ++ [a] := ⟨l.dropLast, l.getLast h, (List.dropLast_concat_getLast h).symm⟩
  rw [List.map_append, List.map_singleton, atI_last, List.getLastD_concat]
theorem atI_map {α : Type} {f : α → PyData} {l : List α} {i : Nat} {d : α} (h : i < l.length) : atI (l.map f) (i : Int) = some (f (l.getD i d)) := by
  refine atI_nat ?_
  rw [List.getElem?_map, List.getD_eq_getElem?_getD, List.getElem?_eq_getElem h]; rfl
section
variable {P : Program} {w : World} {K : PySem.W.Frag} {mg : Str → Option Value} {base : Heap} {f : Addr} {fd : FuncData}
abbrev ArC (P : Program) (w : World) (K : PySem.W.Frag) (mg : Str → Option Value) (base : Heap) (rt : K74.Rt) : Prop := Cal P w K mg base 2 "_law_arrived" psArrived (spArrived rt)
/-! ### _law_started -/
abbrev sStarted : Stmt := top 33
def spStarted (rt : K74.Rt) : Sp := fun vs H Q _ => ∃ (r : Addr) (v : V) (s : K74.S) (x : K74.W), vs = [.ref r, v, .str (wS x)] ∧ RtAt H r rt ∧ TD H v (stD s) ∧ Sm s ∧ (rt x ≠ [] → (rt x).headD 0 < s.q.length) ∧
  ∀ p H', H p = none → Same H H' → Lt H' p ((K74.started rt s x).map resD) → Q (.ref p) H'
theorem scStarted : FnScope nsArrived psArrived (defScope sStarted) := ⟨rfl, rfl, rfl, by decide +kernel, rfl, by decide +kernel, by decide +kernel⟩
theorem ok_started {rt : K74.Rt} (D : DefAt K mg "_law_started" sStarted psArrived f fd) (CE : EnC P w K mg base) (CA : ArC P w K mg base rt) : FnOk P w K mg base CX0 3 f fd psArrived (spStarted rt) := by
  refine D.F.ok scStarted (fun vs H Q E h => ?_) (fun cdv A outer s H vs Q E hr h => ?_)
  · obtain ⟨r, v, s, x, rfl, _⟩ := h
    rfl
  obtain ⟨r, v, st, x, rfl, hrt, hv, hsm, hlt, q⟩ := h
  have hu := hu_of hr
  have nd := scStarted.nd
  refine ⟨_, pss_cons (ps_asg (pv 1) (pg_tup rfl (pgs_cons (pg_name (i := 3) nd rfl (.inl rfl)) (pgs_cons (pg_name (i := 4) nd rfl (.inl rfl)) (pgs_cons (pg_name (i := 5) nd rfl (.inl rfl)) (pgs_cons (pg_name (i := 6) nd rfl (.inl rfl)) (pgs_cons (pg_name (i := 7) nd rfl (.inl rfl)) pgs_nil)))))))
    (pss_cons (ps_if (pt_cmpR (op_neNil (hu64' hr)) (pe_dget hu (pv 0) (pv 2) (fun _ _ => rfl)) (pe_lt pa_nil) (nomark _))
      (pss_cons (ps_set (i := 8) nd rfl (Or.inl rfl) (pe_cal CE (hr.mono (by decide)) rfl (pa_cons (pv 3) (pa_cons (pe_ix ix_Lt (pe_dget hu (pv 0) (pv 2) (fun _ _ => rfl)) pe_int (fun _ _ => rfl)) (pa_cons (pv 2) pa_nil)))))
        (pss_one (ps_ret (pe_lt (pa_cons (pe_td (pa_cons (pv 8) (pa_cons (pv 4) (pa_cons (pv 5) (pa_cons (pv 6) (pa_cons (pv 7) pa_nil)))))) pa_nil))))) pss_nil)
    (pss_cons (ps_if (pt_cmpR op_eq (pv 2) pe_str (nomark _)) (pss_one (ps_ret (pe_ifExp (pt_val (pv 7)) (pe_lt (pa_cons (pe_td (pa_cons (pv 3) (pa_cons (pv 4) (pa_cons pe_int (pa_cons (pv 6) (pa_cons (pv 7) pa_nil)))))) pa_nil)) (pe_lt pa_nil)))) pss_nil)
    (pss_one (ps_ret (pe_cal CA hr rfl (pa_cons (pv 0) (pa_cons (pv 1) (pa_cons (pv 2) pa_nil)))))))), ?_⟩
  obtain ⟨a, qv, rfl, ha, hq⟩ := hv.st
  obtain ⟨ta, g, lt⟩ := hrt.get x
  refine ⟨_, rfl, a, _, rfl, SqT.of ha, rfl, _, _, rfl, _, _, rfl, _, _, rfl, _, _, rfl, _, _, rfl, rfl, ?_⟩
  refine ⟨_, rfl, _, rfl, r, _, rfl, g, _, .nil, szl (by simp), fun p0 H1 hp0 s1 l1 => ?_⟩
  refine ⟨ta, p0, _, rfl, rfl, lt.keep s1, l1, fun e he => (good_nats e he).2.mono (by decide), _, rfl, ?_⟩
  obtain ⟨ta', g', lt'⟩ := (hrt.keep s1).get x
  have hq1 := hq.k (TK.same s1)
  rw [empty_map]
  by_cases hne : rt x = []
  · refine itN (by rw [decide_eq_true hne]; rfl) ?_
    refine ⟨_, rfl, rfl, _, rfl, ?_⟩
    by_cases hx : x = .ask
    · subst hx
      refine itY (by decide +kernel) ⟨_, rfl, _, rfl, ?_⟩
      have e0 : K74.started rt st .ask = (if st.isf = true then [some { st with stage := 2 }] else []) := by
        unfold K74.started
        rw [if_neg (by simp [hne]), if_pos rfl]
      cases hf : st.isf with
      | true =>
        refine iteT ⟨_, rfl, _, rfl, _, rfl, _, rfl, _, TDs.st hq1 (n := 2), szl (by simp), fun v2 H2 s2 t2 => ?_⟩
        refine ⟨_, TDs.one t2, szl (by simp), fun p H3 hp s3 l3 => q p H3 ((s1.trans s2).free hp) (s1.trans (s2.trans s3)) ?_⟩
        rw [e0, if_pos hf]
        have l3 : Lt H3 p [.tuple [quD st.q, natD st.made, natD 2, .bool st.isd, .bool true]] := l3
        rw [← hf] at l3
        exact l3
      | false =>
        refine iteF ⟨_, .nil, szl (by simp), fun p H3 hp s3 l3 => q p H3 (s1.free hp) (s1.trans s3) ?_⟩
        rw [e0, if_neg (by rw [hf]; simp)]
        exact l3
    · refine itN (decide_eq_false fun z => hx (wS_inj (by injection z))) ?_
      refine ⟨_, rfl, _, rfl, _, rfl, r, _, st, x, rfl, hrt.keep s1, hv.k (TK.same s1), hsm, fun z => absurd z hx, fun p H3 hp s3 l3 => q p H3 (s1.free hp) (s1.trans s3) ?_⟩
      have e0 : K74.started rt st x = K74.arrived rt st x := by
        unfold K74.started
        rw [if_neg (by simp [hne]), if_neg hx]
      rw [e0]
      exact l3
  · refine itY (by rw [decide_eq_false hne]; rfl) ?_
    refine ⟨_, rfl, _, rfl, _, rfl, r, _, rfl, g', ta', _, 0, _, rfl, rfl, lt', atI_head hne, fun v0 t0 => ?_⟩
    obtain rfl := t0.invI
    refine ⟨_, rfl, qv, st.q, _, x, rfl, hq1, hlt hne, hsm.1, hsm.2 _, fun v1 H2 s2 t1 => ?_⟩
    refine ⟨_, rfl, _, rfl, _, rfl, _, rfl, _, rfl, _, TDs.st t1, szl (by simp), fun v2 H3 s3 t2 => ?_⟩
    refine ⟨_, TDs.one t2, szl (by simp), fun p H4 hp s4 l4 => q p H4 ((s1.trans (s2.trans s3)).free hp) (s1.trans (s2.trans (s3.trans s4))) ?_⟩
    have e0 : K74.started rt st x = [some { st with q := K74.entered st.q ((rt x).headD 0) x }] := by
      unfold K74.started
      rw [if_pos hne]
    rw [e0]
    exact l4
end
end KW
/-! K74: which messages are free, how they go on -/
namespace KW
open L2 PySem PySem.Spec PyProof.Rows
theorem TDs.ofMap {α : Type} {f : α → PyData} {H : Hp} {vs : List V} {l : List α} {i : Nat} {x : V} (t : TDs H vs (l.map f)) (h : vs[i]? = some x) : ∃ a, l[i]? = some a ∧ TD H x (f a) := by
  obtain ⟨d, hd, td⟩ := t.getV h
  rw [List.getElem?_map] at hd
  cases e : l[i]? with
  | none => rw [e] at hd; exact nomatch hd
  | some a =>
    rw [e] at hd
    exact ⟨a, rfl, by rw [show f a = d from Option.some.inj hd]; exact td⟩
section
variable {P : Program} {w : World} {K : PySem.W.Frag} {mg : Str → Option Value} {base : Heap} {f : Addr} {fd : FuncData}
abbrev KiC (P : Program) (w : World) (K : PySem.W.Frag) (mg : Str → Option Value) (base : Heap) : Prop := Cal P w K mg base 1 "_law_kind" ["_law_word"] spKind
/-! ### _law_is_free -/
abbrev sFree : Stmt := top 34
abbrev psFree : List Str := ["_law_allowed", "_law_line", "_law_k"]
abbrev nsFree : List Str := ["_law_allowed", "_law_line", "_law_k", "_law_kind_here", "_law_one"]
def spFree (al : K74.Al) : Sp := fun vs H Q _ => ∃ (a : Addr) (v : V) (line : List K74.W) (k : Nat), vs = [.ref a, v, natV k] ∧ Lt H a (al.map pairD) ∧ TD H v (lineD line) ∧ k < line.length ∧ line.length ≤ 1000 ∧
  ∀ H', Same H H' → Q (.bl (K74.isFree al line k)) H'
theorem scFree : FnScope nsFree psFree (defScope sFree) := ⟨rfl, rfl, rfl, by decide +kernel, rfl, by decide +kernel, by decide +kernel⟩
theorem ok_free {al : K74.Al} (D : DefAt K mg "_law_is_free" sFree psFree f fd) (CK : KiC P w K mg base) : FnOk P w K mg base CX0 2 f fd psFree (spFree al) := by
  refine D.F.ok scFree (fun vs H Q E h => ?_) (fun cdv A outer s H vs Q E hr h => ?_)
  · obtain ⟨a, v, line, k, rfl, _⟩ := h
    rfl
  obtain ⟨a, v, line, k, rfl, hal, hv, hk, hz, q⟩ := h
  have hu := hu_of hr
  have nd := scFree.nd
  refine ⟨_, pss_cons (ps_set (i := 3) nd rfl (Or.inr rfl) (pe_cal CK hr rfl (pa_cons (pe_ix ix_TD (pv 1) (pv 2) (fun _ _ => rfl)) pa_nil)))
    (pss_one (ps_ret (pe_cmpR (op_eqNil (hu64' hr)) (pe_lc (own := [("_law_one", 4)]) (g := gName 4) rfl nd (pi_tup (pe_slice sl_TD (pv 1) po_none (po_some (pv 2)))) (blkOk_by (N := nsFree) (sc := defScope sFree) (by decide +kernel)) (fun _ _ _ _ _ => pg_name (i := 4) nd rfl (Or.inl rfl))
      (fun _ _ _ _ _ => pts_one (pt_cmpR (op_notInLt (hu64 hr)) (pe_td (pa_cons (pv 3) (pa_cons (pe_cal CK hr rfl (pa_cons (pv 4) pa_nil)) pa_nil))) (pv 0) rfl)) (fun _ _ _ _ _ => pv 4)) (pe_lt pa_nil) (nomark _)))), ?_⟩
  have hw : (line.map wD)[k]? = some (wD (line.getD k .data)) := by
    rw [List.getElem?_map, List.getD_eq_getElem?_getD, List.getElem?_eq_getElem hk]; rfl
  refine ⟨_, rfl, _, rfl, _, _, _, hv, rfl, atI_nat hw, fun v0 t0 => ?_⟩
  obtain rfl := t0.invS
  refine ⟨_, rfl, fun H1 s1 => ?_⟩
  refine ⟨_, rfl, _, rfl, _, rfl, _, hv.k (TK.same s1), fun v1 H2 s2 t1 => ?_⟩
  rw [cutD_to, ← List.map_take] at t1
  obtain ⟨b, xs, rfl, hb, ts⟩ := t1.inv
  refine ⟨b, rfl, ⟨xs, SqT.of hb⟩, fun Dl hD => ?_⟩
  have hxl : xs.length = (line.take k).length := by rw [ts.length, List.length_map]
  have lk : (line.take k).length ≤ 1000 := by rw [List.length_take]; omega
  refine lc_it walk_tup (LcP H2 Dl fun i => (((line.take k).take i).filter fun o => decide ((K74.kd (line.getD k .data), K74.kd o) ∉ al)).map wD) (LcP.start hD rfl) (fun i H _ p => SqT.of (p.1 _ _ hb)) ?_ ?_
  · rintro i x H3 _ hi p ⟨rfl, hx⟩
    obtain ⟨o, ho, td⟩ := ts.ofMap hx
    obtain rfl := (td.k (TK.same p.1)).invS
    refine ⟨rfl, _, rfl, _, rfl, o, rfl, fun H4 s4 => ?_⟩
    refine ⟨_, .cons (.str _) (TDs.one (.str _)), szl (by simp), fun v2 H5 s5 t2 => ?_⟩
    have sH : Same H H5 := s1.trans (s2.trans (p.1.trans (s4.trans s5)))
    refine ⟨_, rfl, a, pairD (K74.kd (line.getD k .data), K74.kd o), _, rfl, hal.keep sH, t2, good_pair _, fun e he => ?_, fun bb hbb => ?_⟩
    · obtain ⟨z, _, rfl⟩ := List.mem_map.mp he
      exact good_pair z
    refine ⟨_, rfl, ?_⟩
    have hm : bb = true ↔ (K74.kd (line.getD k .data), K74.kd o) ∈ al := hbb.trans pair_mem
    have ht := take_snoc ho
    by_cases c : (K74.kd (line.getD k .data), K74.kd o) ∈ al
    · refine itN (by rw [hm.mpr c]; rfl) (p.skip (s4.trans s5) ?_)
      rw [ht, List.filter_append, List.filter_cons_of_neg (by simpa using c)]; simp
    · have hb0 : bb = false := by cases bb with
        | true => exact absurd (hm.mp rfl) c
        | false => rfl
      refine itY (by rw [hb0]; rfl) ⟨_, rfl, p.put hD (s4.trans s5) (.str _) ?_ ?_⟩
      · rw [ht, List.filter_append, List.filter_cons_of_pos (by simpa using c), List.map_append]; rfl
      · rw [List.length_map]
        have h1 := List.length_filter_le (fun o => decide ((K74.kd (line.getD k .data), K74.kd o) ∉ al)) ((line.take k).take i)
        rw [List.length_take] at h1
        exact small1000 (by omega)
  · intro H3 p
    rw [hxl, LcP, List.take_length] at p
    refine ⟨_, .nil, szl (by simp), fun p0 H4 hp0 s4 l4 => ?_⟩
    refine ⟨Dl, p0, _, rfl, rfl, p.2.keep s4, l4, fun e he => ?_, ?_⟩
    · obtain ⟨z, _, rfl⟩ := List.mem_map.mp he
      exact nice_w _ z
    rw [empty_map]
    exact q H4 (s1.trans (s2.trans (p.1.trans s4)))
/-! ### _law_gone_on -/
abbrev sGone : Stmt := top 35
abbrev psGone : List Str := ["_law_routes_here", "_law_state", "_law_spot", "_law_word"]
abbrev nsGone : List Str := ["_law_routes_here", "_law_state", "_law_spot", "_law_word", "_law_route", "_law_fresh"]
def spGone (rt : K74.Rt) : Sp := fun vs H Q _ => ∃ (r : Addr) (v : V) (s : K74.S) (i : Nat) (x : K74.W), vs = [.ref r, v, natV i, .str (wS x)] ∧ RtAt H r rt ∧ TD H v (stD s) ∧ Sm s ∧ K74.RtOk rt s.q.length ∧ i ∈ rt x ∧
  ∀ p H', H p = none → Same H H' → Lt H' p ((K74.goneOn rt s i x).map resD) → Q (.ref p) H'
theorem scGone : FnScope nsGone psGone (defScope sGone) := ⟨rfl, rfl, rfl, by decide +kernel, rfl, by decide +kernel, by decide +kernel⟩
theorem ok_gone {rt : K74.Rt} (D : DefAt K mg "_law_gone_on" sGone psGone f fd) (CE : EnC P w K mg base) (CA : ArC P w K mg base rt) : FnOk P w K mg base CX0 3 f fd psGone (spGone rt) := by
  refine D.F.ok scGone (fun vs H Q E h => ?_) (fun cdv A outer s H vs Q E hr h => ?_)
  · obtain ⟨r, v, s, i, x, rfl, _⟩ := h
    rfl
  obtain ⟨r, v, st, i, x, rfl, hrt, hv, hsm, R, hi, q⟩ := h
  have hu := hu_of hr
  have nd := scGone.nd
  refine ⟨_, pss_cons (ps_set (i := 4) nd rfl (Or.inl rfl) (pe_dget hu (pv 0) (pv 3) (fun _ _ => rfl)))
    (pss_cons (ps_if (pt_cmpR op_eq (pe_ix ix_Lt (pv 4) (pe_un un_neg pe_int) (fun _ _ => rfl)) (pv 2) (nomark _)) (pss_one (ps_ret (pe_cal CA hr rfl (pa_cons (pv 0) (pa_cons (pv 1) (pa_cons (pv 3) pa_nil)))))) pss_nil)
    (pss_cons (ps_set (i := 5) nd rfl (Or.inl rfl) (pe_cal CE (hr.mono (by decide)) rfl (pa_cons (pe_ix ix_TD (pv 1) pe_int (fun _ _ => rfl)) (pa_cons (pe_ix ix_Lt (pv 4) (pe_op op_add (pe_bm PySem.F.plainAttrs_list PySem.F.slot_list_index PySem.F.type_list_index (mt_indexLt (hu64 hr)) (pv 4) (pa_cons (pv 2) pa_nil)) pe_int) (fun _ _ => rfl)) (pa_cons (pv 3) pa_nil)))))
    (pss_one (ps_ret (pe_lt (pa_cons (pe_op op_catTD (pe_td (pa_cons (pv 5) pa_nil)) (pe_slice sl_TD (pv 1) (po_some pe_int) po_none)) pa_nil)))))), ?_⟩
  obtain ⟨ta, g, lt⟩ := hrt.get x
  have hne : rt x ≠ [] := fun z => by rw [z] at hi; exact nomatch hi
  refine ⟨_, rfl, _, rfl, r, _, rfl, g, ?_⟩
  refine ⟨_, rfl, 1, rfl, ta, _, _, _, rfl, rfl, lt, atI_lastD hne, fun v0 t0 => ?_⟩
  obtain rfl := t0.invI
  refine ⟨_, rfl, rfl, _, rfl, ?_⟩
  by_cases hl : (rt x).getLastD 0 = i
  · refine itY (decide_eq_true (by rw [hl]; rfl)) ?_
    refine ⟨_, rfl, _, rfl, _, rfl, r, v, st, x, rfl, hrt, hv, hsm, fun hx => ?_, fun p H' hp s' l' => q p H' hp s' ?_⟩
    · subst hx
      have hn : rt .told ≠ [] := fun z => hne (R.at'.mpr z)
      exact ⟨hn, R.lt _ _ (K74.head_mem hn)⟩
    · unfold K74.goneOn
      rw [if_pos hl]
      exact l'
  · refine itN (decide_eq_false fun z => hl ?_) ?_
    · have : (((rt x).getLastD 0 : Nat) : Int) = (i : Int) := by injection z
      omega
    have hnx := K74.next_mem hi hl
    have hnl := K74.last_ne hi hl
    obtain ⟨i1, i2⟩ := idxF natD_inj hi
    obtain ⟨a, qv, rfl, ha, hq⟩ := hv.st
    refine ⟨_, rfl, _, 0, _, hv, rfl, atI_nat (j := 0) rfl, fun v1 t1 => ?_⟩
    refine ⟨_, rfl, ⟨_, rfl, .inl ⟨rfl, _, SqL.of lt.choose_spec.1⟩, _, rfl, ta, _, natD i, _, (rt x).idxOf i, rfl, rfl, lt, .int _, good_nat i, good_nats, i1, i2, _, _, rfl, rfl, ?_⟩⟩
    refine ⟨ta, _, _, natD ((rt x).getD ((rt x).idxOf i + 1) 0), rfl, rfl, lt, atI_map (f := natD) (d := 0) hnl, fun v2 t2 => ?_⟩
    obtain rfl := t2.invI
    refine ⟨_, rfl, v1, st.q, _, x, rfl, t1, R.lt _ _ hnx, hsm.1, hsm.2 _, fun v3 H3 s3 t3 => ?_⟩
    refine ⟨_, rfl, _, TDs.one t3, szl (by simp), fun v4 H4 s4 t4 => ?_⟩
    refine ⟨_, rfl, 1, rfl, _, hv.k (TK.same (s3.trans s4)), fun v5 H5 s5 t5 => ?_⟩
    refine ⟨_, _, t4.k (TK.same s5), t5, szl (by simp [cutD]; omega), fun v6 H6 s6 t6 => ?_⟩
    refine ⟨_, TDs.one t6, szl (by simp), fun p H7 hp s7 l7 => ?_⟩
    have sA := s3.trans (s4.trans (s5.trans s6))
    refine q p H7 (sA.free hp) (sA.trans s7) ?_
    unfold K74.goneOn
    rw [if_neg hl]
    exact l7
end
end KW
/-! K74: moves -/
namespace KW
open L2 PySem PySem.Spec PyProof.Rows
theorem flat_len {α β : Type} {f : α → List β} {n : Nat} : ∀ {l : List α}, (∀ a ∈ l, (f a).length ≤ n) → (l.flatMap f).length ≤ l.length * n
  | [], _ => by simp
  | a :: l, h => by
    rw [List.flatMap_cons, List.length_append, List.length_cons, Nat.add_mul]
    have h1 := h a List.mem_cons_self
    have h2 := flat_len (l := l) fun b hb => h b (List.mem_cons_of_mem _ hb)
    omega
theorem arrived_len (rt : K74.Rt) (s : K74.S) (x : K74.W) : (K74.arrived rt s x).length ≤ 1 := by
  cases x with
  | ask => show (if s.isf = true then _ else _ : List (Option K74.S)).length ≤ 1; split <;> simp
  | get => show (if s.isd = true then _ else _ : List (Option K74.S)).length ≤ 1; split <;> simp
  | _ => exact Nat.le_refl _
theorem started_len (rt : K74.Rt) (s : K74.S) (x : K74.W) : (K74.started rt s x).length ≤ 1 := by
  unfold K74.started
  split
  · simp
  · split
    · split <;> simp
    · exact arrived_len rt s x
theorem moveAt_len (rt : K74.Rt) (al : K74.Al) (s : K74.S) (i k : Nat) : (K74.moveAt rt al s i k).length ≤ 1 := by
  unfold K74.moveAt K74.goneOn
  split
  · split
    · exact arrived_len _ _ _
    · simp
  · simp
def lineMoves (rt : K74.Rt) (al : K74.Al) (s : K74.S) (i n : Nat) : List (Option K74.S) := (List.range n).flatMap fun k => K74.moveAt rt al s i k
def movesTo (rt : K74.Rt) (al : K74.Al) (s : K74.S) (n : Nat) : List (Option K74.S) := (List.range n).flatMap fun i => lineMoves rt al s i (s.q.getD i []).length
theorem lineMoves_len (rt : K74.Rt) (al : K74.Al) (s : K74.S) (i n : Nat) : (lineMoves rt al s i n).length ≤ n := by
  have := flat_len (f := fun k => K74.moveAt rt al s i k) (n := 1) (l := List.range n) fun k _ => moveAt_len rt al s i k
  rw [List.length_range] at this
  unfold lineMoves
  omega
theorem movesTo_len {rt : K74.Rt} {al : K74.Al} {s : K74.S} (h : Sm s) (n : Nat) : (movesTo rt al s n).length ≤ n * 1000 := by
  have := flat_len (f := fun i => lineMoves rt al s i (s.q.getD i []).length) (n := 1000) (l := List.range n) fun i _ => Nat.le_trans (lineMoves_len rt al s i _) (h.2 i)
  rw [List.length_range] at this
  exact this
theorem cut_len {q : List (List K74.W)} {i : Nat} (k : Nat) (h : i < q.length) : (K74.cut q i k).length = q.length := by
  unfold K74.cut
  rw [K74.put_eq_set _ _ _ h, List.length_set]
theorem Sm.cut {s : K74.S} (h : Sm s) {i : Nat} (k : Nat) (hi : i < s.q.length) : Sm { s with q := K74.cut s.q i k } := by
  refine ⟨by show (K74.cut s.q i k).length ≤ 1000; rw [cut_len k hi]; exact h.1, fun j => ?_⟩
  show ((K74.cut s.q i k).getD j []).length ≤ 1000
  unfold K74.cut
  rw [K74.put_eq_set _ _ _ hi, List.getD_eq_getElem?_getD]
  by_cases e : j = i
  · subst e
    rw [List.getElem?_set_self hi, Option.getD_some, List.length_append, List.length_take, List.length_drop]
    have := h.2 j
    omega
  · rw [List.getElem?_set_ne (Ne.symm e), ← List.getD_eq_getElem?_getD]
    exact h.2 j
/-- what is asked of a state that goes on -/
structure Rd' (rt : K74.Rt) (s : K74.S) : Prop where
  sm : Sm s
  ok : K74.RtOk rt s.q.length
  on : ∀ i x, x ∈ s.q.getD i [] → i ∈ rt x
section
variable {P : Program} {w : World} {K : PySem.W.Frag} {mg : Str → Option Value} {base : Heap} {f : Addr} {fd : FuncData}
abbrev FrC (P : Program) (w : World) (K : PySem.W.Frag) (mg : Str → Option Value) (base : Heap) (al : K74.Al) : Prop := Cal P w K mg base 2 "_law_is_free" psFree (spFree al)
abbrev GoC (P : Program) (w : World) (K : PySem.W.Frag) (mg : Str → Option Value) (base : Heap) (rt : K74.Rt) : Prop := Cal P w K mg base 3 "_law_gone_on" psGone (spGone rt)
abbrev sMoves : Stmt := top 36
abbrev psMoves : List Str := ["_law_routes_here", "_law_allowed", "_law_state"]
abbrev nsMoves : List Str := ["_law_routes_here", "_law_allowed", "_law_state", "_law_found", "_law_queues", "_law_spot", "_law_line", "_law_k", "_law_left"]
def spMoves (rt : K74.Rt) (al : K74.Al) : Sp := fun vs H Q _ => ∃ (r a : Addr) (v : V) (s : K74.S), vs = [.ref r, .ref a, v] ∧ RtAt H r rt ∧ Lt H a (al.map pairD) ∧ TD H v (stD s) ∧ Rd' rt s ∧
  ∀ p H', H p = none → Same H H' → Lt H' p ((K74.moves rt al s).map resD) → Q (.ref p) H'
theorem scMoves : FnScope nsMoves psMoves (defScope sMoves) := ⟨rfl, rfl, rfl, by decide +kernel, rfl, by decide +kernel, by decide +kernel⟩
theorem z_nat (i : Nat) : V.int (0 + (i : Int)) = natV i := by rw [Int.zero_add]; rfl
theorem ok_moves {rt : K74.Rt} {al : K74.Al} (D : DefAt K mg "_law_moves" sMoves psMoves f fd) (B : Blt mg) (CF : FrC P w K mg base al) (CG : GoC P w K mg base rt) : FnOk P w K mg base CX0 4 f fd psMoves (spMoves rt al) := by
  refine D.F.ok scMoves (fun vs H Q E h => ?_) (fun cdv A outer s H vs Q E hr h => ?_)
  · obtain ⟨r, a, v, s, rfl, _⟩ := h
    rfl
  obtain ⟨r, a, v, st, rfl, hrt, hal, hv, hrd, q⟩ := h
  have hu := hu_of hr
  have nd := scMoves.nd
  refine ⟨_, pss_cons (ps_par (i := 3) (j := 4) (by rfl) nd rfl rfl (by decide) rfl rfl (pa_cons (pe_lt pa_nil) (pa_cons (pe_ix ix_TD (pv 2) pe_int (fun _ _ => rfl)) pa_nil)) (by rfl))
    (pss_cons (ps_for PassesOwn.never rfl (pi_range1 (by rfl) B.range (pa_cons (pe_callB call_lenTD (by rfl) B.len PySem.boot_len (pa_cons (pv 4) pa_nil)) pa_nil)) (pg_name (i := 5) nd rfl (Or.inl rfl))
      (pss_cons (ps_set (i := 6) nd rfl (Or.inl rfl) (pe_ix ix_TD (pv 4) (pv 5) (fun _ _ => rfl)))
      (pss_one (ps_for PassesOwn.never rfl (pi_range1 (by rfl) B.range (pa_cons (pe_callB call_lenTD (by rfl) B.len PySem.boot_len (pa_cons (pv 6) pa_nil)) pa_nil)) (pg_name (i := 7) nd rfl (Or.inl rfl))
        (pss_one (ps_if (pt_val (pe_cal CF (hr.mono (by decide)) rfl (pa_cons (pv 1) (pa_cons (pv 6) (pa_cons (pv 7) pa_nil)))))
          (pss_cons (ps_set (i := 8) nd rfl (Or.inl rfl) (pe_op op_catTD (pe_op op_catTD (pe_slice sl_TD (pv 4) po_none (po_some (pv 5))) (pe_td (pa_cons (pe_op op_catTD (pe_slice sl_TD (pv 6) po_none (po_some (pv 7))) (pe_slice sl_TD (pv 6) (po_some (pe_op op_add (pv 7) pe_int)) po_none)) pa_nil)))
              (pe_slice sl_TD (pv 4) (po_some (pe_op op_add (pv 5) pe_int)) po_none)))
          (pss_one (ps_set (i := 3) nd rfl (Or.inl rfl) (pe_op op_catLt (pv 3) (pe_cal CG hr rfl (pa_cons (pv 0) (pa_cons (pe_op op_catTD (pe_td (pa_cons (pv 8) pa_nil)) (pe_slice sl_TD (pv 2) (po_some pe_int) po_none)) (pa_cons (pv 5) (pa_cons (pe_ix ix_TD (pv 6) (pv 7) (fun _ _ => rfl)) pa_nil))))))))) pss_nil))))))
    (pss_one (ps_ret (pv 3)))), ?_⟩
  obtain ⟨av, qv, rfl, ha, hq⟩ := hv.st
  have hmax : st.q.length ≤ 1000 := hrd.sm.1
  have hs : sizeLine = 16777216 := sizeLine_eq
  refine ⟨_, .nil, szl (by simp), fun p0 H1 hp0 s1 l1 => ?_⟩
  refine ⟨_, rfl, _, 0, _, hv.k (TK.same s1), rfl, atI_nat (j := 0) rfl, fun qv' t1 => ?_⟩
  refine ⟨_, _, rfl, ?_⟩
  -- for spot in range(len(queues))
  refine ⟨_, rfl, _, _, rfl, t1, _, rfl, by omega, by rw [List.length_map]; omega, ?_⟩
  rw [Int.toNat_natCast, List.length_map]
  refine for_range (lo := 0) (n := st.q.length) (fun i σ' H' => ∃ p o5 o6 o7 o8, σ' = [some (.ref r), some (.ref a), some (.ref av), some (.ref p), some qv', o5, o6, o7, o8] ∧ H p = none ∧ Same H H' ∧ TD H' qv' (quD st.q) ∧ Lt H' p ((movesTo rt al st i).map resD))
    ⟨p0, none, none, none, none, rfl, hp0, s1, t1, l1⟩ ?_ ?_
  · rintro i σ' H2 hi ⟨p, o5, o6, o7, o8, rfl, hp, s2, tq, lp⟩
    rw [z_nat]
    have hli : (st.q.map lineD)[i]? = some (lineD (st.q.getD i [])) := by
      rw [List.getElem?_map, List.getD_eq_getElem?_getD, List.getElem?_eq_getElem hi]; rfl
    have hln := hrd.sm.2 i
    refine ⟨_, rfl, _, rfl, _, _, _, tq, rfl, atI_nat hli, fun lv tl => ?_⟩
    refine ⟨_, rfl, _, _, rfl, tl, _, rfl, by omega, by rw [List.length_map]; omega, ?_⟩
    rw [Int.toNat_natCast, List.length_map]
    refine for_range (lo := 0) (n := (st.q.getD i []).length) (fun k σ' H' => ∃ p o7 o8, σ' = [some (.ref r), some (.ref a), some (.ref av), some (.ref p), some qv', some (natV i), some lv, o7, o8] ∧ H p = none ∧ Same H H' ∧ TD H' qv' (quD st.q) ∧ TD H' lv (lineD (st.q.getD i [])) ∧
        Lt H' p ((movesTo rt al st i ++ lineMoves rt al st i k).map resD))
      ⟨p, o7, o8, rfl, hp, s2, tq, tl, by unfold lineMoves; rw [List.range_zero, List.flatMap_nil, List.append_nil]; exact lp⟩ ?_ ?_
    · rintro k σ' H3 hk ⟨p, o7, o8, rfl, hp, s3, tq, tl, lp⟩
      rw [z_nat]
      have hlk : ((st.q.getD i []).map wD)[k]? = some (wD ((st.q.getD i []).getD k .data)) := by
        rw [List.getElem?_map, List.getD_eq_getElem?_getD (l := st.q.getD i []), List.getElem?_eq_getElem hk]; rfl
      have hin : i ∈ rt ((st.q.getD i []).getD k .data) := by
        refine hrd.on i _ ?_
        rw [List.getD_eq_getElem?_getD (l := st.q.getD i []), List.getElem?_eq_getElem hk]
        exact List.getElem_mem hk
      have l1 := movesTo_len (rt := rt) (al := al) hrd.sm i
      have l2 := lineMoves_len rt al st i k
      refine ⟨_, rfl, _, rfl, _, rfl, a, lv, _, k, rfl, hal.keep s3, tl, hk, hln, fun H4 s4 => ?_⟩
      refine ⟨_, rfl, ?_⟩
      cases hf : K74.isFree al (st.q.getD i []) k with
      | false =>
        refine iteF ⟨p, _, _, rfl, hp, s3.trans s4, tq.k (TK.same s4), tl.k (TK.same s4), ?_⟩
        have e : lineMoves rt al st i (k + 1) = lineMoves rt al st i k := by
          unfold lineMoves
          rw [range_snoc, List.flatMap_append, List.flatMap_cons, List.flatMap_nil]
          unfold K74.moveAt
          rw [if_neg (by rw [hf]; simp)]; simp
        rw [e]
        exact lp.keep s4
      | true =>
        refine iteT ?_
        have tq4 := tq.k (TK.same s4)
        have tl4 := tl.k (TK.same s4)
        refine ⟨_, rfl, _, rfl, _, rfl, _, tq4, fun v1 H5 s5 t5 => ?_⟩
        rw [cutD_to] at t5
        refine ⟨_, rfl, _, rfl, _, rfl, _, tl4.k (TK.same s5), fun v2 H6 s6 t6 => ?_⟩
        rw [cutD_to] at t6
        refine ⟨_, rfl, _, rfl, _, _, rfl, rfl, _, rfl, _, tl4.k (TK.same (s5.trans s6)), fun v3 H7 s7 t7 => ?_⟩
        have t7 : TD H7 v3 (.tuple (cutD ((st.q.getD i []).map wD) (some ((k + 1 : Nat) : Int)) none)) := t7
        rw [cutD_from] at t7
        refine ⟨_, _, t6.k (TK.same s7), t7, szl (by rw [List.length_take, List.length_drop, List.length_map]; omega), fun v4 H8 s8 t8 => ?_⟩
        refine ⟨_, TDs.one t8, szl (by simp), fun v5 H9 s9 t9 => ?_⟩
        have sA := s6.trans (s7.trans (s8.trans s9))
        refine ⟨_, _, t5.k (TK.same sA), t9, szl (by rw [List.length_take, List.length_map, List.length_singleton]; omega), fun v6 Ha sa ta => ?_⟩
        refine ⟨_, rfl, _, rfl, _, _, rfl, rfl, _, rfl, _, tq4.k (TK.same (s5.trans (sA.trans sa))), fun v7 Hb sb tb => ?_⟩
        have tb : TD Hb v7 (.tuple (cutD (st.q.map lineD) (some ((i + 1 : Nat) : Int)) none)) := tb
        rw [cutD_from] at tb
        refine ⟨_, _, ta.k (TK.same sb), tb, szl (by rw [List.length_append, List.length_take, List.length_drop, List.length_map, List.length_singleton]; omega), fun v8 Hc sc tc => ?_⟩
        have ecut : (.tuple ((st.q.map lineD).take i ++ [.tuple (((st.q.getD i []).map wD).take k ++ ((st.q.getD i []).map wD).drop (k + 1))] ++ (st.q.map lineD).drop (i + 1)) : PyData) = quD (K74.cut st.q i k) := by
          unfold quD K74.cut
          rw [List.map_append, List.map_cons, List.map_take, List.map_drop, List.append_assoc]
          unfold lineD
          rw [List.map_append, List.map_take, List.map_drop]; rfl
        rw [ecut] at tc
        have sB := s4.trans (s5.trans (sA.trans (sa.trans (sb.trans sc))))
        -- found + gone_on(..)
        refine ⟨_, rfl, _, rfl, _, rfl, _, TDs.one tc, szl (by simp), fun v9 Hd sd td => ?_⟩
        refine ⟨_, rfl, 1, rfl, _, hv.k (TK.same (s3.trans (sB.trans sd))), fun va He se te => ?_⟩
        refine ⟨_, _, td.k (TK.same se), te, szl (by simp [cutD]; omega), fun vb Hf sf tf => ?_⟩
        refine ⟨_, rfl, _, rfl, _, rfl, _, _, _, tl4.k (TK.same (s5.trans (sA.trans (sa.trans (sb.trans (sc.trans (sd.trans (se.trans sf)))))))), rfl, atI_nat hlk, fun vc tcx => ?_⟩
        obtain rfl := tcx.invS
        have sC := sB.trans (sd.trans (se.trans sf))
        refine ⟨r, vb, { st with q := K74.cut st.q i k }, i, (st.q.getD i []).getD k .data, rfl, hrt.keep (s3.trans sC), tf, hrd.sm.cut k hi, by show K74.RtOk rt (K74.cut st.q i k).length; rw [cut_len k hi]; exact hrd.ok, hin, fun p2 Hg hp2 sg lg => ?_⟩
        have egm : K74.goneOn rt { st with q := K74.cut st.q i k } i ((st.q.getD i []).getD k .data) = K74.moveAt rt al st i k := by
          unfold K74.moveAt
          rw [if_pos hf]
        rw [egm] at lg
        have lm := moveAt_len rt al st i k
        refine ⟨p, p2, _, _, rfl, rfl, lp.keep (sC.trans sg), lg, szl (by rw [List.length_map, List.length_map, List.length_append]; omega), fun p3 Hh hp3 sh lh => ?_⟩
        have sD := s3.trans (sC.trans sg)
        refine ⟨p3, _, _, rfl, sD.free hp3, sD.trans sh, tq4.k (TK.same (s5.trans (sA.trans (sa.trans (sb.trans (sc.trans (sd.trans (se.trans (sf.trans (sg.trans sh)))))))))), tl4.k (TK.same (s5.trans (sA.trans (sa.trans (sb.trans (sc.trans (sd.trans (se.trans (sf.trans (sg.trans sh)))))))))), ?_⟩
        have e : movesTo rt al st i ++ lineMoves rt al st i (k + 1) = (movesTo rt al st i ++ lineMoves rt al st i k) ++ K74.moveAt rt al st i k := by
          unfold lineMoves
          rw [range_snoc, List.flatMap_append, List.flatMap_cons, List.flatMap_nil, List.append_nil, List.append_assoc]
        rw [e, List.map_append]
        exact lh
    · rintro σ' H3 ⟨p, o7, o8, rfl, hp, s3, tq, tl, lp⟩
      refine ⟨p, _, _, _, _, rfl, hp, s3, tq, ?_⟩
      have e : movesTo rt al st (i + 1) = movesTo rt al st i ++ lineMoves rt al st i (st.q.getD i []).length := by
        unfold movesTo
        rw [range_snoc, List.flatMap_append, List.flatMap_cons, List.flatMap_nil, List.append_nil]
      rw [e]
      exact lp
  · rintro σ' H2 ⟨p, o5, o6, o7, o8, rfl, hp, s2, tq, lp⟩
    refine ⟨_, rfl, q p H2 hp s2 ?_⟩
    exact lp
end
end KW
/-! K74: tuple * n for n = 0, 1 too -/
namespace KW
open L2 PySem PySem.Spec PyProof.Rows
theorem tuple_mul1 (l : Addr) (items : Array Value) (n : Nat) (dd : Option Addr) (sl : Array (Option Value)) (u : Tok) :
    Meets (Builtin.«tuple.__mul__» ⟨[.ref l, .int 1 u], []⟩) (fun _ R s => s.heap.get? l = some { cls := .type "tuple", dict := dd, data := .seq items n, slots := sl } ∧ R (.ok (.ret (Value.ref l))) s) :=
  .of_wp fun pg w A R s h => by
    obtain ⟨hp, g, d, tk, os⟩ := s
    obtain ⟨part, h⟩ := h
    have f1 := AutoSeq1.idx_int
    wp_walk using wpAny_loadPart' part
    exact ⟨_, rfl, h⟩
theorem tuple_mul0 (l : Addr) (items : Array Value) (n : Nat) (dd : Option Addr) (sl : Array (Option Value)) (u : Tok) (hn : items.isEmpty = false) :
    Meets (Builtin.«tuple.__mul__» ⟨[.ref l, .int 0 u], []⟩) (fun _ R s => s.heap.get? l = some { cls := .type "tuple", dict := dd, data := .seq items n, slots := sl } ∧
      R (.ok (.ret (Value.ref s.heap.objs.size))) { s with heap := s.heap.push { cls := Value.type "tuple", data := Data.seq #[] }, toks := s.toks }) :=
  .of_wp fun pg w A R s h => by
    obtain ⟨hp, g, d, tk, os⟩ := s
    obtain ⟨part, h⟩ := h
    have f1 := AutoSeq1.idx_int
    wp_walk using wpAny_loadPart' part
    exact ⟨_, rfl, h⟩
section
variable {X : Cx}
def rRepTD : R2 := fun x y H Q => ∃ ds k, TD H x (.tuple ds) ∧ y = .int ((k : Nat) : Int) ∧ ds ≠ [] ∧ k ≤ 1000 ∧ ds.length ≤ 1000 ∧ ∀ v H2, Same H H2 → TD H2 v (.tuple (List.replicate k ds).flatten) → Q v H2
theorem rep_tds {H : Hp} {vs : List V} {ds : List PyData} (t : TDs H vs ds) : ∀ k : Nat, TDs H (List.replicate k vs).flatten (List.replicate k ds).flatten
  | 0 => .nil
  | k + 1 => by
    rw [List.replicate_succ, List.flatten_cons, List.replicate_succ, List.flatten_cons]
    exact t.append (rep_tds t k)
theorem op_repTD : OpR X (binaryOp .Mult) rRepTD := by
  intro pins s σ H x y v u Q I rx ry want
  obtain ⟨ds, k, h1, rfl, hne, hk, hz, q⟩ := want
  obtain ⟨l, vs, rfl, part, t⟩ := h1.inv
  have hvne : vs ≠ [] := fun e => hne (by have := t.length; rw [e] at this; exact List.eq_nil_of_length_eq_zero this.symm)
  rcases Nat.lt_or_ge k 2 with c | c
  · have hT : SqT X.K H l vs := SqT.of part
    have rx' := rx
    have ry' := ry
    cases rx'
    obtain ⟨tk, rfl⟩ := ry'
    obtain ⟨cells, r, ⟨⟨cls, dd, data, sl⟩, ho, hc, n, hd⟩, hs⟩ := I.tuple hT
    simp only at hc hd
    subst hc hd
    have hn : cells ≠ [] := fun e => hvne (by have := r.length; rw [e] at this; exact List.eq_nil_of_length_eq_zero this)
    have emp : cells.toArray.isEmpty = false := by
      cases cells with
      | nil => exact absurd rfl hn
      | cons a b => rfl
    rcases (show k = 0 ∨ k = 1 by omega) with rfl | rfl
    · refine wpAny_binaryOp_repeat_ref (T := "tuple") (U := "int") (by decide) ⟨_, ho, rfl⟩ (fun s' => typeIs_int s' _ tk) noFill_tuple_mul F.fills_int_mul F.slot_int_rmul repeat_tuple F.slot_int_index.lookup
        (call_meets F.slot_int_rmul (typeIs_int s _ tk) F.entry_int_rmul (F.args_int_rmul_2 _ _) (int_rmul_tuple _ tk l cells.toArray n dd sl)
          ⟨ho, rfl, ⟨_, ho, rfl⟩, call_meets F.slot_tuple_mul ⟨_, ho, rfl⟩ F.entry_tuple_mul (F.args_tuple_mul_2 _ _) (tuple_mul0 l cells.toArray n dd sl tk emp) ⟨ho, ?_⟩⟩)
      refine ⟨.ref s.heap.objs.size, _, I.laid (t' := s.toks) (o := .tup []) (fun b ob q => Heap.get?_push_of_some _ q) (Nat.le_refl _) ⟨Nat.zero_le _, [], .nil, ⟨_, Heap.get?_push_size _ rfl, rfl, _, rfl⟩⟩, rfl, q _ _ (same_new (I.hok.fresh (Nat.le_refl _))) (TD.new (I.hok.fresh (Nat.le_refl _)) .nil)⟩
    · refine wpAny_binaryOp_repeat_ref (T := "tuple") (U := "int") (by decide) ⟨_, ho, rfl⟩ (fun s' => typeIs_int s' _ tk) noFill_tuple_mul F.fills_int_mul F.slot_int_rmul repeat_tuple F.slot_int_index.lookup
        (call_meets F.slot_int_rmul (typeIs_int s _ tk) F.entry_int_rmul (F.args_int_rmul_2 _ _) (int_rmul_tuple _ tk l cells.toArray n dd sl)
          ⟨ho, rfl, ⟨_, ho, rfl⟩, call_meets F.slot_tuple_mul ⟨_, ho, rfl⟩ F.entry_tuple_mul (F.args_tuple_mul_2 _ _) (tuple_mul1 l cells.toArray n dd sl tk) ⟨ho, ?_⟩⟩)
      refine ⟨.ref l, H, I, rfl, q _ _ (Same.refl H) ?_⟩
      have e : (List.replicate 1 ds).flatten = ds := by simp
      rw [e]
      exact h1
  · refine op_repT pins s σ H _ _ v u Q I rx ry ⟨l, k, vs, rfl, rfl, SqT.of part, hvne, by omega, by omega, by rw [t.length]; exact hz, fun p hp => ?_⟩
    rw [Int.toNat_natCast]
    exact q _ _ (same_new hp) (TD.new hp (rep_tds t k))
end
end KW
/-! K74: what is behind a state -/
namespace KW
open L2 PySem PySem.Spec PyProof.Rows
section
variable {P : Program} {w : World} {K : PySem.W.Frag} {mg : Str → Option Value} {base : Heap} {f : Addr} {fd : FuncData}
abbrev MoC (P : Program) (w : World) (K : PySem.W.Frag) (mg : Str → Option Value) (base : Heap) (rt : K74.Rt) (al : K74.Al) : Prop := Cal P w K mg base 4 "_law_moves" psMoves (spMoves rt al)
abbrev StC (P : Program) (w : World) (K : PySem.W.Frag) (mg : Str → Option Value) (base : Heap) (rt : K74.Rt) : Prop := Cal P w K mg base 3 "_law_started" psArrived (spStarted rt)
abbrev sBehind : Stmt := top 37
abbrev psBehind : List Str := ["_law_routes_here", "_law_allowed", "_law_state"]
abbrev nsBehind : List Str := ["_law_routes_here", "_law_allowed", "_law_state", "_law_queues", "_law_made", "_law_stage", "_law_is_data", "_law_is_flag", "_law_found", "_law_word"]
def spBehind (rt : K74.Rt) (al : K74.Al) : Sp := fun vs H Q _ => ∃ (r a : Addr) (v : V) (s : K74.S), vs = [.ref r, .ref a, v] ∧ RtAt H r rt ∧ Lt H a (al.map pairD) ∧ TD H v (stD s) ∧ Rd' rt s ∧
  ∀ p H', H p = none → Same H H' → Lt H' p ((K74.behind rt al s).map resD) → Q (.ref p) H'
theorem scBehind : FnScope nsBehind psBehind (defScope sBehind) := ⟨rfl, rfl, rfl, by decide +kernel, rfl, by decide +kernel, by decide +kernel⟩
theorem moves_len {rt : K74.Rt} {al : K74.Al} {s : K74.S} (h : Sm s) : (K74.moves rt al s).length ≤ 1000000 := by
  have := movesTo_len (rt := rt) (al := al) h s.q.length
  have := h.1
  show (movesTo rt al s s.q.length).length ≤ 1000000
  omega
theorem ok_behind {rt : K74.Rt} {al : K74.Al} (D : DefAt K mg "_law_behind" sBehind psBehind f fd) (CM : MoC P w K mg base rt al) (CS : StC P w K mg base rt) : FnOk P w K mg base CX0 5 f fd psBehind (spBehind rt al) := by
  refine D.F.ok scBehind (fun vs H Q E h => ?_) (fun cdv A outer s H vs Q E hr h => ?_)
  · obtain ⟨r, a, v, s, rfl, _⟩ := h
    rfl
  obtain ⟨r, a, v, st, rfl, hrt, hal, hv, hrd, q⟩ := h
  have hu := hu_of hr
  have nd := scBehind.nd
  have hr3 := hr.mono (show 3 ≤ 4 by decide)
  refine ⟨_, pss_cons (ps_asg (pv 2) (pg_tup rfl (pgs_cons (pg_name (i := 3) nd rfl (.inl rfl)) (pgs_cons (pg_name (i := 4) nd rfl (.inl rfl)) (pgs_cons (pg_name (i := 5) nd rfl (.inl rfl)) (pgs_cons (pg_name (i := 6) nd rfl (.inl rfl)) (pgs_cons (pg_name (i := 7) nd rfl (.inl rfl)) pgs_nil)))))))
    (pss_cons (ps_set (i := 8) nd rfl (Or.inl rfl) (pe_cal CM hr rfl (pa_cons (pv 0) (pa_cons (pv 1) (pa_cons (pv 2) pa_nil)))))
    (C8.pss_cut (ps_if (pt_cmpR op_lt (pv 4) pe_int (nomark _))
        (pss_cons (ps_set (i := 9) nd rfl (Or.inl rfl) (pe_ix ix_Lt (pe_lt (pa_cons pe_str (pa_cons pe_str pa_nil))) (pv 4) (fun _ _ => rfl)))
        (pss_one (ps_set (i := 8) nd rfl (Or.inl rfl) (pe_op op_catLt (pv 8) (pe_cal CS hr3 rfl (pa_cons (pv 0) (pa_cons (pe_td (pa_cons (pv 3) (pa_cons (pe_op op_add (pv 4) pe_int) (pa_cons (pv 5) (pa_cons (pv 6) (pa_cons (pv 7) pa_nil)))))) (pa_cons (pv 9) pa_nil)))))))) pss_nil)
    (C8.pss_cut (ps_if (pt_cmpR op_eq (pv 5) pe_int (nomark _))
        (pss_one (ps_set (i := 8) nd rfl (Or.inl rfl) (pe_op op_catLt (pv 8) (pe_cal CS hr3 rfl (pa_cons (pv 0) (pa_cons (pe_td (pa_cons (pv 3) (pa_cons (pv 4) (pa_cons pe_int (pa_cons (pv 6) (pa_cons (pv 7) pa_nil)))))) (pa_cons pe_str pa_nil))))))) pss_nil)
    (C8.pss_cut (ps_if (pt_cmpR op_eq (pv 5) pe_int (nomark _))
        (pss_one (ps_set (i := 8) nd rfl (Or.inl rfl) (pe_op op_catLt (pv 8) (pe_cal CS hr3 rfl (pa_cons (pv 0) (pa_cons (pe_td (pa_cons (pv 3) (pa_cons (pv 4) (pa_cons pe_int (pa_cons (pv 6) (pa_cons (pv 7) pa_nil)))))) (pa_cons pe_str pa_nil))))))) pss_nil)
    (pss_one (ps_ret (pv 8))))))), ?_⟩
  obtain ⟨av, qv, rfl, ha, hq⟩ := hv.st
  have hml := moves_len (rt := rt) (al := al) hrd.sm
  have hhd : ∀ x, rt x ≠ [] → (rt x).headD 0 < st.q.length := fun x hx => hrd.ok.lt _ _ (K74.head_mem hx)
  have hsl : ∀ s' x, (K74.started rt s' x).length ≤ 1 := started_len rt
  refine ⟨_, rfl, av, _, rfl, SqT.of ha, rfl, _, _, rfl, _, _, rfl, _, _, rfl, _, _, rfl, _, _, rfl, rfl, ?_⟩
  refine ⟨_, rfl, _, rfl, _, rfl, r, a, _, st, rfl, hrt, hal, hv, hrd, fun p0 H1 hp0 s1 l1 => ?_⟩
  let R2 : List (Option K74.S) := K74.moves rt al st ++ (if st.made < 2 then K74.started rt { st with made := st.made + 1 } (if st.made = 0 then .data else .flag) else [])
  let R3 : List (Option K74.S) := R2 ++ (if st.stage = 0 then K74.started rt { st with stage := 1 } .ask else [])
  have hl2 : R2.length ≤ 1000001 := by
    show (K74.moves rt al st ++ _).length ≤ _
    rw [List.length_append]
    split
    · have := hsl { st with made := st.made + 1 } (if st.made = 0 then .data else .flag)
      omega
    · simp only [List.length_nil]; omega
  have hl3 : R3.length ≤ 1000002 := by
    show (R2 ++ _).length ≤ _
    rw [List.length_append]
    split
    · have := hsl { st with stage := 1 } .ask
      omega
    · simp only [List.length_nil]; omega
  refine ⟨fun σ' H' => ∃ p o9, σ' = [some (.ref r), some (.ref a), some (.ref av), some qv, some (natV st.made), some (natV st.stage), some (.bl st.isd), some (.bl st.isf), some (.ref p), o9] ∧ H p = none ∧ Same H H' ∧ Lt H' p (R2.map resD), ?_, ?_⟩
  · -- if made < 2
    refine ⟨_, rfl, _, _, rfl, rfl, _, rfl, ?_⟩
    by_cases hm : st.made < 2
    · refine itY (decide_eq_true (by omega)) ?_
      refine ⟨_, .cons (.str _) (TDs.one (.str _)), szl (by simp), fun p1 H2 hp1 s2 l2 => ?_⟩
      have hword : atI [PyData.str "data", PyData.str "flag"] ((st.made : Nat) : Int) = some (wD (if st.made = 0 then .data else .flag)) := by
        rcases (show st.made = 0 ∨ st.made = 1 by omega) with e | e <;> (rw [e]; exact atI_nat rfl)
      refine ⟨_, rfl, p1, _, _, _, rfl, rfl, l2, hword, fun wv tw => ?_⟩
      obtain rfl := tw.invS
      refine ⟨_, rfl, _, rfl, _, rfl, _, rfl, _, _, rfl, rfl, _, rfl, _, rfl, _, rfl, _, TDs.st (hq.k (TK.same (s1.trans s2))) (m := st.made + 1), szl (by simp), fun v3 H3 s3 t3 => ?_⟩
      refine ⟨_, rfl, r, v3, { st with made := st.made + 1 }, _, rfl, hrt.keep (s1.trans (s2.trans s3)), t3, hrd.sm, hhd _, fun p4 H4 hp4 s4 l4 => ?_⟩
      have hsl' := hsl { st with made := st.made + 1 } (if st.made = 0 then .data else .flag)
      refine ⟨p0, p4, _, _, rfl, rfl, l1.keep (s2.trans (s3.trans s4)), l4, szl (by rw [List.length_map, List.length_map]; omega), fun p5 H5 hp5 s5 l5 => ?_⟩
      have sA := s1.trans (s2.trans (s3.trans s4))
      refine ⟨p5, _, rfl, sA.free hp5, sA.trans s5, ?_⟩
      show Lt H5 p5 ((K74.moves rt al st ++ (if st.made < 2 then _ else _)).map resD)
      rw [if_pos hm, List.map_append]
      exact l5
    · refine itN (decide_eq_false (by omega)) ⟨p0, _, rfl, hp0, s1, ?_⟩
      show Lt H1 p0 ((K74.moves rt al st ++ (if st.made < 2 then _ else _)).map resD)
      rw [if_neg hm, List.append_nil]
      exact l1
  rintro σ2 H2 ⟨p, o9, rfl, hp, s2, l2⟩
  refine ⟨fun σ' H' => ∃ p o9, σ' = [some (.ref r), some (.ref a), some (.ref av), some qv, some (natV st.made), some (natV st.stage), some (.bl st.isd), some (.bl st.isf), some (.ref p), o9] ∧ H p = none ∧ Same H H' ∧ Lt H' p (R3.map resD), ?_, ?_⟩
  · refine ⟨_, rfl, rfl, _, rfl, ?_⟩
    by_cases hm : st.stage = 0
    · refine itY (decide_eq_true (by rw [hm]; rfl)) ?_
      refine ⟨_, rfl, _, rfl, _, rfl, _, rfl, _, rfl, _, rfl, _, TDs.st (hq.k (TK.same s2)) (n := 1), szl (by simp), fun v3 H3 s3 t3 => ?_⟩
      refine ⟨r, v3, { st with stage := 1 }, .ask, rfl, hrt.keep (s2.trans s3), t3, hrd.sm, hhd _, fun p4 H4 hp4 s4 l4 => ?_⟩
      have hsl' := hsl { st with stage := 1 } .ask
      refine ⟨p, p4, _, _, rfl, rfl, l2.keep (s3.trans s4), l4, szl (by rw [List.length_map, List.length_map]; omega), fun p5 H5 hp5 s5 l5 => ?_⟩
      have sA := s2.trans (s3.trans s4)
      refine ⟨p5, _, rfl, sA.free hp5, sA.trans s5, ?_⟩
      show Lt H5 p5 ((R2 ++ (if st.stage = 0 then _ else _)).map resD)
      rw [if_pos hm, List.map_append]
      exact l5
    · refine itN (decide_eq_false fun z => hm ?_) ⟨p, _, rfl, hp, s2, ?_⟩
      · have : ((st.stage : Nat) : Int) = 0 := by injection z
        omega
      · show Lt H2 p ((R2 ++ (if st.stage = 0 then _ else _)).map resD)
        rw [if_neg hm, List.append_nil]
        exact l2
  rintro σ3 H3 ⟨p, o9, rfl, hp, s3, l3⟩
  refine ⟨fun σ' H' => ∃ p o9, σ' = [some (.ref r), some (.ref a), some (.ref av), some qv, some (natV st.made), some (natV st.stage), some (.bl st.isd), some (.bl st.isf), some (.ref p), o9] ∧ H p = none ∧ Same H H' ∧ Lt H' p ((K74.behind rt al st).map resD), ?_, ?_⟩
  · refine ⟨_, rfl, rfl, _, rfl, ?_⟩
    have eb : K74.behind rt al st = R3 ++ (if st.stage = 2 then K74.started rt { st with stage := 3 } .get else []) := rfl
    by_cases hm : st.stage = 2
    · refine itY (decide_eq_true (by rw [hm]; rfl)) ?_
      refine ⟨_, rfl, _, rfl, _, rfl, _, rfl, _, rfl, _, rfl, _, TDs.st (hq.k (TK.same s3)) (n := 3), szl (by simp), fun v3 H4 s4 t3 => ?_⟩
      refine ⟨r, v3, { st with stage := 3 }, .get, rfl, hrt.keep (s3.trans s4), t3, hrd.sm, hhd _, fun p4 H5 hp4 s5 l4 => ?_⟩
      have hsl' := hsl { st with stage := 3 } .get
      refine ⟨p, p4, _, _, rfl, rfl, l3.keep (s4.trans s5), l4, szl (by rw [List.length_map, List.length_map]; omega), fun p5 H6 hp5 s6 l5 => ?_⟩
      have sA := s3.trans (s4.trans s5)
      refine ⟨p5, _, rfl, sA.free hp5, sA.trans s6, ?_⟩
      rw [eb, if_pos hm, List.map_append]
      exact l5
    · refine itN (decide_eq_false fun z => hm ?_) ⟨p, _, rfl, hp, s3, ?_⟩
      · have : ((st.stage : Nat) : Int) = 2 := by injection z
        omega
      · rw [eb, if_neg hm, List.append_nil]
        exact l3
  rintro σ4 H4 ⟨p, o9, rfl, hp, s4, l4⟩
  exact ⟨_, rfl, q p H4 hp s4 l4⟩
end
end KW
/-! K74: the search -/
namespace KW
open L2 PySem PySem.Spec PyProof.Rows
/-! ### the search's mathematics -/
def closedIn (rt : K74.Rt) (al : K74.Al) (ss : List K74.S) (s : K74.S) : Prop := none ∉ K74.behind rt al s ∧ ∀ s', some s' ∈ K74.behind rt al s → s' ∈ ss
theorem closedIn.mono {rt : K74.Rt} {al : K74.Al} {ss ss' : List K74.S} {s : K74.S} (h : closedIn rt al ss s) (m : ∀ x ∈ ss, x ∈ ss') : closedIn rt al ss' s := ⟨h.1, fun s' hs => m _ (h.2 s' hs)⟩
structure BI (rt : K74.Rt) (al : K74.Al) (many : Nat) (ws ss : List K74.S) (extra : K74.S → Prop) : Prop where
  nd : ss.Nodup
  re : ∀ s ∈ ss, K74.Reach rt al many s
  sub : ∀ s ∈ ws, s ∈ ss
  st : K74.start many ∈ ss
  cl : ∀ s ∈ ss, s ∈ ws ∨ extra s ∨ closedIn rt al ss s
theorem BI.done {rt : K74.Rt} {al : K74.Al} {many : Nat} {ss : List K74.S} (h : BI rt al many [] ss fun _ => False) : ¬ K74.Miss rt al many := by
  have all : ∀ s, K74.Reach rt al many s → s ∈ ss := by
    intro s hs
    induction hs with
    | start => exact h.st
    | step _ hb ih =>
      rcases h.cl _ ih with q | q | q
      · exact nomatch q
      · exact q.elim
      · exact q.2 _ hb
  rintro ⟨s, hs, hn⟩
  rcases h.cl _ (all s hs) with q | q | q
  · exact nomatch q
  · exact q
  · exact q.1 hn
theorem mem_line {fl : List (K74.W × Nat)} {i : Nat} {x : K74.W} (h : x ∈ K74.lineOf fl i) : (x, i) ∈ fl := by
  unfold K74.lineOf at h
  obtain ⟨p, hp, rfl⟩ := List.mem_map.mp h
  obtain ⟨h1, h2⟩ := List.mem_filter.mp hp
  obtain ⟨a, b⟩ := p
  have : b = i := by simpa using h2
  subst this
  exact h1
theorem rd_of {rt : K74.Rt} {al : K74.Al} {many : Nat} (R : K74.RtOk rt many) (hm : many ≤ 1000) {s : K74.S} (h : K74.Reach rt al many s) : Rd' rt s := by
  obtain ⟨a, rfl, W'⟩ := K74.reach_wf R s h
  have hl : (K74.conc many a).q.length = many := K74.queues_len _ _
  have get : ∀ i, (K74.conc many a).q.getD i [] = K74.lineOf a.fl i ∨ (K74.conc many a).q.getD i [] = [] := by
    intro i
    rcases Nat.lt_or_ge i many with c | c
    · exact .inl (K74.queues_get c)
    · refine .inr ?_
      rw [List.getD_eq_getElem?_getD, List.getElem?_eq_none (by rw [hl]; exact c)]; rfl
  refine ⟨⟨by rw [hl]; exact hm, fun i => ?_⟩, by rw [hl]; exact R, fun i x hx => ?_⟩
  · rcases get i with e | e
    · rw [e]
      unfold K74.lineOf
      rw [List.length_map]
      have := List.length_filter_le (fun p : K74.W × Nat => p.2 == i) a.fl
      have := K74.short W'
      omega
    · rw [e]; simp
  · rcases get i with e | e
    · rw [e] at hx
      exact W'.ent _ (mem_line hx)
    · rw [e] at hx; exact nomatch hx
theorem nk_line (l : List K74.W) : nk (lineD l) = .tup (l.map fun w => .text (wS w)) := by
  unfold lineD
  rw [nk, nks_map, List.map_map]; rfl
theorem nk_qu (q : List (List K74.W)) : nk (quD q) = .tup (q.map fun l => .tup (l.map fun w => .text (wS w))) := by
  unfold quD
  rw [nk, nks_map, List.map_map]
  congr 1
  exact List.map_congr_left fun l _ => nk_line l
theorem nk_st (s : K74.S) : nk (stD s) = .tup [.tup (s.q.map fun l => .tup (l.map fun w => .text (wS w))), .num (s.made : Nat), .num (s.stage : Nat), .num (if s.isd = true then 1 else 0), .num (if s.isf = true then 1 else 0)] := by
  unfold stD
  rw [nk, nks, nk_qu, nks, nks, nks, nks, nks, nk, nk, nk, nk]
theorem map_inj' {α β : Type} {f : α → β} (inj : ∀ a b, f a = f b → a = b) : ∀ {l m : List α}, l.map f = m.map f → l = m
  | [], [], _ => rfl
  | [], _ :: _, h => by simp at h
  | _ :: _, [], h => by simp at h
  | a :: l, b :: m, h => by
    simp only [List.map_cons, List.cons.injEq] at h
    rw [inj _ _ h.1, map_inj' inj h.2]
theorem nk_inj {s s' : K74.S} (h : nk (stD s) = nk (stD s')) : s = s' := by
  rw [nk_st, nk_st] at h
  simp only [NestedKey.tup.injEq, List.cons.injEq, NestedKey.num.injEq, and_true] at h
  obtain ⟨h1, h2, h3, h4, h5⟩ := h
  obtain ⟨q, m, st, d, f⟩ := s
  obtain ⟨q', m', st', d', f'⟩ := s'
  simp only at h1 h2 h3 h4 h5
  have e1 : q = q' := map_inj' (fun a b e => by
    simp only [NestedKey.tup.injEq] at e
    exact map_inj' (fun x y e' => by simp only [NestedKey.text.injEq] at e'; exact wS_inj e') e) h1
  have e2 : m = m' := by omega
  have e3 : st = st' := by omega
  have e4 : d = d' := by cases d <;> cases d' <;> first | rfl | (simp at h4)
  have e5 : f = f' := by cases f <;> cases f' <;> first | rfl | (simp at h5)
  subst e1 e2 e3 e4 e5
  rfl
theorem nk_mem {s : K74.S} {ss : List K74.S} : nk (stD s) ∈ (ss.map stD).map nk ↔ s ∈ ss := by
  rw [List.map_map]
  constructor
  · intro h
    obtain ⟨x, hx, e⟩ := List.mem_map.mp h
    exact nk_inj e ▸ hx
  · exact fun h => List.mem_map.mpr ⟨s, h, rfl⟩
theorem depthAll_le {n : Nat} : ∀ {ks : List NestedKey}, (∀ k ∈ ks, k.depth ≤ n) → NestedKey.depthAll ks ≤ n
  | [], _ => by simp [NestedKey.depthAll]
  | k :: ks, h => by
    rw [NestedKey.depthAll]
    have h1 := h k List.mem_cons_self
    have h2 := depthAll_le (ks := ks) fun x hx => h x (List.mem_cons_of_mem _ hx)
    omega
theorem nk_depth (s : K74.S) : (nk (stD s)).depth ≤ 8 := by
  rw [nk_st, NestedKey.depth]
  have : NestedKey.depthAll [.tup (s.q.map fun l => .tup (l.map fun w => .text (wS w))), .num (s.made : Nat), .num (s.stage : Nat), .num (if s.isd = true then 1 else 0), .num (if s.isf = true then 1 else 0)] ≤ 2 := by
    refine depthAll_le fun k hk => ?_
    simp only [List.mem_cons, List.not_mem_nil, or_false] at hk
    rcases hk with rfl | rfl | rfl | rfl | rfl
    · rw [NestedKey.depth]
      have : NestedKey.depthAll (s.q.map fun l => NestedKey.tup (l.map fun w => .text (wS w))) ≤ 1 := by
        refine depthAll_le fun k hk => ?_
        obtain ⟨l, _, rfl⟩ := List.mem_map.mp hk
        rw [NestedKey.depth]
        have : NestedKey.depthAll (l.map fun w => NestedKey.text (wS w)) ≤ 0 := by
          refine depthAll_le fun k hk => ?_
          obtain ⟨w, _, rfl⟩ := List.mem_map.mp hk
          rw [NestedKey.depth]; exact Nat.le_refl _
        omega
      omega
    all_goals (rw [NestedKey.depth]; omega)
  omega
theorem eqv_res (r : Option K74.S) : PyData.eqv (resD r) (.tuple [.bool true]) = r.isNone := by
  cases r with
  | none => simp [resD, PyData.eqv, PyData.eqvAll]
  | some s => simp [resD, stD, quD, PyData.eqv, PyData.eqvAll]
section
variable {P : Program} {w : World} {K : PySem.W.Frag} {mg : Str → Option Value} {base : Heap} {f : Addr} {fd : FuncData}
abbrev BeC (P : Program) (w : World) (K : PySem.W.Frag) (mg : Str → Option Value) (base : Heap) (rt : K74.Rt) (al : K74.Al) : Prop := Cal P w K mg base 5 "_law_behind" psBehind (spBehind rt al)
abbrev sMiss : Stmt := top 38
abbrev psMiss : List Str := ["_law_routes_here", "_law_many", "_law_allowed"]
abbrev nsMiss : List Str := ["_law_routes_here", "_law_many", "_law_allowed", "_law_start", "_law_waiting", "_law_seen", "_law_state"]
def spMiss (rt : K74.Rt) (al : K74.Al) (many : Nat) : Sp := fun vs H Q _ => ∃ (r a : Addr), vs = [.ref r, natV many, .ref a] ∧ RtAt H r rt ∧ Lt H a (al.map pairD) ∧ K74.RtOk rt many ∧ many ≤ 1000 ∧ (∀ w, (rt w).length ≤ 8) ∧
  ∀ (b : Bool) H', (b = true ↔ K74.Miss rt al many) → Same H H' → Q (.bl b) H'
theorem scMiss : FnScope nsMiss psMiss (defScope sMiss) := ⟨rfl, rfl, rfl, by decide +kernel, rfl, by decide +kernel, by decide +kernel⟩
theorem start_D (many : Nat) : stD (K74.start many) = .tuple [.tuple (List.replicate many [.tuple []]).flatten, natD 0, natD 0, .bool false, .bool false] := by
  unfold stD K74.start quD
  congr 3
  rw [List.map_replicate]
  induction many with
  | zero => rfl
  | succ n ih => rw [List.replicate_succ, List.replicate_succ, List.flatten_cons, ← ih]; rfl
theorem ok_miss {rt : K74.Rt} {al : K74.Al} {many : Nat} (D : DefAt K mg "_law_can_miss" sMiss psMiss f fd) (CB : BeC P w K mg base rt al) : FnOk P w K mg base CX0 6 f fd psMiss (spMiss rt al many) := by
  refine D.F.ok scMiss (fun vs H Q E h => ?_) (fun cdv A outer s H vs Q E hr h => ?_)
  · obtain ⟨r, a, rfl, _⟩ := h
    rfl
  obtain ⟨r, a, rfl, hrt, hal, R, hm, h8, q⟩ := h
  have hu := hu_of hr
  have nd := scMiss.nd
  refine ⟨_, pss_cons (ps_set (i := 3) nd rfl (Or.inl rfl) (pe_td (pa_cons (pe_op op_repTD (pe_td (pa_cons (pe_td pa_nil) pa_nil)) (pv 1)) (pa_cons pe_int (pa_cons pe_int (pa_cons pe_bl (pa_cons pe_bl pa_nil)))))))
    (pss_cons (ps_par (i := 4) (j := 5) (by rfl) nd rfl rfl (by decide) rfl rfl (pa_cons (pe_lt (pa_cons (pv 3) pa_nil)) (pa_cons (pe_dispSeen (hu9 hr) (pv 3)) pa_nil)) (by rfl))
    (pss_cons (ps_while PassesOwn.never (pt_cmpR (op_neNil (hu64' hr)) (pv 4) (pe_lt pa_nil) (nomark _))
      (pss_one (ps_for PassesOwn.never rfl (pi_list (pe_cal CB hr rfl (pa_cons (pv 0) (pa_cons (pv 2) (pa_cons (pe_bm0 PySem.F.plainAttrs_list PySem.F.slot_list_pop PySem.F.type_list_pop mt_pop (pv 4)) pa_nil))))) (pg_name (i := 6) nd rfl (Or.inl rfl))
        (pss_cons (ps_if (pt_cmpR (op_eqD (hu64' hr)) (pv 6) (pe_td (pa_cons pe_bl pa_nil)) (nomark _)) (pss_one (ps_ret pe_bl)) pss_nil)
        (pss_one (ps_if (pt_cmpR (op_notSeen (hu9 hr)) (pv 6) (pv 5) rfl)
          (pss_cons (ps_asg pe_bl (pg_sub (pv 5) (pv 6) (set_seen (hu9 hr))))
          (pss_one (ps_expr (pe_bm PySem.F.plainAttrs_list PySem.F.slot_list_append PySem.F.type_list_append mt_append (pv 4) (pa_cons (pv 6) pa_nil))))) pss_nil))))))
    (pss_one (ps_ret pe_bl)))), ?_⟩
  have hs : sizeLine = 16777216 := sizeLine_eq
  refine ⟨_, .nil, szl (by simp), fun v0 H0 s0 t0 => ?_⟩
  refine ⟨_, TDs.one t0, szl (by simp), fun v1 H1 s1 t1 => ?_⟩
  refine ⟨_, rfl, _, many, t1, rfl, by simp, hm, by simp, fun v2 H2 s2 t2 => ?_⟩
  refine ⟨_, .cons t2 (.cons (.int 0) (.cons (.int 0) (.cons (.bl false) (.cons (.bl false) .nil)))), szl (by simp), fun sv H3 s3 t3 => ?_⟩
  have t3 : TD H3 sv (stD (K74.start many)) := by rw [start_D]; exact t3
  have sA := s0.trans (s1.trans (s2.trans s3))
  refine ⟨_, rfl, _, TDs.one t3, szl (by simp), fun wt H4 hwt s4 l4 => ?_⟩
  intro sd hsd
  have t5 := (t3.k (TK.same s4)).k (TK.same (same_new hsd (o := SeenO P w sd [])))
  obtain ⟨sb, svs, rfl, hsb, tsv⟩ := t5.inv
  refine ⟨_, rfl, upd_same, sb, _, rfl, t5, nk_depth _, fun u hseen => ?_⟩
  refine ⟨_, _, rfl, ?_⟩
  rw [upd_upd] at hseen ⊢
  have hwtne : wt ≠ sd := by
    obtain ⟨vs, e, _⟩ := l4
    exact ne_of_none e hsd
  have s5 : Same H4 (upd H4 sd u) := same_new hsd
  have sB := sA.trans (s4.trans s5)
  have hsdH : H sd = none := (sA.trans s4).free hsd
  have hwtH : H wt = none := sA.free hwt
  -- the while
  refine ⟨fun m σ' H' => ∃ (o6 : Option V) (ws ss : List K74.S), σ' = [some (.ref r), some (natV many), some (.ref a), some (.ref sb), some (.ref wt), some (.ref sd), o6] ∧ Same H H' ∧ Lt H' wt (ws.map stD) ∧ SeenAt P w H' sd (ss.map stD) ∧ BI rt al many ws ss (fun _ => False) ∧ m = 3308208 - ss.length + ws.length ∧ m ≤ 3308208,
    ⟨3308208 - 1 + 1, none, [K74.start many], [K74.start many], rfl, sB, l4.keep s5, hseen, ⟨by simp, fun s hs => ?_, fun s hs => hs, by simp, fun s hs => .inl hs⟩, rfl, by decide⟩, ?_⟩
  · rw [List.mem_singleton.mp hs]; exact .start
  rintro m σ1 G1 ⟨o6, ws, ss, rfl, g1, lw, se, bi, rfl, hmax⟩
  refine ⟨_, rfl, _, .nil, szl (by simp), fun pn G2 hpn g2 ln => ?_⟩
  refine ⟨wt, pn, _, rfl, rfl, lw.keep g2, ln, fun e he => ?_, _, rfl, ?_⟩
  · obtain ⟨z, _, rfl⟩ := List.mem_map.mp he
    exact (nice_st z).mono (by decide)
  rw [empty_map]
  by_cases hws : ws = []
  · -- all is seen
    subst hws
    refine itN (by simp) ?_
    exact q false G2 ⟨(fun z => nomatch z), fun z => absurd z bi.done⟩ (g1.trans g2)
  refine itY (by simp [hws]) ?_
  obtain ⟨ws', x, rfl⟩ : ∃ ws' x, ws = ws' ++ [x] := ⟨ws.dropLast, ws.getLast hws, (List.dropLast_concat_getLast hws).symm⟩
  have hx : K74.Reach rt al many x := bi.re x (bi.sub x (by simp))
  refine ⟨fun σ' H' => ∃ m', m' < 3308208 - ss.length + (ws' ++ [x]).length ∧ ∃ (o6 : Option V) (ws ss : List K74.S), σ' = [some (.ref r), some (natV many), some (.ref a), some (.ref sb), some (.ref wt), some (.ref sd), o6] ∧ Same H H' ∧ Lt H' wt (ws.map stD) ∧ SeenAt P w H' sd (ss.map stD) ∧ BI rt al many ws ss (fun _ => False) ∧ m' = 3308208 - ss.length + ws.length ∧ m' ≤ 3308208, fun _ _ h => h, ?_⟩
  have hl1 : (ws' ++ [x]).length = ws'.length + 1 := by simp
  -- waiting.pop()
  obtain ⟨vs, hvs, tvs⟩ := lw.keep g2
  have hvl : vs.length = ws'.length + 1 := by rw [tvs.length, List.length_map, List.length_append]; rfl
  obtain ⟨y, hy, ty⟩ := tvs.get (i := ws'.length) (d := stD x) (by simp)
  have tw : TDs G2 vs.dropLast (ws'.map stD) := by
    have := tvs.take ws'.length
    rw [List.map_append, List.take_left' (by simp)] at this
    rw [List.dropLast_eq_take, show vs.length - 1 = ws'.length from by omega]
    exact this
  have nt : ∀ xs, G2 wt ≠ some (.tup xs) := fun xs z => by rw [hvs] at z; cases z
  have tk3 : TK G2 (upd G2 wt (.lst vs.dropLast)) := TK.put nt
  have sG3 : Same H (upd G2 wt (.lst vs.dropLast)) := Same.put hwtH (g1.trans g2)
  have se3 : SeenAt P w (upd G2 wt (.lst vs.dropLast)) sd (ss.map stD) := (se.keep g2).keep' (upd_ne hwtne.symm) tk3
  refine ⟨_, rfl, _, rfl, _, rfl, ⟨.inl ⟨rfl, _, SqL.of hvs⟩, wt, vs, y, rfl, rfl, hvs, by rw [show vs.length - 1 = ws'.length from by omega]; exact hy, ?_⟩⟩
  refine ⟨r, a, y, x, rfl, hrt.keep sG3, hal.keep sG3, ty.k tk3, rd_of R hm hx, fun p G4 hp g4 lp => ?_⟩
  obtain ⟨rvs, hrv, trv⟩ := lp
  have hwt3 : (upd G2 wt (.lst vs.dropLast)) wt = some (.lst vs.dropLast) := upd_same
  have hpw : p ≠ wt := fun z => by rw [z, hwt3] at hp; cases hp
  have hps : p ≠ sd := fun z => by
    obtain ⟨ks, e, _⟩ := se3
    rw [z, e] at hp; cases hp
  have hpl : rvs.length = (K74.behind rt al x).length := by rw [trv.length, List.length_map]
  refine ⟨p, rfl, ⟨_, SqL.of hrv⟩, for_list (K := K) (a := p) (xs := rvs) (fun i σ' H' => ∃ (o6 : Option V) (ws2 ss2 : List K74.S), σ' = [some (.ref r), some (natV many), some (.ref a), some (.ref sb), some (.ref wt), some (.ref sd), o6] ∧ Same H H' ∧ H' p = some (.lst rvs) ∧ TK G4 H' ∧ Lt H' wt (ws2.map stD) ∧ SeenAt P w H' sd (ss2.map stD) ∧
      BI rt al many ws2 ss2 (fun z => z = x) ∧ (∀ r' ∈ (K74.behind rt al x).take i, ∃ s', r' = some s' ∧ s' ∈ ss2) ∧ 3308208 - ss2.length + ws2.length = 3308208 - ss.length + ws'.length)
    ⟨o6, ws', ss, rfl, sG3.trans g4, hrv, TK.refl _, ⟨_, g4 _ _ hwt3, (tw.k tk3).k (TK.same g4)⟩, se3.keep g4, ⟨bi.nd, bi.re, fun z hz => bi.sub z (by simp [hz]), bi.st, fun z hz => ?_⟩, fun r' hr' => (nomatch hr'), rfl⟩
    (fun i σ' H' _ ⟨_, _, _, _, _, h, _⟩ => SqL.of h) ?_ ?_⟩
  · rcases bi.cl z hz with c | c | c
    · rcases List.mem_append.mp c with c | c
      · exact .inl c
      · exact .inr (.inl (List.mem_singleton.mp c))
    · exact c.elim
    · exact .inr (.inr c)
  · rintro i y' σ2 H5 hi ⟨o6', ws2, ss2, rfl, s5', hp5, tk5, lw5, se5, bi5, seen5, hm5⟩
    obtain ⟨r', hr', td⟩ := trv.ofMap hi
    have td5 := td.k tk5
    refine ⟨_, rfl, _, TDs.one (.bl true), szl (by simp), fun v6 H6 s6 t6 => ?_⟩
    have td6 := td5.k (TK.same s6)
    refine ⟨resD r', _, td6.dp K, t6.dp K, (nice_res r').shaped (by decide), (NiceN.tup (n := 0) fun d hd => by rw [List.mem_singleton.mp hd]; exact nice_bool _ _).shaped (by decide), _, rfl, ?_⟩
    have hmem : r' ∈ K74.behind rt al x := List.mem_of_getElem? hr'
    cases r' with
    | none =>
      refine itY (by rw [eqv_res]; rfl) ?_
      exact q true H6 ⟨fun _ => ⟨x, hx, hmem⟩, fun _ => rfl⟩ (s5'.trans s6)
    | some s' =>
      refine itN (by rw [eqv_res]; rfl) ?_
      have td6' : TD H6 y' (stD s') := td6
      obtain ⟨b, bvs, rfl, hb, tb⟩ := td6'.inv
      have se6 := se5.keep s6
      refine ⟨_, rfl, _, rfl, sd, b, _, stD s', rfl, rfl, se6, td6', nk_depth s', _, rfl, ?_⟩
      have htk := take_snoc hr'
      by_cases hin : s' ∈ ss2
      · refine itN (by rw [decide_eq_true (nk_mem.mpr hin)]; rfl) ?_
        refine ⟨_, ws2, ss2, rfl, s5'.trans s6, s6 _ _ hp5, tk5.trans (TK.same s6), lw5.keep s6, se6, bi5, fun r'' hr'' => ?_, hm5⟩
        rw [htk] at hr''
        rcases List.mem_append.mp hr'' with z | z
        · exact seen5 r'' z
        · exact ⟨s', List.mem_singleton.mp z, hin⟩
      · refine itY (by rw [decide_eq_false fun z => hin (nk_mem.mp z)]; rfl) ?_
        have hre : K74.Reach rt al many s' := .step hx hmem
        have nd' : (ss2 ++ [s']).Nodup := by
          rw [List.nodup_append]
          exact ⟨bi5.nd, by simp, fun u hu v hv e => by
            have hv := List.mem_singleton.mp hv
            subst e hv
            exact hin hu⟩
        have re' : ∀ z ∈ ss2 ++ [s'], K74.Reach rt al many z := fun z hz => by
          rcases List.mem_append.mp hz with z1 | z1
          · exact bi5.re z z1
          · rw [List.mem_singleton.mp z1]; exact hre
        have few' := K74.few R h8 nd' re'
        rw [List.length_append, List.length_singleton] at few'
        refine ⟨_, rfl, _, rfl, sd, b, _, stD s', rfl, rfl, rfl, se6, td6', nk_depth s', fun z => hin (nk_mem.mp z), by rw [List.length_map, hs]; omega, fun u se7 mu => ?_⟩
        obtain ⟨wvs, hwv, twv⟩ := lw5.keep s6
        have nts : ∀ xs, H6 sd ≠ some (.tup xs) := fun xs z => by rw [z] at mu; exact mu
        have tk7 : TK H6 (upd H6 sd u) := TK.put nts
        have s7 : Same H (upd H6 sd u) := Same.put hsdH (s5'.trans s6)
        have hwv7 : (upd H6 sd u) wt = some (.lst wvs) := by rw [upd_ne hwtne]; exact hwv
        have hlw : wvs.length = ws2.length := by rw [twv.length, List.length_map]
        have hlt : wvs.length < sizeLine := by rw [hs, hlw]; omega
        refine ⟨_, rfl, ⟨.inl ⟨rfl, _, SqL.of hwv7⟩, _, rfl, wt, wvs, .ref b, rfl, rfl, hwv7, hlt, ?_⟩⟩
        have ntw : ∀ xs, (upd H6 sd u) wt ≠ some (.tup xs) := fun xs z => by rw [hwv7] at z; cases z
        have tk8 : TK (upd H6 sd u) (upd (upd H6 sd u) wt (.lst (wvs ++ [.ref b]))) := TK.put ntw
        refine ⟨_, ws2 ++ [s'], ss2 ++ [s'], rfl, Same.put hwtH s7, ?_, tk5.trans ((TK.same s6).trans (tk7.trans tk8)), ⟨_, upd_same, ?_⟩, ?_, ⟨nd', re', fun z hz => ?_, by simp [bi5.st], fun z hz => ?_⟩, fun r'' hr'' => ?_, ?_⟩
        · rw [upd_ne hpw, upd_ne hps]; exact s6 _ _ hp5
        · rw [List.map_append]
          exact ((twv.append (TDs.one td6')).k tk7).k tk8
        · have := se7.keep' (H' := upd (upd H6 sd u) wt (.lst (wvs ++ [.ref b]))) (upd_ne hwtne.symm) tk8
          rw [List.map_append]
          exact this
        · rcases List.mem_append.mp hz with z1 | z1
          · exact List.mem_append_left _ (bi5.sub z z1)
          · exact List.mem_append_right _ z1
        · rcases List.mem_append.mp hz with z1 | z1
          · rcases bi5.cl z z1 with c | c | c
            · exact .inl (List.mem_append_left _ c)
            · exact .inr (.inl c)
            · exact .inr (.inr (c.mono fun u hu => List.mem_append_left _ hu))
          · exact .inl (List.mem_append_right _ z1)
        · rw [htk] at hr''
          rcases List.mem_append.mp hr'' with z | z
          · obtain ⟨s'', e1, e2⟩ := seen5 r'' z
            exact ⟨s'', e1, List.mem_append_left _ e2⟩
          · exact ⟨s', List.mem_singleton.mp z, by simp⟩
        · simp only [List.length_append, List.length_singleton]
          omega
  · rintro σ2 H5 ⟨o6', ws2, ss2, rfl, s5', hp5, tk5, lw5, se5, bi5, seen5, hm5⟩
    rw [hpl, List.take_length] at seen5
    have cx : closedIn rt al ss2 x := ⟨(fun z => by obtain ⟨s', e, _⟩ := seen5 _ z; exact (nomatch e)), fun s' hs' => by
      obtain ⟨s'', e, h⟩ := seen5 _ hs'
      cases e
      exact h⟩
    refine ⟨3308208 - ss2.length + ws2.length, by omega, o6', ws2, ss2, rfl, s5', lw5, se5, ⟨bi5.nd, bi5.re, bi5.sub, bi5.st, fun z hz => ?_⟩, rfl, by omega⟩
    rcases bi5.cl z hz with c | c | c
    · exact .inl c
    · subst c; exact .inr (.inr cx)
    · exact .inr (.inr c)
end
end KW
/-! K74: ways, routes -/
namespace KW
open L2 PySem PySem.Spec PyProof.Rows
def pathD (p : K74.Path) : PyData := .tuple (p.map natD)
def linkD (e : K74.Path × K74.Path) : PyData := .tuple [pathD e.1, pathD e.2]
theorem pathD_inj (a b : K74.Path) (h : pathD a = pathD b) : a = b := by
  unfold pathD at h
  injection h with h
  exact map_inj' natD_inj h
theorem linkD_inj (a b : K74.Path × K74.Path) (h : linkD a = linkD b) : a = b := by
  obtain ⟨a1, a2⟩ := a
  obtain ⟨b1, b2⟩ := b
  unfold linkD at h
  simp only [PyData.tuple.injEq, List.cons.injEq, and_true] at h
  rw [pathD_inj _ _ h.1, pathD_inj _ _ h.2]
theorem good_path (p : K74.Path) : Good (pathD p) := by
  refine ⟨?_, (NiceN.tup (n := 0) fun d hd => ?_).mono (by decide)⟩
  · unfold pathD
    rw [pl, plAll_iff]
    intro d hd
    obtain ⟨n, _, rfl⟩ := List.mem_map.mp hd
    exact (good_nat n).1
  · obtain ⟨n, _, rfl⟩ := List.mem_map.mp hd
    exact nice_int _ _
theorem good_link (e : K74.Path × K74.Path) : Good (linkD e) := by
  refine ⟨?_, (NiceN.tup (n := 1) fun d hd => ?_).mono (by decide)⟩
  · unfold linkD
    rw [pl, plAll_iff]
    intro d hd
    simp only [List.mem_cons, List.not_mem_nil, or_false] at hd
    rcases hd with rfl | rfl
    · exact (good_path _).1
    · exact (good_path _).1
  · simp only [List.mem_cons, List.not_mem_nil, or_false] at hd
    have : ∀ p, NiceN 1 (pathD p) := fun p => NiceN.tup (n := 0) fun d hd => by
      obtain ⟨n, _, rfl⟩ := List.mem_map.mp hd
      exact nice_int _ _
    rcases hd with rfl | rfl
    · exact this _
    · exact this _
theorem good_paths {l : List K74.Path} : ∀ e ∈ l.map pathD, Good e := fun e he => by
  obtain ⟨n, _, rfl⟩ := List.mem_map.mp he
  exact good_path n
theorem good_links {l : List (K74.Path × K74.Path)} : ∀ e ∈ l.map linkD, Good e := fun e he => by
  obtain ⟨n, _, rfl⟩ := List.mem_map.mp he
  exact good_link n
theorem inj_mem {α : Type} {f : α → PyData} (inj : ∀ a b, f a = f b → a = b) {l : List α} {a : α} : f a ∈ l.map f ↔ a ∈ l := by
  constructor
  · intro h
    obtain ⟨b, hb, e⟩ := List.mem_map.mp h
    exact inj _ _ e ▸ hb
  · exact fun h => List.mem_map.mpr ⟨a, h, rfl⟩
theorem nodup_first {α : Type} {l : List α} (nd : l.Nodup) {j : Nat} {a : α} (h : l[j]? = some a) : ∀ m, m < j → l[m]? ≠ some a := by
  intro m hm e
  obtain ⟨h1, e1⟩ := List.getElem?_eq_some_iff.mp h
  obtain ⟨h2, e2⟩ := List.getElem?_eq_some_iff.mp e
  have := (List.getElem_inj nd).mp (e2.trans e1.symm)
  omega
theorem map_first {α : Type} {f : α → PyData} (inj : ∀ a b, f a = f b → a = b) {l : List α} (nd : l.Nodup) {j : Nat} {a : α} (h : l[j]? = some a) : (l.map f)[j]? = some (f a) ∧ ∀ m, m < j → (l.map f)[m]? ≠ some (f a) := by
  refine ⟨by rw [List.getElem?_map, h]; rfl, fun m hm e => ?_⟩
  rw [List.getElem?_map] at e
  cases h2 : l[m]? with
  | none => rw [h2] at e; exact nomatch e
  | some b =>
    rw [h2] at e
    have := inj _ _ (Option.some.inj e)
    subst this
    exact nodup_first nd h m hm h2
section
variable {P : Program} {w : World} {K : PySem.W.Frag} {mg : Str → Option Value} {base : Heap} {f : Addr} {fd : FuncData}
/-! ### _law_way -/
abbrev sWay : Stmt := top 28
abbrev psWay : List Str := ["_law_one", "_law_other"]
abbrev nsWay : List Str := ["_law_one", "_law_other", "_law_up", "_law_down", "_law_top", "_law_k", "_law_path"]
def spWay : Sp := fun vs H Q _ => ∃ (v1 v2 : V) (x y : K74.Path), vs = [v1, v2] ∧ TD H v1 (pathD x) ∧ TD H v2 (pathD y) ∧ x.length ≤ 100 ∧ y.length ≤ 100 ∧
  ∀ p H', H p = none → Same H H' → Lt H' p ((K74.way x y).map pathD) → Q (.ref p) H'
theorem scWay : FnScope nsWay psWay (defScope sWay) := ⟨rfl, rfl, rfl, by decide +kernel, rfl, by decide +kernel, by decide +kernel⟩
theorem Dn_take (x : K74.Path) (i : Nat) (h : i ≤ x.length + 1) : (List.range i).map (fun k => pathD (x.take k)) = ((K74.Dn x).take i).map pathD := by
  unfold K74.Dn
  rw [← List.map_take, List.map_map, List.take_range, Nat.min_eq_left h]; rfl
theorem ok_way (D : DefAt K mg "_law_way" sWay psWay f fd) (B : Blt mg) : FnOk P w K mg base CX0 1 f fd psWay spWay := by
  refine D.F.ok scWay (fun vs H Q E h => ?_) (fun cdv A outer s H vs Q E hr h => ?_)
  · obtain ⟨v1, v2, x, y, rfl, _⟩ := h
    rfl
  obtain ⟨v1, v2, x, y, rfl, h1, h2, hx, hy, q⟩ := h
  have nd := scWay.nd
  have hs : sizeLine = 16777216 := sizeLine_eq
  refine ⟨_, pss_cons (ps_set (i := 2) nd rfl (Or.inl rfl) (pe_revL (pe_lc (own := [("_law_k", 5)]) (g := gName 5) rfl nd (pi_range1 (by rfl) B.range (pa_cons (pe_op op_add (pe_callB call_lenTD (by rfl) B.len PySem.boot_len (pa_cons (pv 0) pa_nil)) pe_int) pa_nil)) (blkOk_by (N := nsWay) (sc := defScope sWay) (by decide +kernel))
        (fun _ _ _ _ _ => pg_name (i := 5) nd rfl (Or.inl rfl)) (fun _ _ _ _ _ => pts_nil) (fun _ _ _ _ _ => pe_slice sl_TD (pv 0) po_none (po_some (pv 5))))))
    (pss_cons (ps_set (i := 3) nd rfl (Or.inr rfl) (pe_lc (own := [("_law_k", 5)]) (g := gName 5) rfl nd (pi_range1 (by rfl) B.range (pa_cons (pe_op op_add (pe_callB call_lenTD (by rfl) B.len PySem.boot_len (pa_cons (pv 1) pa_nil)) pe_int) pa_nil)) (blkOk_by (N := nsWay) (sc := defScope sWay) (by decide +kernel))
        (fun _ _ _ _ _ => pg_name (i := 5) nd rfl (Or.inl rfl)) (fun _ _ _ _ _ => pts_nil) (fun _ _ _ _ _ => pe_slice sl_TD (pv 1) po_none (po_some (pv 5)))))
    (pss_cons (ps_set (i := 4) nd rfl (Or.inl rfl) (pe_ix ix_Lt (pe_lc (own := [("_law_path", 6)]) (g := gName 6) rfl nd (pi_list (pv 2)) (blkOk_by (N := nsWay) (sc := defScope sWay) (by decide +kernel))
        (fun _ _ _ _ _ => pg_name (i := 6) nd rfl (Or.inl rfl)) (fun _ _ _ _ _ => pts_one (pt_cmpR (op_inLt (hu64 hr)) (pv 6) (pv 3) rfl)) (fun _ _ _ _ _ => pv 6)) pe_int (fun _ _ => rfl)))
    (pss_one (ps_ret (pe_op op_catLt (pe_slice sl_Lt (pv 2) po_none (po_some (pe_bm PySem.F.plainAttrs_list PySem.F.slot_list_index PySem.F.type_list_index (mt_indexLt (hu64 hr)) (pv 2) (pa_cons (pv 4) pa_nil))))
      (pe_slice sl_Lt (pv 3) (po_some (pe_bm PySem.F.plainAttrs_list PySem.F.slot_list_index PySem.F.type_list_index (mt_indexLt (hu64 hr)) (pv 3) (pa_cons (pv 4) pa_nil))) po_none)))))), ?_⟩
  obtain ⟨m, mx, my, t0, tu, tdn, ew⟩ := K74.law_way x y
  have lU := K74.Up_len x
  have lD := K74.Dn_len y
  -- up
  refine ⟨_, rfl, _, _, rfl, h1, _, _, rfl, rfl, _, rfl, by rw [List.length_map]; omega, by rw [List.length_map]; omega, fun D1 hD1 => ?_⟩
  rw [show (((x.map natD).length : Int) + 1).toNat = x.length + 1 by rw [List.length_map]; omega]
  refine lc_it walk_range (LcP H D1 fun i => (List.range i).map fun k => pathD (x.take k)) (LcP.start hD1 rfl) (fun _ _ _ _ => trivial) ?_ ?_
  · rintro i z H2 _ hi p ⟨rfl, hz⟩
    obtain rfl := hz.trans (z_nat i)
    refine ⟨rfl, _, rfl, _, rfl, _, rfl, _, h1.k (TK.same p.1), fun v H3 s3 t3 => ?_⟩
    rw [cutD_to, ← List.map_take] at t3
    exact p.put hD1 s3 t3 (by rw [range_snoc, List.map_append]; rfl) (small1000 (by rw [List.length_map, List.length_range]; omega))
  intro H2 p2
  rw [LcP, Dn_take x _ (Nat.le_refl _), ← K74.Dn_len x, List.take_length] at p2
  obtain ⟨s2, dvs, hdv, tdv⟩ := p2
  refine ⟨D1, dvs, rfl, SqL.of hdv, fun pu hpu => ?_⟩
  have s3 : Same H2 (upd H2 pu (.lst dvs.reverse)) := same_new hpu
  have lu : Lt (upd H2 pu (.lst dvs.reverse)) pu ((K74.Up x).map pathD) := by
    unfold K74.Up
    rw [List.map_reverse]
    exact Lt.new hpu tdv.rev
  generalize upd H2 pu (.lst dvs.reverse) = H3 at s3 lu
  have sA := s2.trans s3
  -- down
  refine ⟨_, rfl, _, _, rfl, h2.k (TK.same sA), _, _, rfl, rfl, _, rfl, by rw [List.length_map]; omega, by rw [List.length_map]; omega, fun D2 hD2 => ?_⟩
  rw [show (((y.map natD).length : Int) + 1).toNat = y.length + 1 by rw [List.length_map]; omega]
  refine lc_it walk_range (LcP H3 D2 fun i => (List.range i).map fun k => pathD (y.take k)) (LcP.start hD2 rfl) (fun _ _ _ _ => trivial) ?_ ?_
  · rintro i z H4 _ hi p ⟨rfl, hz⟩
    obtain rfl := hz.trans (z_nat i)
    refine ⟨rfl, _, rfl, _, rfl, _, rfl, _, h2.k (TK.same (sA.trans p.1)), fun v H5 s5 t5 => ?_⟩
    rw [cutD_to, ← List.map_take] at t5
    exact p.put hD2 s5 t5 (by rw [range_snoc, List.map_append]; rfl) (small1000 (by rw [List.length_map, List.length_range]; omega))
  intro H4 p4
  rw [LcP, Dn_take y _ (Nat.le_refl _), ← K74.Dn_len y, List.take_length] at p4
  obtain ⟨s4, ld⟩ := p4
  have lu4 := lu.keep s4
  obtain ⟨uvs, huv, tuv⟩ := id lu4
  have hul : uvs.length = (K74.Up x).length := by rw [tuv.length, List.length_map]
  -- top
  refine ⟨_, rfl, pu, rfl, ⟨uvs, SqL.of huv⟩, fun D3 hD3 => ?_⟩
  refine lc_it walk_list (LcP H4 D3 fun i => (((K74.Up x).take i).filter fun v => decide (v ∈ K74.Dn y)).map pathD) (LcP.start hD3 rfl) (fun i H _ p => SqL.of (p.1 _ _ huv)) ?_ ?_
  · rintro i z H5 _ hi p ⟨rfl, hz⟩
    obtain ⟨a, ha, ta⟩ := tuv.ofMap hz
    have ta5 := ta.k (TK.same p.1)
    refine ⟨rfl, _, rfl, _, rfl, D2, pathD a, _, rfl, ld.keep p.1, ta5, good_path a, good_paths, fun b hb => ?_⟩
    have hb := hb.trans (inj_mem pathD_inj)
    have ht := take_snoc ha
    refine ⟨_, rfl, ?_⟩
    by_cases c : a ∈ K74.Dn y
    · refine itY (hb.mpr c) ⟨_, rfl, p.put hD3 (Same.refl _) ta5 ?_ ?_⟩
      · rw [ht, List.filter_append, List.filter_cons_of_pos (by simpa using c), List.map_append]; rfl
      · rw [List.length_map]
        have h1 := List.length_filter_le (fun v => decide (v ∈ K74.Dn y)) ((K74.Up x).take i)
        rw [List.length_take] at h1
        exact small1000 (by omega)
    · have hb0 : b = false := by cases b with
        | true => exact absurd (hb.mp rfl) c
        | false => rfl
      refine itN hb0 (p.skip (Same.refl _) ?_)
      rw [ht, List.filter_append, List.filter_cons_of_neg (by simpa using c)]; simp
  intro H5 p5
  rw [LcP, hul, List.take_length] at p5
  obtain ⟨s5, l5⟩ := p5
  refine ⟨D3, _, 0, pathD (x.take m), rfl, rfl, l5, atI_nat (j := 0) (by rw [List.getElem?_map, t0]; rfl), fun tv tt => ?_⟩
  have lu5 := lu4.keep s5
  have ld5 := ld.keep s5
  obtain ⟨u1, u2⟩ := map_first pathD_inj (K74.Up_nodup x) tu
  obtain ⟨d1, d2⟩ := map_first pathD_inj (K74.Dn_nodup y) tdn
  refine ⟨_, rfl, _, rfl, ⟨.inl ⟨rfl, _, SqL.of lu5.choose_spec.1⟩, _, rfl, pu, tv, _, _, x.length - m, rfl, rfl, lu5, tt, good_path _, good_paths, u1, u2, _, rfl, ?_⟩⟩
  refine ⟨pu, _, rfl, lu5, fun p6 H6 hp6 s6 l6 => ?_⟩
  rw [cutD_to, ← List.map_take] at l6
  have ld6 := ld5.keep s6
  refine ⟨_, rfl, _, rfl, ⟨.inl ⟨rfl, _, SqL.of ld6.choose_spec.1⟩, _, rfl, D2, tv, _, _, m, rfl, rfl, ld6, tt.k (TK.same s6), good_path _, good_paths, d1, d2, _, rfl, ?_⟩⟩
  refine ⟨D2, _, rfl, ld6, fun p7 H7 hp7 s7 l7 => ?_⟩
  rw [cutD_from, ← List.map_drop] at l7
  refine ⟨p6, p7, _, _, rfl, rfl, l6.keep s7, l7, szl (by rw [List.length_map, List.length_map, List.length_take, List.length_drop]; omega), fun p8 H8 hp8 s8 l8 => ?_⟩
  have sZ := sA.trans (s4.trans (s5.trans (s6.trans s7)))
  refine q p8 H8 (sZ.free hp8) (sZ.trans s8) ?_
  rw [ew, List.map_append]
  exact l8
end
end KW
/-! K74: routes -/
namespace KW
open L2 PySem PySem.Spec PyProof.Rows
/-- xs.index(e), xs a name: its reading does not speak of the written part (for comprehensions) -/
def tIndexLt (i : Nat) (te : TE) : TE := fun σ H Q => ∃ a ds, σ[i]? = some (some (.ref a)) ∧ Lt H a ds ∧ te σ H fun y H2 => rIndexLt (.ref a) [y] H2 Q
theorem pe_indexLt {X : Cx} {o e : Expr} {apos cpos : Pos} {i : Nat} {te : TE} (hu : X.A.units + 65 < cLine) (ho : PE X o (tVar i)) (he : PE X e te)
    (hbase : attributeBase o "index" X.env (eval o X.env) = eval o X.env := by rfl)
    (hFew : ((backTo cpos (starEach [e] X.env)).all (fun x => !x.1) && (backToKw cpos (keywordEach [] X.env)).all (fun x => x.1.isSome)
      && decide ([e].length + ([] : List Keyword).length + (if ([] : List Keyword).isEmpty then 0 else 1) < 30)) = true := by rfl)
    (hLine : (apos.endLine == cpos.line) = true := by rfl) (hs : starEach [e] X.env = (false, eval e X.env) :: starEach [] X.env := by rfl) (hPlain : (backTo cpos (starEach [] X.env)).any (·.1) = false := by rfl) :
    PE X (.Call (.Attribute o "index" apos) [e] [] cpos) (tIndexLt i te) := by
  have h := pe_bm (X := X) (apos := apos) (cpos := cpos) PySem.F.plainAttrs_list PySem.F.slot_list_index PySem.F.type_list_index (mt_indexLt hu) ho (pa_cons he pa_nil hs) hbase hFew hLine hs hPlain
  exact ⟨fun pins s σ H Q I q => h.run pins s σ H Q I (by
    obtain ⟨a, ds, e1, l, q⟩ := q
    exact ⟨_, e1, .inl ⟨rfl, _, SqL.of l.choose_spec.1⟩, q⟩)⟩
def wayD (F : K74.Four) (w : K74.W) : PyData := .tuple [wD w, pathD (F.from' w), pathD (F.to w)]
/-- short paths -/
def Short (F : K74.Four) : Prop := F.p.length ≤ 4 ∧ F.c.length ≤ 4 ∧ F.d.length ≤ 4 ∧ F.f.length ≤ 4
theorem Short.from' {F : K74.Four} (h : Short F) (w : K74.W) : (F.from' w).length ≤ 4 := by
  obtain ⟨h1, h2, h3, h4⟩ := h
  cases w <;> assumption
theorem Short.to {F : K74.Four} (h : Short F) (w : K74.W) : (F.to w).length ≤ 4 := by
  obtain ⟨h1, h2, h3, h4⟩ := h
  cases w <;> assumption
theorem Short.lk {F : K74.Four} (h : Short F) (w : K74.W) : (F.lk w).length ≤ 8 := by
  have := K74.lk_len (F.from' w) (F.to w)
  have := h.from' w
  have := h.to w
  unfold K74.Four.lk
  omega
theorem more_len (L : List (K74.Path × K74.Path)) (x y : K74.Path) : (K74.more L x y).length ≤ L.length + (K74.lk x y).length := by
  unfold K74.more
  rw [List.length_append]
  have := List.length_filter_le (fun p => decide (p ∉ L)) (K74.lk x y)
  omega
theorem net_len {F : K74.Four} (h : Short F) : ∀ (vs ws : List K74.W), (F.net (vs ++ ws)).length ≤ (F.net vs).length + 8 * ws.length
  | vs, [] => by simp
  | vs, w :: ws => by
    have h1 := net_len h (vs ++ [w]) ws
    have h2 : (F.net (vs ++ [w])).length ≤ (F.net vs).length + 8 := by
      rw [K74.net_snoc]
      have := more_len (F.net vs) (F.from' w) (F.to w)
      have := h.lk w
      unfold K74.Four.lk at this
      omega
    rw [List.append_assoc] at h1
    have h1 : (F.net (vs ++ w :: ws)).length ≤ _ := h1
    rw [List.length_cons]
    omega
theorem net_len' {F : K74.Four} (h : Short F) (i : Nat) : (F.net (K74.five.take i)).length ≤ 40 := by
  have := net_len h [] (K74.five.take i)
  have h2 : (K74.five.take i).length ≤ 5 := by rw [List.length_take]; show min i 5 ≤ 5; omega
  have h0 : (F.net []).length = 0 := rfl
  rw [List.nil_append] at this
  omega
theorem links_eq (l : List K74.Path) : K74.links l = (List.range (l.length - 1)).map fun j => (l.getD j [], l.getD (j + 1) []) := by
  apply List.ext_getElem?
  intro j
  unfold K74.links
  rw [List.getElem?_map]
  rcases Nat.lt_or_ge j (l.length - 1) with c | c
  · rw [List.getElem?_range c]
    have h1 : j < (l.zip l.tail).length := by rw [List.length_zip, List.length_tail]; omega
    rw [List.getElem?_eq_getElem h1, List.getElem_zip, Option.map_some]
    congr 2
    · rw [List.getD_eq_getElem?_getD, List.getElem?_eq_getElem (by omega)]; rfl
    · rw [List.getD_eq_getElem?_getD, List.getElem?_eq_getElem (by omega), List.getElem_tail]; rfl
  · rw [List.getElem?_eq_none (by rw [List.length_zip, List.length_tail]; omega), List.getElem?_eq_none (by simpa using c)]; rfl
theorem five_split {i : Nat} (hi : i < 5) : ∃ w vs, K74.five[i]? = some w ∧ K74.five.take i ++ w :: vs = K74.five ∧ w ∉ K74.five.take i := by
  rcases (show i = 0 ∨ i = 1 ∨ i = 2 ∨ i = 3 ∨ i = 4 by omega) with rfl | rfl | rfl | rfl | rfl
  · exact ⟨.data, _, rfl, rfl, by decide⟩
  · exact ⟨.flag, _, rfl, rfl, by decide⟩
  · exact ⟨.ask, _, rfl, rfl, by decide⟩
  · exact ⟨.told, _, rfl, rfl, by decide⟩
  · exact ⟨.get, _, rfl, rfl, by decide⟩
theorem val_new {i : Nat} {w : K74.W} (ra : K74.W → Addr) (h : K74.five[i]? = some w) : valV ((K74.five.take i).map fun w => ((Sum.inr (wS w) : L2.Key), V.ref (ra w))) (Sum.inr (wS w)) = none := by
  have hi : i < 5 := (List.getElem?_eq_some_iff.mp h).1
  rcases (show i = 0 ∨ i = 1 ∨ i = 2 ∨ i = 3 ∨ i = 4 by omega) with rfl | rfl | rfl | rfl | rfl <;> (cases h; rfl)
section
variable {P : Program} {w : World} {K : PySem.W.Frag} {mg : Str → Option Value} {base : Heap} {f : Addr} {fd : FuncData}
abbrev WyC (P : Program) (w : World) (K : PySem.W.Frag) (mg : Str → Option Value) (base : Heap) : Prop := Cal P w K mg base 1 "_law_way" psWay spWay
abbrev sRoutes : Stmt := top 29
abbrev psRoutes : List Str := ["_law_at"]
abbrev nsRoutes : List Str := ["_law_at", "_law_ways", "_law_links", "_law_routes_here", "_law_word", "_law_one", "_law_other", "_law_some", "_law_pairs", "_law_k", "_law_pair"]
/-- the routes stand in new places -/
def RtNew (H0 H : Hp) (r : Addr) (rt : K74.Rt) : Prop := ∃ ra : K74.W → Addr, H r = some (.dK (K74.five.map fun w => (Sum.inr (wS w), V.ref (ra w)))) ∧ (∀ w, Lt H (ra w) ((rt w).map natD)) ∧ (∀ w, H0 (ra w) = none) ∧ H0 r = none
theorem RtNew.step {H0 H H' : Hp} {r : Addr} {rt : K74.Rt} (h : RtNew H0 H r rt) (k : ∀ b u, H0 b = none → H b = some u → H' b = some u) (tk : TK H H') : RtNew H0 H' r rt := by
  obtain ⟨ra, e, f, g, g2⟩ := h
  exact ⟨ra, k _ _ g2 e, fun w => let ⟨vs, e2, t⟩ := f w; ⟨vs, k _ _ (g w) e2, t.k tk⟩, g, g2⟩
theorem RtNew.at' {H0 H : Hp} {r : Addr} {rt : K74.Rt} (h : RtNew H0 H r rt) : RtAt H r rt := let ⟨ra, e, f, _⟩ := h; ⟨ra, e, f⟩
def spRoutes (F : K74.Four) : Sp := fun vs H Q _ => ∃ (a : Addr), vs = [.ref a] ∧ Lt H a [pathD F.p, pathD F.c, pathD F.d, pathD F.f] ∧ Short F ∧
  ∀ p rd H', Same H H' → H' p = some (.tup [.ref rd, natV F.many]) → RtNew H H' rd F.rt → Q (.ref p) H'
theorem scRoutes : FnScope nsRoutes psRoutes (defScope sRoutes) := ⟨rfl, rfl, rfl, by decide +kernel, rfl, by decide +kernel, by decide +kernel⟩
theorem ok_routes {F : K74.Four} (D : DefAt K mg "_law_routes" sRoutes psRoutes f fd) (B : Blt mg) (CW : WyC P w K mg base) : FnOk P w K mg base CX0 2 f fd psRoutes (spRoutes F) := by
  refine D.F.ok scRoutes (fun vs H Q E h => ?_) (fun cdv A outer s H vs Q E hr h => ?_)
  · obtain ⟨a, rfl, _⟩ := h
    rfl
  obtain ⟨a, rfl, hat, hF, q⟩ := h
  have hu := hu_of hr
  have nd := scRoutes.nd
  have hs : sizeLine = 16777216 := sizeLine_eq
  refine ⟨_, pss_cons (ps_set (i := 1) nd rfl (Or.inl rfl) (pe_lt (pa_cons (pe_td (pa_cons pe_str (pa_cons (pe_ix ix_Lt (pv 0) pe_int (fun _ _ => rfl)) (pa_cons (pe_ix ix_Lt (pv 0) pe_int (fun _ _ => rfl)) pa_nil))))
        (pa_cons (pe_td (pa_cons pe_str (pa_cons (pe_ix ix_Lt (pv 0) pe_int (fun _ _ => rfl)) (pa_cons (pe_ix ix_Lt (pv 0) pe_int (fun _ _ => rfl)) pa_nil))))
        (pa_cons (pe_td (pa_cons pe_str (pa_cons (pe_ix ix_Lt (pv 0) pe_int (fun _ _ => rfl)) (pa_cons (pe_ix ix_Lt (pv 0) pe_int (fun _ _ => rfl)) pa_nil))))
        (pa_cons (pe_td (pa_cons pe_str (pa_cons (pe_ix ix_Lt (pv 0) pe_int (fun _ _ => rfl)) (pa_cons (pe_ix ix_Lt (pv 0) pe_int (fun _ _ => rfl)) pa_nil)))) pa_nil))))))
    (pss_cons (ps_asg (pe_tup (pa_cons (pe_lt pa_nil) (pa_cons pe_dnewK pa_nil))) (pg_tup rfl (pgs_cons (pg_name (i := 2) nd rfl (.inr rfl)) (pgs_cons (pg_name (i := 3) nd rfl (.inl rfl)) pgs_nil))))
    (pss_cons (ps_for PassesOwn.never rfl (pi_list (pe_op op_catLt (pv 1) (pe_lt (pa_cons (pe_td (pa_cons pe_str (pa_cons (pe_ix ix_Lt (pv 0) pe_int (fun _ _ => rfl)) (pa_cons (pe_ix ix_Lt (pv 0) pe_int (fun _ _ => rfl)) pa_nil)))) pa_nil))))
        (pg_tup rfl (pgs_cons (pg_name (i := 4) nd rfl (.inl rfl)) (pgs_cons (pg_name (i := 5) nd rfl (.inl rfl)) (pgs_cons (pg_name (i := 6) nd rfl (.inl rfl)) pgs_nil))))
        (pss_cons (ps_set (i := 7) nd rfl (Or.inr rfl) (pe_cal CW hr rfl (pa_cons (pv 5) (pa_cons (pv 6) pa_nil))))
        (pss_cons (ps_setLc (i := 8) (own := [("_law_k", 9)]) (g := gName 9) rfl nd rfl rfl (sw_true rfl rfl rfl (by decide +kernel)) (pi_range1 (by rfl) B.range (pa_cons (pe_op op_sub (pe_callB call_lenLt (by rfl) B.len PySem.boot_len (pa_cons (pv 7) pa_nil)) pe_int) pa_nil))
            (blkOk_by (N := nsRoutes) (sc := defScope sRoutes) (by decide +kernel)) (fun _ _ _ _ _ => pg_name (i := 9) nd rfl (Or.inl rfl)) (fun _ _ _ _ _ => pts_nil)
            (fun _ _ _ _ _ => pe_td (pa_cons (pe_ix ix_Lt (pv 7) (pv 9) (fun _ _ => rfl)) (pa_cons (pe_ix ix_Lt (pv 7) (pe_op op_add (pv 9) pe_int) (fun _ _ => rfl)) pa_nil))))
        (pss_cons (ps_set (i := 2) nd rfl (Or.inr rfl) (pe_op op_catLt (pv 2) (pe_lc (own := [("_law_pair", 10)]) (g := gName 10) rfl nd (pi_list (pv 8)) (blkOk_by (N := nsRoutes) (sc := defScope sRoutes) (by decide +kernel))
            (fun _ _ _ _ _ => pg_name (i := 10) nd rfl (Or.inl rfl)) (fun _ _ _ _ _ => pts_one (pt_cmpR (op_notInLt (hu64 hr)) (pv 10) (pv 2) rfl)) (fun _ _ _ _ _ => pv 10))))
        (pss_one (ps_dput hu (pv 3) (pv 4) (pe_lc (own := [("_law_pair", 10)]) (g := gName 10) rfl nd (pi_list (pv 8)) (blkOk_by (N := nsRoutes) (sc := defScope sRoutes) (by decide +kernel))
            (fun _ _ _ _ _ => pg_name (i := 10) nd rfl (Or.inl rfl)) (fun _ _ _ _ _ => pts_nil) (fun _ _ _ _ _ => pe_indexLt (i := 2) (hu64 hr) (pv 2) (pv 10))) rfl))))))
    (pss_one (ps_ret (pe_tup (pa_cons (pv 3) (pa_cons (pe_callB call_lenLt (by rfl) B.len PySem.boot_len (pa_cons (pv 2) pa_nil)) pa_nil))))))), ?_⟩
  -- the four ways
  refine ⟨_, rfl, a, _, 0, _, rfl, rfl, hat, atI_nat (j := 0) rfl, fun x1 t1 => ⟨_, rfl, a, _, 2, _, rfl, rfl, hat, atI_nat (j := 2) rfl, fun x2 t2 => ?_⟩⟩
  refine ⟨_, .cons (.str "data") (.cons t1 (TDs.one t2)), szl (by simp), fun w1 H1 s1 u1 => ?_⟩
  refine ⟨_, rfl, a, _, 0, _, rfl, rfl, hat.keep s1, atI_nat (j := 0) rfl, fun x1 t1 => ⟨_, rfl, a, _, 3, _, rfl, rfl, hat.keep s1, atI_nat (j := 3) rfl, fun x2 t2 => ?_⟩⟩
  refine ⟨_, .cons (.str "flag") (.cons t1 (TDs.one t2)), szl (by simp), fun w2 H2 s2 u2 => ?_⟩
  refine ⟨_, rfl, a, _, 1, _, rfl, rfl, hat.keep (s1.trans s2), atI_nat (j := 1) rfl, fun x1 t1 => ⟨_, rfl, a, _, 3, _, rfl, rfl, hat.keep (s1.trans s2), atI_nat (j := 3) rfl, fun x2 t2 => ?_⟩⟩
  refine ⟨_, .cons (.str "ask") (.cons t1 (TDs.one t2)), szl (by simp), fun w3 H3 s3 u3 => ?_⟩
  refine ⟨_, rfl, a, _, 3, _, rfl, rfl, hat.keep (s1.trans (s2.trans s3)), atI_nat (j := 3) rfl, fun x1 t1 => ⟨_, rfl, a, _, 1, _, rfl, rfl, hat.keep (s1.trans (s2.trans s3)), atI_nat (j := 1) rfl, fun x2 t2 => ?_⟩⟩
  refine ⟨_, .cons (.str "told") (.cons t1 (TDs.one t2)), szl (by simp), fun w4 H4 s4 u4 => ?_⟩
  have tall : TDs H4 [w1, w2, w3, w4] [wayD F .data, wayD F .flag, wayD F .ask, wayD F .told] := .cons (u1.k (TK.same (s2.trans (s3.trans s4)))) (.cons (u2.k (TK.same (s3.trans s4))) (.cons (u3.k (TK.same s4)) (TDs.one u4)))
  refine ⟨_, tall, szl (by simp), fun pw H5 hpw s5 l5 => ?_⟩
  have sA := s1.trans (s2.trans (s3.trans (s4.trans s5)))
  -- links, routes = [], {}
  refine ⟨_, .nil, szl (by simp), fun la H6 hla s6 l6 => ?_⟩
  intro rd hrd
  refine ⟨szl (by simp), fun tp htp => ?_⟩
  have s7 : Same H6 (upd (upd H6 rd (.dK [])) tp (.tup [.ref la, .ref rd])) := (same_new hrd).trans (same_new htp)
  have hrd7 : (upd (upd H6 rd (.dK [])) tp (.tup [.ref la, .ref rd])) rd = some (.dK []) := by
    rw [upd_ne fun z => by rw [← z, upd_same] at htp; cases htp]; exact upd_same
  have htp7 : (upd (upd H6 rd (.dK [])) tp (.tup [.ref la, .ref rd])) tp = some (.tup [.ref la, .ref rd]) := upd_same
  generalize upd (upd H6 rd (.dK [])) tp (.tup [.ref la, .ref rd]) = H7 at s7 hrd7 htp7
  refine ⟨tp, _, rfl, SqT.of htp7, rfl, _, _, rfl, _, _, rfl, rfl, ?_⟩
  have sB := sA.trans (s6.trans s7)
  have hrdH : H rd = none := (sA.trans s6).free hrd
  -- the list that is walked
  refine ⟨_, rfl, _, rfl, a, _, 1, _, rfl, rfl, hat.keep sB, atI_nat (j := 1) rfl, fun x1 t1 => ⟨_, rfl, a, _, 2, _, rfl, rfl, hat.keep sB, atI_nat (j := 2) rfl, fun x2 t2 => ?_⟩⟩
  refine ⟨_, .cons (.str "get") (.cons t1 (TDs.one t2)), szl (by simp), fun w5 H8 s8 u8 => ?_⟩
  refine ⟨_, TDs.one u8, szl (by simp), fun p9 H9 hp9 s9 l9 => ?_⟩
  refine ⟨pw, p9, _, _, rfl, rfl, l5.keep (s6.trans (s7.trans (s8.trans s9))), l9, szl (by simp), fun sl Ha hsl sa lsl => ?_⟩
  have lsl : Lt Ha sl (K74.five.map (wayD F)) := lsl
  obtain ⟨svs, hsv, tsv⟩ := lsl
  have sC := sB.trans (s8.trans (s9.trans sa))
  have hrda : Ha rd = some (.dK []) := (s8.trans (s9.trans sa)) _ _ hrd7
  have hsvl : svs.length = 5 := by rw [tsv.length, List.length_map]; rfl
  refine ⟨sl, rfl, ⟨_, SqL.of hsv⟩, for_list (K := K) (a := sl) (xs := svs) (fun i σ' H' => ∃ (la' : Addr) (o4 o5 o6 o7 o8 o9 o10 : Option V) (ra : K74.W → Addr), σ' = [some (.ref a), some (.ref pw), some (.ref la'), some (.ref rd), o4, o5, o6, o7, o8, o9, o10] ∧ Same H H' ∧ H' sl = some (.lst svs) ∧ TK Ha H' ∧
      Lt H' la' ((F.net (K74.five.take i)).map linkD) ∧ H' rd = some (.dK ((K74.five.take i).map fun w => ((Sum.inr (wS w) : L2.Key), V.ref (ra w)))) ∧ ∀ w ∈ K74.five.take i, Lt H' (ra w) ((F.rt w).map natD) ∧ H (ra w) = none)
    ⟨la, _, _, _, _, _, _, _, fun _ => la, rfl, sC, hsv, TK.refl _, l6.keep (s7.trans (s8.trans (s9.trans sa))), hrda, fun _ h => nomatch h⟩ (fun i σ' H' _ ⟨_, _, _, _, _, _, _, _, _, _, _, h, _⟩ => SqL.of h) ?_ ?_⟩
  · rintro i xv σ' G0 hi ⟨la', o4, o5, o6, o7, o8, o9, o10, ra, rfl, g0, hsl0, tk0, ll0, hd0, hr0⟩
    have hi5 : i < 5 := by rw [← hsvl]; exact (List.getElem?_eq_some_iff.mp hi).1
    obtain ⟨wd, vs, hw, e5, hnw⟩ := five_split hi5
    obtain ⟨wd', hwd', td⟩ := tsv.ofMap hi
    rw [hw] at hwd'
    cases hwd'
    obtain ⟨ta, v4, v5, v6, rfl, hta, t4, t5, t6⟩ := (td.k tk0).inv3
    obtain rfl := t4.invS
    have htk : K74.five.take (i + 1) = K74.five.take i ++ [wd] := take_snoc hw
    have nl := net_len' hF i
    have nl' := net_len' hF (i + 1)
    have lkl := hF.lk wd
    refine ⟨ta, _, rfl, SqT.of hta, rfl, _, _, rfl, _, _, rfl, _, _, rfl, rfl, ?_⟩
    refine ⟨_, rfl, _, rfl, v5, v6, F.from' wd, F.to wd, rfl, t5, t6, by have := hF.from' wd; omega, by have := hF.to wd; omega, fun pwy G1 hpwy g1 lwy => ?_⟩
    have hwl := K74.way_len (F.from' wd) (F.to wd)
    have hwl2 : (K74.way (F.from' wd) (F.to wd)).length ≤ 100 := by
      have := hF.from' wd
      have := hF.to wd
      split at hwl <;> omega
    have hw1 : 1 ≤ (K74.way (F.from' wd) (F.to wd)).length := by
      obtain ⟨t, e⟩ := K74.way_head (F.from' wd) (F.to wd)
      rw [e]; simp
    have hlk : F.lk wd = (List.range ((K74.way (F.from' wd) (F.to wd)).length - 1)).map fun j => ((K74.way (F.from' wd) (F.to wd)).getD j [], (K74.way (F.from' wd) (F.to wd)).getD (j + 1) []) := links_eq _
    generalize hwy : K74.way (F.from' wd) (F.to wd) = wy at lwy hwl2 hw1 hlk
    -- pairs
    refine ⟨_, rfl, pwy, _, rfl, lwy, _, _, rfl, rfl, _, rfl, by rw [List.length_map]; omega, by rw [List.length_map]; omega, fun D1 hD1 => ?_⟩
    rw [show (((wy.map pathD).length : Int) - 1).toNat = wy.length - 1 by rw [List.length_map]; omega]
    refine lc_it walk_range (LcP G1 D1 fun i => (List.range i).map fun j => linkD (wy.getD j [], wy.getD (j + 1) [])) (LcP.start hD1 rfl) (fun _ _ _ _ => trivial) ?_ ?_
    · rintro j z G2 _ hj p ⟨rfl, hz⟩
      obtain rfl := hz.trans (z_nat j)
      have lw2 := lwy.keep p.1
      refine ⟨rfl, _, rfl, _, rfl, pwy, _, _, pathD (wy.getD j []), rfl, rfl, lw2, atI_map (by omega), fun a1 b1 => ?_⟩
      refine ⟨_, rfl, _, rfl, _, _, rfl, rfl, pwy, _, _, pathD (wy.getD (j + 1) []), rfl, rfl, lw2, atI_map (i := j + 1) (by omega), fun a2 b2 => ?_⟩
      refine ⟨_, .cons b1 (TDs.one b2), szl (by simp), fun a3 G3 g3 b3 => ?_⟩
      exact p.put hD1 g3 b3 (by rw [range_snoc, List.map_append]; rfl) (small1000 (by rw [List.length_map, List.length_range]; omega))
    intro G2 p2
    obtain ⟨g2, lpr⟩ := p2
    have lpr : Lt G2 D1 ((F.lk wd).map linkD) := by
      rw [hlk, List.map_map]
      exact lpr
    obtain ⟨pvs, hpv, tpv⟩ := id lpr
    have hpl : pvs.length = (F.lk wd).length := by rw [tpv.length, List.length_map]
    have ll2 := ll0.keep (g1.trans g2)
    -- links + [..]
    refine ⟨_, rfl, _, rfl, D1, rfl, ⟨pvs, SqL.of hpv⟩, fun D2 hD2 => ?_⟩
    refine lc_it walk_list (LcP G2 D2 fun k => (((F.lk wd).take k).filter fun p => decide (p ∉ F.net (K74.five.take i))).map linkD) (LcP.start hD2 rfl) (fun k G _ p => SqL.of (p.1 _ _ hpv)) ?_ ?_
    · rintro k z G3 _ hk p ⟨rfl, hz⟩
      obtain ⟨e, he, te⟩ := tpv.ofMap hz
      have te3 := te.k (TK.same p.1)
      refine ⟨rfl, _, rfl, _, rfl, la', linkD e, _, rfl, ll2.keep p.1, te3, good_link e, good_links, fun b hb => ?_⟩
      have hb := hb.trans (inj_mem linkD_inj)
      have ht := take_snoc he
      refine ⟨_, rfl, ?_⟩
      by_cases c : e ∈ F.net (K74.five.take i)
      · refine itN (by rw [hb.mpr c]; rfl) (p.skip (Same.refl _) ?_)
        rw [ht, List.filter_append, List.filter_cons_of_neg (by simpa using c)]; simp
      · have hb0 : b = false := by cases b with
          | true => exact absurd (hb.mp rfl) c
          | false => rfl
        refine itY (by rw [hb0]; rfl) ⟨_, rfl, p.put hD2 (Same.refl _) te3 ?_ ?_⟩
        · rw [ht, List.filter_append, List.filter_cons_of_pos (by simpa using c), List.map_append]; rfl
        · rw [List.length_map]
          have h1 := List.length_filter_le (fun p => decide (p ∉ F.net (K74.five.take i))) ((F.lk wd).take k)
          rw [List.length_take] at h1
          exact small1000 (by omega)
    intro G3 p3
    rw [LcP, hpl, List.take_length] at p3
    obtain ⟨g3, lnew⟩ := p3
    have hfl := List.length_filter_le (fun p => decide (p ∉ F.net (K74.five.take i))) (F.lk wd)
    refine ⟨la', D2, _, _, rfl, rfl, ll2.keep g3, lnew, szl (by rw [List.length_map, List.length_map]; omega), fun lb G4 hlb g4 lcat => ?_⟩
    have lcat : Lt G4 lb ((F.net (K74.five.take (i + 1))).map linkD) := by
      rw [htk, K74.net_snoc]
      unfold K74.more
      rw [List.map_append]
      exact lcat
    have lpr4 := lpr.keep (g3.trans g4)
    have hpv4 := (g3.trans g4) _ _ hpv
    -- routes[word] = [..]
    refine ⟨_, rfl, D1, rfl, ⟨pvs, SqL.of hpv4⟩, fun D3 hD3 => ?_⟩
    refine lc_it walk_list (LcP G4 D3 fun k => ((F.lk wd).take k).map fun p => natD (F.links.idxOf p)) (LcP.start hD3 rfl) (fun k G _ p => SqL.of (p.1 _ _ hpv4)) ?_ ?_
    · rintro k z G5 _ hk p ⟨rfl, hz⟩
      obtain ⟨e, he, te⟩ := tpv.ofMap hz
      have te5 := te.k (TK.same ((g3.trans g4).trans p.1))
      have lc5 := lcat.keep p.1
      have hmem : e ∈ F.lk wd := List.mem_of_getElem? he
      obtain ⟨hix, hin⟩ := K74.net_idx e5 hmem
      rw [← htk] at hix hin
      obtain ⟨j1, j2⟩ := idxF linkD_inj hin
      refine ⟨rfl, lb, _, rfl, lc5, _, rfl, lb, z, _, _, _, rfl, rfl, lc5, te5, good_link e, good_links, j1, j2, ?_⟩
      refine p.put hD3 (Same.refl _) (.int _) ?_ (small1000 (by rw [List.length_map, List.length_take]; omega))
      rw [take_snoc he, List.map_append, List.map_singleton, ← hix]; rfl
    intro G5 p5
    rw [LcP, hpl, List.take_length] at p5
    obtain ⟨g5, lix⟩ := p5
    have lix : Lt G5 D3 ((F.rt wd).map natD) := by
      unfold K74.Four.rt
      rw [List.map_map]
      exact lix
    have gall := g1.trans (g2.trans (g3.trans (g4.trans g5)))
    have hd5 := gall _ _ hd0
    have hvn := val_new ra hw
    have hlen5 : ((K74.five.take i).map fun w => ((Sum.inr (wS w) : L2.Key), V.ref (ra w))).length < sizeLine := small1000 (by rw [List.length_map, List.length_take]; show min i 5 ≤ 1000; omega)
    refine ⟨_, rfl, _, rfl, rd, _, rfl, DPut.k (k := Sum.inr (wS wd)) hd5 hlen5, ?_⟩
    rw [putK_new _ hvn]
    have ntd : ∀ xs, G5 rd ≠ some (.tup xs) := fun xs z => by rw [hd5] at z; cases z
    have slne : sl ≠ rd := fun z => by rw [z, hrda] at hsv; cases hsv
    have lbne : ∀ {b : Addr} {ds : List PyData}, Lt G5 b ds → b ≠ rd := fun {b ds} h z => by
      obtain ⟨vs, e, _⟩ := h
      rw [z, hd5] at e; cases e
    have kp : ∀ {b : Addr} {ds : List PyData} {o : HO}, Lt G5 b ds → Lt (upd G5 rd o) b ds := fun {b ds o} h => by
      obtain ⟨vs, e, t⟩ := id h
      exact ⟨vs, by rw [upd_ne (lbne h)]; exact e, t.k (TK.put ntd)⟩
    refine ⟨lb, _, _, _, _, _, _, _, fun u => if u = wd then D3 else ra u, rfl, Same.put hrdH (g0.trans gall), ?_, tk0.trans ((TK.same gall).trans (TK.put ntd)), kp (lcat.keep g5), ?_, fun u hu => ?_⟩
    · rw [upd_ne slne]; exact gall _ _ hsl0
    · have e1 : (K74.five.take i).map (fun u => ((Sum.inr (wS u) : L2.Key), V.ref (if u = wd then D3 else ra u))) = (K74.five.take i).map fun u => ((Sum.inr (wS u) : L2.Key), V.ref (ra u)) :=
        List.map_congr_left fun u hu => by
          have : u ≠ wd := fun z => hnw (z ▸ hu)
          rw [if_neg this]
      have e2 : (if wd = wd then D3 else ra wd) = D3 := if_pos rfl
      rw [upd_same, htk, List.map_append, e1, List.map_singleton]
      show _ = some (HO.dK (_ ++ [(Sum.inr (wS wd), V.ref (if wd = wd then D3 else ra wd))]))
      rw [e2]
    · rw [htk] at hu
      show Lt _ (if u = wd then D3 else ra u) _ ∧ H (if u = wd then D3 else ra u) = none
      by_cases e : u = wd
      · subst e
        rw [if_pos rfl]
        exact ⟨kp lix, (g0.trans (g1.trans (g2.trans (g3.trans g4)))).free hD3⟩
      · rw [if_neg e]
        rcases List.mem_append.mp hu with z | z
        · exact ⟨kp ((hr0 u z).1.keep gall), (hr0 u z).2⟩
        · exact absurd (List.mem_singleton.mp z) e
  · rintro σ' G0 ⟨la', o4, o5, o6, o7, o8, o9, o10, ra, rfl, g0, hsl0, tk0, ll0, hd0, hr0⟩
    rw [hsvl] at ll0 hd0 hr0
    refine ⟨_, rfl, _, rfl, la', _, rfl, ll0, szl (by simp), fun p1 hp1 => ?_⟩
    have g1 : Same G0 (upd G0 p1 (.tup [.ref rd, .int (((F.net (K74.five.take 5)).map linkD).length : Nat)])) := same_new hp1
    refine q p1 rd _ (g0.trans g1) ?_ ⟨ra, ?_, fun u => ?_, fun u => (hr0 u (by cases u <;> decide)).2, hrdH⟩
    · rw [upd_same, List.length_map]; rfl
    · exact g1 _ _ hd0
    · exact (hr0 u (by cases u <;> decide)).1.keep g1
end
end KW
/-! K74: the program's ways -/
namespace KW
open L2 PySem PySem.Spec PyProof.Rows
theorem Up_take (x : K74.Path) (i : Nat) (h : i ≤ x.length + 1) : (List.range i).map (fun k => pathD (x.take (x.length - k))) = ((K74.Up x).take i).map pathD := by
  apply List.ext_getElem?
  intro j
  rw [List.getElem?_map, List.getElem?_map]
  rcases Nat.lt_or_ge j i with c | c
  · rw [List.getElem?_range c, List.getElem?_take_of_lt c, K74.Up_get (by omega)]; rfl
  · rw [List.getElem?_eq_none (by simpa using c), List.getElem?_eq_none (by rw [List.length_take]; omega)]; rfl
theorem Dn_from (y : K74.Path) (m i : Nat) (h : m + i ≤ y.length + 1) : (List.range i).map (fun k => pathD (y.take (m + k))) = (((K74.Dn y).drop m).take i).map pathD := by
  apply List.ext_getElem?
  intro j
  rw [List.getElem?_map, List.getElem?_map]
  rcases Nat.lt_or_ge j i with c | c
  · rw [List.getElem?_range c, List.getElem?_take_of_lt c, List.getElem?_drop, K74.Dn_get (by omega)]; rfl
  · rw [List.getElem?_eq_none (by simpa using c), List.getElem?_eq_none (by rw [List.length_take]; omega)]; rfl
section
variable {P : Program} {w : World} {K : PySem.W.Frag} {mg : Str → Option Value} {base : Heap} {f : Addr} {fd : FuncData}
/-! ### way_between -/
abbrev sBetween : Stmt := top 17
abbrev psBetween : List Str := ["one", "other"]
abbrev nsBetween : List Str := ["one", "other", "shared", "up", "size"]
theorem scBetween : FnScope nsBetween psBetween (defScope sBetween) := ⟨rfl, rfl, rfl, by decide +kernel, rfl, by decide +kernel, by decide +kernel⟩
theorem ok_between (D : DefAt K mg "way_between" sBetween psBetween f fd) (B : Blt mg) : FnOk P w K mg base CX0 1 f fd psBetween spWay := by
  refine D.F.ok scBetween (fun vs H Q E h => ?_) (fun cdv A outer s H vs Q E hr h => ?_)
  · obtain ⟨v1, v2, x, y, rfl, _⟩ := h
    rfl
  obtain ⟨v1, v2, x, y, rfl, h1, h2, hx, hy, q⟩ := h
  have nd := scBetween.nd
  have hs : sizeLine = 16777216 := sizeLine_eq
  refine ⟨_, pss_cons (ps_set (i := 2) nd rfl (Or.inl rfl) pe_int)
    (C8.pss_cut (ps_while PassesOwn.never (PW.pt (pw_and (pt_cmpR op_lt (pv 2) (pe_callB (call_min2 rfl) (by rfl) B.min (by decide +kernel) (pa_cons (pe_callB call_lenTD (by rfl) B.len PySem.boot_len (pa_cons (pv 0) pa_nil)) (pa_cons (pe_callB call_lenTD (by rfl) B.len PySem.boot_len (pa_cons (pv 1) pa_nil)) pa_nil))) (nomark _))
        (pw_and1 (pt_cmpR op_eq (pe_ix ix_TD (pv 0) (pv 2) (fun _ _ => rfl)) (pe_ix ix_TD (pv 1) (pv 2) (fun _ _ => rfl)) (nomark _)))))
      (pss_one (ps_aug (i := 2) nd rfl (.inl rfl) pe_int ip_add)))
    (pss_cons (ps_setLc (i := 3) (own := [("size", 4)]) (g := gName 4) rfl nd rfl rfl (sw_true rfl rfl rfl (by decide +kernel)) (pi_range3 (by rfl) B.range (pa_cons (pe_callB call_lenTD (by rfl) B.len PySem.boot_len (pa_cons (pv 0) pa_nil)) (pa_cons (pe_op op_sub (pv 2) pe_int) (pa_cons (pe_un un_neg pe_int) pa_nil))))
        (blkOk_by (N := nsBetween) (sc := defScope sBetween) (by decide +kernel)) (fun _ _ _ _ _ => pg_name (i := 4) nd rfl (Or.inl rfl)) (fun _ _ _ _ _ => pts_nil) (fun _ _ _ _ _ => pe_slice sl_TD (pv 0) po_none (po_some (pv 4))))
    (pss_one (ps_ret (pe_op op_catLt (pv 3) (pe_lc (own := [("size", 4)]) (g := gName 4) rfl nd (pi_range2 (by rfl) B.range (pa_cons (pe_op op_add (pv 2) pe_int) (pa_cons (pe_op op_add (pe_callB call_lenTD (by rfl) B.len PySem.boot_len (pa_cons (pv 1) pa_nil)) pe_int) pa_nil)))
        (blkOk_by (N := nsBetween) (sc := defScope sBetween) (by decide +kernel)) (fun _ _ _ _ _ => pg_name (i := 4) nd rfl (Or.inl rfl)) (fun _ _ _ _ _ => pts_nil) (fun _ _ _ _ _ => pe_slice sl_TD (pv 1) po_none (po_some (pv 4))))))))), ?_⟩
  have lU := K74.Up_len x
  have lD := K74.Dn_len y
  refine ⟨fun σ' H' => H' = H ∧ ∃ sh : Nat, σ' = [some v1, some v2, some (natV sh), none, none] ∧ K74.Meet x y sh, ⟨fun m σ' H' => H' = H ∧ ∃ sh : Nat, σ' = [some v1, some v2, some (natV sh), none, none] ∧ sh ≤ x.length ∧ sh ≤ y.length ∧ x.take sh = y.take sh ∧ m = x.length - sh,
    ⟨_, rfl, 0, rfl, Nat.zero_le _, Nat.zero_le _, rfl, rfl⟩, ?_⟩, ?_⟩
  · rintro m σ' H' ⟨rfl, sh, rfl, lx, ly, et, rfl⟩
    refine ⟨_, rfl, _, rfl, _, _, rfl, h1, _, rfl, _, _, rfl, h2, _, _, rfl, _, _, rfl, rfl, _, rfl, ?_⟩
    rw [List.length_map, List.length_map]
    by_cases c : sh < x.length ∧ sh < y.length
    · refine itY (decide_eq_true (by split <;> omega)) ?_
      have gx : (x.map natD)[sh]? = some (natD (x.getD sh 0)) := by rw [List.getElem?_map, List.getD_eq_getElem?_getD, List.getElem?_eq_getElem c.1]; rfl
      have gy : (y.map natD)[sh]? = some (natD (y.getD sh 0)) := by rw [List.getElem?_map, List.getD_eq_getElem?_getD, List.getElem?_eq_getElem c.2]; rfl
      refine ⟨_, rfl, _, rfl, _, _, _, h1, rfl, atI_nat gx, fun a1 b1 => ?_⟩
      obtain rfl := b1.invI
      refine ⟨_, rfl, _, rfl, _, _, _, h2, rfl, atI_nat gy, fun a2 b2 => ?_⟩
      obtain rfl := b2.invI
      refine ⟨rfl, _, rfl, ?_⟩
      have ex : x[sh]? = some (x.getD sh 0) := by rw [List.getD_eq_getElem?_getD, List.getElem?_eq_getElem c.1]; rfl
      have ey : y[sh]? = some (y.getD sh 0) := by rw [List.getD_eq_getElem?_getD, List.getElem?_eq_getElem c.2]; rfl
      by_cases e : x.getD sh 0 = y.getD sh 0
      · refine itY (decide_eq_true (by rw [e])) ?_
        refine ⟨fun σ' H'' => ∃ m', m' < x.length - sh ∧ (H'' = H' ∧ ∃ sh : Nat, σ' = [some v1, some v2, some (natV sh), none, none] ∧ sh ≤ x.length ∧ sh ≤ y.length ∧ x.take sh = y.take sh ∧ m' = x.length - sh), fun _ _ h => h, ?_⟩
        refine ⟨_, rfl, _, _, rfl, rfl, x.length - (sh + 1), by omega, rfl, sh + 1, rfl, by omega, by omega, ?_, rfl⟩
        rw [take_snoc ex, take_snoc ey, et, e]
      · refine itN (decide_eq_false fun z => e ?_) ⟨rfl, sh, rfl, ⟨lx, ly, et, .inr (.inr fun z => e ?_)⟩⟩
        · have : ((x.getD sh 0 : Nat) : Int) = (y.getD sh 0 : Nat) := by injection z
          omega
        · rw [ex, ey] at z
          exact Option.some.inj z
    · refine itN (decide_eq_false (by split <;> omega)) ⟨rfl, sh, rfl, ⟨lx, ly, et, ?_⟩⟩
      by_cases e : sh = x.length
      · exact .inl e
      · exact .inr (.inl (by omega))
  rintro σ' H' ⟨rfl, m, rfl, hM⟩
  have lx := hM.lx
  have ly := hM.ly
  -- up
  refine ⟨_, rfl, _, _, rfl, h1, _, rfl, _, _, rfl, rfl, _, rfl, _, _, _, _, rfl, RgC.neg (by rw [List.length_map]; omega) (by rw [List.length_map]; omega) (by omega) (by omega), fun D1 hD1 => ?_⟩
  rw [show (((x.map natD).length : Int) - ((m : Int) - 1)).toNat = x.length - m + 1 by rw [List.length_map]; omega]
  refine lc_it walk_rangeC (LcP H' D1 fun i => (List.range i).map fun k => pathD (x.take (x.length - k))) (LcP.start hD1 rfl) (fun _ _ _ _ => trivial) ?_ ?_
  · rintro i z H2 _ hi p ⟨rfl, hz⟩
    have ez : z = natV (x.length - i) := by
      rw [hz, List.length_map]
      show V.int _ = V.int _
      congr 1
      omega
    subst ez
    refine ⟨rfl, _, rfl, _, rfl, _, rfl, _, h1.k (TK.same p.1), fun v H3 s3 t3 => ?_⟩
    rw [cutD_to, ← List.map_take] at t3
    exact p.put hD1 s3 t3 (by rw [range_snoc, List.map_append]; rfl) (small1000 (by rw [List.length_map, List.length_range]; omega))
  intro H2 p2
  rw [LcP, Up_take x _ (by omega)] at p2
  obtain ⟨s2, l2⟩ := p2
  -- up + [..]
  refine ⟨_, rfl, _, rfl, _, _, rfl, rfl, _, rfl, _, _, rfl, h2.k (TK.same s2), _, _, rfl, rfl, _, _, rfl, ⟨by omega, by omega, by rw [List.length_map]; omega, by rw [List.length_map]; omega⟩, fun D2 hD2 => ?_⟩
  rw [show (((y.map natD).length : Int) + 1 - ((m : Int) + 1)).toNat = y.length - m by rw [List.length_map]; omega]
  refine lc_it walk_range (LcP H2 D2 fun i => (List.range i).map fun k => pathD (y.take (m + 1 + k))) (LcP.start hD2 rfl) (fun _ _ _ _ => trivial) ?_ ?_
  · rintro i z H3 _ hi p ⟨rfl, hz⟩
    have ez : z = natV (m + 1 + i) := by
      rw [hz]
      show V.int _ = V.int _
      congr 1
    subst ez
    refine ⟨rfl, _, rfl, _, rfl, _, rfl, _, h2.k (TK.same (s2.trans p.1)), fun v H4 s4 t4 => ?_⟩
    rw [cutD_to, ← List.map_take] at t4
    exact p.put hD2 s4 t4 (by rw [range_snoc, List.map_append]; rfl) (small1000 (by rw [List.length_map, List.length_range]; omega))
  intro H3 p3
  rw [LcP, Dn_from y _ _ (by omega)] at p3
  obtain ⟨s3, l3⟩ := p3
  refine ⟨D1, D2, _, _, rfl, rfl, l2.keep s3, l3, szl (by rw [List.length_map, List.length_map, List.length_take, List.length_take]; omega), fun p4 H4 hp4 s4 l4 => ?_⟩
  refine q p4 H4 ((s2.trans s3).free hp4) (s2.trans (s3.trans s4)) ?_
  rw [K74.way_prog hM, List.map_append]
  have e : ((K74.Dn y).drop (m + 1)).take (y.length - m) = (K74.Dn y).drop (m + 1) := List.take_of_length_le (by rw [List.length_drop]; omega)
  rw [e] at l4
  exact l4
end
end KW
/-! K74: where ways part, the last shared, forbidden -/
namespace KW
open L2 PySem PySem.Spec PyProof.Rows
section
variable {P : Program} {w : World} {K : PySem.W.Frag} {mg : Str → Option Value} {base : Heap} {f : Addr} {fd : FuncData}
/-! ### parting -/
abbrev sParting : Stmt := top 18
abbrev psParting : List Str := ["one", "other"]
abbrev nsParting : List Str := ["one", "other", "here", "there"]
def spParting : Sp := fun vs H Q _ => ∃ (a b : Addr) (l r : List K74.Path), vs = [.ref a, .ref b] ∧ Lt H a (l.map pathD) ∧ Lt H b (r.map pathD) ∧ l.length ≤ 1000 ∧ r.length ≤ 1000 ∧ ((l.zip r).filter fun p => p.1 == p.2) ≠ [] ∧
  ∀ v H', Same H H' → TD H' v (pathD (K74.parting l r)) → Q v H'
theorem scParting : FnScope nsParting psParting (defScope sParting) := ⟨rfl, rfl, rfl, by decide +kernel, rfl, by decide +kernel, by decide +kernel⟩
theorem ok_parting (D : DefAt K mg "parting" sParting psParting f fd) (B : Blt mg) : FnOk P w K mg base CX0 1 f fd psParting spParting := by
  refine D.F.ok scParting (fun vs H Q E h => ?_) (fun cdv A outer s H vs Q E hr h => ?_)
  · obtain ⟨a, b, l, r, rfl, _⟩ := h
    rfl
  obtain ⟨a, b, l, r, rfl, h1, h2, hl, hr', hne, q⟩ := h
  have nd := scParting.nd
  refine ⟨_, pss_one (ps_ret (pe_ix ix_Lt (pe_lc (own := [("here", 2), ("there", 3)]) (g := gTup K 2 (gCons (gName 2) (gCons (gName 3) gNil))) rfl nd (pi_zip (by rfl) B.zip (pa_cons (pv 0) (pa_cons (pv 1) pa_nil))) (blkOk_by (N := nsParting) (sc := defScope sParting) (by decide +kernel))
      (fun _ _ _ _ _ => pg_tup rfl (pgs_cons (pg_name (i := 2) nd rfl (Or.inl rfl)) (pgs_cons (pg_name (i := 3) nd rfl (Or.inl rfl)) pgs_nil))) (fun _ _ _ _ _ => pts_one (pt_cmpR (op_eqTD (hu64' hr)) (pv 2) (pv 3) (nomark _))) (fun _ _ _ _ _ => pv 2)) (pe_un un_neg pe_int) (fun _ _ => rfl))), ?_⟩
  obtain ⟨vs, hvs, tvs⟩ := id h1
  obtain ⟨ws, hws, tws⟩ := id h2
  have lv : vs.length = l.length := by rw [tvs.length, List.length_map]
  have lw : ws.length = r.length := by rw [tws.length, List.length_map]
  refine ⟨_, rfl, _, rfl, a, b, vs, ws, rfl, SqL.of hvs, SqL.of hws, fun D1 hD1 => ?_⟩
  refine lc_it (walk_zip (n := (l.zip r).length) (by rw [List.length_zip, lv, lw])) (LcP H D1 fun i => (((l.zip r).take i).filter fun p => p.1 == p.2).map fun p => pathD p.1) (LcP.start hD1 rfl) (fun i G _ p => ⟨SqL.of (p.1 _ _ hvs), SqL.of (p.1 _ _ hws)⟩) ?_ ?_
  · rintro i z H2 _ hi p ⟨T, x, y, rfl, hT, rfl, hx, hy⟩
    obtain ⟨u, hu, tu⟩ := tvs.ofMap hx
    obtain ⟨v, hv, tv⟩ := tws.ofMap hy
    have g1 : Same H2 (upd H2 T (.tup [x, y])) := same_new hT
    have pT := (show LcP H D1 _ i _ from p)
    have tu2 := tu.k (TK.same (p.1.trans g1))
    have tv2 := tv.k (TK.same (p.1.trans g1))
    have hz : (l.zip r)[i]? = some (u, v) := by rw [List.getElem?_zip_eq_some]; exact ⟨hu, hv⟩
    refine ⟨T, _, rfl, SqT.of upd_same, rfl, _, _, rfl, _, _, rfl, rfl, ?_⟩
    refine ⟨rfl, _, rfl, _, rfl, pathD u, pathD v, tu2, tv2, good_path u, good_path v, fun bb hbb => ⟨_, rfl, ?_⟩⟩
    have ht := take_snoc hz
    by_cases c : u = v
    · subst c
      refine itY (hbb.mpr rfl) ⟨_, rfl, p.put hD1 g1 tu2 ?_ ?_⟩
      · rw [ht, List.filter_append, List.filter_cons_of_pos (by simp), List.map_append]; rfl
      · rw [List.length_map]
        have h1 := List.length_filter_le (fun p : K74.Path × K74.Path => p.1 == p.2) ((l.zip r).take i)
        rw [List.length_take] at h1
        rw [List.length_zip] at hi
        exact small1000 (by omega)
    · have hb0 : bb = false := by cases bb with
        | true => exact absurd (pathD_inj _ _ (hbb.mp rfl)) c
        | false => rfl
      refine itN hb0 (p.skip g1 ?_)
      rw [ht, List.filter_append, List.filter_cons_of_neg (by simpa using c)]; simp
  · intro H2 p
    rw [LcP, List.take_length] at p
    refine ⟨1, rfl, D1, _, _, pathD (K74.parting l r), rfl, rfl, p.2, ?_, fun v tv => q v H2 p.1 tv⟩
    unfold K74.parting
    generalize (l.zip r).filter (fun p => p.1 == p.2) = fl at hne
    obtain ⟨fl', z, rfl⟩ : ∃ fl' z, fl = fl' ++ [z] := ⟨fl.dropLast, fl.getLast hne, (List.dropLast_concat_getLast hne).symm⟩
    rw [List.map_append, List.map_singleton, atI_last, List.map_append, List.map_singleton, List.getLastD_concat]
/-! ### last_shared -/
abbrev PaC (P : Program) (w : World) (K : PySem.W.Frag) (mg : Str → Option Value) (base : Heap) : Prop := Cal P w K mg base 1 "parting" psParting spParting
abbrev sShared : Stmt := top 19
abbrev psShared : List Str := ["to_data", "back", "start"]
abbrev nsShared : List Str := ["to_data", "back", "start", "ahead", "behind"]
/-- three places: the way from p to d, from f to c, the start -/
def spShared : Sp := fun vs H Q _ => ∃ (a b : Addr) (v : V) (p c d f : K74.Path), vs = [.ref a, .ref b, v] ∧ Lt H a ((K74.way p d).map pathD) ∧ Lt H b ((K74.way f c).map pathD) ∧ TD H v (pathD (K74.startOf p d f)) ∧ (K74.way p d).length ≤ 1000 ∧ (K74.way f c).length ≤ 1000 ∧
  ∀ v H', Same H H' → TD H' v (pathD (K74.lastOf p c d f)) → Q v H'
theorem scShared : FnScope nsShared psShared (defScope sShared) := ⟨rfl, rfl, rfl, by decide +kernel, rfl, by decide +kernel, by decide +kernel⟩
theorem way_zip_ne (z d c : K74.Path) : ((K74.way z d).zip (K74.way z c)).filter (fun p => p.1 == p.2) ≠ [] := by
  obtain ⟨t, e⟩ := K74.way_head z d
  obtain ⟨t', e'⟩ := K74.way_head z c
  rw [e, e', List.zip_cons_cons, List.filter_cons_of_pos (by simp)]
  exact List.cons_ne_nil _ _
theorem ok_shared (D : DefAt K mg "last_shared" sShared psShared f fd) (CP : PaC P w K mg base) : FnOk P w K mg base CX0 2 f fd psShared spShared := by
  refine D.F.ok scShared (fun vs H Q E h => ?_) (fun cdv A outer s H vs Q E hr h => ?_)
  · obtain ⟨a, b, v, p, c, d, f, rfl, _⟩ := h
    rfl
  obtain ⟨a, b, v, p, c, d, f, rfl, h1, h2, h3, n1, n2, q⟩ := h
  have nd := scShared.nd
  refine ⟨_, pss_cons (ps_set (i := 3) nd rfl (Or.inl rfl) (pe_slice sl_Lt (pv 0) (po_some (pe_bm PySem.F.plainAttrs_list PySem.F.slot_list_index PySem.F.type_list_index (mt_indexLt (hu64 hr)) (pv 0) (pa_cons (pv 2) pa_nil))) po_none))
    (pss_cons (ps_if (pt_cmpR (op_notInLt (hu64 hr)) (pv 2) (pv 1) rfl) (pss_one (ps_ret (pv 2))) pss_nil)
    (pss_cons (ps_set (i := 4) nd rfl (Or.inl rfl) (pe_slice sl_Lt (pv 1) (po_some (pe_bm PySem.F.plainAttrs_list PySem.F.slot_list_index PySem.F.type_list_index (mt_indexLt (hu64 hr)) (pv 1) (pa_cons (pv 2) pa_nil))) po_none))
    (pss_one (ps_ret (pe_cal CP hr rfl (pa_cons (pv 3) (pa_cons (pv 4) pa_nil))))))), ?_⟩
  have Pl := K74.places p c d f
  have elast : K74.lastOf p c d f = if K74.startOf p d f ∈ K74.way f c then K74.parting ((K74.way p d).drop ((K74.way p d).idxOf (K74.startOf p d f))) ((K74.way f c).drop ((K74.way f c).idxOf (K74.startOf p d f))) else K74.startOf p d f := rfl
  generalize K74.startOf p d f = z at h3 Pl elast
  have hz : z ∈ K74.way p d := K74.mem_way.mpr Pl.pd
  obtain ⟨i1, i2⟩ := idxF pathD_inj hz
  refine ⟨_, rfl, _, rfl, ⟨.inl ⟨rfl, _, SqL.of h1.choose_spec.1⟩, _, rfl, a, v, _, _, (K74.way p d).idxOf z, rfl, rfl, h1, h3, good_path _, good_paths, i1, i2, _, rfl, ?_⟩⟩
  refine ⟨a, _, rfl, h1, fun p1 H1 hp1 s1 l1 => ?_⟩
  rw [cutD_from, ← List.map_drop] at l1
  have h2' := h2.keep s1
  have h3' := h3.k (TK.same s1)
  refine ⟨_, rfl, _, rfl, b, _, _, rfl, h2', h3', good_path _, good_paths, fun bb hbb => ⟨_, rfl, ?_⟩⟩
  have hbb := hbb.trans (inj_mem pathD_inj)
  by_cases cz : z ∈ K74.way f c
  · refine itN (by rw [hbb.mpr cz]; rfl) ?_
    rw [if_pos cz] at elast
    obtain ⟨j1, j2⟩ := idxF pathD_inj cz
    refine ⟨_, rfl, _, rfl, ⟨.inl ⟨rfl, _, SqL.of h2'.choose_spec.1⟩, _, rfl, b, v, _, _, (K74.way f c).idxOf z, rfl, rfl, h2', h3', good_path _, good_paths, j1, j2, _, rfl, ?_⟩⟩
    refine ⟨b, _, rfl, h2', fun p2 H2 hp2 s2 l2 => ?_⟩
    rw [cutD_from, ← List.map_drop] at l2
    refine ⟨_, rfl, _, rfl, p1, p2, _, _, rfl, l1.keep s2, l2, by rw [List.length_drop]; omega, by rw [List.length_drop]; omega, ?_, fun u H3 s3 t3 => q u H3 (s1.trans (s2.trans s3)) ?_⟩
    · rw [K74.way_drop Pl.pd, K74.way_drop (K74.mem_way.mp cz)]
      exact way_zip_ne _ _ _
    · rw [elast]; exact t3
  · have hb0 : bb = false := by cases bb with
      | true => exact absurd (hbb.mp rfl) cz
      | false => rfl
    refine itY (by rw [hb0]; rfl) ⟨_, rfl, q v H1 s1 ?_⟩
    rw [elast, if_neg cz]
    exact h3'
end
end KW
/-! K74: trees; the law's places -/
namespace KW
open L2 PySem PySem.Spec PyProof.Rows
inductive Part where
  | none
  | dev (k : Nat)
  | bri (k : Nat) (ps : List Part)
def devN (k : Nat) : Str := ⟨#[97 + k]⟩
def briN (k : Nat) : Str := ⟨#[97 + k, 97 + k]⟩
mutual
def partD : Part → PyData
  | .none => .none
  | .dev k => .tuple [.str "device", .str (devN k), .tuple []]
  | .bri k ps => .tuple [.str "bridge", .str (briN k), .tuple [], .tuple (partsD ps)]
def partsD : List Part → List PyData
  | [] => []
  | p :: ps => partD p :: partsD ps
end
theorem partsD_map : ∀ ps : List Part, partsD ps = ps.map partD
  | [] => rfl
  | p :: ps => by rw [partsD, partsD_map ps]; rfl
def treeD (ps : List Part) : PyData := .tuple [.str "tree", .tuple [], .tuple (partsD ps)]
mutual
def szP : Part → Nat
  | .none => 1
  | .dev _ => 1
  | .bri _ ps => szL ps + 1
def szL : List Part → Nat
  | [] => 0
  | p :: ps => szP p + szL ps
end
mutual
def dpP : Part → Nat
  | .none => 0
  | .dev _ => 1
  | .bri _ ps => dpL ps + 1
def dpL : List Part → Nat
  | [] => 0
  | p :: ps => max (dpP p) (dpL ps)
end
mutual
/-- the numbers of the devices and bridges, in preorder -/
def idP : Part → List Nat
  | .none => []
  | .dev k => [k]
  | .bri k ps => k :: idL ps
def idL : List Part → List Nat
  | [] => []
  | p :: ps => idP p ++ idL ps
end
mutual
/-- the devices with their paths -/
def plP : Part → K74.Path → List (Nat × K74.Path)
  | .none, _ => []
  | .dev k, q => [(k, q)]
  | .bri _ ps, q => plL ps q 0
def plL : List Part → K74.Path → Nat → List (Nat × K74.Path)
  | [], _, _ => []
  | p :: ps, q, i => plP p (q ++ [i]) ++ plL ps q (i + 1)
end
mutual
/-- all devices and bridges with their paths, in preorder -/
def pcP : Part → K74.Path → List (K74.Path × Part)
  | .none, _ => []
  | .dev k, q => [(q, .dev k)]
  | .bri k ps, q => (q, .bri k ps) :: pcL ps q 0
def pcL : List Part → K74.Path → Nat → List (K74.Path × Part)
  | [], _, _ => []
  | p :: ps, q, i => pcP p (q ++ [i]) ++ pcL ps q (i + 1)
end
def placeD (x : Nat × K74.Path) : PyData := .tuple [.str (devN x.1), pathD x.2]
theorem len_sz : ∀ ps : List Part, ps.length ≤ szL ps
  | [] => Nat.le_refl _
  | p :: ps => by
    rw [szL, List.length_cons]
    have := len_sz ps
    have : 1 ≤ szP p := by cases p <;> simp [szP]
    omega
theorem sz_mem : ∀ {ps : List Part} {p : Part}, p ∈ ps → szP p ≤ szL ps
  | q :: ps, p, h => by
    rw [szL]
    rcases List.mem_cons.mp h with rfl | h
    · omega
    · have := sz_mem h; omega
theorem dp_mem : ∀ {ps : List Part} {p : Part}, p ∈ ps → dpP p ≤ dpL ps
  | q :: ps, p, h => by
    rw [dpL]
    rcases List.mem_cons.mp h with rfl | h
    · omega
    · have := dp_mem h; omega
mutual
theorem plP_len : ∀ (p : Part) (q : K74.Path), (plP p q).length ≤ szP p
  | .none, _ => by simp [plP]
  | .dev _, _ => by simp [plP, szP]
  | .bri _ ps, q => by rw [plP, szP]; have := plL_len ps q 0; omega
theorem plL_len : ∀ (ps : List Part) (q : K74.Path) (i : Nat), (plL ps q i).length ≤ szL ps
  | [], _, _ => by simp [plL]
  | p :: ps, q, i => by
    rw [plL, szL, List.length_append]
    have := plP_len p (q ++ [i])
    have := plL_len ps q (i + 1)
    omega
end
/-- place by place: the first n parts -/
theorem plL_snoc : ∀ (ps : List Part) (p : Part) (q : K74.Path) (i : Nat), plL (ps ++ [p]) q i = plL ps q i ++ plP p (q ++ [i + ps.length])
  | [], p, q, i => by simp [plL]
  | r :: ps, p, q, i => by
    rw [List.cons_append, plL, plL, plL_snoc ps p q (i + 1), List.append_assoc, List.length_cons, show i + 1 + ps.length = i + (ps.length + 1) by omega]
theorem szL_append : ∀ (ps qs : List Part), szL (ps ++ qs) = szL ps + szL qs
  | [], qs => by simp [szL]
  | p :: ps, qs => by rw [List.cons_append, szL, szL, szL_append ps qs]; omega
theorem plL_take_len {ps : List Part} {q : K74.Path} {i : Nat} (j : Nat) : (plL (ps.take j) q i).length ≤ szL ps := by
  have := plL_len (ps.take j) q i
  have h := szL_append (ps.take j) (ps.drop j)
  rw [List.take_append_drop] at h
  omega
theorem none_sp {P : Program} {w : World} {K : PySem.W.Frag} {mg : Str → Option Value} {base : Heap} {f : Addr} {fd : FuncData} {ps : List Str} {sp : Sp} (no : ∀ vs H Q E, ¬ sp vs H Q E) : FnOk P w K mg base CX0 0 f fd ps sp :=
  ⟨fun vs H Q E h => absurd h (no vs H Q E), fun A outer s H args us vs Q E _ _ _ _ h => absurd h (no vs H Q E)⟩
section
variable {P : Program} {w : World} {K : PySem.W.Frag} {mg : Str → Option Value} {base : Heap} {f : Addr} {fd : FuncData}
abbrev sPlaces : Stmt := top 27
abbrev psPlaces : List Str := ["_law_parts", "_law_path"]
abbrev nsPlaces : List Str := ["_law_parts", "_law_path", "_law_found", "_law_slot", "_law_part_here"]
def spPlaces (n : Nat) : Sp := fun vs H Q _ => ∃ (v1 v2 : V) (ps : List Part) (q : K74.Path), vs = [v1, v2] ∧ TD H v1 (.tuple (partsD ps)) ∧ TD H v2 (pathD q) ∧ dpL ps < n ∧ szL ps ≤ 1000 ∧ q.length + dpL ps ≤ 1000 ∧
  ∀ p H', H p = none → Same H H' → Lt H' p ((plL ps q 0).map placeD) → Q (.ref p) H'
theorem scPlaces : FnScope nsPlaces psPlaces (defScope sPlaces) := ⟨rfl, rfl, rfl, by decide +kernel, rfl, by decide +kernel, by decide +kernel⟩
theorem ok_places_step {n : Nat} (D : DefAt K mg "_law_places" sPlaces psPlaces f fd) (B : Blt mg) (C : Cal P w K mg base n "_law_places" psPlaces (spPlaces n)) : FnOk P w K mg base CX0 (n + 1) f fd psPlaces (spPlaces (n + 1)) := by
  refine D.F.ok scPlaces (fun vs H Q E h => ?_) (fun cdv A outer s H vs Q E hr h => ?_)
  · obtain ⟨v1, v2, ps, q, rfl, _⟩ := h
    rfl
  obtain ⟨v1, v2, ps, qp, rfl, h1, h2, hdp, hsz, hql, q⟩ := h
  have nd := scPlaces.nd
  refine ⟨_, pss_cons (ps_set (i := 2) nd rfl (Or.inl rfl) (pe_lt pa_nil))
    (pss_cons (ps_for PassesOwn.never rfl (pi_range1 (by rfl) B.range (pa_cons (pe_callB call_lenTD (by rfl) B.len PySem.boot_len (pa_cons (pv 0) pa_nil)) pa_nil)) (pg_name (i := 3) nd rfl (Or.inl rfl))
      (pss_cons (ps_set (i := 4) nd rfl (Or.inl rfl) (pe_ix ix_TD (pv 0) (pv 3) (fun _ _ => rfl)))
      (pss_one (ps_if (PW.pt (pw_and (pt_cmp (pc_notN (pv 4))) (pw_and1 (pt_cmpR op_eq (pe_ix ix_TD (pv 4) pe_int (fun _ _ => rfl)) pe_str (nomark _)))))
        (pss_one (ps_expr (pe_bm PySem.F.plainAttrs_list PySem.F.slot_list_append PySem.F.type_list_append mt_append (pv 2) (pa_cons (pe_td (pa_cons (pe_ix ix_TD (pv 4) pe_int (fun _ _ => rfl)) (pa_cons (pe_op op_catTD (pv 1) (pe_td (pa_cons (pv 3) pa_nil))) pa_nil))) pa_nil))))
        (pss_one (ps_if (pt_cmp (pc_notN (pv 4)))
          (pss_one (ps_set (i := 2) nd rfl (Or.inl rfl) (pe_op op_catLt (pv 2) (pe_cal C hr rfl (pa_cons (pe_ix ix_TD (pv 4) pe_int (fun _ _ => rfl)) (pa_cons (pe_op op_catTD (pv 1) (pe_td (pa_cons (pv 3) pa_nil))) pa_nil)))))) pss_nil))))))
    (pss_one (ps_ret (pv 2)))), ?_⟩
  have hlen := len_sz ps
  have hpl : (partsD ps).length = ps.length := by rw [partsD_map, List.length_map]
  refine ⟨_, .nil, szl (by simp), fun p0 H1 hp0 s1 l1 => ?_⟩
  refine ⟨_, rfl, _, _, rfl, h1.k (TK.same s1), _, rfl, by omega, by rw [hpl]; omega, ?_⟩
  rw [Int.toNat_natCast, hpl]
  refine for_range (lo := 0) (n := ps.length) (fun i σ' H' => ∃ (p : Addr) (o3 o4 : Option V), σ' = [some v1, some v2, some (.ref p), o3, o4] ∧ H p = none ∧ Same H H' ∧ Lt H' p ((plL (ps.take i) qp 0).map placeD)) ⟨p0, _, _, rfl, hp0, s1, l1⟩ ?_ ?_
  · rintro i σ' H2 hi ⟨p, o3, o4, rfl, hp, s2, l2⟩
    rw [z_nat]
    have h1' := h1.k (TK.same s2)
    have h2' := h2.k (TK.same s2)
    have ei : ps[i]? = some ps[i] := List.getElem?_eq_getElem hi
    have hmem : ps[i] ∈ ps := List.getElem_mem hi
    have htk := take_snoc ei
    have hsn : plL (ps.take (i + 1)) qp 0 = plL (ps.take i) qp 0 ++ plP ps[i] (qp ++ [i]) := by
      rw [htk, plL_snoc, List.length_take, Nat.min_eq_left (by omega), Nat.zero_add]
    have hpd : (partsD ps)[i]? = some (partD ps[i]) := by rw [partsD_map, List.getElem?_map, ei]; rfl
    have hsz1 := sz_mem hmem
    have hdp1 := dp_mem hmem
    have hl1 := plL_take_len (ps := ps) (q := qp) (i := 0) i
    refine ⟨_, rfl, _, rfl, _, _, _, h1', rfl, atI_nat hpd, fun pv' tp => ?_⟩
    generalize ps[i] = pt at hsn tp hsz1 hdp1
    cases pt with
    | none =>
      rw [partD] at tp
      obtain rfl := tp.invN
      refine ⟨_, rfl, _, rfl, ?_⟩
      refine itN (by decide) (itN rfl ⟨_, rfl, _, rfl, itN (by decide) ⟨p, _, _, rfl, hp, s2, ?_⟩⟩)
      rw [hsn, plP, List.append_nil]
      exact l2
    | dev k =>
      rw [partD] at tp
      obtain ⟨pa, pvs, rfl, hpa, tpv⟩ := tp.inv
      refine ⟨_, rfl, _, rfl, ?_⟩
      refine itY (by rw [decide_eq_false (fun z => nomatch z)]; rfl) ?_
      refine ⟨_, rfl, _, 0, _, tp, rfl, atI_nat (j := 0) rfl, fun v0 t0 => ?_⟩
      obtain rfl := t0.invS
      refine ⟨rfl, _, rfl, itY (by decide +kernel) ?_⟩
      obtain ⟨fvs, hf, tf⟩ := l2
      refine ⟨_, rfl, ⟨.inl ⟨rfl, _, SqL.of hf⟩, ?_⟩⟩
      refine ⟨_, rfl, _, 1, _, tp, rfl, atI_nat (j := 1) rfl, fun v1 t1 => ?_⟩
      refine ⟨_, rfl, _, rfl, _, TDs.one (.int _), szl (by simp), fun v3 H3 s3 t3 => ?_⟩
      refine ⟨_, _, h2'.k (TK.same s3), t3, szl (by rw [List.length_map, List.length_singleton]; omega), fun v4 H4 s4 t4 => ?_⟩
      refine ⟨_, .cons (t1.k (TK.same (s3.trans s4))) (TDs.one t4), szl (by simp), fun v5 H5 s5 t5 => ?_⟩
      have sA := s3.trans (s4.trans s5)
      have hf5 := sA _ _ hf
      refine ⟨p, fvs, v5, rfl, rfl, hf5, by rw [tf.length, List.length_map]; exact small1000 (by omega), ?_⟩
      have nt : ∀ xs, H5 p ≠ some (.tup xs) := fun xs z => by rw [hf5] at z; cases z
      refine ⟨p, _, _, rfl, hp, Same.put hp (s2.trans sA), fvs ++ [v5], upd_same, ?_⟩
      rw [hsn, plP, List.map_append, List.map_singleton]
      have ed : placeD (k, qp ++ [i]) = .tuple [.str (devN k), .tuple (qp.map natD ++ [.int ((i : Nat) : Int)])] := by
        unfold placeD pathD
        rw [List.map_append]; rfl
      rw [ed]
      exact ((tf.k (TK.same sA)).append (TDs.one t5)).k (TK.put nt)
    | bri k qs =>
      rw [partD] at tp
      obtain ⟨pa, pvs, rfl, hpa, tpv⟩ := tp.inv
      refine ⟨_, rfl, _, rfl, ?_⟩
      refine itY (by rw [decide_eq_false (fun z => nomatch z)]; rfl) ?_
      refine ⟨_, rfl, _, 0, _, tp, rfl, atI_nat (j := 0) rfl, fun v0 t0 => ?_⟩
      obtain rfl := t0.invS
      refine ⟨rfl, _, rfl, itN (by decide +kernel) ?_⟩
      refine ⟨_, rfl, _, rfl, itY (by rw [decide_eq_false (fun z => nomatch z)]; rfl) ?_⟩
      refine ⟨_, rfl, _, rfl, _, 3, _, tp, rfl, atI_nat (j := 3) rfl, fun v1 t1 => ?_⟩
      refine ⟨_, rfl, _, rfl, _, TDs.one (.int _), szl (by simp), fun v3 H3 s3 t3 => ?_⟩
      refine ⟨_, _, h2'.k (TK.same s3), t3, szl (by rw [List.length_map, List.length_singleton]; omega), fun v4 H4 s4 t4 => ?_⟩
      have t4 : TD H4 v4 (pathD (qp ++ [i])) := by
        unfold pathD
        rw [List.map_append]
        exact t4
      rw [szP] at hsz1
      rw [dpP] at hdp1
      refine ⟨v1, v4, qs, qp ++ [i], rfl, t1.k (TK.same (s3.trans s4)), t4, by omega, by omega, by rw [List.length_append, List.length_singleton]; omega, fun p5 H5 hp5 s5 l5 => ?_⟩
      have sA := s3.trans (s4.trans s5)
      have hl5 := plL_len qs (qp ++ [i]) 0
      refine ⟨p, p5, _, _, rfl, rfl, l2.keep sA, l5, szl (by rw [List.length_map, List.length_map]; omega), fun p6 H6 hp6 s6 l6 => ?_⟩
      have sB := s2.trans sA
      refine ⟨p6, _, _, rfl, sB.free hp6, sB.trans s6, ?_⟩
      rw [hsn, plP, List.map_append]
      exact l6
  · rintro σ' H2 ⟨p, o3, o4, rfl, hp, s2, l2⟩
    rw [List.take_length] at l2
    exact ⟨_, rfl, q p H2 hp s2 l2⟩
theorem ok_places (D : DefAt K mg "_law_places" sPlaces psPlaces f fd) (B : Blt mg) : ∀ n, FnOk P w K mg base CX0 n f fd psPlaces (spPlaces n)
  | 0 => none_sp fun vs H Q E h => by
    obtain ⟨_, _, _, _, _, _, _, h, _⟩ := h
    omega
  | n + 1 => ok_places_step D B (D.cal (ok_places D B n))
end
end KW
/-! K74: the program's trees: is_integer, has_form, is_device, parts_of, part_at -/
namespace KW
open L2 PySem PySem.Spec PyProof.Rows
/-- a part's own parts -/
def kids : Part → List Part
  | .bri _ ps => ps
  | _ => []
/-- a tree or a part, with its parts -/
def Nd (d : PyData) (ps : List Part) : Prop := (∃ p, d = partD p ∧ ps = kids p) ∨ d = treeD ps
/-- down a path -/
inductive Go : PyData → K74.Path → PyData → Prop
  | nil (d : PyData) : Go d [] d
  | cons {d e : PyData} {ps : List Part} {i : Nat} {p : Part} {q : K74.Path} : Nd d ps → ps[i]? = some p → ps.length ≤ 1000 → Go (partD p) q e → Go d (i :: q) e
mutual
theorem go_P : ∀ (p : Part) (q q' : K74.Path) (pt : Part), szP p ≤ 1000 → (q', pt) ∈ pcP p q → ∃ r, q' = q ++ r ∧ Go (partD p) r (partD pt)
  | .none, q, q', pt, _, h => by rw [pcP] at h; exact nomatch h
  | .dev k, q, q', pt, _, h => by
    rw [pcP, List.mem_singleton] at h
    cases h
    exact ⟨[], (List.append_nil _).symm, .nil _⟩
  | .bri k ps, q, q', pt, hz, h => by
    rw [pcP] at h
    rw [szP] at hz
    rcases List.mem_cons.mp h with h | h
    · cases h
      exact ⟨[], (List.append_nil _).symm, .nil _⟩
    · obtain ⟨j, r, p, e1, e2, g⟩ := go_L ps q 0 q' pt (by omega) h
      have := len_sz ps
      refine ⟨j :: r, by rw [e1, Nat.zero_add], .cons (.inl ⟨_, rfl, rfl⟩) e2 (by show ps.length ≤ 1000; omega) g⟩
theorem go_L : ∀ (ps : List Part) (q : K74.Path) (i : Nat) (q' : K74.Path) (pt : Part), szL ps ≤ 1000 → (q', pt) ∈ pcL ps q i → ∃ j r p, q' = q ++ (i + j) :: r ∧ ps[j]? = some p ∧ Go (partD p) r (partD pt)
  | [], q, i, q', pt, _, h => by rw [pcL] at h; exact nomatch h
  | p :: ps, q, i, q', pt, hz, h => by
    rw [pcL] at h
    rw [szL] at hz
    rcases List.mem_append.mp h with h | h
    · obtain ⟨r, e, g⟩ := go_P p (q ++ [i]) q' pt (by omega) h
      refine ⟨0, r, p, by rw [e, List.append_assoc]; rfl, rfl, g⟩
    · obtain ⟨j, r, p', e1, e2, g⟩ := go_L ps q (i + 1) q' pt (by omega) h
      exact ⟨j + 1, r, p', by rw [e1, show i + 1 + j = i + (j + 1) by omega], e2, g⟩
end
theorem dev_yes : (decide (2 + 1 = 3) && decide (Str.ofString "device" = Str.ofString "device")) = true := by decide +kernel
theorem bri_no : (decide (3 + 1 = 3) && decide (Str.ofString "bridge" = Str.ofString "device")) = false := by decide +kernel
theorem tree_no : (decide (2 + 1 = 3) && decide (Str.ofString "tree" = Str.ofString "device")) = false := by decide +kernel
section
variable {P : Program} {w : World} {K : PySem.W.Frag} {mg : Str → Option Value} {base : Heap} {f : Addr} {fd : FuncData}
/-! ### is_integer -/
abbrev sInt : Stmt := top 4
abbrev psInt : List Str := ["value", "low", "high"]
def spInt : Sp := fun vs H Q _ => ∃ (i a b : Int), vs = [.int i, .int a, .int b] ∧ Q (.bl (decide (a ≤ i) && decide (i ≤ b))) H
theorem scInt : FnScope psInt psInt (defScope sInt) := ⟨rfl, rfl, rfl, by decide +kernel, rfl, by decide +kernel, by decide +kernel⟩
theorem ok_int (D : DefAt K mg "is_integer" sInt psInt f fd) (B : Blt mg) : FnOk P w K mg base CX0 1 f fd psInt spInt := by
  refine D.F.ok scInt (fun vs H Q E h => ?_) (fun cdv A outer s H vs Q E hr h => ?_)
  · obtain ⟨i, a, b, rfl, _⟩ := h
    rfl
  obtain ⟨i, a, b, rfl, q⟩ := h
  refine ⟨_, pss_one (ps_ret (pe_and (pe_callB call_isi (by rfl) B.isinstance PyProof.Rows.boot_isinstance (pa_cons (pv 0) (pa_cons (pe_bltn (by rfl) B.int PyProof.Rows.boot_int (v := .ty "int") rfl) pa_nil)))
    (pe_and (pe_not (pe_callB call_isi (by rfl) B.isinstance PyProof.Rows.boot_isinstance (pa_cons (pv 0) (pa_cons (pe_bltn (by rfl) B.bool PyProof.Rows.boot_bool (v := .ty "bool") rfl) pa_nil))))
      (pe_one (pe_chain op_le op_le (pv 1) (pv 0) (pv 2)))))), ?_⟩
  refine ⟨_, rfl, _, _, _, _, true, rfl, .ty _, .base (.int i), kit_ty (by decide +kernel), _, rfl, itY rfl ?_⟩
  refine ⟨_, rfl, _, _, _, _, false, rfl, .ty _, .base (.int i), kit_ty (by decide +kernel), _, rfl, _, rfl, itY rfl ?_⟩
  refine ⟨_, rfl, _, rfl, _, _, rfl, rfl, _, rfl, ?_⟩
  by_cases c : a ≤ i
  · refine itY (decide_eq_true c) ⟨_, rfl, _, _, rfl, rfl, ?_⟩
    rw [decide_eq_true c] at q
    exact q
  · refine itN (decide_eq_false c) ?_
    rw [decide_eq_false c] at q
    exact q
/-! ### has_form -/
abbrev sForm : Stmt := top 6
abbrev psForm : List Str := ["value", "word", "many"]
def spForm : Sp := fun vs H Q _ => ∃ (v : V) (x t : Str) (m : Nat) (ds : List PyData), vs = [v, .str x, natV m] ∧ TD H v (.tuple (.str t :: ds)) ∧ ds.length ≤ 1000 ∧ Q (.bl (decide (ds.length + 1 = m) && decide (t = x))) H
theorem scForm : FnScope psForm psForm (defScope sForm) := ⟨rfl, rfl, rfl, by decide +kernel, rfl, by decide +kernel, by decide +kernel⟩
theorem ok_form (D : DefAt K mg "has_form" sForm psForm f fd) (B : Blt mg) : FnOk P w K mg base CX0 1 f fd psForm spForm := by
  refine D.F.ok scForm (fun vs H Q E h => ?_) (fun cdv A outer s H vs Q E hr h => ?_)
  · obtain ⟨v, x, t, m, ds, rfl, _⟩ := h
    rfl
  obtain ⟨v, x, t, m, ds, rfl, h1, hl, q⟩ := h
  refine ⟨_, pss_one (ps_ret (pe_and (pe_callB call_isi (by rfl) B.isinstance PyProof.Rows.boot_isinstance (pa_cons (pv 0) (pa_cons (pe_bltn (by rfl) B.tuple PyProof.Rows.boot_tuple (v := .ty "tuple") rfl) pa_nil)))
    (pe_and (pe_cmpR op_eq (pe_callB call_lenTD (by rfl) B.len PySem.boot_len (pa_cons (pv 0) pa_nil)) (pv 2) (nomark _))
    (pe_and (pe_callB call_isi (by rfl) B.isinstance PyProof.Rows.boot_isinstance (pa_cons (pe_ix ix_TD (pv 0) pe_int (fun _ _ => rfl)) (pa_cons (pe_bltn (by rfl) B.str PyProof.Rows.boot_str (v := .ty "str") rfl) pa_nil)))
      (pe_one (pe_cmpR op_eq (pe_ix ix_TD (pv 0) pe_int (fun _ _ => rfl)) (pv 1) (nomark _))))))), ?_⟩
  obtain ⟨a, vs, rfl, ha, tvs⟩ := id h1.inv
  refine ⟨_, rfl, _, _, _, _, true, rfl, .ty _, .base (.tup ha), kit_ty (by decide +kernel), _, rfl, itY rfl ?_⟩
  refine ⟨_, rfl, _, _, rfl, h1, _, rfl, rfl, _, rfl, ?_⟩
  have e1 : (V.int (((PyData.str t :: ds).length : Nat) : Int) = natV m) ↔ ds.length + 1 = m := by
    unfold natV
    rw [V.int.injEq, List.length_cons]; omega
  by_cases c : ds.length + 1 = m
  · refine itY (decide_eq_true (e1.mpr c)) ?_
    refine ⟨_, rfl, _, 0, _, h1, rfl, atI_nat (j := 0) rfl, fun v0 t0 => ?_⟩
    obtain rfl := t0.invS
    refine ⟨_, _, _, _, true, rfl, .ty _, .base (.str t), kit_ty (by decide +kernel), _, rfl, itY rfl ?_⟩
    refine ⟨_, rfl, _, 0, _, h1, rfl, atI_nat (j := 0) rfl, fun v0 t0 => ?_⟩
    obtain rfl := t0.invS
    refine ⟨_, rfl, rfl, ?_⟩
    rw [decide_eq_true c, Bool.true_and] at q
    have e2 : decide (V.str t = V.str x) = decide (t = x) := by simp
    show Q (.bl (decide (V.str t = V.str x))) H
    rw [e2]
    exact q
  · refine itN (decide_eq_false (fun z => c (e1.mp z))) ?_
    rw [decide_eq_false c, Bool.false_and] at q
    exact q
/-! ### is_device -/
abbrev FmC (P : Program) (w : World) (K : PySem.W.Frag) (mg : Str → Option Value) (base : Heap) : Prop := Cal P w K mg base 1 "has_form" psForm spForm
abbrev sDev : Stmt := top 7
abbrev psDev : List Str := ["part"]
def spDev : Sp := fun vs H Q _ => ∃ (v : V) (t : Str) (ds : List PyData), vs = [v] ∧ TD H v (.tuple (.str t :: ds)) ∧ ds.length ≤ 1000 ∧ Q (.bl (decide (ds.length + 1 = 3) && decide (t = "device"))) H
theorem scDev : FnScope psDev psDev (defScope sDev) := ⟨rfl, rfl, rfl, by decide +kernel, rfl, by decide +kernel, by decide +kernel⟩
theorem ok_dev (D : DefAt K mg "is_device" sDev psDev f fd) (C : FmC P w K mg base) : FnOk P w K mg base CX0 2 f fd psDev spDev := by
  refine D.F.ok scDev (fun vs H Q E h => ?_) (fun cdv A outer s H vs Q E hr h => ?_)
  · obtain ⟨v, t, ds, rfl, _⟩ := h
    rfl
  obtain ⟨v, t, ds, rfl, h1, hl, q⟩ := h
  refine ⟨_, pss_one (ps_ret (pe_cal C hr rfl (pa_cons (pv 0) (pa_cons pe_str (pa_cons pe_int pa_nil))))), ?_⟩
  exact ⟨_, rfl, v, "device", t, 3, ds, rfl, h1, hl, q⟩
/-! ### parts_of -/
abbrev DvC (P : Program) (w : World) (K : PySem.W.Frag) (mg : Str → Option Value) (base : Heap) : Prop := Cal P w K mg base 2 "is_device" psDev spDev
abbrev sPof : Stmt := top 8
def spPof : Sp := fun vs H Q _ => ∃ (v : V) (d : PyData) (ps : List Part), vs = [v] ∧ TD H v d ∧ Nd d ps ∧ ∀ v' H', Same H H' → TD H' v' (.tuple (partsD ps)) → Q v' H'
theorem scPof : FnScope psDev psDev (defScope sPof) := ⟨rfl, rfl, rfl, by decide +kernel, rfl, by decide +kernel, by decide +kernel⟩
theorem ok_pof (D : DefAt K mg "parts_of" sPof psDev f fd) (C : DvC P w K mg base) : FnOk P w K mg base CX0 3 f fd psDev spPof := by
  refine D.F.ok scPof (fun vs H Q E h => ?_) (fun cdv A outer s H vs Q E hr h => ?_)
  · obtain ⟨v, d, ps, rfl, _⟩ := h
    rfl
  obtain ⟨v, d, ps, rfl, h1, hn, q⟩ := h
  refine ⟨_, pss_one (ps_ret (pe_ifExp (PW.pt (pw_or (pt_cmp (pc_isN (pv 0))) (pw_or1 (pt_val (pe_cal C hr rfl (pa_cons (pv 0) pa_nil)))))) (pe_td pa_nil) (pe_ix ix_TD (pv 0) (pe_un un_neg pe_int) (fun _ _ => rfl)))), ?_⟩
  refine ⟨_, rfl, _, rfl, ?_⟩
  rcases hn with ⟨p, rfl, rfl⟩ | rfl
  · cases p with
    | none =>
      obtain rfl := (show TD H v .none from h1).invN
      exact itY (by decide) (itY rfl ⟨_, .nil, szl (by simp), fun v1 H1 s1 t1 => q v1 H1 s1 t1⟩)
    | dev k =>
      rw [partD] at h1
      obtain ⟨a, vs, rfl, ha, tvs⟩ := id h1.inv
      refine itN (by rw [decide_eq_false (fun z => nomatch z)]) ⟨_, rfl, _, _, _, rfl, h1, by simp, _, rfl, itY dev_yes ⟨_, .nil, szl (by simp), fun v1 H1 s1 t1 => q v1 H1 s1 t1⟩⟩
    | bri k qs =>
      rw [partD] at h1
      obtain ⟨a, vs, rfl, ha, tvs⟩ := id h1.inv
      refine itN (by rw [decide_eq_false (fun z => nomatch z)]) ⟨_, rfl, _, _, _, rfl, h1, by simp, _, rfl, itN bri_no ?_⟩
      refine ⟨_, rfl, _, rfl, _, _, _, h1, rfl, rfl, fun v' t' => q v' H (Same.refl H) t'⟩
  · rw [treeD] at h1
    obtain ⟨a, vs, rfl, ha, tvs⟩ := id h1.inv
    refine itN (by rw [decide_eq_false (fun z => nomatch z)]) ⟨_, rfl, _, _, _, rfl, h1, by simp, _, rfl, itN tree_no ?_⟩
    refine ⟨_, rfl, _, rfl, _, _, _, h1, rfl, rfl, fun v' t' => q v' H (Same.refl H) t'⟩
/-! ### part_at -/
abbrev PoC (P : Program) (w : World) (K : PySem.W.Frag) (mg : Str → Option Value) (base : Heap) : Prop := Cal P w K mg base 3 "parts_of" psDev spPof
abbrev InC (P : Program) (w : World) (K : PySem.W.Frag) (mg : Str → Option Value) (base : Heap) : Prop := Cal P w K mg base 1 "is_integer" psInt spInt
abbrev sAt : Stmt := top 9
abbrev psAt : List Str := ["tree", "path"]
abbrev nsAt : List Str := ["tree", "path", "part", "slot", "parts"]
def spAt : Sp := fun vs H Q _ => ∃ (v1 v2 : V) (d e : PyData) (q : K74.Path), vs = [v1, v2] ∧ TD H v1 d ∧ TD H v2 (pathD q) ∧ Go d q e ∧ ∀ v H', Same H H' → TD H' v e → Q v H'
theorem scAt : FnScope nsAt psAt (defScope sAt) := ⟨rfl, rfl, rfl, by decide +kernel, rfl, by decide +kernel, by decide +kernel⟩
theorem ok_at (D : DefAt K mg "part_at" sAt psAt f fd) (B : Blt mg) (CP : PoC P w K mg base) (CI : InC P w K mg base) : FnOk P w K mg base CX0 4 f fd psAt spAt := by
  refine D.F.ok scAt (fun vs H Q E h => ?_) (fun cdv A outer s H vs Q E hr h => ?_)
  · obtain ⟨v1, v2, d, e, q, rfl, _⟩ := h
    rfl
  obtain ⟨v1, v2, d, e, qp, rfl, h1, h2, hg, q⟩ := h
  have nd := scAt.nd
  refine ⟨_, pss_cons (ps_if (pt_not (pt_val (pe_callB call_isi (by rfl) B.isinstance PyProof.Rows.boot_isinstance (pa_cons (pv 1) (pa_cons (pe_bltn (by rfl) B.tuple PyProof.Rows.boot_tuple (v := .ty "tuple") rfl) pa_nil))))) pss_never pss_nil)
    (pss_cons (ps_set (i := 2) nd rfl (Or.inl rfl) (pv 0))
    (pss_cons (ps_for PassesOwn.never rfl (pi_tup (pv 1)) (pg_name (i := 3) nd rfl (Or.inl rfl))
      (pss_cons (ps_set (i := 4) nd rfl (Or.inl rfl) (pe_cal CP hr rfl (pa_cons (pv 2) pa_nil)))
      (pss_cons (ps_if (pt_not (pt_val (pe_cal CI (hr.mono (by decide)) rfl (pa_cons (pv 3) (pa_cons pe_int (pa_cons (pe_op op_sub (pe_callB call_lenTD (by rfl) B.len PySem.boot_len (pa_cons (pv 4) pa_nil)) pe_int) pa_nil)))))) pss_never pss_nil)
      (pss_one (ps_set (i := 2) nd rfl (Or.inl rfl) (pe_ix ix_TD (pv 4) (pv 3) (fun _ _ => rfl)))))))
    (pss_one (ps_ret (pv 2))))), ?_⟩
  obtain ⟨a, vs, rfl, ha, tvs⟩ := id h2.inv
  have hlen : vs.length = qp.length := by rw [tvs.length, List.length_map]
  refine ⟨_, rfl, _, _, _, _, true, rfl, .ty _, .base (.tup ha), kit_ty (by decide +kernel), _, rfl, itN rfl ?_⟩
  refine ⟨_, rfl, _, rfl, a, rfl, ⟨vs, SqT.of ha⟩, ?_⟩
  refine for_it (walk_tup (K := K) (a := a) (xs := vs)) (fun i σ' H' => ∃ (v : V) (o3 o4 : Option V) (d' : PyData), σ' = [some v1, some (.ref a), some v, o3, o4] ∧ Same H H' ∧ TD H' v d' ∧ Go d' (qp.drop i) e) ⟨v1, _, _, d, rfl, Same.refl H, h1, hg⟩ ?_ ?_ ?_
  · rintro i σ' H' _ ⟨_, _, _, _, _, s', _⟩
    exact SqT.of (s' _ _ ha)
  · rintro i z σ' H2 _ hi ⟨v, o3, o4, d', rfl, s2, t2, g2⟩ ⟨rfl, hz⟩
    rw [hlen] at hi
    obtain ⟨n, hn, tn⟩ := tvs.ofMap hz
    obtain rfl := tn.invI
    have hdr : qp.drop i = n :: qp.drop (i + 1) := by
      rw [List.drop_eq_getElem_cons hi]
      congr 1
      rw [List.getElem?_eq_getElem hi] at hn
      exact Option.some.inj hn
    rw [hdr] at g2
    cases g2 with
    | @cons d'' e'' ps ii p qq hnd hp hpl g3 =>
    refine ⟨_, rfl, v, d', ps, rfl, t2, hnd, fun v3 H3 s3 t3 => ?_⟩
    have hpsl : (partsD ps).length = ps.length := by rw [partsD_map, List.length_map]
    have hlt := (List.getElem?_eq_some_iff.mp hp).1
    refine ⟨_, rfl, _, rfl, _, _, rfl, t3, _, _, rfl, rfl, n, 0, _, rfl, ?_⟩
    refine ⟨_, rfl, itN ?_ ?_⟩
    · rw [hpsl]
      have e1 : decide ((0 : Int) ≤ (n : Int)) = true := decide_eq_true (by omega)
      have e2 : decide ((n : Int) ≤ (ps.length : Int) - 1) = true := decide_eq_true (by omega)
      rw [e1, e2]; rfl
    refine ⟨_, rfl, _, rfl, _, _, _, t3, rfl, atI_nat (j := n) (by rw [partsD_map, List.getElem?_map, hp]; rfl), fun v4 t4 => ?_⟩
    exact ⟨v4, _, _, _, rfl, s2.trans s3, t4, g3⟩
  · rintro σ' H2 ⟨v, o3, o4, d', rfl, s2, t2, g2⟩
    rw [hlen, List.drop_length] at g2
    cases g2
    exact ⟨_, rfl, q v H2 s2 t2⟩
end
end KW
/-! K74: the program's trees: placed_in, placed, path_of, device_path, place_of -/
namespace KW
open L2 PySem PySem.Spec PyProof.Rows
def pcD (x : K74.Path × Part) : PyData := .tuple [pathD x.1, partD x.2]
mutual
theorem pcP_len : ∀ (p : Part) (q : K74.Path), (pcP p q).length ≤ szP p
  | .none, _ => by simp [pcP]
  | .dev _, _ => by simp [pcP, szP]
  | .bri _ ps, q => by rw [pcP, szP, List.length_cons]; have := pcL_len ps q 0; omega
theorem pcL_len : ∀ (ps : List Part) (q : K74.Path) (i : Nat), (pcL ps q i).length ≤ szL ps
  | [], _, _ => by simp [pcL]
  | p :: ps, q, i => by
    rw [pcL, szL, List.length_append]
    have := pcP_len p (q ++ [i])
    have := pcL_len ps q (i + 1)
    omega
end
theorem pcL_snoc : ∀ (ps : List Part) (p : Part) (q : K74.Path) (i : Nat), pcL (ps ++ [p]) q i = pcL ps q i ++ pcP p (q ++ [i + ps.length])
  | [], p, q, i => by simp [pcL]
  | r :: ps, p, q, i => by
    rw [List.cons_append, pcL, pcL, pcL_snoc ps p q (i + 1), List.append_assoc, List.length_cons, show i + 1 + ps.length = i + (ps.length + 1) by omega]
theorem pcL_take_len {ps : List Part} {q : K74.Path} {i : Nat} (j : Nat) : (pcL (ps.take j) q i).length ≤ szL ps := by
  have := pcL_len (ps.take j) q i
  have h := szL_append (ps.take j) (ps.drop j)
  rw [List.take_append_drop] at h
  omega
def idOf : Part → Nat
  | .none => 0
  | .dev k => k
  | .bri k _ => k
def nmOf : Part → Str
  | .none => ⟨#[]⟩
  | .dev k => devN k
  | .bri k _ => briN k
mutual
theorem ids_P : ∀ (p : Part) (q : K74.Path), (pcP p q).map (fun x => idOf x.2) = idP p
  | .none, _ => rfl
  | .dev _, _ => rfl
  | .bri k ps, q => by rw [pcP, idP, List.map_cons, ids_L ps q 0]; rfl
theorem ids_L : ∀ (ps : List Part) (q : K74.Path) (i : Nat), (pcL ps q i).map (fun x => idOf x.2) = idL ps
  | [], _, _ => rfl
  | p :: ps, q, i => by rw [pcL, idL, List.map_append, ids_P p, ids_L ps]
end
mutual
theorem real_P : ∀ (p : Part) (q : K74.Path), ∀ x ∈ pcP p q, x.2 ≠ .none
  | .none, _, x, h => by rw [pcP] at h; exact nomatch h
  | .dev _, _, x, h => by
    rw [pcP, List.mem_singleton] at h
    subst h
    exact fun z => nomatch z
  | .bri k ps, q, x, h => by
    rw [pcP] at h
    rcases List.mem_cons.mp h with rfl | h
    · exact fun z => nomatch z
    · exact real_L ps q 0 x h
theorem real_L : ∀ (ps : List Part) (q : K74.Path) (i : Nat), ∀ x ∈ pcL ps q i, x.2 ≠ .none
  | [], _, _, x, h => by rw [pcL] at h; exact nomatch h
  | p :: ps, q, i, x, h => by
    rw [pcL] at h
    rcases List.mem_append.mp h with h | h
    · exact real_P p _ x h
    · exact real_L ps q _ x h
end
theorem devN_inj {a b : Nat} (h : devN a = devN b) : a = b := by
  unfold devN at h
  simp only [Str.mk.injEq] at h
  have := congrArg (fun x : Array Nat => x[0]?) h
  simp at this
  exact this
theorem dev_bri (a b : Nat) : briN a ≠ devN b := fun h => by
  unfold devN briN at h
  simp only [Str.mk.injEq] at h
  have := congrArg Array.size h
  simp at this
/-- only one part has a device's name -/
theorem name_one {ps : List Part} (hn : (idL ps).Nodup) {k : Nat} {q : K74.Path} {i j : Nat} {x : K74.Path × Part} (hi : (pcL ps [] 0)[i]? = some (q, .dev k)) (hj : (pcL ps [] 0)[j]? = some x) (e : nmOf x.2 = devN k) : i = j := by
  have hr := real_L ps [] 0 x (List.mem_of_getElem? hj)
  obtain ⟨xq, xp⟩ := x
  have e2 : idOf xp = k := by
    cases xp with
    | none => exact absurd rfl hr
    | dev k' => exact devN_inj e
    | bri k' _ => exact absurd e (dev_bri _ _)
  rw [← ids_L ps [] 0] at hn
  have li := (List.getElem?_eq_some_iff.mp hi).1
  have lj := (List.getElem?_eq_some_iff.mp hj).1
  refine (List.getElem_inj (h₀ := by rw [List.length_map]; exact li) (h₁ := by rw [List.length_map]; exact lj) hn).mp ?_
  rw [List.getElem_map, List.getElem_map]
  have a1 := (List.getElem?_eq_some_iff.mp hi).2
  have a2 := (List.getElem?_eq_some_iff.mp hj).2
  rw [a1, a2]
  exact e2.symm
section
variable {P : Program} {w : World} {K : PySem.W.Frag} {mg : Str → Option Value} {base : Heap} {f : Addr} {fd : FuncData}
/-! ### placed_in -/
abbrev sPin : Stmt := top 10
abbrev psPin : List Str := ["parts", "above"]
abbrev nsPin : List Str := ["parts", "above", "found", "slot", "part", "path"]
def spPin (n : Nat) : Sp := fun vs H Q _ => ∃ (v1 v2 : V) (ps : List Part) (q : K74.Path), vs = [v1, v2] ∧ TD H v1 (.tuple (partsD ps)) ∧ TD H v2 (pathD q) ∧ dpL ps < n ∧ szL ps ≤ 1000 ∧ q.length + dpL ps ≤ 1000 ∧
  ∀ p H', H p = none → Same H H' → Lt H' p ((pcL ps q 0).map pcD) → Q (.ref p) H'
theorem scPin : FnScope nsPin psPin (defScope sPin) := ⟨rfl, rfl, rfl, by decide +kernel, rfl, by decide +kernel, by decide +kernel⟩
theorem ok_pin_step {n : Nat} (D : DefAt K mg "placed_in" sPin psPin f fd) (B : Blt mg) (CP : PoC P w K mg base) (C : Cal P w K mg base (n + 3) "placed_in" psPin (spPin n)) : FnOk P w K mg base CX0 (n + 4) f fd psPin (spPin (n + 1)) := by
  refine D.F.ok scPin (fun vs H Q E h => ?_) (fun cdv A outer s H vs Q E hr h => ?_)
  · obtain ⟨v1, v2, ps, q, rfl, _⟩ := h
    rfl
  obtain ⟨v1, v2, ps, qp, rfl, h1, h2, hdp, hsz, hql, q⟩ := h
  have nd := scPin.nd
  refine ⟨_, pss_cons (ps_set (i := 2) nd rfl (Or.inl rfl) (pe_lt pa_nil))
    (pss_cons (ps_for PassesOwn.never rfl (pi_enumT (by rfl) B.enumerate (pa_cons (pv 0) pa_nil)) (pg_tup rfl (pgs_cons (pg_name (i := 3) nd rfl (Or.inl rfl)) (pgs_cons (pg_name (i := 4) nd rfl (Or.inl rfl)) pgs_nil)))
      (pss_one (ps_if (pt_cmp (pc_notN (pv 4)))
        (pss_cons (ps_set (i := 5) nd rfl (Or.inl rfl) (pe_td (StX.pa_star (pv 1) (pa_cons (pv 3) pa_nil))))
        (pss_cons (ps_expr (pe_bm PySem.F.plainAttrs_list PySem.F.slot_list_append PySem.F.type_list_append mt_append (pv 2) (pa_cons (pe_td (pa_cons (pv 5) (pa_cons (pv 4) pa_nil))) pa_nil)))
        (pss_one (ps_expr (pe_bm PySem.F.plainAttrs_list PySem.F.slot_list_extend PySem.F.type_list_extend mt_extend (pv 2) (pa_cons (pe_cal C hr rfl (pa_cons (pe_cal CP (hr.mono (by omega)) rfl (pa_cons (pv 4) pa_nil)) (pa_cons (pv 5) pa_nil))) pa_nil)))))) pss_nil)))
    (pss_one (ps_ret (pv 2)))), ?_⟩
  have hlen := len_sz ps
  obtain ⟨a, vs, rfl, ha, tvs⟩ := id h1.inv
  have hpl : vs.length = ps.length := by rw [tvs.length, partsD_map, List.length_map]
  refine ⟨_, .nil, szl (by simp), fun p0 H1 hp0 s1 l1 => ?_⟩
  refine ⟨_, rfl, a, vs, rfl, SqT.of (s1 _ _ ha), ?_⟩
  refine for_it (walk_enumT (K := K) (a := a) (xs := vs)) (fun i σ' H' => ∃ (p : Addr) (o3 o4 o5 : Option V), σ' = [some (.ref a), some v2, some (.ref p), o3, o4, o5] ∧ H p = none ∧ Same H H' ∧ Lt H' p ((pcL (ps.take i) qp 0).map pcD)) ⟨p0, _, _, _, rfl, hp0, s1, l1⟩ ?_ ?_ ?_
  · rintro i σ' H' _ ⟨_, _, _, _, _, _, s', _⟩
    exact SqT.of (s' _ _ ha)
  · rintro i z σ' H2 _ hi ⟨p, o3, o4, o5, rfl, hp, s2, l2⟩ ⟨T, x, y, rfl, hT, rfl, hx, hy⟩
    obtain rfl := Option.some.inj hx
    rw [hpl] at hi
    have ei : ps[i]? = some ps[i] := List.getElem?_eq_getElem hi
    have hmem : ps[i] ∈ ps := List.getElem_mem hi
    have htk := take_snoc ei
    have hsn : pcL (ps.take (i + 1)) qp 0 = pcL (ps.take i) qp 0 ++ pcP ps[i] (qp ++ [i]) := by
      rw [htk, pcL_snoc, List.length_take, Nat.min_eq_left (by omega), Nat.zero_add]
    have hpd : (partsD ps)[i]? = some (partD ps[i]) := by rw [partsD_map, List.getElem?_map, ei]; rfl
    obtain ⟨d, hd, tp⟩ := tvs.getV hy
    obtain rfl := Option.some.inj (hpd.symm.trans hd)
    have hsz1 := sz_mem hmem
    have hdp1 := dp_mem hmem
    have hl1 := pcL_take_len (ps := ps) (q := qp) (i := 0) i
    have gT : Same H2 (upd H2 T (.tup [.int ((i : Nat) : Int), y])) := same_new hT
    refine ⟨T, _, rfl, SqT.of upd_same, rfl, _, _, rfl, _, _, rfl, rfl, ?_⟩
    generalize upd H2 T (.tup [.int ((i : Nat) : Int), y]) = G at gT
    have sG := s2.trans gT
    have tpG := tp.k (TK.same sG)
    have h2G := h2.k (TK.same sG)
    have l2 := l2.keep gT
    obtain ⟨qa, qvs, eq2, hqa, tqv⟩ := h2G.inv
    refine ⟨_, rfl, _, rfl, ?_⟩
    generalize ps[i] = pt at hsn tpG hsz1 hdp1
    by_cases hpt : pt = .none
    · subst hpt
      rw [partD] at tpG
      obtain rfl := tpG.invN
      refine itN (by decide) ⟨p, _, _, _, rfl, hp, sG, ?_⟩
      rw [hsn, pcP, List.append_nil]
      exact l2
    have hk : szL (kids pt) ≤ szP pt ∧ dpL (kids pt) + 1 ≤ dpP pt ∧ pcP pt (qp ++ [i]) = (qp ++ [i], pt) :: pcL (kids pt) (qp ++ [i]) 0 := by
      cases pt with
      | none => exact absurd rfl hpt
      | dev k => exact ⟨by simp [kids, szL, szP], by simp [kids, dpL, dpP], rfl⟩
      | bri k qs => exact ⟨by simp [kids, szP], by simp [kids, dpP], rfl⟩
    have hy : ∃ b, y = .ref b := by
      cases pt with
      | none => exact absurd rfl hpt
      | dev k => rw [partD] at tpG; obtain ⟨b, _, e, _⟩ := tpG.inv; exact ⟨b, e⟩
      | bri k qs => rw [partD] at tpG; obtain ⟨b, _, e, _⟩ := tpG.inv; exact ⟨b, e⟩
    obtain ⟨yb, rfl⟩ := hy
    obtain ⟨hk1, hk2, hk3⟩ := hk
    refine itY (by rw [decide_eq_false (fun z => nomatch z)]; rfl) ?_
    refine ⟨_, rfl, qa, qvs, eq2, .inl (SqT.of hqa), _, rfl, qp.map natD ++ [.int ((i : Nat) : Int)], tqv.append (TDs.one (.int _)), szl (by rw [List.length_append, List.length_map, List.length_singleton]; omega), fun v5 H5 s5 t5 => ?_⟩
    have t5 : TD H5 v5 (pathD (qp ++ [i])) := by
      unfold pathD
      rw [List.map_append]
      exact t5
    obtain ⟨fvs, hf, tf⟩ := l2
    refine ⟨_, rfl, ⟨.inl ⟨rfl, _, SqL.of (s5 _ _ hf)⟩, ?_⟩⟩
    refine ⟨_, rfl, _, rfl, _, .cons t5 (TDs.one (tpG.k (TK.same s5))), szl (by simp), fun v6 H6 s6 t6 => ?_⟩
    have hf6 := s6 _ _ (s5 _ _ hf)
    have s56 := s5.trans s6
    have lf : fvs.length = (pcL (ps.take i) qp 0).length := by rw [tf.length, List.length_map]
    have nt : ∀ xs, H6 p ≠ some (.tup xs) := fun xs z => by rw [hf6] at z; cases z
    have k7 : TK H6 (upd H6 p (.lst (fvs ++ [v6]))) := TK.put nt
    refine ⟨p, fvs, v6, rfl, rfl, hf6, by rw [lf]; exact small1000 (by omega), ?_⟩
    refine ⟨_, rfl, ⟨.inl ⟨rfl, _, SqL.of upd_same⟩, ?_⟩⟩
    have tf7 : TDs (upd H6 p (.lst (fvs ++ [v6]))) (fvs ++ [v6]) ((pcL (ps.take i) qp 0).map pcD ++ [pcD (qp ++ [i], pt)]) := ((tf.k (TK.same s56)).append (TDs.one t6)).k k7
    have sB : Same H (upd H6 p (.lst (fvs ++ [v6]))) := Same.put hp (sG.trans s56)
    refine ⟨_, rfl, _, partD pt, kids pt, rfl, (tpG.k (TK.same s56)).k k7, .inl ⟨_, rfl, rfl⟩, fun v7 H7 s7 t7 => ?_⟩
    refine ⟨_, rfl, v7, v5, kids pt, qp ++ [i], rfl, t7, ((t5.k (TK.same s6)).k k7).k (TK.same s7), by omega, by omega, by rw [List.length_append, List.length_singleton]; omega, fun p8 H8 hp8 s8 l8 => ?_⟩
    obtain ⟨zs, hz8, tz8⟩ := l8
    have s78 := s7.trans s8
    have h8 := s78 _ _ (upd_same (H := H6) (a := p) (o := .lst (fvs ++ [v6])))
    have lz : zs.length = (pcL (kids pt) (qp ++ [i]) 0).length := by rw [tz8.length, List.length_map]
    have lz2 := pcL_len (kids pt) (qp ++ [i]) 0
    have nt8 : ∀ xs, H8 p ≠ some (.tup xs) := fun xs z => by rw [h8] at z; cases z
    refine ⟨p, p8, _, zs, rfl, rfl, h8, hz8, szl (by rw [List.length_append, List.length_singleton, lf, lz]; omega), ?_⟩
    refine ⟨p, _, _, _, rfl, hp, Same.put hp (sB.trans s78), _, upd_same, ?_⟩
    rw [hsn, hk3, List.map_append, List.map_cons]
    have := (((tf7.k (TK.same s78)).append tz8)).k (TK.put (o := .lst (fvs ++ [v6] ++ zs)) nt8)
    rw [List.append_assoc (List.map pcD (pcL (ps.take i) qp 0))] at this
    exact this
  · rintro σ' H2 ⟨p, o3, o4, o5, rfl, hp, s2, l2⟩
    rw [hpl, List.take_length] at l2
    exact ⟨_, rfl, q p H2 hp s2 l2⟩
theorem ok_pin (D : DefAt K mg "placed_in" sPin psPin f fd) (B : Blt mg) (CP : PoC P w K mg base) : ∀ n, FnOk P w K mg base CX0 (n + 3) f fd psPin (spPin n)
  | 0 => (none_sp fun vs H Q E h => by
    obtain ⟨_, _, _, _, _, _, _, h, _⟩ := h
    omega).mono (Nat.zero_le _)
  | n + 1 => ok_pin_step D B CP (D.cal (ok_pin D B CP n))
/-! ### placed -/
abbrev PnC (P : Program) (w : World) (K : PySem.W.Frag) (mg : Str → Option Value) (base : Heap) : Prop := Cal P w K mg base 8 "placed_in" psPin (spPin 5)
abbrev sPlc : Stmt := top 11
abbrev psPlc : List Str := ["tree"]
def spPlc : Sp := fun vs H Q _ => ∃ (v : V) (ps : List Part), vs = [v] ∧ TD H v (treeD ps) ∧ dpL ps < 5 ∧ szL ps ≤ 1000 ∧ ∀ v' H', Same H H' → TD H' v' (.tuple ((pcL ps [] 0).map pcD)) → Q v' H'
theorem scPlc : FnScope psPlc psPlc (defScope sPlc) := ⟨rfl, rfl, rfl, by decide +kernel, rfl, by decide +kernel, by decide +kernel⟩
theorem ok_plc (D : DefAt K mg "placed" sPlc psPlc f fd) (B : Blt mg) (CP : PoC P w K mg base) (CN : PnC P w K mg base) : FnOk P w K mg base CX0 9 f fd psPlc spPlc := by
  refine D.F.ok scPlc (fun vs H Q E h => ?_) (fun cdv A outer s H vs Q E hr h => ?_)
  · obtain ⟨v, ps, rfl, _⟩ := h
    rfl
  obtain ⟨v, ps, rfl, h1, hdp, hsz, q⟩ := h
  refine ⟨_, pss_one (ps_ret (pe_callTy call_tupLt (by rfl) B.tuple PyProof.Rows.boot_tuple (pa_cons (pe_cal CN hr rfl (pa_cons (pe_cal CP (hr.mono (by omega)) rfl (pa_cons (pv 0) pa_nil)) (pa_cons (pe_td pa_nil) pa_nil))) pa_nil))), ?_⟩
  refine ⟨_, rfl, v, _, ps, rfl, h1, .inr rfl, fun v1 H1 s1 t1 => ?_⟩
  refine ⟨_, .nil, szl (by simp), fun v2 H2 s2 t2 => ?_⟩
  refine ⟨v1, v2, ps, [], rfl, t1.k (TK.same s2), t2, hdp, hsz, by show 0 + dpL ps ≤ 1000; omega, fun p H3 hp s3 l3 => ?_⟩
  refine ⟨p, _, rfl, l3, fun v4 H4 s4 t4 => ?_⟩
  exact q v4 H4 (s1.trans (s2.trans (s3.trans s4))) t4
end
end KW
/-! K74: path_of, device_path, place_of, forbidden -/
namespace KW
open L2 PySem PySem.Spec PyProof.Rows
/-- who stands where: None at the root -/
def nmD : Option Nat → PyData
  | none => .none
  | some k => .str (devN k)
def Wh (ps : List Part) : Option Nat → K74.Path → Prop
  | none, q => q = []
  | some k, q => (q, .dev k) ∈ pcL ps [] 0
mutual
theorem deep_P : ∀ (p : Part) (q : K74.Path), ∀ x ∈ pcP p q, x.1.length + 1 ≤ q.length + dpP p
  | .none, _, x, h => by rw [pcP] at h; exact nomatch h
  | .dev _, q, x, h => by
    rw [pcP, List.mem_singleton] at h
    subst h
    exact Nat.le_refl _
  | .bri k ps, q, x, h => by
    rw [pcP] at h
    rw [dpP]
    rcases List.mem_cons.mp h with rfl | h
    · show q.length + 1 ≤ _; omega
    · have := deep_L ps q 0 x h; omega
theorem deep_L : ∀ (ps : List Part) (q : K74.Path) (i : Nat), ∀ x ∈ pcL ps q i, x.1.length ≤ q.length + dpL ps
  | [], _, _, x, h => by rw [pcL] at h; exact nomatch h
  | p :: ps, q, i, x, h => by
    rw [pcL] at h
    rw [dpL]
    rcases List.mem_append.mp h with h | h
    · have := deep_P p _ x h
      rw [List.length_append, List.length_singleton] at this
      omega
    · have := deep_L ps q _ x h; omega
end
/-- what is asked of a tree -/
structure TreeOk (ps : List Part) : Prop where
  dp : dpL ps < 5
  sz : szL ps ≤ 1000
  nd : (idL ps).Nodup
  few : (idL ps).length ≤ 24
theorem Wh.short {ps : List Part} (T : TreeOk ps) {o : Option Nat} {q : K74.Path} (h : Wh ps o q) : q.length ≤ 4 := by
  cases o with
  | none => rw [show q = [] from h]; exact Nat.zero_le _
  | some k =>
    have := deep_L ps [] 0 _ h
    have := T.dp
    simp only [List.length_nil] at *
    omega
theorem Wh.go {ps : List Part} (T : TreeOk ps) {k : Nat} {q : K74.Path} (h : Wh ps (some k) q) : Go (treeD ps) q (partD (.dev k)) := by
  obtain ⟨j, r, p, e1, e2, g⟩ := go_L ps [] 0 q (.dev k) T.sz h
  have hl := len_sz ps
  have hs := T.sz
  rw [e1]
  have := Go.cons (i := j) (.inr rfl) e2 (by omega) g
  simpa using this
def toldL (F : K74.Four) : List (K74.Kd × K74.Kd) :=
  (if K74.lastOf F.p F.c F.d F.f ≠ K74.startOf F.p F.d F.f then [(.answer, .write)] else []) ++ (if K74.lastOf F.p F.c F.d F.f ≠ F.d then [(.read, .write)] else [])
theorem way_short {x y : K74.Path} (hx : x.length ≤ 4) (hy : y.length ≤ 4) : (K74.way x y).length ≤ 9 := by
  have := K74.way_len x y
  split at this <;> omega
section
variable {P : Program} {w : World} {K : PySem.W.Frag} {mg : Str → Option Value} {base : Heap} {f : Addr} {fd : FuncData}
/-! ### path_of -/
abbrev PlC (P : Program) (w : World) (K : PySem.W.Frag) (mg : Str → Option Value) (base : Heap) : Prop := Cal P w K mg base 9 "placed" psPlc spPlc
abbrev sPth : Stmt := top 12
abbrev psPth : List Str := ["tree", "name"]
abbrev nsPth : List Str := ["tree", "name", "path", "part"]
def spPth : Sp := fun vs H Q _ => ∃ (v : V) (ps : List Part) (k : Nat) (q : K74.Path), vs = [v, .str (devN k)] ∧ TD H v (treeD ps) ∧ TreeOk ps ∧ Wh ps (some k) q ∧ ∀ v' H', Same H H' → TD H' v' (pathD q) → Q v' H'
theorem scPth : FnScope nsPth psPth (defScope sPth) := ⟨rfl, rfl, rfl, by decide +kernel, rfl, by decide +kernel, by decide +kernel⟩
theorem part_D {pt : Part} (h : pt ≠ .none) : ∃ (x : Str) (ds : List PyData), partD pt = .tuple (.str x :: .str (nmOf pt) :: ds) ∧ ds.length ≤ 2 := by
  cases pt with
  | none => exact absurd rfl h
  | dev k => exact ⟨_, _, by rw [partD]; rfl, by simp⟩
  | bri k qs => exact ⟨_, _, by rw [partD]; rfl, by simp⟩
theorem ok_pth (D : DefAt K mg "path_of" sPth psPth f fd) (B : Blt mg) (C : PlC P w K mg base) : FnOk P w K mg base CX0 10 f fd psPth spPth := by
  refine D.F.ok scPth (fun vs H Q E h => ?_) (fun cdv A outer s H vs Q E hr h => ?_)
  · obtain ⟨v, ps, k, q, rfl, _⟩ := h
    rfl
  obtain ⟨v, ps, k, qp, rfl, h1, T, hw, q⟩ := h
  have nd := scPth.nd
  refine ⟨_, pss_cons (ps_if (pt_val (pe_callB call_isi (by rfl) B.isinstance PyProof.Rows.boot_isinstance (pa_cons (pv 1) (pa_cons (pe_bltn (by rfl) B.str PyProof.Rows.boot_str (v := .ty "str") rfl) pa_nil))))
      (pss_one (ps_for PassesOwn.never rfl (pi_tup (pe_cal C hr rfl (pa_cons (pv 0) pa_nil))) (pg_tup rfl (pgs_cons (pg_name (i := 2) nd rfl (Or.inl rfl)) (pgs_cons (pg_name (i := 3) nd rfl (Or.inl rfl)) pgs_nil)))
        (pss_one (ps_if (pt_cmpR op_eq (pe_ix ix_TD (pv 3) pe_int (fun _ _ => rfl)) (pv 1) (nomark _)) (pss_one (ps_ret (pv 2))) pss_nil)))) pss_nil)
    (pss_one ps_never), ?_⟩
  obtain ⟨n0, hn0, e0⟩ := List.mem_iff_getElem.mp hw
  have hq0 : (pcL ps [] 0)[n0]? = some (qp, .dev k) := by rw [List.getElem?_eq_getElem hn0, e0]
  refine ⟨_, rfl, _, _, _, _, true, rfl, .ty _, .base (.str _), kit_ty (by decide +kernel), _, rfl, itY rfl ?_⟩
  refine ⟨_, rfl, v, ps, rfl, h1, T.dp, T.sz, fun v1 H1 s1 t1 => ?_⟩
  obtain ⟨a, vs, rfl, ha, tvs⟩ := t1.inv
  have hlen : vs.length = (pcL ps [] 0).length := by rw [tvs.length, List.length_map]
  refine ⟨a, rfl, ⟨vs, SqT.of ha⟩, ?_⟩
  refine for_it (walk_tup (K := K) (a := a) (xs := vs)) (fun i σ' H' => ∃ (o2 o3 : Option V), σ' = [some v, some (.str (devN k)), o2, o3] ∧ Same H1 H' ∧ i ≤ n0) ⟨_, _, rfl, Same.refl _, Nat.zero_le _⟩ ?_ ?_ ?_
  · rintro i σ' H' _ ⟨_, _, _, s', _⟩
    exact SqT.of (s' _ _ ha)
  · rintro i z σ' H2 _ hi ⟨o2, o3, rfl, s2, hin⟩ ⟨rfl, hz⟩
    obtain ⟨⟨xq, xp⟩, hx, tx⟩ := tvs.ofMap hz
    have hr2 := real_L ps [] 0 _ (List.mem_of_getElem? hx)
    have tx := tx.k (TK.same s2)
    obtain ⟨T2, y1, y2, rfl, hT2, ty1, ty2⟩ := tx.inv2
    obtain ⟨xw, ds, ed, hds⟩ := part_D hr2
    rw [ed] at ty2
    refine ⟨T2, _, rfl, SqT.of hT2, rfl, _, _, rfl, _, _, rfl, rfl, ?_⟩
    refine ⟨_, rfl, _, 1, _, ty2, rfl, atI_nat (j := 1) rfl, fun v0 t0 => ?_⟩
    obtain rfl := t0.invS
    refine ⟨_, rfl, rfl, _, rfl, ?_⟩
    by_cases c : nmOf xp = devN k
    · refine itY (decide_eq_true (by rw [c])) ?_
      have hij := name_one T.nd hq0 hx c
      subst hij
      rw [hq0] at hx
      cases hx
      exact ⟨_, rfl, q y1 _ (s1.trans s2) ty1⟩
    · refine itN (decide_eq_false fun z => c (by injection z)) ⟨_, _, rfl, s2, ?_⟩
      rcases Nat.lt_or_ge i n0 with d | d
      · omega
      · have : i = n0 := by omega
        subst this
        rw [hq0] at hx
        cases hx
        exact absurd rfl c
  · rintro σ' H2 ⟨o2, o3, rfl, s2, hin⟩
    omega
/-! ### device_path -/
abbrev PhC (P : Program) (w : World) (K : PySem.W.Frag) (mg : Str → Option Value) (base : Heap) : Prop := Cal P w K mg base 10 "path_of" psPth spPth
abbrev AtC (P : Program) (w : World) (K : PySem.W.Frag) (mg : Str → Option Value) (base : Heap) : Prop := Cal P w K mg base 4 "part_at" psAt spAt
abbrev sDp : Stmt := top 14
abbrev nsDp : List Str := ["tree", "name", "path"]
theorem scDp : FnScope nsDp psPth (defScope sDp) := ⟨rfl, rfl, rfl, by decide +kernel, rfl, by decide +kernel, by decide +kernel⟩
theorem ok_dp (D : DefAt K mg "device_path" sDp psPth f fd) (C1 : PhC P w K mg base) (C2 : AtC P w K mg base) (C3 : DvC P w K mg base) : FnOk P w K mg base CX0 11 f fd psPth spPth := by
  refine D.F.ok scDp (fun vs H Q E h => ?_) (fun cdv A outer s H vs Q E hr h => ?_)
  · obtain ⟨v, ps, k, q, rfl, _⟩ := h
    rfl
  obtain ⟨v, ps, k, qp, rfl, h1, T, hw, q⟩ := h
  have nd := scDp.nd
  refine ⟨_, pss_cons (ps_set (i := 2) nd rfl (Or.inl rfl) (pe_cal C1 hr rfl (pa_cons (pv 0) (pa_cons (pv 1) pa_nil))))
    (pss_cons (ps_if (pt_not (pt_val (pe_cal C3 (hr.mono (by omega)) rfl (pa_cons (pe_cal C2 (hr.mono (by omega)) rfl (pa_cons (pv 0) (pa_cons (pv 2) pa_nil))) pa_nil)))) pss_never pss_nil)
    (pss_one (ps_ret (pv 2)))), ?_⟩
  refine ⟨_, rfl, _, rfl, v, ps, k, qp, rfl, h1, T, hw, fun v1 H1 s1 t1 => ?_⟩
  refine ⟨_, rfl, _, rfl, v, v1, _, _, qp, rfl, h1.k (TK.same s1), t1, hw.go T, fun v2 H2 s2 t2 => ?_⟩
  rw [partD] at t2
  refine ⟨v2, _, _, rfl, t2, by simp, _, rfl, itN (by rw [show (decide ([PyData.str (devN k), PyData.tuple []].length + 1 = 3) && decide (Str.ofString "device" = Str.ofString "device")) = true from dev_yes]; rfl) ?_⟩
  exact ⟨_, rfl, q v1 H2 (s1.trans s2) (t1.k (TK.same s2))⟩
/-! ### place_of -/
abbrev DpC (P : Program) (w : World) (K : PySem.W.Frag) (mg : Str → Option Value) (base : Heap) : Prop := Cal P w K mg base 11 "device_path" psPth spPth
abbrev sPlo : Stmt := top 16
def spPlo : Sp := fun vs H Q _ => ∃ (v n : V) (ps : List Part) (o : Option Nat) (q : K74.Path), vs = [v, n] ∧ TD H n (nmD o) ∧ TD H v (treeD ps) ∧ TreeOk ps ∧ Wh ps o q ∧ ∀ v' H', Same H H' → TD H' v' (pathD q) → Q v' H'
theorem scPlo : FnScope psPth psPth (defScope sPlo) := ⟨rfl, rfl, rfl, by decide +kernel, rfl, by decide +kernel, by decide +kernel⟩
theorem ok_plo (D : DefAt K mg "place_of" sPlo psPth f fd) (C : DpC P w K mg base) : FnOk P w K mg base CX0 12 f fd psPth spPlo := by
  refine D.F.ok scPlo (fun vs H Q E h => ?_) (fun cdv A outer s H vs Q E hr h => ?_)
  · obtain ⟨v, n, ps, o, q, rfl, _⟩ := h
    rfl
  obtain ⟨v, n, ps, o, qp, rfl, hn, h1, T, hw, q⟩ := h
  refine ⟨_, pss_one (ps_ret (pe_ifExp (pt_cmp (pc_isN (pv 1))) (pe_td pa_nil) (pe_cal C hr rfl (pa_cons (pv 0) (pa_cons (pv 1) pa_nil))))), ?_⟩
  cases o with
  | none =>
    obtain rfl := (show TD H n .none from hn).invN
    obtain rfl := (show qp = [] from hw)
    exact ⟨_, rfl, _, rfl, itY (by decide) ⟨_, .nil, szl (by simp), fun v1 H1 s1 t1 => q v1 H1 s1 t1⟩⟩
  | some k =>
    obtain rfl := (show TD H n (.str (devN k)) from hn).invS
    exact ⟨_, rfl, _, rfl, itN (by rw [decide_eq_false (fun z => nomatch z)]) ⟨_, rfl, _, rfl, v, ps, k, qp, rfl, h1, T, hw, q⟩⟩
end
end KW
/-! K74: forbidden -/
namespace KW
open L2 PySem PySem.Spec PyProof.Rows
section
variable {P : Program} {w : World} {K : PySem.W.Frag} {mg : Str → Option Value} {base : Heap} {f : Addr} {fd : FuncData}
abbrev LoC (P : Program) (w : World) (K : PySem.W.Frag) (mg : Str → Option Value) (base : Heap) : Prop := Cal P w K mg base 12 "place_of" psPth spPlo
abbrev BwC (P : Program) (w : World) (K : PySem.W.Frag) (mg : Str → Option Value) (base : Heap) : Prop := Cal P w K mg base 1 "way_between" psBetween spWay
abbrev ShC (P : Program) (w : World) (K : PySem.W.Frag) (mg : Str → Option Value) (base : Heap) : Prop := Cal P w K mg base 2 "last_shared" psShared spShared
abbrev sForb : Stmt := top 20
abbrev psForb : List Str := ["tree", "producer", "consumer", "data", "flag"]
abbrev nsForb : List Str := ["tree", "producer", "consumer", "data", "flag", "at_producer", "at_consumer", "at_data", "at_flag", "to_data", "start", "last", "found", "name"]
def spForb : Sp := fun vs H Q _ => ∃ (v n1 n2 n3 n4 : V) (ps : List Part) (o1 o2 o3 o4 : Option Nat) (F : K74.Four), vs = [v, n1, n2, n3, n4] ∧ TD H v (treeD ps) ∧ TreeOk ps ∧ TD H n1 (nmD o1) ∧ TD H n2 (nmD o2) ∧ TD H n3 (nmD o3) ∧ TD H n4 (nmD o4) ∧
  Wh ps o1 F.p ∧ Wh ps o2 F.c ∧ Wh ps o3 F.d ∧ Wh ps o4 F.f ∧ ∀ v' H', Same H H' → TD H' v' (.tuple ((toldL F).map pairD)) → Q v' H'
theorem scForb : FnScope nsForb psForb (defScope sForb) := ⟨rfl, rfl, rfl, by decide +kernel, rfl, by decide +kernel, by decide +kernel⟩
theorem ok_forb (D : DefAt K mg "forbidden" sForb psForb f fd) (B : Blt mg) (CL : LoC P w K mg base) (CB : BwC P w K mg base) (CP : PaC P w K mg base) (CS : ShC P w K mg base) : FnOk P w K mg base CX0 13 f fd psForb spForb := by
  refine D.F.ok scForb (fun vs H Q E h => ?_) (fun cdv A outer s H vs Q E hr h => ?_)
  · obtain ⟨v, n1, n2, n3, n4, ps, o1, o2, o3, o4, F, rfl, _⟩ := h
    rfl
  obtain ⟨v, n1, n2, n3, n4, ps, o1, o2, o3, o4, F, rfl, h1, T, hn1, hn2, hn3, hn4, w1, w2, w3, w4, q⟩ := h
  have nd := scForb.nd
  refine ⟨_, pss_cons (ps_asg (pe_lc (own := [("name", 13)]) (g := gName 13) rfl nd (pi_tup (pe_td (pa_cons (pv 1) (pa_cons (pv 2) (pa_cons (pv 3) (pa_cons (pv 4) pa_nil)))))) (blkOk_by (N := nsForb) (sc := defScope sForb) (by decide +kernel))
        (fun _ _ _ _ _ => pg_name (i := 13) nd rfl (Or.inl rfl)) (fun _ _ _ _ _ => pts_nil) (fun _ _ _ _ _ => pe_cal CL hr rfl (pa_cons (pv 0) (pa_cons (pv 13) pa_nil))))
      (pg_unl rfl (pgs_cons (pg_name (i := 5) nd rfl (Or.inl rfl)) (pgs_cons (pg_name (i := 6) nd rfl (Or.inl rfl)) (pgs_cons (pg_name (i := 7) nd rfl (Or.inl rfl)) (pgs_cons (pg_name (i := 8) nd rfl (Or.inl rfl)) pgs_nil))))))
    (pss_cons (ps_set (i := 9) nd rfl (Or.inl rfl) (pe_cal CB (hr.mono (by omega)) rfl (pa_cons (pv 5) (pa_cons (pv 7) pa_nil))))
    (pss_cons (ps_set (i := 10) nd rfl (Or.inl rfl) (pe_cal CP (hr.mono (by omega)) rfl (pa_cons (pv 9) (pa_cons (pe_cal CB (hr.mono (by omega)) rfl (pa_cons (pv 5) (pa_cons (pv 8) pa_nil))) pa_nil))))
    (pss_cons (ps_set (i := 11) nd rfl (Or.inl rfl) (pe_cal CS (hr.mono (by omega)) rfl (pa_cons (pv 9) (pa_cons (pe_cal CB (hr.mono (by omega)) rfl (pa_cons (pv 8) (pa_cons (pv 6) pa_nil))) (pa_cons (pv 10) pa_nil)))))
    (pss_cons (ps_set (i := 12) nd rfl (Or.inl rfl) (pe_lt pa_nil))
    (C8.pss_cut (ps_if (pt_cmpR (op_neTD (hu64' hr)) (pv 11) (pv 10) (nomark _)) (pss_one (ps_expr (pe_bm PySem.F.plainAttrs_list PySem.F.slot_list_append PySem.F.type_list_append mt_append (pv 12) (pa_cons (pe_td (pa_cons pe_str (pa_cons pe_str pa_nil))) pa_nil)))) pss_nil)
    (C8.pss_cut (ps_if (pt_cmpR (op_neTD (hu64' hr)) (pv 11) (pv 7) (nomark _)) (pss_one (ps_expr (pe_bm PySem.F.plainAttrs_list PySem.F.slot_list_append PySem.F.type_list_append mt_append (pv 12) (pa_cons (pe_td (pa_cons pe_str (pa_cons pe_str pa_nil))) pa_nil)))) pss_nil)
    (pss_one (ps_ret (pe_callTy call_tupLt (by rfl) B.tuple PyProof.Rows.boot_tuple (pa_cons (pv 12) pa_nil)))))))))), ?_⟩
  obtain ⟨tt, hv1⟩ : ∃ a, v = .ref a := by
    obtain ⟨a, _, e, _⟩ := TD.inv (show TD H v (.tuple _) from h1)
    exact ⟨a, e⟩
  refine ⟨_, rfl, _, rfl, _, rfl, _, rfl, [nmD o1, nmD o2, nmD o3, nmD o4], .cons hn1 (.cons hn2 (.cons hn3 (TDs.one hn4))), szl (by simp), fun va H1 s1 t1 => ?_⟩
  obtain ⟨ta, tvs, rfl, hta, ttv⟩ := t1.inv
  have hlen : tvs.length = 4 := ttv.length
  refine ⟨ta, rfl, ⟨tvs, SqT.of hta⟩, fun D1 hD1 => ?_⟩
  refine lc_it (walk_tup (K := K) (a := ta) (xs := tvs)) (LcP H1 D1 fun i => ([F.p, F.c, F.d, F.f].take i).map pathD) (LcP.start hD1 rfl) (fun i G _ p => SqT.of (p.1 _ _ hta)) ?_ ?_
  · rintro i z H2 G hi p ⟨hh, hz⟩
    subst G
    obtain ⟨d, hd, td⟩ := ttv.getV hz
    have sH : Same H H2 := s1.trans p.1
    have td := td.k (TK.same p.1)
    obtain ⟨o, qq, e1, e2, e3⟩ : ∃ o qq, d = nmD o ∧ [F.p, F.c, F.d, F.f][i]? = some qq ∧ Wh ps o qq := by
      rw [hlen] at hi
      match i, hi with
      | 0, _ => exact ⟨o1, F.p, (Option.some.inj hd).symm, rfl, w1⟩
      | 1, _ => exact ⟨o2, F.c, (Option.some.inj hd).symm, rfl, w2⟩
      | 2, _ => exact ⟨o3, F.d, (Option.some.inj hd).symm, rfl, w3⟩
      | 3, _ => exact ⟨o4, F.f, (Option.some.inj hd).symm, rfl, w4⟩
    subst e1
    refine ⟨rfl, _, rfl, _, rfl, v, z, ps, o, qq, rfl, td, h1.k (TK.same sH), T, e3, fun v' H3 s3 t3 => ?_⟩
    refine p.put hD1 s3 t3 ?_ ?_
    · show ([F.p, F.c, F.d, F.f].take (i + 1)).map pathD = ([F.p, F.c, F.d, F.f].take i).map pathD ++ [pathD qq]
      rw [take_snoc e2, List.map_append]; rfl
    · rw [List.length_map, List.length_take]
      exact small1000 (by omega)
  intro H2 p
  obtain ⟨p1, avs, hav, tav⟩ := p
  rw [hlen] at tav
  have tav : TDs H2 avs [pathD F.p, pathD F.c, pathD F.d, pathD F.f] := tav
  cases tav with
  | @cons x1 _ _ _ tp tav =>
  cases tav with
  | @cons x2 _ _ _ tc tav =>
  cases tav with
  | @cons x3 _ _ _ td tav =>
  cases tav with
  | @cons x4 _ _ _ tf tav =>
  cases tav
  have lp := w1.short T
  have lc := w2.short T
  have ld := w3.short T
  have lf := w4.short T
  refine ⟨D1, _, rfl, SqL.of hav, rfl, _, _, rfl, _, _, rfl, _, _, rfl, _, _, rfl, rfl, ?_⟩
  have sA := s1.trans p1
  -- to_data
  refine ⟨_, rfl, _, rfl, x1, x3, F.p, F.d, rfl, tp, td, by omega, by omega, fun a1 H3 ha1 s3 l3 => ?_⟩
  -- start
  refine ⟨_, rfl, _, rfl, _, rfl, x1, x4, F.p, F.f, rfl, tp.k (TK.same s3), tf.k (TK.same s3), by omega, by omega, fun a2 H4 ha2 s4 l4 => ?_⟩
  have b1 := way_short lp ld
  have b2 := way_short lp lf
  have b3 := way_short lf lc
  refine ⟨a1, a2, _, _, rfl, l3.keep s4, l4, by omega, by omega, way_zip_ne _ _ _, fun vst H5 s5 t5 => ?_⟩
  have t5 : TD H5 vst (pathD (K74.startOf F.p F.d F.f)) := t5
  have s35 := s3.trans (s4.trans s5)
  have s45 := s4.trans s5
  -- last
  refine ⟨_, rfl, _, rfl, _, rfl, x4, x2, F.f, F.c, rfl, tf.k (TK.same s35), tc.k (TK.same s35), by omega, by omega, fun a3 H6 ha3 s6 l6 => ?_⟩
  refine ⟨_, rfl, a1, a3, vst, F.p, F.c, F.d, F.f, rfl, l3.keep (s45.trans s6), l6, t5.k (TK.same s6), by omega, by omega, fun vla H7 s7 t7 => ?_⟩
  -- found
  refine ⟨_, .nil, szl (by simp), fun fo H8 hfo s8 l8 => ?_⟩
  have s27 := s35.trans (s6.trans s7)
  have sB := sA.trans (s27.trans s8)
  have hfoH : H fo = none := (sA.trans s27).free hfo
  have dp8 := td.k (TK.same (s27.trans s8))
  have st8 := t5.k (TK.same (s6.trans (s7.trans s8)))
  have la8 := t7.k (TK.same s8)
  have step : ∀ (H9 : Hp) (l : List (K74.Kd × K74.Kd)) (pr : K74.Kd × K74.Kd) (vp : V), Same H H9 → TK H8 H9 → Lt H9 fo (l.map pairD) → TD H9 vp (pairD pr) → ∃ fvs, H9 fo = some (.lst fvs) ∧ fvs.length = l.length ∧
      Same H (upd H9 fo (.lst (fvs ++ [vp]))) ∧ TK H8 (upd H9 fo (.lst (fvs ++ [vp]))) ∧ Lt (upd H9 fo (.lst (fvs ++ [vp]))) fo ((l ++ [pr]).map pairD) := by
    intro H9 l pr vp g k lt tp
    obtain ⟨fvs, hf, tv⟩ := lt
    have nt : ∀ xs, H9 fo ≠ some (.tup xs) := fun xs z => by rw [hf] at z; cases z
    refine ⟨fvs, hf, by rw [tv.length, List.length_map], Same.put hfoH g, k.trans (TK.put nt), fvs ++ [vp], upd_same, ?_⟩
    rw [List.map_append]
    exact (tv.append (TDs.one tp)).k (TK.put nt)
  let St0 : L2.St := [some v, some n1, some n2, some n3, some n4, some x1, some x2, some x3, some x4, some (.ref a1), some vst, some vla, some (.ref fo), none]
  refine ⟨fun σ' H' => σ' = St0 ∧ Same H H' ∧ TK H8 H' ∧ Lt H' fo ((if K74.lastOf F.p F.c F.d F.f ≠ K74.startOf F.p F.d F.f then [(K74.Kd.answer, K74.Kd.write)] else []).map pairD), ?_, ?_⟩
  · refine ⟨_, rfl, _, rfl, _, _, la8, st8, good_path _, good_path _, fun bb hbb => ⟨_, rfl, ?_⟩⟩
    by_cases c : K74.lastOf F.p F.c F.d F.f = K74.startOf F.p F.d F.f
    · refine itN (by rw [hbb.mpr (by rw [c])]; rfl) ⟨rfl, sB, TK.refl _, ?_⟩
      rw [if_neg (not_not_intro c)]
      exact l8
    · have hb0 : bb = false := by cases bb with
        | true => exact absurd (pathD_inj _ _ (hbb.mp rfl)) c
        | false => rfl
      refine itY (by rw [hb0]; rfl) ?_
      refine ⟨_, rfl, ⟨.inl ⟨rfl, _, SqL.of l8.choose_spec.1⟩, ?_⟩⟩
      refine ⟨_, .cons (.str _) (TDs.one (.str _)), szl (by simp), fun vp H9 s9 t9 => ?_⟩
      obtain ⟨fvs, hf, hfl, g1, g2, g3⟩ := step H9 [] (.answer, .write) vp (sB.trans s9) (TK.same s9) (l8.keep s9) t9
      refine ⟨fo, fvs, vp, rfl, rfl, hf, by rw [hfl]; exact small1000 (by simp), rfl, g1, g2, ?_⟩
      rw [if_pos c]
      exact g3
  rintro σ' H9 ⟨rfl, sC, kC, lC⟩
  generalize hL1 : (if K74.lastOf F.p F.c F.d F.f ≠ K74.startOf F.p F.d F.f then [(K74.Kd.answer, K74.Kd.write)] else []) = L1 at lC
  have hL1l : L1.length ≤ 1 := by rw [← hL1]; split <;> simp
  refine ⟨fun σ' H' => σ' = St0 ∧ Same H H' ∧ Lt H' fo ((toldL F).map pairD), ?_, ?_⟩
  · refine ⟨_, rfl, _, rfl, _, _, la8.k kC, dp8.k kC, good_path _, good_path _, fun bb hbb => ⟨_, rfl, ?_⟩⟩
    unfold toldL
    rw [hL1]
    by_cases c : K74.lastOf F.p F.c F.d F.f = F.d
    · refine itN (by rw [hbb.mpr (by rw [c])]; rfl) ⟨rfl, sC, ?_⟩
      rw [if_neg (not_not_intro c), List.append_nil]
      exact lC
    · have hb0 : bb = false := by cases bb with
        | true => exact absurd (pathD_inj _ _ (hbb.mp rfl)) c
        | false => rfl
      refine itY (by rw [hb0]; rfl) ?_
      refine ⟨_, rfl, ⟨.inl ⟨rfl, _, SqL.of lC.choose_spec.1⟩, ?_⟩⟩
      refine ⟨_, .cons (.str _) (TDs.one (.str _)), szl (by simp), fun vp H10 s10 t10 => ?_⟩
      obtain ⟨fvs, hf, hfl, g1, g2, g3⟩ := step H10 L1 (.read, .write) vp (sC.trans s10) (kC.trans (TK.same s10)) (lC.keep s10) t10
      refine ⟨fo, fvs, vp, rfl, rfl, hf, by rw [hfl]; exact small1000 (by omega), rfl, g1, ?_⟩
      rw [if_pos c]
      exact g3
  rintro σ' H10 ⟨rfl, sD, lD⟩
  refine ⟨_, rfl, fo, _, rfl, lD, fun v' H11 s11 t11 => q v' H11 (sD.trans s11) t11⟩
end
end KW
/-! K74: the law's source -/
namespace KW
open L2 PySem PySem.Spec PyProof.Rows
def iD (n : Int) : PyData := .int n
def Il (H : Hp) (a : Addr) (ns : List Int) : Prop := H a = some (.lst (ns.map V.int))
theorem Il.lt {H : Hp} {a : Addr} {ns : List Int} (h : Il H a ns) : Lt H a (ns.map iD) := ⟨_, h, TDs.ints ns⟩
theorem TDs.intsI {H : Hp} : ∀ {vs : List V} {ns : List Int}, TDs H vs (ns.map iD) → vs = ns.map V.int
  | _, [], h => by cases h; rfl
  | _, n :: ns, h => by
    cases h with
    | cons h1 h2 => rw [TDs.intsI h2, h1.invI]; rfl
theorem Lt.il {H : Hp} {a : Addr} {ns : List Int} (h : Lt H a (ns.map iD)) : Il H a ns := by
  obtain ⟨vs, e, t⟩ := h
  rw [t.intsI] at e
  exact e
def srcK (l c : Addr) (t : Nat) : List (L2.Key × V) := [(Sum.inr "large", .ref l), (Sum.inr "cells", .ref c), (Sum.inr "turn", natV t)]
/-- the source of draws at s -/
structure Src (H : Hp) (s l c : Addr) (t : Nat) (lg cl : List Int) : Prop where
  hs : H s = some (.dK (srcK l c t))
  hl : Il H l lg
  hc : Il H c cl
  ne : l ≠ c
  n0 : cl ≠ []
  n64 : cl.length ≤ 64
  m64 : lg.length ≤ 64
/-- all but the source stands -/
def Ks (s l : Addr) (H H' : Hp) : Prop := ∀ b u, b ≠ s → b ≠ l → H b = some u → H' b = some u
theorem Ks.refl {s l : Addr} {H : Hp} : Ks s l H H := fun _ _ _ _ h => h
theorem Ks.trans {s l : Addr} {H H1 H2 : Hp} (a : Ks s l H H1) (b : Ks s l H1 H2) : Ks s l H H2 := fun x u h1 h2 h => b x u h1 h2 (a x u h1 h2 h)
theorem Ks.same {s l : Addr} {H H' : Hp} (h : Same H H') : Ks s l H H' := fun b u _ _ e => h b u e
theorem Ks.put {s l a : Addr} {H : Hp} {o : HO} (h : a = s ∨ a = l) : Ks s l H (upd H a o) := fun b u h1 h2 e => by
  have : b ≠ a := by rcases h with z | z <;> rw [z] <;> assumption
  rw [upd_ne this]; exact e
theorem Ks.tk {s l c : Addr} {t : Nat} {lg cl : List Int} {H H' : Hp} (k : Ks s l H H') (S : Src H s l c t lg cl) : TK H H' := fun b xs e => by
  refine k b _ (fun z => ?_) (fun z => ?_) e
  · rw [z, S.hs] at e; cases e
  · have := S.hl
    unfold Il at this
    rw [z, this] at e; cases e
theorem Ks.free {s l p : Addr} {H H' : Hp} (k : Ks s l H H') (h1 : p ≠ s) (h2 : p ≠ l) (h : H' p = none) : H p = none := by
  cases e : H p with
  | none => rfl
  | some u => rw [k p u h1 h2 e] at h; cases h
theorem Src.keep {s l c : Addr} {t : Nat} {lg cl : List Int} {H H' : Hp} (S : Src H s l c t lg cl) (h : Same H H') : Src H' s l c t lg cl := ⟨h _ _ S.hs, h _ _ S.hl, h _ _ S.hc, S.ne, S.n0, S.n64, S.m64⟩
theorem Src.sl {s l c : Addr} {t : Nat} {lg cl : List Int} {H : Hp} (S : Src H s l c t lg cl) : s ≠ l ∧ s ≠ c := by
  have h1 := S.hl
  have h2 := S.hc
  unfold Il at h1 h2
  constructor
  · intro z
    rw [← z, S.hs] at h1; cases h1
  · intro z
    rw [← z, S.hs] at h2; cases h2
section
variable {P : Program} {w : World} {K : PySem.W.Frag} {mg : Str → Option Value} {base : Heap} {f : Addr} {fd : FuncData}
/-! ### _law_source -/
abbrev sSrc : Stmt := top 22
abbrev psSrc : List Str := ["_law_script"]
abbrev nsSrc : List Str := ["_law_script", "_law_cells", "_law_cell"]
def spSrc (K : PySem.W.Frag) : Sp := fun vs H Q _ => ∃ (a : Addr) (ns : List Int), vs = [.ref a] ∧ SqL K H a (ns.map V.int) ∧ ns.length ≤ 63 ∧ ∀ s l c lg cl H', Same H H' → H s = none → H l = none → Src H' s l c 0 lg cl → Q (.ref s) H'
theorem scSrc : FnScope nsSrc psSrc (defScope sSrc) := ⟨rfl, rfl, rfl, by decide +kernel, rfl, by decide +kernel, by decide +kernel⟩
theorem ok_src (D : DefAt K mg "_law_source" sSrc psSrc f fd) (B : Blt mg) : FnOk P w K mg base CX0 1 f fd psSrc (spSrc K) := by
  refine D.F.ok scSrc (fun vs H Q E h => ?_) (fun cdv A outer s H vs Q E hr h => ?_)
  · obtain ⟨a, ns, rfl, _⟩ := h
    rfl
  obtain ⟨a, ns, rfl, hS, few, q⟩ := h
  have nd := scSrc.nd
  refine ⟨_, pss_cons (ps_setLc (i := 1) (own := [("_law_cell", 2)]) (g := gName 2) rfl nd rfl rfl (sw_true rfl rfl rfl (by decide +kernel)) (pi_list (pv 0)) (blkOk_by (N := nsSrc) (sc := defScope sSrc) (by decide +kernel))
      (fun _ _ _ _ _ => pg_name (i := 2) nd rfl (Or.inl rfl)) (fun _ _ _ _ _ => pts_nil) (fun _ _ _ _ _ => pe_callB call_abs (by rfl) B.abs (by decide +kernel) (pa_cons (pv 2) pa_nil)))
    (pss_one (ps_ret (pe_disp (pps_cons pe_str (pe_lc (own := [("_law_cell", 2)]) (g := gName 2) rfl nd (pi_list (pv 1)) (blkOk_by (N := nsSrc) (sc := defScope sSrc) (by decide +kernel)) (fun _ _ _ _ _ => pg_name (i := 2) nd rfl (Or.inl rfl))
        (fun _ _ _ _ _ => pts_one (pt_cmpR op_gt (pv 2) (pe_op op_pow pe_int pe_int) (nomark _))) (fun _ _ _ _ _ => pv 2))
      (pps_cons pe_str (pe_op op_catLt (pv 1) (pe_lt (pa_cons (pe_op op_add (pe_callB call_lenLt (by rfl) B.len PySem.boot_len (pa_cons (pv 1) pa_nil)) pe_int) pa_nil)))
      (pps_cons pe_str pe_int pps_nil))) rfl rfl (fun z => by cases z) (by decide)))), ?_⟩
  let ab : Int → Int := fun i => if i < 0 then -i else i
  have hln : (ns.map V.int).length = ns.length := List.length_map ..
  refine ⟨_, rfl, a, rfl, ⟨_, hS⟩, fun D1 hD1 => ?_⟩
  refine lc_it (walk_list (K := K) (a := a) (xs := ns.map V.int)) (LcP H D1 fun i => ((ns.take i).map ab).map iD) (LcP.start hD1 rfl) (fun i G _ p => p.1.seq hS) ?_ ?_
  · rintro i z H2 G hi p ⟨hh, hz⟩
    subst G
    rw [List.getElem?_map] at hz
    obtain ⟨n, hn, rfl⟩ := Option.map_eq_some_iff.mp hz
    refine ⟨rfl, _, rfl, n, rfl, ?_⟩
    refine p.put hD1 (Same.refl _) (.int _) ?_ ?_
    · show ((ns.take (i + 1)).map ab).map iD = ((ns.take i).map ab).map iD ++ [iD (ab n)]
      rw [take_snoc hn, List.map_append, List.map_append]; rfl
    · rw [List.length_map, List.length_map, List.length_take]; exact small1000 (by omega)
  intro H2 p
  obtain ⟨s2, l2⟩ := p
  rw [hln] at l2
  have l2 : Lt H2 D1 (((ns.take ns.length).map ab).map iD) := l2
  rw [List.take_length] at l2
  intro sd hsd
  have g3 : Same H2 (upd H2 sd (.dK [])) := same_new hsd
  have l3 := l2.keep g3
  have u3 : (upd H2 sd (.dK [])) sd = some (.dK []) := upd_same
  generalize upd H2 sd (.dK []) = H3 at g3 l3 u3
  obtain ⟨cvs, hcv, tcv⟩ := id l3
  have ecv := tcv.intsI
  subst ecv
  refine ⟨_, rfl, D1, rfl, ⟨_, SqL.of hcv⟩, fun D2 hD2 => ?_⟩
  refine lc_it (walk_list (K := K) (a := D1) (xs := (ns.map ab).map V.int)) (LcP H3 D2 fun i => (((ns.map ab).take i).filter fun z => decide ((10 ^ 17 : Int) < z)).map iD) (LcP.start hD2 rfl) (fun i G _ p => SqL.of (p.1 _ _ hcv)) ?_ ?_
  · rintro i z H4 G hi p ⟨hh, hz⟩
    subst G
    rw [List.getElem?_map] at hz
    obtain ⟨n, hn, rfl⟩ := Option.map_eq_some_iff.mp hz
    refine ⟨rfl, _, rfl, _, _, rfl, rfl, ⟨by decide, by decide, by decide⟩, _, _, rfl, rfl, _, rfl, ?_⟩
    have ht := take_snoc hn
    have e17 : (10 : Int) ^ (17 : Int).toNat = 10 ^ 17 := rfl
    rw [e17]
    by_cases c : (10 ^ 17 : Int) < n
    · refine itY (decide_eq_true c) ⟨_, rfl, p.put hD2 (Same.refl _) (.int n) ?_ ?_⟩
      · rw [ht, List.filter_append, List.filter_cons_of_pos (by simpa using c), List.map_append]; rfl
      · rw [List.length_map]
        have h1 := List.length_filter_le (fun z => decide ((10 ^ 17 : Int) < z)) ((ns.map ab).take i)
        rw [List.length_take, List.length_map] at h1
        exact small1000 (by omega)
    · refine itN (decide_eq_false c) (p.skip (Same.refl _) ?_)
      rw [ht, List.filter_append, List.filter_cons_of_neg (by simpa using c)]; simp
  intro H4 p
  obtain ⟨s4, l4⟩ := p
  rw [List.length_map] at l4
  have l4 : Lt H4 D2 ((((ns.map ab).take (ns.map ab).length).filter fun z => decide ((10 ^ 17 : Int) < z)).map iD) := l4
  rw [List.take_length] at l4
  have hD1n : D1 ≠ D2 := fun z => by rw [← z, hcv] at hD2; cases hD2
  refine ⟨_, rfl, _, rfl, D1, _, rfl, l3.keep s4, _, _, rfl, rfl, _, TDs.one (.int _), szl (by simp), fun pn H5 hpn s5 l5 => ?_⟩
  refine ⟨D1, pn, _, _, rfl, rfl, (l3.keep s4).keep s5, l5, szl (by rw [List.length_map, List.length_map, List.length_singleton]; omega), fun cc H6 hcc s6 l6 => ?_⟩
  have s36 := s4.trans (s5.trans s6)
  have lD2 := (l4.keep s5).keep s6
  have hcsd : cc ≠ sd := fun z => by
    have := (s4.trans s5) _ _ u3
    rw [← z, hcc] at this; cases this
  have hc2 : D2 ≠ cc := fun z => by
    obtain ⟨_, e, _⟩ := l4.keep s5
    rw [z, hcc] at e; cases e
  have h2sd : D2 ≠ sd := fun z => by
    rw [z, u3] at hD2; cases hD2
  refine ⟨s36 _ _ u3, [(Sum.inr "large", .ref D2), (Sum.inr "cells", .ref cc), (Sum.inr "turn", .int 0)], rfl, by simp, ?_⟩
  have hsdH : H sd = none := s2.free hsd
  have sA : Same H H6 := s2.trans (g3.trans s36)
  have hlen6 : (ns.map ab).length = ns.length := List.length_map ..
  have l6 : Lt H6 cc (((ns.map ab) ++ [((((ns.map ab).map iD).length : Nat) : Int) + 5]).map iD) := by
    rw [List.map_append]
    exact l6
  refine q sd D2 cc ((ns.map ab).filter fun z => decide ((10 ^ 17 : Int) < z)) ((ns.map ab) ++ [((((ns.map ab).map iD).length : Nat) : Int) + 5]) _ (Same.put hsdH sA) hsdH ((s2.trans g3).free hD2) ⟨upd_same, ?_, ?_, hc2, by simp, by rw [List.length_append, hlen6, List.length_singleton]; omega, ?_⟩
  · show upd H6 sd _ D2 = _
    rw [upd_ne h2sd]
    exact lD2.il
  · show upd H6 sd _ cc = _
    rw [upd_ne hcsd]
    exact l6.il
  · have h1 := List.length_filter_le (fun z => decide ((10 ^ 17 : Int) < z)) (ns.map ab)
    rw [hlen6] at h1
    omega
end
end KW
/-! K74: the law's draws -/
namespace KW
open L2 PySem PySem.Spec PyProof.Rows
theorem src_turn (l c : Addr) (t : Nat) : putK (srcK l c t) (Sum.inr "turn") (natV (t + 1)) = srcK l c (t + 1) := rfl
theorem mod_nat (z : Int) {m : Nat} (h : 0 < m) : V.int (z % (m : Int)) = natV (z % (m : Int)).toNat ∧ (z % (m : Int)).toNat < m := by
  have h1 : 0 ≤ z % (m : Int) := Int.emod_nonneg z (by omega)
  have h2 : z % (m : Int) < (m : Int) := Int.emod_lt_of_pos z (by omega)
  refine ⟨?_, by omega⟩
  unfold natV
  rw [Int.toNat_of_nonneg h1]
section
variable {P : Program} {w : World} {K : PySem.W.Frag} {mg : Str → Option Value} {base : Heap} {f : Addr} {fd : FuncData}
/-! ### _law_below -/
abbrev sBel : Stmt := top 23
abbrev psBel : List Str := ["_law_source_here", "_law_many"]
abbrev nsBel : List Str := ["_law_source_here", "_law_many", "_law_large", "_law_found", "_law_turn", "_law_cell", "_law_mixed"]
def spBel : Sp := fun vs H Q _ => ∃ (s l c : Addr) (t m : Nat) (lg cl : List Int), vs = [.ref s, natV m] ∧ 0 < m ∧ m < 1073741824 ∧ Src H s l c t lg cl ∧ t < 1000000 ∧
  ∀ r lg' t' H', r < m → t' ≤ t + 1 → Ks s l H H' → Src H' s l c t' lg' cl → Q (natV r) H'
theorem scBel : FnScope nsBel psBel (defScope sBel) := ⟨rfl, rfl, rfl, by decide +kernel, rfl, by decide +kernel, by decide +kernel⟩
theorem ok_bel (D : DefAt K mg "_law_below" sBel psBel f fd) (B : Blt mg) : FnOk P w K mg base CX0 1 f fd psBel spBel := by
  refine D.F.ok scBel (fun vs H Q E h => ?_) (fun cdv A outer s H vs Q E hr h => ?_)
  · obtain ⟨s, l, c, t, m, lg, cl, rfl, _⟩ := h
    rfl
  obtain ⟨s, l, c, t, m, lg, cl, rfl, hm, hm2, S, ht, q⟩ := h
  have nd := scBel.nd
  have hu := hu_of hr
  refine ⟨_, pss_cons (ps_set (i := 2) nd rfl (Or.inl rfl) (pe_dget hu (pv 0) pe_str (fun _ _ => rfl)))
    (pss_cons (ps_if (pt_cmpR (op_neNil (hu64' hr)) (pv 2) (pe_lt pa_nil) (nomark _))
      (pss_cons (ps_set (i := 3) nd rfl (Or.inl rfl) (pe_op op_mod (pe_ix ix_Lt (pv 2) pe_int (fun _ _ => rfl)) (pv 1)))
      (pss_cons (ps_asg (pe_op op_fdiv (pe_ix ix_Lt (pv 2) pe_int (fun _ _ => rfl)) (pv 1)) (pg_sub (pv 2) pe_int set_list))
      (C8.pss_cut (ps_if (pt_cmpR op_eq (pe_ix ix_Lt (pv 2) pe_int (fun _ _ => rfl)) pe_int (nomark _)) (pss_one (ps_expr (pe_bm PySem.F.plainAttrs_list PySem.F.slot_list_pop PySem.F.type_list_pop mt_popAt (pv 2) (pa_cons pe_int pa_nil)))) pss_nil)
      (pss_one (ps_ret (pv 3)))))) pss_nil)
    (pss_cons (ps_set (i := 4) nd rfl (Or.inl rfl) (pe_op op_add (pe_dget hu (pv 0) pe_str (fun _ _ => rfl)) pe_int))
    (pss_cons (ps_dput hu (pv 0) pe_str (pv 4) rfl)
    (pss_cons (ps_set (i := 5) nd rfl (Or.inl rfl) (pe_op op_mod (pe_ix ix_Lt (pe_dget hu (pv 0) pe_str (fun _ _ => rfl)) (pe_op op_mod (pv 4) (pe_callB call_lenLt (by rfl) B.len PySem.boot_len (pa_cons (pe_dget hu (pv 0) pe_str (fun _ _ => rfl)) pa_nil))) (fun _ _ => rfl)) pe_int))
    (pss_cons (ps_set (i := 6) nd rfl (Or.inl rfl) (pe_op op_mod (pe_op op_add (pe_op op_add (pe_op op_mul (pv 5) (pe_op op_add pe_int (pe_op op_mul pe_int (pv 4)))) (pe_op op_mul (pe_op op_mul pe_int (pv 4)) (pv 4))) pe_int) pe_int))
    (pss_one (ps_ret (pe_op op_mod (pe_op op_mod (pe_op op_fdiv (pe_op op_mul (pv 6) (pv 6)) pe_int) pe_int) (pv 1))))))))), ?_⟩
  have gL : ∀ t, valV (srcK l c t) (Sum.inr "large") = some (V.ref l) := fun _ => rfl
  have gC : ∀ t, valV (srcK l c t) (Sum.inr "cells") = some (V.ref c) := fun _ => rfl
  have gT : ∀ t, valV (srcK l c t) (Sum.inr "turn") = some (natV t) := fun _ => rfl
  refine ⟨_, rfl, s, .ref l, rfl, gL t ▸ DGet.k (k := Sum.inr "large") S.hs, ?_⟩
  refine ⟨_, rfl, _, .nil, szl (by simp), fun pn H1 hpn s1 ln => ?_⟩
  have S1 := S.keep s1
  refine ⟨l, pn, _, rfl, rfl, S1.hl.lt, ln, fun e he => ?_, _, rfl, ?_⟩
  · obtain ⟨z, _, rfl⟩ := List.mem_map.mp he
    exact nice_int _ _
  cases lg with
  | cons n0 lg =>
    refine itY rfl ?_
    refine ⟨_, rfl, l, _, 0, _, rfl, rfl, S1.hl.lt, atI_nat (j := 0) rfl, fun v0 t0 => ?_⟩
    obtain rfl := (show TD H1 v0 (.int n0) from t0).invI
    obtain ⟨er, lr⟩ := mod_nat n0 hm
    refine ⟨_, rfl, n0, (m : Int), rfl, rfl, by show (0 : Int) < (m : Int); omega, ?_⟩
    dsimp only
    rw [er]
    generalize (n0 % (m : Int)).toNat = r at lr
    refine ⟨_, rfl, l, _, 0, _, rfl, rfl, S1.hl.lt, atI_nat (j := 0) rfl, fun v0 t0 => ?_⟩
    obtain rfl := (show TD H1 v0 (.int n0) from t0).invI
    refine ⟨_, rfl, n0, (m : Int), rfl, rfl, ⟨by show (0 : Int) < (m : Int); omega, by show (m : Int) < 1073741824; omega⟩, ?_⟩
    refine ⟨_, rfl, l, _, 0, 0, rfl, rfl, S1.hl, (by unfold ixN; simp), ?_⟩
    have S2 : Src (upd H1 l (.lst (((n0 :: lg).map V.int).set 0 (.int (n0 / (m : Int)))))) s l c t ((n0 / (m : Int)) :: lg) cl := by
      refine ⟨?_, upd_same, ?_, S1.ne, S1.n0, S1.n64, S1.m64⟩
      · rw [upd_ne S1.sl.1]; exact S1.hs
      · show upd H1 l _ c = _
        rw [upd_ne (Ne.symm S1.ne)]; exact S1.hc
    have k2 : Ks s l H (upd H1 l (.lst (((n0 :: lg).map V.int).set 0 (.int (n0 / (m : Int)))))) := (Ks.same s1).trans (Ks.put (.inr rfl))
    generalize upd H1 l (.lst (((n0 :: lg).map V.int).set 0 (.int (n0 / (m : Int))))) = H2 at S2 k2
    refine ⟨fun σ' H' => ∃ lg', σ' = [some (.ref s), some (natV m), some (.ref l), some (natV r), none, none, none] ∧ Src H' s l c t lg' cl ∧ Ks s l H H', ?_, ?_⟩
    · refine ⟨_, rfl, l, _, 0, _, rfl, rfl, S2.hl.lt, atI_nat (j := 0) rfl, fun v0 t0 => ?_⟩
      obtain rfl := (show TD H2 v0 (.int (n0 / (m : Int))) from t0).invI
      refine ⟨rfl, _, rfl, ?_⟩
      by_cases cz : V.int (n0 / (m : Int)) = V.int 0
      · refine itY (decide_eq_true cz) ?_
        refine ⟨_, rfl, ⟨.inl ⟨rfl, _, SqL.of S2.hl⟩, ?_⟩⟩
        refine ⟨l, _, 0, 0, .int (n0 / (m : Int)), rfl, rfl, S2.hl, by decide, by decide, ?_, rfl, lg, rfl, ?_, k2.trans (Ks.put (.inr rfl))⟩
        · unfold seqIndex?
          simp
        · refine ⟨?_, upd_same, ?_, S2.ne, S2.n0, S2.n64, ?_⟩
          · rw [upd_ne S2.sl.1]; exact S2.hs
          · show upd H2 l _ c = _
            rw [upd_ne (Ne.symm S2.ne)]; exact S2.hc
          · have := S2.m64
            rw [List.length_cons] at this
            omega
      · exact itN (decide_eq_false cz) ⟨_, rfl, S2, k2⟩
    · rintro σ' H' ⟨lg', rfl, S', k'⟩
      exact ⟨_, rfl, q r lg' t H' lr (by omega) k' S'⟩
  | nil =>
    refine itN rfl ?_
    refine ⟨_, rfl, s, natV t, rfl, gT t ▸ DGet.k (k := Sum.inr "turn") S1.hs, ?_⟩
    refine ⟨(t : Int), 1, rfl, rfl, ?_⟩
    refine ⟨_, rfl, _, rfl, s, _, rfl, DPut.k (k := Sum.inr "turn") S1.hs (by show 3 < sizeLine; exact small1000 (by decide)), ?_⟩
    have et : V.int ((t : Int) + 1) = natV (t + 1) := rfl
    dsimp only
    rw [et, src_turn]
    have S2 : Src (upd H1 s (.dK (srcK l c (t + 1)))) s l c (t + 1) [] cl := by
      refine ⟨upd_same, ?_, ?_, S1.ne, S1.n0, S1.n64, S1.m64⟩
      · show upd H1 s _ l = _
        rw [upd_ne (Ne.symm S1.sl.1)]; exact S1.hl
      · show upd H1 s _ c = _
        rw [upd_ne (Ne.symm S1.sl.2)]; exact S1.hc
    have k2 : Ks s l H (upd H1 s (.dK (srcK l c (t + 1)))) := (Ks.same s1).trans (Ks.put (.inl rfl))
    generalize upd H1 s (.dK (srcK l c (t + 1))) = H2 at S2 k2
    have hcl : 0 < cl.length := List.length_pos_iff.mpr S2.n0
    refine ⟨_, rfl, s, .ref c, rfl, gC _ ▸ DGet.k (k := Sum.inr "cells") S2.hs, ?_⟩
    refine ⟨_, rfl, _, rfl, s, .ref c, rfl, gC _ ▸ DGet.k (k := Sum.inr "cells") S2.hs, c, _, rfl, S2.hc.lt, ?_⟩
    rw [List.length_map]
    refine ⟨((t + 1 : Nat) : Int), (cl.length : Int), rfl, rfl, by show (0 : Int) < (cl.length : Int); omega, ?_⟩
    obtain ⟨ei, li⟩ := mod_nat ((t + 1 : Nat) : Int) hcl
    dsimp only
    rw [ei]
    generalize (((t + 1 : Nat) : Int) % (cl.length : Int)).toNat = i at li
    refine ⟨c, _, (i : Int), iD cl[i], rfl, rfl, S2.hc.lt, atI_nat (by rw [List.getElem?_map, List.getElem?_eq_getElem li]; rfl), fun v0 t0 => ?_⟩
    obtain rfl := (show TD H2 v0 (.int cl[i]) from t0).invI
    refine ⟨_, _, rfl, rfl, by show (0 : Int) < 2147483629; decide, ?_⟩
    have b1 : 0 ≤ cl[i] % 2147483629 := Int.emod_nonneg _ (by decide)
    have b2 : cl[i] % 2147483629 < 2147483629 := Int.emod_lt_of_pos _ (by decide)
    dsimp only
    generalize cl[i] % 2147483629 = ce at b1 b2
    have z1 : natV (t + 1) = V.int ((t + 1 : Nat) : Int) := rfl
    generalize hT : ((t + 1 : Nat) : Int) = T at z1
    have hT1 : 0 ≤ T := by omega
    have hT2 : T < 1000001 := by omega
    -- _law_mixed
    refine ⟨_, rfl, _, rfl, 69621, T, rfl, z1, .inl ⟨by decide, by decide⟩, ?_⟩
    refine ⟨40014, _, rfl, rfl, ?_⟩
    refine ⟨ce, _, rfl, rfl, .inl ⟨by omega, by omega⟩, ?_⟩
    refine ⟨_, rfl, 48271, T, rfl, z1, .inl ⟨by decide, by decide⟩, ?_⟩
    refine ⟨_, rfl, 48271 * T, T, rfl, z1, .inr ⟨by omega, by omega⟩, ?_⟩
    refine ⟨_, _, rfl, rfl, ?_⟩
    refine ⟨_, 7, rfl, rfl, ?_⟩
    refine ⟨_, 2147483647, rfl, rfl, by show (0 : Int) < 2147483647; decide, ?_⟩
    dsimp only
    generalize ce * (40014 + 69621 * T) + 48271 * T * T + 7 = mx
    have m1 : 0 ≤ mx % 2147483647 := Int.emod_nonneg _ (by decide)
    have m2 : mx % 2147483647 < 2147483647 := Int.emod_lt_of_pos _ (by decide)
    generalize mx % 2147483647 = my at m1 m2
    refine ⟨_, rfl, _, rfl, my, my, rfl, rfl, .inl ⟨by omega, by omega⟩, ?_⟩
    refine ⟨my * my, 32, rfl, rfl, ⟨by decide, by decide⟩, ?_⟩
    refine ⟨_, 2147483587, rfl, rfl, by show (0 : Int) < 2147483587; decide, ?_⟩
    dsimp only
    generalize my * my / 32 % 2147483587 = mz
    refine ⟨_, rfl, mz, (m : Int), rfl, rfl, by show (0 : Int) < (m : Int); omega, ?_⟩
    obtain ⟨er, lr⟩ := mod_nat mz hm
    dsimp only
    rw [er]
    exact q _ [] (t + 1) H2 lr (Nat.le_refl _) k2 S2
end
end KW
/-! K74: picks, drawn parts -/
namespace KW
open L2 PySem PySem.Spec PyProof.Rows
/-- all but these stands -/
def Kx (ex : List Addr) (H H' : Hp) : Prop := ∀ b u, b ∉ ex → H b = some u → H' b = some u
section
variable {ex : List Addr} {H H1 H2 : Hp}
theorem Kx.refl : Kx ex H H := fun _ _ _ h => h
theorem Kx.trans (a : Kx ex H H1) (b : Kx ex H1 H2) : Kx ex H H2 := fun x u h1 h => b x u h1 (a x u h1 h)
theorem Kx.same (h : Same H H1) : Kx ex H H1 := fun b u _ e => h b u e
theorem Kx.put {a : Addr} {o : HO} (k : Kx ex H H1) (h : a ∈ ex ∨ H a = none) : Kx ex H (upd H1 a o) := fun b u h1 e => by
  have : b ≠ a := by
    rintro rfl
    rcases h with z | z
    · exact h1 z
    · rw [z] at e; cases e
  rw [upd_ne this]; exact k b u h1 e
theorem Ks.kx {s l : Addr} (k : Ks s l H H1) (hs : s ∈ ex) (hl : l ∈ ex) : Kx ex H H1 := fun b u h1 e => k b u (fun z => h1 (z ▸ hs)) (fun z => h1 (z ▸ hl)) e
theorem Kx.tk (k : Kx ex H H1) (h : ∀ b ∈ ex, ∀ xs, H b ≠ some (.tup xs)) : TK H H1 := fun b xs e => k b _ (fun z => h b z xs e) e
theorem Kx.free {p : Addr} (k : Kx ex H H1) (h1 : p ∉ ex) (h : H1 p = none) : H p = none := by
  cases e : H p with
  | none => rfl
  | some u => rw [k p u h1 e] at h; cases h
end
theorem Src.notup {H : Hp} {s l c : Addr} {t : Nat} {lg cl : List Int} (S : Src H s l c t lg cl) : ∀ b ∈ [s, l], ∀ xs, H b ≠ some (.tup xs) := fun b hb xs e => by
  rcases List.mem_cons.mp hb with rfl | hb
  · rw [S.hs] at e; cases e
  · rw [List.mem_singleton.mp hb] at e
    have := S.hl
    unfold Il at this
    rw [this] at e; cases e
section
variable {X : Cx}
def rDbl : R2 := fun x y H Q => ∃ k, x = .str (devN k) ∧ y = .int 2 ∧ Q (.str (briN k)) H
theorem op_dbl : OpR X (binaryOp .Mult) rDbl := by
  intro pins s σ H x y v u Q I rx ry want
  obtain ⟨k, rfl, rfl, q⟩ := want
  obtain ⟨t, rfl⟩ := rx
  obtain ⟨t', rfl⟩ := ry
  refine PySem.P.mul_str (by decide) (fun _ _ => by show ¬ ((1 : Nat) : Int) > _; decide) (fun _ _ => by show Builtin.Str.tooLong 2 = false; decide +kernel) ?_
  rw [if_neg (by decide), if_neg (by show ¬ (((2 : Int) == 1 || (1 : Nat) == 0) = true); decide)]
  refine ⟨?_, .str (briN k), H, I.tok _, ⟨_, rfl⟩, q⟩
  show 2 ≤ sizeLine
  exact szl (by decide)
end
section
variable {P : Program} {w : World} {K : PySem.W.Frag} {mg : Str → Option Value} {base : Heap} {f : Addr} {fd : FuncData}
abbrev BeC' (P : Program) (w : World) (K : PySem.W.Frag) (mg : Str → Option Value) (base : Heap) : Prop := Cal P w K mg base 1 "_law_below" psBel spBel
/-! ### _law_pick -/
abbrev sPick : Stmt := top 24
abbrev psPick : List Str := ["_law_source_here", "_law_items"]
def spPick : Sp := fun vs H Q _ => ∃ (s l c a : Addr) (t : Nat) (lg cl : List Int) (ds : List PyData), vs = [.ref s, .ref a] ∧ Lt H a ds ∧ ds ≠ [] ∧ ds.length ≤ 1000 ∧ a ≠ s ∧ a ≠ l ∧ Src H s l c t lg cl ∧ t < 1000000 ∧
  ∀ v d lg' t' H', d ∈ ds → TD H' v d → t' ≤ t + 1 → Ks s l H H' → Src H' s l c t' lg' cl → Q v H'
theorem scPick : FnScope psPick psPick (defScope sPick) := ⟨rfl, rfl, rfl, by decide +kernel, rfl, by decide +kernel, by decide +kernel⟩
theorem ok_pick (D : DefAt K mg "_law_pick" sPick psPick f fd) (B : Blt mg) (C : BeC' P w K mg base) : FnOk P w K mg base CX0 2 f fd psPick spPick := by
  refine D.F.ok scPick (fun vs H Q E h => ?_) (fun cdv A outer s H vs Q E hr h => ?_)
  · obtain ⟨s, l, c, a, t, lg, cl, ds, rfl, _⟩ := h
    rfl
  obtain ⟨s, l, c, a, t, lg, cl, ds, rfl, hl, hne, hz, hs, hl', S, ht, q⟩ := h
  refine ⟨_, pss_one (ps_ret (pe_ix ix_Lt (pv 1) (pe_cal C hr rfl (pa_cons (pv 0) (pa_cons (pe_callB call_lenLt (by rfl) B.len PySem.boot_len (pa_cons (pv 1) pa_nil)) pa_nil))) (fun _ _ => rfl))), ?_⟩
  have h0 : 0 < ds.length := List.length_pos_iff.mpr hne
  refine ⟨_, rfl, _, rfl, _, rfl, a, ds, rfl, hl, s, l, c, t, ds.length, lg, cl, rfl, h0, by omega, S, ht, fun r lg' t' H' hr2 ht' k S' => ?_⟩
  obtain ⟨vs, hv, tv⟩ := hl
  have hv' := k a _ hs hl' hv
  refine ⟨a, ds, (r : Int), ds[r], rfl, rfl, ⟨vs, hv', tv.k (k.tk S)⟩, atI_nat (List.getElem?_eq_getElem hr2), fun v tv' => ?_⟩
  exact q v ds[r] lg' t' H' (List.getElem_mem hr2) tv' ht' k S'
/-! ### _law_part -/
def Mz : Nat → Nat
  | 0 => 0
  | n + 1 => 4 * Mz n + 1
def Nz : Nat → Nat
  | 0 => 0
  | n + 1 => 2 + 4 * Nz n
/-- numbers of parts, each once, in a window -/
def Win (ids : List Nat) (a b : Nat) : Prop := ids.Nodup ∧ ∀ i ∈ ids, a ≤ i ∧ i < b
theorem Win.nil (a : Nat) : Win [] a a := ⟨List.nodup_nil, fun _ h => nomatch h⟩
theorem Win.append {x y : List Nat} {a b c : Nat} (h1 : Win x a b) (h2 : Win y b c) (hab : a ≤ b) (hbc : b ≤ c) : Win (x ++ y) a c := by
  refine ⟨List.nodup_append.mpr ⟨h1.1, h2.1, fun i hi j hj e => ?_⟩, fun i hi => ?_⟩
  · have := (h1.2 i hi).2
    have := (h2.2 j hj).1
    omega
  · rcases List.mem_append.mp hi with h | h
    · have := h1.2 i h; omega
    · have := h2.2 i h; omega
theorem Win.one (a b : Nat) (h : a < b) : Win [a] a b := ⟨by simp, fun i hi => by rw [List.mem_singleton.mp hi]; omega⟩
theorem win_len : ∀ (n : Nat) (ids : List Nat), ids.Nodup → (∀ i ∈ ids, i < n) → ids.length ≤ n
  | 0, [], _, _ => Nat.le_refl _
  | 0, i :: _, _, h => absurd (h i List.mem_cons_self) (Nat.not_lt_zero _)
  | n + 1, ids, nd, h => by
    have ih := win_len n (ids.erase n) (nd.erase n) fun i hi => by
      have := (nd.mem_erase_iff).mp hi
      have := h i this.2
      omega
    have := List.length_erase (a := n) (l := ids)
    split at this <;> omega
/-- the counts at k -/
def Cnt (H : Hp) (k d b : Nat) : Prop := Il H k [(d : Int), (b : Int), 3]
theorem idL_snoc : ∀ (ps : List Part) (p : Part), idL (ps ++ [p]) = idL ps ++ idP p
  | [], p => by rw [List.nil_append, idL, idL, idL, List.append_nil, List.nil_append]
  | r :: ps, p => by rw [List.cons_append, idL, idL, idL_snoc ps p, List.append_assoc]
theorem dpL_snoc : ∀ (ps : List Part) (p : Part), dpL (ps ++ [p]) = max (dpL ps) (dpP p)
  | [], p => by simp [dpL]
  | r :: ps, p => by rw [List.cons_append, dpL, dpL, dpL_snoc ps p, Nat.max_assoc]
theorem szL_snoc (ps : List Part) (p : Part) : szL (ps ++ [p]) = szL ps + szP p := by rw [szL_append, szL, szL]; rfl
theorem Src.put {s l c D : Addr} {t : Nat} {lg cl : List Int} {H : Hp} {o : HO} (S : Src H s l c t lg cl) (h1 : s ≠ D) (h2 : l ≠ D) (h3 : c ≠ D) : Src (upd H D o) s l c t lg cl := by
  refine ⟨?_, ?_, ?_, S.ne, S.n0, S.n64, S.m64⟩
  · rw [upd_ne h1]; exact S.hs
  · show upd H D o l = _
    rw [upd_ne h2]; exact S.hl
  · show upd H D o c = _
    rw [upd_ne h3]; exact S.hc
/-- parts drawn so far -/
def PartsP (H0 : Hp) (D s l c k t0 d0 b0 n : Nat) (cl : List Int) (i : Nat) (G : Hp) : Prop := ∃ (pts : List Part) (t d b : Nat) (lg : List Int), pts.length = i ∧ Kx [s, l, k] H0 G ∧ Lt G D (pts.map partD) ∧ Src G s l c t lg cl ∧ Cnt G k d b ∧
  d0 ≤ d ∧ b0 ≤ b ∧ d ≤ 16 ∧ b ≤ 8 ∧ Win (idL pts) (d0 + b0) (d + b) ∧ dpL pts ≤ n ∧ szL pts ≤ i * Mz n ∧ t ≤ t0 + i * Nz n
theorem notupK {s l c k d b t : Nat} {lg cl : List Int} {H : Hp} (S : Src H s l c t lg cl) (C : Cnt H k d b) : ∀ a ∈ [s, l, k], ∀ xs, H a ≠ some (.tup xs) := fun a ha xs e => by
  simp only [List.mem_cons, List.not_mem_nil, or_false] at ha
  rcases ha with z | z | z
  · rw [z, S.hs] at e; cases e
  · have h1 := S.hl
    unfold Il at h1
    rw [z, h1] at e; cases e
  · have h1 := C
    unfold Cnt Il at h1
    rw [z, h1] at e; cases e
theorem PartsP.start {H0 : Hp} {D s l c k t d b n : Nat} {lg cl : List Int} (hD : H0 D = none) (S : Src H0 s l c t lg cl) (C : Cnt H0 k d b) (hd : d ≤ 16) (hb : b ≤ 8) : PartsP H0 D s l c k t d b n cl 0 (upd H0 D (.lst [])) := by
  have hne := same_new (H := H0) (p := D) (o := .lst []) hD
  exact ⟨[], t, d, b, lg, rfl, Kx.same hne, Lt.new hD .nil, S.keep hne, hne _ _ C, Nat.le_refl _, Nat.le_refl _, hd, hb, Win.nil _, Nat.zero_le _, Nat.zero_le _, by omega⟩
theorem PartsP.put {H0 G H' : Hp} {D s l c k t0 d0 b0 n i t d b t' d' b' : Nat} {lg0 lg lg' cl : List Int} {pts : List Part} {v : V} {pt : Part} {dd0 bb0 tt0 : Nat} (hD : H0 D = none) (S0 : Src H0 s l c tt0 lg0 cl) (C0 : Cnt H0 k dd0 bb0)
    (hl : pts.length = i) (k0 : Kx [s, l, k] H0 G) (lt : Lt G D (pts.map partD)) (S : Src G s l c t lg cl) (C : Cnt G k d b) (h1 : d0 ≤ d) (h2 : b0 ≤ b) (W : Win (idL pts) (d0 + b0) (d + b)) (hdp : dpL pts ≤ n) (hsz : szL pts ≤ i * Mz n) (ht : t ≤ t0 + i * Nz n)
    (td : TD H' v (partD pt)) (p1 : dpP pt ≤ n) (p2 : szP pt ≤ Mz n) (p3 : Win (idP pt) (d + b) (d' + b')) (p4 : d ≤ d') (p5 : b ≤ b') (p6 : d' ≤ 16) (p7 : b' ≤ 8) (p8 : t' ≤ t + Nz n) (kx : Kx [s, l, k] G H') (S' : Src H' s l c t' lg' cl) (C' : Cnt H' k d' b') (hi : i < 1000) :
    ∃ acc, H' D = some (.lst acc) ∧ acc.length < sizeLine ∧ PartsP H0 D s l c k t0 d0 b0 n cl (i + 1) (upd H' D (.lst (acc ++ [v]))) := by
  have hDs : s ≠ D := fun z => by rw [← z, S0.hs] at hD; cases hD
  have hDl : l ≠ D := fun z => by
    have := S0.hl
    unfold Il at this
    rw [← z, this] at hD; cases hD
  have hDc : c ≠ D := fun z => by
    have := S0.hc
    unfold Il at this
    rw [← z, this] at hD; cases hD
  have hDk : k ≠ D := fun z => by
    have h1 := C0
    unfold Cnt Il at h1
    rw [← z, h1] at hD; cases hD
  obtain ⟨vs, hv, tv⟩ := lt
  have hv' := kx D _ (by simp [Ne.symm hDs, Ne.symm hDl, Ne.symm hDk]) hv
  have tk : TK G H' := kx.tk (notupK S C)
  have nt : ∀ xs, H' D ≠ some (.tup xs) := fun xs z => by rw [hv'] at z; cases z
  have hm : (i + 1) * Mz n = i * Mz n + Mz n := Nat.succ_mul _ _
  have hm2 : (i + 1) * Nz n = i * Nz n + Nz n := Nat.succ_mul _ _
  refine ⟨vs, hv', by rw [tv.length, List.length_map, hl]; exact small1000 (by omega), pts ++ [pt], t', d', b', lg', by rw [List.length_append, hl]; rfl, (k0.trans kx).put (.inr hD), ⟨vs ++ [v], upd_same, ?_⟩, S'.put hDs hDl hDc, ?_, by omega, by omega, p6, p7, ?_, ?_, ?_, by omega⟩
  · rw [List.map_append]
    exact ((tv.k tk).append (TDs.one td)).k (TK.put nt)
  · show upd H' D _ k = _
    rw [upd_ne hDk]; exact C'
  · rw [idL_snoc]
    exact W.append p3 (by omega) (by omega)
  · rw [dpL_snoc]; omega
  · rw [szL_snoc]; omega
abbrev sPrt : Stmt := top 25
abbrev psPrt : List Str := ["_law_source_here", "_law_counts", "_law_above"]
abbrev nsPrt : List Str := ["_law_source_here", "_law_counts", "_law_above", "_law_way_here", "_law_number", "_law_name", "_law_many", "_law_k"]
def spPrt (n : Nat) : Sp := fun vs H Q _ => ∃ (s l c k a t d b : Nat) (lg cl : List Int), vs = [.ref s, .ref k, natV a] ∧ a + n = 4 ∧ a ≤ 3 ∧ Src H s l c t lg cl ∧ Cnt H k d b ∧ k ≠ l ∧ k ≠ c ∧ d ≤ 16 ∧ b ≤ 8 ∧ t + Nz n < 1000000 ∧
  ∀ v pt lg' t' d' b' H', TD H' v (partD pt) → dpP pt ≤ n → szP pt ≤ Mz n → Win (idP pt) (d + b) (d' + b') → d ≤ d' → b ≤ b' → d' ≤ 16 → b' ≤ 8 → t' ≤ t + Nz n → Kx [s, l, k] H H' → Src H' s l c t' lg' cl → Cnt H' k d' b' → Q v H'
theorem scPrt : FnScope nsPrt psPrt (defScope sPrt) := ⟨rfl, rfl, rfl, by decide +kernel, rfl, by decide +kernel, by decide +kernel⟩
theorem abc_at : ∀ n, n < 26 → (Str.ofString "abcdefghijklmnopqrstuvwxyz").cps.toList[n]? = some (97 + n) := by decide +kernel
theorem ok_prt_step {n : Nat} (D : DefAt K mg "_law_part" sPrt psPrt f fd) (B : Blt mg) (CB : BeC' P w K mg base) (C : Cal P w K mg base (n + 1) "_law_part" psPrt (spPrt n)) : FnOk P w K mg base CX0 (n + 2) f fd psPrt (spPrt (n + 1)) := by
  refine D.F.ok scPrt (fun vs H Q E h => ?_) (fun cdv A outer s H vs Q E hr h => ?_)
  · obtain ⟨s, l, c, k, a, t, d, b, lg, cl, rfl, _⟩ := h
    rfl
  obtain ⟨s, l, c, k, a, t, d, b, lg, cl, rfl, han, ha3, S, Ck, hkl, hkc, hd, hb, ht, q⟩ := h
  have nd := scPrt.nd
  have hr1 := hr.mono (show 1 ≤ n + 1 by omega)
  refine ⟨_, pss_cons (ps_par (i := 3) (j := 4) (by rfl) nd rfl rfl (by decide) rfl rfl (pa_cons (pe_cal CB hr1 rfl (pa_cons (pv 0) (pa_cons pe_int pa_nil))) (pa_cons (pe_op op_add (pe_ix ix_Lt (pv 1) pe_int (fun _ _ => rfl)) (pe_ix ix_Lt (pv 1) pe_int (fun _ _ => rfl))) pa_nil)) (by rfl))
    (pss_cons (ps_if (PW.pt (pw_or (pt_cmpR op_eq (pv 3) pe_int (nomark _)) (pw_or1 (pt_cmpR op_eq (pe_ix ix_Lt (pv 1) pe_int (fun _ _ => rfl)) pe_int (nomark _))))) (pss_one (ps_ret pe_non)) pss_nil)
    (pss_cons (ps_set (i := 5) nd rfl (Or.inl rfl) (pe_ix ix_str pe_str (pv 4) (fun _ _ => rfl)))
    (C8.pss_cut (ps_if (PW.pt (pw_and (pt_cmpR op_lt (pv 3) pe_int (nomark _)) (pw_and (pt_cmpR op_lt (pe_ix ix_Lt (pv 1) pe_int (fun _ _ => rfl)) pe_int (nomark _)) (pw_and1 (pt_cmpR op_lt (pv 2) (pe_ix ix_Lt (pv 1) pe_int (fun _ _ => rfl)) (nomark _))))))
      (pss_cons (ps_asg (pe_op op_add (pe_ix ix_Lt (pv 1) pe_int (fun _ _ => rfl)) pe_int) (pg_sub (pv 1) pe_int set_list))
      (pss_cons (ps_set (i := 6) nd rfl (Or.inl rfl) (pe_op op_add pe_int (pe_cal CB hr1 rfl (pa_cons (pv 0) (pa_cons pe_int pa_nil)))))
      (pss_one (ps_ret (pe_td (pa_cons pe_str (pa_cons (pe_op op_dbl (pv 5) pe_int) (pa_cons (pe_td pa_nil) (pa_cons (pe_callTy call_tupLt (by rfl) B.tuple PyProof.Rows.boot_tuple
        (pa_cons (pe_lc (own := [("_law_k", 7)]) (g := gName 7) rfl nd (pi_range1 (by rfl) B.range (pa_cons (pv 6) pa_nil)) (blkOk_by (N := nsPrt) (sc := defScope sPrt) (by decide +kernel)) (fun _ _ _ _ _ => pg_name (i := 7) nd rfl (Or.inl rfl)) (fun _ _ _ _ _ => pts_nil)
          (fun _ _ _ _ _ => pe_cal C hr rfl (pa_cons (pv 0) (pa_cons (pv 1) (pa_cons (pe_op op_add (pv 2) pe_int) pa_nil))))) pa_nil)) pa_nil))))))))) pss_nil)
    (pss_cons (ps_asg (pe_op op_add (pe_ix ix_Lt (pv 1) pe_int (fun _ _ => rfl)) pe_int) (pg_sub (pv 1) pe_int set_list))
    (pss_one (ps_ret (pe_td (pa_cons pe_str (pa_cons (pv 5) (pa_cons (pe_td pa_nil) pa_nil)))))))))), ?_⟩
  have hN : Nz (n + 1) = 2 + 4 * Nz n := rfl
  have hM : Mz (n + 1) = 4 * Mz n + 1 := rfl
  have hsk : k ≠ s := fun z => by
    have h1 := Ck
    unfold Cnt Il at h1
    rw [z, S.hs] at h1; cases h1
  -- the draw
  refine ⟨_, rfl, s, l, c, t, 5, lg, cl, rfl, by decide, by decide, S, by omega, fun r lg1 t1 H1 hr5 ht1 k1 S1 => ?_⟩
  have Ck1 : Cnt H1 k d b := k1 k _ hsk hkl Ck
  refine ⟨_, rfl, k, _, 0, _, rfl, rfl, Ck1.lt, atI_nat (j := 0) rfl, fun v0 t0 => ?_⟩
  obtain rfl := (show TD H1 v0 (.int (d : Int)) from t0).invI
  refine ⟨_, rfl, k, _, 1, _, rfl, rfl, Ck1.lt, atI_nat (j := 1) rfl, fun v0 t0 => ?_⟩
  obtain rfl := (show TD H1 v0 (.int (b : Int)) from t0).invI
  refine ⟨(d : Int), (b : Int), rfl, rfl, _, _, rfl, ?_⟩
  have en : V.int ((d : Int) + (b : Int)) = natV (d + b) := rfl
  have kx1 : Kx [s, l, k] H H1 := k1.kx (by simp) (by simp)
  -- way == 0 or full
  have hnone : ∀ (Hx : Hp), Hx = H1 → Q .non Hx := fun Hx e => by
    subst e
    exact q .non .none lg1 t1 d b _ (by rw [partD]; exact .non) (Nat.zero_le _) (by rw [szP, hM]; omega) (by
      rw [idP]
      exact Win.nil _) (Nat.le_refl _) (Nat.le_refl _) hd hb (by omega) kx1 S1 Ck1
  refine ⟨_, rfl, rfl, _, rfl, ?_⟩
  by_cases c0 : natV r = V.int 0
  · exact itY (decide_eq_true c0) (itY rfl (hnone _ rfl))
  refine itN (decide_eq_false c0) ?_
  refine ⟨_, rfl, k, _, 0, _, rfl, rfl, Ck1.lt, atI_nat (j := 0) rfl, fun v0 t0 => ?_⟩
  obtain rfl := (show TD H1 v0 (.int (d : Int)) from t0).invI
  refine ⟨rfl, _, rfl, ?_⟩
  by_cases c16 : V.int (d : Int) = V.int 16
  · exact itY (decide_eq_true c16) (hnone _ rfl)
  refine itN (decide_eq_false c16) ?_
  have hd16 : d ≠ 16 := fun z => c16 (by rw [z]; rfl)
  -- the name
  refine ⟨_, rfl, _, _, 97 + (d + b), rfl, en, szl (by decide), atI_nat (abc_at (d + b) (by omega)), ?_⟩
  have ename : (V.str ⟨#[97 + (d + b)]⟩) = V.str (devN (d + b)) := rfl
  dsimp only
  rw [ename]
  refine ⟨fun σ' H' => σ' = [some (.ref s), some (.ref k), some (natV a), some (natV r), some (natV (d + b)), some (.str (devN (d + b))), none, none] ∧ H' = H1, ?_, ?_⟩
  · refine ⟨_, rfl, _, _, rfl, rfl, _, rfl, ?_⟩
    by_cases q1' : ¬ ((r : Int) < 3)
    · exact itN (decide_eq_false q1') (itN rfl ⟨rfl, rfl⟩)
    have q1 : (r : Int) < 3 := by omega
    refine itY (decide_eq_true q1) ?_
    refine ⟨_, rfl, k, _, 1, _, rfl, rfl, Ck1.lt, atI_nat (j := 1) rfl, fun v0 t0 => ?_⟩
    obtain rfl := (show TD H1 v0 (.int (b : Int)) from t0).invI
    refine ⟨_, _, rfl, rfl, _, rfl, ?_⟩
    by_cases q2' : ¬ ((b : Int) < 8)
    · exact itN (decide_eq_false q2') (itN rfl ⟨rfl, rfl⟩)
    have q2 : (b : Int) < 8 := by omega
    refine itY (decide_eq_true q2) ?_
    refine ⟨_, rfl, _, rfl, k, _, 2, _, rfl, rfl, Ck1.lt, atI_nat (j := 2) rfl, fun v0 t0 => ?_⟩
    obtain rfl := (show TD H1 v0 (.int 3) from t0).invI
    refine ⟨_, _, rfl, rfl, _, rfl, ?_⟩
    by_cases q3' : ¬ ((a : Int) < 3)
    · exact itN (decide_eq_false q3') ⟨rfl, rfl⟩
    have q3 : (a : Int) < 3 := by omega
    refine itY (decide_eq_true q3) ?_
    -- a bridge
    refine ⟨_, rfl, k, _, 1, _, rfl, rfl, Ck1.lt, atI_nat (j := 1) rfl, fun v0 t0 => ?_⟩
    obtain rfl := (show TD H1 v0 (.int (b : Int)) from t0).invI
    refine ⟨_, _, rfl, rfl, _, rfl, k, _, 1, 1, rfl, rfl, Ck1, (by unfold ixN; simp), ?_⟩
    have hks : s ≠ k := Ne.symm hsk
    have S2 : Src (upd H1 k (.lst (([(d : Int), (b : Int), 3].map V.int).set 1 (.int ((b : Int) + 1))))) s l c t1 lg1 cl := S1.put hks (Ne.symm hkl) (Ne.symm hkc)
    have C2 : Cnt (upd H1 k (.lst (([(d : Int), (b : Int), 3].map V.int).set 1 (.int ((b : Int) + 1))))) k d (b + 1) := upd_same
    have kx2 : Kx [s, l, k] H (upd H1 k (.lst (([(d : Int), (b : Int), 3].map V.int).set 1 (.int ((b : Int) + 1))))) := kx1.put (.inl (by simp))
    dsimp only
    generalize upd H1 k (.lst (([(d : Int), (b : Int), 3].map V.int).set 1 (.int ((b : Int) + 1)))) = H2 at S2 C2 kx2
    refine ⟨_, rfl, s, l, c, t1, 4, lg1, cl, rfl, by decide, by decide, S2, by omega, fun r2 lg3 t3 H3 hr4 ht3 k3 S3 => ?_⟩
    have C3 : Cnt H3 k d (b + 1) := k3 k _ hsk hkl C2
    have kx3 : Kx [s, l, k] H H3 := kx2.trans (k3.kx (by simp) (by simp))
    refine ⟨1, (r2 : Int), rfl, rfl, ?_⟩
    refine ⟨_, rfl, d + b, rfl, rfl, ?_⟩
    refine ⟨_, .nil, szl (by simp), fun ve H4 s4 te => ?_⟩
    have S4 := S3.keep s4
    have C4 : Cnt H4 k d (b + 1) := s4 _ _ C3
    refine ⟨_, rfl, _, rfl, by omega, by omega, fun Dl hD => ?_⟩
    rw [show ((1 : Int) + (r2 : Int)).toNat = 1 + r2 by omega]
    refine lc_it walk_range (PartsP H4 Dl s l c k t3 d (b + 1) n cl) (PartsP.start hD S4 C4 hd (by omega)) (fun _ _ _ _ => trivial) ?_ ?_
    · rintro i z G G' hi p ⟨hh, hz⟩
      subst G'
      obtain rfl := hz.trans (z_nat i)
      obtain ⟨pts, t5, d5, b5, lg5, g1, g2, g3, g4, g5, g6, g7, g8, g9, g10, g11, g12, g13⟩ := p
      have hti : i * Nz n ≤ 3 * Nz n := Nat.mul_le_mul_right _ (by omega)
      refine ⟨rfl, _, rfl, _, rfl, _, rfl, _, _, rfl, rfl, s, l, c, k, a + 1, t5, d5, b5, lg5, cl, rfl, by omega, by omega, g4, g5, hkl, hkc, g8, g9, by omega, fun v pt lg' t' d' b' H' e1 e2 e3 e4 e5 e6 e7 e8 e9 e10 e11 e12 => ?_⟩
      exact PartsP.put hD S4 C4 g1 g2 g3 g4 g5 g6 g7 g10 g11 g12 g13 e1 e2 e3 e4 e5 e6 e7 e8 e9 e10 e11 e12 (by omega)
    intro G p
    obtain ⟨pts, t5, d5, b5, lg5, g1, g2, g3, g4, g5, g6, g7, g8, g9, g10, g11, g12, g13⟩ := p
    have hti : (1 + r2) * Nz n ≤ 4 * Nz n := Nat.mul_le_mul_right _ (by omega)
    have hmi : (1 + r2) * Mz n ≤ 4 * Mz n := Nat.mul_le_mul_right _ (by omega)
    refine ⟨Dl, _, rfl, g3, fun vt H6 s6 t6 => ?_⟩
    have te6 : TD H6 ve (.tuple []) := (te.k (g2.tk (notupK S4 C4))).k (TK.same s6)
    refine ⟨[.str "bridge", .str (briN (d + b)), .tuple [], .tuple (pts.map partD)], .cons (.str _) (.cons (.str _) (.cons te6 (TDs.one t6))), szl (by simp), fun vr H7 s7 t7 => ?_⟩
    have s67 := s6.trans s7
    refine q vr (.bri (d + b) pts) lg5 t5 d5 b5 H7 ?_ ?_ ?_ ?_ (by omega) (by omega) g8 g9 (by omega) (((kx3.trans (Kx.same s4)).trans g2).trans (Kx.same s67)) (g4.keep s67) (s67 _ _ g5)
    · rw [partD, partsD_map]; exact t7
    · rw [dpP]; omega
    · rw [szP]; omega
    · rw [idP]
      exact (Win.one (d + b) (d + (b + 1)) (by omega)).append g10 (by omega) (by omega)
  · rintro σ' H' ⟨rfl, rfl⟩
    refine ⟨_, rfl, k, _, 0, _, rfl, rfl, Ck1.lt, atI_nat (j := 0) rfl, fun v0 t0 => ?_⟩
    obtain rfl := (show TD _ v0 (.int (d : Int)) from t0).invI
    refine ⟨_, _, rfl, rfl, _, rfl, k, _, 0, 0, rfl, rfl, Ck1, (by unfold ixN; simp), ?_⟩
    have hks : s ≠ k := Ne.symm hsk
    have S2 : Src (upd H' k (.lst (([(d : Int), (b : Int), 3].map V.int).set 0 (.int ((d : Int) + 1))))) s l c t1 lg1 cl := S1.put hks (Ne.symm hkl) (Ne.symm hkc)
    have C2 : Cnt (upd H' k (.lst (([(d : Int), (b : Int), 3].map V.int).set 0 (.int ((d : Int) + 1))))) k (d + 1) b := upd_same
    have kx2 : Kx [s, l, k] H (upd H' k (.lst (([(d : Int), (b : Int), 3].map V.int).set 0 (.int ((d : Int) + 1))))) := kx1.put (.inl (by simp))
    dsimp only
    generalize upd H' k (.lst (([(d : Int), (b : Int), 3].map V.int).set 0 (.int ((d : Int) + 1)))) = H2 at S2 C2 kx2
    refine ⟨_, rfl, _, .nil, szl (by simp), fun ve H4 s4 te => ?_⟩
    refine ⟨[.str "device", .str (devN (d + b)), .tuple []], .cons (.str _) (.cons (.str _) (TDs.one te)), szl (by simp), fun vr H7 s7 t7 => ?_⟩
    have s47 := s4.trans s7
    refine q vr (.dev (d + b)) lg1 t1 (d + 1) b H7 ?_ ?_ ?_ ?_ (by omega) (Nat.le_refl _) (by omega) hb (by omega) (kx2.trans (Kx.same s47)) (S2.keep s47) (s47 _ _ C2)
    · rw [partD]; exact t7
    · rw [dpP]; omega
    · rw [szP, hM]; omega
    · rw [idP]
      exact Win.one (d + b) _ (by omega)
theorem ok_prt (D : DefAt K mg "_law_part" sPrt psPrt f fd) (B : Blt mg) (CB : BeC' P w K mg base) : ∀ n, FnOk P w K mg base CX0 (n + 1) f fd psPrt (spPrt n)
  | 0 => (none_sp fun vs H Q E h => by
    obtain ⟨_, _, _, _, _, _, _, _, _, _, _, h1, h2, _⟩ := h
    omega).mono (Nat.zero_le _)
  | n + 1 => ok_prt_step D B CB (D.cal (ok_prt D B CB n))
end
end KW
/-! K74: drawn trees -/
namespace KW
open L2 PySem PySem.Spec PyProof.Rows
section
variable {P : Program} {w : World} {K : PySem.W.Frag} {mg : Str → Option Value} {base : Heap} {f : Addr} {fd : FuncData}
abbrev PrC (P : Program) (w : World) (K : PySem.W.Frag) (mg : Str → Option Value) (base : Heap) : Prop := Cal P w K mg base 5 "_law_part" psPrt (spPrt 4)
abbrev sTree : Stmt := top 26
abbrev psTree : List Str := ["_law_source_here", "_law_most"]
abbrev nsTree : List Str := ["_law_source_here", "_law_most", "_law_counts", "_law_k"]
def spTree : Sp := fun vs H Q _ => ∃ (s l c t : Nat) (lg cl : List Int), vs = [.ref s, .int 3] ∧ Src H s l c t lg cl ∧ t < 100000 ∧
  ∀ v ps lg' t' H', TD H' v (treeD ps) → TreeOk ps → t' ≤ t + 1100 → Ks s l H H' → Src H' s l c t' lg' cl → Q v H'
theorem scTree : FnScope nsTree psTree (defScope sTree) := ⟨rfl, rfl, rfl, by decide +kernel, rfl, by decide +kernel, by decide +kernel⟩
theorem ok_tree (D : DefAt K mg "_law_tree" sTree psTree f fd) (B : Blt mg) (CB : BeC' P w K mg base) (C : PrC P w K mg base) : FnOk P w K mg base CX0 6 f fd psTree spTree := by
  refine D.F.ok scTree (fun vs H Q E h => ?_) (fun cdv A outer s H vs Q E hr h => ?_)
  · obtain ⟨s, l, c, t, lg, cl, rfl, _⟩ := h
    rfl
  obtain ⟨s, l, c, t, lg, cl, rfl, S, ht, q⟩ := h
  have nd := scTree.nd
  refine ⟨_, pss_cons (ps_set (i := 2) nd rfl (Or.inr rfl) (pe_lt (pa_cons pe_int (pa_cons pe_int (pa_cons (pv 1) pa_nil)))))
    (pss_one (ps_ret (pe_td (pa_cons pe_str (pa_cons (pe_td pa_nil) (pa_cons (pe_callTy call_tupLt (by rfl) B.tuple PyProof.Rows.boot_tuple
        (pa_cons (pe_lc (own := [("_law_k", 3)]) (g := gName 3) rfl nd (pi_range1 (by rfl) B.range (pa_cons (pe_op op_add pe_int (pe_cal CB (hr.mono (by decide)) rfl (pa_cons (pv 0) (pa_cons pe_int pa_nil)))) pa_nil)) (blkOk_by (N := nsTree) (sc := defScope sTree) (by decide +kernel)) (fun _ _ _ _ _ => pg_name (i := 3) nd rfl (Or.inl rfl)) (fun _ _ _ _ _ => pts_nil)
          (fun _ _ _ _ _ => pe_cal C hr rfl (pa_cons (pv 0) (pa_cons (pv 2) (pa_cons pe_int pa_nil))))) pa_nil)) pa_nil)))))), ?_⟩
  have hN : Nz 4 = 170 := by decide
  have hM : Mz 4 = 85 := by decide
  refine ⟨_, rfl, [iD 0, iD 0, iD 3], .cons (.int _) (.cons (.int _) (TDs.one (.int _))), szl (by simp), fun k H1 hk s1 lk => ?_⟩
  have C1 : Cnt H1 k 0 0 := Lt.il (ns := [((0 : Nat) : Int), ((0 : Nat) : Int), 3]) lk
  have S1 := S.keep s1
  have hks : k ≠ s := fun z => by
    rw [z, S.hs] at hk; cases hk
  have hkl : k ≠ l := fun z => by
    have := S.hl
    unfold Il at this
    rw [z, this] at hk; cases hk
  have hkc : k ≠ c := fun z => by
    have := S.hc
    unfold Il at this
    rw [z, this] at hk; cases hk
  refine ⟨_, .nil, szl (by simp), fun ve H2 s2 te => ?_⟩
  have S2 := S1.keep s2
  have C2 : Cnt H2 k 0 0 := s2 _ _ C1
  refine ⟨_, rfl, s, l, c, t, 5, lg, cl, rfl, by decide, by decide, S2, by omega, fun r lg3 t3 H3 hr5 ht3 k3 S3 => ?_⟩
  have C3 : Cnt H3 k 0 0 := k3 k _ hks hkl C2
  have te3 := te.k (k3.tk S2)
  refine ⟨2, (r : Int), rfl, rfl, ?_⟩
  refine ⟨_, rfl, by omega, by omega, fun Dl hD => ?_⟩
  rw [show ((2 : Int) + (r : Int)).toNat = 2 + r by omega]
  have hti : (2 + r) * Nz 4 ≤ 6 * Nz 4 := Nat.mul_le_mul_right _ (by omega)
  have hmi : (2 + r) * Mz 4 ≤ 6 * Mz 4 := Nat.mul_le_mul_right _ (by omega)
  refine lc_it walk_range (PartsP H3 Dl s l c k t3 0 0 4 cl) (PartsP.start hD S3 C3 (by omega) (by omega)) (fun _ _ _ _ => trivial) ?_ ?_
  · rintro i z G G' hi p ⟨hh, hz⟩
    subst G'
    obtain ⟨pts, t5, d5, b5, lg5, g1, g2, g3, g4, g5, g6, g7, g8, g9, g10, g11, g12, g13⟩ := p
    have hti : i * Nz 4 ≤ 6 * Nz 4 := Nat.mul_le_mul_right _ (by omega)
    refine ⟨rfl, _, rfl, _, rfl, s, l, c, k, 0, t5, d5, b5, lg5, cl, rfl, by omega, by omega, g4, g5, hkl, hkc, g8, g9, by omega, fun v pt lg' t' d' b' H' e1 e2 e3 e4 e5 e6 e7 e8 e9 e10 e11 e12 => ?_⟩
    exact PartsP.put hD S3 C3 g1 g2 g3 g4 g5 g6 g7 g10 g11 g12 g13 e1 e2 e3 e4 e5 e6 e7 e8 e9 e10 e11 e12 (by omega)
  intro G p
  obtain ⟨pts, t5, d5, b5, lg5, g1, g2, g3, g4, g5, g6, g7, g8, g9, g10, g11, g12, g13⟩ := p
  refine ⟨Dl, _, rfl, g3, fun vt H6 s6 t6 => ?_⟩
  have te6 : TD H6 ve (.tuple []) := (te3.k (g2.tk (notupK S3 C3))).k (TK.same s6)
  refine ⟨[.str "tree", .tuple [], .tuple (pts.map partD)], .cons (.str _) (.cons te6 (TDs.one t6)), szl (by simp), fun vr H7 s7 t7 => ?_⟩
  have s67 := s6.trans s7
  have kk : Kx [s, l, k] H H7 := ((((Kx.same (s1.trans s2)).trans (k3.kx (by simp) (by simp)))).trans g2).trans (Kx.same s67)
  refine q vr pts lg5 t5 H7 ?_ ⟨by omega, by omega, g10.1, win_len 24 _ g10.1 fun i hi => by have := (g10.2 i hi).2; omega⟩ (by omega) (fun b u h1 h2 e => kk b u (fun z => ?_) e) (g4.keep s67)
  · rw [treeD, partsD_map]; exact t7
  · simp only [List.mem_cons, List.not_mem_nil, or_false] at z
    rcases z with z | z | z
    · exact h1 z
    · exact h2 z
    · rw [z, hk] at e; cases e
end
end KW
/-! K74: rules for the law's own def -/
namespace KW
open L2 PySem PySem.Spec PyProof.Rows
section
variable {X : Cx}
/-- in, not in: a tuple of data -/
def rInTu : R2 := fun x y H Q => ∃ d ds, TD H y (.tuple ds) ∧ TD H x d ∧ Good d ∧ (∀ e ∈ ds, Good e) ∧ ∀ b : Bool, (b = true ↔ d ∈ ds) → Q (.bl b) H
def rNotInTu : R2 := fun x y H Q => ∃ d ds, TD H y (.tuple ds) ∧ TD H x d ∧ Good d ∧ (∀ e ∈ ds, Good e) ∧ ∀ b : Bool, (b = true ↔ d ∈ ds) → Q (.bl (!b)) H
theorem tup_shaped {ds : List PyData} (gs : ∀ e ∈ ds, Good e) : SeqAt.shaped (.tuple ds) = true := (NiceN.tup fun e he => (gs e he).2).shaped (by decide)
theorem op_inTu (hu : X.A.units + 65 < cLine) : OpR X (compareOp .In) rInTu := by
  intro pins s σ H x y v u Q I rx ry want
  obtain ⟨d, ds, hl, hd, g, gs, q⟩ := want
  obtain ⟨as, r1⟩ := Dp.reads I d x v (hd.dp X.K) rx
  obtain ⟨bs, r2⟩ := Dp.reads I (.tuple ds) y u (hl.dp X.K) ry
  have sd := g.2.shaped (by decide)
  refine SeqAt.in_tuple_reads r2 r1 (SeqAt.canLay_of_shaped (tup_shaped gs)) (SeqAt.canLay_of_shaped sd) (room_in_shaped sd hu) ⟨.bl _, H, I, rfl, q _ (any_eqv g gs)⟩
theorem op_notInTu (hu : X.A.units + 65 < cLine) : OpR X (compareOp .NotIn) rNotInTu := by
  intro pins s σ H x y v u Q I rx ry want
  obtain ⟨d, ds, hl, hd, g, gs, q⟩ := want
  obtain ⟨as, r1⟩ := Dp.reads I d x v (hd.dp X.K) rx
  obtain ⟨bs, r2⟩ := Dp.reads I (.tuple ds) y u (hl.dp X.K) ry
  have sd := g.2.shaped (by decide)
  refine SeqAt.notIn_tuple_reads r2 r1 (SeqAt.canLay_of_shaped (tup_shaped gs)) (SeqAt.canLay_of_shaped sd) (room_in_shaped sd hu) ⟨.bl _, H, I, rfl, q _ (any_eqv g gs)⟩
/-- d.get(None, x), d.get(k, x) -/
def tGetN (td ty tx : TE) : TE := fun σ H Q => td σ H fun x H1 => ∃ a, x = .ref a ∧ IsD H1 a ∧ ty σ H1 fun y H2 => tx σ H2 fun z H3 => (∃ o, DGet H3 a y o ∧ Q (o.getD z) H3) ∨ ∃ kvs, y = .non ∧ Rd H3 a (.dK kvs) ∧ Q z H3
theorem d_getNone {pins : List (Addr × Obj)} {σ : L2.St} {H : Hp} {s : Shared} {a : Addr} {kvs : List (L2.Key × V)} {A : Around} {E : Value → Shared → Prop} {z : V} {r : Value} {Q : Value → Shared → Prop} (I : L2.Inv X pins σ H s) (g : Rd H a (.dK kvs)) (rz : RelV z r)
    (h : ∀ w' s', L2.Inv X pins σ H s' → RelV z w' → Q w' s') : wpAny (model X.prog X.w) A (call (.builtin "dict.get") [.ref a, .none, r]) Q E s := by
  obtain ⟨lo, hd, vs, rel, dd⟩ := dk_rd I.hok g
  obtain ⟨look, hm, hf⟩ := none_map dd
  refine call_meetsIn PySem.F.slot_dict_get dd.typeIs PySem.F.entry_dict_get (PySem.F.args_dict_get_3 _ _ _) (meets_dict_get_default (noneKind X.prog X.w) a (show (noneKind X.prog X.w).is none .none = true from rfl) hd r) ⟨look, hm, h _ _ (I.tok _) ?_⟩
  rw [hf]
  exact rz
theorem pe_getN {o e f : Expr} {apos cpos : Pos} {td ty tx : TE} (hu : X.A.units + 1 < cLine) (ho : PE X o td) (he : PE X e ty) (hf : PE X f tx) (m : M2 X o "get" apos e f cpos) : PE X (.Call (.Attribute o "get" apos) [e, f] [] cpos) (tGetN td ty tx) := by
  constructor
  intro pins s σ H Q I h
  refine wpAny_Call_method m.base m.few m.line PySem.F.plainAttrs_dict PySem.F.slot_dict_get PySem.F.type_dict_get (thn (ho.run pins s σ H _ I h) fun u s1 q0 => ?_)
  obtain ⟨x, H1, I1, rx, a, ex, d, q1⟩ := q0
  subst ex
  obtain rfl : u = Value.ref a := rx
  obtain ⟨isd1, isd2, _⟩ := isD_at I1 d
  refine ⟨isd1, isd2, ?_⟩
  rw [m.trees]
  refine Calls.callWith_builtin rfl (Calls.evalArgs_plain (Calls.spliced_cons (thn (he.run pins s1 σ H1 _ I1 q1) fun key s2 q2 => ?_)))
  obtain ⟨y, H2, I2, ry, q2⟩ := q2
  refine Calls.spliced_cons (thn (hf.run pins s2 σ H2 _ I2 q2) fun fv s3 q3 => Calls.spliced_nil ?_)
  obtain ⟨z, H3, I3, rz, q3⟩ := q3
  rcases q3 with ⟨ov, g, q3⟩ | ⟨kvs, ey, g, q3⟩
  · exact d_get2 hu I3 g ry rz fun w' s4 I4 rw' => ⟨_, H3, I4, rw', q3⟩
  · subst ey
    obtain rfl : key = Value.none := ry
    exact d_getNone I3 g rz fun w' s4 I4 rw' => ⟨z, H3, I4, rw', q3⟩
end
end KW
/-! K74: the law's dict of places, picks, what is due -/
namespace KW
open L2 PySem PySem.Spec PyProof.Rows
mutual
theorem pl_pc_P : ∀ (p : Part) (q : K74.Path) (x : Nat × K74.Path), x ∈ plP p q → (x.2, Part.dev x.1) ∈ pcP p q
  | .none, q, x, h => by rw [plP] at h; exact nomatch h
  | .dev k, q, x, h => by
    rw [plP, List.mem_singleton] at h
    subst h
    rw [pcP]; exact List.mem_singleton.mpr rfl
  | .bri k ps, q, x, h => by
    rw [plP] at h
    rw [pcP]
    exact List.mem_cons_of_mem _ (pl_pc_L ps q 0 x h)
theorem pl_pc_L : ∀ (ps : List Part) (q : K74.Path) (i : Nat) (x : Nat × K74.Path), x ∈ plL ps q i → (x.2, Part.dev x.1) ∈ pcL ps q i
  | [], _, _, x, h => by rw [plL] at h; exact nomatch h
  | p :: ps, q, i, x, h => by
    rw [plL] at h
    rw [pcL]
    rcases List.mem_append.mp h with h | h
    · exact List.mem_append.mpr (.inl (pl_pc_P p _ x h))
    · exact List.mem_append.mpr (.inr (pl_pc_L ps q _ x h))
end
mutual
theorem pl_ids_P : ∀ (p : Part) (q : K74.Path), ((plP p q).map (·.1)).Sublist (idP p)
  | .none, q => List.Sublist.refl _
  | .dev k, q => List.Sublist.refl _
  | .bri k ps, q => by rw [plP, idP]; exact (pl_ids_L ps q 0).cons _
theorem pl_ids_L : ∀ (ps : List Part) (q : K74.Path) (i : Nat), ((plL ps q i).map (·.1)).Sublist (idL ps)
  | [], _, _ => List.Sublist.refl _
  | p :: ps, q, i => by
    rw [plL, idL, List.map_append]
    exact (pl_ids_P p _).append (pl_ids_L ps q _)
end
/-- places as a list of a dict's items -/
theorem pl_pairs {H : Hp} (K : PySem.W.Frag) : ∀ {pl : List (Nat × K74.Path)} {vs : List V}, TDs H vs (pl.map placeD) → ∃ (psA : List Addr) (kvs : List (L2.Key × V)), vs = psA.map V.ref ∧ Paired (fun p kv => SqT K H p [kV kv.1, kv.2]) psA kvs ∧
    kvs.map (·.1) = pl.map (fun x => (Sum.inr (devN x.1) : L2.Key)) ∧ Paired (fun kv x => TD H kv.2 (pathD x.2)) kvs pl
  | [], vs, h => by
    cases h
    exact ⟨[], [], rfl, .nil, rfl, .nil⟩
  | x :: pl, vs, h => by
    cases h with
    | cons h1 h2 =>
      obtain ⟨psA, kvs, e1, e2, e3, e4⟩ := pl_pairs K h2
      obtain ⟨a, v, w, rfl, ha, t1, t2⟩ := TD.inv2 (show TD H _ (.tuple [.str (devN x.1), pathD x.2]) from h1)
      obtain rfl := t1.invS
      exact ⟨a :: psA, (Sum.inr (devN x.1), w) :: kvs, by rw [e1]; rfl, .cons (SqT.of ha) e2, by rw [List.map_cons, List.map_cons, e3], .cons t2 e4⟩
theorem merge_new : ∀ (more acc : List (L2.Key × V)), (∀ x ∈ more, valV acc x.1 = none) → (more.map (·.1)).Nodup → mergeK acc more = acc ++ more
  | [], acc, _, _ => by rw [List.append_nil]; rfl
  | p :: more, acc, h, nd => by
    rw [List.map_cons, List.nodup_cons] at nd
    have hp := h p List.mem_cons_self
    show mergeK (putK acc p.1 p.2) more = _
    rw [putK_new p.2 hp, merge_new more _ (fun x hx => ?_) nd.2, List.append_assoc]; rfl
    have hne : ¬ x.1 = p.1 := fun z => nd.1 (z ▸ List.mem_map.mpr ⟨x, hx, rfl⟩)
    rw [valV_snoc p.1 x.1 p.2 acc hp, if_neg hne]
    exact h x (List.mem_cons_of_mem _ hx)
theorem keys_nodup {pl : List (Nat × K74.Path)} (nd : (pl.map (·.1)).Nodup) : (pl.map (fun x => (Sum.inr (devN x.1) : L2.Key))).Nodup := by
  have : pl.map (fun x => (Sum.inr (devN x.1) : L2.Key)) = (pl.map (·.1)).map (fun k => (Sum.inr (devN k) : L2.Key)) := by rw [List.map_map]; rfl
  rw [this]
  exact K74.map_nodup nd fun a _ b _ e => devN_inj (by injection e)
theorem val_place {H : Hp} : ∀ {pl : List (Nat × K74.Path)} {kvs : List (L2.Key × V)} {k : Nat} {q : K74.Path}, kvs.map (·.1) = pl.map (fun x => (Sum.inr (devN x.1) : L2.Key)) → Paired (fun kv x => TD H kv.2 (pathD x.2)) kvs pl → (pl.map (·.1)).Nodup → (k, q) ∈ pl →
    ∃ v, valV kvs (Sum.inr (devN k)) = some v ∧ TD H v (pathD q)
  | [], _, _, _, _, _, _, h => nomatch h
  | x :: pl, [], _, _, e, _, _, _ => nomatch e
  | x :: pl, kv :: kvs, k, q, e, P, nd, h => by
    rw [List.map_cons, List.map_cons] at e
    injection e with e1 e2
    rw [List.map_cons, List.nodup_cons] at nd
    cases P with
    | cons p1 p2 =>
      rcases List.mem_cons.mp h with z | z
      · subst z
        exact ⟨kv.2, valV_pos e1, p1⟩
      · obtain ⟨v, h1, h2⟩ := val_place e2 p2 nd.2 z
        refine ⟨v, ?_, h2⟩
        rw [valV_neg, h1]
        intro y
        rw [e1] at y
        injection y with y
        exact nd.1 (devN_inj y ▸ List.mem_map.mpr ⟨_, z, rfl⟩)
/-- who stands where, of the drawn places -/
def Pk (pl : List (Nat × K74.Path)) : Option Nat → K74.Path → Prop
  | none, q => q = []
  | some k, q => (k, q) ∈ pl
theorem Pk.wh {ps : List Part} {o : Option Nat} {q : K74.Path} (h : Pk (plL ps [] 0) o q) : Wh ps o q := by
  cases o with
  | none => exact h
  | some k => exact pl_pc_L ps [] 0 (k, q) h
/-! ### the pairs -/
def kinds : List K74.Kd := [.answer, .read, .write]
def prs : List (K74.Kd × K74.Kd) := [(.answer, .read), (.answer, .write), (.read, .answer), (.read, .write), (.write, .answer), (.write, .read)]
def prF (i : Nat) : List (K74.Kd × K74.Kd) := ((List.range i).filter fun k => decide (k / 3 ≠ k % 3)).map fun k => (kinds.getD (k / 3) .read, kinds.getD (k % 3) .read)
theorem prF_9 : prF 9 = prs := by decide
theorem prs_ww : (K74.Kd.write, K74.Kd.write) ∉ prs := by decide
theorem due_miss (F : K74.Four) {al : K74.Al} (hw : (K74.Kd.write, K74.Kd.write) ∉ al) : K74.Miss F.rt al F.many ↔ (al.filter fun x => decide (x ∈ toldL F)) ≠ [] := by
  rw [K74.answer F hw]
  have hmem : ∀ x, x ∈ toldL F ↔ ((K74.lastOf F.p F.c F.d F.f ≠ K74.startOf F.p F.d F.f ∧ x = (.answer, .write)) ∨ (K74.lastOf F.p F.c F.d F.f ≠ F.d ∧ x = (.read, .write))) := by
    intro x
    unfold toldL
    rw [List.mem_append]
    by_cases h1 : K74.lastOf F.p F.c F.d F.f ≠ K74.startOf F.p F.d F.f <;> by_cases h2 : K74.lastOf F.p F.c F.d F.f ≠ F.d <;> simp [h1, h2]
  constructor
  · intro h e
    rw [List.filter_eq_nil_iff] at e
    rcases h with ⟨h1, h2⟩ | ⟨h1, h2⟩
    · exact e _ h2 (decide_eq_true ((hmem _).mpr (.inl ⟨h1, rfl⟩)))
    · exact e _ h2 (decide_eq_true ((hmem _).mpr (.inr ⟨h1, rfl⟩)))
  · intro h
    obtain ⟨x, hx⟩ := List.exists_mem_of_ne_nil _ h
    rw [List.mem_filter] at hx
    rcases (hmem x).mp (of_decide_eq_true hx.2) with ⟨h1, rfl⟩ | ⟨h1, rfl⟩
    · exact .inl ⟨h1, hx.1⟩
    · exact .inr ⟨h1, hx.1⟩
/-- the lists of allowed pairs, none of them at ex -/
inductive Als (ex : List Addr) (H : Hp) : List V → List K74.Al → Prop
  | nil : Als ex H [] []
  | cons {a : Addr} {al : K74.Al} {xs : List V} {als : List K74.Al} : Lt H a (al.map pairD) → a ∉ ex → Als ex H xs als → Als ex H (.ref a :: xs) (al :: als)
theorem Als.step {ex : List Addr} {H H' : Hp} : ∀ {xs : List V} {als : List K74.Al}, Als ex H xs als → Kx ex H H' → TK H H' → Als ex H' xs als
  | _, _, .nil, _, _ => .nil
  | _, _, .cons ⟨vs, e, t⟩ h1 h3, k, tk => .cons ⟨vs, k _ _ h1 e, t.k tk⟩ h1 (h3.step k tk)
theorem Als.keep {ex : List Addr} {H H' : Hp} {xs : List V} {als : List K74.Al} (h : Als ex H xs als) (g : Same H H') : Als ex H' xs als := h.step (Kx.same g) (TK.same g)
theorem Als.mono {ex ex' : List Addr} {H : Hp} (hx : ∀ a ∈ ex', a ∈ ex) : ∀ {xs : List V} {als : List K74.Al}, Als ex H xs als → Als ex' H xs als
  | _, _, .nil => .nil
  | _, _, .cons h1 h2 h3 => .cons h1 (fun z => h2 (hx _ z)) (h3.mono hx)
theorem Als.fresh {ex : List Addr} {H : Hp} {p : Addr} (hp : H p = none) : ∀ {xs : List V} {als : List K74.Al}, Als ex H xs als → Als (p :: ex) H xs als
  | _, _, .nil => .nil
  | _, _, .cons ⟨vs, e, t⟩ h2 h3 => .cons ⟨vs, e, t⟩ (fun z => by
      rcases List.mem_cons.mp z with rfl | z
      · rw [hp] at e; cases e
      · exact h2 z) (h3.fresh hp)
theorem Als.append {ex : List Addr} {H : Hp} : ∀ {xs ys : List V} {als bls : List K74.Al}, Als ex H xs als → Als ex H ys bls → Als ex H (xs ++ ys) (als ++ bls)
  | _, _, _, _, .nil, h => h
  | _, _, _, _, .cons h1 h2 h4, h => .cons h1 h2 (h4.append h)
theorem Als.length {ex : List Addr} {H : Hp} : ∀ {xs : List V} {als : List K74.Al}, Als ex H xs als → xs.length = als.length
  | _, _, .nil => rfl
  | _, _, .cons _ _ h => by rw [List.length_cons, List.length_cons, h.length]
theorem Als.get {ex : List Addr} {H : Hp} : ∀ {xs : List V} {als : List K74.Al} {i : Nat} {x : V}, Als ex H xs als → xs[i]? = some x → ∃ a al, x = .ref a ∧ als[i]? = some al ∧ Lt H a (al.map pairD)
  | _, _, _, _, .nil, e => by simp at e
  | _, _, 0, x, .cons h1 _ _, e => by simp at e; subst e; exact ⟨_, _, rfl, rfl, h1⟩
  | _, _, i + 1, x, .cons _ _ h, e => by
    obtain ⟨a, al, h1, h2, h3⟩ := Als.get (i := i) (x := x) h (by simpa using e)
    exact ⟨a, al, h1, by simpa using h2, h3⟩
theorem fn_ex {α : Type} {P : Program} {w : World} {K : PySem.W.Frag} {mg : Str → Option Value} {base : Heap} {k : Nat} {f : Addr} {fd : FuncData} {ps : List Str} {sp : α → Sp} (h : ∀ a, FnOk P w K mg base CX0 k f fd ps (sp a)) :
    FnOk P w K mg base CX0 k f fd ps (fun vs H Q E => ∃ a, sp a vs H Q E) :=
  ⟨fun vs H Q E ⟨a, q⟩ => (h a).1 vs H Q E q, fun A outer s H args us vs Q E h1 h2 h3 h4 ⟨a, q⟩ => (h a).2 A outer s H args us vs Q E h1 h2 h3 h4 q⟩
end KW
/-! K74: the law's own def -/
namespace KW
open L2 PySem PySem.Spec PyProof.Rows
theorem Lt.ks {s l c a t : Nat} {lg cl : List Int} {H H' : Hp} {ds : List PyData} (h : Lt H a ds) (k : Ks s l H H') (S : Src H s l c t lg cl) (h1 : a ≠ s) (h2 : a ≠ l) : Lt H' a ds :=
  let ⟨vs, e, tv⟩ := h; ⟨vs, k a _ h1 h2 e, tv.k (k.tk S)⟩
theorem Src.apart {s l c a t : Nat} {lg cl : List Int} {H : Hp} (S : Src H s l c t lg cl) (h : H a = none) : a ≠ s ∧ a ≠ l ∧ a ≠ c := by
  refine ⟨fun z => ?_, fun z => ?_, fun z => ?_⟩
  · rw [z, S.hs] at h; cases h
  · have := S.hl
    unfold Il at this
    rw [z, this] at h; cases h
  · have := S.hc
    unfold Il at this
    rw [z, this] at h; cases h
theorem Ks.putN {s l D : Addr} {H H' : Hp} {o : HO} (k : Ks s l H H') (h : H D = none) : Ks s l H (upd H' D o) := fun b u h1 h2 e => by
  rw [upd_ne (ne_of_none e h)]; exact k b u h1 h2 e
theorem TDs.rep {H : Hp} {vs : List V} {ds : List PyData} (h : TDs H vs ds) : ∀ n, TDs H (List.replicate n vs).flatten (List.replicate n ds).flatten
  | 0 => .nil
  | n + 1 => by
    rw [List.replicate_succ, List.flatten_cons, List.replicate_succ, List.flatten_cons]
    exact h.append (TDs.rep h n)
theorem TDs.strs {H : Hp} : ∀ l : List Str, TDs H (l.map V.str) (l.map PyData.str)
  | [] => .nil
  | a :: l => .cons (.str a) (TDs.strs l)
/-- the names drawn so far -/
def NameP (G0 : Hp) (nm s l c t0 : Nat) (cl : List Int) (pl : List (Nat × K74.Path)) (i : Nat) (G : Hp) : Prop := ∃ (oq : List (Option Nat × K74.Path)) (t : Nat) (lg : List Int), oq.length = i ∧ Ks s l G0 G ∧ Lt G nm (oq.map fun x => nmD x.1) ∧ Src G s l c t lg cl ∧
  t ≤ t0 + i ∧ ∀ x ∈ oq, Pk pl x.1 x.2
/-- the pairs drawn so far -/
def DrawP (G0 : Hp) (D s l c t0 : Nat) (cl : List Int) (i : Nat) (G : Hp) : Prop := ∃ (ds : List (K74.Kd × K74.Kd)) (t : Nat) (lg : List Int), Ks s l G0 G ∧ Lt G D (ds.map pairD) ∧ (∀ x ∈ ds, x ∈ prs) ∧ ds.length ≤ i ∧ Src G s l c t lg cl ∧ t ≤ t0 + i
/-- lists of one pair each so far -/
def SomP (G0 : Hp) (D s l : Nat) (i : Nat) (G : Hp) : Prop := Same G0 G ∧ ∃ xs, G D = some (.lst xs) ∧ Als [s, l, D] G xs ((prs.take i).map fun x => [x])
theorem pick_D {pl : List (Nat × K74.Path)} {ys : List Str} (hp : ys.Perm (pl.map fun x => devN x.1)) {d : PyData} (h : d ∈ (List.replicate 3 (ys.map PyData.str)).flatten ++ [.none]) : ∃ o q, d = nmD o ∧ Pk pl o q := by
  rcases List.mem_append.mp h with h | h
  · obtain ⟨l, hl, hd⟩ := List.mem_flatten.mp h
    rw [(List.mem_replicate.mp hl).2] at hd
    obtain ⟨y, hy, rfl⟩ := List.mem_map.mp hd
    obtain ⟨x, hx, rfl⟩ := List.mem_map.mp (hp.mem_iff.mp hy)
    exact ⟨some x.1, x.2, rfl, hx⟩
  · exact ⟨none, [], List.mem_singleton.mp h, rfl⟩
theorem kinds_at {j : Nat} (h : j < 3) : (kinds.map fun k => PyData.str (kS k))[j]? = some (.str (kS (kinds.getD j .read))) := by
  match j, h with
  | 0, _ => rfl
  | 1, _ => rfl
  | 2, _ => rfl
theorem prF_snoc_y {i : Nat} (h : i / 3 ≠ i % 3) : prF (i + 1) = prF i ++ [(kinds.getD (i / 3) .read, kinds.getD (i % 3) .read)] := by
  unfold prF
  rw [List.range_succ, List.filter_append, List.filter_cons_of_pos (by simpa using h), List.map_append]; rfl
theorem prF_snoc_n {i : Nat} (h : i / 3 = i % 3) : prF (i + 1) = prF i := by
  unfold prF
  rw [List.range_succ, List.filter_append, List.filter_cons_of_neg (by simpa using h), List.filter_nil, List.append_nil]
theorem prF_len (i : Nat) : (prF i).length ≤ i := by
  unfold prF
  rw [List.length_map]
  have := List.length_filter_le (fun k => decide (k / 3 ≠ k % 3)) (List.range i)
  rw [List.length_range] at this
  exact this
section
variable {P : Program} {w : World} {K : PySem.W.Frag} {mg : Str → Option Value} {base : Heap} {f : Addr} {fd : FuncData}
def spMissA : Sp := fun vs H Q E => ∃ x : K74.Rt × K74.Al × Nat, spMiss x.1 x.2.1 x.2.2 vs H Q E
def spRoutesA : Sp := fun vs H Q E => ∃ F : K74.Four, spRoutes F vs H Q E
/-- the defs that the law calls -/
structure LawC (P : Program) (w : World) (K : PySem.W.Frag) (mg : Str → Option Value) (base : Heap) : Prop where
  src : Cal P w K mg base 1 "_law_source" psSrc (spSrc K)
  bel : Cal P w K mg base 1 "_law_below" psBel spBel
  pick : Cal P w K mg base 2 "_law_pick" psPick spPick
  tree : Cal P w K mg base 6 "_law_tree" psTree spTree
  places : Cal P w K mg base 5 "_law_places" psPlaces (spPlaces 5)
  forb : Cal P w K mg base 13 "forbidden" psForb spForb
  routes : Cal P w K mg base 2 "_law_routes" psRoutes spRoutesA
  miss : Cal P w K mg base 6 "_law_can_miss" psMiss spMissA
abbrev sLaw : Stmt := top 39
abbrev psLaw : List Str := ["_law_script"]
abbrev nsLaw : List Str := ["_law_script", "_law_source_here", "_law_kinds", "_law_pairs", "_law_turn", "_law_tree_here", "_law_places_here", "_law_names", "_law_told", "_law_routes_here", "_law_many", "_law_some", "_law_allowed", "_law_due", "_law_k", "_law_name", "_law_pair"]
def spLaw (K : PySem.W.Frag) : Sp := fun vs H Q _ => ∃ (a : Addr) (zs : List Int), vs = [.ref a] ∧ SqL K H a (zs.map V.int) ∧ zs.length ≤ 63 ∧ ∀ H', Q (.bl true) H'
theorem scLaw : FnScope nsLaw psLaw (defScope sLaw) := ⟨rfl, rfl, rfl, by decide +kernel, rfl, by decide +kernel, by decide +kernel⟩
theorem ok_law (D : DefAt K mg "law" sLaw psLaw f fd) (B : Blt mg) (C : LawC P w K mg base) : FnOk P w K mg base CX0 14 f fd psLaw (spLaw K) := by
  refine D.F.ok scLaw (fun vs H Q E h => ?_) (fun cdv A outer s H vs Q E hr h => ?_)
  · obtain ⟨a, ns, rfl, _⟩ := h
    rfl
  obtain ⟨a, zs, rfl, hS, h63, q⟩ := h
  have nd := scLaw.nd
  have hu := hu_of hr
  refine ⟨_, pss_cons (ps_set (i := 1) nd rfl (Or.inr rfl) (pe_cal C.src (hr.mono (by decide)) rfl (pa_cons (pv 0) pa_nil)))
    (pss_cons (ps_set (i := 2) nd rfl (Or.inr rfl) (pe_lt (pa_cons pe_str (pa_cons pe_str (pa_cons pe_str pa_nil)))))
    (pss_cons (ps_setLc (i := 3) (own := [("_law_k", 14)]) (g := gName 14) rfl nd rfl rfl (sw_true rfl rfl rfl (by decide +kernel)) (pi_range1 (by rfl) B.range (pa_cons pe_int pa_nil)) (blkOk_by (N := nsLaw) (sc := defScope sLaw) (by decide +kernel))
      (fun _ _ _ _ _ => pg_name (i := 14) nd rfl (Or.inl rfl)) (fun _ _ _ _ _ => pts_one (pt_cmpR op_ne (pe_op op_fdiv (pv 14) pe_int) (pe_op op_mod (pv 14) pe_int) (nomark _)))
      (fun _ _ _ _ _ => pe_td (pa_cons (pe_ix ix_Lt (pv 2) (pe_op op_fdiv (pv 14) pe_int) (fun _ _ => rfl)) (pa_cons (pe_ix ix_Lt (pv 2) (pe_op op_mod (pv 14) pe_int) (fun _ _ => rfl)) pa_nil))))
    (pss_cons (ps_for PassesOwn.never rfl (pi_range1 (by rfl) B.range (pa_cons pe_int pa_nil)) (pg_name (i := 4) nd rfl (Or.inl rfl))
      (pss_cons (ps_set (i := 5) nd rfl (Or.inl rfl) (pe_cal C.tree (hr.mono (by decide)) rfl (pa_cons (pv 1) (pa_cons pe_int pa_nil))))
      (pss_cons (ps_set (i := 6) nd rfl (Or.inr rfl) (pe_callTy (call_dictP rfl) (by rfl) B.dict PyProof.Rows.boot_dict (pa_cons (pe_cal C.places (hr.mono (by decide)) rfl (pa_cons (pe_ix ix_TD (pv 5) pe_int (fun _ _ => rfl)) (pa_cons (pe_td pa_nil) pa_nil))) pa_nil)))
      (pss_cons (ps_setLc (i := 7) (own := [("_law_k", 14)]) (g := gName 14) rfl nd rfl rfl (sw_true rfl rfl rfl (by decide +kernel)) (pi_range1 (by rfl) B.range (pa_cons pe_int pa_nil)) (blkOk_by (N := nsLaw) (sc := defScope sLaw) (by decide +kernel))
        (fun _ _ _ _ _ => pg_name (i := 14) nd rfl (Or.inl rfl)) (fun _ _ _ _ _ => pts_nil)
        (fun _ _ _ _ _ => pe_cal C.pick (hr.mono (by decide)) rfl (pa_cons (pv 1) (pa_cons (pe_op op_catLt (pe_op op_rep (pe_callB (call_sortedD rfl) (by rfl) B.sorted PyProof.Rows.boot_sorted (pa_cons (pv 6) pa_nil)) pe_int) (pe_lt (pa_cons pe_non pa_nil))) pa_nil))))
      (pss_cons (ps_set (i := 8) nd rfl (Or.inr rfl) (pe_cal C.forb hr rfl (pa_cons (pv 5) (pa_cons (pe_ix ix_Lt (pv 7) pe_int (fun _ _ => rfl)) (pa_cons (pe_ix ix_Lt (pv 7) pe_int (fun _ _ => rfl)) (pa_cons (pe_ix ix_Lt (pv 7) pe_int (fun _ _ => rfl)) (pa_cons (pe_ix ix_Lt (pv 7) pe_int (fun _ _ => rfl)) pa_nil)))))))
      (pss_cons (ps_asg (pe_cal C.routes (hr.mono (by decide)) rfl (pa_cons (pe_lc (own := [("_law_name", 15)]) (g := gName 15) rfl nd (pi_list (pv 7)) (blkOk_by (N := nsLaw) (sc := defScope sLaw) (by decide +kernel)) (fun _ _ _ _ _ => pg_name (i := 15) nd rfl (Or.inl rfl)) (fun _ _ _ _ _ => pts_nil)
          (fun _ _ _ _ _ => pe_getN hu (pv 6) (pv 15) (pe_td pa_nil) ⟨rfl, rfl, rfl, rfl⟩)) pa_nil)) (pg_tup rfl (pgs_cons (pg_name (i := 9) nd rfl (Or.inl rfl)) (pgs_cons (pg_name (i := 10) nd rfl (Or.inl rfl)) pgs_nil))))
      (pss_cons (ps_set (i := 11) nd rfl (Or.inl rfl) (pe_op op_cat
          (pe_lc (own := [("_law_pair", 16)]) (g := gName 16) rfl nd (pi_list (pv 3)) (blkOk_by (N := nsLaw) (sc := defScope sLaw) (by decide +kernel)) (fun _ _ _ _ _ => pg_name (i := 16) nd rfl (Or.inl rfl)) (fun _ _ _ _ _ => pts_nil) (fun _ _ _ _ _ => pe_lt (pa_cons (pv 16) pa_nil)))
          (pe_lst (pa_cons (pe_lc (own := [("_law_pair", 16)]) (g := gName 16) rfl nd (pi_list (pv 3)) (blkOk_by (N := nsLaw) (sc := defScope sLaw) (by decide +kernel)) (fun _ _ _ _ _ => pg_name (i := 16) nd rfl (Or.inl rfl))
            (fun _ _ _ _ _ => pts_one (pt_cmpR (op_notInTu (hu64 hr)) (pv 16) (pv 8) rfl)) (fun _ _ _ _ _ => pv 16)) pa_nil))))
      (pss_cons (ps_expr (pe_bm PySem.F.plainAttrs_list PySem.F.slot_list_append PySem.F.type_list_append mt_append (pv 11) (pa_cons
          (pe_lc (own := [("_law_pair", 16)]) (g := gName 16) rfl nd (pi_list (pv 3)) (blkOk_by (N := nsLaw) (sc := defScope sLaw) (by decide +kernel)) (fun _ _ _ _ _ => pg_name (i := 16) nd rfl (Or.inl rfl))
            (fun _ _ _ _ _ => pts_one (pt_cmpR op_eq (pe_cal C.bel (hr.mono (by decide)) rfl (pa_cons (pv 1) (pa_cons pe_int pa_nil))) pe_int (nomark _))) (fun _ _ _ _ _ => pv 16)) pa_nil)))
      (pss_one (ps_for PassesOwn.never rfl (pi_list (pv 11)) (pg_name (i := 12) nd rfl (Or.inl rfl))
        (pss_cons (ps_set (i := 13) nd rfl (Or.inl rfl) (pe_cmpR (op_neNil (hu64' hr)) (pe_lc (own := [("_law_pair", 16)]) (g := gName 16) rfl nd (pi_list (pv 12)) (blkOk_by (N := nsLaw) (sc := defScope sLaw) (by decide +kernel)) (fun _ _ _ _ _ => pg_name (i := 16) nd rfl (Or.inl rfl))
            (fun _ _ _ _ _ => pts_one (pt_cmpR (op_inTu (hu64 hr)) (pv 16) (pv 8) rfl)) (fun _ _ _ _ _ => pv 16)) (pe_lt pa_nil) (nomark _)))
        (pss_one (ps_if (pt_cmpR op_ne (pe_cal C.miss (hr.mono (by decide)) rfl (pa_cons (pv 9) (pa_cons (pv 10) (pa_cons (pv 12) pa_nil)))) (pv 13) (nomark _)) (pss_one (ps_ret pe_bl)) pss_nil)))))))))))))
    (pss_one (ps_ret pe_bl))))), ?_⟩
  refine ⟨_, rfl, a, zs, rfl, hS, h63, fun sr sl sc lg cl H1 s1 hsr hsl S1 => ?_⟩
  refine ⟨kinds.map fun k => .str (kS k), .cons (.str _) (.cons (.str _) (TDs.one (.str _))), szl (by decide), fun kd H2 hkd s2 lkd => ?_⟩
  refine ⟨9, rfl, by decide, by decide, fun pr hpr => ?_⟩
  refine lc_it walk_range (LcP H2 pr fun i => (prF i).map pairD) (LcP.start hpr rfl) (fun _ _ _ _ => trivial) ?_ ?_
  · rintro i z G G' hi p ⟨hh, hz⟩
    subst G'
    obtain rfl := hz.trans (z_nat i)
    have hi : i < 9 := hi
    have e1 : (i : Int) / 3 = ((i / 3 : Nat) : Int) := by omega
    have e2 : (i : Int) % 3 = ((i % 3 : Nat) : Int) := by omega
    refine ⟨rfl, _, rfl, _, _, rfl, rfl, ⟨by decide, by decide⟩, _, rfl, _, _, rfl, rfl, by show (0 : Int) < 3; decide, rfl, _, rfl, ?_⟩
    dsimp only
    by_cases c : i / 3 = i % 3
    · refine itN (by rw [decide_eq_true (by rw [e1, e2, c])]; rfl) (p.skip (Same.refl _) ?_)
      rw [prF_snoc_n c]
    · refine itY (by rw [decide_eq_false (fun z => by injection z with z; omega)]; rfl) ?_
      refine ⟨_, rfl, _, rfl, _, _, rfl, rfl, ⟨by decide, by decide⟩, kd, _, ((i / 3 : Nat) : Int), _, rfl, by dsimp only; rw [e1], lkd.keep p.1, atI_nat (kinds_at (by omega)), fun v1 t1 => ?_⟩
      refine ⟨_, rfl, _, rfl, _, _, rfl, rfl, by show (0 : Int) < 3; decide, kd, _, ((i % 3 : Nat) : Int), _, rfl, by dsimp only; rw [e2], lkd.keep p.1, atI_nat (kinds_at (by omega)), fun v2 t2 => ?_⟩
      refine ⟨_, .cons t1 (TDs.one t2), szl (by simp), fun v3 H3 s3 t3 => ?_⟩
      refine p.put hpr s3 t3 ?_ ?_
      · rw [prF_snoc_y c, List.map_append]; rfl
      · rw [List.length_map]; exact small1000 (by have := prF_len i; omega)
  intro H3 p
  have p9 : Same H2 H3 ∧ Lt H3 pr (prs.map pairD) := ⟨p.1, prF_9 ▸ p.2⟩
  obtain ⟨s3, lpr⟩ := p9
  have S3 := (S1.keep s2).keep s3
  have prs_ne : pr ≠ sr := fun z => by
    have := (S1.keep s2).hs
    rw [← z, hpr] at this; cases this
  have prl_ne : pr ≠ sl := fun z => by
    have := (S1.keep s2).hl
    unfold Il at this
    rw [← z, hpr] at this; cases this
  clear p
  refine ⟨3, rfl, by decide, by decide, ?_⟩
  refine for_range (lo := 0) (n := 3) (fun i σ' H' => ∃ (t : Nat) (lg : List Int) (o4 o5 o6 o7 o8 o9 o10 o11 o12 o13 : Option V), σ' = [some (.ref a), some (.ref sr), some (.ref kd), some (.ref pr), o4, o5, o6, o7, o8, o9, o10, o11, o12, o13, none, none, none] ∧ Src H' sr sl sc t lg cl ∧ t ≤ i * 1200 ∧ Lt H' pr (prs.map pairD))
    ⟨0, lg, _, _, _, _, _, _, _, _, _, _, rfl, S3, Nat.zero_le _, lpr⟩ ?_ ?_
  · rintro i σ' G hi ⟨t, lg, o4, o5, o6, o7, o8, o9, o10, o11, o12, o13, rfl, S, ht, lp⟩
    have hi : i < 3 := hi
    -- the tree
    refine ⟨_, rfl, sr, sl, sc, t, lg, cl, rfl, S, by omega, fun vt ps lg1 t1 G1 tt T ht1 k1 S1 => ?_⟩
    have lp1 := lp.ks k1 S prs_ne prl_ne
    -- the places
    refine ⟨_, rfl, _, 2, _, tt, rfl, atI_nat (j := 2) rfl, fun vps tps => ?_⟩
    refine ⟨_, .nil, szl (by simp), fun ve G2 s2' te => ?_⟩
    refine ⟨vps, ve, ps, [], rfl, tps.k (TK.same s2'), te, T.dp, T.sz, by show 0 + dpL ps ≤ 1000; have := T.dp; omega, fun pl G3 hpl s3' lpl => ?_⟩
    obtain ⟨plv, hplv, tplv⟩ := lpl
    obtain ⟨psA, kvs, e1, e2, e3, e4⟩ := pl_pairs K tplv
    subst e1
    have ndp : ((plL ps [] 0).map (·.1)).Nodup := (pl_ids_L ps [] 0).nodup T.nd
    have lnp : (plL ps [] 0).length ≤ 24 := by
      have h1 := (pl_ids_L ps [] 0).length_le
      have h2 := T.few
      rw [List.length_map] at h1
      omega
    have em : mergeK [] kvs = kvs := merge_new kvs [] (fun _ _ => rfl) (e3 ▸ keys_nodup ndp)
    refine ⟨pl, psA, kvs, rfl, SqL.of hplv, e2, fun pd hpd => ?_⟩
    rw [em]
    have S3' := (S1.keep s2').keep s3'
    have pdne := S3'.apart hpd
    have s4' : Same G3 (upd G3 pd (.dK kvs)) := same_new hpd
    have hpd4 : (upd G3 pd (.dK kvs)) pd = some (.dK kvs) := upd_same
    generalize upd G3 pd (.dK kvs) = G4 at s4' hpd4
    have s14 := s2'.trans (s3'.trans s4')
    have S4 := S1.keep s14
    have vals : ∀ k q, (k, q) ∈ plL ps [] 0 → ∃ v, valV kvs (Sum.inr (devN k)) = some v ∧ TD G4 v (pathD q) := fun k q h => by
      obtain ⟨v, h1, h2⟩ := val_place e3 e4 ndp h
      exact ⟨v, h1, h2.k (TK.same s4')⟩
    -- the names
    refine ⟨4, rfl, by decide, by decide, fun nm hnm => ?_⟩
    have nmne := S4.apart hnm
    refine lc_it walk_range (NameP G4 nm sr sl sc t1 cl (plL ps [] 0)) ⟨[], t1, lg1, rfl, Ks.same (same_new hnm), Lt.new hnm .nil, S4.keep (same_new hnm), Nat.le_refl _, fun _ h => nomatch h⟩ (fun _ _ _ _ => trivial) ?_ ?_
    · rintro j z G G' hj p ⟨hh, hz⟩
      subst G'
      have hj : j < 4 := hj
      obtain ⟨oq, t5, lg5, ho, kk, lt, S5, ht5, hpk⟩ := p
      have hpdG := kk pd _ pdne.1 pdne.2.1 hpd4
      refine ⟨rfl, _, rfl, _, rfl, pd, kvs, (plL ps [] 0).map (fun x => devN x.1), rfl, Rd.of hpdG, by rw [e3, List.map_map]; rfl, by rw [List.length_map]; omega, fun ys p hperm _ hp => ?_⟩
      have hys : ys.length = (plL ps [] 0).length := by rw [hperm.length_eq, List.length_map]
      refine ⟨p, 3, ys.map V.str, rfl, rfl, upd_same, by decide, by decide, by rw [List.length_map]; exact szl (by show ys.length * 3 ≤ _; omega), fun p2 hp2 => ?_⟩
      have sa : Same G (upd G p (.lst (ys.map V.str))) := same_new hp
      have sb := same_new (o := HO.lst (List.replicate (3 : Int).toNat (ys.map V.str)).flatten) hp2
      have hl2 : Lt (upd (upd G p (.lst (ys.map V.str))) p2 (.lst (List.replicate (3 : Int).toNat (ys.map V.str)).flatten)) p2 (List.replicate 3 (ys.map PyData.str)).flatten := ⟨_, upd_same, TDs.rep (TDs.strs ys) 3⟩
      generalize upd (upd G p (.lst (ys.map V.str))) p2 (.lst (List.replicate (3 : Int).toNat (ys.map V.str)).flatten) = Gb at sb hl2
      refine ⟨_, TDs.one .non, szl (by simp), fun p3 Gc hp3 sc' l3 => ?_⟩
      have hlen : (List.replicate 3 (ys.map PyData.str)).flatten.length ≤ 72 := by
        rw [List.length_flatten, List.map_replicate, List.length_map, List.sum_replicate_nat]; omega
      refine ⟨p2, p3, _, _, rfl, rfl, hl2.keep sc', l3, szl (by rw [List.length_singleton]; omega), fun p4 Gd hp4 sd' l4 => ?_⟩
      have sGd := (sa.trans sb).trans (sc'.trans sd')
      have Sd := S5.keep sGd
      have p4ne := (S5.keep ((sa.trans sb).trans sc')).apart hp4
      refine ⟨sr, sl, sc, p4, t5, lg5, cl, _, rfl, l4, by simp, by rw [List.length_append, List.length_singleton]; omega, p4ne.1, p4ne.2.1, Sd, by omega, fun v d lg' t' H' hd td ht' k' S' => ?_⟩
      obtain ⟨o, qq, rfl, hpk'⟩ := pick_D hperm hd
      obtain ⟨nvs, hnv, tnv⟩ := lt
      have hnv' := k' nm _ nmne.1 nmne.2.1 (sGd _ _ hnv)
      have kG : Ks sr sl G H' := (Ks.same sGd).trans k'
      have nt : ∀ xs, H' nm ≠ some (.tup xs) := fun xs z => by rw [hnv'] at z; cases z
      refine ⟨nvs, hnv', by rw [tnv.length, List.length_map, ho]; exact small1000 (by omega), oq ++ [(o, qq)], t', lg', by rw [List.length_append, ho]; rfl, (kk.trans kG).putN hnm, ⟨nvs ++ [v], upd_same, ?_⟩, S'.put (Ne.symm nmne.1) (Ne.symm nmne.2.1) (Ne.symm nmne.2.2), by omega, fun x hx => ?_⟩
      · rw [List.map_append]
        exact ((tnv.k (kG.tk S5)).append (TDs.one td)).k (TK.put nt)
      · rcases List.mem_append.mp hx with h | h
        · exact hpk x h
        · rw [List.mem_singleton.mp h]; exact hpk'
    intro G5 pN
    obtain ⟨oq, t5, lg5, ho, k45, lnm, S5, ht5, hpk⟩ := pN
    have ho : oq.length = 4 := ho
    obtain ⟨⟨o1, q1⟩, ⟨o2, q2⟩, ⟨o3, q3⟩, ⟨o4', q4⟩, rfl⟩ : ∃ x1 x2 x3 x4, oq = [x1, x2, x3, x4] := by
      match oq, ho with
      | [x1, x2, x3, x4], _ => exact ⟨x1, x2, x3, x4, rfl⟩
    have w1 := hpk (o1, q1) (by simp)
    have w2 := hpk (o2, q2) (by simp)
    have w3 := hpk (o3, q3) (by simp)
    have w4 := hpk (o4', q4) (by simp)
    have tk15 : TK G1 G5 := (TK.same s14).trans (k45.tk S4)
    have tt5 := tt.k tk15
    -- what the program tells
    refine ⟨_, rfl, _, rfl, nm, _, 0, _, rfl, rfl, lnm, atI_nat (j := 0) rfl, fun n1 tn1 => ?_⟩
    refine ⟨_, rfl, nm, _, 1, _, rfl, rfl, lnm, atI_nat (j := 1) rfl, fun n2 tn2 => ?_⟩
    refine ⟨_, rfl, nm, _, 2, _, rfl, rfl, lnm, atI_nat (j := 2) rfl, fun n3 tn3 => ?_⟩
    refine ⟨_, rfl, nm, _, 3, _, rfl, rfl, lnm, atI_nat (j := 3) rfl, fun n4 tn4 => ?_⟩
    let F : K74.Four := ⟨q1, q2, q3, q4⟩
    refine ⟨vt, n1, n2, n3, n4, ps, o1, o2, o3, o4', F, rfl, tt5, T, tn1, tn2, tn3, tn4, Pk.wh w1, Pk.wh w2, Pk.wh w3, Pk.wh w4, fun vto G6 s6 tto => ?_⟩
    have hF : Short F := ⟨(Pk.wh w1).short T, (Pk.wh w2).short T, (Pk.wh w3).short T, (Pk.wh w4).short T⟩
    have S6 := S5.keep s6
    have k46 : Ks sr sl G4 G6 := k45.trans (Ks.same s6)
    have hpd6 := k46 pd _ pdne.1 pdne.2.1 hpd4
    have tk46 : TK G4 G6 := (k45.tk S4).trans (TK.same s6)
    have lp6 : Lt G6 pr (prs.map pairD) := (((lp1.keep s14).ks k45 S4 prs_ne prl_ne)).keep s6
    have lnm6 := lnm.keep s6
    -- the routes
    obtain ⟨nvs, hnv, tnv⟩ := lnm6
    have hnl : nvs.length = 4 := tnv.length
    refine ⟨_, rfl, nm, rfl, ⟨_, SqL.of hnv⟩, fun at_ hat => ?_⟩
    refine lc_it (walk_list (K := K) (a := nm) (xs := nvs)) (LcP G6 at_ fun i => ([q1, q2, q3, q4].take i).map pathD) (LcP.start hat rfl) (fun i G _ p => SqL.of (p.1 _ _ hnv)) ?_ ?_
    · rintro j z G G' hj p ⟨hh, hz⟩
      subst G'
      rw [hnl] at hj
      obtain ⟨d, hd, td⟩ := tnv.getV hz
      have td := td.k (TK.same p.1)
      obtain ⟨o, qq, ed, eq, hpko⟩ : ∃ o qq, d = nmD o ∧ [q1, q2, q3, q4][j]? = some qq ∧ Pk (plL ps [] 0) o qq := by
        match j, hj with
        | 0, _ => exact ⟨o1, q1, (Option.some.inj hd).symm, rfl, w1⟩
        | 1, _ => exact ⟨o2, q2, (Option.some.inj hd).symm, rfl, w2⟩
        | 2, _ => exact ⟨o3, q3, (Option.some.inj hd).symm, rfl, w3⟩
        | 3, _ => exact ⟨o4', q4, (Option.some.inj hd).symm, rfl, w4⟩
      subst ed
      have hpdG := p.1 _ _ hpd6
      have put : ∀ (v : V) (H' : Hp), Same G H' → TD H' v (pathD qq) → ∃ acc, H' at_ = some (.lst acc) ∧ acc.length < sizeLine ∧ LcP G6 at_ (fun i => ([q1, q2, q3, q4].take i).map pathD) (j + 1) (upd H' at_ (.lst (acc ++ [v]))) := fun v H' s t => by
        refine p.put hat s t ?_ ?_
        · show ([q1, q2, q3, q4].take (j + 1)).map pathD = ([q1, q2, q3, q4].take j).map pathD ++ [pathD qq]
          rw [take_snoc eq, List.map_append]; rfl
        · rw [List.length_map, List.length_take]; exact small1000 (by omega)
      refine ⟨rfl, _, rfl, pd, rfl, .inl ⟨_, Rd.of hpdG⟩, _, rfl, _, .nil, szl (by simp), fun ve' H' s' te' => ?_⟩
      cases o with
      | none =>
        obtain rfl := (show TD G z .none from td).invN
        obtain rfl := (show qq = [] from hpko)
        exact .inr ⟨kvs, rfl, Rd.of (s' _ _ hpdG), put ve' H' s' te'⟩
      | some k =>
        obtain rfl := (show TD G z (.str (devN k)) from td).invS
        obtain ⟨v, hv, tv⟩ := vals k qq hpko
        refine .inl ⟨some v, ?_, put v H' s' (((tv.k tk46).k (TK.same p.1)).k (TK.same s'))⟩
        have := DGet.k (k := Sum.inr (devN k)) (s' _ _ hpdG)
        rw [hv] at this
        exact this
    intro G7 p
    obtain ⟨s7, lat⟩ := p
    rw [hnl] at lat
    have lat : Lt G7 at_ [pathD F.p, pathD F.c, pathD F.d, pathD F.f] := lat
    refine ⟨F, at_, rfl, lat, hF, fun p rd G8 s8 hp rtat => ?_⟩
    refine ⟨p, _, rfl, SqT.of hp, rfl, _, _, rfl, _, _, rfl, rfl, ?_⟩
    have s68 := s7.trans s8
    have S8 := S6.keep s68
    have tto8 := tto.k (TK.same s68)
    have lp8 := lp6.keep s68
    have gtold : ∀ e ∈ (toldL F).map pairD, Good e := fun e he => by
      obtain ⟨z, _, rfl⟩ := List.mem_map.mp he
      exact good_pair z
    -- the allowed lists
    obtain ⟨pvs, hpv, tpv⟩ := id lp8
    have hpvl : pvs.length = 6 := tpv.length
    refine ⟨_, rfl, pr, rfl, ⟨_, SqL.of hpv⟩, fun D1 hD1 => ?_⟩
    refine lc_it (walk_list (K := K) (a := pr) (xs := pvs)) (SomP G8 D1 sr sl) ⟨same_new hD1, [], upd_same, .nil⟩ (fun i G _ p => SqL.of (p.1 _ _ hpv)) ?_ ?_
    · rintro j z G G' hj p ⟨hh, hz⟩
      subst G'
      rw [hpvl] at hj
      obtain ⟨x, hx, tx⟩ := tpv.ofMap hz
      obtain ⟨sG, xs, hxs, hA⟩ := p
      refine ⟨rfl, _, rfl, _, TDs.one (tx.k (TK.same sG)), szl (by simp), fun p2 H2' hp2 s2x l2x => ?_⟩
      have p2ne := (S8.keep sG).apart hp2
      have hxs' := s2x _ _ hxs
      have nt : ∀ ys, H2' D1 ≠ some (.tup ys) := fun ys z => by rw [hxs'] at z; cases z
      have hD1p : p2 ≠ D1 := fun z => by rw [z, hxs] at hp2; cases hp2
      refine ⟨xs, hxs', by rw [hA.length, List.length_map, List.length_take]; exact small1000 (by omega), Same.put hD1 (sG.trans s2x), xs ++ [.ref p2], upd_same, ?_⟩
      rw [take_snoc hx, List.map_append]
      refine (hA.step ((Kx.same s2x).put (.inl (by simp))) ((TK.same s2x).trans (TK.put nt))).append (.cons ?_ (by simp [p2ne.1, p2ne.2.1, hD1p]) .nil)
      obtain ⟨ws, e1, e2⟩ := l2x
      exact ⟨ws, by rw [upd_ne hD1p]; exact e1, e2.k (TK.put nt)⟩
    intro G9 p9
    obtain ⟨s89, xs, hxs, hA⟩ := p9
    rw [hpvl] at hA
    have hA : Als [sr, sl, D1] G9 xs (prs.map fun x => [x]) := hA
    -- all that are not told
    refine ⟨_, rfl, pr, rfl, ⟨_, SqL.of (s89 _ _ hpv)⟩, fun D2 hD2 => ?_⟩
    refine lc_it (walk_list (K := K) (a := pr) (xs := pvs)) (LcP G9 D2 fun i => ((prs.take i).filter fun x => decide (x ∉ toldL F)).map pairD) (LcP.start hD2 rfl) (fun i G _ p => SqL.of (p.1 _ _ (s89 _ _ hpv))) ?_ ?_
    · rintro j z G G' hj p ⟨hh, hz⟩
      subst G'
      rw [hpvl] at hj
      obtain ⟨x, hx, tx⟩ := tpv.ofMap hz
      have s8G := s89.trans p.1
      refine ⟨rfl, _, rfl, _, rfl, pairD x, _, tto8.k (TK.same s8G), tx.k (TK.same s8G), good_pair _, gtold, fun bb hbb => ⟨_, rfl, ?_⟩⟩
      have hbb := hbb.trans pair_mem
      by_cases c : x ∈ toldL F
      · refine itN (by rw [hbb.mpr c]; rfl) (p.skip (Same.refl _) ?_)
        rw [take_snoc hx, List.filter_append, List.filter_cons_of_neg (by simpa using c)]; simp
      · have hb0 : bb = false := by cases bb with
          | true => exact absurd (hbb.mp rfl) c
          | false => rfl
        refine itY (by rw [hb0]; rfl) ⟨_, rfl, p.put hD2 (Same.refl _) (tx.k (TK.same s8G)) ?_ ?_⟩
        · rw [take_snoc hx, List.filter_append, List.filter_cons_of_pos (by simpa using c), List.map_append]; rfl
        · rw [List.length_map]
          have h1 := List.length_filter_le (fun x => decide (x ∉ toldL F)) (prs.take j)
          rw [List.length_take] at h1
          exact small1000 (by omega)
    intro G10 p10
    obtain ⟨s910, lD2⟩ := p10
    rw [hpvl] at lD2
    have lD2 : Lt G10 D2 ((prs.filter fun x => decide (x ∉ toldL F)).map pairD) := lD2
    refine ⟨szl (by simp), fun p3 hp3 => ?_⟩
    have s11 : Same G10 (upd G10 p3 (.lst [.ref D2])) := same_new hp3
    have hp3' : (upd G10 p3 (.lst [V.ref D2])) p3 = some (.lst [.ref D2]) := upd_same
    generalize upd G10 p3 (.lst [.ref D2]) = G11 at s11 hp3'
    have s911 := s910.trans s11
    have s811 := s89.trans s911
    have hlx : xs.length = 6 := by rw [hA.length]; rfl
    refine ⟨D1, p3, xs, [.ref D2], rfl, rfl, s911 _ _ hxs, hp3', szl (by simp [hlx]), fun p5 hp5 => ?_⟩
    have S9 := S8.keep s89
    have D2ne := S9.apart hD2
    have A11 : Als [p5, sr, sl] G11 (xs ++ [.ref D2]) (prs.map (fun x => [x]) ++ [prs.filter fun x => decide (x ∉ toldL F)]) := by
      refine Als.fresh hp5 (((hA.mono (by simp)).keep s911).append (.cons (lD2.keep s11) ?_ .nil))
      simp [D2ne.1, D2ne.2.1]
    have p5ne := (S8.keep s811).apart hp5
    have s12 : Same G11 (upd G11 p5 (.lst (xs ++ [.ref D2]))) := same_new hp5
    have hp5' : (upd G11 p5 (.lst (xs ++ [V.ref D2]))) p5 = some (.lst (xs ++ [.ref D2])) := upd_same
    generalize upd G11 p5 (.lst (xs ++ [.ref D2])) = G12 at s12 hp5'
    have A12 := A11.keep s12
    have s812 := s811.trans s12
    have S12 := S8.keep s812
    have lp12 := lp8.keep s812
    have hpv12 := s812 _ _ hpv
    -- drawn ones
    refine ⟨_, rfl, ⟨.inl ⟨rfl, _, SqL.of hp5'⟩, ?_⟩⟩
    refine ⟨_, rfl, pr, rfl, ⟨_, SqL.of hpv12⟩, fun D3 hD3 => ?_⟩
    have D3ne := S12.apart hD3
    have D3p5 : D3 ≠ p5 := fun z => by rw [z, hp5'] at hD3; cases hD3
    refine lc_it (walk_list (K := K) (a := pr) (xs := pvs)) (DrawP G12 D3 sr sl sc t5 cl) ⟨[], t5, lg5, Ks.same (same_new hD3), Lt.new hD3 .nil, fun _ h => (nomatch h), Nat.le_refl _, S12.keep (same_new hD3), Nat.le_refl _⟩
      (fun i G _ p => let ⟨_, _, _, k, _⟩ := p; SqL.of (k pr _ prs_ne prl_ne hpv12)) ?_ ?_
    · rintro j z G G' hj p ⟨hh, hz⟩
      subst G'
      rw [hpvl] at hj
      obtain ⟨ds, t6, lg6, kk, lD, hds, hdl, Sx, ht6⟩ := p
      obtain ⟨x, hx, tx⟩ := tpv.ofMap hz
      have tkG : TK G8 G := (TK.same s812).trans (kk.tk S12)
      refine ⟨rfl, _, rfl, sr, sl, sc, t6, 2, lg6, cl, rfl, by decide, by decide, Sx, by omega, fun r lg' t' H' hr2 ht' k' S' => ⟨rfl, _, rfl, ?_⟩⟩
      by_cases c : natV r = V.int 0
      · refine itY (decide_eq_true c) ⟨_, rfl, ?_⟩
        obtain ⟨dvs, hdv, tdv⟩ := lD
        have hdv' := k' D3 _ D3ne.1 D3ne.2.1 hdv
        have nt : ∀ xs, H' D3 ≠ some (.tup xs) := fun xs z => by rw [hdv'] at z; cases z
        refine ⟨dvs, hdv', by rw [tdv.length, List.length_map]; exact small1000 (by omega), ds ++ [x], t', lg', (kk.trans k').putN hD3, ⟨dvs ++ [z], upd_same, ?_⟩, fun y hy => ?_, by rw [List.length_append, List.length_singleton]; omega, S'.put (Ne.symm D3ne.1) (Ne.symm D3ne.2.1) (Ne.symm D3ne.2.2), by omega⟩
        · rw [List.map_append]
          exact ((tdv.k (k'.tk Sx)).append (TDs.one ((tx.k tkG).k (k'.tk Sx)))).k (TK.put nt)
        · rcases List.mem_append.mp hy with h | h
          · exact hds y h
          · rw [List.mem_singleton.mp h]; exact List.mem_of_getElem? hx
      · exact itN (decide_eq_false c) ⟨ds, t', lg', kk.trans k', lD.ks k' Sx D3ne.1 D3ne.2.1, hds, by omega, S', by omega⟩
    intro G13 p13
    rw [hpvl] at p13
    obtain ⟨ds, t6, lg6, k13, lD3, hds, hdl, S13, ht6⟩ := p13
    have hp513 := k13 p5 _ p5ne.1 p5ne.2.1 hp5'
    have tk13 := k13.tk S12
    refine ⟨p5, _, .ref D3, rfl, rfl, hp513, by rw [List.length_append, hlx]; exact small1000 (by simp), ?_⟩
    have nt5 : ∀ ys, G13 p5 ≠ some (.tup ys) := fun ys z => by rw [hp513] at z; cases z
    have A14 : Als [p5, sr, sl] (upd G13 p5 (.lst ((xs ++ [.ref D2]) ++ [.ref D3]))) ((xs ++ [.ref D2]) ++ [.ref D3]) ((prs.map (fun x => [x]) ++ [prs.filter fun x => decide (x ∉ toldL F)]) ++ [ds]) := by
      refine (A12.step ((k13.kx (by simp) (by simp)).put (.inl (by simp))) (tk13.trans (TK.put nt5))).append (.cons ?_ (by simp [D3p5, D3ne.1, D3ne.2.1]) .nil)
      obtain ⟨ws, e1, e2⟩ := lD3
      exact ⟨ws, by rw [upd_ne D3p5]; exact e1, e2.k (TK.put nt5)⟩
    have S14 : Src (upd G13 p5 (.lst ((xs ++ [.ref D2]) ++ [.ref D3]))) sr sl sc t6 lg6 cl := S13.put (Ne.symm p5ne.1) (Ne.symm p5ne.2.1) (Ne.symm p5ne.2.2)
    have k14 : Ks sr sl G11 (upd G13 p5 (.lst ((xs ++ [.ref D2]) ++ [.ref D3]))) := ((Ks.same s12).trans k13).putN hp5
    have tk14 : TK G12 (upd G13 p5 (.lst ((xs ++ [.ref D2]) ++ [.ref D3]))) := tk13.trans (TK.put nt5)
    have hp514 : (upd G13 p5 (.lst ((xs ++ [V.ref D2]) ++ [.ref D3]))) p5 = some (.lst ((xs ++ [.ref D2]) ++ [.ref D3])) := upd_same
    generalize hxs14 : (xs ++ [V.ref D2]) ++ [V.ref D3] = xs14 at A14 S14 k14 tk14 hp514 ⊢
    generalize upd G13 p5 (.lst xs14) = G14 at A14 S14 k14 tk14 hp514 ⊢
    have hww : ∀ al ∈ (prs.map (fun x => [x]) ++ [prs.filter fun x => decide (x ∉ toldL F)]) ++ [ds], (K74.Kd.write, K74.Kd.write) ∉ al ∧ al.length ≤ 6 := by
      intro al hal
      rcases List.mem_append.mp hal with h | h
      · rcases List.mem_append.mp h with h | h
        · obtain ⟨x, hx, rfl⟩ := List.mem_map.mp h
          exact ⟨fun z => prs_ww (List.mem_singleton.mp z ▸ hx), by simp⟩
        · rw [List.mem_singleton.mp h]
          exact ⟨fun z => prs_ww (List.mem_filter.mp z).1, List.length_filter_le _ _⟩
      · rw [List.mem_singleton.mp h]
        exact ⟨fun z => prs_ww (hds _ z), hdl⟩
    generalize (prs.map (fun x => [x]) ++ [prs.filter fun x => decide (x ∉ toldL F)]) ++ [ds] = als at A14 hww
    have tto14 : TD G14 vto (.tuple ((toldL F).map pairD)) := (tto8.k (TK.same s812)).k tk14
    have S7 := S6.keep s7
    have rt14 : RtNew G7 G14 rd F.rt := rtat.step (fun b u h0 hb => k14 b u (S7.apart h0).1 (S7.apart h0).2.1 (s811 b u hb)) ((TK.same s812).trans tk14)
    have k1114 : Lt G14 pr (prs.map pairD) := by
      obtain ⟨ws, e1, e2⟩ := lp8
      exact ⟨ws, k14 _ _ prs_ne prl_ne (s811 _ _ e1), e2.k ((TK.same s812).trans tk14)⟩
    have hmany : F.many ≤ 40 := net_len' hF 5
    have h8 : ∀ w, (F.rt w).length ≤ 8 := fun w => K74.rt_len (n := 4) (by
      obtain ⟨f1, f2, f3, f4⟩ := hF
      cases w <;> constructor <;> assumption)
    have hl14 := A14.length
    refine ⟨_, rfl, p5, rfl, ⟨_, SqL.of hp514⟩, for_list (K := K) (a := p5) (xs := xs14) (fun j σ' H' => ∃ (o12 o13 : Option V), σ' = [some (.ref a), some (.ref sr), some (.ref kd), some (.ref pr), some (V.int (0 + (i : Int))), some vt, some (.ref pd), some (.ref nm), some vto, some (.ref rd), some (natV F.many), some (.ref p5), o12, o13, none, none, none] ∧ Same G14 H')
      ⟨_, _, rfl, Same.refl _⟩ (fun j σ' H' _ ⟨_, _, _, h⟩ => SqL.of (h _ _ hp514)) ?_ ?_⟩
    · rintro j y σ' Ga hj ⟨o12, o13, rfl, sa⟩
      obtain ⟨aa, al, rfl, hal, lal⟩ := A14.get hj
      obtain ⟨hal1, hal6⟩ := hww al (List.mem_of_getElem? hal)
      have lal := lal.keep sa
      obtain ⟨avs, hav, tav⟩ := id lal
      have havl : avs.length = al.length := by rw [tav.length, List.length_map]
      -- what is due
      refine ⟨_, rfl, aa, rfl, ⟨_, SqL.of hav⟩, fun D4 hD4 => ?_⟩
      refine lc_it (walk_list (K := K) (a := aa) (xs := avs)) (LcP Ga D4 fun i => ((al.take i).filter fun x => decide (x ∈ toldL F)).map pairD) (LcP.start hD4 rfl) (fun i G _ p => SqL.of (p.1 _ _ hav)) ?_ ?_
      · rintro m z G G' hm p ⟨hh, hz⟩
        subst G'
        rw [havl] at hm
        obtain ⟨x, hx, tx⟩ := tav.ofMap hz
        have sG := sa.trans p.1
        refine ⟨rfl, _, rfl, _, rfl, pairD x, _, tto14.k (TK.same sG), tx.k (TK.same p.1), good_pair _, gtold, fun bb hbb => ⟨_, rfl, ?_⟩⟩
        have hbb := hbb.trans pair_mem
        by_cases c : x ∈ toldL F
        · refine itY (hbb.mpr c) ⟨_, rfl, p.put hD4 (Same.refl _) (tx.k (TK.same p.1)) ?_ ?_⟩
          · rw [take_snoc hx, List.filter_append, List.filter_cons_of_pos (by simpa using c), List.map_append]; rfl
          · rw [List.length_map]
            have h1 := List.length_filter_le (fun x => decide (x ∈ toldL F)) (al.take m)
            rw [List.length_take] at h1
            exact small1000 (by omega)
        · have hb0 : bb = false := by cases bb with
            | true => exact absurd (hbb.mp rfl) c
            | false => rfl
          refine itN hb0 (p.skip (Same.refl _) ?_)
          rw [take_snoc hx, List.filter_append, List.filter_cons_of_neg (by simpa using c)]; simp
      intro Gb pb
      obtain ⟨sb, lD4⟩ := pb
      rw [havl] at lD4
      have lD4 : Lt Gb D4 (((al.take al.length).filter fun x => decide (x ∈ toldL F)).map pairD) := lD4
      rw [List.take_length] at lD4
      refine ⟨_, .nil, szl (by simp), fun pn Gc hpn sc' ln => ?_⟩
      refine ⟨D4, pn, _, rfl, rfl, lD4.keep sc', ln, fun e he => ?_, ?_⟩
      · obtain ⟨z, _, rfl⟩ := List.mem_map.mp he
        exact (good_pair z).2.mono (by decide)
      have sac := sa.trans (sb.trans sc')
      refine ⟨_, rfl, _, rfl, _, rfl, (F.rt, al, F.many), rd, aa, rfl, (rt14.step (fun b u _ hb => sac b u hb) (TK.same sac)).at', lal.keep (sb.trans sc'), K74.rt_ok F, by show F.many ≤ 1000; omega, h8, fun b Gd hb sd => ⟨_, rfl, rfl, _, rfl, itN ?_ ⟨_, _, rfl, sac.trans sd⟩⟩⟩
      have hdue := hb.trans (due_miss F hal1)
      have e1 : b = !((al.filter fun x => decide (x ∈ toldL F)).map pairD).isEmpty := by
        generalize (al.filter fun x => decide (x ∈ toldL F)) = fl at hdue
        cases fl with
        | nil =>
          cases b with
          | false => rfl
          | true => exact absurd rfl (hdue.mp rfl)
        | cons x fl =>
          cases b with
          | true => rfl
          | false => exact nomatch hdue.mpr (fun z => nomatch z)
      rw [decide_eq_true (by rw [e1])]; rfl
    · rintro σ' Ga ⟨o12, o13, rfl, sa⟩
      exact ⟨t6, lg6, _, _, _, _, _, _, _, _, _, _, rfl, S14.keep sa, by omega, k1114.keep sa⟩
  · rintro σ' G ⟨t, lg, o4, o5, o6, o7, o8, o9, o10, o11, o12, o13, rfl, S, ht, lp⟩
    exact q _
end
end KW
/-! K74: the whole program, and the law -/
namespace KW
open L2 PySem PySem.Spec PyProof.Rows
theorem def_mk {h : Heap} {K : PySem.W.Frag} {mg : Str → Option Value} {x : Str} {st : Stmt} {ps : List Str} {f : Addr} {oc : Value} {od an : Option Addr} {osl : Array (Option Value)} {kV doc pm cdv ct : Value} (X : K.In h) (G : h.Ns mainGlobals mg)
    (a : PySem.W.nsIn K mainGlobals x = some (some (.ref f))) (l : K.lookup f = some ⟨oc, od, .func (PySem.W.fnOf x x (defArgs st) (defBody st) (defScope st) .none kV doc pm an cdv ct), osl⟩) (c : PySem.W.codeIn K cdv x = true) (k : PySem.W.keepIn K (.ref f) = true)
    (hb : ∀ (kV doc pm : Value) (an : Option Addr) (cdv ct : Value) (us : List Value), us.length = ps.length → bindArgs (PySem.W.fnOf x x (defArgs st) (defBody st) (defScope st) .none kV doc pm an cdv ct) ⟨us, []⟩ = pure (ps.zip us)) : ∃ f fd, DefAt K mg x st ps f fd :=
  ⟨f, _, fun_mk l c k, (fun_mk l c k).binds hb, PySem.W.mg_of X G a⟩
/-- all defs stand -/
structure Defs (K : PySem.W.Frag) (mg : Str → Option Value) : Prop where
  int : ∃ f fd, DefAt K mg "is_integer" sInt psInt f fd
  form : ∃ f fd, DefAt K mg "has_form" sForm psForm f fd
  dev : ∃ f fd, DefAt K mg "is_device" sDev psDev f fd
  pof : ∃ f fd, DefAt K mg "parts_of" sPof psDev f fd
  at_ : ∃ f fd, DefAt K mg "part_at" sAt psAt f fd
  pin : ∃ f fd, DefAt K mg "placed_in" sPin psPin f fd
  plc : ∃ f fd, DefAt K mg "placed" sPlc psPlc f fd
  pth : ∃ f fd, DefAt K mg "path_of" sPth psPth f fd
  dp : ∃ f fd, DefAt K mg "device_path" sDp psPth f fd
  plo : ∃ f fd, DefAt K mg "place_of" sPlo psPth f fd
  bw : ∃ f fd, DefAt K mg "way_between" sBetween psBetween f fd
  pa : ∃ f fd, DefAt K mg "parting" sParting psParting f fd
  sh : ∃ f fd, DefAt K mg "last_shared" sShared psShared f fd
  forb : ∃ f fd, DefAt K mg "forbidden" sForb psForb f fd
  src : ∃ f fd, DefAt K mg "_law_source" sSrc psSrc f fd
  bel : ∃ f fd, DefAt K mg "_law_below" sBel psBel f fd
  pick : ∃ f fd, DefAt K mg "_law_pick" sPick psPick f fd
  prt : ∃ f fd, DefAt K mg "_law_part" sPrt psPrt f fd
  tree : ∃ f fd, DefAt K mg "_law_tree" sTree psTree f fd
  places : ∃ f fd, DefAt K mg "_law_places" sPlaces psPlaces f fd
  way : ∃ f fd, DefAt K mg "_law_way" sWay psWay f fd
  routes : ∃ f fd, DefAt K mg "_law_routes" sRoutes psRoutes f fd
  kind : ∃ f fd, DefAt K mg "_law_kind" sKind ["_law_word"] f fd
  entered : ∃ f fd, DefAt K mg "_law_entered" sEntered ["_law_queues", "_law_spot", "_law_word"] f fd
  arrived : ∃ f fd, DefAt K mg "_law_arrived" sArrived psArrived f fd
  started : ∃ f fd, DefAt K mg "_law_started" sStarted psArrived f fd
  free : ∃ f fd, DefAt K mg "_law_is_free" sFree psFree f fd
  gone : ∃ f fd, DefAt K mg "_law_gone_on" sGone psGone f fd
  moves : ∃ f fd, DefAt K mg "_law_moves" sMoves psMoves f fd
  behind : ∃ f fd, DefAt K mg "_law_behind" sBehind psBehind f fd
  miss : ∃ f fd, DefAt K mg "_law_can_miss" sMiss psMiss f fd
theorem all_ok {P : Program} {w : World} {K : PySem.W.Frag} {mg : Str → Option Value} {base : Heap} (E : Defs K mg) (B : Blt mg) : LawC P w K mg base := by
  obtain ⟨f_int, g_int, D_int⟩ := E.int
  obtain ⟨f_form, g_form, D_form⟩ := E.form
  obtain ⟨f_dev, g_dev, D_dev⟩ := E.dev
  obtain ⟨f_pof, g_pof, D_pof⟩ := E.pof
  obtain ⟨f_at_, g_at_, D_at_⟩ := E.at_
  obtain ⟨f_pin, g_pin, D_pin⟩ := E.pin
  obtain ⟨f_plc, g_plc, D_plc⟩ := E.plc
  obtain ⟨f_pth, g_pth, D_pth⟩ := E.pth
  obtain ⟨f_dp, g_dp, D_dp⟩ := E.dp
  obtain ⟨f_plo, g_plo, D_plo⟩ := E.plo
  obtain ⟨f_bw, g_bw, D_bw⟩ := E.bw
  obtain ⟨f_pa, g_pa, D_pa⟩ := E.pa
  obtain ⟨f_sh, g_sh, D_sh⟩ := E.sh
  obtain ⟨f_forb, g_forb, D_forb⟩ := E.forb
  obtain ⟨f_src, g_src, D_src⟩ := E.src
  obtain ⟨f_bel, g_bel, D_bel⟩ := E.bel
  obtain ⟨f_pick, g_pick, D_pick⟩ := E.pick
  obtain ⟨f_prt, g_prt, D_prt⟩ := E.prt
  obtain ⟨f_tree, g_tree, D_tree⟩ := E.tree
  obtain ⟨f_places, g_places, D_places⟩ := E.places
  obtain ⟨f_way, g_way, D_way⟩ := E.way
  obtain ⟨f_routes, g_routes, D_routes⟩ := E.routes
  obtain ⟨f_kind, g_kind, D_kind⟩ := E.kind
  obtain ⟨f_entered, g_entered, D_entered⟩ := E.entered
  obtain ⟨f_arrived, g_arrived, D_arrived⟩ := E.arrived
  obtain ⟨f_started, g_started, D_started⟩ := E.started
  obtain ⟨f_free, g_free, D_free⟩ := E.free
  obtain ⟨f_gone, g_gone, D_gone⟩ := E.gone
  obtain ⟨f_moves, g_moves, D_moves⟩ := E.moves
  obtain ⟨f_behind, g_behind, D_behind⟩ := E.behind
  obtain ⟨f_miss, g_miss, D_miss⟩ := E.miss
  have C_int : InC P w K mg base := D_int.cal (ok_int D_int B)
  have C_form : FmC P w K mg base := D_form.cal (ok_form D_form B)
  have C_dev : DvC P w K mg base := D_dev.cal (ok_dev D_dev C_form)
  have C_pof : PoC P w K mg base := D_pof.cal (ok_pof D_pof C_dev)
  have C_at_ : AtC P w K mg base := D_at_.cal (ok_at D_at_ B C_pof C_int)
  have C_pin : PnC P w K mg base := D_pin.cal (ok_pin D_pin B C_pof 5)
  have C_plc : PlC P w K mg base := D_plc.cal (ok_plc D_plc B C_pof C_pin)
  have C_pth : PhC P w K mg base := D_pth.cal (ok_pth D_pth B C_plc)
  have C_dp : DpC P w K mg base := D_dp.cal (ok_dp D_dp C_pth C_at_ C_dev)
  have C_plo : LoC P w K mg base := D_plo.cal (ok_plo D_plo C_dp)
  have C_bw : BwC P w K mg base := D_bw.cal (ok_between D_bw B)
  have C_pa : PaC P w K mg base := D_pa.cal (ok_parting D_pa B)
  have C_sh : ShC P w K mg base := D_sh.cal (ok_shared D_sh C_pa)
  have C_bel : BeC' P w K mg base := D_bel.cal (ok_bel D_bel B)
  have C_prt : PrC P w K mg base := D_prt.cal (ok_prt D_prt B C_bel 4)
  have C_way : WyC P w K mg base := D_way.cal (ok_way D_way B)
  have C_kind : KiC P w K mg base := D_kind.cal (ok_kind D_kind)
  have C_entered : EnC P w K mg base := D_entered.cal (ok_entered D_entered)
  have C_arrived : ∀ rt, ArC P w K mg base rt := fun rt => D_arrived.cal (ok_arrived D_arrived C_entered)
  have C_started : ∀ rt, StC P w K mg base rt := fun rt => D_started.cal (ok_started D_started C_entered (C_arrived rt))
  have C_free : ∀ al, FrC P w K mg base al := fun al => D_free.cal (ok_free D_free C_kind)
  have C_gone : ∀ rt, GoC P w K mg base rt := fun rt => D_gone.cal (ok_gone D_gone C_entered (C_arrived rt))
  have C_moves : ∀ rt al, MoC P w K mg base rt al := fun rt al => D_moves.cal (ok_moves D_moves B (C_free al) (C_gone rt))
  have C_behind : ∀ rt al, BeC P w K mg base rt al := fun rt al => D_behind.cal (ok_behind D_behind (C_moves rt al) (C_started rt))
  exact ⟨D_src.cal (ok_src D_src B), C_bel, D_pick.cal (ok_pick D_pick B C_bel), D_tree.cal (ok_tree D_tree B C_bel C_prt), D_places.cal (ok_places D_places B 5), D_forb.cal (ok_forb D_forb B C_plo C_bw C_pa C_sh),
    D_routes.cal (fn_ex fun F => ok_routes D_routes B C_way), D_miss.cal (fn_ex fun x => ok_miss D_miss (C_behind x.1 x.2.1))⟩
theorem fin_mk {l : PySem.W.OpenLaw} {w : World} {K : PySem.W.Frag} {h : Heap} {mg : Str → Option Value} {fa f1 : Addr} (X : K.In h) (G : h.Ns mainGlobals mg) (hfa : mg "law" = some (.ref fa))
    {od1 an1 : Option Addr} {sl1 : Array (Option Value)} {oc1 kV1 dc1 pm1 cd1 ct1 : Value}
    (a1 : PySem.W.nsIn K mainGlobals "law" = some (some (.ref f1))) (l1 : K.lookup f1 = some ⟨oc1, od1, .func (PySem.W.fnOf "law" "law" (defArgs sLaw) (defBody sLaw) (defScope sLaw) .none kV1 dc1 pm1 an1 cd1 ct1), sl1⟩) (c1 : PySem.W.codeIn K cd1 "law" = true) (k1 : PySem.W.keepIn K (.ref f1) = true)
    (d_int : ∃ f fd, DefAt K mg "is_integer" sInt psInt f fd)
    (d_form : ∃ f fd, DefAt K mg "has_form" sForm psForm f fd)
    (d_dev : ∃ f fd, DefAt K mg "is_device" sDev psDev f fd)
    (d_pof : ∃ f fd, DefAt K mg "parts_of" sPof psDev f fd)
    (d_at_ : ∃ f fd, DefAt K mg "part_at" sAt psAt f fd)
    (d_pin : ∃ f fd, DefAt K mg "placed_in" sPin psPin f fd)
    (d_plc : ∃ f fd, DefAt K mg "placed" sPlc psPlc f fd)
    (d_pth : ∃ f fd, DefAt K mg "path_of" sPth psPth f fd)
    (d_dp : ∃ f fd, DefAt K mg "device_path" sDp psPth f fd)
    (d_plo : ∃ f fd, DefAt K mg "place_of" sPlo psPth f fd)
    (d_bw : ∃ f fd, DefAt K mg "way_between" sBetween psBetween f fd)
    (d_pa : ∃ f fd, DefAt K mg "parting" sParting psParting f fd)
    (d_sh : ∃ f fd, DefAt K mg "last_shared" sShared psShared f fd)
    (d_forb : ∃ f fd, DefAt K mg "forbidden" sForb psForb f fd)
    (d_src : ∃ f fd, DefAt K mg "_law_source" sSrc psSrc f fd)
    (d_bel : ∃ f fd, DefAt K mg "_law_below" sBel psBel f fd)
    (d_pick : ∃ f fd, DefAt K mg "_law_pick" sPick psPick f fd)
    (d_prt : ∃ f fd, DefAt K mg "_law_part" sPrt psPrt f fd)
    (d_tree : ∃ f fd, DefAt K mg "_law_tree" sTree psTree f fd)
    (d_places : ∃ f fd, DefAt K mg "_law_places" sPlaces psPlaces f fd)
    (d_way : ∃ f fd, DefAt K mg "_law_way" sWay psWay f fd)
    (d_routes : ∃ f fd, DefAt K mg "_law_routes" sRoutes psRoutes f fd)
    (d_kind : ∃ f fd, DefAt K mg "_law_kind" sKind ["_law_word"] f fd)
    (d_entered : ∃ f fd, DefAt K mg "_law_entered" sEntered ["_law_queues", "_law_spot", "_law_word"] f fd)
    (d_arrived : ∃ f fd, DefAt K mg "_law_arrived" sArrived psArrived f fd)
    (d_started : ∃ f fd, DefAt K mg "_law_started" sStarted psArrived f fd)
    (d_free : ∃ f fd, DefAt K mg "_law_is_free" sFree psFree f fd)
    (d_gone : ∃ f fd, DefAt K mg "_law_gone_on" sGone psGone f fd)
    (d_moves : ∃ f fd, DefAt K mg "_law_moves" sMoves psMoves f fd)
    (d_behind : ∃ f fd, DefAt K mg "_law_behind" sBehind psBehind f fd)
    (d_miss : ∃ f fd, DefAt K mg "_law_can_miss" sMiss psMiss f fd)
    (z_len : PySem.W.nsIn K mainGlobals "len" = some none)
    (z_range : PySem.W.nsIn K mainGlobals "range" = some none)
    (z_tuple : PySem.W.nsIn K mainGlobals "tuple" = some none)
    (z_isinstance : PySem.W.nsIn K mainGlobals "isinstance" = some none)
    (z_min : PySem.W.nsIn K mainGlobals "min" = some none)
    (z_zip : PySem.W.nsIn K mainGlobals "zip" = some none)
    (z_enumerate : PySem.W.nsIn K mainGlobals "enumerate" = some none)
    (z_abs : PySem.W.nsIn K mainGlobals "abs" = some none)
    (z_sorted : PySem.W.nsIn K mainGlobals "sorted" = some none)
    (z_dict : PySem.W.nsIn K mainGlobals "dict" = some none)
    (z_int : PySem.W.nsIn K mainGlobals "int" = some none)
    (z_str : PySem.W.nsIn K mainGlobals "str" = some none)
    (z_bool : PySem.W.nsIn K mainGlobals "bool" = some none)
    : ∃ fd : FuncData, (∀ (s : Shared) (v : Value), BindsTo s fd ⟨[v], []⟩ [("_law_script", v)]) ∧ ∀ base : Heap, K.In base → base.Ns mainGlobals mg → FnOk l.prog w K mg base CX0 14 fa fd ["_law_script"] (spLaw K) := by
  have e := hfa.symm.trans (PySem.W.mg_of X G a1)
  cases e
  have F1 := fun_mk (st := sLaw) l1 c1 k1
  have b1 := F1.binds (ps := ["_law_script"]) fun _ _ _ _ _ _ us hl => match us, hl with | [_], _ => rfl
  have B : Blt mg := ⟨PySem.W.mg_none_of X G z_len, PySem.W.mg_none_of X G z_range, PySem.W.mg_none_of X G z_tuple, PySem.W.mg_none_of X G z_isinstance, PySem.W.mg_none_of X G z_min, PySem.W.mg_none_of X G z_zip, PySem.W.mg_none_of X G z_enumerate, PySem.W.mg_none_of X G z_abs, PySem.W.mg_none_of X G z_sorted, PySem.W.mg_none_of X G z_dict, PySem.W.mg_none_of X G z_int, PySem.W.mg_none_of X G z_str, PySem.W.mg_none_of X G z_bool⟩
  have E : Defs K mg := ⟨d_int, d_form, d_dev, d_pof, d_at_, d_pin, d_plc, d_pth, d_dp, d_plo, d_bw, d_pa, d_sh, d_forb, d_src, d_bel, d_pick, d_prt, d_tree, d_places, d_way, d_routes, d_kind, d_entered, d_arrived, d_started, d_free, d_gone, d_moves, d_behind, d_miss⟩
  exact ⟨PySem.W.fnOf "law" "law" (defArgs sLaw) (defBody sLaw) (defScope sLaw) .none kV1 dc1 pm1 an1 cd1 ct1, fun s v => .of_eq rfl, fun base _ _ => ok_law ⟨F1, b1, PySem.W.mg_of X G a1⟩ B (all_ok E B)⟩
theorem walk {l : PySem.W.OpenLaw} {pq : Program} {lo : List Str} {XQ : (Str → Option Value) → Heap → Prop} {YQ : World → Heap → Prop} {d : DefRec} {K : Params → PySem.W.Frag} (h63 : l.most = some 63) (hdef : d.params.defaults = [])
    (hIn : ∀ (w : World) (h : Heap), YQ w h → (K w.params).In h)
    (F : ∀ (w : World) (mg : Str → Option Value) (fa : Addr) (hh : Heap), (K w.params).In hh → hh.Ns mainGlobals mg → mg d.name = some (.ref fa) →
      ∃ fd : FuncData, (∀ (s : Shared) (u : Value), BindsTo s fd ⟨[u], []⟩ [("_law_script", u)]) ∧ ∀ base : Heap, (K w.params).In base → base.Ns mainGlobals mg → FnOk l.prog w (K w.params) mg base CX0 14 fa fd ["_law_script"] (spLaw (K w.params))) :
    PySem.W.WalkO pq lo XQ YQ l.row.toRowW d [] (fun f vs => PySem.call f vs) :=
  L2.walk_of (n := 63) (k := 14) (x := "_law_script") (CX := fun _ => CX0) (sp := fun w => spLaw (K w.params)) h63 (by decide) hdef ⟨rfl, by decide, by decide⟩ hIn F (fun _ _ a ns hl _ hS => ⟨a, ns, rfl, hS, hl, fun _ => rfl⟩) fun _ _ _ _ _ z => z
end KW
open PySem PySem.W PyProof.Rows
set_option maxRecDepth 100000 in
set_option maxHeartbeats 0 in
theorem PySem.Challenge.cw_buswindows_k74_whole_orders_by_all_runs_holds : PySem.Challenge.rw_buswindows_k74_whole_orders_by_all_runs.Holds := by
  w_on; o_law; k_head; (case hw => w_witness2)
  k_fill
  refine KW.walk (l := PySem.Challenge.rw_buswindows_k74_whole_orders_by_all_runs) rfl rfl (fun w h Y => PySem.W.kIn_of Y) ?F
  case F =>
    intro w mg fa h KX G hmg
    refine' KW.fin_mk KX G hmg ?a1 ?l1 ?c1 ?k1 ?d_int ?d_form ?d_dev ?d_pof ?d_at_ ?d_pin ?d_plc ?d_pth ?d_dp ?d_plo ?d_bw ?d_pa ?d_sh ?d_forb ?d_src ?d_bel ?d_pick ?d_prt ?d_tree ?d_places ?d_way ?d_routes ?d_kind ?d_entered ?d_arrived ?d_started ?d_free ?d_gone ?d_moves ?d_behind ?d_miss ?z_len ?z_range ?z_tuple ?z_isinstance ?z_min ?z_zip ?z_enumerate ?z_abs ?z_sorted ?z_dict ?z_int ?z_str ?z_bool
    (case a1 => k_is); (case l1 => k_is); (case c1 => k_is); (case k1 => k_is)
    case d_int =>
      refine' KW.def_mk KX G ?a ?l ?c ?k (fun _ _ _ _ _ _ us hl => match us, hl with | [_, _, _], _ => rfl)
      (case a => k_is); (case l => k_is); (case c => k_is); (case k => k_is)
    case d_form =>
      refine' KW.def_mk KX G ?a ?l ?c ?k (fun _ _ _ _ _ _ us hl => match us, hl with | [_, _, _], _ => rfl)
      (case a => k_is); (case l => k_is); (case c => k_is); (case k => k_is)
    case d_dev =>
      refine' KW.def_mk KX G ?a ?l ?c ?k (fun _ _ _ _ _ _ us hl => match us, hl with | [_], _ => rfl)
      (case a => k_is); (case l => k_is); (case c => k_is); (case k => k_is)
    case d_pof =>
      refine' KW.def_mk KX G ?a ?l ?c ?k (fun _ _ _ _ _ _ us hl => match us, hl with | [_], _ => rfl)
      (case a => k_is); (case l => k_is); (case c => k_is); (case k => k_is)
    case d_at_ =>
      refine' KW.def_mk KX G ?a ?l ?c ?k (fun _ _ _ _ _ _ us hl => match us, hl with | [_, _], _ => rfl)
      (case a => k_is); (case l => k_is); (case c => k_is); (case k => k_is)
    case d_pin =>
      refine' KW.def_mk KX G ?a ?l ?c ?k (fun _ _ _ _ _ _ us hl => match us, hl with | [_, _], _ => rfl)
      (case a => k_is); (case l => k_is); (case c => k_is); (case k => k_is)
    case d_plc =>
      refine' KW.def_mk KX G ?a ?l ?c ?k (fun _ _ _ _ _ _ us hl => match us, hl with | [_], _ => rfl)
      (case a => k_is); (case l => k_is); (case c => k_is); (case k => k_is)
    case d_pth =>
      refine' KW.def_mk KX G ?a ?l ?c ?k (fun _ _ _ _ _ _ us hl => match us, hl with | [_, _], _ => rfl)
      (case a => k_is); (case l => k_is); (case c => k_is); (case k => k_is)
    case d_dp =>
      refine' KW.def_mk KX G ?a ?l ?c ?k (fun _ _ _ _ _ _ us hl => match us, hl with | [_, _], _ => rfl)
      (case a => k_is); (case l => k_is); (case c => k_is); (case k => k_is)
    case d_plo =>
      refine' KW.def_mk KX G ?a ?l ?c ?k (fun _ _ _ _ _ _ us hl => match us, hl with | [_, _], _ => rfl)
      (case a => k_is); (case l => k_is); (case c => k_is); (case k => k_is)
    case d_bw =>
      refine' KW.def_mk KX G ?a ?l ?c ?k (fun _ _ _ _ _ _ us hl => match us, hl with | [_, _], _ => rfl)
      (case a => k_is); (case l => k_is); (case c => k_is); (case k => k_is)
    case d_pa =>
      refine' KW.def_mk KX G ?a ?l ?c ?k (fun _ _ _ _ _ _ us hl => match us, hl with | [_, _], _ => rfl)
      (case a => k_is); (case l => k_is); (case c => k_is); (case k => k_is)
    case d_sh =>
      refine' KW.def_mk KX G ?a ?l ?c ?k (fun _ _ _ _ _ _ us hl => match us, hl with | [_, _, _], _ => rfl)
      (case a => k_is); (case l => k_is); (case c => k_is); (case k => k_is)
    case d_forb =>
      refine' KW.def_mk KX G ?a ?l ?c ?k (fun _ _ _ _ _ _ us hl => match us, hl with | [_, _, _, _, _], _ => rfl)
      (case a => k_is); (case l => k_is); (case c => k_is); (case k => k_is)
    case d_src =>
      refine' KW.def_mk KX G ?a ?l ?c ?k (fun _ _ _ _ _ _ us hl => match us, hl with | [_], _ => rfl)
      (case a => k_is); (case l => k_is); (case c => k_is); (case k => k_is)
    case d_bel =>
      refine' KW.def_mk KX G ?a ?l ?c ?k (fun _ _ _ _ _ _ us hl => match us, hl with | [_, _], _ => rfl)
      (case a => k_is); (case l => k_is); (case c => k_is); (case k => k_is)
    case d_pick =>
      refine' KW.def_mk KX G ?a ?l ?c ?k (fun _ _ _ _ _ _ us hl => match us, hl with | [_, _], _ => rfl)
      (case a => k_is); (case l => k_is); (case c => k_is); (case k => k_is)
    case d_prt =>
      refine' KW.def_mk KX G ?a ?l ?c ?k (fun _ _ _ _ _ _ us hl => match us, hl with | [_, _, _], _ => rfl)
      (case a => k_is); (case l => k_is); (case c => k_is); (case k => k_is)
    case d_tree =>
      refine' KW.def_mk KX G ?a ?l ?c ?k (fun _ _ _ _ _ _ us hl => match us, hl with | [_, _], _ => rfl)
      (case a => k_is); (case l => k_is); (case c => k_is); (case k => k_is)
    case d_places =>
      refine' KW.def_mk KX G ?a ?l ?c ?k (fun _ _ _ _ _ _ us hl => match us, hl with | [_, _], _ => rfl)
      (case a => k_is); (case l => k_is); (case c => k_is); (case k => k_is)
    case d_way =>
      refine' KW.def_mk KX G ?a ?l ?c ?k (fun _ _ _ _ _ _ us hl => match us, hl with | [_, _], _ => rfl)
      (case a => k_is); (case l => k_is); (case c => k_is); (case k => k_is)
    case d_routes =>
      refine' KW.def_mk KX G ?a ?l ?c ?k (fun _ _ _ _ _ _ us hl => match us, hl with | [_], _ => rfl)
      (case a => k_is); (case l => k_is); (case c => k_is); (case k => k_is)
    case d_kind =>
      refine' KW.def_mk KX G ?a ?l ?c ?k (fun _ _ _ _ _ _ us hl => match us, hl with | [_], _ => rfl)
      (case a => k_is); (case l => k_is); (case c => k_is); (case k => k_is)
    case d_entered =>
      refine' KW.def_mk KX G ?a ?l ?c ?k (fun _ _ _ _ _ _ us hl => match us, hl with | [_, _, _], _ => rfl)
      (case a => k_is); (case l => k_is); (case c => k_is); (case k => k_is)
    case d_arrived =>
      refine' KW.def_mk KX G ?a ?l ?c ?k (fun _ _ _ _ _ _ us hl => match us, hl with | [_, _, _], _ => rfl)
      (case a => k_is); (case l => k_is); (case c => k_is); (case k => k_is)
    case d_started =>
      refine' KW.def_mk KX G ?a ?l ?c ?k (fun _ _ _ _ _ _ us hl => match us, hl with | [_, _, _], _ => rfl)
      (case a => k_is); (case l => k_is); (case c => k_is); (case k => k_is)
    case d_free =>
      refine' KW.def_mk KX G ?a ?l ?c ?k (fun _ _ _ _ _ _ us hl => match us, hl with | [_, _, _], _ => rfl)
      (case a => k_is); (case l => k_is); (case c => k_is); (case k => k_is)
    case d_gone =>
      refine' KW.def_mk KX G ?a ?l ?c ?k (fun _ _ _ _ _ _ us hl => match us, hl with | [_, _, _, _], _ => rfl)
      (case a => k_is); (case l => k_is); (case c => k_is); (case k => k_is)
    case d_moves =>
      refine' KW.def_mk KX G ?a ?l ?c ?k (fun _ _ _ _ _ _ us hl => match us, hl with | [_, _, _], _ => rfl)
      (case a => k_is); (case l => k_is); (case c => k_is); (case k => k_is)
    case d_behind =>
      refine' KW.def_mk KX G ?a ?l ?c ?k (fun _ _ _ _ _ _ us hl => match us, hl with | [_, _, _], _ => rfl)
      (case a => k_is); (case l => k_is); (case c => k_is); (case k => k_is)
    case d_miss =>
      refine' KW.def_mk KX G ?a ?l ?c ?k (fun _ _ _ _ _ _ us hl => match us, hl with | [_, _, _], _ => rfl)
      (case a => k_is); (case l => k_is); (case c => k_is); (case k => k_is)
    (case z_len => k_is)
    (case z_range => k_is)
    (case z_tuple => k_is)
    (case z_isinstance => k_is)
    (case z_min => k_is)
    (case z_zip => k_is)
    (case z_enumerate => k_is)
    (case z_abs => k_is)
    (case z_sorted => k_is)
    (case z_dict => k_is)
    (case z_int => k_is)
    (case z_str => k_is)
    (case z_bool => k_is)
