import PyProof.Rows.All
import Wide.All
import OpenK.AllK
import Wide.FinOn
import HandS.ForMost
import HandS.TupAny
import HandS.Lambda
import HandS.EndTab
import KE.KDictKeyed
import KE.KDictDisplayH
import KE.SortData
import KE.SortKeyHeap
import KE.GoesEnum
import HandS.Walk
import HandS.IsInst
import HandS.Conv
import HandS.More
import HandS.Zip
import HandS.Strs
import HandS.SortInts
import KE.KNestM
import PySem.Challenge.RW_latchtown_k24_whole_no_fewer_watchers_by
section
set_option autoImplicit false
set_option linter.all false
/-! The mathematics of rounds in rows: partitions into rows, matchings, covers. Plain Lean. -/
namespace LT
universe u
/-- each one but the first follows the one ahead of it -/
def Chain {α : Type} (R : α → α → Prop) : List α → Prop
  | [] => True
  | [_] => True
  | a :: b :: r => R a b ∧ Chain R (b :: r)
structure Part {α : Type} (R : α → α → Prop) (l : List α) (rows : List (List α)) : Prop where
  perm : rows.flatten.Perm l
  ch : ∀ row ∈ rows, Chain R row

theorem Chain.mono {α : Type} {R R' : α → α → Prop} (h : ∀ a b, R a b → R' a b) : ∀ {l : List α}, Chain R l → Chain R' l
  | [], _ => trivial
  | [_], _ => trivial
  | a :: b :: r, c => ⟨h a b c.1, Chain.mono h c.2⟩
theorem Chain.monoMem {α : Type} {R R' : α → α → Prop} : ∀ {l : List α}, (∀ a ∈ l, ∀ b ∈ l, R a b → R' a b) → Chain R l → Chain R' l
  | [], _, _ => trivial
  | [_], _, _ => trivial
  | a :: b :: r, h, c => ⟨h a (by simp) b (by simp) c.1, Chain.monoMem (fun x hx y hy => h x (List.mem_cons_of_mem _ hx) y (List.mem_cons_of_mem _ hy)) c.2⟩
theorem Chain.map {α β : Type} {R : β → β → Prop} (f : α → β) : ∀ {l : List α}, Chain R (l.map f) → Chain (fun a b => R (f a) (f b)) l
  | [], _ => trivial
  | [_], _ => trivial
  | a :: b :: r, c => ⟨c.1, Chain.map f (l := b :: r) c.2⟩
theorem Chain.snoc {α : Type} {R : α → α → Prop} : ∀ {l : List α} {x : α}, Chain R l → (∀ y, l.getLast? = some y → R y x) → Chain R (l ++ [x])
  | [], _, _, _ => trivial
  | [a], x, _, h => ⟨h a rfl, trivial⟩
  | a :: b :: r, x, c, h => ⟨c.1, Chain.snoc (l := b :: r) c.2 fun y hy => h y (by rw [List.getLast?_cons_cons]; exact hy)⟩
theorem Part.mono {α : Type} {R R' : α → α → Prop} (h : ∀ a b, R a b → R' a b) {l : List α} {rows : List (List α)} (p : Part R l rows) : Part R' l rows :=
  ⟨p.perm, fun row hr => (p.ch row hr).mono h⟩
theorem Part.monoMem {α : Type} {R R' : α → α → Prop} {l : List α} (h : ∀ a ∈ l, ∀ b ∈ l, R a b → R' a b) {rows : List (List α)} (p : Part R l rows) : Part R' l rows :=
  ⟨p.perm, fun row hr => Chain.monoMem (fun a ha b hb => h a (p.perm.mem_iff.mp (List.mem_flatten.mpr ⟨row, hr, ha⟩)) b (p.perm.mem_iff.mp (List.mem_flatten.mpr ⟨row, hr, hb⟩))) (p.ch row hr)⟩

/-! ### lists without doubles -/
theorem nd_sub_len {α : Type} : ∀ {l m : List α}, l.Nodup → (∀ x ∈ l, x ∈ m) → l.length ≤ m.length
  | [], _, _, _ => Nat.zero_le _
  | x :: l, m, hn, hs => by
    classical
    obtain ⟨h1, h2⟩ := List.nodup_cons.mp hn
    have hx : x ∈ m := hs x (by simp)
    have ih : l.length ≤ (m.erase x).length := nd_sub_len h2 fun y hy => by
      have hne : y ≠ x := fun e => h1 (e ▸ hy)
      exact (List.mem_erase_of_ne hne).mpr (hs y (List.mem_cons_of_mem _ hy))
    have hpos : 0 < m.length := List.length_pos_of_mem hx
    rw [List.length_erase_of_mem hx] at ih
    rw [List.length_cons]
    omega
theorem nd_lt_len {l : List Nat} {n : Nat} (hn : l.Nodup) (h : ∀ x ∈ l, x < n) : l.length ≤ n := by
  have := nd_sub_len hn (m := List.range n) fun x hx => List.mem_range.mpr (h x hx)
  rwa [List.length_range] at this
theorem nd_count {p : Nat → Bool} {l m : List Nat} (hn : l.Nodup) (hs : ∀ x ∈ l, x ∈ m) : l.countP p ≤ m.countP p := by
  rw [List.countP_eq_length_filter, List.countP_eq_length_filter]
  refine nd_sub_len (hn.sublist (List.filter_sublist ..)) fun x hx => ?_
  obtain ⟨h1, h2⟩ := List.mem_filter.mp hx
  exact List.mem_filter.mpr ⟨hs x h1, h2⟩
theorem nodup_range (n : Nat) : (List.range n).Nodup := List.nodup_range

/-! ### the neighbours in rows -/
def prs {α : Type} (row : List α) : List (α × α) := row.zip row.tail
def nbr {α : Type} (rows : List (List α)) : List (α × α) := rows.flatMap prs
theorem prs_len {α : Type} (row : List α) : row.length ≤ (prs row).length + 1 := by
  unfold prs
  rw [List.length_zip, List.length_tail]
  omega
theorem nbr_len {α : Type} : ∀ rows : List (List α), rows.flatten.length ≤ (nbr rows).length + rows.length
  | [] => by simp
  | r :: rs => by
    have h1 := prs_len r
    have h2 := nbr_len rs
    have e : nbr (r :: rs) = prs r ++ nbr rs := by simp [nbr]
    rw [List.flatten_cons, List.length_append, e, List.length_append, List.length_cons]
    omega
theorem zip_fst_sub {α β : Type} : ∀ (l : List α) (m : List β), ((l.zip m).map Prod.fst).Sublist l
  | [], _ => by simp
  | _ :: _, [] => by simp
  | a :: l, b :: m => by
    rw [List.zip_cons_cons, List.map_cons]
    exact (zip_fst_sub l m).cons₂ a
theorem zip_snd_sub {α β : Type} : ∀ (l : List α) (m : List β), ((l.zip m).map Prod.snd).Sublist m
  | [], _ => by simp
  | _ :: _, [] => by simp
  | a :: l, b :: m => by
    rw [List.zip_cons_cons, List.map_cons]
    exact (zip_snd_sub l m).cons₂ b
theorem prs_fst {α : Type} (row : List α) : ((prs row).map Prod.fst).Sublist row := zip_fst_sub _ _
theorem prs_snd {α : Type} (row : List α) : ((prs row).map Prod.snd).Sublist row := (zip_snd_sub _ _).trans (List.tail_sublist _)
theorem nd_map {α β : Type} {f : α → β} : ∀ {l : List α}, (∀ a ∈ l, ∀ b ∈ l, f a = f b → a = b) → l.Nodup → (l.map f).Nodup
  | [], _, _ => List.nodup_nil
  | x :: l, h, hn => by
    obtain ⟨h1, h2⟩ := List.nodup_cons.mp hn
    rw [List.map_cons]
    refine List.nodup_cons.mpr ⟨fun m => ?_, nd_map (fun a ha b hb => h a (List.mem_cons_of_mem _ ha) b (List.mem_cons_of_mem _ hb)) h2⟩
    obtain ⟨y, hy, e⟩ := List.mem_map.mp m
    have := h y (List.mem_cons_of_mem _ hy) x (by simp) e
    exact h1 (this ▸ hy)
theorem nbr_fst {α : Type} : ∀ rows : List (List α), ((nbr rows).map Prod.fst).Sublist rows.flatten
  | [] => by simp [nbr]
  | r :: rs => by
    have e : nbr (r :: rs) = prs r ++ nbr rs := by simp [nbr]
    rw [e, List.map_append, List.flatten_cons]
    exact (prs_fst r).append (nbr_fst rs)
theorem nbr_snd {α : Type} : ∀ rows : List (List α), ((nbr rows).map Prod.snd).Sublist rows.flatten
  | [] => by simp [nbr]
  | r :: rs => by
    have e : nbr (r :: rs) = prs r ++ nbr rs := by simp [nbr]
    rw [e, List.map_append, List.flatten_cons]
    exact (prs_snd r).append (nbr_snd rs)
theorem chain_prs {α : Type} {R : α → α → Prop} : ∀ {row : List α}, Chain R row → ∀ p ∈ prs row, R p.1 p.2
  | [], _, p, hp => by simp [prs] at hp
  | [_], _, p, hp => by simp [prs] at hp
  | a :: b :: r, c, p, hp => by
    have e : prs (a :: b :: r) = (a, b) :: prs (b :: r) := by simp [prs]
    rw [e] at hp
    rcases List.mem_cons.mp hp with rfl | hp
    · exact c.1
    · exact chain_prs (row := b :: r) c.2 p hp
theorem Part.nbr {α : Type} {R : α → α → Prop} {l : List α} {rows : List (List α)} (p : Part R l rows) : ∀ q ∈ nbr rows, R q.1 q.2 := fun q hq => by
  obtain ⟨row, hr, hq⟩ := List.mem_flatMap.mp hq
  exact chain_prs (p.ch row hr) q hq

/-! ### a cover bounds every partition from below -/
theorem cover_bound {n : Nat} {R : Nat → Nat → Prop} {CA CB : Nat → Bool} (cov : ∀ a b, a < n → b < n → R a b → CA a = true ∨ CB b = true) {rows : List (List Nat)} (p : Part R (List.range n) rows) :
    n ≤ (List.range n).countP CA + (List.range n).countP CB + rows.length := by
  have hnd : rows.flatten.Nodup := p.perm.nodup_iff.mpr List.nodup_range
  have hlen : rows.flatten.length = n := by rw [p.perm.length_eq, List.length_range]
  have hmem : ∀ x ∈ rows.flatten, x ∈ List.range n := fun x hx => p.perm.mem_iff.mp hx
  have h1 := nbr_len rows
  have hf := nbr_fst rows
  have hs := nbr_snd rows
  have hR := p.nbr
  have c1 : ((LT.nbr rows).map Prod.fst).countP CA ≤ (List.range n).countP CA := nd_count (hnd.sublist hf) fun x hx => hmem x (hf.subset hx)
  have c2 : ((LT.nbr rows).map Prod.snd).countP CB ≤ (List.range n).countP CB := nd_count (hnd.sublist hs) fun x hx => hmem x (hs.subset hx)
  have key : ∀ P : List (Nat × Nat), (∀ q ∈ P, CA q.1 = true ∨ CB q.2 = true) → P.length ≤ (P.map Prod.fst).countP CA + (P.map Prod.snd).countP CB := by
    intro P
    induction P with
    | nil => intro _; simp
    | cons q P ih =>
      intro h
      have h' := ih fun r hr => h r (List.mem_cons_of_mem _ hr)
      have hq := h q (by simp)
      rw [List.map_cons, List.map_cons, List.countP_cons, List.countP_cons, List.length_cons]
      rcases hq with e | e
      · rw [if_pos e]
        omega
      · rw [if_pos e]
        omega
  have h2 := key (LT.nbr rows) fun q hq => cov q.1 q.2 (List.mem_range.mp (hmem _ (hf.subset (List.mem_map.mpr ⟨q, hq, rfl⟩)))) (List.mem_range.mp (hmem _ (hs.subset (List.mem_map.mpr ⟨q, hq, rfl⟩)))) (hR q hq)
  omega

/-! ### the pairing's invariant -/
/-- behind the first i rounds: A gives a round the one ahead of it, B the one behind it; a cover (CA, CB) as large as the pairing -/
structure Good (E : Nat → Nat → Prop) (i : Nat) (A B : Nat → Option Nat) (CA CB : Nat → Prop) : Prop where
  inv : ∀ l r, B l = some r ↔ A r = some l
  edge : ∀ l r, A r = some l → E l r
  lt : ∀ l r, A r = some l → l < i
  cov : ∀ l r, l < i → E l r → CA l ∨ CB r
  ca : ∀ l, CA l → ∃ r, B l = some r
  cb : ∀ r, CB r → ∃ l, A r = some l
  ex : ∀ l r, A r = some l → CA l → CB r → False
theorem Good.inj {E A B CA CB} {i : Nat} (g : Good E i A B CA CB) {l r r' : Nat} (h : A r = some l) (h' : A r' = some l) : r = r' :=
  Option.some.inj (((g.inv l r).mpr h).symm.trans ((g.inv l r').mpr h'))
theorem Good.start (E : Nat → Nat → Prop) : Good E 0 (fun _ => none) (fun _ => none) (fun _ => False) (fun _ => False) :=
  ⟨by simp, by simp, by simp, by simp, by simp, by simp, by simp⟩
def put (f : Nat → Option Nat) (k v : Nat) : Nat → Option Nat := fun x => if x = k then some v else f x
theorem put_same (f : Nat → Option Nat) (k v : Nat) : put f k v k = some v := if_pos rfl
theorem put_ne {f : Nat → Option Nat} {k v x : Nat} (h : x ≠ k) : put f k v x = f x := if_neg h
/-- grown, told of the round one and of those met: it has found one that follows -/
structure Won (E : Nat → Nat → Prop) (A B : Nat → Option Nat) (CA CB : Nat → Prop) (one : Nat) (S : Nat → Prop) (A' B' : Nat → Option Nat) : Prop where
  p1 : ∀ r, S r → A' r = A r
  p2 : ∀ l, (∃ r, ¬ S r ∧ A' r = some l) ↔ (l = one ∨ ∃ r, ¬ S r ∧ A r = some l)
  p3 : ∀ r r' l, ¬ S r → ¬ S r' → A' r = some l → A' r' = some l → r = r'
  p4 : ∀ l r, ¬ S r → A' r = some l → B' l = some r
  p5 : ∀ l, (∀ r, ¬ S r → A' r ≠ some l) → B' l = B l
  p6 : ∀ l r, ¬ S r → A' r = some l → E l r
  p7 : ∀ r, ¬ S r → A' r = A r ∨ (¬ CB r ∧ ∃ l, A' r = some l ∧ (l = one ∨ CA l))
  p8 : ∀ r l, A r = some l → ∃ l', A' r = some l'
/-- the loop of grown: those met so far, nothing found -/
structure Sofar (E : Nat → Nat → Prop) (A : Nat → Option Nat) (S Sc : Nat → Prop) : Prop where
  sub : ∀ r, S r → Sc r
  cl : ∀ r, Sc r → ¬ S r → ∃ l, A r = some l ∧ ∀ r', E l r' → Sc r'
theorem Sofar.refl (E : Nat → Nat → Prop) (A : Nat → Option Nat) (S : Nat → Prop) : Sofar E A S S := ⟨fun _ h => h, fun _ h n => (n h).elim⟩
def Lost (E : Nat → Nat → Prop) (A : Nat → Option Nat) (one : Nat) (S S' : Nat → Prop) : Prop := Sofar E A S S' ∧ ∀ r, E one r → S' r
def With (S : Nat → Prop) (x : Nat) : Nat → Prop := fun r => r = x ∨ S r
section
variable {E : Nat → Nat → Prop} {A B : Nat → Option Nat} {CA CB : Nat → Prop} {i one other l : Nat} {S Sc S2 : Nat → Prop} {A1 B1 : Nat → Option Nat}
/-- the one met is free -/
theorem won_free (g : Good E i A B CA CB) (sf : Sofar E A S Sc) (pre : ∀ r, A r = some one → S r) (he : E one other) (hn : ¬ Sc other) (hf : A other = none) :
    Won E A B CA CB one S (put A other one) (put B one other) := by
  have hS : ¬ S other := fun h => hn (sf.sub _ h)
  have nS : ∀ r, S r → r ≠ other := fun r h e => hS (e ▸ h)
  refine ⟨fun r h => put_ne (nS r h), fun l' => ⟨?_, ?_⟩, fun r r' l' h h' e e' => ?_, fun l' r h e => ?_, fun l' h => ?_, fun l' r h e => ?_, fun r h => ?_, fun r l' h => ?_⟩
  · rintro ⟨r, h, e⟩
    by_cases hr : r = other
    · subst hr
      rw [put_same] at e
      exact .inl (Option.some.inj e).symm
    · rw [put_ne hr] at e
      exact .inr ⟨r, h, e⟩
  · rintro (rfl | ⟨r, h, e⟩)
    · exact ⟨other, hS, put_same ..⟩
    · refine ⟨r, h, ?_⟩
      rw [put_ne (fun q => by rw [q, hf] at e; cases e)]
      exact e
  · by_cases hr : r = other
    · by_cases hr' : r' = other
      · exact hr.trans hr'.symm
      · rw [hr, put_same] at e
        rw [put_ne hr'] at e'
        rw [← Option.some.inj e] at e'
        exact (h' (pre _ e')).elim
    · rw [put_ne hr] at e
      by_cases hr' : r' = other
      · rw [hr', put_same] at e'
        rw [← Option.some.inj e'] at e
        exact (h (pre _ e)).elim
      · rw [put_ne hr'] at e'
        exact g.inj e e'
  · by_cases hr : r = other
    · subst hr
      rw [put_same] at e
      cases e
      exact put_same ..
    · rw [put_ne hr] at e
      have hl : l' ≠ one := fun q => h (pre r (q ▸ e))
      rw [put_ne hl]
      exact (g.inv l' r).mpr e
  · refine put_ne fun q => ?_
    subst q
    exact h other hS (put_same ..)
  · by_cases hr : r = other
    · subst hr
      rw [put_same] at e
      cases e
      exact he
    · rw [put_ne hr] at e
      exact g.edge _ _ e
  · by_cases hr : r = other
    · subst hr
      refine .inr ⟨fun hc => ?_, one, put_same .., .inl rfl⟩
      obtain ⟨l', e⟩ := g.cb _ hc
      rw [hf] at e
      cases e
    · exact .inl (put_ne hr)
  · by_cases hr : r = other
    · subst hr
      exact ⟨one, put_same ..⟩
    · exact ⟨l', (put_ne hr).trans h⟩
/-- what the recursion is asked -/
theorem pre_rec (g : Good E i A B CA CB) (hl : A other = some l) : ∀ r, A r = some l → With Sc other r := fun r h => .inl (g.inj h hl)
/-- the one met is another's, who has found another one -/
theorem won_rec (g : Good E i A B CA CB) (sf : Sofar E A S Sc) (pre : ∀ r, A r = some one → S r) (he : E one other) (hn : ¬ Sc other) (hl : A other = some l) (w : Won E A B CA CB l (With Sc other) A1 B1) :
    Won E A B CA CB one S (put A1 other one) (put B1 one other) := by
  have hS : ¬ S other := fun h => hn (sf.sub _ h)
  have nS : ∀ r, S r → r ≠ other := fun r h e => hS (e ▸ h)
  have up : ∀ r, S r → With Sc other r := fun r h => .inr (sf.sub r h)
  have one_no : ∀ r, r ≠ other → ¬ S r → A1 r ≠ some one := fun r hr h e => by
    by_cases hs : With Sc other r
    · rw [w.p1 r hs] at e
      exact h (pre r e)
    · rcases (w.p2 one).mp ⟨r, hs, e⟩ with q | ⟨r2, h2, e2⟩
      · rw [← q] at hl
        exact hS (pre _ hl)
      · exact h2 (up _ (pre _ e2))
  refine ⟨fun r h => (put_ne (nS r h)).trans (w.p1 r (up r h)), fun l' => ⟨?_, ?_⟩, fun r r' l' h h' e e' => ?_, fun l' r h e => ?_, fun l' h => ?_, fun l' r h e => ?_, fun r h => ?_, fun r l' h => ?_⟩
  · rintro ⟨r, h, e⟩
    by_cases hr : r = other
    · subst hr
      rw [put_same] at e
      exact .inl (Option.some.inj e).symm
    · rw [put_ne hr] at e
      by_cases hs : With Sc other r
      · rw [w.p1 r hs] at e
        exact .inr ⟨r, h, e⟩
      · rcases (w.p2 l').mp ⟨r, hs, e⟩ with q | ⟨r2, h2, e2⟩
        · subst q
          exact .inr ⟨other, hS, hl⟩
        · exact .inr ⟨r2, fun z => h2 (up _ z), e2⟩
  · rintro (rfl | ⟨r, h, e⟩)
    · exact ⟨other, hS, put_same ..⟩
    · by_cases hr : r = other
      · subst hr
        rw [hl] at e
        cases e
        obtain ⟨r2, h2, e2⟩ := (w.p2 l).mpr (.inl rfl)
        refine ⟨r2, fun z => h2 (up _ z), ?_⟩
        rw [put_ne (fun q => h2 (.inl q))]
        exact e2
      · by_cases hs : With Sc other r
        · refine ⟨r, h, ?_⟩
          rw [put_ne hr, w.p1 r hs]
          exact e
        · obtain ⟨r2, h2, e2⟩ := (w.p2 l').mpr (.inr ⟨r, hs, e⟩)
          refine ⟨r2, fun z => h2 (up _ z), ?_⟩
          rw [put_ne (fun q => h2 (.inl q))]
          exact e2
  · by_cases hr : r = other
    · by_cases hr' : r' = other
      · exact hr.trans hr'.symm
      · rw [hr, put_same] at e
        rw [put_ne hr', ← e] at e'
        exact (one_no r' hr' h' e').elim
    · rw [put_ne hr] at e
      by_cases hr' : r' = other
      · rw [hr', put_same] at e'
        rw [← e'] at e
        exact (one_no r hr h e).elim
      · rw [put_ne hr'] at e'
        by_cases hs : With Sc other r
        · rw [w.p1 r hs] at e
          by_cases hs' : With Sc other r'
          · rw [w.p1 r' hs'] at e'
            exact g.inj e e'
          · rcases (w.p2 l').mp ⟨r', hs', e'⟩ with q | ⟨r2, h2, e2⟩
            · subst q
              exact (hr (g.inj e hl)).elim
            · rw [g.inj e e2] at hs
              exact (h2 hs).elim
        · by_cases hs' : With Sc other r'
          · rw [w.p1 r' hs'] at e'
            rcases (w.p2 l').mp ⟨r, hs, e⟩ with q | ⟨r2, h2, e2⟩
            · subst q
              exact (hr' (g.inj e' hl)).elim
            · rw [g.inj e' e2] at hs'
              exact (h2 hs').elim
          · exact w.p3 r r' l' hs hs' e e'
  · by_cases hr : r = other
    · subst hr
      rw [put_same] at e
      cases e
      exact put_same ..
    · rw [put_ne hr] at e
      have hl' : l' ≠ one := fun q => one_no r hr h (q ▸ e)
      rw [put_ne hl']
      by_cases hs : With Sc other r
      · rw [w.p1 r hs] at e
        rw [w.p5 l' fun r2 h2 e2 => ?_]
        · exact (g.inv l' r).mpr e
        · rcases (w.p2 l').mp ⟨r2, h2, e2⟩ with q | ⟨r3, h3, e3⟩
          · subst q
            exact hr (g.inj e hl)
          · rw [g.inj e e3] at hs
            exact h3 hs
      · exact w.p4 l' r hs e
  · have hl' : l' ≠ one := fun q => by
      subst q
      exact h other hS (put_same ..)
    rw [put_ne hl']
    refine w.p5 l' fun r h2 e2 => ?_
    refine h r (fun z => h2 (up _ z)) ?_
    rw [put_ne (fun q => h2 (.inl q))]
    exact e2
  · by_cases hr : r = other
    · subst hr
      rw [put_same] at e
      cases e
      exact he
    · rw [put_ne hr] at e
      by_cases hs : With Sc other r
      · rw [w.p1 r hs] at e
        exact g.edge _ _ e
      · exact w.p6 _ _ hs e
  · -- the other one of l is not covered from behind, so l is
    have hla : CA l := by
      obtain ⟨r2, h2, e2⟩ := (w.p2 l).mpr (.inl rfl)
      have hE := w.p6 _ _ h2 e2
      rcases w.p7 r2 h2 with q | ⟨q, _⟩
      · rw [q] at e2
        exact (h2 (.inl (g.inj e2 hl))).elim
      · exact (g.cov l r2 (g.lt _ _ hl) hE).resolve_right q
    by_cases hr : r = other
    · subst hr
      exact .inr ⟨fun hc => g.ex _ _ hl hla hc, one, put_same .., .inl rfl⟩
    · rw [put_ne hr]
      by_cases hs : With Sc other r
      · exact .inl (w.p1 r hs)
      · rcases w.p7 r hs with q | ⟨q, l', e, q'⟩
        · exact .inl q
        · refine .inr ⟨q, l', e, .inr ?_⟩
          rcases q' with rfl | q'
          · exact hla
          · exact q'
  · by_cases hr : r = other
    · subst hr
      exact ⟨one, put_same ..⟩
    · rw [put_ne hr]
      exact w.p8 r l' h
/-- the one met is another's, who has found none -/
theorem sofar_rec (sf : Sofar E A S Sc) (hl : A other = some l) (w : Lost E A l (With Sc other) S2) : Sofar E A S S2 := by
  obtain ⟨w1, w2⟩ := w
  refine ⟨fun r h => w1.sub r (.inr (sf.sub r h)), fun r h n => ?_⟩
  by_cases hs : With Sc other r
  · rcases hs with rfl | hs
    · exact ⟨l, hl, w2⟩
    · obtain ⟨l', e, c⟩ := sf.cl r hs n
      exact ⟨l', e, fun r' h' => w1.sub r' (.inr (c r' h'))⟩
  · exact w1.cl r h hs
theorem sofar_has (sf : Sofar E A S Sc) (w : Lost E A l (With Sc other) S2) : S2 other ∧ ∀ r, Sc r → S2 r := ⟨w.1.sub _ (.inl rfl), fun r h => w.1.sub r (.inr h)⟩

/-- the next round has found one -/
theorem Good.won (g : Good E i A B CA CB) (w : Won E A B CA CB i (fun _ => False) A1 B1) : Good E (i + 1) A1 B1 (fun l => l = i ∨ CA l) CB := by
  have nF : ∀ r : Nat, ¬ (fun _ : Nat => False) r := fun _ h => h
  refine ⟨fun l r => ⟨fun h => ?_, fun h => w.p4 l r (nF r) h⟩, fun l r h => w.p6 l r (nF r) h, fun l r h => ?_, fun l r h e => ?_, fun l h => ?_, fun r h => ?_, fun l r h h1 h2 => ?_⟩
  · by_cases hi : ∃ r', A1 r' = some l
    · obtain ⟨r', e⟩ := hi
      have := w.p4 l r' (nF r') e
      rw [h] at this
      cases this
      exact e
    · rw [w.p5 l fun r' _ e => hi ⟨r', e⟩] at h
      have := (g.inv l r).mp h
      obtain ⟨r', _, e⟩ := (w.p2 l).mpr (.inr ⟨r, nF r, this⟩)
      exact (hi ⟨r', e⟩).elim
  · rcases (w.p2 l).mp ⟨r, nF r, h⟩ with q | ⟨r', _, e⟩
    · omega
    · have := g.lt _ _ e
      omega
  · by_cases hl : l = i
    · exact .inl (.inl hl)
    · rcases g.cov l r (by omega) e with q | q
      · exact .inl (.inr q)
      · exact .inr q
  · have : ∃ r, A1 r = some l := by
      rcases h with rfl | h
      · obtain ⟨r, _, e⟩ := (w.p2 l).mpr (.inl rfl)
        exact ⟨r, e⟩
      · obtain ⟨r, e⟩ := g.ca l h
        obtain ⟨r', _, e'⟩ := (w.p2 l).mpr (.inr ⟨r, nF r, (g.inv l r).mp e⟩)
        exact ⟨r', e'⟩
    obtain ⟨r, e⟩ := this
    exact ⟨r, w.p4 l r (nF r) e⟩
  · obtain ⟨l, e⟩ := g.cb r h
    exact w.p8 r l e
  · rcases w.p7 r (nF r) with q | ⟨q, _⟩
    · rw [q] at h
      have hlt := g.lt _ _ h
      exact g.ex l r h (h1.resolve_left (by omega)) h2
    · exact q h2
/-- the next round has found none -/
theorem Good.lost (g : Good E i A B CA CB) (w : Lost E A i (fun _ => False) S2) : Good E (i + 1) A B (fun l => CA l ∧ ¬ ∃ r, S2 r ∧ A r = some l) (fun r => CB r ∨ S2 r) := by
  obtain ⟨w1, w2⟩ := w
  refine ⟨g.inv, g.edge, fun l r h => Nat.lt_succ_of_lt (g.lt l r h), fun l r h e => ?_, fun l h => g.ca l h.1, fun r h => ?_, fun l r h h1 h2 => ?_⟩
  · by_cases hl : l = i
    · subst hl
      exact .inr (.inr (w2 r e))
    · by_cases hx : ∃ r', S2 r' ∧ A r' = some l
      · obtain ⟨r', h', e'⟩ := hx
        obtain ⟨l2, e2, c⟩ := w1.cl r' h' fun z => z
        rw [e'] at e2
        cases e2
        exact .inr (.inr (c r e))
      · rcases g.cov l r (by omega) e with q | q
        · exact .inl ⟨q, hx⟩
        · exact .inr (.inl q)
  · rcases h with h | h
    · exact g.cb r h
    · obtain ⟨l, e, _⟩ := w1.cl r h fun z => z
      exact ⟨l, e⟩
  · rcases h2 with h2 | h2
    · exact g.ex l r h h1.1 h2
    · exact h1.2 ⟨r, h2, h⟩
/-- what is come to from those that nothing follows -/
theorem Good.free (g : Good E i A B CA CB) {a : Nat} (h : B a = none) : ¬ CA a := fun q => by
  obtain ⟨r, e⟩ := g.ca a q
  rw [h] at e
  cases e
theorem Good.step (g : Good E i A B CA CB) {a r : Nat} (ha : a < i) (hn : ¬ CA a) (he : E a r) : ∃ l, A r = some l ∧ ¬ CA l ∧ l < i := by
  have hc := (g.cov a r ha he).resolve_left hn
  obtain ⟨l, e⟩ := g.cb r hc
  exact ⟨l, e, fun q => g.ex l r e q hc, g.lt _ _ e⟩
/-- the pairing is no smaller than its cover -/
theorem Good.count {n : Nat} (g : Good E n A B CA CB) (hr : ∀ l r, E l r → r < n) : ∃ CA' CB' : Nat → Bool, (∀ a b, a < n → b < n → E a b → CA' a = true ∨ CB' b = true) ∧
    (List.range n).countP CA' + (List.range n).countP CB' ≤ (List.range n).countP fun r => (A r).isSome := by
  classical
  refine ⟨fun a => decide (CA a), fun b => decide (CB b), fun a b ha _ e => ?_, ?_⟩
  · rcases g.cov a b ha e with q | q
    · exact .inl (decide_eq_true q)
    · exact .inr (decide_eq_true q)
  · have e1 : ((List.range n).countP fun a => decide (CA a)) = (((List.range n).filter fun a => decide (CA a)).map fun a => (B a).getD 0).length := by
      rw [List.countP_eq_length_filter, List.length_map]
    rw [e1, List.countP_eq_length_filter, List.countP_eq_length_filter, ← List.length_append]
    refine nd_sub_len (List.nodup_append.mpr ⟨?_, List.nodup_range.sublist (List.filter_sublist ..), fun a ha b hb e => ?_⟩) fun x hx => ?_
    · refine nd_map ?_ (List.nodup_range.sublist (List.filter_sublist ..))
      intro a ha b hb e
      obtain ⟨ra, ea⟩ := g.ca a (of_decide_eq_true (List.mem_filter.mp ha).2)
      obtain ⟨rb, eb⟩ := g.ca b (of_decide_eq_true (List.mem_filter.mp hb).2)
      rw [ea, eb] at e
      have e : ra = rb := e
      rw [e] at ea
      have h1 := (g.inv a rb).mp ea
      have h2 := (g.inv b rb).mp eb
      rw [h1] at h2
      exact Option.some.inj h2
    · obtain ⟨c, hc, rfl⟩ := List.mem_map.mp ha
      have hca := of_decide_eq_true (List.mem_filter.mp hc).2
      obtain ⟨r, er⟩ := g.ca c hca
      have hcb := of_decide_eq_true (List.mem_filter.mp hb).2
      rw [er] at e
      have e : r = b := e
      subst e
      exact g.ex c r ((g.inv c r).mp er) hca hcb
    · rcases List.mem_append.mp hx with hx | hx
      · obtain ⟨c, hc, rfl⟩ := List.mem_map.mp hx
        obtain ⟨r, er⟩ := g.ca c (of_decide_eq_true (List.mem_filter.mp hc).2)
        have ea := (g.inv c r).mp er
        rw [er]
        exact List.mem_filter.mpr ⟨List.mem_range.mpr (hr _ _ (g.edge _ _ ea)), by simp [ea]⟩
      · obtain ⟨h1, h2⟩ := List.mem_filter.mp hx
        obtain ⟨l, e⟩ := g.cb x (of_decide_eq_true h2)
        exact List.mem_filter.mpr ⟨h1, by simp [e]⟩
end
end LT
end
section
set_option autoImplicit false
set_option linter.all false
/-! Rows made from the pairing; the law's own count; partitions carried over rearrangements. -/
namespace LT
/-! ### rows along B -/
def Along (B : Nat → Option Nat) (row : List Nat) : Prop := Chain (fun a b => B a = some b) row
theorem along_pred {B : Nat → Option Nat} : ∀ {row : List Nat} {x : Nat}, Along B row → x ∈ row → row.head? = some x ∨ ∃ p ∈ row, B p = some x
  | [], x, _, h => by simp at h
  | [a], x, _, h => by
    simp at h
    subst h
    exact .inl rfl
  | a :: b :: r, x, c, h => by
    rcases List.mem_cons.mp h with rfl | h
    · exact .inl rfl
    · rcases along_pred (row := b :: r) c.2 h with e | ⟨p, hp, e⟩
      · have e : b = x := Option.some.inj e
        subst e
        exact .inr ⟨a, by simp, c.1⟩
      · exact .inr ⟨p, List.mem_cons_of_mem _ hp, e⟩
theorem along_next {B : Nat → Option Nat} : ∀ {row : List Nat} {p x : Nat}, Along B row → (∀ y, row.getLast? = some y → B y = none) → p ∈ row → B p = some x → x ∈ row
  | [], _, _, _, _, h, _ => by simp at h
  | [a], p, x, _, hl, h, e => by
    simp at h
    subst h
    rw [hl p rfl] at e
    cases e
  | a :: b :: r, p, x, c, hl, h, e => by
    rcases List.mem_cons.mp h with rfl | h
    · rw [c.1] at e
      cases e
      simp
    · exact List.mem_cons_of_mem _ (along_next (row := b :: r) c.2 (fun y hy => hl y (by rw [List.getLast?_cons_cons]; exact hy)) h e)
theorem along_rank {B : Nat → Option Nat} {rk : Nat → Nat} (h : ∀ a b, B a = some b → rk a < rk b) : ∀ {row : List Nat}, Along B row → row.Pairwise (fun a b => rk a < rk b)
  | [], _ => .nil
  | [a], _ => by simp
  | a :: b :: r, c => by
    have ih := along_rank (row := b :: r) h c.2
    refine List.pairwise_cons.mpr ⟨fun x hx => ?_, ih⟩
    have h1 := h a b c.1
    rcases List.mem_cons.mp hx with rfl | hx
    · exact h1
    · have := (List.pairwise_cons.mp ih).1 x hx
      omega
/-- the rows of the rounds below i that follow none -/
structure Rows (A B : Nat → Option Nat) (i : Nat) (rows : List (List Nat)) : Prop where
  heads : rows.map List.head? = ((List.range i).filter fun r => (A r).isNone).map some
  al : ∀ row ∈ rows, Along B row
  last : ∀ row ∈ rows, ∀ y, row.getLast? = some y → B y = none
theorem Rows.nil (A B : Nat → Option Nat) : Rows A B 0 [] := ⟨rfl, by simp, by simp⟩
theorem Rows.skip {A B : Nat → Option Nat} {i l : Nat} {rows : List (List Nat)} (h : Rows A B i rows) (e : A i = some l) : Rows A B (i + 1) rows :=
  ⟨by rw [h.heads, List.range_succ, List.filter_append]; simp [e], h.al, h.last⟩
theorem Rows.add {A B : Nat → Option Nat} {i : Nat} {rows : List (List Nat)} {row : List Nat} (h : Rows A B i rows) (e : A i = none) (hh : row.head? = some i) (ha : Along B row) (hl : ∀ y, row.getLast? = some y → B y = none) : Rows A B (i + 1) (rows ++ [row]) := by
  refine ⟨by rw [List.map_append, h.heads, List.range_succ, List.filter_append]; simp [e, hh], fun r hr => ?_, fun r hr => ?_⟩
  · rcases List.mem_append.mp hr with q | q
    · exact h.al r q
    · rw [List.mem_singleton.mp q]
      exact ha
  · rcases List.mem_append.mp hr with q | q
    · exact h.last r q
    · rw [List.mem_singleton.mp q]
      exact hl
theorem Rows.head {A B : Nat → Option Nat} {n : Nat} {rows : List (List Nat)} (h : Rows A B n rows) {row : List Nat} (hr : row ∈ rows) : ∃ x, row.head? = some x ∧ x < n ∧ A x = none := by
  have hm : row.head? ∈ rows.map List.head? := List.mem_map.mpr ⟨row, hr, rfl⟩
  rw [h.heads] at hm
  obtain ⟨x, hx, e⟩ := List.mem_map.mp hm
  obtain ⟨h1, h2⟩ := List.mem_filter.mp hx
  exact ⟨x, e.symm, List.mem_range.mp h1, by simpa using h2⟩
theorem Rows.ofHead {A B : Nat → Option Nat} {n x : Nat} {rows : List (List Nat)} (h : Rows A B n rows) (hx : x < n) (e : A x = none) : ∃ row ∈ rows, row.head? = some x := by
  have hm : some x ∈ rows.map List.head? := by
    rw [h.heads]
    exact List.mem_map.mpr ⟨x, List.mem_filter.mpr ⟨List.mem_range.mpr hx, by simp [e]⟩, rfl⟩
  obtain ⟨row, hr, e⟩ := List.mem_map.mp hm
  exact ⟨row, hr, e⟩
theorem mem_of_head {α : Type} : ∀ {l : List α} {x : α}, l.head? = some x → x ∈ l
  | [], _, h => by simp at h
  | a :: l, x, h => by
    have : a = x := Option.some.inj h
    subst this
    simp
section
variable {E : Nat → Nat → Prop} {A B : Nat → Option Nat} {CA CB : Nat → Prop} {n : Nat} {rows : List (List Nat)} {rk : Nat → Nat}
theorem one_head (g : Good E n A B CA CB) (hrk : ∀ a b, E a b → rk a < rk b) (h : Rows A B n rows) : ∀ (k x : Nat), rk x ≤ k → ∀ {row row' : List Nat} {p q : Nat}, row ∈ rows → row' ∈ rows → x ∈ row → x ∈ row' → row.head? = some p → row'.head? = some q → p = q := by
  intro k
  induction k with
  | zero =>
    intro x hx row row' p q hr hr' m m' e e'
    rcases along_pred (h.al row hr) m with a | ⟨y, _, hy⟩
    · rcases along_pred (h.al row' hr') m' with a' | ⟨y, _, hy⟩
      · rw [e] at a
        rw [e'] at a'
        cases a
        cases a'
        rfl
      · have := hrk _ _ (g.edge _ _ ((g.inv y x).mp hy))
        omega
    · have := hrk _ _ (g.edge _ _ ((g.inv y x).mp hy))
      omega
  | succ k ih =>
    intro x hx row row' p q hr hr' m m' e e'
    obtain ⟨a, ea, _, na⟩ := h.head hr
    obtain ⟨b, eb, _, nb⟩ := h.head hr'
    rcases along_pred (h.al row hr) m with c | ⟨y, my, hy⟩
    · rcases along_pred (h.al row' hr') m' with c' | ⟨y, my, hy⟩
      · rw [e] at c
        rw [e'] at c'
        cases c
        cases c'
        rfl
      · rw [ea] at c
        cases c
        rw [(g.inv y x).mp hy] at na
        cases na
    · have hA := (g.inv y x).mp hy
      rcases along_pred (h.al row' hr') m' with c' | ⟨z, mz, hz⟩
      · rw [eb] at c'
        cases c'
        rw [hA] at nb
        cases nb
      · have hA' := (g.inv z x).mp hz
        rw [hA] at hA'
        cases hA'
        have := hrk _ _ (g.edge _ _ hA)
        exact ih y (by omega) hr hr' my mz e e'
theorem covered (g : Good E n A B CA CB) (hrk : ∀ a b, E a b → rk a < rk b) (h : Rows A B n rows) : ∀ (k x : Nat), rk x ≤ k → x < n → ∃ row ∈ rows, x ∈ row := by
  intro k
  induction k with
  | zero =>
    intro x hx hn
    cases e : A x with
    | none =>
      obtain ⟨row, hr, eh⟩ := h.ofHead hn e
      exact ⟨row, hr, mem_of_head eh⟩
    | some y =>
      have := hrk _ _ (g.edge _ _ e)
      omega
  | succ k ih =>
    intro x hx hn
    cases e : A x with
    | none =>
      obtain ⟨row, hr, eh⟩ := h.ofHead hn e
      exact ⟨row, hr, mem_of_head eh⟩
    | some y =>
      have := hrk _ _ (g.edge _ _ e)
      obtain ⟨row, hr, m⟩ := ih y (by omega) (g.lt _ _ e)
      exact ⟨row, hr, along_next (h.al row hr) (h.last row hr) m ((g.inv y x).mpr e)⟩
/-- the rows keep all rounds, and no partition has fewer -/
theorem Rows.part (g : Good E n A B CA CB) (hrk : ∀ a b, E a b → rk a < rk b) (hr : ∀ l r, E l r → r < n) (h : Rows A B n rows) :
    Part E (List.range n) rows ∧ (∀ row ∈ rows, row ≠ []) ∧ ∀ rows' : List (List Nat), Part E (List.range n) rows' → rows.length ≤ rows'.length := by
  have hB : ∀ a b, B a = some b → rk a < rk b := fun a b e => hrk _ _ (g.edge _ _ ((g.inv a b).mp e))
  have hne : ∀ row ∈ rows, row ≠ [] := fun row hm e => by
    obtain ⟨x, ex, _⟩ := h.head hm
    rw [e] at ex
    cases ex
  have hnd : rows.flatten.Nodup := by
    refine List.pairwise_flatten.mpr ⟨fun row hm => ?_, ?_⟩
    · exact (along_rank hB (h.al row hm)).imp fun {a b} hab e => by
        rw [e] at hab
        exact Nat.lt_irrefl _ hab
    · have hh : (rows.map List.head?).Pairwise (· ≠ ·) := by
        rw [h.heads]
        exact nd_map (fun a _ b _ e => Option.some.inj e) (List.nodup_range.sublist (List.filter_sublist ..))
      rw [List.pairwise_map] at hh
      refine List.Pairwise.imp_of_mem (fun {r r'} m m' hd x hx y hy e => ?_) hh
      subst e
      obtain ⟨p, ep, _⟩ := h.head m
      obtain ⟨q, eq, _⟩ := h.head m'
      have := one_head g hrk h (rk x) x (Nat.le_refl _) m m' hx hy ep eq
      exact hd (by rw [ep, eq, this])
  have hmem : ∀ x, x ∈ rows.flatten ↔ x ∈ List.range n := fun x => by
    constructor
    · intro m
      obtain ⟨row, hm, mx⟩ := List.mem_flatten.mp m
      rcases along_pred (h.al row hm) mx with a | ⟨y, _, hy⟩
      · obtain ⟨p, ep, hp, _⟩ := h.head hm
        rw [ep] at a
        cases a
        exact List.mem_range.mpr hp
      · exact List.mem_range.mpr (hr _ _ (g.edge _ _ ((g.inv y x).mp hy)))
    · intro m
      obtain ⟨row, hm, mx⟩ := covered g hrk h (rk x) x (Nat.le_refl _) (List.mem_range.mp m)
      exact List.mem_flatten.mpr ⟨row, hm, mx⟩
  refine ⟨⟨(List.perm_ext_iff_of_nodup hnd List.nodup_range).mpr hmem, fun row hm => (h.al row hm).mono fun a b e => g.edge _ _ ((g.inv a b).mp e)⟩, hne, fun rows' hp => ?_⟩
  obtain ⟨CA', CB', cov, hc⟩ := g.count hr
  have hb := cover_bound cov hp
  have hl : rows.length = ((List.range n).filter fun r => (A r).isNone).length := by
    have := congrArg List.length h.heads
    rwa [List.length_map, List.length_map] at this
  have hs : ((List.range n).filter fun r => (A r).isNone).length + (List.range n).countP (fun r => (A r).isSome) = n := by
    have e1 := List.length_eq_countP_add_countP (fun r => (A r).isSome) (l := List.range n)
    rw [List.length_range] at e1
    rw [← List.countP_eq_length_filter]
    have e2 : (List.range n).countP (fun r => (A r).isNone) = (List.range n).countP (fun a => decide ¬(A a).isSome = true) := by
      refine List.countP_congr fun x _ => ?_
      cases A x <;> simp
    rw [e2]
    omega
  omega
end

/-! ### the law's own count: rows by their last ones -/
section
variable {T : Type} {fT : T → T → Prop} {t : Nat → T} {pre : List Nat} {K K' : List T} {j : Nat}
/-- a key stands for rows of the rounds so far -/
def Snd (fT : T → T → Prop) (t : Nat → T) (pre : List Nat) (K : List T) : Prop :=
  ∃ (rows : List (List Nat)) (ls : List Nat), Part (fun a b => fT (t a) (t b)) pre rows ∧ rows.map List.getLast? = ls.map some ∧ K.Perm (ls.map t)
theorem Snd.nil : Snd fT t [] [] := ⟨[], [], ⟨.refl _, by simp⟩, rfl, .refl _⟩
theorem Snd.new (h : Snd fT t pre K) (hk : K'.Perm (K ++ [t j])) : Snd fT t (pre ++ [j]) K' := by
  obtain ⟨rows, ls, p, e, q⟩ := h
  refine ⟨rows ++ [[j]], ls ++ [j], ⟨?_, fun row hr => ?_⟩, by simp [e], ?_⟩
  · rw [List.flatten_append]
    simpa using p.perm.append_right [j]
  · rcases List.mem_append.mp hr with m | m
    · exact p.ch row m
    · rw [List.mem_singleton.mp m]
      trivial
  · rw [List.map_append]
    exact hk.trans (q.append_right _)
theorem erase_perm {α : Type} : ∀ {l : List α} {k : Nat} {x : α}, l[k]? = some x → l.Perm (x :: l.eraseIdx k)
  | [], k, x, h => by simp at h
  | a :: l, 0, x, h => by
    have : a = x := by simpa using h
    subst this
    simp
  | a :: l, k + 1, x, h => by
    have ih := erase_perm (l := l) (k := k) (x := x) (by simpa using h)
    rw [List.eraseIdx_cons_succ]
    exact (ih.cons a).trans (List.Perm.swap x a _)
theorem Snd.app {k : Nat} {u : T} (h : Snd fT t pre K) (hu : K[k]? = some u) (hf : fT u (t j)) (hk : K'.Perm (K.eraseIdx k ++ [t j])) : Snd fT t (pre ++ [j]) K' := by
  obtain ⟨rows, ls, p, e, q⟩ := h
  have hm : u ∈ ls.map t := q.mem_iff.mp (List.mem_of_getElem? hu)
  obtain ⟨a, ha, rfl⟩ := List.mem_map.mp hm
  obtain ⟨L1, L2, rfl⟩ := List.append_of_mem ha
  rw [List.map_append, List.map_cons] at e
  obtain ⟨R1, R2', rfl, e1, e2⟩ := List.map_eq_append_iff.mp e
  obtain ⟨r, R2, rfl, e3, e4⟩ := List.map_eq_cons_iff.mp e2
  refine ⟨R1 ++ (r ++ [j]) :: R2, L1 ++ j :: L2, ⟨?_, fun row hr => ?_⟩, ?_, ?_⟩
  · have h1 : (R1 ++ (r ++ [j]) :: R2).flatten.Perm ((R1 ++ r :: R2).flatten ++ [j]) := by
      rw [List.flatten_append, List.flatten_cons, List.flatten_append, List.flatten_cons]
      rw [List.append_assoc R1.flatten, List.append_assoc r, List.append_assoc r]
      exact ((List.perm_append_comm (l₁ := [j]) (l₂ := R2.flatten)).append_left r).append_left _
    exact h1.trans (p.perm.append_right [j])
  · rcases List.mem_append.mp hr with m | m
    · exact p.ch row (List.mem_append_left _ m)
    · rcases List.mem_cons.mp m with rfl | m
      · refine Chain.snoc (p.ch r (by simp)) fun y hy => ?_
        rw [e3] at hy
        cases hy
        exact hf
      · exact p.ch row (List.mem_append_right _ (List.mem_cons_of_mem _ m))
  · simp [e1, e4]
  · have q1 : (t a :: K.eraseIdx k).Perm (t a :: (L1 ++ L2).map t) := by
      refine (erase_perm hu).symm.trans (q.trans ?_)
      rw [List.map_append, List.map_cons, List.map_append]
      exact List.perm_middle
    have q2 := q1.cons_inv
    refine hk.trans ((q2.append_right [t j]).trans ?_)
    rw [List.map_append, List.map_append, List.map_cons, List.append_assoc]
    exact (List.perm_append_comm (l₁ := L2.map t) (l₂ := [t j])).append_left _
theorem Snd.part (h : Snd fT t pre K) {n : Nat} (hp : pre.Perm (List.range n)) : ∃ rows, Part (fun a b => fT (t a) (t b)) (List.range n) rows ∧ rows.length = K.length := by
  obtain ⟨rows, ls, p, e, q⟩ := h
  refine ⟨rows, ⟨p.perm.trans hp, p.ch⟩, ?_⟩
  have h1 := congrArg List.length e
  rw [List.length_map, List.length_map] at h1
  rw [q.length_eq, List.length_map, h1]
theorem flat_len {α : Type} : ∀ {rows : List (List α)}, (∀ r ∈ rows, r ≠ []) → rows.length ≤ rows.flatten.length
  | [], _ => by simp
  | r :: rs, h => by
    have ih := flat_len (rows := rs) fun x hx => h x (List.mem_cons_of_mem _ hx)
    have := List.length_pos_iff.mpr (h r (by simp))
    rw [List.flatten_cons, List.length_append, List.length_cons]
    omega
theorem Snd.len (h : Snd fT t pre K) : K.length ≤ pre.length := by
  obtain ⟨rows, ls, p, e, q⟩ := h
  have h1 := congrArg List.length e
  rw [List.length_map, List.length_map] at h1
  rw [q.length_eq, List.length_map, ← h1, ← p.perm.length_eq]
  refine flat_len fun r hr z => ?_
  have : r.getLast? ∈ rows.map List.getLast? := List.mem_map.mpr ⟨r, hr, rfl⟩
  rw [e, z] at this
  obtain ⟨x, _, ex⟩ := List.mem_map.mp this
  cases ex
/-! the other way: each partition is found -/
open Classical in
/-- of the rounds so far those whose next one is not come yet -/
noncomputable def tg (P : List (Nat × Nat)) (pre : List Nat) : List Nat := pre.filter fun a => decide (¬ ∃ q ∈ P, q.1 = a ∧ q.2 ∈ pre)
def Cmp (t : Nat → T) (P : List (Nat × Nat)) (pre : List Nat) (K : List T) : Prop := K.Perm ((tg P pre).map t)
theorem Cmp.nil {P : List (Nat × Nat)} : Cmp t P [] [] := .refl _
open Classical in
theorem Cmp.step {P : List (Nat × Nat)} (h : Cmp t P pre K) (hP1 : (P.map Prod.fst).Nodup) (hP2 : (P.map Prod.snd).Nodup) (hR : ∀ q ∈ P, fT (t q.1) (t q.2)) (hn : pre.Nodup) (hj : j ∉ pre) (hb : ∀ a, (a, j) ∈ P → a ∈ pre) (ha : ∀ x, (j, x) ∈ P → x ∉ pre ∧ x ≠ j) :
    (∃ (k : Nat) (u : T), K[k]? = some u ∧ fT u (t j) ∧ ∀ K', K'.Perm (K.eraseIdx k ++ [t j]) → Cmp t P (pre ++ [j]) K') ∨ ∀ K', K'.Perm (K ++ [t j]) → Cmp t P (pre ++ [j]) K' := by
  have u1 : ∀ a x y, (a, x) ∈ P → (a, y) ∈ P → x = y := fun a x y h1 h2 => by
    obtain ⟨i, hi, e1⟩ := List.getElem_of_mem h1
    obtain ⟨k, hk, e2⟩ := List.getElem_of_mem h2
    have : i = k := (List.getElem_inj (xs := P.map Prod.fst) (h₀ := by rw [List.length_map]; exact hi) (h₁ := by rw [List.length_map]; exact hk) hP1).mp (by rw [List.getElem_map, List.getElem_map, e1, e2])
    subst this
    rw [e1] at e2
    exact (Prod.mk.inj e2).2
  have u2 : ∀ a b x, (a, x) ∈ P → (b, x) ∈ P → a = b := fun a b x h1 h2 => by
    obtain ⟨i, hi, e1⟩ := List.getElem_of_mem h1
    obtain ⟨k, hk, e2⟩ := List.getElem_of_mem h2
    have : i = k := (List.getElem_inj (xs := P.map Prod.snd) (h₀ := by rw [List.length_map]; exact hi) (h₁ := by rw [List.length_map]; exact hk) hP2).mp (by rw [List.getElem_map, List.getElem_map, e1, e2])
    subst this
    rw [e1] at e2
    exact (Prod.mk.inj e2).1
  have hjt : ([j].filter fun a => decide (¬ ∃ q ∈ P, q.1 = a ∧ q.2 ∈ pre ++ [j])) = [j] := by
    rw [List.filter_cons, if_pos, List.filter_nil]
    refine decide_eq_true fun ⟨⟨q1, q2⟩, hq, e, m⟩ => ?_
    have e : q1 = j := e
    subst e
    obtain ⟨n1, n2⟩ := ha q2 hq
    rcases List.mem_append.mp m with m | m
    · exact n1 m
    · exact n2 (List.mem_singleton.mp m)
  have split : tg P (pre ++ [j]) = (pre.filter fun a => decide (¬ ∃ q ∈ P, q.1 = a ∧ q.2 ∈ pre ++ [j])) ++ [j] := by
    unfold tg
    rw [List.filter_append, hjt]
  by_cases hx : ∃ a, (a, j) ∈ P
  · obtain ⟨a, haj⟩ := hx
    have hap := hb a haj
    have hat : a ∈ tg P pre := by
      refine List.mem_filter.mpr ⟨hap, decide_eq_true fun ⟨⟨q1, q2⟩, hq, e, m⟩ => ?_⟩
      have e : q1 = a := e
      subst e
      have : q2 = j := u1 _ _ _ hq haj
      subst this
      exact hj m
    have e1 : (pre.filter fun b => decide (¬ ∃ q ∈ P, q.1 = b ∧ q.2 ∈ pre ++ [j])) = (tg P pre).erase a := by
      have hnd : (tg P pre).Nodup := hn.sublist (List.filter_sublist ..)
      rw [hnd.erase_eq_filter]
      unfold tg
      rw [List.filter_filter]
      refine List.filter_congr fun b _ => ?_
      by_cases hba : b = a
      · subst hba
        simp only [bne_self_eq_false, Bool.false_and]
        refine decide_eq_false fun h => h ⟨(b, j), haj, rfl, by simp⟩
      · have : (b != a) = true := by simpa using hba
        rw [this, Bool.true_and]
        refine decide_eq_decide.mpr (not_congr ⟨fun ⟨⟨q1, q2⟩, hq, e, m⟩ => ⟨(q1, q2), hq, e, ?_⟩, fun ⟨q, hq, e, m⟩ => ⟨q, hq, e, List.mem_append_left _ m⟩⟩)
        rcases List.mem_append.mp m with m | m
        · exact m
        · have m : q2 = j := List.mem_singleton.mp m
          subst m
          have e : q1 = b := e
          subst e
          exact (hba (u2 _ _ _ hq haj)).elim
    have hK : t a ∈ K := h.mem_iff.mpr (List.mem_map.mpr ⟨a, hat, rfl⟩)
    obtain ⟨k, hk⟩ := List.mem_iff_getElem?.mp hK
    refine .inl ⟨k, t a, hk, hR _ haj, fun K' hK' => ?_⟩
    unfold Cmp
    rw [split, e1, List.map_append]
    refine hK'.trans (List.Perm.append_right [t j] ?_)
    have q1 : (t a :: K.eraseIdx k).Perm (t a :: ((tg P pre).erase a).map t) := by
      refine (erase_perm hk).symm.trans (h.trans ?_)
      have := (List.perm_cons_erase hat).map t
      rwa [List.map_cons] at this
    exact q1.cons_inv
  · refine .inr fun K' hK' => ?_
    unfold Cmp
    have e1 : (pre.filter fun b => decide (¬ ∃ q ∈ P, q.1 = b ∧ q.2 ∈ pre ++ [j])) = tg P pre := by
      unfold tg
      refine List.filter_congr fun b _ => ?_
      refine decide_eq_decide.mpr (not_congr ⟨fun ⟨⟨q1, q2⟩, hq, e, m⟩ => ⟨(q1, q2), hq, e, ?_⟩, fun ⟨q, hq, e, m⟩ => ⟨q, hq, e, List.mem_append_left _ m⟩⟩)
      rcases List.mem_append.mp m with m | m
      · exact m
      · have m : q2 = j := List.mem_singleton.mp m
        subst m
        exact (hx ⟨q1, hq⟩).elim
    rw [split, e1, List.map_append]
    exact hK'.trans (h.append_right _)
open Classical in
theorem Cmp.end_ {n : Nat} {R : Nat → Nat → Prop} {rows : List (List Nat)} (p : Part R (List.range n) rows) (hp : pre.Perm (List.range n)) (h : Cmp t (nbr rows) pre K) : K.length ≤ rows.length := by
  have hnd : rows.flatten.Nodup := p.perm.nodup_iff.mpr List.nodup_range
  have hlen : rows.flatten.length = n := by rw [p.perm.length_eq, List.length_range]
  have h1 := nbr_len rows
  have hpl : pre.length = n := by rw [hp.length_eq, List.length_range]
  have e1 := List.length_eq_countP_add_countP (fun a => decide (¬ ∃ q ∈ nbr rows, q.1 = a ∧ q.2 ∈ pre)) (l := pre)
  have e2 : (tg (nbr rows) pre).length = pre.countP (fun a => decide (¬ ∃ q ∈ nbr rows, q.1 = a ∧ q.2 ∈ pre)) := by
    unfold tg
    rw [← List.countP_eq_length_filter]
  have e3 : (nbr rows).length ≤ pre.countP (fun a => decide ¬ (decide (¬ ∃ q ∈ nbr rows, q.1 = a ∧ q.2 ∈ pre)) = true) := by
    rw [List.countP_eq_length_filter]
    have : (nbr rows).length = ((nbr rows).map Prod.fst).length := by rw [List.length_map]
    rw [this]
    refine nd_sub_len (hnd.sublist (nbr_fst rows)) fun x hx => ?_
    obtain ⟨q, hq, rfl⟩ := List.mem_map.mp hx
    have m1 : q.1 ∈ pre := hp.mem_iff.mpr (p.perm.mem_iff.mp ((nbr_fst rows).subset hx))
    have m2 : q.2 ∈ pre := hp.mem_iff.mpr (p.perm.mem_iff.mp ((nbr_snd rows).subset (List.mem_map.mpr ⟨q, hq, rfl⟩)))
    exact List.mem_filter.mpr ⟨m1, decide_eq_true fun h => (of_decide_eq_true h) ⟨q, hq, rfl, m2⟩⟩
  rw [h.length_eq, List.length_map]
  omega
end
/-- each round by itself -/
theorem Part.ones {R : Nat → Nat → Prop} (n : Nat) : Part R (List.range n) ((List.range n).map fun i => [i]) := by
  refine ⟨?_, fun row hr => ?_⟩
  · have : ((List.range n).map fun i => [i]).flatten = List.range n := by
      induction List.range n with
      | nil => rfl
      | cons a l ih => simp [ih]
    rw [this]
  · obtain ⟨i, _, rfl⟩ := List.mem_map.mp hr
    trivial

/-! ### from rows of things to rows of places -/
theorem perm_lift {α β : Type} (f : α → β) : ∀ {l : List β} {m : List α}, l.Perm (m.map f) → ∃ l' : List α, l'.map f = l ∧ l'.Perm m := by
  intro l m h
  generalize hk : m.map f = k at h
  induction h generalizing m with
  | nil =>
    cases m with
    | nil => exact ⟨[], rfl, .refl _⟩
    | cons a m => cases hk
  | cons x _ ih =>
    cases m with
    | nil => cases hk
    | cons a m =>
      rw [List.map_cons] at hk
      obtain ⟨e1, e2⟩ := List.cons.inj hk
      obtain ⟨l', e, p⟩ := ih e2
      exact ⟨a :: l', by rw [List.map_cons, e, e1], p.cons a⟩
  | swap x y l =>
    cases m with
    | nil => cases hk
    | cons a m =>
      cases m with
      | nil => cases hk
      | cons b m =>
        rw [List.map_cons, List.map_cons] at hk
        obtain ⟨e1, e2⟩ := List.cons.inj hk
        obtain ⟨e2, e3⟩ := List.cons.inj e2
        exact ⟨b :: a :: m, by rw [List.map_cons, List.map_cons, e1, e2, e3], List.Perm.swap a b m⟩
  | trans _ _ ih1 ih2 =>
    obtain ⟨l2, e2, p2⟩ := ih2 hk
    obtain ⟨l1, e1, p1⟩ := ih1 e2
    exact ⟨l1, e1, p1.trans p2⟩
theorem rows_lift {α β : Type} (f : α → β) : ∀ (rows : List (List β)) (l : List α), l.map f = rows.flatten → ∃ rows' : List (List α), rows'.flatten = l ∧ rows'.map (List.map f) = rows
  | [], l, h => by
    have : l = [] := by simpa using h
    subst this
    exact ⟨[], rfl, rfl⟩
  | r :: rs, l, h => by
    rw [List.flatten_cons] at h
    obtain ⟨l1, l2, rfl, e1, e2⟩ := List.map_eq_append_iff.mp h
    obtain ⟨rows', e3, e4⟩ := rows_lift f rs l2 e2
    exact ⟨l1 :: rows', by rw [List.flatten_cons, e3], by rw [List.map_cons, e1, e4]⟩
theorem Part.lift {α : Type} {R : α → α → Prop} {n : Nat} {t : Nat → α} {rows : List (List α)} (p : Part R ((List.range n).map t) rows) : ∃ rows' : List (List Nat), Part (fun a b => R (t a) (t b)) (List.range n) rows' ∧ rows'.length = rows.length := by
  obtain ⟨l, e, q⟩ := perm_lift t p.perm
  obtain ⟨rows', e1, e2⟩ := rows_lift t rows l e
  refine ⟨rows', ⟨by rw [e1]; exact q, fun row hr => ?_⟩, by rw [← e2, List.length_map]⟩
  have : row.map t ∈ rows := by
    rw [← e2]
    exact List.mem_map.mpr ⟨row, hr, rfl⟩
  exact Chain.map t (p.ch _ this)
end LT
end
section
set_option Elab.async false
set_option linter.all false
set_option maxRecDepth 100000
set_option maxHeartbeats 4000000
/-! Own rules over the hand layer: sorted of a tuple of rounds; sorted by a lambda's tuples. -/
namespace LT
open PySem PySem.Spec PyProof.Rows L2
/-- a round as data -/
structure Trn where
  n : Str
  b : Int
  e : Int
  deriving DecidableEq
/-- the value v is a round's tuple -/
def TurnAt (H : Hp) (v : V) (t : Trn) : Prop := ∃ r, v = .ref r ∧ H r = some (.tup [.str t.n, .int t.b, .int t.e])
abbrev TurnsAre (H : Hp) : List V → List Trn → Prop := Paired (TurnAt H)
def enc (t : Trn) : PyData := .tuple [.str t.n, .int t.b, .int t.e]
def encK (t : Trn) : PyData := .tuple [.int t.b, .int t.e, .str t.n]
theorem TurnAt.keep {H H' : Hp} {v : V} {t : Trn} (k : ∀ a xs, H a = some (.tup xs) → H' a = some (.tup xs)) (h : TurnAt H v t) : TurnAt H' v t :=
  let ⟨r, e, hr⟩ := h; ⟨r, e, k _ _ hr⟩
theorem TurnsAre.keep {H H' : Hp} {xs : List V} {ts : List Trn} (k : ∀ a xs, H a = some (.tup xs) → H' a = some (.tup xs)) (h : TurnsAre H xs ts) : TurnsAre H' xs ts :=
  Paired.mapP h fun _ _ => TurnAt.keep k
theorem alike_enc (t u : Trn) : PySem.W.alike (enc t) (enc u) = true := by simp [enc, PySem.W.alike, PySem.W.alikeAll]
theorem alike_encK (t u : Trn) : PySem.W.alike (encK t) (encK u) = true := by simp [encK, PySem.W.alike, PySem.W.alikeAll]
theorem depth_enc (t : Trn) : (enc t).depth = 1 := by simp [enc, PyData.depth, PyData.depthAll]
theorem depth_encK (t : Trn) : (encK t).depth = 1 := by simp [encK, PyData.depth, PyData.depthAll]
theorem paired_zip {α β : Type} {G : α → β → Prop} : ∀ {l : List α} {m : List β}, Paired G l m → ∀ p ∈ l.zip m, G p.1 p.2
  | _, _, .nil, p, h => by simp at h
  | _, _, .cons r t, p, h => by
    rw [List.zip_cons_cons] at h
    rcases List.mem_cons.mp h with rfl | h
    · exact r
    · exact paired_zip t p h
theorem paired_of {α β : Type} {G : α → β → Prop} : ∀ {ps : List (α × β)}, (∀ p ∈ ps, G p.1 p.2) → Paired G (ps.map Prod.fst) (ps.map Prod.snd)
  | [], _ => .nil
  | p :: ps, h => .cons (h p (by simp)) (paired_of fun q hq => h q (List.mem_cons_of_mem _ hq))
theorem paired_len {α β : Type} {G : α → β → Prop} : ∀ {l : List α} {m : List β}, Paired G l m → l.length = m.length
  | _, _, .nil => rfl
  | _, _, .cons _ t => by rw [List.length_cons, List.length_cons, paired_len t]
section
variable {P : Program} {w : World} {H : Hp} {h : Heap}
/-- a round's value reads as its data -/
theorem reads_turn (ok : HOk P w H h) {x : V} {v : Value} {t : Trn} (rv : RelV x v) (ht : TurnAt H x t) : PySem.Reads h v (enc t) [] := by
  obtain ⟨r, rfl, hr⟩ := ht
  obtain rfl : v = Value.ref r := rv
  obtain ⟨_, its, rs, o, ho, hc, n, hd⟩ := (show ObjOk P w H h r (.tup [.str t.n, .int t.b, .int t.e]) from ok r _ hr)
  cases rs with
  | cons r1 rs =>
    cases rs with
    | cons r2 rs =>
      cases rs with
      | cons r3 rs =>
        cases rs
        obtain ⟨t1, rfl⟩ := r1
        obtain ⟨t2, rfl⟩ := r2
        obtain ⟨t3, rfl⟩ := r3
        exact PySem.Reads.tuple ho hc hd (PySem.ReadsAll.cons (.str _ _) (PySem.ReadsAll.cons (.int _ _) (PySem.ReadsAll.cons (.int _ _) .nil)))
end
theorem each_of {ps : List (V × Trn)} : ∀ {vs : List Value}, Vals (ps.map Prod.fst) vs → PySem.W.EachIs (fun v (p : V × Trn) => RelV p.1 v) vs ps := by
  induction ps with
  | nil =>
    intro vs r
    cases r
    exact .nil
  | cons p ps ih =>
    intro vs r
    cases r with
    | cons r1 r2 => exact .cons r1 (ih r2)
theorem vals_of_each {ps : List (V × Trn)} {vs : List Value} (e : PySem.W.EachIs (fun v (p : V × Trn) => RelV p.1 v) vs ps) : Vals (ps.map Prod.fst) vs := by
  induction e with
  | nil => exact .nil
  | cons r _ ih => exact .cons r ih
/-! ### sorted of a tuple -/
section
variable {X : Cx}
def rSortedT (K : PySem.W.Frag) : List V → Hp → VK → Prop := fun vs H Q => ∃ (a : Addr) (xs : List V) (ts : List Trn), vs = [.ref a] ∧ SqT K H a xs ∧ TurnsAre H xs ts ∧
  ∀ (xs' : List V) (ts' : List Trn) (p : Addr), TurnsAre H xs' ts' → ts'.Perm ts → H p = none → Q (.ref p) (upd H p (.lst xs'))
theorem cr_sortedT (hu : X.A.units + 64 < cLine) : CallR X (.builtin "sorted") (rSortedT X.K) := by
  intro pins s σ H vs us Q I r h
  obtain ⟨a, xs, ts, rfl, hs, ht, q⟩ := h
  obtain ⟨u, rfl, ru⟩ := vals1 r
  obtain rfl : u = Value.ref a := ru
  obtain ⟨its, rv, hl, hz⟩ := I.tuple hs
  obtain ⟨o, ho, hc, n, hd⟩ := id hl
  have hlen := rv.length
  have hxt := paired_len ht
  have e1 : (xs.zip ts).map Prod.fst = xs := List.map_fst_zip (by omega)
  have e2 : (xs.zip ts).map Prod.snd = ts := List.map_snd_zip (by omega)
  have hp := paired_zip ht
  refine PyProof.Rows.call_function_entry_kw (kw := []) kind_sorted plain_sorted entry_sorted (args_sorted1 _) ?_
  unfold Builtin.«sorted»
  refine wpAny_bind (m := checkCount "sorted" 1 1 _) (wpAny_pure ?_)
  refine wpAny_bind (wpAny_collect_seq a (.inr rfl) ho hc hd (fun h' hk => ?_) (by rw [List.size_toArray]; omega))
  have I1 : Inv X pins σ H { s with heap := h' } := I.kept (t' := s.toks) hk
  refine wpAny_bind (wpAny_newList ?_ (by simp only [List.toList_toArray]; omega))
  have hob : (h'.push { cls := .type "list", data := .seq its.toArray }).get? h'.objs.size = some (seqObj "list" its.toArray 0) := Heap.get?_push_size _ rfl
  have rd : ∀ {x : V} {v : Value} {t : Trn}, RelV x v → TurnAt H x t → PySem.Reads (h'.push { cls := .type "list", data := .seq its.toArray }) v (enc t) [] := fun r1 r2 =>
    PyProof.Rows.Reads.keeps (fun b o e => Heap.get?_push_of_some _ e) (reads_turn I1.hok r1 r2)
  have hE : PySem.W.EachIs (fun v (p : V × Trn) => RelV p.1 v) its (xs.zip ts) := each_of (by rw [e1]; exact rv)
  have hR : PySem.W.EachIs (fun v (p : V × Trn) => ∃ as, PySem.Reads (h'.push { cls := .type "list", data := .seq its.toArray }) v (enc p.2) as ∧ h'.objs.size ∉ as) its (xs.zip ts) :=
    PySem.W.EachIs.of_zip hE.length fun p hm => ⟨[], rd (hE.zip p hm) (hp _ (List.of_mem_zip hm).2), by simp⟩
  refine wpAny_bind (wpAny_holding (PySem.W.list_sort_data (enc := fun p : V × Trn => enc p.2) hob hE hR (PySem.W.AllAlike.of fun _ _ => alike_enc _ _) (PySem.W.Sortable.tuples fun p => ⟨_, _, rfl⟩)
    (by rw [List.length_zip]; omega) (fun p _ => ?_) fun out hol ho2 => ?_))
  · rw [depth_enc]
    show X.A.units + 1 + 1 + 1 < _
    omega
  · have hpm : ((xs.zip ts).mergeSort (PySem.W.dataLe false fun p : V × Trn => enc p.2)).Perm (xs.zip ts) := List.mergeSort_perm _ _
    obtain ⟨c, hc2⟩ := PyProof.Rows.sortedHeap_at (vs := its) (out := out.toArray) hob
    have hrel := vals_of_each ho2
    refine wpAny_pure ⟨_, rfl, ?_⟩
    refine ⟨.ref h'.objs.size, upd H h'.objs.size (.lst _), I1.laid (t' := s.toks) (fun b ob e => ?_) (Nat.le_refl _) ⟨?_, out, c, hrel, hc2⟩, rfl, q _ (((xs.zip ts).mergeSort (PySem.W.dataLe false fun p : V × Trn => enc p.2)).map Prod.snd) _ (paired_of fun p hm => hp p (hpm.mem_iff.mp hm)) ?_ (I1.hok.fresh (Nat.le_refl _))⟩
    · have hb : b < h'.objs.size := Heap.lt_size e
      rw [PyProof.Rows.sortedHeap_old (Nat.ne_of_lt hb) (by rw [Heap.size_push]; exact Nat.lt_succ_of_lt hb)]
      exact Heap.get?_push_of_some _ e
    · rw [List.length_map, hpm.length_eq, List.length_zip]
      omega
    · have := hpm.map Prod.snd
      rwa [e2] at this
end
end LT
end
section
set_option Elab.async false
set_option linter.all false
set_option maxRecDepth 100000
set_option maxHeartbeats 4000000
/-! sorted(turns, key=lambda x: (x[1], x[2], x[0])) -/
namespace LT
open PySem PySem.Spec PyProof.Rows L2
section
variable {prog : Program} {w : World} {A : Around} {E : Value → Shared → Prop} {s : Shared}
/-- x[k] of a local that holds a tuple -/
theorem ev_item {env : Env} {x : Str} {m : Str → Option Value} {r : Addr} {its : List Value} {v : Value} {k : Int} {j i : Nat} {p1 p2 p3 : Pos} {Q : Value → Shared → Prop} (hk : env.scope.kind = .function) (hl : env.kindOf x = some .local) (hn : s.heap.Ns env.locals m)
    (hm : m x = some (.ref r)) (ht : IsTup s.heap r its.toArray) (e : k = (j : Int)) (hb : j < 1000) (hj : its[j]? = some v) (hd : (x == ("__debug__" : Str)) = false) (h : Q v { s with toks := s.toks + 1 }) :
    wpAny (model prog w) A (eval (.Subscript (.Name x p1) (.Constant (.int k) i p2) p3) env) Q E s := by
  subst e
  refine Subscript_ (wpAny_Name (wpAny_loadName_local hk hl hn hm (wpAny_Constant_int ?_)) hd)
  have hlt : j < its.length := (List.getElem?_eq_some_iff.mp hj).1
  refine subscriptTail_builtinR (s := { s with toks := s.toks + 1 }) (T := "tuple") (x := v) (id := "tuple.__getitem__") ht.typeIs slot_tuple_getitem.lookup (PyProof.Rows.getItem_tuple (s := { s with toks := s.toks + 1 }) (j := j) ht (by omega) (by omega) ?_ (by simpa using hj) ⟨rfl, h⟩)
  rw [List.size_toArray]
  exact PySem.StrLaws.seqIndex_nonneg (by omega) (by omega)
/-- the lambda's call: a new frame, a new tuple, all else kept -/
theorem lam_key {h : Heap} {tk : Nat} {f c' : Addr} {x q : Str} {args : List Arg} {scope : Scope} {pm ctv : Value} {t : Trn} {a1 a2 a3 b1 b2 b3 d1 d2 d3 bp : Pos} {i1 i2 i3 kk : Nat} {v : Value}
    (hroom : A.depth < recursionLimit)
    (hf : h.get? f = some (PySem.W.kla_obj "<lambda>" q { posonlyargs := [], args := args, vararg := none, kwonlyargs := [], kw_defaults := [], kwarg := none, defaults := [] }
      (.Tuple [.Subscript (.Name x a1) (.Constant (.int 1) i1 a2) a3, .Subscript (.Name x b1) (.Constant (.int 2) i2 b2) b3, .Subscript (.Name x d1) (.Constant (.int 0) i3 d2) d3] kk bp) scope [] pm c' ctv))
    (hbind : bindArgs (PySem.W.kla_fn "<lambda>" q { posonlyargs := [], args := args, vararg := none, kwonlyargs := [], kw_defaults := [], kwarg := none, defaults := [] }
      (.Tuple [.Subscript (.Name x a1) (.Constant (.int 1) i1 a2) a3, .Subscript (.Name x b1) (.Constant (.int 2) i2 b2) b3, .Subscript (.Name x d1) (.Constant (.int 0) i3 d2) d3] kk bp) scope [] pm (.ref c') ctv) ⟨[v], []⟩ = pure [(x, v)])
    (hk : scope.kind = .function) (hco : scope.isCoroutine = false) (hgen : scope.isGenerator = false) (hnm : scope.names = [(x, .local)]) (hdx : (x == ("__debug__" : Str)) = false)
    (hcode : ∃ (oc : Obj) (vs : Array Value) (t : Tok), h.get? c' = some oc ∧ oc.data = .fields vs ∧ vs[1]? = some (.str q t)) (hlim : h.NoLimit)
    {as0 : List Addr} (ht : PySem.Reads h v (enc t) as0) : wpAny (model prog w) A (call (.ref f) [v]) (PySem.W.KeyPure (encK t) { s with heap := h, toks := tk }) (fun _ _ => False) { s with heap := h, toks := tk } := by
  obtain ⟨oc, vs, t9, hoc, hdc, hvc⟩ := hcode
  cases ht with
  | @tuple r ob its n _ _ ho hc hd hr =>
    have hit : IsTup h r its.toList.toArray := ⟨ob, ho, hc, n, by simpa using hd⟩
    generalize hv : its.toList = il at hr hit
    cases hr with
    | cons r1 r2 =>
      cases r2 with
      | cons r2 r3 =>
        cases r3 with
        | cons r3 r4 =>
          cases r4
          cases r1
          cases r2
          cases r3
          refine wpAny_call (codeAny_mono (R := fun r s' => ∃ v', r = .ok (.ret v') ∧ PySem.W.KeyPure (encK t) { s with heap := h, toks := tk } v' s') ?_ fun r s' hq => ?_)
          · refine PySem.W.kla_callFunE (s := { s with heap := h, toks := tk }) hroom hf rfl hco hgen rfl ⟨c', oc, vs, t9, rfl, hoc, hdc, hvc⟩ ?_
            rw [hbind]
            refine wpAny_pure (wpAny_newFunctionEnv (fun y hy => ?_) (fun y hy => ?_) (fun h₁ hns hsb => ⟨hlim.fresh _ hsb, ?_⟩) hk)
            · rw [hnm] at hy
              rw [List.mem_singleton.mp hy]
              exact fun z => nomatch z
            · rw [List.mem_singleton.mp hy, hnm]
              simp [List.lookup]
            · have kp : ∀ b o, h.get? b = some o → h₁.get? b = some o := fun b o e => hsb.extBut b o (Nat.ne_of_lt (Heap.lt_size e)) (Heap.get?_push_of_some _ e)
              have hit1 : IsTup h₁ r _ := let ⟨o, e1, e2, n, e3⟩ := hit; ⟨o, kp _ _ e1, e2, n, e3⟩
              refine PySem.W.kla_codeExpr (wpAny_Tuple_spliced ?_)
              have hkind : ∀ env : Env, env.scope.names = [(x, .local)] → env.kindOf x = some .local := fun env e => by
                unfold Env.kindOf
                rw [e]
                simp [List.lookup]
              refine Calls.spliced_cons (ev_item (j := 1) hk (hkind _ hnm) hns (by simp [List.lookup]) hit1 rfl (by decide) rfl hdx ?_)
              refine Calls.spliced_cons (ev_item (j := 2) hk (hkind _ hnm) hns (by simp [List.lookup]) hit1 rfl (by decide) rfl hdx ?_)
              refine Calls.spliced_cons (ev_item (j := 0) hk (hkind _ hnm) hns (by simp [List.lookup]) hit1 rfl (by decide) rfl hdx ?_)
              refine Calls.spliced_nil ⟨by show 3 ≤ sizeLine; decide, _, rfl, _, _, rfl, fun b o e => Heap.get?_push_of_some _ (kp b o e), ?_⟩
              exact PySem.Reads.tuple (Heap.get?_push_size _ rfl) rfl rfl (PySem.ReadsAll.cons (.int _ _) (PySem.ReadsAll.cons (.int _ _) (PySem.ReadsAll.cons (.str _ _) .nil)))
          · obtain ⟨v', rfl, hq⟩ := hq
            exact hq
end
end LT
namespace LT
open PySem PySem.Spec PyProof.Rows L2
theorem clo_nil {cells : List (Str × Addr)} {x : Str} : cloFrom cells [(x, NameKind.local)] [] = [] := by
  simp [cloFrom]
theorem keep_tups {H H1 : Hp} (e : LamX.ExtN H H1) : ∀ a xs, H a = some (.tup xs) → H1 a = some (.tup xs) := fun a xs h => e a _ h fun ps z => nomatch z
theorem keep_list {K : PySem.W.Frag} {H H1 : Hp} {a : Addr} {xs : List V} (e : LamX.ExtN H H1) (h : SqL K H a xs) : SqL K H1 a xs := by
  rcases h with (h | ⟨o, h⟩) | h
  · exact .inl (.inl (e _ _ h fun ps z => nomatch z))
  · exact .inl (.inr ⟨o, e _ _ h fun ps z => nomatch z⟩)
  · exact .inr h
theorem dataLe_b {ks : Nat → Trn} {i j : Nat} (h : PySem.W.dataLe false (fun i => encK (ks i)) i j = true) : (ks i).b ≤ (ks j).b := by
  have h' : (!PySem.W.dataLt (encK (ks j)) (encK (ks i))) = true := h
  rw [Bool.not_eq_true'] at h'
  unfold encK at h'
  rw [PySem.W.dataLt_tuple, PySem.W.dataLt_cons (by simp [PySem.W.alike])] at h'
  rcases Int.lt_or_le (ks j).b (ks i).b with q | q
  · have hne : PyData.eqv (.int (ks j).b) (.int (ks i).b) = false := by
      simp only [PyData.eqv, beq_eq_false_iff_ne]
      omega
    rw [hne, if_neg Bool.false_ne_true, PySem.W.dataLt_int] at h'
    exact absurd q (of_decide_eq_false h')
  · exact q
theorem each_range : ∀ {xs : List V} {vs : List Value}, Vals xs vs → PySem.W.EachIs (fun v (i : Nat) => ∃ x, xs[i]? = some x ∧ RelV x v) vs (List.range xs.length) := by
  intro xs vs r
  refine PySem.W.EachIs.of_zip (by rw [List.length_range, r.length]) fun p hp => ?_
  obtain ⟨k, hk, e⟩ := List.getElem_of_mem hp
  rw [List.getElem_zip] at e
  have hk2 : k < vs.length := by
    rw [List.length_zip] at hk
    omega
  have hk1 : k < xs.length := by
    rw [List.length_zip, List.length_range] at hk
    omega
  obtain ⟨u, hu, ru⟩ := r.get (i := k) (x := xs[k]) (List.getElem?_eq_getElem hk1)
  rw [List.getElem?_eq_getElem hk2] at hu
  rw [← e]
  refine ⟨xs[k], ?_, ?_⟩
  · rw [List.getElem_range]
    exact List.getElem?_eq_getElem hk1
  · rw [Option.some.inj hu]
    exact ru
theorem vals_of_ix {xs : List V} {order : List Nat} {vs : List Value} (e : PySem.W.EachIs (fun v (i : Nat) => ∃ x, xs[i]? = some x ∧ RelV x v) vs order) : Vals (order.map fun i => xs.getD i .non) vs := by
  induction e with
  | nil => exact .nil
  | cons r _ ih =>
    obtain ⟨x, e, r⟩ := r
    refine .cons ?_ ih
    show RelV (xs.getD _ .non) _
    rw [List.getD_eq_getElem?_getD, e]
    exact r
section
variable {X : Cx}
def tSortKey (K : PySem.W.Frag) (T : List (Addr × Str)) (ta : TE) : TE := fun σ H Q => ta σ H fun y H0 => ∃ (a : Addr) (xs : List V) (ts : List Trn), y = .ref a ∧ SqL K H0 a xs ∧ TurnsAre H0 xs ts ∧ LamX.Tabs T H0 ∧
  ∀ (H1 : Hp) (order : List Nat) (p : Addr), LamX.ExtN H0 H1 → LamX.Tabs T H1 → order.Perm (List.range ts.length) → order.Pairwise (fun i j => (ts.getD i ⟨Str.empty, 0, 0⟩).b ≤ (ts.getD j ⟨Str.empty, 0, 0⟩).b) → H1 p = none → Q (.ref p) (upd H1 p (.lst (order.map fun i => xs.getD i .non)))
theorem pe_sortKey {T : List (Addr × Str)} {c P : Addr} {e : Expr} {te : TE} {x : Str} {args : List Arg} {scope : Scope} {a1 a2 a3 b1 b2 b3 d1 d2 d3 bp lp kp p pos : Pos} {i1 i2 i3 kk : Nat} {k : Nat} (hr : Room k X.A) (he : PE X e te)
    (hg : Gl X "sorted") (hm : X.mg "sorted" = none) (TB : LamX.TabB X.base X.mg c P) (hcode : X.env.code = .ref c) (hmT : (P, X.env.qual ++ "<lambda>") ∈ T) (hu : ∀ p ∈ T, p.1 = P → p.2 = X.env.qual ++ "<lambda>")
    (hdef : defaultsOf { posonlyargs := [], args := args, vararg := none, kwonlyargs := [], kw_defaults := [], kwarg := none, defaults := [] } X.env = ([], []))
    (hk : scope.kind = .function) (hco : scope.isCoroutine = false) (hgen : scope.isGenerator = false) (hnm : scope.names = [(x, .local)]) (hdx : (x == ("__debug__" : Str)) = false)
    (hbind : ∀ (q : Str) (pm cv ctv v : Value), bindArgs (PySem.W.kla_fn "<lambda>" q { posonlyargs := [], args := args, vararg := none, kwonlyargs := [], kw_defaults := [], kwarg := none, defaults := [] }
      (.Tuple [.Subscript (.Name x a1) (.Constant (.int 1) i1 a2) a3, .Subscript (.Name x b1) (.Constant (.int 2) i2 b2) b3, .Subscript (.Name x d1) (.Constant (.int 0) i3 d2) d3] kk bp) scope [] pm cv ctv) ⟨[v], []⟩ = pure [(x, v)])
    (hst : starEach [e] X.env = (false, eval e X.env) :: starEach [] X.env := by rfl) :
    PE X (.Call (.Name "sorted" p) [e] [⟨some "key", .Lambda { posonlyargs := [], args := args, vararg := none, kwonlyargs := [], kw_defaults := [], kwarg := none, defaults := [] }
      (.Tuple [.Subscript (.Name x a1) (.Constant (.int 1) i1 a2) a3, .Subscript (.Name x b1) (.Constant (.int 2) i2 b2) b3, .Subscript (.Name x d1) (.Constant (.int 0) i3 d2) d3] kk bp) scope lp, kp⟩] pos) (tSortKey X.K T te) := by
  refine ⟨fun pins s σ H Q I h => ?_⟩
  refine wpAny_Call_Name_kw (ld_blt I hg hm (by decide +kernel : bootBuiltins "sorted" = some (.builtin "sorted")) ?_)
  refine PyProof.Rows.callWith_kw ?_ (by rw [hst]; rfl) (by rw [hst]; rfl) rfl rfl
  rw [hst]
  show wpAny _ _ (spliced ((false, eval e X.env) :: [])) _ _ _
  refine Calls.spliced_cons (thn (he.run pins s σ H _ I h) fun u s1 ⟨y, H0, I0, ry, a, xs, ts, ey, hs, ht, hT, q⟩ => Calls.spliced_nil ?_)
  subst ey
  obtain rfl : u = Value.ref a := ry
  refine wpAny_evalAll_cons (wpAny_bind (LamX.lam_make2 I0 TB hcode hmT hu hT hdef (fun y hy hf => ?_) fun f c' pm ctv H1 s2 I1 eN T1 hf hfn hfr hco' => ?_))
  · rw [hnm] at hy
    rw [List.mem_singleton.mp hy] at hf
    cases hf
  rw [hnm, clo_nil] at hf
  refine wpAny_bind (wpAny_standAt (wpAny_pure (wpAny_evalAll_nil ?_)))
  show wpAny _ _ (call (.builtin "sorted") [.ref a] [(Str.ofString "key", .ref f)]) _ _ _
  have hs1 : SqL X.K H1 a xs := keep_list eN hs
  have ht1 : TurnsAre H1 xs ts := ht.keep (keep_tups eN)
  obtain ⟨its, rv, pl, hz⟩ := I1.list hs1
  have hlx := paired_len ht
  obtain ⟨oc, vs, t9, e1, e2, e3⟩ := (I1.hok c' _ hco').1
  have hgt : ∀ i x, xs[i]? = some x → TurnAt H1 x (ts.getD i ⟨Str.empty, 0, 0⟩) := fun i x hx => by
    have hi : i < xs.length := (List.getElem?_eq_some_iff.mp hx).1
    have := paired_zip ht1 (x, ts.getD i ⟨Str.empty, 0, 0⟩) (List.mem_of_getElem? (i := i) (List.getElem?_zip_eq_some.mpr ⟨hx, by rw [List.getD_eq_getElem?_getD, List.getElem?_eq_getElem (by omega)]; rfl⟩))
    exact this
  have hun := hr.units
  refine PySem.W.sorted_key_data (b := false) (R := fun v (i : Nat) => ∃ x, xs[i]? = some x ∧ RelV x v) (bs := List.range xs.length) (fun i => encK (ts.getD i ⟨Str.empty, 0, 0⟩)) pl.isList (each_range rv) (PySem.W.AllAlike.of fun _ _ => alike_encK _ _)
    (PySem.W.Sortable.tuples fun i => ⟨_, _, rfl⟩) (by rw [List.length_range]; exact hz) (fun i _ => by rw [depth_encK]; omega) (PyProof.Rows.ksk_s1 _ _) (fun _ => PyProof.Rows.ksk_l1 _ _) (fun _ => PyProof.Rows.ksk_t1 _ _) (fun v i ⟨x', hx, rx⟩ _ g tk kp => ?_) fun out c2 h' tk kp hno hat hlen hout => ?_
  · refine lam_key (as0 := []) (A := X.A.in1.in1) hr.depth (kp _ _ hf) (hbind _ _ _ _ _) hk hco hgen hnm hdx ⟨oc, vs, t9, kp _ _ e1, e2, e3⟩ (I1.nolimit.keeps kp) ?_
    exact PyProof.Rows.Reads.keeps kp (reads_turn I1.hok rx (hgt i x' hx))
  · have hpm := List.mergeSort_perm (List.range xs.length) (PySem.W.dataLe false fun i => encK (ts.getD i ⟨Str.empty, 0, 0⟩))
    have hso := PySem.W.sort_pairwise (PySem.W.sortLe_total (listOrd itemOrd) false fun i : Nat => PySem.W.keyToks (encK (ts.getD i ⟨Str.empty, 0, 0⟩))) (List.range xs.length)
    refine ⟨.ref _, upd H1 _ (.lst _), I1.laid (t' := tk) kp (Nat.le_succ _) ⟨?_, out, c2, vals_of_ix hout, hat⟩, rfl, q H1 _ _ eN T1 (by rw [← hlx]; exact hpm) (hso.imp fun {i j} hij => dataLe_b (ks := fun i => ts.getD i ⟨Str.empty, 0, 0⟩) hij) (I1.hok.fresh (Nat.le_succ _))⟩
    rw [List.length_map, hpm.length_eq, List.length_range]
    exact hz
end
end LT
end
section
set_option Elab.async false
set_option linter.all false
set_option maxRecDepth 100000
set_option maxHeartbeats 4000000
/-! enumerate(tuple) -/
namespace LT
open PySem PySem.Spec PyProof.Rows L2
open AutoSeq1 (wpAny_loadPart')
theorem meets_enumT (l : Addr) (items : Array Value) :
    Meets (Builtin.«enumerate.__new__» ⟨[.type "enumerate", .ref l], []⟩) (fun _ R s => s.heap.IsTuple l items ∧
      R (.ok (.ret (.ref (s.heap.push { cls := .type "tuple_iterator", data := .fields #[.ref l, .int 0 0] }).objs.size)))
        { s with heap := (s.heap.push { cls := .type "tuple_iterator", data := .fields #[.ref l, .int 0 0] }).push { cls := .type "enumerate", data := .fields #[.none, .bool false, .ref s.heap.objs.size, rawInt 0, .none, .none] } }) :=
  .of_wp fun prog w A R s h => by
    obtain ⟨hp, g, d, tk, os⟩ := s
    obtain ⟨hl, h⟩ := h
    have hsub := sub_enumerate
    have q1 : ∀ {A' : Around} {E : Value → Shared → Prop} {Q : Value → Shared → Prop}, Q (.ref hp.objs.size) ⟨hp.push { cls := .type "tuple_iterator", data := .fields #[.ref l, .int 0 0] }, g, d, tk, os⟩ →
        wpAny (model prog w) A' (pyIter (.ref l)) Q E ⟨hp, g, d, tk, os⟩ := fun q => wpAny_pyIter_tuple (s := ⟨hp, g, d, tk, os⟩) hl q
    wp_walk using q1
    refine wpAny_stack_any fun st => wpAny_pure ?_
    split
    · rename_i c _ _ _ _ _
      cases (c == Value.type "enumerate")
      · wp_walk using q1
        exact ⟨_, rfl, h⟩
      · wp_walk using q1
        exact ⟨_, rfl, h⟩
    · wp_walk using q1
      exact ⟨_, rfl, h⟩
theorem call_enumT {prog : Program} {w : World} {A : Around} {E : Value → Shared → Prop} {s : Shared} {l : Addr} {items : Array Value} {Q : Value → Shared → Prop} (hL : s.heap.IsTuple l items)
    (h : ∀ h', IsEnum h' (s.heap.objs.size + 1) s.heap.objs.size 0 .none → h'.IsTupleIter s.heap.objs.size l 0 → (∀ b o, s.heap.get? b = some o → h'.get? b = some o) → Q (.ref (s.heap.objs.size + 1)) { s with heap := h' }) :
    wpAny (model prog w) A (call (.type "enumerate") [.ref l]) Q E s := by
  refine callType_new F.called_enumerate (by decide) (F.typeCall_enumerate_1 _) (F.newCall_enumerate_1 _) (fun obj => F.args_object_init_2 obj _) F.entry_enumerate_new (meets_enumT l items) ⟨hL, ?_⟩
  have hz : (s.heap.push { cls := .type "tuple_iterator", data := .fields #[.ref l, .int 0 0] }).objs.size = s.heap.objs.size + 1 := Heap.size_push ..
  show _ ∧ _
  rw [hz]
  have he : IsEnum ((s.heap.push { cls := .type "tuple_iterator", data := .fields #[.ref l, .int 0 0] }).push { cls := .type "enumerate", data := .fields #[.none, .bool false, .ref s.heap.objs.size, rawInt 0, .none, .none] })
      (s.heap.objs.size + 1) s.heap.objs.size 0 .none := by
    have q := Heap.get?_push_size (s.heap.push { cls := .type "tuple_iterator", data := .fields #[.ref l, .int 0 0] }) (o := { cls := .type "enumerate", data := .fields #[.none, .bool false, .ref s.heap.objs.size, rawInt 0, .none, .none] }) rfl
    rw [hz] at q
    exact q
  exact ⟨⟨_, he, rfl⟩, h _ he ⟨_, Heap.get?_push_of_some _ (Heap.get?_push_size _ rfl), rfl, rfl⟩ fun b o x => Heap.get?_push_of_some _ (Heap.get?_push_of_some _ x)⟩
/-- the tuple at a, each item in a new pair -/
def IteT (K : PySem.W.Frag) (a : Addr) : It :=
  ⟨fun i H => ∃ (xs : List V) (x : V), SqT K H a xs ∧ xs[i]? = some x, fun i H v H' => ∃ T x, v = .ref T ∧ H T = none ∧ H' = upd H T (.tup [.int (i : Nat), x]) ∧ ∀ xs, SqT K H a xs → xs[i]? = some x, fun i H => ∃ xs : List V, SqT K H a xs ∧ xs.length ≤ i⟩
theorem enum_ne {h : Heap} {e it t : Addr} {c : Int} {old : Value} {items : Array Value} (he : IsEnum h e it c old) (ht : IsTup h t items) : e ≠ t := fun z => by
  obtain ⟨o, ho, hc, _⟩ := ht
  have he' : h.get? e = some _ := he
  rw [z, ho] at he'
  rw [Option.some.inj he'] at hc
  exact absurd hc (by
    intro q
    injection q with q
    exact absurd q (by decide))
theorem tupIter_ne {h : Heap} {it t : Addr} {i : Nat} {items : Array Value} (hi : h.IsTupleIter it t i) (ht : IsTup h t items) : t ≠ it := fun z => by
  obtain ⟨o, ho, hc, _⟩ := ht
  obtain ⟨o2, ho2, hc2, _⟩ := hi
  rw [z, ho2] at ho
  cases ho
  rw [hc2] at hc
  injection hc with q
  exact absurd q (by decide)
theorem enumT_end {prog : Program} {w : World} {A : Around} {E : Value → Shared → Prop} {s : Shared} {e it t : Addr} {c : Int} {i : Nat} {items : Array Value} {old : Value} {Q : Option Value → Shared → Prop} (hh : A.handled = none)
    (he : IsEnum s.heap e it c old) (hit : s.heap.IsTupleIter it t i) (ht : IsTup s.heap t items) (hx : items[i]? = none) (hQ : ∀ h', Heap.ExtBut it s.heap h' → Q none { s with heap := h' }) : wpAny (model prog w) A (pyNext (.ref e)) Q E s := by
  have hT : s.TypeIs (.ref e) "enumerate" := ⟨_, he, rfl⟩
  unfold pyNext
  refine wpAny_bind (wpAny_attempt (wpAny_callSpecial?_slot (name := Str.ofString "__next__") hT F.slot_enumerate_next (wpAny_call_entry F.slot_enumerate_next hT F.entry_enumerate_next ?_ (F.args_enumerate_next_1 _))))
  show wpAny _ _ (field (.ref e) 2 >>= _) _ _ _
  refine wpAny_bind (wpAny_field he rfl (x := .ref it) rfl ?_)
  refine wpAny_bind (wpAny_nextOf_tuple_end hh hit ht hx fun h' x he' hx' => ?_)
  obtain ⟨o, ho, hc⟩ := hx'
  exact wpAny_bind (wpAny_isInstance (T := "StopIteration") (b := true) ⟨o, ho, hc⟩ isSubtype_stop (wpAny_pure (hQ _ he')))
theorem turn_enumT {P : Program} {w : World} {K : PySem.W.Frag} {elts : List Expr} {kk : Nat} {tpos : Pos} (a e it : Addr) :
    Turn P w K (.Tuple elts kk tpos) (IteT K a) [e, it] e (fun i h => (∃ old, IsEnum h e it ((i : Nat) : Int) old) ∧ h.IsTupleIter it a i ∧ e ≠ it) where
  mem := by simp
  obj := fun i h st b hb => by
    obtain ⟨⟨old, he⟩, ⟨o, ho, hc, hd⟩, _⟩ := st
    rcases List.mem_cons.mp hb with z | z
    · rw [z]
      exact ⟨_, he, fun v q => nomatch q⟩
    · rw [List.mem_singleton.mp z]
      exact ⟨o, ho, fun v q => by rw [hd] at q; cases q⟩
  keep := fun i h h' st k => by
    obtain ⟨⟨old, he⟩, hi, hne⟩ := st
    exact ⟨⟨old, k e (by simp) _ he⟩, hi.at fun o q => k it (by simp) o q, hne⟩
  item := by
    intro X hP hw hK hc i pins s σ H E I hf st hg
    subst hP hw hK
    obtain ⟨⟨old, he⟩, hit, hne⟩ := st
    obtain ⟨xs, x, hq, hx⟩ := hg
    obtain ⟨its, rv, p, hz⟩ := I.tuple hq
    obtain ⟨u, hu, ru⟩ := rv.get hx
    have hxl : i < xs.length := (List.getElem?_eq_some_iff.mp hx).1
    have hel : e < s.heap.objs.size := Heap.lt_size he
    have hil : it < s.heap.objs.size := by
      obtain ⟨_, q, _⟩ := hit
      exact Heap.lt_size q
    have nea := enum_ne he p
    refine wpAny_pyNext_enum_itemD (Draws.tuple (prog := X.prog) (w := X.w) (A := X.A.in1) (I.ok.hd hc) it a (tupIter_ne hit p) its.toArray) he ⟨hit, p⟩ (by rw [List.size_toArray, ← rv.length]; exact hxl) hne (by simp [hne, nea]) fun y h' tk hy ho st' hT hsz hk => ?_
    obtain ⟨hit', _⟩ := st'
    have ey : y = u := by
      have : its.toArray[i]? = some y := hy
      rw [show its.toArray[i]? = its[i]? by simp, hu] at this
      exact (Option.some.inj this).symm
    subst ey
    refine ⟨_, rfl, wpAny_letOwnedTupleGo_enum (s := { s with heap := h', toks := tk + 1 }) ho fun h2 he' sb => ?_⟩
    have hT2 := (sb.2 _ (Nat.ne_of_gt hel)).trans hT
    have new : ObjOk X.prog X.w (upd H s.heap.objs.size (.tup [.int (i : Nat), x])) h2 s.heap.objs.size (.tup [.int (i : Nat), x]) :=
      ⟨by show 2 ≤ sizeLine; decide, [.int i tk, y], .cons ⟨_, rfl⟩ (.cons ru .nil), ⟨_, hT2, rfl, _, rfl⟩⟩
    have I1 : Inv X pins σ (upd H s.heap.objs.size (.tup [.int (i : Nat), x])) { s with heap := h2, toks := tk + 1 } :=
      I.turnedNew (ch := [e, it]) (fun b ob hb q => (sb.2 b (fun z => hb (by simp [z]))).trans (hk b ob (fun z => hb (by simp [z])) (fun z => hb (by simp [z])) q)) hf (Nat.le_refl _) new
    refine ⟨.ref s.heap.objs.size, _, I1, rfl, ⟨_, x, rfl, I.hok.fresh (Nat.le_refl _), rfl, fun ys hy => by rw [I.tuple_inj hy hq]; exact hx⟩, ⟨⟨y, ?_⟩, hit'.at fun o q => (sb.2 it (Ne.symm hne)).trans q, hne⟩, fun b hb => ?_⟩
    · have e1 : ((i + 1 : Nat) : Int) = (i : Int) + 1 := by omega
      rw [e1]
      exact he'
    · have hb' : b < s.heap.objs.size := by
        rcases List.mem_cons.mp hb with z | z
        · rw [z]
          exact hel
        · rw [List.mem_singleton.mp z]
          exact hil
      rw [upd_ne (Nat.ne_of_lt hb')]
      exact (hf b hb).1
  done := by
    intro X hP hw hK hc i pins s σ H E I hf st hg
    subst hP hw hK
    obtain ⟨⟨old, he⟩, hit, hne⟩ := st
    obtain ⟨xs, hq, hx⟩ := hg
    obtain ⟨its, rv, p, hz⟩ := I.tuple hq
    obtain ⟨f0, f1, f2, f3, f4, f5⟩ := hf it (by simp)
    have hl := rv.length
    refine enumT_end (I.ok.hd hc) he hit p (Array.getElem?_eq_none (by rw [List.size_toArray]; omega)) fun h' eb => ⟨rfl, I.turned (t' := s.toks) (fun b o hb q => eb b o hb q) f0 f1 f3 f4 f5⟩
  self := fun A i s Q E st h => let ⟨⟨_, he⟩, _⟩ := st; wpAny_pyIter_enum he h
def iEnumT (K : PySem.W.Frag) (ta : TA) : TI := fun σ H R => ta σ H fun vs H1 => ∃ a xs, vs = [.ref a] ∧ SqT K H1 a xs ∧ R (IteT K a) H1
theorem pi_enumT {X : Cx} {e : Expr} {ta : TA} {p pos tpos : Pos} {elts : List Expr} {kk : Nat} (hg : Gl X "enumerate") (hm : X.mg "enumerate" = none) (ha : PA X [e] ta) (hs : starEach [e] X.env = [(false, eval e X.env)] := by rfl) :
    PI X (.Tuple elts kk tpos) (.Call (.Name "enumerate" p) [e] [] pos) (iEnumT X.K ta) := by
  refine ⟨fun pins s σ H R I h => ?_⟩
  refine Call_ (ld_blt I hg hm boot_enumerate (PyProof.Rows.callWith_type1 (thn (ha.run pos pins s σ H _ I h) fun us s1 ⟨vs, H1, I1, r1, q1⟩ => ?_) hs rfl))
  obtain ⟨a, xs, rfl, hq, q⟩ := q1
  obtain ⟨u, rfl, ru⟩ := vals1 r1
  obtain rfl : u = Value.ref a := ru
  obtain ⟨its, rv, pl, hz⟩ := I1.tuple hq
  refine call_enumT pl fun h' he hit hk => wpAny_pyIter_enum he ?_
  have I2 : Inv X pins σ H1 { s1 with heap := h' } := I1.kept (t' := s1.toks) hk
  refine ⟨s1.heap.objs.size + 1, [s1.heap.objs.size + 1, s1.heap.objs.size], _, _, H1, rfl, I2, turn_enumT a (s1.heap.objs.size + 1) s1.heap.objs.size, ⟨⟨.none, he⟩, hit, Nat.succ_ne_self _⟩, fun b hb => ?_, q⟩
  have hle : s1.heap.objs.size ≤ b := by
    rcases List.mem_cons.mp hb with z | z
    · rw [z]
      exact Nat.le_add_right _ _
    · rw [List.mem_singleton.mp z]
      exact Nat.le_refl _
  exact I1.fpOk hle (I1.hok.fresh hle)
theorem walk_enumT {K : PySem.W.Frag} {a : Addr} {xs : List V} : Walk (IteT K a) xs.length (fun H => SqT K H a xs) (YPair (fun i => some (.int (i : Nat))) (fun i => xs[i]?)) := by
  refine ⟨fun i _ hi q => ⟨xs, xs[i], q, by simp [hi]⟩, fun _ q => ⟨xs, q, Nat.le_refl _⟩, fun i H v H' _ q y => ?_⟩
  obtain ⟨T, x, h1, h2, h3, h4⟩ := y
  exact ⟨T, .int (i : Nat), x, h1, h2, h3, rfl, h4 xs q⟩
end LT
end
section
set_option Elab.async false
set_option linter.all false
set_option maxRecDepth 100000
set_option maxHeartbeats 4000000
/-! dicts whose keys are tuples of rounds -/
namespace LT
open PySem PySem.Spec PyProof.Rows L2
def kT (t : Trn) : NestedKey := .tup [.text t.n, .num t.b, .num t.e]
def kOf (K : List Trn) : NestedKey := .tup (K.map kT)
theorem kT_inj {t u : Trn} (h : kT t = kT u) : t = u := by
  unfold kT at h
  injection h with h
  injection h with h1 h
  injection h with h2 h
  injection h with h3 _
  injection h1 with h1
  injection h2 with h2
  injection h3 with h3
  cases t
  cases u
  simp at h1 h2 h3
  subst h1 h2 h3
  rfl
theorem kOf_inj {K K' : List Trn} (h : kOf K = kOf K') : K = K' := by
  unfold kOf at h
  injection h with h
  induction K generalizing K' with
  | nil =>
    cases K' with
    | nil => rfl
    | cons _ _ => cases h
  | cons t K ih =>
    cases K' with
    | nil => cases h
    | cons u K' =>
      rw [List.map_cons, List.map_cons] at h
      injection h with h1 h2
      rw [kT_inj h1, ih h2]
theorem depth_kT (t : Trn) : (kT t).depth = 1 := by simp [kT, NestedKey.depth, NestedKey.depthAll]
theorem depth_kOf (K : List Trn) : (kOf K).depth ≤ 2 := by
  have : ∀ K : List Trn, NestedKey.depthAll (K.map kT) ≤ 1 := by
    intro K
    induction K with
    | nil => simp [NestedKey.depthAll]
    | cons t K ih =>
      rw [List.map_cons, NestedKey.depthAll, depth_kT]
      omega
  unfold kOf
  rw [NestedKey.depth]
  have := this K
  omega
/-- at a stands the tuple of the rounds K -/
def LastsAt (H : Hp) (a : Addr) (K : List Trn) : Prop := ∃ xs, H a = some (.tup xs) ∧ TurnsAre H xs K
theorem LastsAt.keep {H H' : Hp} {a : Addr} {K : List Trn} (k : ∀ a xs, H a = some (.tup xs) → H' a = some (.tup xs)) (h : LastsAt H a K) : LastsAt H' a K :=
  let ⟨xs, e, r⟩ := h; ⟨xs, k _ _ e, r.keep k⟩
section
variable {P : Program} {w : World} {H : Hp} {h : Heap}
theorem turn_is (ok : HOk P w H h) {x : V} {v : Value} {t : Trn} (rv : RelV x v) (ht : TurnAt H x t) : NestedIs h (kT t) v := by
  obtain ⟨r, rfl, hr⟩ := ht
  obtain rfl : v = Value.ref r := rv
  obtain ⟨_, its, rs, o, ho, hc, n, hd⟩ := (show ObjOk P w H h r (.tup [.str t.n, .int t.b, .int t.e]) from ok r _ hr)
  refine NestedIs.tup ho hc hd ?_
  show NestedAll h _ its.toArray.toList
  cases rs with
  | cons r1 rs =>
    cases rs with
    | cons r2 rs =>
      cases rs with
      | cons r3 rs =>
        cases rs
        obtain ⟨t1, rfl⟩ := r1
        obtain ⟨t2, rfl⟩ := r2
        obtain ⟨t3, rfl⟩ := r3
        exact .cons (.text _ _) (.cons (.int _ _) (.cons (.int _ _) .nil))
theorem turns_is (ok : HOk P w H h) : ∀ {xs : List V} {K : List Trn} {vs : List Value}, TurnsAre H xs K → Vals xs vs → NestedAll h (K.map kT) vs
  | _, _, _, .nil, .nil => .nil
  | _, _, _, .cons r1 t1, .cons r2 t2 => .cons (turn_is ok r2 r1) (turns_is ok t1 t2)
theorem lasts_is (ok : HOk P w H h) {a : Addr} {K : List Trn} (hl : LastsAt H a K) : (nestedKind P w).is h (kOf K) a := by
  obtain ⟨xs, e, r⟩ := hl
  obtain ⟨_, its, rs, o, ho, hc, n, hd⟩ := (show ObjOk P w H h a (.tup xs) from ok a _ e)
  refine ⟨NestedIs.tup ho hc hd ?_, Nat.le_trans (depth_kOf K) (by decide)⟩
  show NestedAll h _ its.toArray.toList
  simpa using turns_is ok r rs
end
/-- a dict by its entries -/
def NDO (P : Program) (w : World) (d : Addr) (xs : List (NestedKey × Addr × Value)) : HO := .ext fun h => ∃ o es ep, h.get? d = some o ∧ o.ExactDict ∧ o.data = .dict es ep ∧ es.toList = xs.map (entryOfKey (nestedKind P w))
structure NDE (H : Hp) (d : Addr) (xs : List (NestedKey × Addr × Value)) (Ks : List (List Trn)) : Prop where
  sys : (d == sysModules) = false
  keys : xs.map (·.1) = Ks.map kOf
  nd : Ks.Nodup
  at_ : ∀ (i : Nat) (K : List Trn), Ks[i]? = some K → ∃ x, xs[i]? = some x ∧ LastsAt H x.2.1 K
def ND (P : Program) (w : World) (H : Hp) (d : Addr) (Ks : List (List Trn)) : Prop := ∃ xs, H d = some (NDO P w d xs) ∧ NDE H d xs Ks
theorem NDE.keep {H H' : Hp} {d : Addr} {xs : List (NestedKey × Addr × Value)} {Ks : List (List Trn)} (k : ∀ a xs, H a = some (.tup xs) → H' a = some (.tup xs)) (h : NDE H d xs Ks) : NDE H' d xs Ks :=
  ⟨h.sys, h.keys, h.nd, fun i K e => let ⟨x, e, l⟩ := h.at_ i K e; ⟨x, e, l.keep k⟩⟩
theorem NDE.len {H : Hp} {d : Addr} {xs : List (NestedKey × Addr × Value)} {Ks : List (List Trn)} (h : NDE H d xs Ks) : xs.length = Ks.length := by
  have := congrArg List.length h.keys
  rwa [List.length_map, List.length_map] at this
theorem ndo_tup {P : Program} {w : World} {d : Addr} {xs : List (NestedKey × Addr × Value)} {ys : List V} : NDO P w d xs ≠ .tup ys := fun z => by
  unfold NDO at z
  cases z
theorem ndo_ok {P : Program} {w : World} {H : Hp} {h : Heap} {d : Addr} {xs : List (NestedKey × Addr × Value)} (e : ∃ o es ep, h.get? d = some o ∧ o.ExactDict ∧ o.data = .dict es ep ∧ es.toList = xs.map (entryOfKey (nestedKind P w))) : ObjOk P w H h d (NDO P w d xs) := by
  obtain ⟨o, es, ep, h1, h2, h3, h4⟩ := e
  exact ⟨⟨o, es, ep, h1, h2, h3, h4⟩, ⟨o, h1⟩, fun g1 g2 ⟨o, es, ep, a, b⟩ st => ⟨o, es, ep, st _ a, b⟩⟩
theorem NDE.dict {P : Program} {w : World} {H : Hp} {h : Heap} {d : Addr} {xs : List (NestedKey × Addr × Value)} {Ks : List (List Trn)} (ok : HOk P w H h) (n : NDE H d xs Ks)
    (e : ∃ o es ep, h.get? d = some o ∧ o.ExactDict ∧ o.data = .dict es ep ∧ es.toList = xs.map (entryOfKey (nestedKind P w))) : h.DictOfH (nestedKind P w) d xs := by
  obtain ⟨o, es, ep, h1, h2, h3, h4⟩ := e
  refine ⟨o, es, ep, h1, h2, h3, h4, fun x hx => ?_, ?_⟩
  · obtain ⟨i, hi, ei⟩ := List.getElem_of_mem hx
    have hi2 : i < Ks.length := by
      rw [← n.len]
      exact hi
    obtain ⟨y, ey, ly⟩ := n.at_ i Ks[i] (List.getElem?_eq_getElem hi2)
    rw [List.getElem?_eq_getElem hi, ei] at ey
    cases ey
    have ek : x.1 = kOf Ks[i] := by
      have q := congrArg (fun l => l[i]?) n.keys
      simp only [List.getElem?_map] at q
      rw [List.getElem?_eq_getElem hi, List.getElem?_eq_getElem hi2, ei] at q
      exact Option.some.inj q
    rw [ek]
    exact lasts_is ok ly
  · rw [n.keys]
    have : ∀ l : List (List Trn), l.Nodup → (l.map kOf).Nodup := by
      intro l
      induction l with
      | nil => intro _; exact List.nodup_nil
      | cons K l ih =>
        intro hn
        obtain ⟨n1, n2⟩ := List.nodup_cons.mp hn
        rw [List.map_cons]
        refine List.nodup_cons.mpr ⟨fun m => ?_, ih n2⟩
        obtain ⟨K', hK', e⟩ := List.mem_map.mp m
        rw [kOf_inj e] at hK'
        exact n1 hK'
    exact this Ks n.nd
section
variable {X : Cx}
/-- {} -/
def tNDNew (P : Program) (w : World) : TE := fun _ H Q => ∀ (d : Addr) (H' : Hp), H d = none → (∀ b, b ≠ d → H' b = H b) → ND P w H' d [] → Q (.ref d) H'
theorem pe_ndnew {pos : Pos} : PE X (.Dict [] [] pos) (tNDNew X.prog X.w) := by
  refine ⟨fun pins s σ H Q I h => ?_⟩
  have hn := I.hok.fresh (Nat.le_refl s.heap.objs.size)
  have hsys : (s.heap.objs.size == sysModules) = false := beq_eq_false_iff_ne.mpr (Ne.symm (Nat.ne_of_lt I.big))
  refine wpAny_Dict_empty ⟨.ref s.heap.objs.size, upd H s.heap.objs.size (NDO X.prog X.w s.heap.objs.size []), I.laid (t' := s.toks) (fun _ _ q => Heap.get?_push_of_some _ q) (Nat.le_refl _) (ndo_ok ⟨_, #[], 0, Heap.get?_push_size _ rfl, ⟨rfl, rfl, rfl⟩, rfl, rfl⟩), rfl,
    h _ _ hn (fun b hb => upd_ne hb) ⟨[], upd_same, hsys, rfl, List.nodup_nil, fun i K e => by simp at e⟩⟩
/-- d[k] = v -/
def stND (P : Program) (w : World) : TSet := fun o i v H Q => ∃ (d a : Addr) (K : List Trn) (Ks : List (List Trn)), o = .ref d ∧ i = .ref a ∧ LastsAt H a K ∧ ND P w H d Ks ∧ Ks.length < sizeLine ∧
  ∀ (H' : Hp) (Ks' : List (List Trn)), (∀ b, b ≠ d → H' b = H b) → ND P w H' d Ks' → (∀ K', K' ∈ Ks' ↔ K' ∈ Ks ∨ K' = K) → Ks'.length ≤ Ks.length + 1 → Q H'
theorem set_nd (hu : X.A.units + 64 < cLine) : PSet X (stND X.prog X.w) := by
  intro pins s σ H o i v ov iv u Q I ro ri rv h
  obtain ⟨d, a, K, Ks, rfl, rfl, hl, ⟨xs, hd, n⟩, hsz, q⟩ := h
  obtain rfl : ov = Value.ref d := ro
  obtain rfl : iv = Value.ref a := ri
  have dd := n.dict I.hok (I.hok d _ hd).1
  have mu : Mut (H d) := by
    rw [hd]
    trivial
  have tup_ne : ∀ b ys, H b = some (.tup ys) → b ≠ d := fun b ys e z => by
    rw [z, hd] at e
    exact ndo_tup (Option.some.inj e)
  refine wpAny_setItem_heap (k := kOf K) (show (nestedKind X.prog X.w).room X.A.in1 from ?_) (lasts_is I.hok hl) dd (fun h' hm hs => ?_) (by rw [n.len]; exact Nat.le_of_lt hsz)
  · show X.A.units + 1 + 8 < cLine
    omega
  obtain ⟨o', es, ep, e1, e2, e3, e4, _, _⟩ := id hm
  have he : ∃ q, h'.get? d = some q := ⟨o', e1⟩
  have I' := d_write (t' := s.toks + (nestedKind X.prog X.w).draws (kOf K)) (ob := NDO X.prog X.w d (storedH xs (kOf K) a u)) I mu hs he (ndo_ok ⟨o', es, ep, e1, e2, e3, e4⟩)
  have kt : ∀ b ys, H b = some (.tup ys) → upd H d (NDO X.prog X.w d (storedH xs (kOf K) a u)) b = some (.tup ys) := fun b ys e => by
    rw [upd_ne (tup_ne b ys e)]
    exact e
  refine ⟨_, I', ?_⟩
  cases hk : atKey xs (kOf K) with
  | some p =>
    have e5 : storedH xs (kOf K) a u = xs.map (putAt (kOf K) u) := storedH_old hk a u
    have hin : K ∈ Ks := by
      unfold atKey at hk
      obtain ⟨x, hx, _⟩ := Option.map_eq_some_iff.mp hk
      have hx1 := List.find?_some hx
      have hx2 := List.mem_of_find?_eq_some hx
      have : x.1 ∈ xs.map (·.1) := List.mem_map.mpr ⟨x, hx2, rfl⟩
      rw [n.keys, of_decide_eq_true hx1] at this
      obtain ⟨K', hK', e⟩ := List.mem_map.mp this
      rw [← kOf_inj e]
      exact hK'
    refine q _ Ks (fun b hb => upd_ne hb) ⟨_, upd_same, ⟨n.sys, by rw [e5, keys_map_putAt]; exact n.keys, n.nd, fun i K' e => ?_⟩⟩ (fun K' => ⟨.inl, fun z => z.elim id fun e => e ▸ hin⟩) (Nat.le_succ _)
    obtain ⟨x, ex, lx⟩ := n.at_ i K' e
    refine ⟨putAt (kOf K) u x, by rw [e5, List.getElem?_map, ex]; rfl, ?_⟩
    have : (putAt (kOf K) u x).2.1 = x.2.1 := by
      unfold putAt
      split <;> rfl
    rw [this]
    exact lx.keep kt
  | none =>
    have e5 : storedH xs (kOf K) a u = xs ++ [(kOf K, a, u)] := storedH_new hk a u
    have hnot : K ∉ Ks := fun m => by
      have : kOf K ∈ xs.map (·.1) := by
        rw [n.keys]
        exact List.mem_map.mpr ⟨K, m, rfl⟩
      obtain ⟨x, hx, e⟩ := List.mem_map.mp this
      unfold atKey at hk
      rw [Option.map_eq_none_iff, List.find?_eq_none] at hk
      exact hk x hx (decide_eq_true e)
    refine q _ (Ks ++ [K]) (fun b hb => upd_ne hb) ⟨_, upd_same, ⟨n.sys, by rw [e5, List.map_append, n.keys, List.map_append]; rfl, ?_, fun i K' e => ?_⟩⟩ (fun K' => by rw [List.mem_append, List.mem_singleton]) (by rw [List.length_append]; exact Nat.le_refl _)
    · exact List.nodup_append.mpr ⟨n.nd, by simp, fun x hx y hy z => by rw [List.mem_singleton.mp hy] at z; exact hnot (z ▸ hx)⟩
    · by_cases hi : i < Ks.length
      · rw [List.getElem?_append_left hi] at e
        obtain ⟨x, ex, lx⟩ := n.at_ i K' e
        exact ⟨x, by rw [e5, List.getElem?_append_left (by rw [n.len]; exact hi)]; exact ex, lx.keep kt⟩
      · rw [List.getElem?_append_right (by omega)] at e
        have hi0 : i - Ks.length = 0 := by
          have := (List.getElem?_eq_some_iff.mp e).1
          simp at this
          omega
        rw [hi0] at e
        have e : K = K' := by simpa using e
        subst e
        refine ⟨(kOf K, a, u), ?_, hl.keep kt⟩
        rw [e5, List.getElem?_append_right (by rw [n.len]; omega), n.len, hi0]
        rfl
/-- {(): True} -/
def tND1 (P : Program) (w : World) : TE := fun _ H Q => ∀ (d : Addr) (H' : Hp), H d = none → (∀ b o, H b = some o → H' b = some o) → ND P w H' d [[]] → Q (.ref d) H'
theorem pe_nd1 {kk j : Nat} {p1 p2 pos : Pos} (hu : X.A.units + 64 < cLine) : PE X (.Dict [some (.Tuple [] kk p1)] [.Constant (.bool true) j p2] pos) (tND1 X.prog X.w) := by
  refine ⟨fun pins s σ H Q I h => ?_⟩
  have hn := I.hok.fresh (Nat.le_refl s.heap.objs.size)
  have hsys : (s.heap.objs.size == sysModules) = false := beq_eq_false_iff_ne.mpr (Ne.symm (Nat.ne_of_lt I.big))
  have I1 : Inv X pins σ (upd H s.heap.objs.size (NDO X.prog X.w s.heap.objs.size [])) { s with heap := s.heap.push { cls := .type "dict", data := .dict #[] } } :=
    I.laid (t' := s.toks) (fun _ _ q => Heap.get?_push_of_some _ q) (Nat.le_refl _) (ndo_ok ⟨_, #[], 0, Heap.get?_push_size _ rfl, ⟨rfl, rfl, rfl⟩, rfl, rfl⟩)
  have hp : PPs X pos [some (.Tuple [] kk p1)] [.Constant (.bool true) j p2] _ := pps_cons (pe_tup pa_nil) pe_bl pps_nil
  have hlen := pairTrees_length [some (.Tuple [] kk p1)] [.Constant (.bool true) j p2] X.env pos rfl rfl
  rw [arm_eval_Dict, zip_pairTrees [some (.Tuple [] kk p1)] [.Constant (.bool true) j p2] X.env pos rfl rfl, dictDisplay_pairs _ (fun z => by rw [z] at hlen; cases hlen) (by rw [hlen]; show 1 < 17; decide)]
  refine wpAny_bind (wpAny_standAt (wpAny_bind (wpAny_subDictH (knd := nestedKind X.prog X.w) (Q := fun d s' => wpAny (model X.prog X.w) X.A (pure (Value.ref d)) (EP X pins σ Q) X.xe s') ?_ (by rw [hlen]; show 1 ≤ 15; decide) ?_)))
  · show X.A.units + 8 < cLine
    omega
  refine thn (hp.run pins _ σ _ (fun ps H2 => ∃ t, ps = [(.ref t, .bl true)] ∧ upd H s.heap.objs.size (NDO X.prog X.w s.heap.objs.size []) t = none ∧ H2 = upd (upd H s.heap.objs.size (NDO X.prog X.w s.heap.objs.size [])) t (.tup [])) I1 ⟨Nat.zero_le _, fun t ht => ⟨t, rfl, ht, rfl⟩⟩) fun ws s2 ⟨ps, H2, I2, rel, t, e1, ht, e2⟩ => ?_
  subst e1 e2
  have hdt : s.heap.objs.size ≠ t := fun z => by
    rw [← z, upd_same] at ht
    cases ht
  cases rel with
  | @cons a b as bs r1 r2 =>
    cases r2
    obtain ⟨b1, b2⟩ := b
    obtain ⟨r3, r4⟩ := r1
    obtain rfl : b1 = Value.ref t := r3
    have hT : LastsAt (upd (upd H s.heap.objs.size (NDO X.prog X.w s.heap.objs.size [])) t (.tup [])) t [] := ⟨[], upd_same, .nil⟩
    have hd2 : upd (upd H s.heap.objs.size (NDO X.prog X.w s.heap.objs.size [])) t (.tup []) s.heap.objs.size = some (NDO X.prog X.w s.heap.objs.size []) := by
      rw [upd_ne hdt, upd_same]
    have n0 : NDE (upd (upd H s.heap.objs.size (NDO X.prog X.w s.heap.objs.size [])) t (.tup [])) s.heap.objs.size [] [] := ⟨hsys, rfl, List.nodup_nil, fun i K e => by simp at e⟩
    refine ⟨[(kOf [], t, b2)], ⟨rfl, rfl, lasts_is I2.hok hT, trivial⟩, n0.dict I2.hok (I2.hok _ _ hd2).1, fun h' tk hm hs => ?_⟩
    obtain ⟨o', es, ep, f1, f2, f3, f4, _, _⟩ := id hm
    have I3 := d_write (t' := tk) (ob := NDO X.prog X.w s.heap.objs.size (storedAllH [] [(kOf [], t, b2)])) I2 (by rw [hd2]; trivial) hs ⟨o', f1⟩ (ndo_ok ⟨o', es, ep, f1, f2, f3, f4⟩)
    have es1 : storedAllH [] [(kOf [], t, b2)] = [(kOf [], t, b2)] := rfl
    refine wpAny_pure ⟨.ref s.heap.objs.size, _, I3, rfl, h _ _ hn (fun b o e => ?_) ⟨_, upd_same, ⟨hsys, by rw [es1]; rfl, by simp, fun i K e => ?_⟩⟩⟩
    · have hb : b ≠ s.heap.objs.size := ne_of_none e hn
      have hbt : b ≠ t := fun z => by
        rw [z] at e
        rw [upd_ne (Ne.symm hdt), e] at ht
        cases ht
      rw [upd_ne hb, upd_ne hbt, upd_ne hb]
      exact e
    · have hi : i = 0 := by
        have := (List.getElem?_eq_some_iff.mp e).1
        simp at this
        omega
      subst hi
      have e : [] = K := by simpa using e
      subst e
      refine ⟨(kOf [], t, b2), by rw [es1]; rfl, [], ?_, .nil⟩
      show upd _ _ _ t = _
      rw [upd_ne (Ne.symm hdt), upd_same]
end
/-! ### a walk over the keys -/
def ItN (P : Program) (w : World) (d : Addr) (o : Obj) (xs : List (NestedKey × Addr × Value)) : It :=
  ⟨fun i H => H d = some (.frz o (NDO P w d xs)) ∧ (d == sysModules) = false ∧ i < xs.length, fun i H x H' => H' = H ∧ ∃ e, xs[i]? = some e ∧ x = .ref e.2.1, fun i H => H d = some (.frz o (NDO P w d xs)) ∧ (d == sysModules) = false ∧ xs.length ≤ i⟩
theorem frzN {X : Cx} {pins : List (Addr × Obj)} {σ : L2.St} {H : Hp} {s : Shared} {d : Addr} {o : Obj} {xs : List (NestedKey × Addr × Value)} (I : Inv X pins σ H s) (h : H d = some (.frz o (NDO X.prog X.w d xs))) :
    s.heap.get? d = some o ∧ o.ExactDict ∧ ∃ (es : Array DictEntry) (ep : Nat), o.data = .dict es ep ∧ es.size = xs.length ∧ es.toList = xs.map (entryOfKey (nestedKind X.prog X.w)) := by
  obtain ⟨hd, ⟨o', es, ep, h1, h2, h3, h4⟩, _⟩ := I.hok d _ h
  rw [hd] at h1
  cases h1
  exact ⟨hd, h2, es, ep, h3, size_of_entries h4, h4⟩
theorem turn_N {P : Program} {w : World} {K : PySem.W.Frag} {tg : Expr} {d : Addr} {o : Obj} {es : Array DictEntry} {ep : Nat} {xs : List (NestedKey × Addr × Value)} (it : Addr) (hod : o.data = .dict es ep) :
    Turn P w K tg (ItN P w d o xs) [it] it (fun i h => h.IsKeyIter it d i xs.length ep) where
  mem := by simp
  obj := fun i h st b hb => by
    rw [List.mem_singleton.mp hb]
    obtain ⟨oi, e, c, dd⟩ := st
    exact ⟨oi, e, fun v z => by rw [dd] at z; cases z⟩
  keep := fun i h h' st k => st.at fun oi e => k it (by simp) oi e
  item := by
    intro X hP hw hK hc i pins s σ H E I hf st hg
    subst hP hw hK
    obtain ⟨hd, hs, hi⟩ := hg
    obtain ⟨f0, f1, f2, f3, f4, f5⟩ := hf it (by simp)
    obtain ⟨hgd, hx, es', ep', hdt, hsz, hes⟩ := frzN I hd
    obtain ⟨rfl, rfl⟩ := dict_ep hod hdt
    have hen : es'[i]? = some (entryOfKey (nestedKind X.prog X.w) xs[i]) := by
      rw [entry_at hes, List.getElem?_eq_getElem hi]
      rfl
    refine next_key_item st hgd hdt hsz hen fun h' st' sb => ?_
    have I1 : Inv X pins σ H { s with heap := h' } := I.turned (t' := s.toks) (fun b ob hb e => (sb.2 b hb).trans e) f0 f1 f3 f4 f5
    obtain ⟨oi, e, c, dd⟩ := id st'
    exact ⟨_, rfl, go_of (s := { s with heap := h' }) e c dd (by decide) ⟨.ref xs[i].2.1, H, I1, rfl, ⟨rfl, xs[i], List.getElem?_eq_getElem hi, rfl⟩, st', fun b hb => (hf b hb).1⟩⟩
  done := by
    intro X hP hw hK hc i pins s σ H E I hf st hg
    subst hP hw hK
    obtain ⟨hd, hs, hi⟩ := hg
    obtain ⟨f0, f1, f2, f3, f4, f5⟩ := hf it (by simp)
    obtain ⟨hgd, hx, es', ep', hdt, hsz, hes⟩ := frzN I hd
    obtain ⟨rfl, rfl⟩ := dict_ep hod hdt
    exact next_key_end (I.ok.hd hc) st hgd hdt hsz hi fun h' eb => ⟨rfl, I.turned (t' := s.toks) (fun b ob hb e => eb b ob hb e) f0 f1 f3 f4 f5⟩
  self := fun A i s Q E st h => wpAny_pyIter_keyiter st h
def iN (P : Program) (w : World) (td : TE) : TI := fun σ H R => td σ H fun x H1 => ∃ d o xs, x = .ref d ∧ H1 d = some (.frz o (NDO P w d xs)) ∧ (d == sysModules) = false ∧ R (ItN P w d o xs) H1
theorem pi_N {X : Cx} {tg e : Expr} {td : TE} (he : PE X e td) : PI X tg e (iN X.prog X.w td) := by
  refine ⟨fun pins s σ H R I h => ?_⟩
  refine thn (he.run pins s σ H _ I h) fun u s1 ⟨x, H1, I1, rx, d, o, xs, ex, hd, hs, q⟩ => ?_
  subst ex
  obtain rfl : u = Value.ref d := rx
  obtain ⟨hgd, hx, es, ep, hdt, hsz, hes⟩ := frzN I1 hd
  refine iter_keys hs hgd hx hdt (pi_one (tk := s1.toks) I1 _ (turn_N _ hdt) ⟨_, Heap.get?_push_size _ rfl, rfl, ?_⟩ q)
  rw [hsz]
  rfl
theorem walk_N {P : Program} {w : World} {d : Addr} {o : Obj} {xs : List (NestedKey × Addr × Value)} : Walk (ItN P w d o xs) xs.length (fun H => H d = some (.frz o (NDO P w d xs)) ∧ (d == sysModules) = false) (fun i H x H' => H' = H ∧ ∃ e, xs[i]? = some e ∧ x = .ref e.2.1) :=
  ⟨fun i _ hi q => ⟨q.1, q.2, hi⟩, fun _ q => ⟨q.1, q.2, Nat.le_refl _⟩, fun _ _ _ _ _ _ y => y⟩
end LT
end
section
set_option Elab.async false
set_option linter.all false
set_option maxRecDepth 100000
set_option maxHeartbeats 4000000
/-! The text by places; what the top has left; short words. -/
namespace LT
open PySem PySem.Spec PyProof.Rows L2
def topS (i : Nat) : Stmt := PySem.Challenge.pw_latchtown_k24_whole_no_fewer_watchers_by.main.body.getD i (.Pass ⟨0, 0, 0, 0⟩)
/-- a def of the text, where it stands, how it binds -/
structure DefOf (K : PySem.W.Frag) (mg : Str → Option Value) (x : Str) (st : Stmt) (ps : List Str) where
  f : Addr
  fd : FuncData
  F : Fun K x x st f fd
  b : Binds K fd ps []
  g : mg x = some (.ref f)
/-- a method -/
structure MethOf (K : PySem.W.Frag) (C : Addr) (x q : Str) (st : Stmt) (ps : List Str) where
  f : Addr
  fd : FuncData
  F : Fun K x q st f fd
  b : Binds K fd ps []
  m : Meth K C x f
/-- a def whose own code object is told -/
structure DefC (K : PySem.W.Frag) (mg : Str → Option Value) (x : Str) (st : Stmt) (ps : List Str) (c : Addr) where
  f : Addr
  fd : FuncData
  ex : ∃ (oc : Value) (od : Option Addr) (kV doc pm : Value) (an : Option Addr) (ct : Value) (osl : Array (Option Value)),
    fd = PySem.W.fnOf x x (defArgs st) (defBody st) (defScope st) .none kV doc pm an (.ref c) ct ∧ K.lookup f = some ⟨oc, od, .func fd, osl⟩ ∧ PySem.W.codeIn K (.ref c) x = true
  kp : PySem.W.keepIn K (.ref f) = true
  b : Binds K fd ps []
  g : mg x = some (.ref f)
def letters : Str := Str.ofString "abcdefghijklmnopqrstuvwxyz"
structure Txt (K : PySem.W.Frag) (mg : Str → Option Value) (cL : Addr) where
  isi : mg "isinstance" = none
  int : mg "int" = none
  bool : mg "bool" = none
  str : mg "str" = none
  len : mg "len" = none
  all : mg "all" = none
  any : mg "any" = none
  zip : mg "zip" = none
  tuple : mg "tuple" = none
  list : mg "list" = none
  range : mg "range" = none
  enum : mg "enumerate" = none
  sorted : mg "sorted" = none
  abs : mg "abs" = none
  min : mg "min" = none
  set : mg "set" = none
  LETTERS : ∃ t, mg "LETTERS" = some (.str letters t)
  DAY : ∃ t, mg "DAY" = some (.int 24 t)
  MOST_ROUNDS : ∃ t, mg "MOST_ROUNDS" = some (.int 40 t)
  MOST_MOMENT : ∃ t, mg "MOST_MOMENT" = some (.int 1000000 t)
  MOST_WALK : ∃ t, mg "MOST_WALK" = some (.int 1000 t)
  is_within : DefOf K mg "is_within" (topS 8) ["thing", "low", "high"]
  is_name : DefOf K mg "is_name" (topS 9) ["thing"]
  rises : DefOf K mg "rises" (topS 10) ["some"]
  is_gate : DefOf K mg "is_gate" (topS 11) ["thing"]
  is_town : DefOf K mg "is_town" (topS 12) ["thing"]
  look_at_town : DefOf K mg "look_at_town" (topS 13) ["town"]
  names_of : DefOf K mg "names_of" (topS 14) ["town"]
  are_walks : DefOf K mg "are_walks" (topS 19) ["town", "thing"]
  is_turn : DefOf K mg "is_turn" (topS 20) ["town", "thing"]
  look_at_turns : DefOf K mg "look_at_turns" (topS 21) ["town", "walks", "turns"]
  can_follow : DefOf K mg "can_follow" (topS 22) ["town", "walks", "one", "other"]
  C : Addr
  gC : mg "Pairing" = some (.ref C)
  cls : Cls K C
  nA : NoAttr K C "ahead"
  nB : NoAttr K C "behind_of"
  nF : NoAttr K C "ahead_of"
  init : MethOf K C "__init__" "Pairing.__init__" (inClass (topS 23) 0) ["self", "ahead"]
  maker : Mk K C init.f
  grown : MethOf K C "grown" "Pairing.grown" (inClass (topS 23) 1) ["self", "one", "met"]
  reached : MethOf K C "reached" "Pairing.reached" (inClass (topS 23) 2) ["self"]
  fewest : DefOf K mg "fewest" (topS 24) ["town", "walks", "turns"]
  are_places : DefOf K mg "are_places" (topS 25) ["thing", "many"]
  rows_hold : DefOf K mg "rows_hold" (topS 26) ["town", "walks", "turns", "rows"]
  well : DefOf K mg "_law_well" (topS 29) ["cell", "turn"]
  take : DefOf K mg "_law_take" (topS 30) ["bag", "many"]
  shuffled : DefOf K mg "_law_shuffled" (topS 31) ["bag", "some"]
  name : DefOf K mg "_law_name" (topS 32) ["bag"]
  rising : DefOf K mg "_law_rising" (topS 33) ["bag", "most"]
  town : DefOf K mg "_law_town" (topS 34) ["bag", "most"]
  walks : DefOf K mg "_law_walks" (topS 35) ["bag", "town"]
  turns : DefOf K mg "_law_turns" (topS 36) ["bag", "town", "many", "far"]
  follows : DefOf K mg "_law_follows" (topS 37) ["town", "walks", "one", "other"]
  least : DefC K mg "_law_least" (topS 38) ["town", "walks", "turns"] cL
  kept : DefOf K mg "_law_kept" (topS 39) ["bag", "town", "walks", "many"]

/-! ### heaps -/
theorem same_upd {H : Hp} {p : Addr} {o : HO} (h : H p = none) : Same H (upd H p o) := fun b x e => by
  rw [upd_ne (ne_of_none e h)]
  exact e
theorem same_seqT {K : PySem.W.Frag} {H H' : Hp} {a : Addr} {xs : List V} (e : Same H H') (h : SqT K H a xs) : SqT K H' a xs := by
  rcases h with (h | ⟨o, h⟩) | h
  · exact .inl (.inl (e _ _ h))
  · exact .inl (.inr ⟨o, e _ _ h⟩)
  · exact .inr h
theorem same_tups {H H' : Hp} (e : Same H H') : ∀ a xs, H a = some (.tup xs) → H' a = some (.tup xs) := fun a xs h => e _ _ h

/-! ### comprehensions that change nothing -/
theorem fm_succ {f : Nat → Option V} (i : Nat) : (List.range (i + 1)).filterMap f = (List.range i).filterMap f ++ (f i).toList := by
  rw [List.range_succ, List.filterMap_append]
  cases h : f i with
  | none => simp [h]
  | some y => simp [h]
theorem fm_len {f : Nat → Option V} (i : Nat) : ((List.range i).filterMap f).length ≤ i := by
  have := List.length_filterMap_le f (List.range i)
  rwa [List.length_range] at this
/-- the new list at D holds what f gives so far, all that stood stands -/
structure Kp (H1 : Hp) (D : Addr) (f : Nat → Option V) (i : Nat) (H : Hp) : Prop where
  same : Same H1 H
  at_ : H D = some (.lst ((List.range i).filterMap f))
theorem Kp.add {H1 : Hp} {D : Addr} {f : Nat → Option V} {i : Nat} {H H4 : Hp} {y : V} (p : Kp H1 D f i H) (hD : H1 D = none) (hi : i < 1000) (e : f i = some y) (s : Same H H4) :
    ∃ acc, H4 D = some (.lst acc) ∧ acc.length < sizeLine ∧ Kp H1 D f (i + 1) (upd H4 D (.lst (acc ++ [y]))) := by
  refine ⟨_, s _ _ p.at_, small1000 (Nat.le_trans (fm_len i) (by omega)), fun b o q => ?_, ?_⟩
  · rw [upd_ne (ne_of_none q hD)]
    exact s _ _ (p.same _ _ q)
  · rw [upd_same, fm_succ, e]
    rfl
theorem Kp.skip {H1 : Hp} {D : Addr} {f : Nat → Option V} {i : Nat} {H H4 : Hp} (p : Kp H1 D f i H) (e : f i = none) (s : Same H H4) : Kp H1 D f (i + 1) H4 := by
  refine ⟨p.same.trans s, ?_⟩
  rw [fm_succ, e, s _ _ p.at_]
  simp
theorem lc_kp {J : It} {n : Nat} {G : Hp → Prop} {Y : Nat → Hp → V → Hp → Prop} (w : Walk J n G Y) {g : TG} {tt : TT} {te : TE} {vs : List Nat} {σ : L2.St} {H1 : Hp} {D : Addr} {Qd : Hp → Prop} (hD : H1 D = none) (f : Nat → Option V) (hG : ∀ H, Same H1 H → G H)
    (hs : ∀ i x H H', i < n → Kp H1 D f i H → Y i H x H' → g x (wipe σ vs) H' fun σ2 H2 => wipe σ2 vs = wipe σ vs ∧ tt σ2 H2 fun b H3 =>
      if b = true then te σ2 H3 fun y H4 => ∃ acc, H4 D = some (.lst acc) ∧ acc.length < sizeLine ∧ Kp H1 D f (i + 1) (upd H4 D (.lst (acc ++ [y]))) else Kp H1 D f (i + 1) H3) (hd : ∀ H, Kp H1 D f n H → Qd H) :
    ∃ W : Nat → Nat → Hp → Prop, (∃ m, W 0 m (upd H1 D (.lst []))) ∧ ∀ i m H, W i m H →
      (J.stop i H ∧ Qd H) ∨ (J.go i H ∧ ∃ Nx : Hp → Prop, (∀ H', Nx H' → ∃ m', m' < m ∧ W (i + 1) m' H') ∧ ∀ x H', J.yld i H x H' → g x (wipe σ vs) H' fun σ2 H2 => wipe σ2 vs = wipe σ vs ∧ tt σ2 H2 fun b H3 =>
        if b = true then te σ2 H3 fun y H4 => ∃ acc, H4 D = some (.lst acc) ∧ acc.length < sizeLine ∧ Nx (upd H4 D (.lst (acc ++ [y]))) else Nx H3) :=
  lc_it w (fun i H => Kp H1 D f i H) ⟨same_upd hD, upd_same⟩ (fun i H _ p => hG H p.same) hs hd
/-- all of f's -/
theorem fm_map {g : Nat → V} (n : Nat) : (List.range n).filterMap (fun i => some (g i)) = (List.range n).map g := by
  rw [← List.filterMap_eq_map]
  rfl
theorem fm_list {α : Type} {g : α → V} (l : List α) : (List.range l.length).filterMap (fun i => (l[i]?).map g) = l.map g := by
  induction l with
  | nil => rfl
  | cons a l ih =>
    rw [List.length_cons, List.range_succ_eq_map, List.filterMap_cons]
    simp only [List.getElem?_cons_zero, Option.map_some, List.map_cons]
    congr 1
    rw [List.filterMap_map]
    rw [← ih]
    rfl
/-- a target of two names -/
abbrev g2 (K : PySem.W.Frag) (i j : Nat) : TG := gTup K 2 (gCons (gName i) (gCons (gName j) gNil))
/-! ### isinstance -/
theorem isi_r {K : PySem.W.Frag} {x : V} {T a : String} {b : Bool} {H : Hp} {Q : VK} (ty : TyX K H x (.type a)) (k : kitB a T = some b) (q : Q (.bl b) H) : rIsi K [x, .ty T] H Q := ⟨x, _, _, _, b, rfl, .ty T, ty, kit_ty k, q⟩
theorem pe_isi {X : Cx} {T : String} {y : Str} {e : Expr} {te : TE} {p p2 pos : Pos} (hg : Gl X "isinstance") (hm : X.mg "isinstance" = none) (he : PE X e te) (hg2 : Gl X y) (hm2 : X.mg y = none) (hT : bootBuiltins y = some (.type T)) (hn : y ≠ "__name__") (hdb : (y == ("__debug__" : Str)) = false)
    (hst : starEach [e, .Name y p2] X.env = (false, eval e X.env) :: starEach [.Name y p2] X.env := by rfl) (hpl : (backTo pos (starEach [.Name y p2] X.env)).any (·.1) = false := by rfl) :
    PE X (.Call (.Name "isinstance" p) [e, .Name y p2] [] pos) (tCB (rIsi X.K) (tCons te (tCons (tC (.ty T)) tNil))) :=
  pe_callB (X := X) (pos := pos) (p := p) call_isi hg hm (by decide +kernel : bootBuiltins "isinstance" = some (.builtin "isinstance")) (pa_cons he (pa_cons (pe_bltn (pos := p2) (v := .ty T) hg2 hm2 hT rfl hn hdb) pa_nil) hst) (by decide +kernel) (by decide +kernel) hst hpl
theorem kit_ii : kitB "int" "int" = some true := by decide +kernel
theorem kit_ib : kitB "int" "bool" = some false := by decide +kernel
theorem kit_bb : kitB "bool" "bool" = some true := by decide +kernel
theorem kit_ss : kitB "str" "str" = some true := by decide +kernel
theorem kit_tt : kitB "tuple" "tuple" = some true := by decide +kernel
theorem kit_ll : kitB "list" "list" = some true := by decide +kernel
section
variable {X : Cx} {e : Expr} {te : TE} {p p2 pos : Pos}
theorem pe_isInt (hg : Gl X "isinstance") (hm : X.mg "isinstance" = none) (he : PE X e te) (hg2 : Gl X "int") (hm2 : X.mg "int" = none) (hst : starEach [e, .Name "int" p2] X.env = (false, eval e X.env) :: starEach [.Name "int" p2] X.env := by rfl) (hpl : (backTo pos (starEach [.Name "int" p2] X.env)).any (·.1) = false := by rfl) :
    PE X (.Call (.Name "isinstance" p) [e, .Name "int" p2] [] pos) (tCB (rIsi X.K) (tCons te (tCons (tC (.ty "int")) tNil))) := pe_isi hg hm he hg2 hm2 (by decide +kernel) (by decide +kernel) (by decide +kernel) hst hpl
theorem pe_isBool (hg : Gl X "isinstance") (hm : X.mg "isinstance" = none) (he : PE X e te) (hg2 : Gl X "bool") (hm2 : X.mg "bool" = none) (hst : starEach [e, .Name "bool" p2] X.env = (false, eval e X.env) :: starEach [.Name "bool" p2] X.env := by rfl) (hpl : (backTo pos (starEach [.Name "bool" p2] X.env)).any (·.1) = false := by rfl) :
    PE X (.Call (.Name "isinstance" p) [e, .Name "bool" p2] [] pos) (tCB (rIsi X.K) (tCons te (tCons (tC (.ty "bool")) tNil))) := pe_isi hg hm he hg2 hm2 (by decide +kernel) (by decide +kernel) (by decide +kernel) hst hpl
theorem pe_isStr (hg : Gl X "isinstance") (hm : X.mg "isinstance" = none) (he : PE X e te) (hg2 : Gl X "str") (hm2 : X.mg "str" = none) (hst : starEach [e, .Name "str" p2] X.env = (false, eval e X.env) :: starEach [.Name "str" p2] X.env := by rfl) (hpl : (backTo pos (starEach [.Name "str" p2] X.env)).any (·.1) = false := by rfl) :
    PE X (.Call (.Name "isinstance" p) [e, .Name "str" p2] [] pos) (tCB (rIsi X.K) (tCons te (tCons (tC (.ty "str")) tNil))) := pe_isi hg hm he hg2 hm2 (by decide +kernel) (by decide +kernel) (by decide +kernel) hst hpl
theorem pe_isTup (hg : Gl X "isinstance") (hm : X.mg "isinstance" = none) (he : PE X e te) (hg2 : Gl X "tuple") (hm2 : X.mg "tuple" = none) (hst : starEach [e, .Name "tuple" p2] X.env = (false, eval e X.env) :: starEach [.Name "tuple" p2] X.env := by rfl) (hpl : (backTo pos (starEach [.Name "tuple" p2] X.env)).any (·.1) = false := by rfl) :
    PE X (.Call (.Name "isinstance" p) [e, .Name "tuple" p2] [] pos) (tCB (rIsi X.K) (tCons te (tCons (tC (.ty "tuple")) tNil))) := pe_isi hg hm he hg2 hm2 (by decide +kernel) (by decide +kernel) (by decide +kernel) hst hpl
theorem pe_isList (hg : Gl X "isinstance") (hm : X.mg "isinstance" = none) (he : PE X e te) (hg2 : Gl X "list") (hm2 : X.mg "list" = none) (hst : starEach [e, .Name "list" p2] X.env = (false, eval e X.env) :: starEach [.Name "list" p2] X.env := by rfl) (hpl : (backTo pos (starEach [.Name "list" p2] X.env)).any (·.1) = false := by rfl) :
    PE X (.Call (.Name "isinstance" p) [e, .Name "list" p2] [] pos) (tCB (rIsi X.K) (tCons te (tCons (tC (.ty "list")) tNil))) := pe_isi hg hm he hg2 hm2 (by decide +kernel) (by decide +kernel) (by decide +kernel) hst hpl
end
/-! ### is_within -/
section
variable {P : Program} {w : World} {K : PySem.W.Frag} {mg : Str → Option Value} {base : Heap} {cL : Addr}
def spWithin : Sp := fun vs H Q _ => ∃ a l h : Int, vs = [.int a, .int l, .int h] ∧ Q (.bl (decide (l ≤ a) && decide (a ≤ h))) H
theorem scWithin : FnScope ["thing", "low", "high"] ["thing", "low", "high"] (defScope (topS 8)) := ⟨rfl, rfl, rfl, by decide +kernel, rfl, by decide +kernel, by decide +kernel⟩
theorem ok_within (T : Txt K mg cL) : FnOk P w K mg base CX0 1 T.is_within.f T.is_within.fd ["thing", "low", "high"] spWithin := by
  refine T.is_within.F.ok scWithin (fun vs H Q E h => ?_) (fun cdv A outer s H vs Q E hr h => ?_)
  · obtain ⟨a, l, h, rfl, _⟩ := h
    rfl
  · obtain ⟨a, l, h, rfl, q⟩ := h
    refine ⟨_, pss_one (ps_ret (pe_and (pe_isInt (by rfl) T.isi (pv 0) (by rfl) T.int) (pe_and (pe_not (pe_isBool (by rfl) T.isi (pv 0) (by rfl) T.bool)) (pe_one (pe_chain op_le op_le (pv 1) (pv 0) (pv 2)))))), ?_⟩
    refine ⟨_, rfl, _, _, _, _, _, rfl, .ty _, .base (.int a), kit_ty kit_ii, _, rfl, iteT ?_⟩
    refine ⟨_, rfl, _, _, _, _, _, rfl, .ty _, .base (.int a), kit_ty kit_ib, _, rfl, _, rfl, iteT ?_⟩
    refine ⟨_, rfl, _, rfl, _, _, rfl, rfl, _, rfl, ?_⟩
    cases e : decide (l ≤ a) with
    | true =>
      refine iteT ⟨_, rfl, _, _, rfl, rfl, ?_⟩
      rw [e, Bool.true_and] at q
      exact q
    | false =>
      refine iteF ?_
      rw [e, Bool.false_and] at q
      exact q
end
end LT
end
section
set_option Elab.async false
set_option linter.all false
set_option maxRecDepth 100000
set_option maxHeartbeats 4000000
/-! towns: is_name, rises, is_gate, is_town, look_at_town, names_of -/
namespace LT
open PySem PySem.Spec PyProof.Rows L2
/-- a name -/
structure NameOk (z : Str) : Prop where
  lo : 1 ≤ z.length
  hi : z.length ≤ 8
  lets : ∀ c ∈ z.cps.toList, c ∈ letters.cps.toList
structure Gate where
  n : Str
  o : Int
  s : Int
  m : Bool
structure GateOk (g : Gate) : Prop where
  name : NameOk g.n
  o0 : 0 ≤ g.o
  o1 : g.o ≤ 23
  s0 : 0 ≤ g.s
  s1 : g.s ≤ 23
def ltS (x y : Str) : Prop := x.cps.toList < y.cps.toList
structure TownOk (gs : List Gate) : Prop where
  lo : 1 ≤ gs.length
  hi : gs.length ≤ 8
  ok : ∀ g ∈ gs, GateOk g
  up : (gs.map Gate.n).Pairwise ltS
def GateAt (H : Hp) (v : V) (g : Gate) : Prop := ∃ r, v = .ref r ∧ H r = some (.tup [.str g.n, .int g.o, .int g.s, .bl g.m])
abbrev GatesAre (H : Hp) : List V → List Gate → Prop := Paired (GateAt H)
def TownAt (H : Hp) (a : Addr) (gs : List Gate) : Prop := ∃ xs, H a = some (.tup xs) ∧ GatesAre H xs gs
theorem GatesAre.keep {H H' : Hp} {xs : List V} {gs : List Gate} (k : ∀ a xs, H a = some (.tup xs) → H' a = some (.tup xs)) (h : GatesAre H xs gs) : GatesAre H' xs gs :=
  Paired.mapP h fun _ _ ⟨r, e, hr⟩ => ⟨r, e, k _ _ hr⟩
theorem TownAt.keep {H H' : Hp} {a : Addr} {gs : List Gate} (k : ∀ a xs, H a = some (.tup xs) → H' a = some (.tup xs)) (h : TownAt H a gs) : TownAt H' a gs :=
  let ⟨xs, e, r⟩ := h; ⟨xs, k _ _ e, r.keep k⟩
theorem paired_at {α β : Type} {G : α → β → Prop} : ∀ {l : List α} {m : List β} {i : Nat} {x : α}, Paired G l m → l[i]? = some x → ∃ y, m[i]? = some y ∧ G x y
  | _, _, _, _, .nil, h => by simp at h
  | _, _, 0, x, .cons r t, h => by
    simp only [List.getElem?_cons_zero, Option.some.injEq] at h
    subst h
    exact ⟨_, rfl, r⟩
  | _, _, i + 1, x, .cons r t, h => by
    simp only [List.getElem?_cons_succ] at h ⊢
    exact paired_at t h
theorem paired_at' {α β : Type} {G : α → β → Prop} : ∀ {l : List α} {m : List β} {i : Nat} {y : β}, Paired G l m → m[i]? = some y → ∃ x, l[i]? = some x ∧ G x y
  | _, _, _, _, .nil, h => by simp at h
  | _, _, 0, x, .cons r t, h => by
    simp only [List.getElem?_cons_zero, Option.some.injEq] at h
    subst h
    exact ⟨_, rfl, r⟩
  | _, _, i + 1, x, .cons r t, h => by
    simp only [List.getElem?_cons_succ] at h ⊢
    exact paired_at' t h
theorem line8 {n : Nat} (h : n ≤ 1000) : n ≤ sizeLine := Nat.le_of_lt (small1000 h)
section
variable {P : Program} {w : World} {K : PySem.W.Frag} {mg : Str → Option Value} {base : Heap} {cL : Addr}
/-! ### is_name -/
def spName : Sp := fun vs H Q _ => ∃ z : Str, vs = [.str z] ∧ NameOk z ∧ ∀ H', Same H H' → Q (.bl true) H'
theorem scName : FnScope ["thing", "sign"] ["thing"] (defScope (topS 9)) := ⟨rfl, rfl, rfl, by decide +kernel, rfl, by decide +kernel, by decide +kernel⟩
theorem ok_name (T : Txt K mg cL) : FnOk P w K mg base CX0 1 T.is_name.f T.is_name.fd ["thing"] spName := by
  obtain ⟨tl, hL⟩ := T.LETTERS
  refine T.is_name.F.ok scName (fun vs H Q E h => ?_) (fun cdv A outer s H vs Q E hr h => ?_)
  · obtain ⟨z, rfl, _⟩ := h
    rfl
  · obtain ⟨z, rfl, hz, q⟩ := h
    refine ⟨_, pss_one (ps_ret (pe_and (pe_isStr (by rfl) T.isi (pv 0) (by rfl) T.str) (pe_and (pe_chain op_le op_le pe_int (pe_callB call_len_str (by rfl) T.len PySem.boot_len (pa_cons (pv 0) pa_nil)) pe_int)
      (pe_one (pe_callB (cr_all rfl) (by rfl) T.all (by decide +kernel) (pa_cons (pe_lc (own := [("sign", 1)]) (g := gName 1) rfl scName.nd (pi_str (pv 0)) (blkOk_by (N := ["thing", "sign"]) (sc := defScope (topS 9)) (by decide +kernel)) (fun _ _ _ _ _ => pg_name (i := 1) scName.nd rfl (Or.inl rfl)) (fun _ _ _ _ _ => pts_nil)
        (fun _ _ _ _ _ => pe_cmpR op_in_sign (pv 1) (pe_glob (v := .str letters) (by rfl) hL ⟨tl, rfl⟩) (by rfl))) pa_nil)))))), ?_⟩
    refine ⟨_, rfl, _, _, _, _, _, rfl, .ty _, .base (.str z), kit_ty kit_ss, _, rfl, iteT ?_⟩
    refine ⟨_, rfl, z, rfl, Nat.le_trans hz.hi (line8 (by decide)), _, _, rfl, rfl, _, rfl, ?_⟩
    rw [decide_eq_true (show (1 : Int) ≤ z.length by have := hz.lo; omega)]
    refine iteT ⟨_, _, rfl, rfl, _, rfl, ?_⟩
    rw [decide_eq_true (show (z.length : Int) ≤ 8 by have := hz.hi; omega)]
    refine iteT ?_
    refine ⟨_, rfl, z, rfl, fun D hD => lc_kp walk_str hD (fun i => (z.cps[i]?).map fun _ => V.bl true) (fun H s => trivial) (fun i x H1 H2 hi p y => ?_) fun H1 p => ?_⟩
    · obtain ⟨rfl, c, hc, rfl⟩ := y
      refine ⟨rfl, _, rfl, c, letters, rfl, rfl, ?_⟩
      have hm : c ∈ z.cps.toList := by
        rw [← Array.getElem?_toList] at hc
        exact List.mem_of_getElem? hc
      refine p.add hD (by have := hz.hi; have e : z.length = z.cps.size := rfl; omega) ?_ (Same.refl _)
      rw [hc, decide_eq_true (hz.lets c hm)]
      rfl
    · have e : (List.range z.cps.size).filterMap (fun i => (z.cps[i]?).map fun _ => V.bl true) = (List.replicate z.cps.size true).map V.bl := by
        have h1 := fm_list (g := fun _ => V.bl true) z.cps.toList
        rw [Array.length_toList] at h1
        simp only [Array.getElem?_toList] at h1
        rw [h1, List.map_const', List.map_replicate, Array.length_toList]
      have h2 := p.at_
      rw [e] at h2
      refine ⟨D, List.replicate z.cps.size true, rfl, .inl (.inl h2), ?_⟩
      rw [show (List.replicate z.cps.size true).all id = true by simp]
      exact q _ p.same
/-! ### rises -/
def spRises (K : PySem.W.Frag) : Sp := fun vs H Q _ => ∃ (a : Addr) (zs : List Str), vs = [.ref a] ∧ SqL K H a (zs.map V.str) ∧ zs.length ≤ 900 ∧ zs.Pairwise ltS ∧ ∀ H', Same H H' → Q (.bl true) H'
theorem scRises : FnScope ["some", "one", "other"] ["some"] (defScope (topS 10)) := ⟨rfl, rfl, rfl, by decide +kernel, rfl, by decide +kernel, by decide +kernel⟩
theorem cut1 (xs : List V) : cutV xs (some 1) none = xs.drop 1 := by
  unfold cutV
  rw [show HT.sIx xs.length 0 (some 1) = min 1 xs.length from HT.sIx_nat xs.length 0 1, HT.sIx_none]
  cases xs with
  | nil => rfl
  | cons x r =>
    rw [show min 1 (x :: r).length = 1 by
      rw [List.length_cons]
      omega]
    show (List.take ((x :: r).length - 1) r) = r
    rw [List.length_cons, Nat.add_sub_cancel]
    exact List.take_length
theorem ok_rises (T : Txt K mg cL) : FnOk P w K mg base CX0 1 T.rises.f T.rises.fd ["some"] (spRises K) := by
  refine T.rises.F.ok scRises (fun vs H Q E h => ?_) (fun cdv A outer s H vs Q E hr h => ?_)
  · obtain ⟨a, zs, rfl, _⟩ := h
    rfl
  · obtain ⟨a, zs, rfl, hS, hlen, hup, q⟩ := h
    refine ⟨_, pss_one (ps_ret (pe_callB (cr_all rfl) (by rfl) T.all (by decide +kernel) (pa_cons (pe_lc (own := [("one", 1), ("other", 2)]) (g := g2 K 1 2) rfl scRises.nd
      (pi_zip (by rfl) T.zip (pa_cons (pv 0) (pa_cons (pe_slice sl_list (pv 0) (po_some pe_int) po_none) pa_nil))) (blkOk_by (N := ["some", "one", "other"]) (sc := defScope (topS 10)) (by decide +kernel))
      (fun _ _ _ _ _ => pg_tup rfl (pgs_cons (pg_name (i := 1) scRises.nd rfl (Or.inl rfl)) (pgs_cons (pg_name (i := 2) scRises.nd rfl (Or.inl rfl)) pgs_nil))) (fun _ _ _ _ _ => pts_nil)
      (fun _ _ _ _ _ => pe_cmpR op_lt_str (pv 1) (pv 2) (nomark _))) pa_nil))), ?_⟩
    refine ⟨_, rfl, _, rfl, 1, rfl, a, zs.map V.str, rfl, hS, fun c nc => ?_⟩
    have s1 : Same H (upd H c (.lst (cutV (zs.map V.str) (some 1) none))) := same_upd nc
    have eC : upd H c (.lst (cutV (zs.map V.str) (some 1) none)) c = some (.lst ((zs.drop 1).map V.str)) := by rw [upd_same, cut1, List.map_drop]
    refine ⟨a, c, zs.map V.str, (zs.drop 1).map V.str, rfl, s1.seq hS, .inl (.inl eC), fun D hD => lc_kp (walk_zip (xs := zs.map V.str) (ys := (zs.drop 1).map V.str) (n := zs.length - 1) (by rw [List.length_map, List.length_map, List.length_drop]; omega)) hD
      (fun i => some (V.bl true)) (fun H1 s => ⟨s.seq (s1.seq hS), .inl (.inl (s _ _ eC))⟩) (fun i x H1 H2 hi p y => ?_) fun H1 p => ?_⟩
    · obtain ⟨t, x1, x2, rfl, nt, rfl, f1, f2⟩ := y
      have h1 : i < zs.length := by omega
      have h2 : i + 1 < zs.length := by omega
      have f1 : (zs.map V.str)[i]? = some x1 := f1
      have f2 : ((zs.drop 1).map V.str)[i]? = some x2 := f2
      rw [List.getElem?_map, List.getElem?_eq_getElem h1] at f1
      rw [List.getElem?_map, List.getElem?_drop, Nat.add_comm 1 i, List.getElem?_eq_getElem h2] at f2
      cases f1
      cases f2
      have hlt : ltS zs[i] zs[i + 1] := List.pairwise_iff_getElem.mp hup i (i + 1) h1 h2 (Nat.lt_succ_self i)
      refine ⟨t, [.str zs[i], .str zs[i + 1]], rfl, .inl (.inl upd_same), rfl, _, _, rfl, _, _, rfl, rfl, rfl, ?_⟩
      refine ⟨_, rfl, _, rfl, _, _, rfl, rfl, ?_⟩
      refine p.add hD (by omega) ?_ (same_upd nt)
      rw [decide_eq_true (show zs[i].cps.toList < zs[i + 1].cps.toList from hlt)]
    · have h2 := p.at_
      rw [fm_map] at h2
      refine ⟨D, List.replicate (zs.length - 1) true, rfl, .inl (.inl ?_), ?_⟩
      · rw [h2, List.map_const', List.length_range, List.map_replicate]
      · rw [show (List.replicate (zs.length - 1) true).all id = true by simp]
        exact q _ (s1.trans p.same)
/-! ### is_gate -/
def spGate : Sp := fun vs H Q _ => ∃ (v : V) (g : Gate), vs = [v] ∧ GateAt H v g ∧ GateOk g ∧ ∀ H', Same H H' → Q (.bl true) H'
theorem scGate : FnScope ["thing"] ["thing"] (defScope (topS 11)) := ⟨rfl, rfl, rfl, by decide +kernel, rfl, by decide +kernel, by decide +kernel⟩
theorem ok_gate (T : Txt K mg cL) : FnOk P w K mg base CX0 2 T.is_gate.f T.is_gate.fd ["thing"] spGate := by
  obtain ⟨td, hD⟩ := T.DAY
  refine T.is_gate.F.ok scGate (fun vs H Q E h => ?_) (fun cdv A outer s H vs Q E hr h => ?_)
  · obtain ⟨v, g, rfl, _⟩ := h
    rfl
  · obtain ⟨v, g, rfl, ⟨r, rfl, hg⟩, ok, q⟩ := h
    have dB := ok_within (P := P) (w := w) (base := base) T
    have dN := ok_name (P := P) (w := w) (base := base) T
    refine ⟨_, pss_cons (ps_if (PW.pt (pw_or (pt_not (pt_val (pe_isTup (by rfl) T.isi (pv 0) (by rfl) T.tuple))) (pw_or (pt_cmpR op_ne (pe_callB call_len_seq (by rfl) T.len PySem.boot_len (pa_cons (pv 0) pa_nil)) pe_int (nomark _))
        (pw_or (pt_not (pt_val (pe_call dN hr (by rfl) T.is_name.g T.is_name.F.kp T.is_name.b .nil pass0 (pa_cons (pe_ix ix_tup (pv 0) pe_int (fun _ _ => rfl)) pa_nil)))) (pw_or1 (pt_not (pt_val (pe_isBool (by rfl) T.isi (pe_ix ix_tup (pv 0) pe_int (fun _ _ => rfl)) (by rfl) T.bool)))))))) (pss_one (ps_ret pe_bl)) pss_nil)
      (pss_one (ps_ret (pe_and (pe_call dB hr (by rfl) T.is_within.g T.is_within.F.kp T.is_within.b .nil pass0 (pa_cons (pe_ix ix_tup (pv 0) pe_int (fun _ _ => rfl)) (pa_cons pe_int (pa_cons (pe_op op_sub (pe_glob (v := .int 24) (by rfl) hD ⟨td, rfl⟩) pe_int) pa_nil))))
        (pe_one (pe_call dB hr (by rfl) T.is_within.g T.is_within.F.kp T.is_within.b .nil pass0 (pa_cons (pe_ix ix_tup (pv 0) pe_int (fun _ _ => rfl)) (pa_cons pe_int (pa_cons (pe_op op_sub (pe_glob (v := .int 24) (by rfl) hD ⟨td, rfl⟩) pe_int) pa_nil)))))))), ?_⟩
    have hT : SqT K H r [.str g.n, .int g.o, .int g.s, .bl g.m] := .inl (.inl hg)
    refine ⟨_, rfl, _, _, _, _, _, rfl, .ty _, .base (.tup hg), kit_ty kit_tt, _, rfl, iteF ?_⟩
    refine ⟨_, rfl, r, _, rfl, .inr hT, rfl, _, rfl, iteF ?_⟩
    refine ⟨_, rfl, r, _, 0, _, rfl, rfl, hT, atI_nat (j := 0) rfl, g.n, rfl, ok.name, fun H1 s1 => ?_⟩
    have hT1 : SqT K H1 r [.str g.n, .int g.o, .int g.s, .bl g.m] := .inl (.inl (s1 _ _ hg))
    refine ⟨_, rfl, iteF ?_⟩
    refine ⟨_, rfl, r, _, 3, _, rfl, rfl, hT1, atI_nat (j := 3) rfl, _, _, _, _, _, rfl, .ty _, .base (.bl g.m), kit_ty kit_bb, _, rfl, iteF ?_⟩
    refine ⟨_, rfl, r, _, 1, _, rfl, rfl, hT1, atI_nat (j := 1) rfl, _, _, rfl, rfl, g.o, 0, 23, rfl, ?_⟩
    rw [decide_eq_true ok.o0, decide_eq_true ok.o1]
    refine ⟨_, rfl, iteT ?_⟩
    refine ⟨_, rfl, r, _, 2, _, rfl, rfl, hT1, atI_nat (j := 2) rfl, _, _, rfl, rfl, g.s, 0, 23, rfl, ?_⟩
    rw [decide_eq_true ok.s0, decide_eq_true ok.s1]
    exact q _ s1
/-! ### names_of -/
def spNames (K : PySem.W.Frag) : Sp := fun vs H Q _ => ∃ (a : Addr) (gs : List Gate), vs = [.ref a] ∧ TownAt H a gs ∧ gs.length ≤ 900 ∧ ∀ H' p, Same H H' → H p = none → H' p = some (.lst ((gs.map Gate.n).map V.str)) → Q (.ref p) H'
theorem scNames : FnScope ["town", "gate"] ["town"] (defScope (topS 14)) := ⟨rfl, rfl, rfl, by decide +kernel, rfl, by decide +kernel, by decide +kernel⟩
theorem ok_names (T : Txt K mg cL) : FnOk P w K mg base CX0 1 T.names_of.f T.names_of.fd ["town"] (spNames K) := by
  refine T.names_of.F.ok scNames (fun vs H Q E h => ?_) (fun cdv A outer s H vs Q E hr h => ?_)
  · obtain ⟨a, gs, rfl, _⟩ := h
    rfl
  · obtain ⟨a, gs, rfl, ⟨xs, ha, hg⟩, hlen, q⟩ := h
    refine ⟨_, pss_one (ps_ret (pe_lc (own := [("gate", 1)]) (g := gName 1) (te := tOp (rIxT K) (tVar 1) (tC (.int 0))) rfl scNames.nd (pi_tup (pv 0)) (blkOk_by (N := ["town", "gate"]) (sc := defScope (topS 14)) (by decide +kernel)) (fun _ _ _ _ _ => pg_name (i := 1) scNames.nd rfl (Or.inl rfl)) (fun _ _ _ _ _ => pts_nil)
      (fun _ _ _ _ _ => pe_ix ix_tup (pv 1) pe_int (fun _ _ => rfl)))), ?_⟩
    have hT : SqT K H a xs := .inl (.inl ha)
    have hl := paired_len hg
    refine ⟨_, rfl, a, rfl, ⟨_, hT⟩, fun D hD => lc_kp (walk_tup (xs := xs)) hD (fun i => ((gs.map Gate.n)[i]?).map V.str) (fun H1 s => same_seqT s hT) (fun i x H1 H2 hi p y => ?_) fun H1 p => ?_⟩
    · obtain ⟨rfl, hx⟩ := y
      obtain ⟨g, eg, r, rfl, hr1⟩ := paired_at hg hx
      refine ⟨rfl, _, rfl, r, _, 0, _, rfl, rfl, .inl (.inl (p.same _ _ hr1)), atI_nat (j := 0) rfl, ?_⟩
      refine p.add hD (by omega) ?_ (Same.refl _)
      rw [List.getElem?_map, eg]
      rfl
    · have h2 := p.at_
      have e := fm_list (g := V.str) (gs.map Gate.n)
      rw [List.length_map, ← hl] at e
      rw [e] at h2
      exact q _ _ p.same hD h2
/-! ### is_town, look_at_town -/
def spTown : Sp := fun vs H Q _ => ∃ (a : Addr) (gs : List Gate), vs = [.ref a] ∧ TownAt H a gs ∧ TownOk gs ∧ ∀ H', Same H H' → Q (.bl true) H'
theorem scTown : FnScope ["thing", "part"] ["thing"] (defScope (topS 12)) := ⟨rfl, rfl, rfl, by decide +kernel, rfl, by decide +kernel, by decide +kernel⟩
theorem ok_town (T : Txt K mg cL) : FnOk P w K mg base CX0 3 T.is_town.f T.is_town.fd ["thing"] spTown := by
  refine T.is_town.F.ok scTown (fun vs H Q E h => ?_) (fun cdv A outer s H vs Q E hr h => ?_)
  · obtain ⟨a, gs, rfl, _⟩ := h
    rfl
  · obtain ⟨a, gs, rfl, ⟨xs, ha, hg⟩, ok, q⟩ := h
    have dG := ok_gate (P := P) (w := w) (base := base) T
    have dR := ok_rises (P := P) (w := w) (base := base) T
    refine ⟨_, pss_cons (ps_if (PW.pt (pw_or (pt_not (pt_val (pe_isTup (by rfl) T.isi (pv 0) (by rfl) T.tuple))) (pw_or (pt_not (pt_chain op_le op_le pe_int (pe_callB call_len_seq (by rfl) T.len PySem.boot_len (pa_cons (pv 0) pa_nil)) pe_int))
        (pw_or1 (pt_not (pt_val (pe_callB (cr_all rfl) (by rfl) T.all (by decide +kernel) (pa_cons (pe_lc (own := [("part", 1)]) (g := gName 1) rfl scTown.nd (pi_tup (pv 0)) (blkOk_by (N := ["thing", "part"]) (sc := defScope (topS 12)) (by decide +kernel))
          (fun _ _ _ _ _ => pg_name (i := 1) scTown.nd rfl (Or.inl rfl)) (fun _ _ _ _ _ => pts_nil) (fun _ _ _ _ _ => pe_call dG hr (by rfl) T.is_gate.g T.is_gate.F.kp T.is_gate.b .nil pass0 (pa_cons (pv 1) pa_nil))) pa_nil)))))))) (pss_one (ps_ret pe_bl)) pss_nil)
      (pss_one (ps_ret (pe_call dR (hr.mono (by decide)) (by rfl) T.rises.g T.rises.F.kp T.rises.b .nil pass0 (pa_cons (pe_lc (own := [("part", 1)]) (g := gName 1) (te := tOp (rIxT K) (tVar 1) (tC (.int 0))) rfl scTown.nd (pi_tup (pv 0)) (blkOk_by (N := ["thing", "part"]) (sc := defScope (topS 12)) (by decide +kernel))
          (fun _ _ _ _ _ => pg_name (i := 1) scTown.nd rfl (Or.inl rfl)) (fun _ _ _ _ _ => pts_nil) (fun _ _ _ _ _ => pe_ix ix_tup (pv 1) pe_int (fun _ _ => rfl))) pa_nil)))), ?_⟩
    have hT : SqT K H a xs := .inl (.inl ha)
    have hl := paired_len hg
    have h1 := ok.lo
    have h8 := ok.hi
    refine ⟨_, rfl, _, _, _, _, _, rfl, .ty _, .base (.tup ha), kit_ty kit_tt, _, rfl, iteF ?_⟩
    refine ⟨_, rfl, a, _, rfl, .inr hT, _, _, rfl, rfl, _, rfl, ?_⟩
    rw [decide_eq_true (show (1 : Int) ≤ xs.length by omega)]
    refine iteT ⟨_, _, rfl, rfl, _, rfl, ?_⟩
    rw [decide_eq_true (show (xs.length : Int) ≤ 8 by omega)]
    refine iteF ?_
    refine ⟨_, rfl, a, rfl, ⟨_, hT⟩, fun D hD => lc_kp (walk_tup (xs := xs)) hD (fun i => some (V.bl true)) (fun H1 s => same_seqT s hT) (fun i x H1 H2 hi p y => ?_) fun H1 p => ?_⟩
    · obtain ⟨rfl, hx⟩ := y
      obtain ⟨g, eg, r, rfl, hr1⟩ := paired_at hg hx
      refine ⟨rfl, _, rfl, _, g, rfl, ⟨r, rfl, p.same _ _ hr1⟩, ok.ok g (List.mem_of_getElem? eg), fun H3 s3 => ?_⟩
      exact p.add hD (by omega) rfl s3
    · have h2 := p.at_
      rw [fm_map] at h2
      refine ⟨D, List.replicate xs.length true, rfl, .inl (.inl (by rw [h2, List.map_const', List.length_range, List.map_replicate])), ?_⟩
      rw [show (List.replicate xs.length true).all id = true by simp]
      refine ⟨_, rfl, iteF ?_⟩
      have hT1 : SqT K H1 a xs := same_seqT p.same hT
      refine ⟨_, rfl, a, rfl, ⟨_, hT1⟩, fun D2 hD2 => lc_kp (walk_tup (xs := xs)) hD2 (fun i => ((gs.map Gate.n)[i]?).map V.str) (fun H2 s => same_seqT s hT1) (fun i x H3 H4 hi p2 y => ?_) fun H2 p2 => ?_⟩
      · obtain ⟨rfl, hx⟩ := y
        obtain ⟨g, eg, r, rfl, hr1⟩ := paired_at hg hx
        refine ⟨rfl, _, rfl, r, _, 0, _, rfl, rfl, .inl (.inl (p2.same _ _ (p.same _ _ hr1))), atI_nat (j := 0) rfl, ?_⟩
        refine p2.add hD2 (by omega) ?_ (Same.refl _)
        rw [List.getElem?_map, eg]
        rfl
      · have h3 := p2.at_
        have e := fm_list (g := V.str) (gs.map Gate.n)
        rw [List.length_map, ← hl] at e
        rw [e] at h3
        refine ⟨D2, gs.map Gate.n, rfl, .inl (.inl h3), by rw [List.length_map]; omega, ok.up, fun H5 s5 => ?_⟩
        exact q _ ((p.same.trans p2.same).trans s5)
def spLook : Sp := fun vs H Q _ => ∃ (a : Addr) (gs : List Gate), vs = [.ref a] ∧ TownAt H a gs ∧ TownOk gs ∧ ∀ H', Same H H' → Q .non H'
theorem scLook : FnScope ["town"] ["town"] (defScope (topS 13)) := ⟨rfl, rfl, rfl, by decide +kernel, rfl, by decide +kernel, by decide +kernel⟩
theorem ok_look (T : Txt K mg cL) : FnOk P w K mg base CX0 4 T.look_at_town.f T.look_at_town.fd ["town"] spLook := by
  refine T.look_at_town.F.ok scLook (fun vs H Q E h => ?_) (fun cdv A outer s H vs Q E hr h => ?_)
  · obtain ⟨a, gs, rfl, _⟩ := h
    rfl
  · obtain ⟨a, gs, rfl, ht, ok, q⟩ := h
    have dT := ok_town (P := P) (w := w) (base := base) T
    refine ⟨_, pss_one (ps_if (pt_not (pt_val (pe_call dT hr (by rfl) T.is_town.g T.is_town.F.kp T.is_town.b .nil pass0 (pa_cons (pv 0) pa_nil)))) pss_never pss_nil), ?_⟩
    exact ⟨_, rfl, a, gs, rfl, ht, ok, fun H1 s1 => ⟨_, rfl, iteF (q _ s1)⟩⟩
end
end LT
end
section
set_option Elab.async false
set_option linter.all false
set_option maxRecDepth 100000
set_option maxHeartbeats 4000000
/-! are_walks, is_turn, look_at_turns, can_follow -/
namespace LT
open PySem PySem.Spec PyProof.Rows L2
def rowV (n : Nat) (w : Nat → Nat → Int) (i : Nat) : List V := (List.range n).map fun j => V.int (w i j)
def WalksAt (H : Hp) (a : Addr) (n : Nat) (w : Nat → Nat → Int) : Prop := ∃ xs : List V, H a = some (.tup xs) ∧ xs.length = n ∧ ∀ i, i < n → ∃ r, xs[i]? = some (.ref r) ∧ H r = some (.tup (rowV n w i))
theorem WalksAt.keep {H H' : Hp} {a : Addr} {n : Nat} {w : Nat → Nat → Int} (k : ∀ a xs, H a = some (.tup xs) → H' a = some (.tup xs)) (h : WalksAt H a n w) : WalksAt H' a n w := by
  obtain ⟨xs, e, l, q⟩ := h
  exact ⟨xs, k _ _ e, l, fun i hi => let ⟨r, e1, e2⟩ := q i hi; ⟨r, e1, k _ _ e2⟩⟩
structure WalksOk (n : Nat) (w : Nat → Nat → Int) : Prop where
  lo : ∀ i j, i < n → j < n → 0 ≤ w i j
  hi : ∀ i j, i < n → j < n → w i j ≤ 1000
  sym : ∀ i j, i < n → j < n → w i j = w j i
  zero : ∀ i, i < n → w i i = 0
  tri : ∀ i j k, i < n → j < n → k < n → w i j ≤ w i k + w k j
theorem rowV_at {n : Nat} {w : Nat → Nat → Int} {i j : Nat} (h : j < n) : (rowV n w i)[j]? = some (.int (w i j)) := by
  unfold rowV
  rw [List.getElem?_map, List.getElem?_range h]
  rfl
theorem rowV_len {n : Nat} {w : Nat → Nat → Int} {i : Nat} : (rowV n w i).length = n := by
  unfold rowV
  rw [List.length_map, List.length_range]
theorem at0 {xs : List V} {i : Nat} {v : V} (h : xs[i]? = some v) : atI xs (0 + (i : Int)) = some v := L2.at_of (by omega) h
/-- a round of a town -/
structure TrnOk (gs : List Gate) (t : Trn) : Prop where
  name : t.n ∈ gs.map Gate.n
  lo : 0 ≤ t.b
  hi : t.b ≤ 1000000
  lt : t.b + 1 ≤ t.e
  end_ : t.e ≤ 1000000
def TurnsAt (H : Hp) (a : Addr) (ts : List Trn) : Prop := ∃ xs, H a = some (.lst xs) ∧ TurnsAre H xs ts
/-- a gate's place by its name -/
def ixOf (gs : List Gate) (z : Str) : Nat := (gs.map Gate.n).idxOf z
/-- a round follows another one -/
def Fl (gs : List Gate) (w : Nat → Nat → Int) (t u : Trn) : Prop := t.e + w (ixOf gs t.n) (ixOf gs u.n) ≤ u.b
instance (gs : List Gate) (w : Nat → Nat → Int) (t u : Trn) : Decidable (Fl gs w t u) := inferInstanceAs (Decidable (_ ≤ _))
theorem ixOf_lt {gs : List Gate} {z : Str} (h : z ∈ gs.map Gate.n) : ixOf gs z < gs.length := by
  have := List.idxOf_lt_length_iff.mpr h
  rwa [List.length_map] at this
theorem ix_reads {zs : List Str} {z : Str} (h : z ∈ zs) : (zs.map V.str)[zs.idxOf z]? = some (.str z) ∧ ∀ (m : Nat) (z' : V), m < zs.idxOf z → (zs.map V.str)[m]? = some z' → eqV z' (.str z) = false := by
  have hlt := List.idxOf_lt_length_iff.mpr h
  refine ⟨?_, fun m z' hm e => ?_⟩
  · rw [List.getElem?_map, List.getElem?_eq_getElem hlt, List.getElem_idxOf]
    rfl
  · have hm2 : m < zs.length := by omega
    rw [List.getElem?_map, List.getElem?_eq_getElem hm2] at e
    cases e
    show (zs[m] == z) = false
    have := List.not_of_lt_findIdx (p := (· == z)) (xs := zs) (i := m) hm
    simpa using this
theorem flat_strs (zs : List Str) : (zs.map V.str).all flatV = true := by
  rw [List.all_map]
  exact List.all_eq_true.mpr fun _ _ => rfl
theorem in_strs {zs : List Str} {z : Str} (h : z ∈ zs) : inV (.str z) (zs.map V.str) = true := by
  unfold inV
  rw [List.any_map]
  refine List.any_eq_true.mpr ⟨z, h, ?_⟩
  show (z == z) = true
  exact beq_self_eq_true z
section
variable {P : Program} {w : World} {K : PySem.W.Frag} {mg : Str → Option Value} {base : Heap} {cL : Addr}
/-! ### are_walks -/
def spAreWalks : Sp := fun vs H Q _ => ∃ (a b : Addr) (gs : List Gate) (d : Nat → Nat → Int), vs = [.ref a, .ref b] ∧ TownAt H a gs ∧ gs.length ≤ 8 ∧ WalksAt H b gs.length d ∧ WalksOk gs.length d ∧ ∀ H', Same H H' → Q (.bl true) H'
theorem scAreWalks : FnScope ["town", "thing", "many", "row", "one", "other", "by"] ["town", "thing"] (defScope (topS 19)) := ⟨rfl, rfl, rfl, by decide +kernel, rfl, by decide +kernel, by decide +kernel⟩
theorem ok_areWalks (T : Txt K mg cL) : FnOk P w K mg base CX0 2 T.are_walks.f T.are_walks.fd ["town", "thing"] spAreWalks := by
  obtain ⟨tw, hW⟩ := T.MOST_WALK
  refine T.are_walks.F.ok scAreWalks (fun vs H Q E h => ?_) (fun cdv A outer s H vs Q E hr h => ?_)
  · obtain ⟨a, b, gs, d, rfl, _⟩ := h
    rfl
  · obtain ⟨a, b, gs, d, rfl, ⟨tx, ha, hg⟩, h8, ⟨xs, hb, hlx, hrow⟩, ok, q⟩ := h
    have dB := ok_within (P := P) (w := w) (base := base) T
    have nd := scAreWalks.nd
    refine ⟨_, pss_cons (ps_set (i := 2) nd rfl (.inl rfl) (pe_callB call_len_seq (by rfl) T.len PySem.boot_len (pa_cons (pv 0) pa_nil)))
      (pss_cons (ps_if (PW.pt (pw_or (pt_not (pt_val (pe_isTup (by rfl) T.isi (pv 1) (by rfl) T.tuple))) (pw_or1 (pt_cmpR op_ne (pe_callB call_len_seq (by rfl) T.len PySem.boot_len (pa_cons (pv 1) pa_nil)) (pv 2) (nomark _))))) (pss_one (ps_ret pe_bl)) pss_nil)
      (pss_cons (ps_for PassesOwn.never rfl (pi_tup (pv 1)) (pg_name (i := 3) nd rfl (.inl rfl)) (pss_one (ps_if (PW.pt (pw_or (pt_not (pt_val (pe_isTup (by rfl) T.isi (pv 3) (by rfl) T.tuple)))
        (pw_or (pt_cmpR op_ne (pe_callB call_len_seq (by rfl) T.len PySem.boot_len (pa_cons (pv 3) pa_nil)) (pv 2) (nomark _))
        (pw_or1 (pt_not (pt_val (pe_callB (cr_all rfl) (by rfl) T.all (by decide +kernel) (pa_cons (pe_lc (own := [("one", 4)]) (g := gName 4) rfl nd (pi_tup (pv 3)) (blkOk_by (N := ["town", "thing", "many", "row", "one", "other", "by"]) (sc := defScope (topS 19)) (by decide +kernel))
          (fun _ _ _ _ _ => pg_name (i := 4) nd rfl (Or.inl rfl)) (fun _ _ _ _ _ => pts_nil) (fun _ _ _ _ _ => pe_call dB hr (by rfl) T.is_within.g T.is_within.F.kp T.is_within.b .nil pass0 (pa_cons (pv 4) (pa_cons pe_int (pa_cons (pe_glob (v := .int 1000) (by rfl) hW ⟨tw, rfl⟩) pa_nil))))) pa_nil)))))))) (pss_one (ps_ret pe_bl)) pss_nil)))
      (pss_cons (ps_for PassesOwn.never rfl (pi_range1 (by rfl) T.range (pa_cons (pv 2) pa_nil)) (pg_name (i := 4) nd rfl (.inr rfl)) (pss_one (ps_for PassesOwn.never rfl (pi_range1 (by rfl) T.range (pa_cons (pv 2) pa_nil)) (pg_name (i := 5) nd rfl (.inr rfl))
        (pss_cons (ps_if (PW.pt (pw_or (pt_cmpR op_ne (pe_ix ix_tup (pe_ix ix_tup (pv 1) (pv 4) (fun _ _ => rfl)) (pv 5) (fun _ _ => rfl)) (pe_ix ix_tup (pe_ix ix_tup (pv 1) (pv 5) (fun _ _ => rfl)) (pv 4) (fun _ _ => rfl)) (nomark _))
            (pw_or1 (PW.pt (pw_and (pt_cmpR op_eq (pv 4) (pv 5) (nomark _)) (pw_and1 (pt_cmpR op_ne (pe_ix ix_tup (pe_ix ix_tup (pv 1) (pv 4) (fun _ _ => rfl)) (pv 5) (fun _ _ => rfl)) pe_int (nomark _)))))))) (pss_one (ps_ret pe_bl)) pss_nil)
        (pss_one (ps_if (pt_val (pe_callB (cr_any rfl) (by rfl) T.any (by decide +kernel) (pa_cons (pe_lc (own := [("by", 6)]) (g := gName 6) (te := tOp (rI0 fun i j => .bl (decide (i < j))) (tOp (rI0 fun i j => .int (i + j)) (tOp (rIxT K) (tOp (rIxT K) (tVar 1) (tVar 4)) (tVar 6)) (tOp (rIxT K) (tOp (rIxT K) (tVar 1) (tVar 6)) (tVar 5))) (tOp (rIxT K) (tOp (rIxT K) (tVar 1) (tVar 4)) (tVar 5))) rfl nd
            (pi_range1 (by rfl) T.range (pa_cons (pv 2) pa_nil)) (blkOk_by (N := ["town", "thing", "many", "row", "one", "other", "by"]) (sc := defScope (topS 19)) (by decide +kernel)) (fun _ _ _ _ _ => pg_name (i := 6) nd rfl (Or.inl rfl)) (fun _ _ _ _ _ => pts_nil)
            (fun _ _ _ _ _ => pe_cmpR op_lt (pe_op op_add (pe_ix ix_tup (pe_ix ix_tup (pv 1) (pv 4) (fun _ _ => rfl)) (pv 6) (fun _ _ => rfl)) (pe_ix ix_tup (pe_ix ix_tup (pv 1) (pv 6) (fun _ _ => rfl)) (pv 5) (fun _ _ => rfl))) (pe_ix ix_tup (pe_ix ix_tup (pv 1) (pv 4) (fun _ _ => rfl)) (pv 5) (fun _ _ => rfl)) (nomark _))) pa_nil))) (pss_one (ps_ret pe_bl)) pss_nil))))))
      (pss_one (ps_ret pe_bl))))), ?_⟩
    have hT : SqT K H a tx := .inl (.inl ha)
    have hX : SqT K H b xs := .inl (.inl hb)
    have hlt := paired_len hg
    refine ⟨_, rfl, a, _, rfl, .inr hT, ?_⟩
    refine ⟨_, rfl, _, _, _, _, _, rfl, .ty _, .base (.tup hb), kit_ty kit_tt, _, rfl, iteF ?_⟩
    refine ⟨_, rfl, b, _, rfl, .inr hX, _, rfl, rfl, _, rfl, iteNS (by rw [hlx, hlt]) ?_⟩
    -- each row
    refine ⟨_, rfl, b, rfl, ⟨_, hX⟩, for_it (walk_tup (xs := xs)) (fun i σ H1 => ∃ x3, σ = [some (.ref a), some (.ref b), some (.int tx.length), x3, none, none, none] ∧ Same H H1) ⟨none, rfl, Same.refl H⟩ (fun i σ H1 _ ⟨_, _, s⟩ => same_seqT s hX) ?_ ?_⟩
    · rintro i x σ H0 H1 hi ⟨x3, rfl, s1⟩ ⟨rfl, hx⟩
      obtain ⟨r, er, hr1⟩ := hrow i (by omega)
      rw [er] at hx
      cases hx
      have hR : SqT K H1 r (rowV gs.length d i) := .inl (.inl (s1 _ _ hr1))
      refine ⟨_, rfl, _, _, _, _, _, rfl, .ty _, .base (.tup (s1 _ _ hr1)), kit_ty kit_tt, _, rfl, iteF ?_⟩
      refine ⟨_, rfl, r, _, rfl, .inr hR, _, rfl, rfl, _, rfl, iteNS (by rw [rowV_len, hlt]) ?_⟩
      refine ⟨_, rfl, r, rfl, ⟨_, hR⟩, fun D hD => lc_kp (walk_tup (xs := rowV gs.length d i)) hD (fun i => some (V.bl true)) (fun H2 s => same_seqT s hR) (fun j y H2 H3 hj p yy => ?_) fun H2 p => ?_⟩
      · obtain ⟨rfl, hy⟩ := yy
        rw [rowV_len] at hj
        rw [rowV_at hj] at hy
        cases hy
        refine ⟨rfl, _, rfl, _, 0, 1000, rfl, ?_⟩
        rw [decide_eq_true (ok.lo i j (by omega) hj), decide_eq_true (ok.hi i j (by omega) hj)]
        exact p.add hD (by omega) rfl (Same.refl _)
      · have h2 := p.at_
        rw [fm_map] at h2
        refine ⟨D, List.replicate (rowV gs.length d i).length true, rfl, .inl (.inl (by rw [h2, List.map_const', List.length_range, List.map_replicate])), ?_⟩
        rw [show (List.replicate (rowV gs.length d i).length true).all id = true by simp]
        exact ⟨_, rfl, iteF ⟨_, rfl, s1.trans p.same⟩⟩
    · -- each pair
      rintro σ H1 ⟨x3, rfl, s1⟩
      have hn : ((tx.length : Int)).toNat = gs.length := by omega
      refine ⟨_, rfl, tx.length, rfl, by omega, by omega, for_it walk_range (fun i σ H1 => ∃ x4 x5, σ = [some (.ref a), some (.ref b), some (.int tx.length), x3, x4, x5, none] ∧ Same H H1) ⟨_, _, rfl, s1⟩ (fun _ _ _ _ _ => trivial) ?_ ?_⟩
      · rintro i x σ H2 H3 hi ⟨x4, x5, rfl, s2⟩ ⟨rfl, rfl⟩
        rw [hn] at hi
        refine ⟨_, rfl, tx.length, rfl, by omega, by omega, for_it walk_range (fun j σ H1 => ∃ x5, σ = [some (.ref a), some (.ref b), some (.int tx.length), x3, some (.int (0 + (i : Int))), x5, none] ∧ Same H H1) ⟨_, rfl, s2⟩ (fun _ _ _ _ _ => trivial) ?_ ?_⟩
        · rintro j x σ H5 H4 hj ⟨x5', rfl, s3⟩ ⟨rfl, rfl⟩
          rw [hn] at hj
          have row : ∀ (m : Nat), m < gs.length → ∀ H6, Same H H6 → ∃ r, xs[m]? = some (.ref r) ∧ SqT K H6 r (rowV gs.length d m) := fun m hm H6 s6 => by
            obtain ⟨r, e1, e2⟩ := hrow m hm
            exact ⟨r, e1, .inl (.inl (s6 _ _ e2))⟩
          have hX4 : SqT K H4 b xs := same_seqT s3 hX
          obtain ⟨ri, ei, hRi⟩ := row i hi H4 s3
          obtain ⟨rj, ej, hRj⟩ := row j hj H4 s3
          refine ⟨_, rfl, _, rfl, b, _, _, _, rfl, rfl, hX4, at0 ei, _, rfl, ri, _, _, _, rfl, rfl, hRi, at0 (rowV_at hj), ?_⟩
          refine ⟨_, rfl, _, rfl, b, _, _, _, rfl, rfl, hX4, at0 ej, _, rfl, rj, _, _, _, rfl, rfl, hRj, at0 (rowV_at hi), rfl, _, rfl, iteNS (by rw [ok.sym i j hi hj]) ?_⟩
          -- one == other and ..
          refine ⟨_, rfl, _, rfl, rfl, _, rfl, ?_⟩
          refine ite2 (fun e => ?g1) (fun _ => ?g2)
          case' g1 =>
            have e2 : i = j := by
              have := V.int.inj (of_decide_eq_true e)
              omega
            refine ⟨_, rfl, _, rfl, b, _, _, _, rfl, rfl, hX4, at0 ei, _, rfl, ri, _, _, _, rfl, rfl, hRi, at0 (rowV_at hj), rfl, _, rfl, iteNS (by rw [← e2, ok.zero i hi]) ?_⟩
          all_goals
            refine ⟨_, rfl, tx.length, rfl, by omega, by omega, fun D hD => lc_kp walk_range hD (fun _ => some (V.bl false)) (fun _ _ => trivial) (fun m y H7 H6 hm p yy => ?_) fun H6 p => ?_⟩
            · obtain ⟨rfl, rfl⟩ := yy
              rw [hn] at hm
              have s6 := s3.trans p.same
              have hX6 : SqT K H6 b xs := same_seqT s6 hX
              obtain ⟨ri', ei', hRi'⟩ := row i hi H6 s6
              obtain ⟨rm, em, hRm⟩ := row m hm H6 s6
              refine ⟨rfl, _, rfl, _, rfl, b, _, _, _, rfl, rfl, hX6, at0 ei', _, rfl, ri', _, _, _, rfl, rfl, hRi', at0 (rowV_at hm), ?_⟩
              refine ⟨_, rfl, _, rfl, b, _, _, _, rfl, rfl, hX6, at0 em, _, rfl, rm, _, _, _, rfl, rfl, hRm, at0 (rowV_at hj), _, _, rfl, rfl, ?_⟩
              refine ⟨_, rfl, _, rfl, b, _, _, _, rfl, rfl, hX6, at0 ei', _, rfl, ri', _, _, _, rfl, rfl, hRi', at0 (rowV_at hj), _, _, rfl, rfl, ?_⟩
              exact p.add hD (by omega) (congrArg (fun z => some (V.bl z)) (decide_eq_false (show ¬ d i m + d m j < d i j by have := ok.tri i j m hi hj hm; omega)).symm) (Same.refl _)
            · have h2 := p.at_
              rw [fm_map] at h2
              refine ⟨D, List.replicate (((tx.length : Int)).toNat) false, rfl, .inl (.inl (by rw [h2, List.map_const', List.length_range, List.map_replicate])), ?_⟩
              rw [show (List.replicate (((tx.length : Int)).toNat) false).any id = false by simp]
              exact ⟨_, rfl, iteF ⟨_, rfl, s3.trans p.same⟩⟩
        · rintro σ H4 ⟨x5', rfl, s3⟩
          exact ⟨_, _, rfl, s3⟩
      · rintro σ H2 ⟨x4, x5, rfl, s2⟩
        exact q _ s2
/-! ### is_turn -/
def spIsTurn : Sp := fun vs H Q _ => ∃ (a : Addr) (v : V) (gs : List Gate) (t : Trn), vs = [.ref a, v] ∧ TownAt H a gs ∧ gs.length ≤ 8 ∧ TurnAt H v t ∧ TrnOk gs t ∧ ∀ H', Same H H' → Q (.bl true) H'
theorem scIsTurn : FnScope ["town", "thing"] ["town", "thing"] (defScope (topS 20)) := ⟨rfl, rfl, rfl, by decide +kernel, rfl, by decide +kernel, by decide +kernel⟩
theorem ok_isTurn (T : Txt K mg cL) : FnOk P w K mg base CX0 2 T.is_turn.f T.is_turn.fd ["town", "thing"] spIsTurn := by
  obtain ⟨tm, hM⟩ := T.MOST_MOMENT
  refine T.is_turn.F.ok scIsTurn (fun vs H Q E h => ?_) (fun cdv A outer s H vs Q E hr h => ?_)
  · obtain ⟨a, v, gs, t, rfl, _⟩ := h
    rfl
  · obtain ⟨a, v, gs, t, rfl, ht, h8, ⟨r, rfl, hv⟩, ok, q⟩ := h
    have dB := ok_within (P := P) (w := w) (base := base) T
    have dN := ok_names (P := P) (w := w) (base := base) T
    refine ⟨_, pss_cons (ps_if (PW.pt (pw_or (pt_not (pt_val (pe_isTup (by rfl) T.isi (pv 1) (by rfl) T.tuple))) (pw_or (pt_cmpR op_ne (pe_callB call_len_seq (by rfl) T.len PySem.boot_len (pa_cons (pv 1) pa_nil)) pe_int (nomark _))
        (pw_or1 (pt_not (pt_val (pe_isStr (by rfl) T.isi (pe_ix ix_tup (pv 1) pe_int (fun _ _ => rfl)) (by rfl) T.str))))))) (pss_one (ps_ret pe_bl)) pss_nil)
      (pss_cons (ps_if (PW.pt (pw_or (pt_cmpR op_notIn_seq (pe_ix ix_tup (pv 1) pe_int (fun _ _ => rfl)) (pe_call dN hr (by rfl) T.names_of.g T.names_of.F.kp T.names_of.b .nil pass0 (pa_cons (pv 0) pa_nil)) (by rfl))
        (pw_or1 (pt_not (pt_val (pe_call dB hr (by rfl) T.is_within.g T.is_within.F.kp T.is_within.b .nil pass0 (pa_cons (pe_ix ix_tup (pv 1) pe_int (fun _ _ => rfl)) (pa_cons pe_int (pa_cons (pe_glob (v := .int 1000000) (by rfl) hM ⟨tm, rfl⟩) pa_nil))))))))) (pss_one (ps_ret pe_bl)) pss_nil)
      (pss_one (ps_ret (pe_call dB hr (by rfl) T.is_within.g T.is_within.F.kp T.is_within.b .nil pass0 (pa_cons (pe_ix ix_tup (pv 1) pe_int (fun _ _ => rfl)) (pa_cons (pe_op op_add (pe_ix ix_tup (pv 1) pe_int (fun _ _ => rfl)) pe_int) (pa_cons (pe_glob (v := .int 1000000) (by rfl) hM ⟨tm, rfl⟩) pa_nil))))))), ?_⟩
    have hR : SqT K H r [.str t.n, .int t.b, .int t.e] := .inl (.inl hv)
    refine ⟨_, rfl, _, _, _, _, _, rfl, .ty _, .base (.tup hv), kit_ty kit_tt, _, rfl, iteF ?_⟩
    refine ⟨_, rfl, r, _, rfl, .inr hR, rfl, _, rfl, iteF ?_⟩
    refine ⟨_, rfl, r, _, 0, _, rfl, rfl, hR, atI_nat (j := 0) rfl, _, _, _, _, _, rfl, .ty _, .base (.str t.n), kit_ty kit_ss, _, rfl, iteF ?_⟩
    refine ⟨_, rfl, r, _, 0, _, rfl, rfl, hR, atI_nat (j := 0) rfl, _, rfl, a, gs, rfl, ht, by omega, fun H1 p s1 hp e1 => ?_⟩
    have hR1 : SqT K H1 r [.str t.n, .int t.b, .int t.e] := .inl (.inl (s1 _ _ hv))
    refine ⟨p, _, rfl, .inl (.inl (.inl e1)), rfl, flat_strs _, _, rfl, ?_⟩
    rw [if_pos rfl, in_strs ok.name]
    refine iteF ?_
    refine ⟨_, rfl, r, _, 1, _, rfl, rfl, hR1, atI_nat (j := 1) rfl, t.b, 0, 1000000, rfl, ?_⟩
    rw [decide_eq_true ok.lo, decide_eq_true ok.hi]
    refine ⟨_, rfl, iteF ?_⟩
    refine ⟨_, rfl, r, _, 2, _, rfl, rfl, hR1, atI_nat (j := 2) rfl, _, rfl, r, _, 1, _, rfl, rfl, hR1, atI_nat (j := 1) rfl, _, _, rfl, rfl, t.e, t.b + 1, 1000000, rfl, ?_⟩
    rw [decide_eq_true ok.lt, decide_eq_true ok.end_]
    exact q _ s1
/-! ### look_at_turns -/
def spLookT : Sp := fun vs H Q _ => ∃ (a b c : Addr) (gs : List Gate) (d : Nat → Nat → Int) (ts : List Trn), vs = [.ref a, .ref b, .ref c] ∧ TownAt H a gs ∧ TownOk gs ∧ WalksAt H b gs.length d ∧ WalksOk gs.length d ∧ TurnsAt H c ts ∧ ts.length ≤ 40 ∧ (∀ t ∈ ts, TrnOk gs t) ∧
  ∀ H', Same H H' → Q .non H'
theorem scLookT : FnScope ["town", "walks", "turns", "turn"] ["town", "walks", "turns"] (defScope (topS 21)) := ⟨rfl, rfl, rfl, by decide +kernel, rfl, by decide +kernel, by decide +kernel⟩
theorem ok_lookT (T : Txt K mg cL) : FnOk P w K mg base CX0 5 T.look_at_turns.f T.look_at_turns.fd ["town", "walks", "turns"] spLookT := by
  obtain ⟨tr, hR⟩ := T.MOST_ROUNDS
  refine T.look_at_turns.F.ok scLookT (fun vs H Q E h => ?_) (fun cdv A outer s H vs Q E hr h => ?_)
  · obtain ⟨a, b, c, gs, d, ts, rfl, _⟩ := h
    rfl
  · obtain ⟨a, b, c, gs, d, ts, rfl, ht, ok, hw, okw, ⟨xs, hc, hx⟩, h40, okt, q⟩ := h
    have dL := ok_look (P := P) (w := w) (base := base) T
    have dW := ok_areWalks (P := P) (w := w) (base := base) T
    have dI := ok_isTurn (P := P) (w := w) (base := base) T
    have nd := scLookT.nd
    refine ⟨_, pss_cons (ps_expr (pe_call dL hr (by rfl) T.look_at_town.g T.look_at_town.F.kp T.look_at_town.b .nil pass0 (pa_cons (pv 0) pa_nil)))
      (pss_cons (ps_if (pt_not (pt_val (pe_call dW (hr.mono (by decide)) (by rfl) T.are_walks.g T.are_walks.F.kp T.are_walks.b .nil pass0 (pa_cons (pv 0) (pa_cons (pv 1) pa_nil))))) pss_never pss_nil)
      (pss_one (ps_if (PW.pt (pw_or (pt_not (pt_val (pe_isList (by rfl) T.isi (pv 2) (by rfl) T.list))) (pw_or (pt_cmpR op_gt (pe_callB call_len_seq (by rfl) T.len PySem.boot_len (pa_cons (pv 2) pa_nil)) (pe_glob (v := .int 40) (by rfl) hR ⟨tr, rfl⟩) (nomark _))
        (pw_or1 (pt_not (pt_val (pe_callB (cr_all rfl) (by rfl) T.all (by decide +kernel) (pa_cons (pe_lc (own := [("turn", 3)]) (g := gName 3) rfl nd (pi_list (pv 2)) (blkOk_by (N := ["town", "walks", "turns", "turn"]) (sc := defScope (topS 21)) (by decide +kernel))
          (fun _ _ _ _ _ => pg_name (i := 3) nd rfl (Or.inl rfl)) (fun _ _ _ _ _ => pts_nil) (fun _ _ _ _ _ => pe_call dI (hr.mono (by decide)) (by rfl) T.is_turn.g T.is_turn.F.kp T.is_turn.b .nil pass0 (pa_cons (pv 0) (pa_cons (pv 3) pa_nil)))) pa_nil)))))))) pss_never pss_nil))), ?_⟩
    refine ⟨_, rfl, a, gs, rfl, ht, ok, fun H1 s1 => ?_⟩
    have ht1 := ht.keep (same_tups s1)
    refine ⟨_, rfl, _, rfl, a, b, gs, d, rfl, ht1, ok.hi, hw.keep (same_tups s1), okw, fun H2 s2 => ⟨_, rfl, iteF ?_⟩⟩
    have s12 := s1.trans s2
    have hc2 := s12 _ _ hc
    have hl := paired_len hx
    refine ⟨_, rfl, _, _, _, _, _, rfl, .ty _, .base (.lst hc2), kit_ty kit_ll, _, rfl, iteF ?_⟩
    refine ⟨_, rfl, c, _, rfl, .inl (.inl (.inl hc2)), _, _, rfl, rfl, _, rfl, ?_⟩
    rw [decide_eq_false (show ¬ (40 : Int) < xs.length by omega)]
    refine iteF ?_
    have hS2 : SqL K H2 c xs := .inl (.inl hc2)
    refine ⟨_, rfl, c, rfl, ⟨_, hS2⟩, fun D hD => lc_kp (walk_list (xs := xs)) hD (fun _ => some (V.bl true)) (fun H3 s => s.seq hS2) (fun i x H4 H3 hi p y => ?_) fun H3 p => ?_⟩
    · obtain ⟨rfl, hx3⟩ := y
      obtain ⟨t, et, r, rfl, hr1⟩ := paired_at hx hx3
      refine ⟨rfl, _, rfl, _, rfl, a, _, gs, t, rfl, ht1.keep (same_tups (s2.trans p.same)), ok.hi, ⟨r, rfl, p.same _ _ (s12 _ _ hr1)⟩, okt t (List.mem_of_getElem? et), fun H5 s5 => ?_⟩
      exact p.add hD (by omega) rfl s5
    · have h2 := p.at_
      rw [fm_map] at h2
      refine ⟨D, List.replicate xs.length true, rfl, .inl (.inl (by rw [h2, List.map_const', List.length_range, List.map_replicate])), ?_⟩
      rw [show (List.replicate xs.length true).all id = true by simp]
      exact ⟨_, rfl, iteF (q _ (s12.trans p.same))⟩
/-! ### can_follow, _law_follows -/
def spFollow : Sp := fun vs H Q _ => ∃ (a b : Addr) (v u : V) (gs : List Gate) (d : Nat → Nat → Int) (t s : Trn), vs = [.ref a, .ref b, v, u] ∧ TownAt H a gs ∧ gs.length ≤ 8 ∧ WalksAt H b gs.length d ∧ TurnAt H v t ∧ TurnAt H u s ∧ t.n ∈ gs.map Gate.n ∧ s.n ∈ gs.map Gate.n ∧
  ∀ H', Same H H' → Q (.bl (decide (Fl gs d t s))) H'
theorem scFollow : FnScope ["town", "walks", "one", "other", "names"] ["town", "walks", "one", "other"] (defScope (topS 22)) := ⟨rfl, rfl, rfl, by decide +kernel, rfl, by decide +kernel, by decide +kernel⟩
theorem ok_follow (T : Txt K mg cL) : FnOk P w K mg base CX0 2 T.can_follow.f T.can_follow.fd ["town", "walks", "one", "other"] spFollow := by
  refine T.can_follow.F.ok scFollow (fun vs H Q E h => ?_) (fun cdv A outer s H vs Q E hr h => ?_)
  · obtain ⟨a, b, v, u, gs, d, t, s, rfl, _⟩ := h
    rfl
  · obtain ⟨a, b, v, u, gs, d, t, s2, rfl, ht, h8, ⟨xs, hb, hlx, hrow⟩, ⟨r, rfl, hv⟩, ⟨r2, rfl, hu⟩, m1, m2, q⟩ := h
    have dN := ok_names (P := P) (w := w) (base := base) T
    have nd := scFollow.nd
    refine ⟨_, pss_cons (ps_set (i := 4) nd rfl (.inl rfl) (pe_call dN hr (by rfl) T.names_of.g T.names_of.F.kp T.names_of.b .nil pass0 (pa_cons (pv 0) pa_nil)))
      (pss_one (ps_ret (pe_cmpR op_le (pe_op op_add (pe_ix ix_tup (pv 2) pe_int (fun _ _ => rfl)) (pe_ix ix_tup (pe_ix ix_tup (pv 1) (pe_bm PySem.F.plainAttrs_list PySem.F.slot_list_index PySem.F.type_list_index mt_index (pv 4) (pa_cons (pe_ix ix_tup (pv 2) pe_int (fun _ _ => rfl)) pa_nil)) (fun _ _ => rfl))
        (pe_bm PySem.F.plainAttrs_list PySem.F.slot_list_index PySem.F.type_list_index mt_index (pv 4) (pa_cons (pe_ix ix_tup (pv 3) pe_int (fun _ _ => rfl)) pa_nil)) (fun _ _ => rfl))) (pe_ix ix_tup (pv 3) pe_int (fun _ _ => rfl)) (nomark _)))), ?_⟩
    refine ⟨_, rfl, a, gs, rfl, ht, by omega, fun H1 p s1 hp e1 => ?_⟩
    have hV : SqT K H1 r [.str t.n, .int t.b, .int t.e] := .inl (.inl (s1 _ _ hv))
    have hU : SqT K H1 r2 [.str s2.n, .int s2.b, .int s2.e] := .inl (.inl (s1 _ _ hu))
    have hX : SqT K H1 b xs := .inl (.inl (s1 _ _ hb))
    have hS : SqL K H1 p ((gs.map Gate.n).map V.str) := .inl (.inl e1)
    obtain ⟨g1, g2⟩ := ix_reads m1
    obtain ⟨g3, g4⟩ := ix_reads m2
    obtain ⟨rr, er, hrr⟩ := hrow (ixOf gs t.n) (ixOf_lt m1)
    have hRR : SqT K H1 rr (rowV gs.length d (ixOf gs t.n)) := .inl (.inl (s1 _ _ hrr))
    refine ⟨_, rfl, r, _, 2, _, rfl, rfl, hV, atI_nat (j := 2) rfl, ?_⟩
    refine ⟨_, rfl, _, rfl, .inl ⟨rfl, _, hS⟩, _, rfl, r, _, 0, _, rfl, rfl, hV, atI_nat (j := 0) rfl, p, _, _, _, _, rfl, rfl, hS, rfl, flat_strs _, g1, (by show (t.n == t.n) = true; exact beq_self_eq_true _), g2, ?_⟩
    refine ⟨b, _, _, _, rfl, rfl, hX, atI_nat er, ?_⟩
    refine ⟨_, rfl, .inl ⟨rfl, _, hS⟩, _, rfl, r2, _, 0, _, rfl, rfl, hU, atI_nat (j := 0) rfl, p, _, _, _, _, rfl, rfl, hS, rfl, flat_strs _, g3, (by show (s2.n == s2.n) = true; exact beq_self_eq_true _), g4, ?_⟩
    refine ⟨rr, _, _, _, rfl, rfl, hRR, atI_nat (rowV_at (ixOf_lt m2)), _, _, rfl, rfl, ?_⟩
    refine ⟨_, rfl, r2, _, 1, _, rfl, rfl, hU, atI_nat (j := 1) rfl, _, _, rfl, rfl, ?_⟩
    exact q _ s1
theorem scLFollow : FnScope ["town", "walks", "one", "other", "names", "walk", "gate"] ["town", "walks", "one", "other"] (defScope (topS 37)) := ⟨rfl, rfl, rfl, by decide +kernel, rfl, by decide +kernel, by decide +kernel⟩
theorem ok_lfollow (T : Txt K mg cL) : FnOk P w K mg base CX0 1 T.follows.f T.follows.fd ["town", "walks", "one", "other"] spFollow := by
  refine T.follows.F.ok scLFollow (fun vs H Q E h => ?_) (fun cdv A outer s H vs Q E hr h => ?_)
  · obtain ⟨a, b, v, u, gs, d, t, s, rfl, _⟩ := h
    rfl
  · obtain ⟨a, b, v, u, gs, d, t, s2, rfl, ⟨tx, ha, hg⟩, h8, ⟨xs, hb, hlx, hrow⟩, ⟨r, rfl, hv⟩, ⟨r2, rfl, hu⟩, m1, m2, q⟩ := h
    have nd := scLFollow.nd
    refine ⟨_, pss_cons (ps_setLc (i := 4) (own := [("gate", 6)]) (g := gName 6) (te := tOp (rIxT K) (tVar 6) (tC (.int 0))) rfl nd rfl rfl (sw_true rfl rfl rfl (by decide +kernel)) (pi_tup (pv 0)) (blkOk_by (N := ["town", "walks", "one", "other", "names", "walk", "gate"]) (sc := defScope (topS 37)) (by decide +kernel))
        (fun _ _ _ _ _ => pg_name (i := 6) nd rfl (Or.inl rfl)) (fun _ _ _ _ _ => pts_nil) (fun _ _ _ _ _ => pe_ix ix_tup (pv 6) pe_int (fun _ _ => rfl)))
      (pss_cons (ps_set (i := 5) nd rfl (.inl rfl) (pe_ix ix_tup (pe_ix ix_tup (pv 1) (pe_bm PySem.F.plainAttrs_list PySem.F.slot_list_index PySem.F.type_list_index mt_index (pv 4) (pa_cons (pe_ix ix_tup (pv 2) pe_int (fun _ _ => rfl)) pa_nil)) (fun _ _ => rfl))
        (pe_bm PySem.F.plainAttrs_list PySem.F.slot_list_index PySem.F.type_list_index mt_index (pv 4) (pa_cons (pe_ix ix_tup (pv 3) pe_int (fun _ _ => rfl)) pa_nil)) (fun _ _ => rfl)))
      (pss_one (ps_ret (pe_cmpR op_ge (pe_ix ix_tup (pv 3) pe_int (fun _ _ => rfl)) (pe_op op_add (pe_ix ix_tup (pv 2) pe_int (fun _ _ => rfl)) (pv 5)) (nomark _))))), ?_⟩
    have hT : SqT K H a tx := .inl (.inl ha)
    have hl := paired_len hg
    refine ⟨_, rfl, a, rfl, ⟨_, hT⟩, fun p hp => lc_kp (walk_tup (xs := tx)) hp (fun i => ((gs.map Gate.n)[i]?).map V.str) (fun H1 s => same_seqT s hT) (fun i x H2 H1 hi kp y => ?_) fun H1 kp => ?_⟩
    · obtain ⟨rfl, hx⟩ := y
      obtain ⟨g, eg, r, rfl, hr1⟩ := paired_at hg hx
      refine ⟨rfl, _, rfl, r, _, 0, _, rfl, rfl, .inl (.inl (kp.same _ _ hr1)), atI_nat (j := 0) rfl, ?_⟩
      refine kp.add hp (by omega) ?_ (Same.refl _)
      rw [List.getElem?_map, eg]
      rfl
    have e1 := kp.at_
    have e := fm_list (g := V.str) (gs.map Gate.n)
    rw [List.length_map, ← hl] at e
    rw [e] at e1
    have s1 := kp.same
    have hV : SqT K H1 r [.str t.n, .int t.b, .int t.e] := .inl (.inl (s1 _ _ hv))
    have hU : SqT K H1 r2 [.str s2.n, .int s2.b, .int s2.e] := .inl (.inl (s1 _ _ hu))
    have hX : SqT K H1 b xs := .inl (.inl (s1 _ _ hb))
    have hS : SqL K H1 p ((gs.map Gate.n).map V.str) := .inl (.inl e1)
    obtain ⟨g1, g2⟩ := ix_reads m1
    obtain ⟨g3, g4⟩ := ix_reads m2
    obtain ⟨rr, er, hrr⟩ := hrow (ixOf gs t.n) (ixOf_lt m1)
    have hRR : SqT K H1 rr (rowV gs.length d (ixOf gs t.n)) := .inl (.inl (s1 _ _ hrr))
    refine ⟨_, rfl, _, rfl, .inl ⟨rfl, _, hS⟩, _, rfl, r, _, 0, _, rfl, rfl, hV, atI_nat (j := 0) rfl, p, _, _, _, _, rfl, rfl, hS, rfl, flat_strs _, g1, (by show (t.n == t.n) = true; exact beq_self_eq_true _), g2, ?_⟩
    refine ⟨b, _, _, _, rfl, rfl, hX, atI_nat er, ?_⟩
    refine ⟨_, rfl, .inl ⟨rfl, _, hS⟩, _, rfl, r2, _, 0, _, rfl, rfl, hU, atI_nat (j := 0) rfl, p, _, _, _, _, rfl, rfl, hS, rfl, flat_strs _, g3, (by show (s2.n == s2.n) = true; exact beq_self_eq_true _), g4, ?_⟩
    refine ⟨rr, _, _, _, rfl, rfl, hRR, atI_nat (rowV_at (ixOf_lt m2)), ?_⟩
    refine ⟨_, rfl, r2, _, 1, _, rfl, rfl, hU, atI_nat (j := 1) rfl, ?_⟩
    refine ⟨_, rfl, r, _, 2, _, rfl, rfl, hV, atI_nat (j := 2) rfl, _, rfl, _, _, rfl, rfl, _, _, rfl, rfl, ?_⟩
    exact q _ s1
end
end LT
end
section
set_option Elab.async false
set_option linter.all false
set_option maxRecDepth 100000
set_option maxHeartbeats 4000000
/-! Pairing: grown -/
namespace LT
open PySem PySem.Spec PyProof.Rows L2
def ki (i : Nat) : Key := Sum.inl (i : Int)
theorem ki_inj {i j : Nat} (h : ki i = ki j) : i = j := by
  have := Sum.inl.inj h
  omega
/-- a dict with keys below n: what it holds, how many keys -/
structure DV (H : Hp) (d : Addr) (n : Nat) (f : Nat → Option V) (kvs : List (Key × V)) : Prop where
  at_ : H d = some (.dK kvs)
  nd : (kvs.map (·.1)).Nodup
  lt : ∀ k ∈ kvs.map (·.1), ∃ i, i < n ∧ k = ki i
  val : ∀ i, valV kvs (ki i) = f i
theorem DV.len {H : Hp} {d : Addr} {n : Nat} {f : Nat → Option V} {kvs : List (Key × V)} (h : DV H d n f kvs) : kvs.length ≤ n := by
  have h1 : (kvs.map (·.1)).length ≤ ((List.range n).map ki).length := nd_sub_len h.nd fun k hk => by
    obtain ⟨i, hi, e⟩ := h.lt k hk
    exact List.mem_map.mpr ⟨i, List.mem_range.mpr hi, e.symm⟩
  rwa [List.length_map, List.length_map, List.length_range] at h1
theorem DV.room {H : Hp} {d : Addr} {n x : Nat} {f : Nat → Option V} {kvs : List (Key × V)} (h : DV H d n f kvs) (hx : x < n) (hn : f x = none) : kvs.length < n := by
  have hk : ki x ∉ kvs.map (·.1) := valV_not ((h.val x).trans hn)
  have h1 : (ki x :: kvs.map (·.1)).length ≤ ((List.range n).map ki).length := nd_sub_len (List.nodup_cons.mpr ⟨hk, h.nd⟩) fun k hk => by
    rcases List.mem_cons.mp hk with rfl | hk
    · exact List.mem_map.mpr ⟨x, List.mem_range.mpr hx, rfl⟩
    · obtain ⟨i, hi, e⟩ := h.lt k hk
      exact List.mem_map.mpr ⟨i, List.mem_range.mpr hi, e.symm⟩
  rw [List.length_map, List.length_range, List.length_cons, List.length_map] at h1
  omega
theorem DV.keep {H H' : Hp} {d : Addr} {n : Nat} {f : Nat → Option V} {kvs : List (Key × V)} (h : DV H d n f kvs) (e : H' d = H d) : DV H' d n f kvs := ⟨e.trans h.at_, h.nd, h.lt, h.val⟩
theorem DV.put {H : Hp} {d : Addr} {n x : Nat} {f : Nat → Option V} {kvs : List (Key × V)} (h : DV H d n f kvs) (hx : x < n) (v : V) : DV (upd H d (.dK (putK kvs (ki x) v))) d n (fun i => if i = x then some v else f i) (putK kvs (ki x) v) := by
  refine ⟨upd_same, ?_, fun k hk => ?_, fun i => ?_⟩
  · cases e : valV kvs (ki x) with
    | none => exact nd_putK v h.nd e
    | some u =>
      have : (putK kvs (ki x) v).map (·.1) = kvs.map (·.1) := by
        unfold putK
        rw [valV_any, e, if_pos (show (some u).isSome = true from rfl), List.map_map]
        refine List.map_congr_left fun p _ => ?_
        show (if p.1 = ki x then (p.1, v) else p).1 = p.1
        split <;> rfl
      rw [this]
      exact h.nd
  · have : k = ki x ∨ k ∈ kvs.map (·.1) := by
      unfold putK at hk
      split at hk
      · rw [List.map_map] at hk
        obtain ⟨p, hp, e⟩ := List.mem_map.mp hk
        refine .inr (List.mem_map.mpr ⟨p, hp, ?_⟩)
        rw [← e]
        show p.1 = (if p.1 = ki x then (p.1, v) else p).1
        split <;> rfl
      · rw [List.map_append] at hk
        rcases List.mem_append.mp hk with m | m
        · exact .inr m
        · exact .inl (List.mem_singleton.mp m)
    rcases this with rfl | m
    · exact ⟨x, hx, rfl⟩
    · exact h.lt k m
  · rw [valV_put]
    by_cases e : i = x
    · rw [if_pos (by rw [e]), if_pos e]
    · rw [if_neg (fun z => e (ki_inj z)), if_neg e]
      exact h.val i
theorem DV.new {H : Hp} {d : Addr} {n : Nat} (h : H d = some (.dK [])) : DV H d n (fun _ => none) [] := ⟨h, List.nodup_nil, fun k hk => by simp at hk, fun _ => rfl⟩
def vi (f : Nat → Option Nat) : Nat → Option V := fun i => (f i).map fun j => V.int (j : Nat)
/-- numbers by numbers -/
def DI (H : Hp) (d : Addr) (n : Nat) (f : Nat → Option Nat) : Prop := ∃ kvs, DV H d n (vi f) kvs
/-- a set as a dict -/
def DS (H : Hp) (d : Addr) (n : Nat) (S : Nat → Prop) (len : Nat) : Prop := ∃ f kvs, DV H d n f kvs ∧ kvs.length = len ∧ ∀ i, (f i).isSome = true ↔ S i
theorem vi_put {f : Nat → Option Nat} {k v : Nat} : (fun i => if i = k then some (V.int (v : Nat)) else vi f i) = vi (put f k v) := by
  funext i
  unfold vi put
  by_cases h : i = k
  · rw [if_pos h, if_pos h]
    rfl
  · rw [if_neg h, if_neg h]
/-! ### the object -/
theorem nAB : ¬ (("ahead" : Str) = "behind_of") := by decide +kernel
theorem nAF : ¬ (("ahead" : Str) = "ahead_of") := by decide +kernel
theorem nBF : ¬ (("behind_of" : Str) = "ahead_of") := by decide +kernel
def flds (a b f : Addr) : List (Str × V) := putF "ahead_of" (.ref f) (putF "behind_of" (.ref b) (putF "ahead" (.ref a) []))
theorem flds_a (a b f : Addr) : (flds a b f).lookup ("ahead" : Str) = some (.ref a) := by
  unfold flds
  rw [lookup_putF, if_neg nAF, lookup_putF, if_neg nAB, lookup_putF, if_pos rfl]
theorem flds_b (a b f : Addr) : (flds a b f).lookup ("behind_of" : Str) = some (.ref b) := by
  unfold flds
  rw [lookup_putF, if_neg nBF, lookup_putF, if_pos rfl]
theorem flds_f (a b f : Addr) : (flds a b f).lookup ("ahead_of" : Str) = some (.ref f) := by
  unfold flds
  rw [lookup_putF, if_pos rfl]
theorem flds_no (a b f : Addr) {m : Str} (h1 : ¬ m = "ahead_of") (h2 : ¬ m = "behind_of") (h3 : ¬ m = "ahead") : (flds a b f).lookup m = none := by
  unfold flds
  rw [lookup_putF, if_neg h1, lookup_putF, if_neg h2, lookup_putF, if_neg h3]
  rfl
def numsV (l : List Nat) : List V := l.map fun (j : Nat) => V.int (j : Nat)
/-- the lists of those that follow -/
structure Adj (H : Hp) (a : Addr) (n : Nat) (adj : Nat → List Nat) (rs : List Addr) : Prop where
  at_ : H a = some (.lst (rs.map V.ref))
  len : rs.length = n
  rows : ∀ i r, rs[i]? = some r → H r = some (.lst (numsV (adj i)))
  lt : ∀ i, i < n → ∀ j ∈ adj i, j < n
  few : ∀ i, i < n → (adj i).length ≤ 900
/-- a Pairing stands at p -/
structure PairAt (C : Addr) (H : Hp) (p aa bb ff : Addr) (n : Nat) (adj : Nat → List Nat) (A B : Nat → Option Nat) : Prop where
  ob : ∃ dx, H p = some (.ins C dx (flds aa bb ff))
  ad : ∃ rs, Adj H aa n adj rs
  bh : DI H bb n B
  ah : DI H ff n A
  ne : bb ≠ ff
/-- all but these stand -/
def But (l : List Addr) (H H' : Hp) : Prop := ∀ c o, H c = some o → c ∉ l → H' c = some o
theorem But.refl (l : List Addr) (H : Hp) : But l H H := fun _ _ h _ => h
theorem But.trans {l : List Addr} {H H1 H2 : Hp} (a : But l H H1) (b : But l H1 H2) : But l H H2 := fun c o h n => b c o (a c o h n) n
theorem But.mono {l m : List Addr} {H H1 : Hp} (a : But l H H1) (h : ∀ x ∈ l, x ∈ m) : But m H H1 := fun c o e n => a c o e fun z => n (h c z)
theorem But.same {l : List Addr} {H H1 : Hp} (a : Same H H1) : But l H H1 := fun c o e _ => a c o e
theorem But.upd {l : List Addr} {H : Hp} {d : Addr} {o : HO} (h : d ∈ l) : But l H (upd H d o) := fun c u e n => by
  rw [upd_ne (fun z => n (by rw [z]; exact h))]
  exact e
def notDict : HO → Prop
  | .dK _ => False
  | _ => True
theorem PairAt.keep {C : Addr} {H H' : Hp} {p aa bb ff : Addr} {n : Nat} {adj : Nat → List Nat} {A B : Nat → Option Nat} (h : PairAt C H p aa bb ff n adj A B) (k : ∀ c o, H c = some o → notDict o → H' c = some o) (e1 : H' bb = H bb) (e2 : H' ff = H ff) : PairAt C H' p aa bb ff n adj A B := by
  obtain ⟨⟨dx, h1⟩, ⟨rs, h2⟩, ⟨kv, h3⟩, ⟨kv2, h4⟩, h5⟩ := h
  exact ⟨⟨dx, k _ _ h1 trivial⟩, ⟨rs, k _ _ h2.at_ trivial, h2.len, fun i r e => k _ _ (h2.rows i r e) trivial, h2.lt, h2.few⟩, ⟨kv, h3.keep e1⟩, ⟨kv2, h4.keep e2⟩, h5⟩
/-- a dict is written: what is no dict stands -/
theorem upd_nd {H : Hp} {d : Addr} {kvs : List (Key × V)} {o : HO} (h : H d = some (.dK kvs)) : ∀ c u, H c = some u → notDict u → upd H d o c = some u := fun c u e n => by
  rw [upd_ne (fun z => by rw [z, h] at e; cases e; exact n)]
  exact e
theorem PairAt.putA {C : Addr} {H : Hp} {p aa bb ff : Addr} {n x v : Nat} {adj : Nat → List Nat} {A B : Nat → Option Nat} (h : PairAt C H p aa bb ff n adj A B) (hx : x < n) : ∃ kvs, H ff = some (.dK kvs) ∧ kvs.length ≤ n ∧ PairAt C (upd H ff (.dK (putK kvs (ki x) (.int (v : Nat))))) p aa bb ff n adj (put A x v) B := by
  obtain ⟨⟨dx, h1⟩, ⟨rs, h2⟩, ⟨kv, h3⟩, ⟨kv2, h4⟩, h5⟩ := h
  have k := upd_nd (o := .dK (putK kv2 (ki x) (.int (v : Nat)))) h4.at_
  have this := h4.put hx (.int (v : Nat))
  rw [vi_put] at this
  exact ⟨kv2, h4.at_, h4.len, ⟨dx, k _ _ h1 trivial⟩, ⟨rs, k _ _ h2.at_ trivial, h2.len, fun i r e => k _ _ (h2.rows i r e) trivial, h2.lt, h2.few⟩, ⟨kv, h3.keep (upd_ne h5)⟩, ⟨_, this⟩, h5⟩
theorem PairAt.putB {C : Addr} {H : Hp} {p aa bb ff : Addr} {n x v : Nat} {adj : Nat → List Nat} {A B : Nat → Option Nat} (h : PairAt C H p aa bb ff n adj A B) (hx : x < n) : ∃ kvs, H bb = some (.dK kvs) ∧ kvs.length ≤ n ∧ PairAt C (upd H bb (.dK (putK kvs (ki x) (.int (v : Nat))))) p aa bb ff n adj A (put B x v) := by
  obtain ⟨⟨dx, h1⟩, ⟨rs, h2⟩, ⟨kv, h3⟩, ⟨kv2, h4⟩, h5⟩ := h
  have k := upd_nd (o := .dK (putK kv (ki x) (.int (v : Nat)))) h3.at_
  have this := h3.put hx (.int (v : Nat))
  rw [vi_put] at this
  exact ⟨kv, h3.at_, h3.len, ⟨dx, k _ _ h1 trivial⟩, ⟨rs, k _ _ h2.at_ trivial, h2.len, fun i r e => k _ _ (h2.rows i r e) trivial, h2.lt, h2.few⟩, ⟨_, this⟩, ⟨kv2, h4.keep (upd_ne (Ne.symm h5))⟩, h5⟩
def Ed (n : Nat) (adj : Nat → List Nat) : Nat → Nat → Prop := fun l r => l < n ∧ r ∈ adj l
theorem DS.put {H : Hp} {d : Addr} {n x len : Nat} {S : Nat → Prop} (h : DS H d n S len) (hx : x < n) (hn : ¬ S x) : ∃ kvs, H d = some (.dK kvs) ∧ kvs.length = len ∧ len < n ∧ valV kvs (ki x) = none ∧ DS (upd H d (.dK (putK kvs (ki x) (.bl true)))) d n (With S x) (len + 1) := by
  obtain ⟨f, kvs, h1, h2, h3⟩ := h
  have hf : f x = none := by
    cases e : f x with
    | none => rfl
    | some v => exact (hn ((h3 x).mp (by rw [e]; rfl))).elim
  have hlt := h1.room hx hf
  have hv : valV kvs (ki x) = none := (h1.val x).trans hf
  refine ⟨kvs, h1.at_, h2, by omega, hv, _, _, h1.put hx (.bl true), ?_, fun i => ?_⟩
  · rw [putK_new _ hv, List.length_append, h2]
    rfl
  · by_cases e : i = x
    · rw [if_pos e]
      exact ⟨fun _ => .inl e, fun _ => rfl⟩
    · rw [if_neg e]
      exact ⟨fun q => .inr ((h3 i).mp q), fun q => (h3 i).mpr (q.resolve_left e)⟩
theorem DS.has {H : Hp} {d : Addr} {n len : Nat} {S : Nat → Prop} (h : DS H d n S len) : ∃ kvs, H d = some (.dK kvs) ∧ ∀ i, (valV kvs (ki i)).isSome = true ↔ S i := by
  obtain ⟨f, kvs, h1, h2, h3⟩ := h
  exact ⟨kvs, h1.at_, fun i => by rw [h1.val]; exact h3 i⟩
theorem DS.keep {H H' : Hp} {d : Addr} {n len : Nat} {S : Nat → Prop} (h : DS H d n S len) (e : H' d = H d) : DS H' d n S len := by
  obtain ⟨f, kvs, h1, h2, h3⟩ := h
  exact ⟨f, kvs, h1.keep e, h2, h3⟩
section
variable {P : Program} {w : World} {K : PySem.W.Frag} {mg : Str → Option Value} {base : Heap} {cL : Addr}
structure GrIn (C : Addr) (H : Hp) (p aa bb ff m : Addr) (n one i len : Nat) (adj : Nat → List Nat) (A B : Nat → Option Nat) (CA CB S : Nat → Prop) : Prop where
  pr : PairAt C H p aa bb ff n adj A B
  ms : DS H m n S len
  mb : m ≠ bb
  mf : m ≠ ff
  n40 : n ≤ 40
  on : one < n
  gd : Good (Ed n adj) i A B CA CB
  pre : ∀ r, A r = some one → S r
def spGrown (C : Addr) (k : Nat) : Sp := fun vs H Q _ => ∃ (p aa bb ff m : Addr) (n one i len : Nat) (adj : Nat → List Nat) (A B : Nat → Option Nat) (CA CB S : Nat → Prop), vs = [.ref p, .int (one : Nat), .ref m] ∧ GrIn C H p aa bb ff m n one i len adj A B CA CB S ∧ n < len + k ∧
  (∀ (A' B' : Nat → Option Nat) (H' : Hp), Won (Ed n adj) A B CA CB one S A' B' → PairAt C H' p aa bb ff n adj A' B' → But [bb, ff, m] H H' → Q (.bl true) H') ∧
  (∀ (S' : Nat → Prop) (len' : Nat) (H' : Hp), Lost (Ed n adj) A one S S' → PairAt C H' p aa bb ff n adj A B → DS H' m n S' len' → len ≤ len' → But [bb, ff, m] H H' → Q (.bl false) H')
theorem scGrown : FnScope ["self", "one", "met", "other"] ["self", "one", "met"] (defScope (inClass (topS 23) 1)) := ⟨rfl, rfl, rfl, by decide +kernel, rfl, by decide +kernel, by decide +kernel⟩
theorem at1 {xs : List V} {i : Nat} {v : V} (h : xs[i]? = some v) : atI xs ((i : Nat) : Int) = some v := atI_nat h
theorem ok_grown (T : Txt K mg cL) : ∀ k, FnOk P w K mg base CX0 (k + 1) T.grown.f T.grown.fd ["self", "one", "met"] (spGrown T.C k) := by
  intro k
  induction k with
  | zero =>
    have no : ∀ vs H Q, spGrown T.C 0 vs H Q E0 → False := fun vs H Q h => by
      obtain ⟨p, aa, bb, ff, m, n, one, i, len, adj, A, B, CA, CB, S, _, g, hlt, _⟩ := h
      obtain ⟨f, kvs, h1, h2, h3⟩ := g.ms
      have := h1.len
      omega
    exact ⟨fun vs H Q E h => (no vs H Q h).elim, fun A outer s H args us vs Q E _ _ _ _ h => (no vs H Q h).elim⟩
  | succ k ih =>
    refine T.grown.F.ok scGrown (fun vs H Q E h => ?_) (fun cdv A0 outer s H vs Q E hr h => ?_)
    · obtain ⟨p, aa, bb, ff, m, n, one, i, len, adj, A, B, CA, CB, S, rfl, _⟩ := h
      rfl
    · obtain ⟨p, aa, bb, ff, m, n, one, i, len, adj, A, B, CA, CB, S, rfl, g, hfu, qW, qL⟩ := h
      have hu := hu_of hr
      have nd := scGrown.nd
      refine ⟨_, pss_cons (ps_for PassesOwn.never rfl (pi_list (pe_ix ix_list (pe_fld (pv 0) rfl) (pv 1) (fun _ _ => rfl))) (pg_name (i := 3) nd rfl (.inl rfl))
          (pss_one (ps_if (pt_cmp (pc_dnotin hu (pv 3) (pv 2)))
            (pss_cons (ps_dput hu (pv 2) (pv 3) pe_bl rfl)
            (pss_one (ps_if (PW.pt (pw_or (pt_cmp (pc_dnotin hu (pv 3) (pe_fld (pv 0) rfl))) (pw_or1 (pt_val (pe_meth (pv 0) T.cls T.grown.m ih hr T.grown.b .nil pass0 (pa_cons (pe_dget hu (pe_fld (pv 0) rfl) (pv 3) (fun _ _ => rfl)) (pa_cons (pv 2) pa_nil)))))))
              (pss_cons (ps_dput hu (pe_fld (pv 0) rfl) (pv 3) (pv 1) rfl) (pss_cons (ps_dput hu (pe_fld (pv 0) rfl) (pv 1) (pv 3) rfl) (pss_one (ps_ret pe_bl)))) pss_nil))) pss_nil)))
        (pss_one (ps_ret pe_bl)), ?_⟩
      obtain ⟨pr, ms, mb, mf, n40, on, gd, pre⟩ := g
      obtain ⟨⟨dx, h1⟩, ⟨rs, ad⟩, _, _, nbf⟩ := id pr
      obtain ⟨r1, er⟩ : ∃ r, rs[one]? = some r := ⟨_, List.getElem?_eq_getElem (by rw [ad.len]; exact on)⟩
      have hr1 := ad.rows one r1 er
      have hS : SqL K H aa (rs.map V.ref) := .inl (.inl ad.at_)
      refine ⟨_, rfl, p, T.C, dx, _, _, rfl, h1, T.cls, T.nA, flds_a _ _ _, _, rfl, aa, _, _, _, rfl, rfl, hS, at1 (by rw [List.getElem?_map, er]; rfl), r1, rfl, ⟨_, .inl (.inl hr1)⟩, ?_⟩
      refine for_it (walk_list (xs := numsV (adj one))) (fun j σ H1 => ∃ x3 Sc len', σ = [some (.ref p), some (.int (one : Nat)), some (.ref m), x3] ∧ PairAt T.C H1 p aa bb ff n adj A B ∧ DS H1 m n Sc len' ∧ len ≤ len' ∧ Sofar (Ed n adj) A S Sc ∧ (∀ r ∈ (adj one).take j, Sc r) ∧ But [bb, ff, m] H H1 ∧ H1 r1 = some (.lst (numsV (adj one))))
        ⟨none, S, len, rfl, pr, ms, Nat.le_refl _, Sofar.refl _ _ _, by simp, But.refl _ _, hr1⟩ (fun j σ H1 _ ⟨_, _, _, _, _, _, _, _, _, _, e⟩ => .inl (.inl e)) ?_ ?_
      · rintro j x σ H0 H1 hj ⟨x3, Sc, len', rfl, pr1, ms1, hle, sf, hpre, bt, er1⟩ ⟨rfl, hx⟩
        have hja : j < (adj one).length := by
          rw [numsV, List.length_map] at hj
          exact hj
        obtain ⟨other, eo⟩ : ∃ o, (adj one)[j]? = some o := ⟨_, List.getElem?_eq_getElem hja⟩
        have hxo : x = V.int (other : Nat) := by
          rw [numsV, List.getElem?_map, eo] at hx
          exact (Option.some.inj hx).symm
        subst hxo
        have hmem : other ∈ adj one := List.mem_of_getElem? eo
        have hon : other < n := ad.lt one on other hmem
        have hE : Ed n adj one other := ⟨on, hmem⟩
        have tk : (adj one).take (j + 1) = (adj one).take j ++ [other] := by
          rw [List.take_add_one, eo]
          rfl
        obtain ⟨kvm, em, hm⟩ := ms1.has
        -- if other not in met
        refine ⟨_, rfl, _, rfl, m, _, rfl, DGet.k (k := ki other) em, _, rfl, ?_⟩
        by_cases hs : Sc other
        · rw [(hm other).mpr hs]
          refine iteF ⟨_, Sc, len', rfl, pr1, ms1, hle, sf, fun r hr => ?_, bt, er1⟩
          rw [tk] at hr
          rcases List.mem_append.mp hr with q | q
          · exact hpre r q
          · rw [List.mem_singleton.mp q]
            exact hs
        · obtain ⟨kvm2, em2, el2, hlt2, ev2, ms2⟩ := ms1.put hon hs
          rw [em] at em2
          cases em2
          rw [ev2]
          refine iteT ?_
          -- met[other] = True
          refine ⟨_, rfl, _, rfl, m, _, rfl, DPut.k (k := ki other) em (small1000 (by omega)), ?_⟩
          generalize hH2' : upd H1 m (HO.dK (putK kvm (ki other) (V.bl true))) = H2
          rw [hH2'] at ms2
          have pr2 : PairAt T.C H2 p aa bb ff n adj A B := by
            rw [← hH2']
            exact pr1.keep (upd_nd em) (upd_ne (Ne.symm mb)) (upd_ne (Ne.symm mf))
          have bt2 : But [bb, ff, m] H H2 := by
            rw [← hH2']
            exact bt.trans (But.upd (by simp))
          have er2 : H2 r1 = some (.lst (numsV (adj one))) := by
            rw [← hH2']
            exact upd_nd em _ _ er1 trivial
          obtain ⟨⟨dy, g1⟩, _, _, ⟨kvf, hf⟩, _⟩ := id pr2
          -- what ends with True
          have fin : ∀ (A1 B1 : Nat → Option Nat) (H3 : Hp), PairAt T.C H3 p aa bb ff n adj A1 B1 → But [bb, ff, m] H H3 → Won (Ed n adj) A B CA CB one S (put A1 other one) (put B1 one other) →
              tSeq (sDPut (tFld K (tVar 0) "ahead_of") (tVar 3) (tVar 1)) (tSeq (sDPut (tFld K (tVar 0) "behind_of") (tVar 1) (tVar 3)) (tRet (tC (.bl true)))) { nx := fun _ _ => False, rt := Q }
                [some (.ref p), some (.int (one : Nat)), some (.ref m), some (.int (other : Nat))] H3 := fun A1 B1 H3 pr3 bt3 wn => by
            obtain ⟨⟨dz, g2⟩, _, _, _, _⟩ := id pr3
            obtain ⟨kf, ekf, lkf, pr4⟩ := pr3.putA (v := one) hon
            refine ⟨_, rfl, _, rfl, p, T.C, dz, _, _, rfl, g2, T.cls, T.nF, flds_f _ _ _, _, rfl, ff, _, rfl, DPut.k (k := ki other) ekf (small1000 (by omega)), ?_⟩
            obtain ⟨⟨dw, g3⟩, _, _, _, _⟩ := id pr4
            obtain ⟨kb, ekb, lkb, pr5⟩ := pr4.putB (v := other) on
            refine ⟨_, rfl, _, rfl, p, T.C, dw, _, _, rfl, g3, T.cls, T.nB, flds_b _ _ _, _, rfl, bb, _, rfl, DPut.k (k := ki one) ekb (small1000 (by omega)), ?_⟩
            exact qW _ _ _ wn pr5 ((bt3.trans (But.upd (by simp))).trans (But.upd (by simp)))
          -- if other not in self.ahead_of or ..
          refine ⟨_, rfl, _, rfl, p, T.C, dy, _, _, rfl, g1, T.cls, T.nF, flds_f _ _ _, ff, _, rfl, DGet.k (k := ki other) hf.at_, _, rfl, ?_⟩
          rw [show valV kvf (ki other) = vi A other from hf.val other]
          cases eA : A other with
          | none =>
            rw [show vi A other = none by unfold vi; rw [eA]; rfl]
            refine iteT (iteT ?_)
            have := fin A B H2 pr2 bt2 (won_free gd sf pre hE hs eA)
            exact this
          | some l =>
            rw [show vi A other = some (V.int (l : Nat)) by unfold vi; rw [eA]; rfl]
            refine iteF ?_
            have hln : l < n := (gd.edge _ _ eA).1
            refine ⟨_, rfl, p, dy, _, rfl, g1, flds_no _ _ _ (by decide +kernel) (by decide +kernel) (by decide +kernel), _, rfl, p, T.C, dy, _, _, rfl, g1, T.cls, T.nF, flds_f _ _ _, _, rfl, ff, V.int (l : Nat), rfl, ?_, _, rfl, ?_⟩
            · have := DGet.k (k := ki other) hf.at_
              rw [show valV kvf (ki other) = some (V.int (l : Nat)) by rw [hf.val]; unfold vi; rw [eA]; rfl] at this
              exact this
            refine ⟨p, aa, bb, ff, m, n, l, i, len' + 1, adj, A, B, CA, CB, With Sc other, rfl, ⟨pr2, ms2, mb, mf, n40, hln, gd, pre_rec gd eA⟩, by omega, fun A1 B1 H3 wn pr3 bt3 => ?_, fun S2 len2 H3 ls pr3 ms3 hle3 bt3 => ?_⟩
            · refine ⟨_, rfl, iteT ?_⟩
              have := fin A1 B1 H3 pr3 (bt2.trans bt3) (won_rec gd sf pre hE hs eA wn)
              exact this
            · refine ⟨_, rfl, iteF ?_⟩
              obtain ⟨q1, q2⟩ := sofar_has sf ls
              obtain ⟨rs3, ad3⟩ := pr3.ad
              refine ⟨_, S2, len2, rfl, pr3, ms3, by omega, sofar_rec sf eA ls, fun r hr => ?_, bt2.trans bt3, ?_⟩
              · rw [tk] at hr
                rcases List.mem_append.mp hr with q | q
                · exact q2 r (hpre r q)
                · rw [List.mem_singleton.mp q]
                  exact q1
              · refine bt3 _ _ er2 fun z => ?_
                rcases List.mem_cons.mp z with e | z
                · obtain ⟨kv, hb⟩ := pr2.bh
                  rw [e, hb.at_] at er2
                  cases er2
                · rcases List.mem_cons.mp z with e | z
                  · rw [e, hf.at_] at er2
                    cases er2
                  · obtain ⟨kv, hb, _⟩ := ms2.has
                    rw [List.mem_singleton.mp z, hb] at er2
                    cases er2
      · rintro σ H1 ⟨x3, Sc, len', rfl, pr1, ms1, hle, sf, hpre, bt, _⟩
        refine qL Sc len' H1 ⟨sf, fun r hr => ?_⟩ pr1 ms1 hle bt
        rw [List.take_of_length_le (by unfold numsV; rw [List.length_map]; exact Nat.le_refl _)] at hpre
        exact hpre r hr.2
end
end LT
end
section
set_option Elab.async false
set_option linter.all false
set_option maxRecDepth 100000
set_option maxHeartbeats 4000000
/-! Pairing: __init__, reached -/
namespace LT
open PySem PySem.Spec PyProof.Rows L2
section
variable {P : Program} {w : World} {K : PySem.W.Frag} {mg : Str → Option Value} {base : Heap} {cL : Addr}
theorem putF_len (x : Str) (v : V) (l : List (Str × V)) : (putF x v l).length ≤ l.length + 1 := by
  induction l with
  | nil => exact Nat.le_refl _
  | cons q l ih =>
    obtain ⟨k, u⟩ := q
    show (if k = x then (k, v) :: l else (k, u) :: putF x v l).length ≤ _
    split
    · simp
    · simpa using ih
theorem few1 (x : Str) (v : V) : (putF x v []).length < 1000 := Nat.lt_of_le_of_lt (putF_len x v []) (by decide)
theorem few2 (x y : Str) (v u : V) : (putF x v (putF y u [])).length < 1000 := Nat.lt_of_le_of_lt (putF_len x v _) (Nat.lt_of_le_of_lt (Nat.succ_le_succ (putF_len y u [])) (by decide))
def spInit (C : Addr) : Sp := fun vs H Q _ => ∃ (p dx aa : Addr) (n : Nat) (adj : Nat → List Nat) (rs : List Addr), vs = [.ref p, .ref aa] ∧ H p = some (.ins C dx []) ∧ Adj H aa n adj rs ∧ n ≤ 40 ∧
  ∀ (bb ff : Addr) (A B : Nat → Option Nat) (CA CB : Nat → Prop) (H' : Hp), Good (Ed n adj) n A B CA CB → PairAt C H' p aa bb ff n adj A B → (∀ c o, H c = some o → c ≠ p → H' c = some o) → Q .non H'
theorem scInit : FnScope ["self", "ahead", "one"] ["self", "ahead"] (defScope (inClass (topS 23) 0)) := ⟨rfl, rfl, rfl, by decide +kernel, rfl, by decide +kernel, by decide +kernel⟩
theorem ok_init (T : Txt K mg cL) : FnOk P w K mg base CX0 43 T.init.f T.init.fd ["self", "ahead"] (spInit T.C) := by
  refine T.init.F.ok scInit (fun vs H Q E h => ?_) (fun cdv A0 outer s H vs Q E hr h => ?_)
  · obtain ⟨p, dx, aa, n, adj, rs, rfl, _⟩ := h
    rfl
  · obtain ⟨p, dx, aa, n, adj, rs, rfl, hp, ad, h40, q⟩ := h
    have dG := ok_grown (P := P) (w := w) (base := base) T 41
    have nd := scInit.nd
    refine ⟨_, pss_cons (ps_fld (pv 0) (pv 1) rfl) (pss_cons (ps_fld (pv 0) pe_dnewK rfl) (pss_cons (ps_fld (pv 0) pe_dnewK rfl)
      (pss_one (ps_for PassesOwn.never rfl (pi_range1 (by rfl) T.range (pa_cons (pe_callB call_len_seq (by rfl) T.len PySem.boot_len (pa_cons (pv 1) pa_nil)) pa_nil)) (pg_name (i := 2) nd rfl (.inl rfl))
        (pss_one (ps_expr (pe_meth (pv 0) T.cls T.grown.m dG hr T.grown.b .nil pass0 (pa_cons (pv 2) (pa_cons pe_dnewK pa_nil))))))))), ?_⟩
    refine ⟨_, rfl, _, rfl, p, T.C, dx, _, rfl, hp, T.cls, T.nA, by decide, ?_⟩
    have pa : p ≠ aa := ne_of hp ad.at_ (by intro z; cases z)
    have pr : ∀ i r, rs[i]? = some r → p ≠ r := fun i r e => ne_of hp (ad.rows i r e) (by intro z; cases z)
    intro bb hbb
    have pb : p ≠ bb := fun z => by rw [z, upd_same] at hbb; cases hbb
    refine ⟨_, rfl, p, T.C, dx, _, rfl, (by rw [upd_ne pb, upd_same]), T.cls, T.nB, few1 _ _, ?_⟩
    intro ff hff
    have pf : p ≠ ff := fun z => by rw [z, upd_same] at hff; cases hff
    have bf : bb ≠ ff := fun z => by rw [← z, upd_ne (Ne.symm pb), upd_same] at hff; cases hff
    refine ⟨_, rfl, p, T.C, dx, _, rfl, (by rw [upd_ne pf, upd_same]), T.cls, T.nF, few2 _ _ _ _, ?_⟩
    have hbb0 : H bb = none := by
      rw [upd_ne (Ne.symm pb)] at hbb
      exact hbb
    have hff0 : H ff = none := by
      rw [upd_ne (Ne.symm pf), upd_ne (Ne.symm bf), upd_ne (Ne.symm pf)] at hff
      exact hff
    generalize hH1 : upd (upd (upd (upd (upd H p _) bb _) p _) ff _) p _ = H1
    have keep : ∀ c o, H c = some o → c ≠ p → H1 c = some o := fun c o e n => by
      rw [← hH1, upd_ne n, upd_ne (ne_of_none e hff0), upd_ne n, upd_ne (ne_of_none e hbb0), upd_ne n]
      exact e
    have pr1 : PairAt T.C H1 p aa bb ff n adj (fun _ => none) (fun _ => none) := by
      refine ⟨⟨dx, ?_⟩, ⟨rs, keep _ _ ad.at_ (Ne.symm pa), ad.len, fun i r e => keep _ _ (ad.rows i r e) (Ne.symm (pr i r e)), ad.lt, ad.few⟩, ⟨[], DV.new ?_⟩, ⟨[], DV.new ?_⟩, bf⟩
      · rw [← hH1, upd_same]
        rfl
      · rw [← hH1, upd_ne (Ne.symm pb), upd_ne bf, upd_ne (Ne.symm pb), upd_same]
      · rw [← hH1, upd_ne (Ne.symm pf), upd_same]
    have hS1 : SqL K H1 aa (rs.map V.ref) := .inl (.inl (keep _ _ ad.at_ (Ne.symm pa)))
    refine ⟨_, rfl, aa, _, rfl, .inl hS1, _, rfl, by rw [List.length_map, ad.len]; omega, by rw [List.length_map, ad.len]; omega, for_it walk_range (fun i σ H2 => ∃ x2 A B CA CB, σ = [some (.ref p), some (.ref aa), x2] ∧ Good (Ed n adj) i A B CA CB ∧ PairAt T.C H2 p aa bb ff n adj A B ∧ (∀ c o, H c = some o → c ≠ p → H2 c = some o))
      ⟨_, _, _, _, _, rfl, Good.start _, pr1, keep⟩ (fun _ _ _ _ _ => trivial) ?_ ?_⟩
    · rintro i x σ H2 H3 hi ⟨x2, A, B, CA, CB, rfl, gd, pr2, kp⟩ ⟨rfl, rfl⟩
      obtain ⟨⟨dy, g1⟩, _, ⟨kvb, hb⟩, ⟨kvf, hf⟩, _⟩ := id pr2
      have hin : i < n := by
        rw [List.length_map, ad.len] at hi
        omega
      refine ⟨_, rfl, p, dy, _, rfl, g1, flds_no _ _ _ (by decide +kernel) (by decide +kernel) (by decide +kernel), _, rfl, fun m hm => ?_⟩
      have mb : m ≠ bb := fun z => by rw [z, hb.at_] at hm; cases hm
      have mf : m ≠ ff := fun z => by rw [z, hf.at_] at hm; cases hm
      have pr3 : PairAt T.C (upd H3 m (.dK [])) p aa bb ff n adj A B := pr2.keep (fun c o e _ => same_upd hm _ _ e) (upd_ne (Ne.symm mb)) (upd_ne (Ne.symm mf))
      have kp4 : ∀ H4, But [bb, ff, m] (upd H3 m (.dK [])) H4 → ∀ c o, H c = some o → c ≠ p → H4 c = some o := fun H4 bt c o e n => by
        refine bt _ _ (same_upd hm _ _ (kp c o e n)) fun z => ?_
        rcases List.mem_cons.mp z with z | z
        · rw [z, hbb0] at e
          cases e
        · rcases List.mem_cons.mp z with z | z
          · rw [z, hff0] at e
            cases e
          · rw [List.mem_singleton.mp z] at e n
            rw [kp m o e n] at hm
            cases hm
      refine ⟨p, aa, bb, ff, m, n, i, i, 0, adj, A, B, CA, CB, fun _ => False, (by show [V.ref p, V.int (0 + (i : Int)), V.ref m] = _; rw [Int.zero_add]), ⟨pr3, ⟨_, [], DV.new upd_same, rfl, fun i => by simp⟩, mb, mf, h40, hin, gd, fun r e => ?_⟩, by omega, fun A1 B1 H4 wn pr4 bt => ?_, fun S1 len1 H4 ls pr4 ms4 _ bt => ?_⟩
      · have := gd.lt _ _ e
        omega
      · exact ⟨_, A1, B1, _, _, rfl, gd.won wn, pr4, kp4 _ bt⟩
      · exact ⟨_, A, B, _, _, rfl, gd.lost ls, pr4, kp4 _ bt⟩
    · rintro σ H2 ⟨x2, A, B, CA, CB, rfl, gd, pr2, kp⟩
      rw [show ((((rs.map V.ref).length : Nat) : Int)).toNat = n by rw [List.length_map, ad.len]; omega] at gd
      exact q bb ff A B CA CB H2 gd pr2 kp
end
end LT
end
section
set_option Elab.async false
set_option linter.all false
set_option maxRecDepth 100000
set_option maxHeartbeats 4000000
/-! Pairing.reached -/
namespace LT
open PySem PySem.Spec PyProof.Rows L2
section
variable {P : Program} {w : World} {K : PySem.W.Frag} {mg : Str → Option Value} {base : Heap} {cL : Addr}
theorem DS.set {H : Hp} {d : Addr} {n x len : Nat} {S : Nat → Prop} (h : DS H d n S len) (hx : x < n) (v : V) : ∃ kvs len', H d = some (.dK kvs) ∧ kvs.length ≤ n ∧ DS (upd H d (.dK (putK kvs (ki x) v))) d n (With S x) len' := by
  obtain ⟨f, kvs, h1, h2, h3⟩ := h
  refine ⟨kvs, _, h1.at_, h1.len, _, _, h1.put hx v, rfl, fun i => ?_⟩
  by_cases e : i = x
  · rw [if_pos e]
    exact ⟨fun _ => .inl e, fun _ => rfl⟩
  · rw [if_neg e]
    exact ⟨fun q => .inr ((h3 i).mp q), fun q => (h3 i).mpr (q.resolve_left e)⟩
theorem DS.len_le {H : Hp} {d : Addr} {n len : Nat} {S : Nat → Prop} (h : DS H d n S len) : len ≤ n := by
  obtain ⟨f, kvs, h1, h2, h3⟩ := h
  have := h1.len
  omega
theorem fm_filter (c : Nat → Bool) (l : List Nat) : l.filterMap (fun i => if c i = true then some (V.int (i : Nat)) else none) = numsV (l.filter c) := by
  induction l with
  | nil => rfl
  | cons a l ih =>
    rw [List.filterMap_cons, List.filter_cons]
    cases e : c a with
    | true => simp [numsV, ih]
    | false => simp [ih]
theorem dpAll_nums (K : PySem.W.Frag) (H : Hp) : ∀ l : List Nat, DpAll K H (numsV l) ((l.map Int.ofNat).map PyData.int)
  | [] => .nil
  | a :: l => .cons (.int _) (dpAll_nums K H l)
theorem eqv_nil (ds : List PyData) : PyData.eqv (.list ds) (.list []) = decide (ds = []) := by
  cases ds with
  | nil => rfl
  | cons a l => simp [PyData.eqv, PyData.eqvAll]
/-- a list of numbers against the empty one -/
theorem ne_nil {K : PySem.W.Frag} {H : Hp} {r e : Addr} {l : List Nat} {Q : VK} (h : H r = some (.lst (numsV l))) (he : H e = some (.lst [])) (q : Q (.bl (!decide (l = []))) H) : rNeD K (.ref r) (.ref e) H Q := by
  refine ⟨.list ((l.map Int.ofNat).map PyData.int), .list [], .lst (.inl (.inl h)) (dpAll_nums K H l), .lst (.inl (.inl he)) .nil, PySem.W.ke_shaped_ints _, rfl, ?_⟩
  rw [eqv_nil]
  have : decide ((l.map Int.ofNat).map PyData.int = []) = decide (l = []) := by
    cases l <;> rfl
  rw [this]
  exact q
def spReached (C : Addr) : Sp := fun vs H Q _ => ∃ (p aa bb ff : Addr) (n : Nat) (adj : Nat → List Nat) (A B : Nat → Option Nat) (CA CB : Nat → Prop), vs = [.ref p] ∧ PairAt C H p aa bb ff n adj A B ∧ n ≤ 40 ∧ Good (Ed n adj) n A B CA CB ∧
  ∀ (t f1 s2 : Addr) (S1 S2 : Nat → Prop) (l1 l2 : Nat) (H' : Hp), Same H H' → H' t = some (.tup [.ref f1, .ref s2]) → DS H' f1 n S1 l1 → DS H' s2 n S2 l2 → Q (.ref t) H'
theorem scReached : FnScope ["self", "firsts", "seconds", "row", "one", "other"] ["self"] (defScope (inClass (topS 23) 2)) := ⟨rfl, rfl, rfl, by decide +kernel, rfl, by decide +kernel, by decide +kernel⟩
structure Rch (H : Hp) (f1 s2 rr : Addr) (n : Nat) (CA S1 S2 : Nat → Prop) (l1 l2 : Nat) (l : List Nat) (H1 : Hp) : Prop where
  same : Same H H1
  d1 : DS H1 f1 n S1 l1
  d2 : DS H1 s2 n S2 l2
  row : H1 rr = some (.lst (numsV l))
  ok : ∀ x ∈ l, x < n ∧ ¬ CA x
  few : l.length ≤ n + l2
theorem Rch.putRow {H : Hp} {f1 s2 rr : Addr} {n : Nat} {CA S1 S2 : Nat → Prop} {l1 l2 : Nat} {l l' : List Nat} {H1 : Hp} (h : Rch H f1 s2 rr n CA S1 S2 l1 l2 l H1) (h0 : H rr = none) (n1 : f1 ≠ rr) (n2 : s2 ≠ rr) (ok : ∀ x ∈ l', x < n ∧ ¬ CA x) (fw : l'.length ≤ n + l2) : Rch H f1 s2 rr n CA S1 S2 l1 l2 l' (upd H1 rr (.lst (numsV l'))) :=
  ⟨fun c o e => by rw [upd_ne (ne_of_none e h0)]; exact h.same _ _ e, h.d1.keep (upd_ne n1), h.d2.keep (upd_ne n2), upd_same, ok, fw⟩
theorem Rch.put1 {H : Hp} {f1 s2 rr : Addr} {n x : Nat} {CA S1 S2 : Nat → Prop} {l1 l2 : Nat} {l : List Nat} {H1 : Hp} (h : Rch H f1 s2 rr n CA S1 S2 l1 l2 l H1) (h0 : H f1 = none) (n1 : f1 ≠ rr) (n2 : f1 ≠ s2) (hx : x < n) :
    ∃ kvs l1', H1 f1 = some (.dK kvs) ∧ kvs.length ≤ n ∧ Rch H f1 s2 rr n CA (With S1 x) S2 l1' l2 l (upd H1 f1 (.dK (putK kvs (ki x) (.bl true)))) := by
  obtain ⟨kvs, l1', a, b, c⟩ := h.d1.set hx (.bl true)
  exact ⟨kvs, l1', a, b, fun c o e => by rw [upd_ne (ne_of_none e h0)]; exact h.same _ _ e, c, h.d2.keep (upd_ne (Ne.symm n2)), (upd_ne (Ne.symm n1)).trans h.row, h.ok, h.few⟩
theorem Rch.put2 {H : Hp} {f1 s2 rr : Addr} {n x : Nat} {CA S1 S2 : Nat → Prop} {l1 l2 : Nat} {l : List Nat} {H1 : Hp} (h : Rch H f1 s2 rr n CA S1 S2 l1 l2 l H1) (h0 : H s2 = none) (n1 : s2 ≠ rr) (n2 : f1 ≠ s2) (hx : x < n) (hn : ¬ S2 x) :
    ∃ kvs, H1 s2 = some (.dK kvs) ∧ kvs.length = l2 ∧ l2 < n ∧ valV kvs (ki x) = none ∧ Rch H f1 s2 rr n CA S1 (With S2 x) l1 (l2 + 1) l (upd H1 s2 (.dK (putK kvs (ki x) (.bl true)))) := by
  obtain ⟨kvs, a, b, c, d, e⟩ := h.d2.put hx hn
  exact ⟨kvs, a, b, c, d, fun c o e => by rw [upd_ne (ne_of_none e h0)]; exact h.same _ _ e, h.d1.keep (upd_ne n2), e, (upd_ne (Ne.symm n1)).trans h.row, h.ok, Nat.le_succ_of_le h.few⟩
theorem ok_reached (T : Txt K mg cL) : FnOk P w K mg base CX0 1 T.reached.f T.reached.fd ["self"] (spReached T.C) := by
  refine T.reached.F.ok scReached (fun vs H Q E h => ?_) (fun cdv A0 outer s H vs Q E hr h => ?_)
  · obtain ⟨p, aa, bb, ff, n, adj, A, B, CA, CB, rfl, _⟩ := h
    rfl
  · obtain ⟨p, aa, bb, ff, n, adj, A, B, CA, CB, rfl, pr, h40, gd, q⟩ := h
    have hu := hu_of hr
    have nd := scReached.nd
    refine ⟨_, pss_cons (ps_set (i := 1) nd rfl (.inl rfl) pe_dnewK) (pss_cons (ps_set (i := 2) nd rfl (.inl rfl) pe_dnewK)
      (pss_cons (ps_setLc (i := 3) (own := [("one", 4)]) (g := gName 4) (tt := tB (tDNotIn (tVar 4) (tFld K (tVar 0) "behind_of"))) (te := tVar 4) rfl nd rfl rfl (sw_true rfl rfl rfl (by decide +kernel)) (pi_range1 (by rfl) T.range (pa_cons (pe_callB call_len_seq (by rfl) T.len PySem.boot_len (pa_cons (pe_fld (pv 0) rfl) pa_nil)) pa_nil)) (blkOk_by (N := ["self", "firsts", "seconds", "row", "one", "other"]) (sc := defScope (inClass (topS 23) 2)) (by decide +kernel))
        (fun _ _ _ _ _ => pg_name (i := 4) nd rfl (Or.inl rfl)) (fun _ _ _ _ _ => pts_one (pt_cmp (pc_dnotin hu (pv 4) (pe_fld (pv 0) rfl)))) (fun _ _ _ _ _ => pv 4))
      (pss_cons (ps_while PassesOwn.never (pt_cmpR (op_neD hr.units) (pv 3) (pe_lst pa_nil) (nomark _))
        (pss_cons (ps_set (i := 4) nd rfl (.inl rfl) (pe_bm0 PySem.F.plainAttrs_list PySem.F.slot_list_pop PySem.F.type_list_pop mt_pop (pv 3)))
        (pss_cons (ps_dput hu (pv 1) (pv 4) pe_bl rfl)
        (pss_one (ps_for PassesOwn.never rfl (pi_list (pe_ix ix_list (pe_fld (pv 0) rfl) (pv 4) (fun _ _ => rfl))) (pg_name (i := 5) nd rfl (.inl rfl))
          (pss_one (ps_if (pt_cmp (pc_dnotin hu (pv 5) (pv 2)))
            (pss_cons (ps_dput hu (pv 2) (pv 5) pe_bl rfl)
            (pss_one (ps_if (pt_cmp (pc_dnotin hu (pe_dget hu (pe_fld (pv 0) rfl) (pv 5) (fun _ _ => rfl)) (pv 1)))
              (pss_one (ps_expr (pe_bm PySem.F.plainAttrs_list PySem.F.slot_list_append PySem.F.type_list_append mt_append (pv 3) (pa_cons (pe_dget hu (pe_fld (pv 0) rfl) (pv 5) (fun _ _ => rfl)) pa_nil)))) pss_nil))) pss_nil)))))))
      (pss_one (ps_ret (pe_tup (pa_cons (pv 1) (pa_cons (pv 2) pa_nil)))))))), ?_⟩
    obtain ⟨⟨dx, h1⟩, ⟨rs, ad⟩, ⟨kvb, hb⟩, ⟨kvf, hf⟩, nbf⟩ := id pr
    intro f1 hf1 s2 hs2
    have f1s2 : f1 ≠ s2 := fun z => by rw [z, upd_same] at hs2; cases hs2
    have sA : Same H (upd H f1 (.dK [])) := same_upd hf1
    have sB : Same (upd H f1 (.dK [])) (upd (upd H f1 (.dK [])) s2 (.dK [])) := same_upd hs2
    have sC := sA.trans sB
    generalize hHC : upd (upd H f1 (.dK [])) s2 (.dK []) = HC at sB sC
    have hs20 : H s2 = none := sA.free hs2
    have hf1C : HC f1 = some (.dK []) := by rw [← hHC, upd_ne f1s2, upd_same]
    have hs2C : HC s2 = some (.dK []) := by rw [← hHC, upd_same]
    have hSA : SqL K HC aa (rs.map V.ref) := .inl (.inl (sC _ _ ad.at_))
    refine ⟨_, rfl, p, T.C, dx, _, _, rfl, sC _ _ h1, T.cls, T.nA, flds_a _ _ _, aa, _, rfl, .inl hSA, _, rfl, by rw [List.length_map, ad.len]; omega, by rw [List.length_map, ad.len]; omega, fun rr hrr => lc_kp walk_range hrr (fun i => if (B i).isNone = true then some (V.int (i : Nat)) else none) (fun _ _ => trivial) (fun i x H3 H2 hi kp y => ?_) fun H2 kp => ?_⟩
    · obtain ⟨rfl, rfl⟩ := y
      have hin : i < n := by
        rw [List.length_map, ad.len] at hi
        omega
      refine ⟨rfl, _, rfl, _, rfl, p, T.C, dx, _, _, rfl, kp.same _ _ (sC _ _ h1), T.cls, T.nB, flds_b _ _ _, bb, _, rfl, DGet.k (k := Sum.inl (0 + (i : Int))) (kp.same _ _ (sC _ _ hb.at_)), _, rfl, ?_⟩
      have e0 : valV kvb (Sum.inl (0 + (i : Int))) = vi B i := by
        rw [Int.zero_add]
        exact hb.val i
      rw [e0]
      cases eB : B i with
      | none =>
        rw [show (!(vi B i).isSome) = true by unfold vi; rw [eB]; rfl]
        refine ⟨_, rfl, ?_⟩
        exact kp.add hrr (by omega) (by rw [eB]; show some (V.int (i : Int)) = some (V.int (0 + (i : Int))); rw [Int.zero_add]) (Same.refl _)
      | some r =>
        rw [show (!(vi B i).isSome) = false by unfold vi; rw [eB]; rfl]
        exact kp.skip (by rw [eB]; rfl) (Same.refl _)
    have e2 := kp.at_
    rw [show ((((rs.map V.ref).length : Nat) : Int)).toNat = n by rw [List.length_map, ad.len]; omega, fm_filter] at e2
    have hfl : ((List.range n).filter fun i => (B i).isNone).length ≤ n := by
      have := List.length_filter_le (fun i => (B i).isNone) (List.range n)
      rwa [List.length_range] at this
    have rch0 : Rch H f1 s2 rr n CA (fun _ => False) (fun _ => False) 0 0 ((List.range n).filter fun i => (B i).isNone) H2 :=
      ⟨sC.trans kp.same, ⟨_, [], DV.new (kp.same _ _ hf1C), rfl, fun i => by simp⟩, ⟨_, [], DV.new (kp.same _ _ hs2C), rfl, fun i => by simp⟩, e2, fun x hx => by
        obtain ⟨h1, h2⟩ := List.mem_filter.mp hx
        exact ⟨List.mem_range.mp h1, gd.free (by simpa using h2)⟩, by omega⟩
    have hrr0 : H rr = none := sC.free hrr
    have f1rr : f1 ≠ rr := fun z => by rw [z] at hf1C; rw [hf1C] at hrr; cases hrr
    have s2rr : s2 ≠ rr := fun z => by rw [z] at hs2C; rw [hs2C] at hrr; cases hrr
    refine ⟨fun m σ H3 => ∃ x4 x5 S1 S2 l1 l2 l, σ = [some (.ref p), some (.ref f1), some (.ref s2), some (.ref rr), x4, x5] ∧ Rch H f1 s2 rr n CA S1 S2 l1 l2 l H3 ∧ m = (n - l2) + l.length, ⟨_, _, _, _, _, _, _, _, rfl, rch0, rfl⟩, ?_⟩
    rintro m σ H3 ⟨x4, x5, S1, S2, l1, l2, l, rfl, rc, rfl⟩
    refine ⟨_, rfl, Nat.zero_le _, fun em hem => ?_⟩
    have sE : Same H3 (upd H3 em (.lst [])) := same_upd hem
    refine ne_nil (l := l) (sE _ _ rc.row) upd_same ⟨_, rfl, ?_⟩
    generalize upd H3 em (.lst []) = H4 at sE
    have rc4 : Rch H f1 s2 rr n CA S1 S2 l1 l2 l H4 := by
      obtain ⟨a1, ⟨g1, k1, b1⟩, ⟨g2, k2, b2⟩, a4, a5, a6⟩ := rc
      exact ⟨a1.trans sE, ⟨g1, k1, ⟨sE _ _ b1.1.at_, b1.1.nd, b1.1.lt, b1.1.val⟩, b1.2⟩, ⟨g2, k2, ⟨sE _ _ b2.1.at_, b2.1.nd, b2.1.lt, b2.1.val⟩, b2.2⟩, sE _ _ a4, a5, a6⟩
    have hl2 := rc4.d2.len_le
    rcases l.eq_nil_or_concat with rfl | ⟨l0, one, rfl⟩
    · -- the end
      refine iteF ⟨_, rfl, _, rfl, line8 (by show 2 ≤ 1000; decide), fun t ht => ?_⟩
      have sT : Same H4 (upd H4 t (.tup [.ref f1, .ref s2])) := same_upd ht
      obtain ⟨a1, ⟨g1, k1, b1⟩, ⟨g2, k2, b2⟩, a4, a5, a6⟩ := rc4
      exact q t f1 s2 S1 S2 _ _ _ (a1.trans sT) upd_same ⟨g1, k1, ⟨sT _ _ b1.1.at_, b1.1.nd, b1.1.lt, b1.1.val⟩, b1.2⟩ ⟨g2, k2, ⟨sT _ _ b2.1.at_, b2.1.nd, b2.1.lt, b2.1.val⟩, b2.2⟩
    · rw [show decide (l0.concat one = []) = false by rw [List.concat_eq_append]; simp]
      refine iteT ⟨fun σ' H' => ∃ x4 x5 S1 S2 l1 l2' l', σ' = [some (.ref p), some (.ref f1), some (.ref s2), some (.ref rr), x4, x5] ∧ Rch H f1 s2 rr n CA S1 S2 l1 l2' l' H' ∧ (n - l2') + l'.length < (n - l2) + (l0.concat one).length, fun σ' H' ⟨x4, x5, S1, S2, l1, l2', l', e1, e2, e3⟩ => ⟨_, e3, x4, x5, S1, S2, l1, l2', l', e1, e2, rfl⟩, ?_⟩
      obtain ⟨hon, hca⟩ := rc4.ok one (by rw [List.concat_eq_append]; simp)
      have epop : (numsV (l0.concat one)).length = l0.length + 1 := by
        unfold numsV
        rw [List.length_map, List.concat_eq_append, List.length_append]
        rfl
      have enum : numsV (l0.concat one) = numsV l0 ++ [V.int (one : Nat)] := by
        rw [List.concat_eq_append]
        unfold numsV
        rw [List.map_append]
        rfl
      have enl : (numsV l0).length = l0.length := by unfold numsV; rw [List.length_map]
      have hrow := rc4.row
      refine ⟨_, rfl, .inl ⟨rfl, _, .inl (.inl hrow)⟩, rr, _, V.int (one : Nat), rfl, rfl, hrow, ?_, ?_⟩
      · rw [enum, List.length_append, enl]
        show (numsV l0 ++ [V.int (one : Nat)])[l0.length + 1 - 1]? = _
        rw [Nat.add_sub_cancel, List.getElem?_append_right (by omega), enl, Nat.sub_self]
        rfl
      · have edl : (numsV (l0.concat one)).dropLast = numsV l0 := by rw [enum, List.dropLast_concat]
        rw [edl]
        have ok0 : ∀ x ∈ l0, x < n ∧ ¬ CA x := fun x hx => rc4.ok x (by rw [List.concat_eq_append]; simp [hx])
        have fw0 : l0.length + 1 ≤ n + l2 := by
          have := rc4.few
          rw [List.concat_eq_append, List.length_append] at this
          exact this
        have rc5 := rc4.putRow hrr0 f1rr s2rr ok0 (by omega)
        generalize upd H4 rr (.lst (numsV l0)) = H5 at rc5
        obtain ⟨kv5, l15, e5, k5, rc6⟩ := rc5.put1 hf1 f1rr f1s2 hon
        refine ⟨_, rfl, _, rfl, f1, _, rfl, DPut.k (k := ki one) e5 (small1000 (by omega)), ?_⟩
        generalize upd H5 f1 (.dK (putK kv5 (ki one) (.bl true))) = H6 at rc6
        obtain ⟨r1, er⟩ : ∃ r, rs[one]? = some r := ⟨_, List.getElem?_eq_getElem (by rw [ad.len]; exact hon)⟩
        have hr1 := ad.rows one r1 er
        have hS6 : SqL K H6 aa (rs.map V.ref) := .inl (.inl (rc6.same _ _ ad.at_))
        refine ⟨_, rfl, p, T.C, dx, _, _, rfl, rc6.same _ _ h1, T.cls, T.nA, flds_a _ _ _, _, rfl, aa, _, _, _, rfl, rfl, hS6, at1 (by rw [List.getElem?_map, er]; rfl), r1, rfl, ⟨_, .inl (.inl (rc6.same _ _ hr1))⟩, ?_⟩
        refine for_it (walk_list (xs := numsV (adj one))) (fun j σ H7 => ∃ x5 S1 S2 l1' l2' l', σ = [some (.ref p), some (.ref f1), some (.ref s2), some (.ref rr), some (.int (one : Nat)), x5] ∧ Rch H f1 s2 rr n CA S1 S2 l1' l2' l' H7 ∧ (n - l2') + l'.length ≤ (n - l2) + l0.length)
          ⟨_, _, _, _, _, _, rfl, rc6, Nat.le_refl _⟩ (fun j σ H7 _ ⟨_, _, _, _, _, _, _, rc, _⟩ => .inl (.inl (rc.same _ _ hr1))) ?_ ?_
        · rintro j x σ H8 H7 hj ⟨x5, S1', S2', l1', l2', l', rfl, rc7, hm⟩ ⟨rfl, hx⟩
          have hja : j < (adj one).length := by
            rw [numsV, List.length_map] at hj
            exact hj
          obtain ⟨other, eo⟩ : ∃ o, (adj one)[j]? = some o := ⟨_, List.getElem?_eq_getElem hja⟩
          have hxo : x = V.int (other : Nat) := by
            rw [numsV, List.getElem?_map, eo] at hx
            exact (Option.some.inj hx).symm
          subst hxo
          have hmem : other ∈ adj one := List.mem_of_getElem? eo
          have hoth : other < n := ad.lt one hon other hmem
          obtain ⟨kv2, em2, hm2⟩ := rc7.d2.has
          refine ⟨_, rfl, _, rfl, s2, _, rfl, DGet.k (k := ki other) em2, _, rfl, ?_⟩
          by_cases hs : S2' other
          · rw [(hm2 other).mpr hs]
            exact iteF ⟨_, _, _, _, _, _, rfl, rc7, hm⟩
          · obtain ⟨kv7, em7, el7, lt7, ev7, rc8⟩ := rc7.put2 hs20 s2rr f1s2 hoth hs
            rw [em2] at em7
            cases em7
            rw [ev7]
            refine iteT ⟨_, rfl, _, rfl, s2, _, rfl, DPut.k (k := ki other) em2 (small1000 (by omega)), ?_⟩
            generalize upd H7 s2 (.dK (putK kv2 (ki other) (.bl true))) = H9 at rc8
            obtain ⟨la, ela, nla, lla⟩ := gd.step hon hca ⟨hon, hmem⟩
            obtain ⟨kv1, em1, hm1⟩ := rc8.d1.has
            have hfA : DGet H9 ff (.int (other : Nat)) (some (V.int (la : Nat))) := by
              have := DGet.k (k := ki other) (rc8.same _ _ hf.at_)
              rw [show valV kvf (ki other) = some (V.int (la : Nat)) by rw [hf.val]; unfold vi; rw [ela]; rfl] at this
              exact this
            refine ⟨_, rfl, p, T.C, dx, _, _, rfl, rc8.same _ _ h1, T.cls, T.nF, flds_f _ _ _, _, rfl, ff, _, rfl, hfA, _, rfl, f1, _, rfl, DGet.k (k := ki la) em1, _, rfl, ?_⟩
            by_cases hs1 : S1' la
            · rw [(hm1 la).mpr hs1]
              exact iteF ⟨_, _, _, _, _, _, rfl, rc8, by omega⟩
            · rw [show (valV kv1 (ki la)).isSome = false by
                cases e : (valV kv1 (ki la)).isSome with
                | false => rfl
                | true => exact (hs1 ((hm1 la).mp e)).elim]
              refine iteT ⟨_, rfl, .inl ⟨rfl, _, .inl (.inl rc8.row)⟩, _, rfl, p, T.C, dx, _, _, rfl, rc8.same _ _ h1, T.cls, T.nF, flds_f _ _ _, _, rfl, ff, _, rfl, hfA, rr, _, _, rfl, rfl, rc8.row, ?_, ?_⟩
              · have := rc8.few
                have := rc7.d2.len_le
                unfold numsV
                rw [List.length_map]
                exact small1000 (by omega)
              · have e9 : numsV l' ++ [V.int (la : Nat)] = numsV (l' ++ [la]) := by
                  unfold numsV
                  rw [List.map_append]
                  rfl
                rw [e9]
                have rc9 := rc8.putRow (l' := l' ++ [la]) hrr0 f1rr s2rr (fun x hx => by
                  rcases List.mem_append.mp hx with q | q
                  · exact rc8.ok x q
                  · rw [List.mem_singleton.mp q]
                    exact ⟨lla, nla⟩) (by
                  have := rc7.few
                  rw [List.length_append, List.length_singleton]
                  omega)
                refine ⟨_, _, _, _, _, _, rfl, rc9, ?_⟩
                rw [List.length_append, List.length_singleton]
                omega
        · rintro σ H7 ⟨x5, S1', S2', l1', l2', l', rfl, rc7, hm⟩
          refine ⟨_, _, _, _, _, _, _, rfl, rc7, ?_⟩
          rw [List.concat_eq_append, List.length_append, List.length_singleton]
          omega
end
end LT
end
section
set_option Elab.async false
set_option linter.all false
set_option maxRecDepth 100000
set_option maxHeartbeats 4000000
/-! fewest -/
namespace LT
open PySem PySem.Spec PyProof.Rows L2
def tr (ts : List Trn) (i : Nat) : Trn := (ts[i]?).getD ⟨Str.empty, 0, 0⟩
theorem tr_of {ts : List Trn} {i : Nat} {t : Trn} (h : ts[i]? = some t) : tr ts i = t := by
  unfold tr
  rw [h]
  rfl
abbrev FlI (gs : List Gate) (d : Nat → Nat → Int) (ts : List Trn) (i j : Nat) : Prop := Fl gs d (tr ts i) (tr ts j)
def adjOf (gs : List Gate) (d : Nat → Nat → Int) (ts : List Trn) (i : Nat) : List Nat := (List.range ts.length).filter fun j => decide (FlI gs d ts i j)
theorem mem_adjOf {gs : List Gate} {d : Nat → Nat → Int} {ts : List Trn} {i j : Nat} : j ∈ adjOf gs d ts i ↔ j < ts.length ∧ FlI gs d ts i j := by
  unfold adjOf
  rw [List.mem_filter, List.mem_range, decide_eq_true_eq]
theorem adjOf_len {gs : List Gate} {d : Nat → Nat → Int} {ts : List Trn} {i : Nat} : (adjOf gs d ts i).length ≤ ts.length := by
  have := List.length_filter_le (fun j => decide (FlI gs d ts i j)) (List.range ts.length)
  rwa [List.length_range] at this
def rkOf (ts : List Trn) (i : Nat) : Nat := (tr ts i).b.toNat
theorem tr_mem {ts : List Trn} {i : Nat} (h : i < ts.length) : tr ts i ∈ ts := by
  rw [tr_of (List.getElem?_eq_getElem h)]
  exact List.getElem_mem h
theorem fl_rk {gs : List Gate} {d : Nat → Nat → Int} {ts : List Trn} (okd : WalksOk gs.length d) (okt : ∀ t ∈ ts, TrnOk gs t) {i j : Nat} (hi : i < ts.length) (hj : j < ts.length) (h : FlI gs d ts i j) : rkOf ts i < rkOf ts j := by
  have a := okt _ (tr_mem hi)
  have b := okt _ (tr_mem hj)
  have c := okd.lo _ _ (ixOf_lt a.name) (ixOf_lt b.name)
  have e : (tr ts i).e + d (ixOf gs (tr ts i).n) (ixOf gs (tr ts j).n) ≤ (tr ts j).b := h
  have := a.lt
  have := a.lo
  have := b.lo
  unfold rkOf
  omega
def RowsAt (H : Hp) (rr : Addr) (rows : List (List Nat)) : Prop := ∃ as : List Addr, H rr = some (.lst (as.map V.ref)) ∧ Paired (fun a row => H a = some (.lst (numsV row))) as rows
theorem RowsAt.keep {H H' : Hp} {rr : Addr} {rows : List (List Nat)} (s : Same H H') (h : RowsAt H rr rows) : RowsAt H' rr rows := by
  obtain ⟨as, e, p⟩ := h
  exact ⟨as, s _ _ e, Paired.mapP p fun _ _ q => s _ _ q⟩
theorem paired_snoc {α β : Type} {G : α → β → Prop} {l : List α} {m : List β} {x : α} {y : β} (h : Paired G l m) (g : G x y) : Paired G (l ++ [x]) (m ++ [y]) := by
  induction h with
  | nil => exact .cons g .nil
  | cons r _ ih => exact .cons r ih
/-- adjacency as it grows -/
structure AdjP (H0 H : Hp) (ah : Addr) (j : Nat) (adj : Nat → List Nat) (rs : List Addr) : Prop where
  same : Same H0 H
  at_ : H ah = some (.lst (rs.map V.ref))
  len : rs.length = j
  rows : ∀ i r, rs[i]? = some r → H r = some (.lst (numsV (adj i)))
theorem AdjP.add {H0 H H3 : Hp} {ah D : Addr} {j : Nat} {adj : Nat → List Nat} {rs : List Addr} (h : AdjP H0 H ah j adj rs) (h0 : H0 ah = none) (s : Same H H3) (hD : H D = none) (e : H3 D = some (.lst (numsV (adj j)))) : H3 ah = some (.lst (rs.map V.ref)) ∧ AdjP H0 (upd H3 ah (.lst (rs.map V.ref ++ [V.ref D]))) ah (j + 1) adj (rs ++ [D]) := by
  have nD : D ≠ ah := fun z => by rw [z, h.at_] at hD; cases hD
  have nr : ∀ i r, rs[i]? = some r → r ≠ ah := fun i r q z => by
    have := h.rows i r q
    rw [z, h.at_] at this
    have e2 := HO.lst.inj (Option.some.inj this)
    cases rs with
    | nil => simp at q
    | cons x l =>
      have hn : numsV (adj i) = V.ref x :: l.map V.ref := e2.symm
      unfold numsV at hn
      cases hq : adj i with
      | nil => rw [hq] at hn; simp at hn
      | cons u v => rw [hq] at hn; simp at hn
  refine ⟨s _ _ h.at_, fun c o q => ?_, ?_, by rw [List.length_append, h.len]; rfl, fun i r q => ?_⟩
  · rw [upd_ne (ne_of_none q h0)]
    exact s _ _ (h.same _ _ q)
  · rw [upd_same, List.map_append]
    rfl
  · by_cases hi : i < rs.length
    · rw [List.getElem?_append_left hi] at q
      rw [upd_ne (nr i r q)]
      exact s _ _ (h.rows i r q)
    · have hil := (List.getElem?_eq_some_iff.mp q).1
      rw [List.length_append, List.length_singleton] at hil
      have : i = rs.length := by omega
      subst this
      rw [List.getElem?_append_right (Nat.le_refl _), Nat.sub_self] at q
      have : D = r := by simpa using q
      subst this
      rw [upd_ne nD, e, h.len]
theorem DS.same {H H' : Hp} {d : Addr} {n len : Nat} {S : Nat → Prop} (h : DS H d n S len) (s : Same H H') : DS H' d n S len := by
  obtain ⟨f, kvs, h1, h2, h3⟩ := h
  exact ⟨f, kvs, ⟨s _ _ h1.at_, h1.nd, h1.lt, h1.val⟩, h2, h3⟩
theorem PairAt.same {C : Addr} {H H' : Hp} {p aa bb ff : Addr} {n : Nat} {adj : Nat → List Nat} {A B : Nat → Option Nat} (h : PairAt C H p aa bb ff n adj A B) (s : Same H H') : PairAt C H' p aa bb ff n adj A B := by
  obtain ⟨_, _, ⟨kv, h3⟩, ⟨kv2, h4⟩, h5⟩ := id h
  exact h.keep (fun c o e _ => s c o e) ((s _ _ h3.at_).trans h3.at_.symm) ((s _ _ h4.at_).trans h4.at_.symm)
theorem Rows.few {A B : Nat → Option Nat} {i : Nat} {rows : List (List Nat)} (h : Rows A B i rows) : rows.length ≤ i := by
  have e := congrArg List.length h.heads
  rw [List.length_map, List.length_map] at e
  have := List.length_filter_le (fun r => (A r).isNone) (List.range i)
  rw [List.length_range] at this
  omega
theorem paired_same {H H' : Hp} {as : List Addr} {rows : List (List Nat)} (s : Same H H') (p : Paired (fun a row => H a = some (.lst (numsV row))) as rows) : Paired (fun a row => H' a = some (.lst (numsV row))) as rows := Paired.mapP p fun _ _ q => s _ _ q
theorem paired_upd {H : Hp} {rr : Addr} {o : HO} : ∀ {as : List Addr} {rows : List (List Nat)}, Paired (fun a row => H a = some (.lst (numsV row))) as rows → (∀ x ∈ as, x ≠ rr) → Paired (fun a row => upd H rr o a = some (.lst (numsV row))) as rows
  | _, _, .nil, _ => .nil
  | _, _, .cons r t, n => .cons ((upd_ne (n _ (by simp))).trans r) (paired_upd t fun x hx => n x (List.mem_cons_of_mem _ hx))
theorem nodup_rk {rk : Nat → Nat} {l : List Nat} (h : l.Pairwise fun a b => rk a < rk b) : l.Nodup := h.imp fun q e => by
  rw [e] at q
  omega
section
variable {P : Program} {w : World} {K : PySem.W.Frag} {mg : Str → Option Value} {base : Heap} {cL : Addr}
def spFewest : Sp := fun vs H Q _ => ∃ (a b c : Addr) (gs : List Gate) (d : Nat → Nat → Int) (ts : List Trn), vs = [.ref a, .ref b, .ref c] ∧ TownAt H a gs ∧ TownOk gs ∧ WalksAt H b gs.length d ∧ WalksOk gs.length d ∧ TurnsAt H c ts ∧ ts.length ≤ 40 ∧ (∀ t ∈ ts, TrnOk gs t) ∧
  ∀ (H' : Hp) (p rr : Addr) (so : V) (rows : List (List Nat)), Same H H' → H' p = some (.tup [.ref rr, so]) → RowsAt H' rr rows → Part (FlI gs d ts) (List.range ts.length) rows → (∀ row ∈ rows, row ≠ []) →
    (∀ rows' : List (List Nat), Part (FlI gs d ts) (List.range ts.length) rows' → rows.length ≤ rows'.length) → Q (.ref p) H'
theorem scFewest : FnScope ["town", "walks", "turns", "ahead", "one", "pairing", "rows", "row", "firsts", "seconds", "k", "other"] ["town", "walks", "turns"] (defScope (topS 24)) := ⟨rfl, rfl, rfl, by decide +kernel, rfl, by decide +kernel, by decide +kernel⟩
theorem ok_fewest (T : Txt K mg cL) : FnOk P w K mg base CX0 45 T.fewest.f T.fewest.fd ["town", "walks", "turns"] spFewest := by
  refine T.fewest.F.ok scFewest (fun vs H Q E h => ?_) (fun cdv A0 outer s H vs Q E hr h => ?_)
  · obtain ⟨a, b, c, gs, d, ts, rfl, _⟩ := h
    rfl
  · obtain ⟨a, b, c, gs, d, ts, rfl, ht, okg, hw, okd, ⟨xs, hc, hx⟩, h40, okt, q⟩ := h
    have hu := hu_of hr
    have nd := scFewest.nd
    have dL := ok_lookT (P := P) (w := w) (base := base) T
    have dF := ok_follow (P := P) (w := w) (base := base) T
    have dI := ok_init (P := P) (w := w) (base := base) T
    have dR := ok_reached (P := P) (w := w) (base := base) T
    refine ⟨_, pss_cons (ps_expr (pe_call dL (hr.mono (by decide)) (by rfl) T.look_at_turns.g T.look_at_turns.F.kp T.look_at_turns.b .nil pass0 (pa_cons (pv 0) (pa_cons (pv 1) (pa_cons (pv 2) pa_nil)))))
      (pss_cons (ps_set (i := 3) nd rfl (.inl rfl) (pe_lst pa_nil))
      (pss_cons (ps_for PassesOwn.never rfl (pi_list (pv 2)) (pg_name (i := 4) nd rfl (.inr rfl))
        (pss_one (ps_expr (pe_bm PySem.F.plainAttrs_list PySem.F.slot_list_append PySem.F.type_list_append mt_append (pv 3) (pa_cons
          (pe_lc (own := [("k", 10), ("other", 11)]) (g := g2 K 10 11) (te := tVar 10) rfl nd (pi_enum (by rfl) T.enum (pa_cons (pv 2) pa_nil)) (blkOk_by (N := ["town", "walks", "turns", "ahead", "one", "pairing", "rows", "row", "firsts", "seconds", "k", "other"]) (sc := defScope (topS 24)) (by decide +kernel))
            (fun _ _ _ _ _ => pg_tup rfl (pgs_cons (pg_name (i := 10) nd rfl (Or.inl rfl)) (pgs_cons (pg_name (i := 11) nd rfl (Or.inl rfl)) pgs_nil)))
            (fun _ _ _ _ _ => pts_one (pt_val (pe_call dF (hr.mono (by decide)) (by rfl) T.can_follow.g T.can_follow.F.kp T.can_follow.b .nil pass0 (pa_cons (pv 0) (pa_cons (pv 1) (pa_cons (pv 4) (pa_cons (pv 11) pa_nil)))))))
            (fun _ _ _ _ _ => pv 10)) pa_nil)))))
      (pss_cons (ps_set (i := 5) nd rfl (.inl rfl) (pe_make T.maker dI hr (by rfl) T.gC T.init.b .nil pass0 (pa_cons (pv 3) pa_nil)))
      (pss_cons (ps_set (i := 6) nd rfl (.inl rfl) (pe_lst pa_nil))
      (pss_cons (ps_for PassesOwn.never rfl (pi_range1 (by rfl) T.range (pa_cons (pe_callB call_len_seq (by rfl) T.len PySem.boot_len (pa_cons (pv 2) pa_nil)) pa_nil)) (pg_name (i := 4) nd rfl (.inr rfl))
        (pss_one (ps_if (pt_cmp (pc_dnotin hu (pv 4) (pe_fld (pv 5) rfl)))
          (pss_cons (ps_set (i := 7) nd rfl (.inl rfl) (pe_lst (pa_cons (pv 4) pa_nil)))
          (pss_cons (ps_while PassesOwn.never (pt_cmp (pc_din hu (pe_ix ix_list (pv 7) (pe_un un_neg pe_int) (fun _ _ => rfl)) (pe_fld (pv 5) rfl)))
            (pss_one (ps_expr (pe_bm PySem.F.plainAttrs_list PySem.F.slot_list_append PySem.F.type_list_append mt_append (pv 7) (pa_cons (pe_dget hu (pe_fld (pv 5) rfl) (pe_ix ix_list (pv 7) (pe_un un_neg pe_int) (fun _ _ => rfl)) (fun _ _ => rfl)) pa_nil)))))
          (pss_one (ps_expr (pe_bm PySem.F.plainAttrs_list PySem.F.slot_list_append PySem.F.type_list_append mt_append (pv 6) (pa_cons (pv 7) pa_nil)))))) pss_nil)))
      (pss_cons (ps_asg (pe_meth0 (pv 5) T.cls T.reached.m dR (hr.mono (by decide)) T.reached.b .nil pass0) (pg_tup (by rfl) (pgs_cons (pg_name (i := 8) nd rfl (.inr rfl)) (pgs_cons (pg_name (i := 9) nd rfl (.inr rfl)) pgs_nil))))
      (pss_one (ps_ret (pe_tup (pa_cons (pv 6) (pa_cons (pe_lc (own := [("one", 4)]) (g := gName 4) (tt := tAnd (tB (tDIn (tVar 4) (tVar 8))) (tB (tDNotIn (tVar 4) (tVar 9)))) (te := tVar 4) rfl nd (pi_range1 (by rfl) T.range (pa_cons (pe_callB call_len_seq (by rfl) T.len PySem.boot_len (pa_cons (pv 2) pa_nil)) pa_nil)) (blkOk_by (N := ["town", "walks", "turns", "ahead", "one", "pairing", "rows", "row", "firsts", "seconds", "k", "other"]) (sc := defScope (topS 24)) (by decide +kernel))
          (fun _ _ _ _ _ => pg_name (i := 4) nd rfl (Or.inl rfl))
          (fun _ _ _ _ _ => pts_one (PW.pt (pw_and (pt_cmp (pc_din hu (pv 4) (pv 8))) (pw_and1 (pt_cmp (pc_dnotin hu (pv 4) (pv 9)))))))
          (fun _ _ _ _ _ => pv 4)) pa_nil))))))))))), ?_⟩
    refine ⟨_, rfl, _, rfl, _, rfl, a, b, c, gs, d, ts, rfl, ht, okg, hw, okd, ⟨xs, hc, hx⟩, h40, okt, fun H1 s1 => ?_⟩
    refine ⟨Nat.zero_le _, fun ah hah => ?_⟩
    have hlx := paired_len hx
    have hc1 := s1 _ _ hc
    have sA : Same H1 (upd H1 ah (.lst [])) := same_upd hah
    refine ⟨_, rfl, c, rfl, ⟨_, .inl (.inl (sA _ _ hc1))⟩, for_it (walk_list (xs := xs)) (fun j σ H2 => ∃ x4 rs, σ = [some (.ref a), some (.ref b), some (.ref c), some (.ref ah), x4, none, none, none, none, none, none, none] ∧ AdjP H1 H2 ah j (adjOf gs d ts) rs)
      ⟨none, [], rfl, sA, upd_same, rfl, fun i r e => by simp at e⟩ (fun j σ H2 _ ⟨_, _, _, ap⟩ => .inl (.inl (ap.same _ _ hc1))) ?_ ?_⟩
    · rintro j x σ H3 H2 hj ⟨x4, rs, rfl, ap⟩ ⟨rfl, hxj⟩
      obtain ⟨t, et, r, rfl, hr1⟩ := paired_at hx hxj
      have hjn : j < ts.length := by omega
      have htj : tr ts j = t := tr_of et
      refine ⟨_, rfl, .inl ⟨rfl, _, .inl (.inl ap.at_)⟩, _, rfl, c, _, rfl, .inl (.inl (ap.same _ _ hc1)), fun D hD => lc_kp walk_enum hD (fun k => if decide (FlI gs d ts j k) = true then some (V.int (k : Nat)) else none) (fun H4 s => .inl (.inl (s _ _ (ap.same _ _ hc1)))) (fun k y H4 H5 hk p yy => ?_) fun H5 p => ?_⟩
      · obtain ⟨tu, x1, x2, rfl, ntu, rfl, f1, f2⟩ := yy
        cases f1
        obtain ⟨u, eu, ru, rfl, hru⟩ := paired_at hx f2
        have huk : tr ts k = u := tr_of eu
        refine ⟨tu, [.int (k : Nat), .ref ru], rfl, .inl (.inl upd_same), rfl, _, _, rfl, _, _, rfl, rfl, rfl, ?_⟩
        have s4 : Same H H4 := s1.trans (ap.same.trans p.same)
        have s5 : Same H (upd H4 tu (.tup [.int (k : Nat), .ref ru])) := s4.trans (same_upd ntu)
        refine ⟨_, rfl, _, rfl, _, rfl, _, rfl, a, b, _, _, gs, d, t, u, rfl, ht.keep (same_tups s5), okg.hi, hw.keep (same_tups s5), ⟨r, rfl, s5 _ _ hr1⟩, ⟨ru, rfl, s5 _ _ hru⟩, (okt t (List.mem_of_getElem? et)).name, (okt u (List.mem_of_getElem? eu)).name, fun H6 s6 => ?_⟩
        have sall : Same H4 H6 := (same_upd ntu).trans s6
        by_cases hf : Fl gs d t u
        · rw [decide_eq_true hf]
          refine ⟨_, rfl, ?_⟩
          refine ⟨_, rfl, ?_⟩
          refine p.add hD (by omega) ?_ sall
          rw [if_pos (decide_eq_true (show FlI gs d ts j k by unfold FlI; rw [htj, huk]; exact hf))]
        · rw [decide_eq_false hf]
          refine ⟨_, rfl, ?_⟩
          refine p.skip ?_ sall
          rw [decide_eq_false (show ¬ FlI gs d ts j k by unfold FlI; rw [htj, huk]; exact hf)]
          rfl
      · have e2 := p.at_
        rw [fm_filter, hlx] at e2
        obtain ⟨g1, g2⟩ := ap.add hah p.same hD e2
        refine ⟨ah, _, _, rfl, rfl, g1, ?_, _, _, rfl, g2⟩
        rw [List.length_map, ap.len]
        exact small1000 (by omega)
    · rintro σ H2 ⟨x4, rs, rfl, ap⟩
      refine ⟨_, rfl, fun px dx npx ndx nex => ?_⟩
      have sM : Same H2 (upd (upd H2 dx (.own px)) px (.ins T.C dx [])) := fun b o e => by
        rw [upd_ne (ne_of_none e npx), upd_ne (ne_of_none e ndx)]
        exact e
      refine ⟨px, dx, ah, ts.length, adjOf gs d ts, rs, rfl, upd_same, ⟨sM _ _ ap.at_, by rw [ap.len, hlx], fun i r e => sM _ _ (ap.rows i r e), fun i _ j hj => (mem_adjOf.mp hj).1, fun i _ => Nat.le_trans adjOf_len (by omega)⟩, h40, fun bb ff A B CA CB H3 gd pr kp => ⟨rfl, ?_⟩⟩
      have s3 : Same H2 H3 := fun b o e => kp _ _ (sM _ _ e) (ne_of_none e npx)
      have sH3 : Same H H3 := (s1.trans ap.same).trans s3
      have hc3 := sH3 _ _ hc
      have hrk : ∀ x y, Ed ts.length (adjOf gs d ts) x y → rkOf ts x < rkOf ts y := fun x y e => fl_rk okd okt e.1 (mem_adjOf.mp e.2).1 (mem_adjOf.mp e.2).2
      have hEr : ∀ x y, Ed ts.length (adjOf gs d ts) x y → y < ts.length := fun x y e => (mem_adjOf.mp e.2).1
      have hBk : ∀ x y, B x = some y → rkOf ts x < rkOf ts y := fun x y e => hrk _ _ (gd.edge _ _ ((gd.inv x y).mp e))
      have hBn : ∀ x y, B x = some y → y < ts.length := fun x y e => hEr _ _ (gd.edge _ _ ((gd.inv x y).mp e))
      refine ⟨Nat.zero_le _, fun rr hrr => ?_⟩
      have s4 : Same H3 (upd H3 rr (.lst [])) := same_upd hrr
      have hnn : ((((xs.length : Nat) : Int)).toNat) = ts.length := by omega
      refine ⟨_, rfl, c, _, rfl, .inl (.inl (.inl (s4 _ _ hc3))), _, rfl, by omega, by omega, for_it walk_range (fun i σ H5 => ∃ x4 x7 rowsL as, σ = [some (.ref a), some (.ref b), some (.ref c), some (.ref ah), x4, some (.ref px), some (.ref rr), x7, none, none, none, none] ∧ Same H3 H5 ∧ H5 rr = some (.lst (as.map V.ref)) ∧ Paired (fun a row => H5 a = some (.lst (numsV row))) as rowsL ∧ Rows A B i rowsL)
        ⟨x4, none, [], [], rfl, s4, upd_same, .nil, Rows.nil A B⟩ (fun _ _ _ _ _ => trivial) ?_ ?_⟩
      · rintro i x σ H6 H5 hi ⟨x4', x7, rowsL, as, rfl, s5, er5, pd, rw5⟩ ⟨rfl, rfl⟩
        rw [hnn] at hi
        have pr5 := pr.same s5
        obtain ⟨⟨dy, g1⟩, _, ⟨kvb, hb⟩, ⟨kvf, hf⟩, nbf⟩ := id pr5
        refine ⟨_, rfl, _, rfl, px, T.C, dy, _, _, rfl, g1, T.cls, T.nF, flds_f _ _ _, ff, _, rfl, DGet.k (k := Sum.inl (0 + (i : Int))) hf.at_, _, rfl, ?_⟩
        have e0 : valV kvf (Sum.inl (0 + (i : Int))) = vi A i := by
          rw [Int.zero_add]
          exact hf.val i
        rw [e0]
        cases eA : A i with
        | some l =>
          rw [show (!(vi A i).isSome) = false by unfold vi; rw [eA]; rfl]
          exact iteF ⟨_, _, _, _, rfl, s5, er5, pd, rw5.skip eA⟩
        | none =>
          rw [show (!(vi A i).isSome) = true by unfold vi; rw [eA]; rfl]
          refine iteT ⟨_, rfl, line8 (by show 1 ≤ 1000; decide), fun r7 h7 => ?_⟩
          have s7 : Same H5 (upd H5 r7 (.lst [.int (0 + (i : Int))])) := same_upd h7
          have e7 : upd H5 r7 (.lst [.int (0 + (i : Int))]) r7 = some (.lst (numsV [i])) := by
            rw [upd_same, Int.zero_add]
            rfl
          generalize upd H5 r7 (.lst [.int (0 + (i : Int))]) = H7 at s7 e7
          have n7 : r7 ≠ rr := fun z => by rw [z, er5] at h7; cases h7
          refine ⟨fun m σ H8 => ∃ l, σ = [some (.ref a), some (.ref b), some (.ref c), some (.ref ah), some (.int (0 + (i : Int))), some (.ref px), some (.ref rr), some (.ref r7), none, none, none, none] ∧ Same H5 H8 ∧ H8 r7 = some (.lst (numsV l)) ∧ l.head? = some i ∧ Along B l ∧ (∀ x ∈ l, x < ts.length) ∧ m = ts.length - l.length, ⟨_, [i], rfl, s7, e7, rfl, trivial, fun x hx => by rw [List.mem_singleton.mp hx]; exact hi, rfl⟩, ?_⟩
          rintro m σ H8 ⟨l, rfl, s8, e8, hh, al, hln, rfl⟩
          have hlen : l.length ≤ ts.length := nd_lt_len (nodup_rk (along_rank hBk al)) hln
          rcases l.eq_nil_or_concat with rfl | ⟨l0, la, el⟩
          · cases hh
          rw [List.concat_eq_append] at el
          have enum : numsV l = numsV l0 ++ [V.int (la : Nat)] := by
            rw [el]
            unfold numsV
            rw [List.map_append]
            rfl
          have hSL : SqL K H8 r7 (numsV l0 ++ [V.int (la : Nat)]) := .inl (.inl (by rw [← enum]; exact e8))
          have pr8 := pr5.same s8
          obtain ⟨⟨dz, g2⟩, _, ⟨kvb8, hb8⟩, _, _⟩ := id pr8
          refine ⟨_, rfl, _, rfl, r7, _, _, _, rfl, rfl, hSL, atI_last _ _, _, rfl, px, T.C, dz, _, _, rfl, g2, T.cls, T.nB, flds_b _ _ _, bb, _, rfl, DGet.k (k := ki la) hb8.at_, _, rfl, ?_⟩
          rw [hb8.val la]
          cases eB : B la with
          | some nx =>
            rw [show (vi B la).isSome = true by unfold vi; rw [eB]; rfl]
            refine iteT ⟨fun σ' H' => ∃ l', σ' = [some (.ref a), some (.ref b), some (.ref c), some (.ref ah), some (.int (0 + (i : Int))), some (.ref px), some (.ref rr), some (.ref r7), none, none, none, none] ∧ Same H5 H' ∧ H' r7 = some (.lst (numsV l')) ∧ l'.head? = some i ∧ Along B l' ∧ (∀ x ∈ l', x < ts.length) ∧ ts.length - l'.length < ts.length - l.length, fun σ' H' ⟨l', a1, a2, a3, a4, a5, a6, a7⟩ => ⟨_, a7, l', a1, a2, a3, a4, a5, a6, rfl⟩, ?_⟩
            have hg : DGet H8 bb (.int (la : Nat)) (some (V.int (nx : Nat))) := by
              have := DGet.k (k := ki la) hb8.at_
              rw [show valV kvb8 (ki la) = some (V.int (nx : Nat)) by rw [hb8.val]; unfold vi; rw [eB]; rfl] at this
              exact this
            refine ⟨_, rfl, .inl ⟨rfl, _, hSL⟩, _, rfl, px, T.C, dz, _, _, rfl, g2, T.cls, T.nB, flds_b _ _ _, _, rfl, _, rfl, r7, _, _, _, rfl, rfl, hSL, atI_last _ _, bb, _, rfl, hg, r7, _, _, rfl, rfl, e8, ?_, ?_⟩
            · unfold numsV
              rw [List.length_map]
              exact small1000 (by omega)
            · have al' : Along B (l ++ [nx]) := Chain.snoc al fun y hy => by
                rw [el, List.getLast?_concat] at hy
                cases hy
                exact eB
              have hln' : ∀ x ∈ l ++ [nx], x < ts.length := fun x hx => by
                rcases List.mem_append.mp hx with z | z
                · exact hln x z
                · rw [List.mem_singleton.mp z]
                  exact hBn _ _ eB
              have hlen' : (l ++ [nx]).length ≤ ts.length := nd_lt_len (nodup_rk (along_rank hBk al')) hln'
              rw [List.length_append, List.length_singleton] at hlen'
              refine ⟨l ++ [nx], rfl, fun c o e => ?_, ?_, ?_, al', hln', ?_⟩
              · rw [upd_ne (ne_of_none e h7)]
                exact s8 _ _ e
              · rw [upd_same]
                unfold numsV
                rw [List.map_append]
                rfl
              · cases l with
                | nil => cases hh
                | cons u v => exact hh
              · rw [List.length_append, List.length_singleton]
                omega
          | none =>
            rw [show (vi B la).isSome = false by unfold vi; rw [eB]; rfl]
            refine iteF ?_
            refine ⟨_, rfl, .inl ⟨rfl, _, .inl (.inl (s8 _ _ er5))⟩, _, rfl, rr, _, _, rfl, rfl, s8 _ _ er5, ?_, ?_⟩
            · have := paired_len pd
              have := rw5.few
              rw [List.length_map]
              exact small1000 (by omega)
            · have hrr3 : H3 rr = none := hrr
              have nas : ∀ x ∈ as, x ≠ rr := fun x hx z => by
                obtain ⟨k, hk, e⟩ := List.getElem_of_mem hx
                obtain ⟨row, _, e9⟩ := paired_at pd (i := k) (x := x) (by rw [List.getElem?_eq_getElem hk, e])
                rw [z, er5] at e9
                have e10 := HO.lst.inj (Option.some.inj e9)
                cases as with
                | nil => simp at hx
                | cons u v =>
                  have hn : numsV row = V.ref u :: v.map V.ref := e10.symm
                  unfold numsV at hn
                  cases hq : row with
                  | nil => rw [hq] at hn; simp at hn
                  | cons u v => rw [hq] at hn; simp at hn
              refine ⟨_, _, rowsL ++ [l], as ++ [r7], rfl, fun c o e => ?_, ?_, ?_, rw5.add eA hh al fun y hy => ?_⟩
              · rw [upd_ne (ne_of_none e hrr3)]
                exact s8 _ _ (s5 _ _ e)
              · rw [upd_same, List.map_append]
                rfl
              · refine paired_snoc ?_ ?_
                · exact paired_upd (paired_same s8 pd) nas
                · rw [upd_ne n7]
                  exact e8
              · rw [el, List.getLast?_concat] at hy
                cases hy
                exact eB
      · rintro σ H5 ⟨x4', x7, rowsL, as, rfl, s5, er5, pd, rw5⟩
        rw [hnn] at rw5
        have pr5 := pr.same s5
        obtain ⟨⟨dy, g1⟩, _, _, _, _⟩ := id pr5
        refine ⟨_, rfl, px, dy, _, rfl, g1, flds_no _ _ _ (by decide +kernel) (by decide +kernel) (by decide +kernel), px, ah, bb, ff, ts.length, adjOf gs d ts, A, B, CA, CB, rfl, pr5, h40, gd, fun t f1 s2 S1 S2 l1 l2 H6 s6 et d1 d2 => ?_⟩
        refine ⟨t, [.ref f1, .ref s2], rfl, .inl (.inl et), rfl, _, _, rfl, _, _, rfl, rfl, ?_⟩
        have hc6 := s6 _ _ (s5 _ _ hc3)
        refine ⟨_, rfl, _, rfl, c, _, rfl, .inl (.inl (.inl hc6)), _, rfl, by omega, by omega, fun D hD => lc_it walk_range (fun i H7 => Same H6 H7 ∧ ∃ acc, H7 D = some (.lst acc) ∧ acc.length ≤ i) ⟨same_upd hD, [], upd_same, Nat.le_refl _⟩ (fun _ _ _ _ => trivial) ?_ ?_⟩
        · rintro i x H8 H7 hi ⟨s7, acc, e7, l7⟩ ⟨rfl, rfl⟩
          rw [hnn] at hi
          obtain ⟨k1, m1, _⟩ := (d1.same s7).has
          obtain ⟨k2, m2, _⟩ := (d2.same s7).has
          have fin : ∀ H9 : Hp, H9 = H7 → ∃ acc, H9 D = some (.lst acc) ∧ acc.length < sizeLine ∧ Same H6 (upd H9 D (.lst (acc ++ [V.int (0 + (i : Int))]))) ∧ ∃ acc', upd H9 D (.lst (acc ++ [V.int (0 + (i : Int))])) D = some (.lst acc') ∧ acc'.length ≤ i + 1 := fun H9 e => by
            subst e
            refine ⟨acc, e7, small1000 (by omega), fun c o e => by rw [upd_ne (ne_of_none e hD)]; exact s7 _ _ e, _, upd_same, by rw [List.length_append, List.length_singleton]; omega⟩
          have skip : Same H6 H7 ∧ ∃ acc, H7 D = some (.lst acc) ∧ acc.length ≤ i + 1 := ⟨s7, acc, e7, by omega⟩
          refine ⟨rfl, _, rfl, _, rfl, f1, _, rfl, DGet.k (k := Sum.inl (0 + (i : Int))) m1, _, rfl, ?_⟩
          cases valV k1 (Sum.inl (0 + (i : Int))) with
          | none => exact skip
          | some v =>
            refine iteT ⟨_, rfl, _, rfl, s2, _, rfl, DGet.k (k := Sum.inl (0 + (i : Int))) m2, _, rfl, ?_⟩
            cases valV k2 (Sum.inl (0 + (i : Int))) with
            | some v => exact skip
            | none => exact ⟨_, rfl, fin _ rfl⟩
        · rintro H7 ⟨s7, acc, e7, l7⟩
          refine ⟨line8 (by show 2 ≤ 1000; decide), fun tt ht9 => ?_⟩
          have sT : Same H7 (upd H7 tt (.tup [.ref rr, .ref D])) := same_upd ht9
          have s57 := s6.trans (s7.trans sT)
          obtain ⟨r1, r2, r3⟩ := rw5.part gd hrk hEr
          have toE : ∀ rows', Part (FlI gs d ts) (List.range ts.length) rows' → Part (Ed ts.length (adjOf gs d ts)) (List.range ts.length) rows' := fun rows' pp => pp.monoMem fun x hx y hy e => ⟨List.mem_range.mp hx, mem_adjOf.mpr ⟨List.mem_range.mp hy, e⟩⟩
          exact q _ tt rr (.ref D) rowsL (sH3.trans (s5.trans s57)) upd_same ⟨as, s57 _ _ er5, paired_same s57 pd⟩ (r1.mono fun x y e => (mem_adjOf.mp e.2).2) r2 (fun rows' pp => r3 rows' (toE rows' pp))
end
end LT
end
section
set_option Elab.async false
set_option linter.all false
set_option maxRecDepth 100000
set_option maxHeartbeats 4000000
/-! are_places, rows_hold -/
namespace LT
open PySem PySem.Spec PyProof.Rows L2
theorem chain_at {α : Type} {R : α → α → Prop} : ∀ {l : List α} {i : Nat} {a b : α}, Chain R l → l[i]? = some a → l[i + 1]? = some b → R a b
  | [], _, _, _, _, h, _ => by simp at h
  | [x], i, _, _, _, _, h => by simp at h
  | x :: y :: l, 0, a, b, c, h, h2 => by
    simp only [List.getElem?_cons_zero, Option.some.injEq, Nat.zero_add, List.getElem?_cons_succ] at h h2
    subst h
    subst h2
    exact c.1
  | x :: y :: l, i + 1, a, b, c, h, h2 => by
    simp only [List.getElem?_cons_succ] at h h2
    exact chain_at (l := y :: l) c.2 h h2
theorem numsV_len (l : List Nat) : (numsV l).length = l.length := by unfold numsV; rw [List.length_map]
theorem numsV_at {l : List Nat} {i : Nat} {x : V} (h : (numsV l)[i]? = some x) : ∃ k, l[i]? = some k ∧ x = V.int (k : Nat) := by
  unfold numsV at h
  rw [List.getElem?_map] at h
  cases e : l[i]? with
  | none => rw [e] at h; cases h
  | some k =>
    rw [e] at h
    exact ⟨k, rfl, (Option.some.inj h).symm⟩
theorem numsV_ints (l : List Nat) : numsV l = (l.map Int.ofNat).map V.int := by
  unfold numsV
  rw [List.map_map]
  rfl
theorem nd_ints {l : List Nat} (h : l.Nodup) : (l.map Int.ofNat).Nodup := nd_map (fun a _ b _ e => Int.ofNat.inj e) h
theorem dpAll_ints (K : PySem.W.Frag) (H : Hp) : ∀ l : List Int, DpAll K H (l.map V.int) (l.map PyData.int)
  | [] => .nil
  | a :: l => .cons (.int _) (dpAll_ints K H l)
theorem eqvAll_ints : ∀ l m : List Int, PyData.eqvAll (l.map PyData.int) (m.map PyData.int) = decide (l = m)
  | [], [] => rfl
  | [], _ :: _ => rfl
  | _ :: _, [] => rfl
  | a :: l, b :: m => by
    have ih := eqvAll_ints l m
    simp only [List.map_cons, PyData.eqvAll, PyData.eqv, ih]
    by_cases h : a = b <;> by_cases h' : l = m <;> simp [h, h']
theorem eq_ints {K : PySem.W.Frag} {H : Hp} {r e : Addr} {l m : List Int} {Q : VK} (h : H r = some (.lst (l.map V.int))) (he : H e = some (.lst (m.map V.int))) (q : Q (.bl (decide (l = m))) H) : rEqD K (.ref r) (.ref e) H Q := by
  refine ⟨.list (l.map PyData.int), .list (m.map PyData.int), .lst (.inl (.inl h)) (dpAll_ints K H l), .lst (.inl (.inl he)) (dpAll_ints K H m), PySem.W.ke_shaped_ints _, PySem.W.ke_shaped_ints _, ?_⟩
  have : PyData.eqv (.list (l.map PyData.int)) (.list (m.map PyData.int)) = decide (l = m) := by
    rw [← eqvAll_ints]
    simp only [PyData.eqv]
  rw [this]
  exact q
/-- sorted lists of the same items are the same -/
theorem sorted_same : ∀ {l m : List Int}, l.Pairwise (· ≤ ·) → m.Pairwise (· ≤ ·) → l.Perm m → l = m := fun {l m} h1 h2 p =>
  List.Perm.eq_of_pairwise (le := (· ≤ ·)) (fun a b _ _ x y => Int.le_antisymm x y) h1 h2 p
section
variable {P : Program} {w : World} {K : PySem.W.Frag} {mg : Str → Option Value} {base : Heap} {cL : Addr}
def spPlaces : Sp := fun vs H Q _ => ∃ (r : Addr) (n : Nat) (row : List Nat), vs = [.ref r, .int (n : Nat)] ∧ H r = some (.lst (numsV row)) ∧ (∀ x ∈ row, x < n) ∧ row.Nodup ∧ row.length < 64 ∧ ∀ H', Same H H' → Q (.bl true) H'
theorem scPlaces : FnScope ["thing", "many", "one"] ["thing", "many"] (defScope (topS 25)) := ⟨rfl, rfl, rfl, by decide +kernel, rfl, by decide +kernel, by decide +kernel⟩
theorem ok_places (T : Txt K mg cL) : FnOk P w K mg base CX0 2 T.are_places.f T.are_places.fd ["thing", "many"] spPlaces := by
  refine T.are_places.F.ok scPlaces (fun vs H Q E h => ?_) (fun cdv A0 outer s H vs Q E hr h => ?_)
  · obtain ⟨r, n, row, rfl, _⟩ := h
    rfl
  · obtain ⟨r, n, row, rfl, hr1, hlt, hnd, h64, q⟩ := h
    have dB := ok_within (P := P) (w := w) (base := base) T
    have nd := scPlaces.nd
    refine ⟨_, pss_cons (ps_if (PW.pt (pw_or (pt_not (pt_val (pe_isList (by rfl) T.isi (pv 0) (by rfl) T.list))) (pw_or1 (pt_not (pt_val (pe_callB (cr_all rfl) (by rfl) T.all (by decide +kernel) (pa_cons (pe_lc (own := [("one", 2)]) (g := gName 2) rfl nd (pi_list (pv 0)) (blkOk_by (N := ["thing", "many", "one"]) (sc := defScope (topS 25)) (by decide +kernel))
          (fun _ _ _ _ _ => pg_name (i := 2) nd rfl (Or.inl rfl)) (fun _ _ _ _ _ => pts_nil) (fun _ _ _ _ _ => pe_call dB hr (by rfl) T.is_within.g T.is_within.F.kp T.is_within.b .nil pass0 (pa_cons (pv 2) (pa_cons pe_int (pa_cons (pe_op op_sub (pv 1) pe_int) pa_nil))))) pa_nil))))))) (pss_one (ps_ret pe_bl)) pss_nil)
      (pss_one (ps_ret (pe_cmpR op_eq (RZ.pe_lenSetI (by rfl) T.len (by rfl) T.set (pv 0)) (pe_callB call_len_seq (by rfl) T.len PySem.boot_len (pa_cons (pv 0) pa_nil)) (nomark _)))), ?_⟩
    refine ⟨_, rfl, _, _, _, _, _, rfl, .ty _, .base (.lst hr1), kit_ty kit_ll, _, rfl, iteF ?_⟩
    have hS : SqL K H r (numsV row) := .inl (.inl hr1)
    refine ⟨_, rfl, r, rfl, ⟨_, hS⟩, fun D hD => lc_kp (walk_list (xs := numsV row)) hD (fun _ => some (V.bl true)) (fun H2 s => s.seq hS) (fun j y H2 H3 hj p yy => ?_) fun H2 p => ?_⟩
    · obtain ⟨rfl, hy⟩ := yy
      obtain ⟨k, ek, rfl⟩ := numsV_at hy
      rw [numsV_len] at hj
      have := hlt k (List.mem_of_getElem? ek)
      refine ⟨rfl, _, rfl, _, rfl, _, _, rfl, rfl, _, 0, _, rfl, ?_⟩
      rw [decide_eq_true (show (0 : Int) ≤ (k : Nat) by omega), decide_eq_true (show ((k : Nat) : Int) ≤ (n : Nat) - 1 by omega)]
      exact p.add hD (by omega) rfl (Same.refl _)
    · have h2 := p.at_
      rw [fm_map] at h2
      refine ⟨D, List.replicate (numsV row).length true, rfl, .inl (.inl (by rw [h2, List.map_const', List.length_range, List.map_replicate])), ?_⟩
      rw [show (List.replicate (numsV row).length true).all id = true by simp]
      refine ⟨_, rfl, iteF ?_⟩
      have hS2 : SqL K H2 r ((row.map Int.ofNat).map V.int) := by
        rw [← numsV_ints]
        exact p.same.seq hS
      refine ⟨_, rfl, r, row.map Int.ofNat, rfl, hS2, nd_ints hnd, by rw [List.length_map]; omega, ?_⟩
      refine ⟨_, rfl, r, _, rfl, .inl hS2, ?_⟩
      refine ⟨rfl, ?_⟩
      rw [decide_eq_true (show V.int ((row.map Int.ofNat).length : Nat) = V.int (((row.map Int.ofNat).map V.int).length : Nat) by rw [List.length_map, List.length_map, List.length_map])]
      exact q _ p.same
/-! ### rows_hold -/
theorem numsV_drop (l : List Nat) (k : Nat) : (numsV l).drop k = numsV (l.drop k) := by
  unfold numsV
  rw [List.map_drop]
theorem numsV_app (l m : List Nat) : numsV l ++ numsV m = numsV (l ++ m) := by
  unfold numsV
  rw [List.map_append]
def spHold : Sp := fun vs H Q _ => ∃ (a b c rr : Addr) (gs : List Gate) (d : Nat → Nat → Int) (ts : List Trn) (rows : List (List Nat)), vs = [.ref a, .ref b, .ref c, .ref rr] ∧ TownAt H a gs ∧ TownOk gs ∧ WalksAt H b gs.length d ∧ WalksOk gs.length d ∧ TurnsAt H c ts ∧ ts.length ≤ 40 ∧ (∀ t ∈ ts, TrnOk gs t) ∧
  RowsAt H rr rows ∧ Part (FlI gs d ts) (List.range ts.length) rows ∧ (∀ row ∈ rows, row ≠ []) ∧ ∀ H', Same H H' → Q (.bl true) H'
theorem scHold : FnScope ["town", "walks", "turns", "rows", "found", "row", "one", "other"] ["town", "walks", "turns", "rows"] (defScope (topS 26)) := ⟨rfl, rfl, rfl, by decide +kernel, rfl, by decide +kernel, by decide +kernel⟩
theorem ok_hold (T : Txt K mg cL) : FnOk P w K mg base CX0 6 T.rows_hold.f T.rows_hold.fd ["town", "walks", "turns", "rows"] spHold := by
  refine T.rows_hold.F.ok scHold (fun vs H Q E h => ?_) (fun cdv A0 outer s H vs Q E hr h => ?_)
  · obtain ⟨a, b, c, rr, gs, d, ts, rows, rfl, _⟩ := h
    rfl
  · obtain ⟨a, b, c, rr, gs, d, ts, rows, rfl, ht, okg, hw, okd, ⟨xs, hc, hx⟩, h40, okt, ⟨as, hrr, pd⟩, part, hne, q⟩ := h
    have dL := ok_lookT (P := P) (w := w) (base := base) T
    have dF := ok_follow (P := P) (w := w) (base := base) T
    have dP := ok_places (P := P) (w := w) (base := base) T
    have nd := scHold.nd
    refine ⟨_, pss_cons (ps_expr (pe_call dL hr (by rfl) T.look_at_turns.g T.look_at_turns.F.kp T.look_at_turns.b .nil pass0 (pa_cons (pv 0) (pa_cons (pv 1) (pa_cons (pv 2) pa_nil)))))
      (pss_cons (ps_set (i := 4) nd rfl (.inl rfl) (pe_lst pa_nil))
      (pss_cons (ps_for PassesOwn.never rfl (pi_list (pv 3)) (pg_name (i := 5) nd rfl (.inl rfl))
        (pss_cons (ps_if (PW.pt (pw_or (pt_not (pt_val (pe_call dP (hr.mono (by decide)) (by rfl) T.are_places.g T.are_places.F.kp T.are_places.b .nil pass0 (pa_cons (pv 5) (pa_cons (pe_callB call_len_seq (by rfl) T.len PySem.boot_len (pa_cons (pv 2) pa_nil)) pa_nil))))) (pw_or1 (pt_cmpR (op_eqD hr.units) (pv 5) (pe_lst pa_nil) (nomark _))))) (pss_one (ps_ret pe_bl)) pss_nil)
        (pss_cons (ps_if (pt_not (pt_val (pe_callB (cr_all rfl) (by rfl) T.all (by decide +kernel) (pa_cons (pe_lc (own := [("one", 6), ("other", 7)]) (g := g2 K 6 7) (te := tCall spFollow [] E0 (tCons (tVar 0) (tCons (tVar 1) (tCons (tOp (rIxL K) (tVar 2) (tVar 6)) (tCons (tOp (rIxL K) (tVar 2) (tVar 7)) tNil))))) rfl nd
            (pi_zip (by rfl) T.zip (pa_cons (pv 5) (pa_cons (pe_slice sl_list (pv 5) (po_some pe_int) po_none) pa_nil))) (blkOk_by (N := ["town", "walks", "turns", "rows", "found", "row", "one", "other"]) (sc := defScope (topS 26)) (by decide +kernel))
            (fun _ _ _ _ _ => pg_tup rfl (pgs_cons (pg_name (i := 6) nd rfl (Or.inl rfl)) (pgs_cons (pg_name (i := 7) nd rfl (Or.inl rfl)) pgs_nil))) (fun _ _ _ _ _ => pts_nil)
            (fun _ _ _ _ _ => pe_call dF (hr.mono (by decide)) (by rfl) T.can_follow.g T.can_follow.F.kp T.can_follow.b .nil pass0 (pa_cons (pv 0) (pa_cons (pv 1) (pa_cons (pe_ix ix_list (pv 2) (pv 6) (fun _ _ => rfl)) (pa_cons (pe_ix ix_list (pv 2) (pv 7) (fun _ _ => rfl)) pa_nil)))))) pa_nil)))) (pss_one (ps_ret pe_bl)) pss_nil)
        (pss_one (ps_expr (pe_bm PySem.F.plainAttrs_list PySem.F.slot_list_extend PySem.F.type_list_extend mt_extend (pv 4) (pa_cons (pv 5) pa_nil)))))))
      (pss_one (ps_ret (pe_cmpR (op_eqD hr.units) (pe_callB cr_sorted (by rfl) T.sorted (by decide +kernel) (pa_cons (pv 4) pa_nil)) (pe_listRg rfl (by rfl) T.list (prg_1 (by rfl) T.range (pe_callB call_len_seq (by rfl) T.len PySem.boot_len (pa_cons (pv 2) pa_nil)))) (nomark _)))))), ?_⟩
    refine ⟨_, rfl, _, rfl, _, rfl, a, b, c, gs, d, ts, rfl, ht, okg, hw, okd, ⟨xs, hc, hx⟩, h40, okt, fun H1 s1 => ?_⟩
    refine ⟨Nat.zero_le _, fun fo hfo => ?_⟩
    have sA : Same H1 (upd H1 fo (.lst [])) := same_upd hfo
    have hlx := paired_len hx
    have hfl : rows.flatten.length = ts.length := by rw [part.perm.length_eq, List.length_range]
    have hfn : rows.flatten.Nodup := part.perm.nodup_iff.mpr List.nodup_range
    have hfm : ∀ x ∈ rows.flatten, x < ts.length := fun x hx => List.mem_range.mp (part.perm.mem_iff.mp hx)
    have hpl := paired_len pd
    refine ⟨_, rfl, rr, rfl, ⟨_, .inl (.inl (sA _ _ (s1 _ _ hrr)))⟩, for_it (walk_list (xs := as.map V.ref)) (fun j σ H2 => ∃ x5, σ = [some (.ref a), some (.ref b), some (.ref c), some (.ref rr), some (.ref fo), x5, none, none] ∧ Same H1 H2 ∧ H2 fo = some (.lst (numsV (rows.take j).flatten)))
      ⟨none, rfl, sA, upd_same⟩ (fun j σ H2 _ ⟨_, _, s, _⟩ => .inl (.inl (s _ _ (s1 _ _ hrr)))) ?_ ?_⟩
    · rintro j x σ H3 H2 hj ⟨x5, rfl, s2, ef⟩ ⟨rfl, hxj⟩
      rw [List.getElem?_map] at hxj
      obtain ⟨r, er⟩ : ∃ r, as[j]? = some r := by
        cases e : as[j]? with
        | none => rw [e] at hxj; cases hxj
        | some r => exact ⟨r, rfl⟩
      rw [er] at hxj
      cases hxj
      obtain ⟨row, erow, hrow⟩ := paired_at pd er
      have hmem := List.mem_of_getElem? erow
      have hsub : ∀ x ∈ row, x ∈ rows.flatten := fun x hx => List.mem_flatten.mpr ⟨row, hmem, hx⟩
      have s12 : Same H H2 := s1.trans s2
      have hr2 := s12 _ _ hrow
      have hrnd : row.Nodup := hfn.sublist (List.sublist_flatten_of_mem hmem)
      have hrl : row.length ≤ ts.length := nd_lt_len hrnd fun x hx => hfm x (hsub x hx)
      refine ⟨_, rfl, _, rfl, c, _, rfl, .inl (.inl (.inl (s12 _ _ hc))), r, ts.length, row, (by rw [hlx]; rfl), hr2, fun x hx => hfm x (hsub x hx), hrnd, by omega, fun H4 s4 => ?_⟩
      refine ⟨_, rfl, iteF ?_⟩
      refine ⟨_, rfl, Nat.zero_le _, fun em hem => ?_⟩
      have sE : Same H4 (upd H4 em (.lst [])) := same_upd hem
      have hr4 := s4 _ _ hr2
      refine eq_ints (l := row.map Int.ofNat) (m := []) (by rw [← numsV_ints]; exact sE _ _ hr4) upd_same ⟨_, rfl, ?_⟩
      rw [decide_eq_false (show ¬ row.map Int.ofNat = [] by
        intro z
        exact hne row hmem (List.map_eq_nil_iff.mp z))]
      refine iteF ?_
      have s14 : Same H (upd H4 em (.lst [])) := s12.trans (s4.trans sE)
      generalize upd H4 em (.lst []) = H5 at sE s14
      have hr5 := sE _ _ hr4
      have hS5 : SqL K H5 r (numsV row) := .inl (.inl hr5)
      refine ⟨_, rfl, _, rfl, 1, rfl, r, _, rfl, hS5, fun e ne => ?_⟩
      have s6 : Same H5 (upd H5 e (.lst (cutV (numsV row) (some 1) none))) := same_upd ne
      have eC : upd H5 e (.lst (cutV (numsV row) (some 1) none)) e = some (.lst (numsV (row.drop 1))) := by rw [upd_same, cut1, numsV_drop]
      generalize upd H5 e (.lst (cutV (numsV row) (some 1) none)) = H6 at s6 eC
      refine ⟨r, e, numsV row, numsV (row.drop 1), rfl, s6.seq hS5, .inl (.inl eC), fun D hD => lc_kp (walk_zip (xs := numsV row) (ys := numsV (row.drop 1)) (n := row.length - 1) (by rw [numsV_len, numsV_len, List.length_drop]; omega)) hD
        (fun _ => some (V.bl true)) (fun H7 s => ⟨s.seq (s6.seq hS5), .inl (.inl (s _ _ eC))⟩) (fun i x H7 H8 hi p y => ?_) fun H7 p => ?_⟩
      · obtain ⟨tu, x1, x2, rfl, nt, rfl, f1, f2⟩ := y
        obtain ⟨k1, g1, rfl⟩ := numsV_at f1
        obtain ⟨k2, g2, rfl⟩ := numsV_at f2
        rw [List.getElem?_drop, Nat.add_comm] at g2
        have s7 : Same H H7 := s14.trans (s6.trans p.same)
        have s8 : Same H7 (upd H7 tu (.tup [.int (k1 : Nat), .int (k2 : Nat)])) := same_upd nt
        have s78 := s7.trans s8
        refine ⟨tu, [.int (k1 : Nat), .int (k2 : Nat)], rfl, .inl (.inl upd_same), rfl, _, _, rfl, _, _, rfl, rfl, rfl, ?_⟩
        have m1 := hfm k1 (hsub k1 (List.mem_of_getElem? g1))
        have m2 := hfm k2 (hsub k2 (List.mem_of_getElem? g2))
        obtain ⟨v1, w1, t1⟩ := paired_at' hx (List.getElem?_eq_getElem m1)
        obtain ⟨v2, w2, t2⟩ := paired_at' hx (List.getElem?_eq_getElem m2)
        obtain ⟨r1, rfl, q1⟩ := t1
        obtain ⟨r2, rfl, q2⟩ := t2
        have hSc : SqL K (upd H7 tu (.tup [.int (k1 : Nat), .int (k2 : Nat)])) c xs := .inl (.inl (s78 _ _ hc))
        have e1 : tr ts k1 = ts[k1] := tr_of (List.getElem?_eq_getElem m1)
        have e2 : tr ts k2 = ts[k2] := tr_of (List.getElem?_eq_getElem m2)
        have hfl : Fl gs d ts[k1] ts[k2] := by
          have : FlI gs d ts k1 k2 := chain_at (part.ch row hmem) g1 g2
          unfold FlI at this
          rw [e1, e2] at this
          exact this
        refine ⟨_, rfl, _, rfl, _, rfl, _, rfl, c, _, _, _, rfl, rfl, hSc, at1 w1, ?_⟩
        refine ⟨_, rfl, _, rfl, c, _, _, _, rfl, rfl, hSc, at1 w2, ?_⟩
        refine ⟨a, b, _, _, gs, d, ts[k1], ts[k2], rfl, ht.keep (same_tups s78), okg.hi, hw.keep (same_tups s78), ⟨r1, rfl, s78 _ _ q1⟩, ⟨r2, rfl, s78 _ _ q2⟩, (okt _ (List.getElem_mem m1)).name, (okt _ (List.getElem_mem m2)).name, fun H9 s9 => ?_⟩
        rw [decide_eq_true hfl]
        exact p.add hD (by omega) rfl (s8.trans s9)
      · have h2 := p.at_
        rw [fm_map] at h2
        refine ⟨D, List.replicate (row.length - 1) true, rfl, .inl (.inl (by rw [h2, List.map_const', List.length_range, List.map_replicate])), ?_⟩
        rw [show (List.replicate (row.length - 1) true).all id = true by simp]
        refine ⟨_, rfl, iteF ?_⟩
        have s27 : Same H2 H7 := s4.trans (sE.trans (s6.trans p.same))
        have etk : rows.take (j + 1) = rows.take j ++ [row] := by
          rw [List.take_add_one, erow]
          rfl
        refine ⟨_, rfl, .inl ⟨rfl, _, .inl (.inl (s27 _ _ ef))⟩, _, rfl, fo, r, _, _, rfl, rfl, s27 _ _ ef, s27 _ _ hr2, ?_, _, rfl, fun c o e => ?_, ?_⟩
        · have : (rows.take (j + 1)).flatten.length ≤ rows.flatten.length := by
            have e := congrArg List.flatten (List.take_append_drop (j + 1) rows)
            rw [List.flatten_append] at e
            have e2 := congrArg List.length e
            rw [List.length_append] at e2
            omega
          rw [etk, List.flatten_append, List.length_append] at this
          rw [numsV_len, numsV_len]
          have h3 : ([row] : List (List Nat)).flatten = row := by simp
          rw [h3] at this
          exact line8 (by omega)
        · rw [upd_ne (ne_of_none e hfo)]
          exact s27 _ _ (s2 _ _ e)
        · rw [upd_same, etk, List.flatten_append, numsV_app]
          simp
    · rintro σ H2 ⟨x5, rfl, s2, ef⟩
      rw [List.take_of_length_le (by rw [List.length_map]; omega)] at ef
      have s12 := s1.trans s2
      refine ⟨_, rfl, fo, rows.flatten.map Int.ofNat, rfl, .inl (.inl (by rw [← numsV_ints]; exact ef)), by rw [List.length_map]; omega, fun ns' p hp1 hp1' np => ?_⟩
      have s3 : Same H2 (upd H2 p (.lst (ns'.map V.int))) := same_upd np
      have ep : upd H2 p (.lst (ns'.map V.int)) p = some (.lst (ns'.map V.int)) := upd_same
      generalize upd H2 p (.lst (ns'.map V.int)) = H3 at s3 ep
      refine ⟨_, rfl, c, _, rfl, .inl (.inl (.inl (s3 _ _ (s12 _ _ hc)))), _, rfl, ?_⟩
      refine ⟨RgOk.of_le (by omega) (by omega) (by omega) (by omega), fun g ng => ?_⟩
      have s4 : Same H3 (upd H3 g (.lst (rgV 0 (xs.length : Nat)))) := same_upd ng
      have erg : rgV 0 (xs.length : Nat) = ((List.range ts.length).map Int.ofNat).map V.int := by
        unfold rgV
        rw [show (((xs.length : Nat) : Int) - 0).toNat = ts.length by omega, List.map_map]
        refine List.map_congr_left fun i _ => ?_
        show V.int (0 + (i : Int)) = V.int (Int.ofNat i)
        rw [Int.zero_add]
        rfl
      refine eq_ints (l := ns') (m := (List.range ts.length).map Int.ofNat) (s4 _ _ ep) (by rw [upd_same, erg]) ?_
      have : ns' = (List.range ts.length).map Int.ofNat := by
        refine sorted_same hp1' ?_ (hp1.trans (part.perm.map _))
        refine List.pairwise_map.mpr (List.pairwise_lt_range.imp fun h => ?_)
        exact Int.ofNat_le.mpr (Nat.le_of_lt h)
      rw [decide_eq_true this]
      exact q _ (s12.trans (s3.trans s4))
end
end LT
end
section
set_option Elab.async false
set_option linter.all false
set_option maxRecDepth 100000
set_option maxHeartbeats 4000000
/-! the well of numbers: _law_well, _law_take, _law_shuffled, _law_name, _law_rising -/
namespace LT
open PySem PySem.Spec PyProof.Rows L2
/-- a bag of numbers stands at g, at most N were taken of its own -/
def BagAt (H : Hp) (g : Addr) (N : Nat) : Prop := ∃ b0 b1 b2 : Int, H g = some (.lst [.int b0, .int b1, .int b2]) ∧ 0 ≤ b0 ∧ 0 ≤ b1 ∧ b1 < 2305843009213693951 ∧ 0 ≤ b2 ∧ b2 ≤ N
theorem BagAt.mono {H : Hp} {g : Addr} {N M : Nat} (h : BagAt H g N) (e : N ≤ M) : BagAt H g M := by
  obtain ⟨b0, b1, b2, a, b, c, d, e1, f⟩ := h
  exact ⟨b0, b1, b2, a, b, c, d, e1, by omega⟩
theorem BagAt.same {H H' : Hp} {g : Addr} {N : Nat} (h : BagAt H g N) (s : Same H H') : BagAt H' g N := by
  obtain ⟨b0, b1, b2, a, b⟩ := h
  exact ⟨b0, b1, b2, s _ _ a, b⟩
/-- all but the bag stand -/
def Fr (g : Addr) (H H' : Hp) : Prop := ∀ c o, H c = some o → c ≠ g → H' c = some o
theorem Fr.refl (g : Addr) (H : Hp) : Fr g H H := fun _ _ h _ => h
theorem Fr.trans {g : Addr} {H H1 H2 : Hp} (a : Fr g H H1) (b : Fr g H1 H2) : Fr g H H2 := fun c o h n => b c o (a c o h n) n
theorem Fr.same {g : Addr} {H H1 : Hp} (a : Same H H1) : Fr g H H1 := fun c o e _ => a c o e
theorem Fr.tup {g : Addr} {H H1 : Hp} {N : Nat} (a : Fr g H H1) (b : BagAt H g N) : ∀ c xs, H c = some (.tup xs) → H1 c = some (.tup xs) := fun c xs e => a c _ e fun z => by
  obtain ⟨b0, b1, b2, h, _⟩ := b
  rw [z, h] at e
  cases e
/-- what is new is not the bag -/
theorem BagAt.ne {H : Hp} {g c : Addr} {N : Nat} (b : BagAt H g N) (h : H c = none) : c ≠ g := fun z => by
  obtain ⟨b0, b1, b2, e, _⟩ := b
  rw [z, e] at h
  cases h
section
variable {P : Program} {w : World} {K : PySem.W.Frag} {mg : Str → Option Value} {base : Heap} {cL : Addr}
def spWell : Sp := fun vs H Q _ => ∃ c : Int, vs = [.int c, .int 0] ∧ ∀ g H', Same H H' → H g = none → BagAt H' g 0 → Q (.ref g) H'
theorem scWell : FnScope ["cell", "turn"] ["cell", "turn"] (defScope (topS 29)) := ⟨rfl, rfl, rfl, by decide +kernel, rfl, by decide +kernel, by decide +kernel⟩
theorem ok_well (T : Txt K mg cL) : FnOk P w K mg base CX0 1 T.well.f T.well.fd ["cell", "turn"] spWell := by
  refine T.well.F.ok scWell (fun vs H Q E h => ?_) (fun cdv A0 outer s H vs Q E hr h => ?_)
  · obtain ⟨c, rfl, _⟩ := h
    rfl
  · obtain ⟨c, rfl, q⟩ := h
    refine ⟨_, pss_cons (ps_if (pt_cmpR op_ge (pv 0) (pe_op op_pow pe_int pe_int) (nomark _)) (pss_one (ps_ret (pe_lst (pa_cons (pe_op op_sub (pv 0) (pe_op op_pow pe_int pe_int)) (pa_cons (pe_op op_mod (pv 0) pe_int) (pa_cons (pv 1) pa_nil)))))) pss_nil)
      (pss_one (ps_ret (pe_lst (pa_cons pe_int (pa_cons (pe_op op_mod (pv 0) pe_int) (pa_cons (pv 1) pa_nil)))))), ?_⟩
    have h1 := Int.emod_nonneg c (b := 2305843009213693951) (by decide)
    have h2 := Int.emod_lt_of_pos c (b := 2305843009213693951) (by decide)
    refine ⟨_, rfl, 10, 18, rfl, rfl, ⟨by decide, by decide, by decide⟩, c, _, rfl, rfl, _, rfl, ?_⟩
    have e18 : (10 : Int) ^ ((18 : Int).toNat) = 1000000000000000000 := by decide
    rw [e18]
    refine ite2 (fun e => ?_) (fun _ => ?_)
    · refine ⟨_, rfl, 10, 18, rfl, rfl, ⟨by decide, by decide, by decide⟩, c, _, rfl, rfl, _, rfl, c, 2305843009213693951, rfl, rfl, (by show (0 : Int) < 2305843009213693951; decide), _, rfl, line8 (by show 3 ≤ 1000; decide), fun g ng => ?_⟩
      refine q g _ (same_upd ng) ng ⟨_, _, _, upd_same, ?_, h1, h2, Int.le_refl _, Int.le_refl _⟩
      rw [e18]
      have := of_decide_eq_true e
      omega
    · refine ⟨_, rfl, c, 2305843009213693951, rfl, rfl, (by show (0 : Int) < 2305843009213693951; decide), _, rfl, line8 (by show 3 ≤ 1000; decide), fun g ng => ?_⟩
      exact q g _ (same_upd ng) ng ⟨_, _, _, upd_same, Int.le_refl _, h1, h2, Int.le_refl _, Int.le_refl _⟩
/-! ### _law_take -/
def spTake : Sp := fun vs H Q _ => ∃ (g : Addr) (m N : Nat), vs = [.ref g, .int (m : Nat)] ∧ BagAt H g N ∧ 1 ≤ m ∧ m ≤ 1000000 ∧ N ≤ 1000000000000 ∧ ∀ (r : Nat) (H' : Hp), r < m → Fr g H H' → BagAt H' g (N + 1) → Q (.int (r : Nat)) H'
theorem scTake : FnScope ["bag", "many", "found", "p", "n"] ["bag", "many"] (defScope (topS 30)) := ⟨rfl, rfl, rfl, by decide +kernel, rfl, by decide +kernel, by decide +kernel⟩
theorem ix3 : ixN 3 0 = some 0 ∧ ixN 3 2 = some 2 := ⟨rfl, rfl⟩
theorem ok_take (T : Txt K mg cL) : FnOk P w K mg base CX0 1 T.take.f T.take.fd ["bag", "many"] spTake := by
  refine T.take.F.ok scTake (fun vs H Q E h => ?_) (fun cdv A0 outer s H vs Q E hr h => ?_)
  · obtain ⟨g, m, N, rfl, _⟩ := h
    rfl
  · obtain ⟨g, m, N, rfl, ⟨b0, b1, b2, hg, h0, h1, h1', h2, h2'⟩, m1, m2, hN, q⟩ := h
    have nd := scTake.nd
    refine ⟨_, pss_cons (ps_if (pt_cmpR op_gt (pe_ix ix_list (pv 0) pe_int (fun _ _ => rfl)) pe_int (nomark _))
        (pss_cons (ps_set (i := 2) nd rfl (.inl rfl) (pe_op op_mod (pe_ix ix_list (pv 0) pe_int (fun _ _ => rfl)) (pv 1)))
        (pss_cons (ps_asg (pe_op op_fdiv (pe_ix ix_list (pv 0) pe_int (fun _ _ => rfl)) (pv 1)) (pg_sub (pv 0) pe_int set_list))
        (pss_one (ps_ret (pv 2))))) pss_nil)
      (pss_cons (ps_asg (pe_op op_add (pe_ix ix_list (pv 0) pe_int (fun _ _ => rfl)) pe_int) (pg_sub (pv 0) pe_int set_list))
      (pss_cons (ps_set (i := 3) nd rfl (.inl rfl) pe_int)
      (pss_cons (ps_set (i := 4) nd rfl (.inl rfl) (pe_op op_mod (pe_op op_add (pe_ix ix_list (pv 0) pe_int (fun _ _ => rfl)) (pe_op op_mul pe_int (pe_ix ix_list (pv 0) pe_int (fun _ _ => rfl)))) (pv 3)))
      (pss_cons (ps_set (i := 4) nd rfl (.inl rfl) (pe_op op_mod (pe_op op_add (pe_op op_add (pe_op op_mul (pv 4) (pv 4)) (pe_op op_mul pe_int (pe_op op_pow (pe_ix ix_list (pv 0) pe_int (fun _ _ => rfl)) pe_int))) pe_int) (pv 3)))
      (pss_one (ps_ret (pe_op op_mod (pe_op op_fdiv (pe_op op_mod (pe_op op_pow (pv 4) pe_int) (pv 3)) pe_int) (pv 1)))))))), ?_⟩
    have hS : SqL K H g [.int b0, .int b1, .int b2] := .inl (.inl hg)
    have mm : (0 : Int) < (m : Nat) := by omega
    have up : ∀ o, Fr g H (upd H g o) := fun o c u e n => by
      rw [upd_ne n]
      exact e
    have nat : ∀ x : Int, x % (m : Nat) = ((x % (m : Nat)).toNat : Nat) ∧ (x % (m : Nat)).toNat < m := fun x => by
      have a := Int.emod_nonneg x (b := (m : Nat)) (by omega)
      have b := Int.emod_lt_of_pos x mm
      omega
    have qq : ∀ (x : Int) (H' : Hp), Fr g H H' → BagAt H' g (N + 1) → Q (.int (x % (m : Nat))) H' := fun x H' a b => by
      have := nat x
      rw [this.1]
      exact q _ _ this.2 a b
    refine ⟨_, rfl, g, _, 0, _, rfl, rfl, hS, atI_nat (j := 0) rfl, _, _, rfl, rfl, _, rfl, ?_⟩
    refine ite2 (fun e => ?_) (fun _ => ?_)
    · refine ⟨_, rfl, g, _, 0, _, rfl, rfl, hS, atI_nat (j := 0) rfl, _, rfl, _, _, rfl, rfl, mm, ?_⟩
      refine ⟨_, rfl, g, _, 0, _, rfl, rfl, hS, atI_nat (j := 0) rfl, _, rfl, _, _, rfl, rfl, ⟨mm, by omega⟩, _, rfl, g, _, 0, _, rfl, rfl, hg, ix3.1, _, rfl, ?_⟩
      exact qq b0 _ (up _) ⟨_, b1, b2, upd_same, Int.ediv_nonneg h0 (by omega), h1, h1', h2, by omega⟩
    · refine ⟨_, rfl, g, _, 2, _, rfl, rfl, hS, atI_nat (j := 2) rfl, _, _, rfl, rfl, _, rfl, g, _, 2, _, rfl, rfl, hg, ix3.2, ?_⟩
      have e3 : (([V.int b0, V.int b1, V.int b2] : List V).set 2 (V.int (b2 + 1))) = [V.int b0, V.int b1, V.int (b2 + 1)] := rfl
      have hg3 : upd H g (.lst (([V.int b0, V.int b1, V.int b2] : List V).set 2 (V.int (b2 + 1)))) g = some (.lst [V.int b0, V.int b1, V.int (b2 + 1)]) := upd_same
      have f3 := up (.lst (([V.int b0, V.int b1, V.int b2] : List V).set 2 (V.int (b2 + 1))))
      generalize upd H g (.lst (([V.int b0, V.int b1, V.int b2] : List V).set 2 (V.int (b2 + 1)))) = H3 at hg3 f3
      have hS3 : SqL K H3 g [.int b0, .int b1, .int (b2 + 1)] := .inl (.inl hg3)
      have pp : (0 : Int) < 2305843009213693951 := by decide
      refine ⟨_, rfl, g, _, 1, _, rfl, rfl, hS3, atI_nat (j := 1) rfl, ?_⟩
      refine ⟨_, rfl, g, _, 2, _, rfl, rfl, hS3, atI_nat (j := 2) rfl, _, _, rfl, rfl, .inl ⟨by decide, by decide⟩, _, _, rfl, rfl, _, rfl, _, _, rfl, rfl, pp, ?_⟩
      have n1 := Int.emod_nonneg (b1 + 1000003 * (b2 + 1)) (b := 2305843009213693951) (by decide)
      have n2 := Int.emod_lt_of_pos (b1 + 1000003 * (b2 + 1)) pp
      have sq : ∀ n : Int, 0 ≤ n → n < 2305843009213693951 → CMul n n := fun n a b => .inl ⟨by omega, by omega⟩
      have cu : ∀ n : Int, 0 ≤ n → n < 2305843009213693951 → CPow n 3 := fun n a b => ⟨by decide, by decide, by omega⟩
      refine ⟨_, rfl, _, rfl, _, _, rfl, rfl, sq _ n1 n2, ?_⟩
      refine ⟨_, rfl, g, _, 2, _, rfl, rfl, hS3, atI_nat (j := 2) rfl, _, _, rfl, rfl, ⟨by decide, by decide, by omega⟩, _, _, rfl, rfl, .inl ⟨by decide, by decide⟩, _, _, rfl, rfl, _, _, rfl, rfl, _, rfl, _, _, rfl, rfl, pp, ?_⟩
      have pos := fun x : Int => And.intro (Int.emod_nonneg x (b := 2305843009213693951) (by decide)) (Int.emod_lt_of_pos x pp)
      refine ⟨_, rfl, _, _, rfl, rfl, cu _ (pos _).1 (pos _).2, _, rfl, _, _, rfl, rfl, pp, _, _, rfl, rfl, ⟨by decide, by decide⟩, _, rfl, _, _, rfl, rfl, mm, ?_⟩
      exact qq _ _ f3 ⟨_, _, _, hg3, h0, h1, h1', by omega, by omega⟩
end
end LT
end
section
set_option Elab.async false
set_option linter.all false
set_option maxRecDepth 100000
set_option maxHeartbeats 4000000
/-! _law_shuffled, _law_name -/
namespace LT
open PySem PySem.Spec PyProof.Rows L2
/-! ### texts -/
theorem strOk_name {z : Str} (h : NameOk z) : PyData.strOk z = true := by
  unfold PyData.strOk
  rw [← Array.all_toList, List.all_eq_true]
  intro c hc
  have h1 := h.lets c hc
  have h2 : ∀ c ∈ letters.cps.toList, decide (c < 1114112) = true := by decide +kernel
  exact h2 c h1
def datT (t : Trn) : PyData := .tuple [.str t.n, .int t.b, .int t.e]
theorem dat_lay : ∀ {ts : List Trn}, (∀ t ∈ ts, NameOk t.n) → PyData.canLayAll0 (ts.map datT) = true
  | [], _ => rfl
  | t :: ts, h => by
    have h1 := strOk_name (h t (by simp))
    have ih := dat_lay (ts := ts) fun x hx => h x (List.mem_cons_of_mem _ hx)
    simp [PyData.canLayAll0, PyData.canLay0, datT, ih, h1]
theorem dat_depth : ∀ {ts : List Trn}, PyData.depthAll (ts.map datT) ≤ 1
  | [] => Nat.zero_le _
  | t :: ts => by
    have ih := dat_depth (ts := ts)
    simp only [List.map_cons, PyData.depthAll, datT, PyData.depth]
    omega
theorem dat_shaped {ts : List Trn} (h : ∀ t ∈ ts, NameOk t.n) : SeqAt.shaped (.list (ts.map datT)) = true := by
  have h1 := dat_lay h
  have h2 := dat_depth (ts := ts)
  simp only [SeqAt.shaped, PyData.canLay0, PyData.depth, h1, Bool.true_and]
  exact decide_eq_true (by omega)
theorem dat_all {K : PySem.W.Frag} {H : Hp} {xs : List V} {ts : List Trn} (h : TurnsAre H xs ts) : DpAll K H xs (ts.map datT) := by
  induction h with
  | nil => exact .nil
  | cons r _ ih =>
    obtain ⟨q, rfl, e⟩ := r
    exact .cons (.tup (.inl (.inl e)) (.cons (.str _) (.cons (.int _) (.cons (.int _) .nil)))) ih
theorem ne_nilT {K : PySem.W.Frag} {H : Hp} {r e : Addr} {xs : List V} {ts : List Trn} {Q : VK} (hn : ∀ t ∈ ts, NameOk t.n) (hx : TurnsAre H xs ts) (h : H r = some (.lst xs)) (he : H e = some (.lst [])) (q : Q (.bl (!decide (ts = []))) H) : rNeD K (.ref r) (.ref e) H Q := by
  refine ⟨.list (ts.map datT), .list [], .lst (.inl (.inl h)) (dat_all hx), .lst (.inl (.inl he)) .nil, dat_shaped hn, rfl, ?_⟩
  rw [eqv_nil]
  have : decide (ts.map datT = []) = decide (ts = []) := by
    cases ts <;> rfl
  rw [this]
  exact q
theorem paired_erase {α β : Type} {G : α → β → Prop} : ∀ {l : List α} {m : List β}, Paired G l m → ∀ k, Paired G (l.eraseIdx k) (m.eraseIdx k)
  | _, _, .nil, _ => .nil
  | _, _, .cons _ t, 0 => t
  | _, _, .cons r t, k + 1 => .cons r (paired_erase t k)
theorem paired_snocT {α β : Type} {G : α → β → Prop} {l : List α} {m : List β} {x : α} {y : β} (h : Paired G l m) (g : G x y) : Paired G (l ++ [x]) (m ++ [y]) := paired_snoc h g
theorem turns_keep {H H' : Hp} {xs : List V} {ts : List Trn} (k : ∀ a ys, H a = some (.tup ys) → H' a = some (.tup ys)) (h : TurnsAre H xs ts) : TurnsAre H' xs ts := Paired.mapP h fun _ _ ⟨r, e, q⟩ => ⟨r, e, k _ _ q⟩
theorem tup_upd {H : Hp} {c : Addr} {xs : List V} {o : HO} (h : H c = some (.lst xs)) : ∀ a ys, H a = some (.tup ys) → upd H c o a = some (.tup ys) := fun a ys e => by
  rw [upd_ne (fun z => by rw [z, h] at e; cases e)]
  exact e
section
variable {P : Program} {w : World} {K : PySem.W.Frag} {mg : Str → Option Value} {base : Heap} {cL : Addr}
def spShuf : Sp := fun vs H Q _ => ∃ (g c : Addr) (ts : List Trn) (N : Nat), vs = [.ref g, .ref c] ∧ BagAt H g N ∧ N + 1000 ≤ 1000000000000 ∧ TurnsAt H c ts ∧ ts.length ≤ 100 ∧ (∀ t ∈ ts, NameOk t.n) ∧
  ∀ (p : Addr) (ts' : List Trn) (H' : Hp), ts'.Perm ts → TurnsAt H' p ts' → H p = none → Fr g H H' → BagAt H' g (N + ts.length) → Q (.ref p) H'
theorem scShuf : FnScope ["bag", "some", "left", "found"] ["bag", "some"] (defScope (topS 31)) := ⟨rfl, rfl, rfl, by decide +kernel, rfl, by decide +kernel, by decide +kernel⟩
structure Shf (H : Hp) (g le fo : Addr) (ts tl tf : List Trn) (N : Nat) (H1 : Hp) : Prop where
  fr : Fr g H H1
  bag : BagAt H1 g (N + tf.length)
  l : ∃ xs, H1 le = some (.lst xs) ∧ TurnsAre H1 xs tl
  f : ∃ ys, H1 fo = some (.lst ys) ∧ TurnsAre H1 ys tf
  pm : (tl ++ tf).Perm ts
theorem ok_shuf (T : Txt K mg cL) : FnOk P w K mg base CX0 2 T.shuffled.f T.shuffled.fd ["bag", "some"] spShuf := by
  refine T.shuffled.F.ok scShuf (fun vs H Q E h => ?_) (fun cdv A0 outer s H vs Q E hr h => ?_)
  · obtain ⟨g, c, ts, N, rfl, _⟩ := h
    rfl
  · obtain ⟨g, c, ts, N, rfl, bg, hN, ⟨xs, hc, hx⟩, h100, hnm, q⟩ := h
    have dT := ok_take (P := P) (w := w) (base := base) T
    have nd := scShuf.nd
    refine ⟨_, pss_cons (ps_set (i := 2) nd rfl (.inl rfl) (pe_callTy call_list_of (by rfl) T.list (by decide +kernel) (pa_cons (pv 1) pa_nil)))
      (pss_cons (ps_set (i := 3) nd rfl (.inl rfl) (pe_lst pa_nil))
      (pss_cons (ps_while PassesOwn.never (pt_cmpR (op_neD hr.units) (pv 2) (pe_lst pa_nil) (nomark _))
        (pss_one (ps_expr (pe_bm PySem.F.plainAttrs_list PySem.F.slot_list_append PySem.F.type_list_append mt_append (pv 3) (pa_cons
          (pe_bm PySem.F.plainAttrs_list PySem.F.slot_list_pop PySem.F.type_list_pop mt_popAt (pv 2) (pa_cons (pe_call dT hr (by rfl) T.take.g T.take.F.kp T.take.b .nil pass0 (pa_cons (pv 0) (pa_cons (pe_callB call_len_seq (by rfl) T.len PySem.boot_len (pa_cons (pv 2) pa_nil)) pa_nil))) pa_nil)) pa_nil)))))
      (pss_one (ps_ret (pv 3))))), ?_⟩
    refine ⟨_, rfl, c, xs, rfl, .inl (.inl (.inl hc)), fun le nle => ?_⟩
    refine ⟨Nat.zero_le _, fun fo nfo => ?_⟩
    have s1 : Same H (upd H le (.lst xs)) := same_upd nle
    have n1 : fo ≠ le := fun z => by rw [z, upd_same] at nfo; cases nfo
    have nfo0 : H fo = none := s1.free nfo
    have s2 : Same (upd H le (.lst xs)) (upd (upd H le (.lst xs)) fo (.lst [])) := same_upd nfo
    have s12 := s1.trans s2
    have nlg := bg.ne nle
    have nfg := bg.ne nfo0
    have st : Shf H g le fo ts ts [] N (upd (upd H le (.lst xs)) fo (.lst [])) :=
      ⟨Fr.same s12, bg.same s12, ⟨xs, s2 _ _ upd_same, turns_keep (same_tups s12) hx⟩, ⟨[], upd_same, .nil⟩, by rw [List.append_nil]⟩
    generalize upd (upd H le (.lst xs)) fo (.lst []) = H0 at st
    refine ⟨fun m σ H1 => ∃ tl tf, σ = [some (.ref g), some (.ref c), some (.ref le), some (.ref fo)] ∧ Shf H g le fo ts tl tf N H1 ∧ m = tl.length, ⟨_, ts, [], rfl, st, rfl⟩, ?_⟩
    rintro m σ H1 ⟨tl, tf, rfl, ⟨fr, bag, ⟨xl, el, pl⟩, ⟨xf, ef, pf⟩, pm⟩, rfl⟩
    have hnl : ∀ t ∈ tl, NameOk t.n := fun t ht => hnm t (pm.mem_iff.mp (List.mem_append.mpr (.inl ht)))
    have hlen : tl.length + tf.length = ts.length := by
      have := pm.length_eq
      rw [List.length_append] at this
      exact this
    refine ⟨_, rfl, Nat.zero_le _, fun em hem => ?_⟩
    have sE : Same H1 (upd H1 em (.lst [])) := same_upd hem
    refine ne_nilT hnl (turns_keep (same_tups sE) pl) (sE _ _ el) upd_same ⟨_, rfl, ?_⟩
    generalize upd H1 em (.lst []) = H2 at sE
    have el2 := sE _ _ el
    have ef2 := sE _ _ ef
    have pl2 := turns_keep (same_tups sE) pl
    have pf2 := turns_keep (same_tups sE) pf
    have fr2 := fr.trans (Fr.same sE)
    have bag2 := bag.same sE
    cases tl with
    | nil =>
      refine iteF ?_
      refine ⟨_, rfl, q fo tf _ ?_ ⟨xf, ef2, pf2⟩ nfo0 fr2 (bag2.mono ?_)⟩
      · rw [List.nil_append] at pm
        exact pm
      · simp only [List.length_nil] at hlen
        omega
    | cons t0 tl0 =>
      rw [show decide (t0 :: tl0 = []) = false from rfl]
      have hxl := paired_len pl2
      refine iteT ⟨fun σ' H' => ∃ tl' tf', σ' = [some (.ref g), some (.ref c), some (.ref le), some (.ref fo)] ∧ Shf H g le fo ts tl' tf' N H' ∧ tl'.length < (t0 :: tl0).length, fun σ' H' ⟨tl', tf', a, b, c⟩ => ⟨_, c, tl', tf', a, b, rfl⟩, ?_⟩
      refine ⟨_, rfl, .inl ⟨rfl, _, .inl (.inl ef2)⟩, _, rfl, .inl ⟨rfl, _, .inl (.inl el2)⟩, _, rfl, _, rfl, le, _, rfl, .inl (.inl (.inl el2)), g, xl.length, N + tf.length, rfl, bag2, ?_, ?_, by omega, fun r H3 hr1 f3 b3 => ?_⟩
      · rw [hxl]
        simp
      · rw [hxl]
        simp only [List.length_cons] at hlen ⊢
        omega
      · have el3 := f3 _ _ el2 nlg
        have ef3 := f3 _ _ ef2 nfg
        have pl3 := turns_keep (f3.tup bag2) pl2
        have pf3 := turns_keep (f3.tup bag2) pf2
        have er : xl[r]? = some xl[r] := List.getElem?_eq_getElem hr1
        obtain ⟨u, eu, tu⟩ := paired_at pl3 er
        have hbd : xl.length < 1000 := by
          rw [hxl]
          simp only [List.length_cons] at hlen ⊢
          omega
        refine ⟨le, xl, r, r, _, rfl, rfl, el3, by omega, by omega, ?_, er, fo, xf, _, rfl, rfl, ?_, ?_, ?_⟩
        · rw [PySem.seqIndex_of (by omega) (by omega)]
          rfl
        · rw [upd_ne n1]
          exact ef3
        · have := paired_len pf3
          exact small1000 (by omega)
        · have k4 := tup_upd (o := .lst (xl.eraseIdx r)) el3
          have e5 : upd H3 le (.lst (xl.eraseIdx r)) fo = some (.lst xf) := by
            rw [upd_ne n1]
            exact ef3
          have k5 := tup_upd (o := .lst (xf ++ [xl[r]])) e5
          have p1 : Paired (TurnAt (upd (upd H3 le (.lst (xl.eraseIdx r))) fo (.lst (xf ++ [xl[r]])))) (xl.eraseIdx r) ((t0 :: tl0).eraseIdx r) := turns_keep k5 (turns_keep k4 (paired_erase pl3 r))
          have p2 : Paired (TurnAt (upd (upd H3 le (.lst (xl.eraseIdx r))) fo (.lst (xf ++ [xl[r]])))) (xf ++ [xl[r]]) (tf ++ [u]) := turns_keep k5 (turns_keep k4 (paired_snocT pf3 tu))
          have hb5 : BagAt (upd (upd H3 le (.lst (xl.eraseIdx r))) fo (.lst (xf ++ [xl[r]]))) g (N + (tf ++ [u]).length) := by
            obtain ⟨b0, b1, b2, a, b⟩ := b3
            refine BagAt.mono ⟨b0, b1, b2, ?_, b⟩ (by rw [List.length_append, List.length_singleton]; omega)
            rw [upd_ne (Ne.symm nfg), upd_ne (Ne.symm nlg)]
            exact a
          refine ⟨(t0 :: tl0).eraseIdx r, tf ++ [u], rfl, ⟨fun c o e n => ?_, hb5, ⟨_, ?_, p1⟩, ⟨_, upd_same, p2⟩, ?_⟩, ?_⟩
          · rw [upd_ne (ne_of_none e nfo0), upd_ne (ne_of_none e nle)]
            exact f3 _ _ (fr2 _ _ e n) n
          · rw [upd_ne (Ne.symm n1), upd_same]
          · have := erase_perm eu
            refine List.Perm.trans ?_ pm
            have h2 : ((t0 :: tl0) ++ tf).Perm ((u :: (t0 :: tl0).eraseIdx r) ++ tf) := this.append_right tf
            refine List.Perm.trans ?_ h2.symm
            rw [← List.append_assoc]
            refine List.Perm.trans List.perm_append_comm ?_
            rfl
          · have := (List.getElem?_eq_some_iff.mp eu).1
            rw [List.length_eraseIdx]
            split <;> omega
end
end LT
end
section
set_option Elab.async false
set_option linter.all false
set_option maxRecDepth 100000
set_option maxHeartbeats 4000000
/-! _law_name, _law_rising, _law_town -/
namespace LT
open PySem PySem.Spec PyProof.Rows L2
def names7 : List Str := ["ann", "bo", "cy", "dan", "eve", "flo", "gus"]
theorem names7_ok : ∀ z ∈ names7, NameOk z := by
  have h : ∀ z ∈ names7, (decide (1 ≤ z.length) && decide (z.length ≤ 8) && z.cps.toList.all fun c => letters.cps.toList.contains c) = true := by decide +kernel
  intro z hz
  have := h z hz
  rw [Bool.and_eq_true, Bool.and_eq_true] at this
  exact ⟨of_decide_eq_true this.1.1, of_decide_eq_true this.1.2, fun c hc => by
    have := List.all_eq_true.mp this.2 c hc
    exact List.contains_iff_mem.mp this⟩
theorem joinL_nil : ∀ ps : List (List Nat), TL.joinL [] ps = ps.flatten
  | [] => rfl
  | [p] => by simp [TL.joinL]
  | p :: q :: r => by
    have ih := joinL_nil (q :: r)
    simp only [TL.joinL, List.nil_append, ih]
    simp
theorem letters_len : letters.cps.toList.length = 26 := by decide +kernel
/-- signs joined -/
theorem join_signs {ys : List Str} (h : ∀ y ∈ ys, ∃ c, c ∈ letters.cps.toList ∧ y = ⟨#[c]⟩) (h1 : 1 ≤ ys.length) (h8 : ys.length ≤ 8) : NameOk (Txt.join (Str.ofString "") ys) := by
  have e : TL.tl (Txt.join (Str.ofString "") ys) = (ys.map TL.tl).flatten := by
    rw [TL.join_eq, TL.tl_join, show TL.tl (Str.ofString "") = [] from by decide +kernel, joinL_nil]
  have hl : ∀ zs : List Str, (∀ y ∈ zs, ∃ c, c ∈ letters.cps.toList ∧ y = ⟨#[c]⟩) → (zs.map TL.tl).flatten.length = zs.length ∧ ∀ c ∈ (zs.map TL.tl).flatten, c ∈ letters.cps.toList := by
    intro zs
    induction zs with
    | nil => exact fun _ => ⟨rfl, fun c hc => by simp at hc⟩
    | cons z zs ih =>
      intro hz
      obtain ⟨i1, i2⟩ := ih fun y hy => hz y (List.mem_cons_of_mem _ hy)
      obtain ⟨c, hc, rfl⟩ := hz z (by simp)
      have e1 : TL.tl (⟨#[c]⟩ : Str) = [c] := rfl
      rw [List.map_cons, List.flatten_cons, e1]
      refine ⟨by rw [List.length_append, i1, List.length_singleton, List.length_cons]; omega, fun x hx => ?_⟩
      rcases List.mem_append.mp hx with q | q
      · rw [List.mem_singleton.mp q]
        exact hc
      · exact i2 x q
  obtain ⟨l1, l2⟩ := hl ys h
  refine ⟨?_, ?_, fun c hc => ?_⟩
  · rw [TL.len_tl, e, l1]
    exact h1
  · rw [TL.len_tl, e, l1]
    exact h8
  · have : c ∈ TL.tl (Txt.join (Str.ofString "") ys) := hc
    rw [e] at this
    exact l2 c this
section
variable {P : Program} {w : World} {K : PySem.W.Frag} {mg : Str → Option Value} {base : Heap} {cL : Addr}
def spNm : Sp := fun vs H Q _ => ∃ (g : Addr) (N : Nat), vs = [.ref g] ∧ BagAt H g N ∧ N + 1000 ≤ 1000000000000 ∧ ∀ (z : Str) (H' : Hp), NameOk z → Fr g H H' → BagAt H' g (N + 10) → Q (.str z) H'
theorem scNm : FnScope ["bag", "way", "letters", "many", "k"] ["bag"] (defScope (topS 32)) := ⟨rfl, rfl, rfl, by decide +kernel, rfl, by decide +kernel, by decide +kernel⟩
theorem ok_nm (T : Txt K mg cL) : FnOk P w K mg base CX0 2 T.name.f T.name.fd ["bag"] spNm := by
  refine T.name.F.ok scNm (fun vs H Q E h => ?_) (fun cdv A0 outer s H vs Q E hr h => ?_)
  · obtain ⟨g, N, rfl, _⟩ := h
    rfl
  · obtain ⟨g, N, rfl, bg, hN, q⟩ := h
    have dT := ok_take (P := P) (w := w) (base := base) T
    have nd := scNm.nd
    refine ⟨_, pss_cons (ps_set (i := 1) nd rfl (.inl rfl) (pe_call dT hr (by rfl) T.take.g T.take.F.kp T.take.b .nil pass0 (pa_cons (pv 0) (pa_cons pe_int pa_nil))))
      (pss_cons (ps_if (pt_cmpR op_lt (pv 1) pe_int (nomark _)) (pss_one (ps_ret (pe_ix ix_list (pe_lst (pa_cons pe_str (pa_cons pe_str (pa_cons pe_str (pa_cons pe_str (pa_cons pe_str (pa_cons pe_str (pa_cons pe_str pa_nil)))))))) (pv 1) (fun _ _ => rfl)))) pss_nil)
      (pss_cons (ps_set (i := 2) nd rfl (.inr rfl) pe_str)
      (pss_cons (ps_set (i := 3) nd rfl (.inl rfl) (pe_ix ix_list (pe_lst (pa_cons pe_int (pa_cons pe_int (pa_cons pe_int pa_nil)))) (pe_call dT hr (by rfl) T.take.g T.take.F.kp T.take.b .nil pass0 (pa_cons (pv 0) (pa_cons pe_int pa_nil))) (fun _ _ => rfl)))
      (pss_one (ps_ret (pe_join pe_str (pe_lc (own := [("k", 4)]) (g := gName 4) (te := tOp rIxS (tVar 2) (tCall spTake [] E0 (tCons (tVar 0) (tCons (tC (.int 26)) tNil)))) rfl nd (pi_range1 (by rfl) T.range (pa_cons (pv 3) pa_nil)) (blkOk_by (N := ["bag", "way", "letters", "many", "k"]) (sc := defScope (topS 32)) (by decide +kernel))
        (fun _ _ _ _ _ => pg_name (i := 4) nd rfl (Or.inl rfl)) (fun _ _ _ _ _ => pts_nil) (fun _ _ _ _ _ => pe_ix ix_str (pv 2) (pe_call dT hr (by rfl) T.take.g T.take.F.kp T.take.b .nil pass0 (pa_cons (pv 0) (pa_cons pe_int pa_nil))) (fun _ _ => rfl))))))))), ?_⟩
    refine ⟨_, rfl, g, 9, N, rfl, bg, by decide, by decide, by omega, fun r H1 hr1 f1 b1 => ?_⟩
    refine ⟨_, rfl, _, _, rfl, rfl, _, rfl, ?_⟩
    refine ite2 (fun e => ?_) (fun _ => ?_)
    · refine ⟨line8 (by show 7 ≤ 1000; decide), fun l nl => ?_⟩
      have hlt : r < 7 := by
        have := of_decide_eq_true e
        omega
      have s2 : Same H1 (upd H1 l (.lst (names7.map V.str))) := same_upd nl
      have hz : ∃ z, names7[r]? = some z := ⟨_, List.getElem?_eq_getElem hlt⟩
      obtain ⟨z, ez⟩ := hz
      refine ⟨_, rfl, l, names7.map V.str, _, _, rfl, rfl, .inl (.inl upd_same), at1 (by rw [List.getElem?_map, ez]; rfl), ?_⟩
      exact q z _ (names7_ok z (List.mem_of_getElem? ez)) (f1.trans (Fr.same s2)) ((b1.same s2).mono (by omega))
    · refine ⟨line8 (by show 3 ≤ 1000; decide), fun l nl => ?_⟩
      have s2 : Same H1 (upd H1 l (.lst [.int 1, .int 2, .int 8])) := same_upd nl
      have nlg := b1.ne nl
      have el : upd H1 l (.lst [.int 1, .int 2, .int 8]) l = some (.lst [.int 1, .int 2, .int 8]) := upd_same
      have b2 := b1.same s2
      generalize upd H1 l (.lst [.int 1, .int 2, .int 8]) = H2 at s2 el b2
      refine ⟨_, rfl, g, 3, N + 1, rfl, b2, by decide, by decide, by omega, fun r3 H3 hr3 f3 b3 => ?_⟩
      have hm : ∃ m : Nat, ([V.int 1, V.int 2, V.int 8] : List V)[r3]? = some (.int (m : Nat)) ∧ 1 ≤ m ∧ m ≤ 8 := by
        match r3, hr3 with
        | 0, _ => exact ⟨1, rfl, by decide, by decide⟩
        | 1, _ => exact ⟨2, rfl, by decide, by decide⟩
        | 2, _ => exact ⟨8, rfl, by decide, by decide⟩
      obtain ⟨m, em, m1, m8⟩ := hm
      refine ⟨l, _, _, _, rfl, rfl, .inl (.inl (f3 _ _ el nlg)), at1 em, ?_⟩
      refine ⟨⟨_, rfl⟩, ?_⟩
      have f13 : Fr g H H3 := f1.trans ((Fr.same s2).trans f3)
      refine ⟨_, rfl, (m : Nat), rfl, by omega, by omega, fun D hD => lc_it walk_range (fun i H4 => ∃ ys : List Str, ys.length = i ∧ (∀ y ∈ ys, ∃ c, c ∈ letters.cps.toList ∧ y = ⟨#[c]⟩) ∧ H4 D = some (.lst (ys.map V.str)) ∧ Fr g H H4 ∧ BagAt H4 g (N + 2 + i))
        ⟨[], rfl, fun y hy => by simp at hy, upd_same, f13.trans (Fr.same (same_upd hD)), (b3.same (same_upd hD)).mono (by omega)⟩ (fun _ _ _ _ => trivial) ?_ ?_⟩
      · rintro i x H5 H4 hi ⟨ys, el4, hy, e4, f4, b4⟩ ⟨rfl, rfl⟩
        have nDg := b3.ne hD
        refine ⟨rfl, _, rfl, _, rfl, g, 26, N + 2 + i, rfl, b4, by decide, by decide, by omega, fun r5 H5 hr5 f5 b5 => ?_⟩
        have hr26 : r5 < letters.cps.toList.length := by rw [letters_len]; exact hr5
        refine ⟨_, _, letters.cps.toList[r5], rfl, rfl, line8 (by decide +kernel), atI_nat (List.getElem?_eq_getElem hr26), ?_⟩
        refine ⟨ys.map V.str, f5 _ _ e4 nDg, by rw [List.length_map]; exact small1000 (by omega), ys ++ [⟨#[letters.cps.toList[r5]]⟩], by rw [List.length_append, el4]; rfl, fun y h => ?_, ?_, fun c o e n => ?_, ?_⟩
        · rcases List.mem_append.mp h with z | z
          · exact hy y z
          · exact ⟨_, List.getElem_mem hr26, List.mem_singleton.mp z⟩
        · rw [upd_same, List.map_append]
          rfl
        · have nc : c ≠ D := fun z => by
            rw [z] at e n
            rw [f13 _ _ e n] at hD
            cases hD
          rw [upd_ne nc]
          exact f5 _ _ (f4 _ _ e n) n
        · obtain ⟨b0, b1', b2', a, b⟩ := b5
          refine ⟨b0, b1', b2', ?_, b⟩
          rw [upd_ne (Ne.symm nDg)]
          exact a
      · rintro H4 ⟨ys, el4, hy, e4, f4, b4⟩
        have hm2 : ys.length = m := by omega
        refine ⟨_, D, ys, rfl, rfl, .inl (.inl (.inl e4)), ?_, ?_⟩
        · have : (ys.map (·.length)).sum ≤ 8 := by
            have hs : ∀ zs : List Str, (∀ y ∈ zs, ∃ c, c ∈ letters.cps.toList ∧ y = ⟨#[c]⟩) → (zs.map (·.length)).sum = zs.length := by
              intro zs
              induction zs with
              | nil => exact fun _ => rfl
              | cons z zs ih =>
                intro hz
                obtain ⟨c, _, rfl⟩ := hz z (by simp)
                rw [List.map_cons, List.sum_cons, ih fun y hy => hz y (List.mem_cons_of_mem _ hy), List.length_cons]
                show 1 + zs.length = zs.length + 1
                omega
            rw [hs ys hy]
            omega
          have h0 : (Str.ofString "").length = 0 := by decide +kernel
          show (ys.map (·.length)).sum + ys.length * (Str.ofString "").length ≤ 16777216
          rw [h0]
          omega
        · exact q _ _ (join_signs hy (by omega) (by omega)) f4 (b4.mono (by omega))
end
end LT
end
section
set_option Elab.async false
set_option linter.all false
set_option maxRecDepth 100000
set_option maxHeartbeats 4000000
/-! _law_rising, _law_town -/
namespace LT
open PySem PySem.Spec PyProof.Rows L2
theorem keys_put (kvs : List (Key × V)) (k : Key) (v : V) : (k ∈ kvs.map (·.1) ∧ (putK kvs k v).map (·.1) = kvs.map (·.1)) ∨ (k ∉ kvs.map (·.1) ∧ (putK kvs k v).map (·.1) = kvs.map (·.1) ++ [k]) := by
  cases e : valV kvs k with
  | none =>
    refine .inr ⟨valV_not e, ?_⟩
    rw [putK_new _ e, List.map_append]
    rfl
  | some u =>
    refine .inl ⟨valV_in e, ?_⟩
    unfold putK
    rw [valV_any, e, if_pos (show (some u).isSome = true from rfl), List.map_map]
    refine List.map_congr_left fun p _ => ?_
    show (if p.1 = k then (p.1, v) else p).1 = p.1
    split <;> rfl
theorem rising_pw : ∀ (l : List Str) (p : Str), risingS p l = true → (p :: l).Pairwise (fun a b : Str => ¬ b.cps.toList < a.cps.toList)
  | [], p, _ => by simp
  | x :: r, p, h => by
    have h2 : (!ltCps x.cps.toList p.cps.toList && risingS x r) = true := h
    rw [Bool.and_eq_true, ltCps_eq] at h2
    obtain ⟨h3, h4⟩ := h2
    have h5 : ¬ x.cps.toList < p.cps.toList := by simpa using h3
    have ih := rising_pw r x h4
    refine List.pairwise_cons.mpr ⟨fun y hy => ?_, ih⟩
    rcases List.mem_cons.mp hy with rfl | hy
    · exact h5
    · have h6 := (List.pairwise_cons.mp ih).1 y hy
      exact fun z => by
        have a := List.not_lt.mp h5
        have b := List.not_lt.mp h6
        exact List.not_lt.mpr (List.le_trans a b) z
theorem sortedS_strict {l : List Str} (h : sortedS l = true) (nd : l.Nodup) : l.Pairwise ltS := by
  have h1 : l.Pairwise (fun a b : Str => ¬ b.cps.toList < a.cps.toList) := by
    cases l with
    | nil => exact .nil
    | cons x r => exact rising_pw r x h
  refine (h1.and nd).imp fun {a b} ⟨p, n⟩ => ?_
  have p2 := List.not_lt.mp p
  refine Classical.byContradiction fun q => n ?_
  have := List.le_antisymm p2 (List.not_lt.mp q)
  exact TL.ext_tl this
section
variable {P : Program} {w : World} {K : PySem.W.Frag} {mg : Str → Option Value} {base : Heap} {cL : Addr}
def spRis : Sp := fun vs H Q _ => ∃ (g : Addr) (m N : Nat), vs = [.ref g, .int (m : Nat)] ∧ BagAt H g N ∧ 1 ≤ m ∧ m ≤ 20 ∧ N + 1000000 ≤ 1000000000000 ∧
  ∀ (p : Addr) (zs : List Str) (H' : Hp), zs.Pairwise ltS → (∀ z ∈ zs, NameOk z) → 1 ≤ zs.length → zs.length ≤ m → H p = none → H' p = some (.lst (zs.map V.str)) → Fr g H H' → BagAt H' g (N + 300) → Q (.ref p) H'
theorem scRis : FnScope ["bag", "most", "found", "k"] ["bag", "most"] (defScope (topS 33)) := ⟨rfl, rfl, rfl, by decide +kernel, rfl, by decide +kernel, by decide +kernel⟩
theorem ok_ris (T : Txt K mg cL) : FnOk P w K mg base CX0 3 T.rising.f T.rising.fd ["bag", "most"] spRis := by
  refine T.rising.F.ok scRis (fun vs H Q E h => ?_) (fun cdv A0 outer s H vs Q E hr h => ?_)
  · obtain ⟨g, m, N, rfl, _⟩ := h
    rfl
  · obtain ⟨g, m, N, rfl, bg, m1, m20, hN, q⟩ := h
    have dT := ok_take (P := P) (w := w) (base := base) T
    have dN := ok_nm (P := P) (w := w) (base := base) T
    have nd := scRis.nd
    have hu := hu_of hr
    refine ⟨_, pss_cons (ps_set (i := 2) nd rfl (.inl rfl) pe_dnewK)
      (pss_cons (ps_for PassesOwn.never rfl (pi_range1 (by rfl) T.range (pa_cons (pe_op op_add pe_int (pe_call dT (hr.mono (by decide)) (by rfl) T.take.g T.take.F.kp T.take.b .nil pass0 (pa_cons (pv 0) (pa_cons (pv 1) pa_nil)))) pa_nil)) (pg_name (i := 3) nd rfl (.inl rfl))
        (pss_one (ps_dput hu (pv 2) (pe_call dN hr (by rfl) T.name.g T.name.F.kp T.name.b .nil pass0 (pa_cons (pv 0) pa_nil)) pe_bl rfl)))
      (pss_one (ps_ret (pe_callB (call_sortedD rfl) (by rfl) T.sorted (by decide +kernel) (pa_cons (pv 2) pa_nil))))), ?_⟩
    intro fd nfd
    have s1 : Same H (upd H fd (.dK [])) := same_upd nfd
    have nfg := bg.ne nfd
    have e1 : upd H fd (.dK []) fd = some (.dK []) := upd_same
    have b1 := bg.same s1
    generalize upd H fd (.dK []) = H1 at s1 e1 b1
    refine ⟨_, rfl, _, rfl, g, m, N, rfl, b1, m1, by omega, by omega, fun r H2 hr2 f2 b2 => ?_⟩
    have e2 := f2 _ _ e1 nfg
    refine ⟨_, _, rfl, rfl, _, rfl, by omega, by omega, for_it walk_range (fun i σ H3 => ∃ x3 kvs, ∃ ks : List Str, σ = [some (.ref g), some (.int (m : Nat)), some (.ref fd), x3] ∧ H3 fd = some (.dK kvs) ∧ kvs.map (·.1) = ks.map Sum.inr ∧ ks.Nodup ∧ (∀ z ∈ ks, NameOk z) ∧ ks.length ≤ i ∧ (1 ≤ i → 1 ≤ ks.length) ∧ Fr g H H3 ∧ BagAt H3 g (N + 1 + 10 * i))
      ⟨none, [], [], rfl, e2, rfl, List.nodup_nil, fun z hz => by simp at hz, Nat.le_refl _, fun h => by omega, (Fr.same s1).trans f2, b2.mono (by omega)⟩ (fun _ _ _ _ _ => trivial) ?_ ?_⟩
    · rintro i x σ H4 H3 hi ⟨x3, kvs, ks, rfl, e3, ek, nk, hk, lk, l1, f3, b3⟩ ⟨rfl, rfl⟩
      have hi2 : i < 1 + r := by omega
      refine ⟨_, rfl, _, rfl, g, N + 1 + 10 * i, rfl, b3, by omega, fun z H4 hz f4 b4 => ?_⟩
      have e4 := f4 _ _ e3 nfg
      have lkv : kvs.length = ks.length := by
        have := congrArg List.length ek
        rwa [List.length_map, List.length_map] at this
      refine ⟨fd, _, rfl, DPut.k (k := Sum.inr z) e4 (small1000 (by omega)), ?_⟩
      have f5 : Fr g H (upd H4 fd (.dK (putK kvs (Sum.inr z) (.bl true)))) := fun c o e n => by
        rw [upd_ne (ne_of_none e nfd)]
        exact f4 _ _ (f3 _ _ e n) n
      have b5 : BagAt (upd H4 fd (.dK (putK kvs (Sum.inr z) (.bl true)))) g (N + 1 + 10 * (i + 1)) := by
        obtain ⟨c0, c1, c2, a, b⟩ := b4
        refine BagAt.mono ⟨c0, c1, c2, ?_, b⟩ (by omega)
        rw [upd_ne (Ne.symm nfg)]
        exact a
      rcases keys_put kvs (Sum.inr z) (.bl true) with ⟨hin, ep⟩ | ⟨hin, ep⟩
      · refine ⟨_, _, ks, rfl, upd_same, ep.trans ek, nk, hk, by omega, fun _ => ?_, f5, b5⟩
        rw [ek] at hin
        have := List.length_pos_of_mem hin
        rwa [List.length_map] at this
      · refine ⟨_, _, ks ++ [z], rfl, upd_same, ?_, ?_, fun y hy => ?_, by rw [List.length_append, List.length_singleton]; omega, fun _ => by rw [List.length_append, List.length_singleton]; omega, f5, b5⟩
        · rw [ep, ek, List.map_append]
          rfl
        · refine List.nodup_append.mpr ⟨nk, by simp, fun a ha b hb e => hin ?_⟩
          rw [List.mem_singleton.mp hb] at e
          rw [ek, ← e]
          exact List.mem_map.mpr ⟨a, ha, rfl⟩
        · rcases List.mem_append.mp hy with h | h
          · exact hk y h
          · rw [List.mem_singleton.mp h]
            exact hz
    · rintro σ H3 ⟨x3, kvs, ks, rfl, e3, ek, nk, hk, lk, l1, f3, b3⟩
      have hn : ((1 + (r : Nat) : Int)).toNat = 1 + r := by omega
      refine ⟨_, rfl, fd, kvs, ks, rfl, .inl e3, ek, by omega, fun ys p hp hs np => ?_⟩
      have s4 : Same H3 (upd H3 p (.lst (ys.map V.str))) := same_upd np
      have hp0 : H p = none := by
        cases e : H p with
        | none => rfl
        | some o =>
          by_cases z : p = g
          · obtain ⟨c0, c1, c2, a, b⟩ := b3
            rw [z, a] at np
            cases np
          · rw [f3 _ _ e z] at np
            cases np
      exact q p ys _ (sortedS_strict hs (hp.nodup_iff.mpr nk)) (fun z hz => hk z (hp.mem_iff.mp hz)) (by rw [hp.length_eq]; exact l1 (by omega)) (by rw [hp.length_eq]; omega) hp0 upd_same (f3.trans (Fr.same s4)) ((b3.same s4).mono (by omega))
end
end LT
end
section
set_option Elab.async false
set_option linter.all false
set_option maxRecDepth 100000
set_option maxHeartbeats 4000000
/-! _law_town -/
namespace LT
open PySem PySem.Spec PyProof.Rows L2
theorem gates_keep {H H' : Hp} {xs : List V} {gs : List Gate} (k : ∀ a ys, H a = some (.tup ys) → H' a = some (.tup ys)) (h : GatesAre H xs gs) : GatesAre H' xs gs := Paired.mapP h fun _ _ ⟨r, e, q⟩ => ⟨r, e, k _ _ q⟩
theorem BagAt.upd {H : Hp} {g c : Addr} {N : Nat} {o : HO} (h : BagAt H g N) (n : c ≠ g) : BagAt (upd H c o) g N := by
  obtain ⟨c0, c1, c2, a, b⟩ := h
  exact ⟨c0, c1, c2, (upd_ne (Ne.symm n)).trans a, b⟩
theorem Fr.upd {g c : Addr} {H H1 : Hp} {o : HO} (h : Fr g H H1) (n : H c = none) : Fr g H (upd H1 c o) := fun d u e k => by
  rw [upd_ne (ne_of_none e n)]
  exact h _ _ e k
theorem Fr.free {g c : Addr} {H H1 : Hp} (h : Fr g H H1) (n : H1 c = none) (k : c ≠ g) : H c = none := by
  cases e : H c with
  | none => rfl
  | some o =>
    rw [h _ _ e k] at n
    cases n
section
variable {P : Program} {w : World} {K : PySem.W.Frag} {mg : Str → Option Value} {base : Heap} {cL : Addr}
def spTown2 : Sp := fun vs H Q _ => ∃ (g : Addr) (m N : Nat), vs = [.ref g, .int (m : Nat)] ∧ BagAt H g N ∧ 1 ≤ m ∧ m ≤ 8 ∧ N + 2000000 ≤ 1000000000000 ∧
  ∀ (t : Addr) (gs : List Gate) (H' : Hp), TownAt H' t gs → TownOk gs → Fr g H H' → BagAt H' g (N + 400) → Q (.ref t) H'
theorem scTown2 : FnScope ["bag", "most", "found", "name", "opens", "wide"] ["bag", "most"] (defScope (topS 34)) := ⟨rfl, rfl, rfl, by decide +kernel, rfl, by decide +kernel, by decide +kernel⟩
theorem ok_town2 (T : Txt K mg cL) : FnOk P w K mg base CX0 4 T.town.f T.town.fd ["bag", "most"] spTown2 := by
  refine T.town.F.ok scTown2 (fun vs H Q E h => ?_) (fun cdv A0 outer s H vs Q E hr h => ?_)
  · obtain ⟨g, m, N, rfl, _⟩ := h
    rfl
  · obtain ⟨g, m, N, rfl, bg, m1, m8, hN, q⟩ := h
    have dT := ok_take (P := P) (w := w) (base := base) T
    have dR := ok_ris (P := P) (w := w) (base := base) T
    have nd := scTown2.nd
    refine ⟨_, pss_cons (ps_set (i := 2) nd rfl (.inl rfl) (pe_lst pa_nil))
      (pss_cons (ps_for PassesOwn.never rfl (pi_list (pe_call dR hr (by rfl) T.rising.g T.rising.F.kp T.rising.b .nil pass0 (pa_cons (pv 0) (pa_cons (pv 1) pa_nil)))) (pg_name (i := 3) nd rfl (.inl rfl))
        (pss_cons (ps_set (i := 4) nd rfl (.inl rfl) (pe_call dT (hr.mono (by decide)) (by rfl) T.take.g T.take.F.kp T.take.b .nil pass0 (pa_cons (pv 0) (pa_cons pe_int pa_nil))))
        (pss_cons (ps_set (i := 5) nd rfl (.inl rfl) (pe_ix ix_list (pe_lst (pa_cons (pe_call dT (hr.mono (by decide)) (by rfl) T.take.g T.take.F.kp T.take.b .nil pass0 (pa_cons (pv 0) (pa_cons pe_int pa_nil))) (pa_cons pe_int (pa_cons pe_int (pa_cons pe_int pa_nil)))))
          (pe_op op_fdiv (pe_op op_mul (pe_op op_fdiv (pe_op op_mul (pe_call dT (hr.mono (by decide)) (by rfl) T.take.g T.take.F.kp T.take.b .nil pass0 (pa_cons (pv 0) (pa_cons pe_int pa_nil))) pe_int) pe_int) pe_int) pe_int) (fun _ _ => rfl)))
        (pss_one (ps_expr (pe_bm PySem.F.plainAttrs_list PySem.F.slot_list_append PySem.F.type_list_append mt_append (pv 2) (pa_cons
          (pe_tup (pa_cons (pv 3) (pa_cons (pv 4) (pa_cons (pe_op op_mod (pe_op op_add (pv 4) (pv 5)) pe_int) (pa_cons (pe_cmpR op_eq (pe_call dT (hr.mono (by decide)) (by rfl) T.take.g T.take.F.kp T.take.b .nil pass0 (pa_cons (pv 0) (pa_cons pe_int pa_nil))) pe_int (nomark _)) pa_nil))))) pa_nil)))))))
      (pss_one (ps_ret (pe_callTy call_tuple_of (by rfl) T.tuple (by decide +kernel) (pa_cons (pv 2) pa_nil))))), ?_⟩
    refine ⟨Nat.zero_le _, fun fo nfo => ?_⟩
    have s1 : Same H (upd H fo (.lst [])) := same_upd nfo
    have nfg := bg.ne nfo
    have e1 : upd H fo (.lst []) fo = some (.lst []) := upd_same
    have b1 := bg.same s1
    generalize upd H fo (.lst []) = H1 at s1 e1 b1
    refine ⟨_, rfl, _, rfl, g, m, N, rfl, b1, m1, by omega, by omega, fun p zs H2 hz hnm l1 l2 np ep f2 b2 => ?_⟩
    have npg := b1.ne np
    have np0 := s1.free np
    have npf : fo ≠ p := fun z => by rw [← z, e1] at np; cases np
    refine ⟨p, rfl, ⟨_, .inl (.inl ep)⟩, for_it (walk_list (xs := zs.map V.str)) (fun j σ H3 => ∃ x3 x4 x5 gs ys, σ = [some (.ref g), some (.int (m : Nat)), some (.ref fo), x3, x4, x5] ∧ H3 p = some (.lst (zs.map V.str)) ∧ H3 fo = some (.lst ys) ∧ GatesAre H3 ys gs ∧ gs.map Gate.n = zs.take j ∧ (∀ a ∈ gs, GateOk a) ∧ Fr g H H3 ∧ BagAt H3 g (N + 300 + 4 * j))
      ⟨none, none, none, [], [], rfl, ep, f2 _ _ e1 nfg, .nil, rfl, fun a ha => by simp at ha, (Fr.same s1).trans f2, b2⟩ (fun j σ H3 _ ⟨_, _, _, _, _, _, e, _⟩ => .inl (.inl e)) ?_ ?_⟩
    · rintro j x σ H4 H3 hj ⟨x3, x4, x5, gs, ys, rfl, e3, ef3, pg3, en3, ok3, f3, b3⟩ ⟨rfl, hxj⟩
      rw [List.getElem?_map] at hxj
      obtain ⟨z, ez⟩ : ∃ z, zs[j]? = some z := by
        cases e : zs[j]? with
        | none => rw [e] at hxj; cases hxj
        | some r => exact ⟨r, rfl⟩
      rw [ez] at hxj
      cases hxj
      have hjl : j < zs.length := (List.getElem?_eq_some_iff.mp ez).1
      have lgs : gs.length = j := by
        have := congrArg List.length en3
        rw [List.length_map, List.length_take] at this
        omega
      -- opens
      refine ⟨_, rfl, g, 24, _, rfl, b3, by decide, by decide, by omega, fun op H4 hop f4 b4 => ?_⟩
      refine ⟨_, rfl, g, 24, _, rfl, b4, by decide, by decide, by omega, fun w1 H5 hw1 f5 b5 => ?_⟩
      refine ⟨line8 (by show 4 ≤ 1000; decide), fun l nl => ?_⟩
      have s6 : Same H5 (upd H5 l (.lst [.int (w1 : Nat), .int 0, .int 1, .int 23])) := same_upd nl
      have el : upd H5 l (.lst [.int (w1 : Nat), .int 0, .int 1, .int 23]) l = some (.lst [.int (w1 : Nat), .int 0, .int 1, .int 23]) := upd_same
      have nlg := b5.ne nl
      have b6 := b5.same s6
      have f36 := f3.trans (f4.trans (f5.trans (Fr.same s6)))
      have f6 := f4.trans (f5.trans (Fr.same s6))
      generalize upd H5 l (.lst [.int (w1 : Nat), .int 0, .int 1, .int 23]) = H6 at s6 el b6 f36 f6
      refine ⟨_, rfl, g, 8, _, rfl, b6, by decide, by decide, by omega, fun t8 H7 ht8 f7 b7 => ?_⟩
      have el7 := f7 _ _ el nlg
      obtain ⟨k, hk, ek⟩ : ∃ k : Nat, k < 4 ∧ ((t8 : Nat) : Int) * 5 / 8 * 3 / 4 = (k : Nat) := ⟨(((t8 : Nat) : Int) * 5 / 8 * 3 / 4).toNat, by omega, by omega⟩
      obtain ⟨wd, ew, hwd⟩ : ∃ wd : Nat, ([V.int (w1 : Nat), V.int 0, V.int 1, V.int 23] : List V)[k]? = some (.int (wd : Nat)) ∧ wd ≤ 23 := by
        match k, hk with
        | 0, _ => exact ⟨w1, rfl, by omega⟩
        | 1, _ => exact ⟨0, rfl, by decide⟩
        | 2, _ => exact ⟨1, rfl, by decide⟩
        | 3, _ => exact ⟨23, rfl, by decide⟩
      refine ⟨_, _, rfl, rfl, .inl ⟨by omega, by omega⟩, _, _, rfl, rfl, ⟨by decide, by decide⟩, _, _, rfl, rfl, .inr ⟨by decide, by decide⟩, _, _, rfl, rfl, ⟨by decide, by decide⟩, l, _, _, _, rfl, rfl, .inl (.inl el7), L2.at_of ek ew, ?_⟩
      -- found.append
      have f37 := f36.trans f7
      have ef7 := (f6.trans f7) _ _ ef3 nfg
      have pg7 := gates_keep ((f6.trans f7).tup b3) pg3
      refine ⟨_, rfl, .inl ⟨rfl, _, .inl (.inl ef7)⟩, _, rfl, _, rfl, _, rfl, _, rfl, _, _, rfl, rfl, _, _, rfl, rfl, (by show (0 : Int) < 24; decide), ?_⟩
      refine ⟨_, rfl, g, 2, _, rfl, b7, by decide, by decide, by omega, fun t2 H8 ht2 f8 b8 => ⟨rfl, ?_⟩⟩
      refine ⟨line8 (by show 4 ≤ 1000; decide), fun tu ntu => ?_⟩
      have s9 : ∀ o, Same H8 (upd H8 tu o) := fun o => same_upd ntu
      have ef8 := f8 _ _ ef7 nfg
      have pg8 := gates_keep (f8.tup b7) pg7
      have f38 := f37.trans f8
      refine ⟨fo, ys, _, rfl, rfl, s9 _ _ _ ef8, ?_, ?_⟩
      · have := paired_len pg3
        exact small1000 (by omega)
      · have ntg := b8.ne ntu
        have ntf : tu ≠ fo := fun z => by rw [z, ef8] at ntu; cases ntu
        have ntp : tu ≠ p := fun z => by rw [z, f8 _ _ (f7 _ _ (f6 _ _ e3 npg) npg) npg] at ntu; cases ntu
        have ntu0 : H tu = none := f38.free ntu ntg
        refine ⟨_, _, _, gs ++ [⟨z, (op : Nat), ((op : Nat) + (wd : Nat) : Int) % 24, decide (V.int (t2 : Nat) = V.int 1)⟩], ys ++ [.ref tu], rfl, ?_, upd_same, ?_, ?_, fun a ha => ?_, (f38.upd ntu0).upd nfo, ((b8.upd ntg).upd nfg).mono (by omega)⟩
        · rw [upd_ne (Ne.symm npf), upd_ne (Ne.symm ntp)]
          exact f8 _ _ (f7 _ _ (f6 _ _ e3 npg) npg) npg
        · have k1 := tup_upd (H := upd H8 tu (.tup [.str z, .int (op : Nat), .int (((op : Nat) + (wd : Nat) : Int) % 24), .bl (decide (V.int (t2 : Nat) = V.int 1))])) (c := fo) (xs := ys) (o := .lst (ys ++ [.ref tu])) (by rw [upd_ne (Ne.symm ntf)]; exact ef8)
          refine paired_snocT (gates_keep k1 (gates_keep (same_tups (s9 _)) pg8)) ⟨tu, rfl, ?_⟩
          exact k1 _ _ upd_same
        · rw [List.map_append, en3, List.take_add_one, ez]
          rfl
        · rcases List.mem_append.mp ha with h | h
          · exact ok3 a h
          · rw [List.mem_singleton.mp h]
            have h1 := Int.emod_nonneg ((op : Nat) + (wd : Nat) : Int) (b := 24) (by decide)
            have h2 := Int.emod_lt_of_pos ((op : Nat) + (wd : Nat) : Int) (b := 24) (by decide)
            exact ⟨hnm z (List.mem_of_getElem? ez), by show (0 : Int) ≤ (op : Nat); omega, by show ((op : Nat) : Int) ≤ 23; omega, h1, by show ((op : Nat) + (wd : Nat) : Int) % 24 ≤ 23; omega⟩
    · rintro σ H3 ⟨x3, x4, x5, gs, ys, rfl, e3, ef3, pg3, en3, ok3, f3, b3⟩
      rw [List.length_map] at en3 b3
      rw [List.take_length] at en3
      have lgs : gs.length = zs.length := by
        have := congrArg List.length en3
        rwa [List.length_map] at this
      refine ⟨_, rfl, fo, ys, rfl, .inl ⟨.inl (.inl ef3), fun t nt => ?_⟩⟩
      have s4 : Same H3 (upd H3 t (.tup ys)) := same_upd nt
      exact q t gs _ ⟨ys, upd_same, gates_keep (same_tups s4) pg3⟩ ⟨by omega, by omega, ok3, by rw [en3]; exact hz⟩ (f3.trans (Fr.same s4)) ((b3.same s4).mono (by omega))
end
end LT
end
section
set_option Elab.async false
set_option linter.all false
set_option maxRecDepth 100000
set_option maxHeartbeats 4000000
/-! _law_walks -/
namespace LT
open PySem PySem.Spec PyProof.Rows L2
def ab (i : Int) : Int := if i < 0 then -i else i
def pt (ps : List (Nat × Nat)) (i : Nat) : Nat × Nat := (ps[i]?).getD (0, 0)
def dOf (ps : List (Nat × Nat)) (i j : Nat) : Int := ab (((pt ps i).1 : Nat) - ((pt ps j).1 : Nat) : Int) + ab (((pt ps i).2 : Nat) - ((pt ps j).2 : Nat) : Int)
theorem dOf_ok {ps : List (Nat × Nat)} (h : ∀ p ∈ ps, p.1 < 300 ∧ p.2 < 300) : (∀ i j, dOf ps i j ≤ 600) ∧ WalksOk n (dOf ps) := by
  have hp : ∀ i, (pt ps i).1 < 300 ∧ (pt ps i).2 < 300 := fun i => by
    unfold pt
    cases e : ps[i]? with
    | none => exact ⟨by decide, by decide⟩
    | some p => exact h p (List.mem_of_getElem? e)
  refine ⟨fun i j => ?_, fun i j _ _ => ?_, fun i j _ _ => ?_, fun i j _ _ => ?_, fun i _ => ?_, fun i j k _ _ _ => ?_⟩
  · have := hp i
    have := hp j
    unfold dOf ab
    split <;> split <;> omega
  · unfold dOf ab
    split <;> split <;> omega
  · have := hp i
    have := hp j
    unfold dOf ab
    split <;> split <;> omega
  · unfold dOf ab
    split <;> split <;> split <;> split <;> omega
  · unfold dOf ab
    split <;> split <;> omega
  · unfold dOf ab
    split <;> split <;> split <;> split <;> split <;> split <;> omega
def SpotAt (H : Hp) (v : V) (p : Nat × Nat) : Prop := ∃ r, v = .ref r ∧ H r = some (.tup [.int (p.1 : Nat), .int (p.2 : Nat)])
theorem spots_keep {H H' : Hp} {xs : List V} {ps : List (Nat × Nat)} (k : ∀ a ys, H a = some (.tup ys) → H' a = some (.tup ys)) (h : Paired (SpotAt H) xs ps) : Paired (SpotAt H') xs ps := Paired.mapP h fun _ _ ⟨r, e, q⟩ => ⟨r, e, k _ _ q⟩
section
variable {P : Program} {w : World} {K : PySem.W.Frag} {mg : Str → Option Value} {base : Heap} {cL : Addr}
def spWalks2 : Sp := fun vs H Q _ => ∃ (g t : Addr) (gs : List Gate) (N : Nat), vs = [.ref g, .ref t] ∧ BagAt H g N ∧ TownAt H t gs ∧ gs.length ≤ 8 ∧ N + 2000000 ≤ 1000000000000 ∧
  ∀ (b : Addr) (d : Nat → Nat → Int) (H' : Hp), WalksAt H' b gs.length d → (∀ i j, d i j ≤ 600) → WalksOk gs.length d → Fr g H H' → BagAt H' g (N + 100) → Q (.ref b) H'
theorem scWalks2 : FnScope ["bag", "town", "spots", "found", "one", "row", "other", "gate"] ["bag", "town"] (defScope (topS 35)) := ⟨rfl, rfl, rfl, by decide +kernel, rfl, by decide +kernel, by decide +kernel⟩
theorem ok_walks2 (T : Txt K mg cL) : FnOk P w K mg base CX0 2 T.walks.f T.walks.fd ["bag", "town"] spWalks2 := by
  refine T.walks.F.ok scWalks2 (fun vs H Q E h => ?_) (fun cdv A0 outer s H vs Q E hr h => ?_)
  · obtain ⟨g, t, gs, N, rfl, _⟩ := h
    rfl
  · obtain ⟨g, t, gs, N, rfl, bg, ⟨tx, ht, hg⟩, h8, hN, q⟩ := h
    have dT := ok_take (P := P) (w := w) (base := base) T
    have nd := scWalks2.nd
    refine ⟨_, pss_cons (ps_setLc (i := 2) (own := [("gate", 7)]) (g := gName 7) (te := tTup (tCons (tCall spTake [] E0 (tCons (tVar 0) (tCons (tC (.int 300)) tNil))) (tCons (tOp (rI CMul fun i j => .int (i * j)) (tCall spTake [] E0 (tCons (tVar 0) (tCons (tC (.int 300)) tNil))) (tCB (fun xs H Q => (∃ i, xs = [.int i] ∧ Q (.int i) H) ∨ ∃ k, xs = [.bl k] ∧ Q (.int (if k then 1 else 0)) H) (tCons (tCall spTake [] E0 (tCons (tVar 0) (tCons (tC (.int 2)) tNil))) tNil))) tNil))) rfl nd rfl rfl (sw_true rfl rfl rfl (by decide +kernel)) (pi_tup (pv 1)) (blkOk_by (N := ["bag", "town", "spots", "found", "one", "row", "other", "gate"]) (sc := defScope (topS 35)) (by decide +kernel))
        (fun _ _ _ _ _ => pg_name (i := 7) nd rfl (Or.inl rfl)) (fun _ _ _ _ _ => pts_nil) (fun _ _ _ _ _ => pe_tup (pa_cons (pe_call dT hr (by rfl) T.take.g T.take.F.kp T.take.b .nil pass0 (pa_cons (pv 0) (pa_cons pe_int pa_nil))) (pa_cons (pe_op op_mul (pe_call dT hr (by rfl) T.take.g T.take.F.kp T.take.b .nil pass0 (pa_cons (pv 0) (pa_cons pe_int pa_nil))) (pe_callTy call_int1 (by rfl) T.int (by decide +kernel) (pa_cons (pe_call dT hr (by rfl) T.take.g T.take.F.kp T.take.b .nil pass0 (pa_cons (pv 0) (pa_cons pe_int pa_nil))) pa_nil))) pa_nil))))
      (pss_cons (ps_set (i := 3) nd rfl (.inl rfl) (pe_lst pa_nil))
      (pss_cons (ps_for PassesOwn.never rfl (pi_list (pv 2)) (pg_name (i := 4) nd rfl (.inl rfl))
        (pss_cons (ps_set (i := 5) nd rfl (.inl rfl) (pe_lst pa_nil))
        (pss_cons (ps_for PassesOwn.never rfl (pi_list (pv 2)) (pg_name (i := 6) nd rfl (.inl rfl))
          (pss_one (ps_expr (pe_bm PySem.F.plainAttrs_list PySem.F.slot_list_append PySem.F.type_list_append mt_append (pv 5) (pa_cons
            (pe_op op_add (pe_callB call_abs (by rfl) T.abs (by decide +kernel) (pa_cons (pe_op op_sub (pe_ix ix_tup (pv 4) pe_int (fun _ _ => rfl)) (pe_ix ix_tup (pv 6) pe_int (fun _ _ => rfl))) pa_nil))
              (pe_callB call_abs (by rfl) T.abs (by decide +kernel) (pa_cons (pe_op op_sub (pe_ix ix_tup (pv 4) pe_int (fun _ _ => rfl)) (pe_ix ix_tup (pv 6) pe_int (fun _ _ => rfl))) pa_nil))) pa_nil)))))
        (pss_one (ps_expr (pe_bm PySem.F.plainAttrs_list PySem.F.slot_list_append PySem.F.type_list_append mt_append (pv 3) (pa_cons (pe_callTy call_tuple_of (by rfl) T.tuple (by decide +kernel) (pa_cons (pv 5) pa_nil)) pa_nil)))))))
      (pss_one (ps_ret (pe_callTy call_tuple_of (by rfl) T.tuple (by decide +kernel) (pa_cons (pv 3) pa_nil)))))), ?_⟩
    have hT : SqT K H t tx := .inl (.inl ht)
    have hlt := paired_len hg
    refine ⟨_, rfl, t, rfl, ⟨_, hT⟩, fun sp nsp => lc_it (walk_tup (xs := tx)) (fun i H1 => ∃ (ps : List (Nat × Nat)) (vs : List V), ps.length = i ∧ (∀ p ∈ ps, p.1 < 300 ∧ p.2 < 300) ∧ H1 sp = some (.lst vs) ∧ Paired (SpotAt H1) vs ps ∧ Fr g H H1 ∧ BagAt H1 g (N + 3 * i))
      ⟨[], [], rfl, fun p hp => by simp at hp, upd_same, .nil, (Fr.refl g H).upd nsp, bg.upd (bg.ne nsp)⟩ (fun i H1 _ ⟨_, _, _, _, _, _, f, _⟩ => .inl (.inl (f.tup bg _ _ ht))) ?_ ?_⟩
    · rintro i x H2 H1 hi ⟨ps, vs, lps, hps, e1, pp1, f1, b1⟩ ⟨rfl, hx⟩
      have nspg := bg.ne nsp
      refine ⟨rfl, _, rfl, g, 300, _, rfl, b1, by decide, by decide, by omega, fun x1 H2 hx1 f2 b2 => ?_⟩
      refine ⟨_, rfl, g, 300, _, rfl, b2, by decide, by decide, by omega, fun x2 H3 hx2 f3 b3 => ?_⟩
      refine ⟨_, rfl, g, 2, _, rfl, b3, by decide, by decide, by omega, fun x3 H4 hx3 f4 b4 => ?_⟩
      refine .inl ⟨_, rfl, _, _, rfl, rfl, .inl ⟨by omega, by omega⟩, ?_⟩
      refine ⟨line8 (by show 2 ≤ 1000; decide), fun tu ntu => ?_⟩
      have f14 := f2.trans (f3.trans f4)
      have s5 : ∀ o, Same H4 (upd H4 tu o) := fun o => same_upd ntu
      have e4 := f14 _ _ e1 nspg
      have ntg := b4.ne ntu
      have ntu0 : H tu = none := (f1.trans f14).free ntu ntg
      have nts : tu ≠ sp := fun z => by rw [z, e4] at ntu; cases ntu
      have hx23 : ((x2 : Nat) : Int) * (x3 : Nat) = ((x2 * x3 : Nat) : Int) := by rw [Int.natCast_mul]
      have hx23' : x2 * x3 < 300 := by
        have : x3 = 0 ∨ x3 = 1 := by omega
        rcases this with rfl | rfl <;> omega
      refine ⟨vs, (s5 _) _ _ e4, ?_, ps ++ [(x1, x2 * x3)], vs ++ [.ref tu], by rw [List.length_append, lps]; rfl, fun p hp => ?_, upd_same, ?_, ((f1.trans f14).upd ntu0).upd nsp, ((b4.upd ntg).upd nspg).mono (by omega)⟩
      · have := paired_len pp1
        exact small1000 (by omega)
      · rcases List.mem_append.mp hp with h | h
        · exact hps p h
        · rw [List.mem_singleton.mp h]
          exact ⟨hx1, hx23'⟩
      · have k1 := tup_upd (H := upd H4 tu (.tup [.int (x1 : Nat), .int (((x2 : Nat) : Int) * (x3 : Nat))])) (c := sp) (xs := vs) (o := .lst (vs ++ [.ref tu])) ((s5 _) _ _ e4)
        refine paired_snocT (spots_keep k1 (spots_keep (same_tups (s5 _)) (spots_keep (f14.tup b1) pp1))) ⟨tu, rfl, ?_⟩
        rw [← hx23]
        exact k1 _ _ upd_same
    · rintro H1 ⟨ps, vs, lps, hps, e1, pp1, f1, b1⟩
      have lvs := paired_len pp1
      have hn : vs.length = gs.length := by omega
      have ptv : ∀ {k : Nat} {v : V}, vs[k]? = some v → ∃ r, v = .ref r ∧ H1 r = some (.tup [.int ((pt ps k).1 : Nat), .int ((pt ps k).2 : Nat)]) := fun {k v} e => by
        obtain ⟨p, ep, r, rfl, er⟩ := paired_at pp1 e
        refine ⟨r, rfl, ?_⟩
        have : pt ps k = p := by
          unfold pt
          rw [ep]
          rfl
        rw [this]
        exact er
      refine ⟨Nat.zero_le _, fun fo nfo => ?_⟩
      have s2 : Same H1 (upd H1 fo (.lst [])) := same_upd nfo
      refine ⟨_, rfl, sp, rfl, ⟨_, .inl (.inl (s2 _ _ e1))⟩, for_it (walk_list (xs := vs)) (fun i σ H3 => ∃ x4 x5 x6 ws, σ = [some (.ref g), some (.ref t), some (.ref sp), some (.ref fo), x4, x5, x6, none] ∧ Same H1 H3 ∧ H3 fo = some (.lst ws) ∧ ws.length = i ∧ ∀ k, k < i → ∃ r, ws[k]? = some (.ref r) ∧ H3 r = some (.tup (rowV gs.length (dOf ps) k)))
        ⟨none, none, none, [], rfl, s2, upd_same, rfl, fun k hk => by omega⟩ (fun i σ H3 _ ⟨_, _, _, _, _, s, _⟩ => .inl (.inl (s _ _ e1))) ?_ ?_⟩
      · rintro i x σ H4 H3 hi ⟨x4, x5, x6, ws, rfl, s3, e3, lws, hws⟩ ⟨rfl, hxi⟩
        obtain ⟨r1, rfl, er1⟩ := ptv hxi
        refine ⟨Nat.zero_le _, fun ro nro => ?_⟩
        have s4 : Same H3 (upd H3 ro (.lst [])) := same_upd nro
        refine ⟨_, rfl, sp, rfl, ⟨_, .inl (.inl (s4 _ _ (s3 _ _ e1)))⟩, for_it (walk_list (xs := vs)) (fun j σ H5 => ∃ x6, σ = [some (.ref g), some (.ref t), some (.ref sp), some (.ref fo), some (.ref r1), some (.ref ro), x6, none] ∧ Same H3 H5 ∧ H5 ro = some (.lst ((List.range j).map fun k => V.int (dOf ps i k))))
          ⟨_, rfl, s4, upd_same⟩ (fun j σ H5 _ ⟨_, _, s, _⟩ => .inl (.inl (s _ _ (s3 _ _ e1)))) ?_ ?_⟩
        · rintro j y σ H6 H5 hj ⟨x6', rfl, s5, e5⟩ ⟨rfl, hyj⟩
          obtain ⟨r2, rfl, er2⟩ := ptv hyj
          have s15 := s3.trans s5
          have hA : SqT K H5 r1 [.int ((pt ps i).1 : Nat), .int ((pt ps i).2 : Nat)] := .inl (.inl (s15 _ _ er1))
          have hB : SqT K H5 r2 [.int ((pt ps j).1 : Nat), .int ((pt ps j).2 : Nat)] := .inl (.inl (s15 _ _ er2))
          refine ⟨_, rfl, .inl ⟨rfl, _, .inl (.inl e5)⟩, ?_⟩
          refine ⟨_, rfl, r1, _, 0, _, rfl, rfl, hA, atI_nat (j := 0) rfl, _, rfl, r2, _, 0, _, rfl, rfl, hB, atI_nat (j := 0) rfl, _, _, rfl, rfl, _, rfl, ?_⟩
          refine ⟨_, rfl, r1, _, 1, _, rfl, rfl, hA, atI_nat (j := 1) rfl, _, rfl, r2, _, 1, _, rfl, rfl, hB, atI_nat (j := 1) rfl, _, _, rfl, rfl, _, rfl, _, _, rfl, rfl, ?_⟩
          refine ⟨ro, _, _, rfl, rfl, e5, by rw [List.length_map, List.length_range]; exact small1000 (by omega), _, rfl, fun c o e => ?_, ?_⟩
          · rw [upd_ne (ne_of_none e nro)]
            exact s5 _ _ e
          · rw [upd_same, List.range_succ, List.map_append]
            rfl
        · rintro σ H5 ⟨x6', rfl, s5, e5⟩
          rw [hn] at e5
          have e3' := s5 _ _ e3
          refine ⟨_, rfl, .inl ⟨rfl, _, .inl (.inl e3')⟩, _, rfl, ro, _, rfl, .inl ⟨.inl (.inl e5), fun l nl => ?_⟩⟩
          have s6 : ∀ o, Same H5 (upd H5 l o) := fun o => same_upd nl
          refine ⟨fo, ws, _, rfl, rfl, (s6 _) _ _ e3', small1000 (by omega), ?_⟩
          have nlf : l ≠ fo := fun z => by rw [z, e3'] at nl; cases nl
          refine ⟨_, _, _, ws ++ [.ref l], rfl, fun c o e => ?_, upd_same, by rw [List.length_append, lws]; rfl, fun k hk => ?_⟩
          · rw [upd_ne (ne_of_none e nfo)]
            exact (s6 _) _ _ (s5 _ _ (s3 _ _ e))
          · by_cases hki : k < i
            · obtain ⟨r, g1, g2⟩ := hws k hki
              refine ⟨r, by rw [List.getElem?_append_left (by omega)]; exact g1, ?_⟩
              rw [upd_ne (fun z => by rw [z, e3] at g2; cases g2)]
              exact (s6 _) _ _ (s5 _ _ g2)
            · have : k = i := by omega
              subst this
              refine ⟨l, by rw [List.getElem?_append_right (by omega), lws, Nat.sub_self]; rfl, ?_⟩
              rw [upd_ne nlf, upd_same]
              rfl
      · rintro σ H3 ⟨x4, x5, x6, ws, rfl, s3, e3, lws, hws⟩
        refine ⟨_, rfl, fo, ws, rfl, .inl ⟨.inl (.inl e3), fun l nl => ?_⟩⟩
        have s4 : Same H3 (upd H3 l (.tup ws)) := same_upd nl
        obtain ⟨k1, k2⟩ := dOf_ok (n := gs.length) hps
        refine q l (dOf ps) _ ⟨ws, upd_same, by omega, fun i hi => ?_⟩ k1 k2 (f1.trans (Fr.same (s3.trans s4))) ((b1.same (s3.trans s4)).mono (by omega))
        obtain ⟨r, g1, g2⟩ := hws i (by omega)
        exact ⟨r, g1, s4 _ _ g2⟩
end
end LT
end
section
set_option Elab.async false
set_option linter.all false
set_option maxRecDepth 100000
set_option maxHeartbeats 4000000
/-! _law_turns -/
namespace LT
open PySem PySem.Spec PyProof.Rows L2
section
variable {P : Program} {w : World} {K : PySem.W.Frag} {mg : Str → Option Value} {base : Heap} {cL : Addr}
def spTurns2 : Sp := fun vs H Q _ => ∃ (g t : Addr) (m far : Nat) (gs : List Gate) (N : Nat), vs = [.ref g, .ref t, .int (m : Nat), .int (far : Nat)] ∧ BagAt H g N ∧ TownAt H t gs ∧ TownOk gs ∧ m ≤ 20 ∧ 1 ≤ far ∧ far ≤ 1000 ∧ N + 2000000 ≤ 1000000000000 ∧
  ∀ (c : Addr) (ts : List Trn) (H' : Hp), TurnsAt H' c ts → H c = none → ts.length ≤ m → (∀ u ∈ ts, TrnOk gs u) → Fr g H H' → BagAt H' g (N + 200) → Q (.ref c) H'
theorem scTurns2 : FnScope ["bag", "town", "many", "far", "found", "k", "begin", "name", "wide"] ["bag", "town", "many", "far"] (defScope (topS 36)) := ⟨rfl, rfl, rfl, by decide +kernel, rfl, by decide +kernel, by decide +kernel⟩
theorem ok_turns2 (T : Txt K mg cL) : FnOk P w K mg base CX0 2 T.turns.f T.turns.fd ["bag", "town", "many", "far"] spTurns2 := by
  refine T.turns.F.ok scTurns2 (fun vs H Q E h => ?_) (fun cdv A0 outer s H vs Q E hr h => ?_)
  · obtain ⟨g, t, m, far, gs, N, rfl, _⟩ := h
    rfl
  · obtain ⟨g, t, m, far, gs, N, rfl, bg, ⟨tx, ht, hg⟩, okg, m20, f1, f2, hN, q⟩ := h
    have dT := ok_take (P := P) (w := w) (base := base) T
    have nd := scTurns2.nd
    refine ⟨_, pss_cons (ps_set (i := 4) nd rfl (.inl rfl) (pe_lst pa_nil))
      (pss_cons (ps_for PassesOwn.never rfl (pi_range1 (by rfl) T.range (pa_cons (pe_call dT hr (by rfl) T.take.g T.take.F.kp T.take.b .nil pass0 (pa_cons (pv 0) (pa_cons (pe_op op_add (pv 2) pe_int) pa_nil))) pa_nil)) (pg_name (i := 5) nd rfl (.inl rfl))
        (pss_cons (ps_set (i := 6) nd rfl (.inl rfl) (pe_call dT hr (by rfl) T.take.g T.take.F.kp T.take.b .nil pass0 (pa_cons (pv 0) (pa_cons (pv 3) pa_nil))))
        (pss_cons (ps_set (i := 7) nd rfl (.inl rfl) (pe_ix ix_tup (pe_ix ix_tup (pv 1) (pe_call dT hr (by rfl) T.take.g T.take.F.kp T.take.b .nil pass0 (pa_cons (pv 0) (pa_cons (pe_callB call_len_seq (by rfl) T.len PySem.boot_len (pa_cons (pv 1) pa_nil)) pa_nil))) (fun _ _ => rfl)) pe_int (fun _ _ => rfl)))
        (pss_cons (ps_set (i := 8) nd rfl (.inl rfl) (pe_op op_add pe_int (pe_call dT hr (by rfl) T.take.g T.take.F.kp T.take.b .nil pass0 (pa_cons (pv 0) (pa_cons (pe_ix ix_list (pe_lst (pa_cons pe_int (pa_cons pe_int pa_nil))) (pe_call dT hr (by rfl) T.take.g T.take.F.kp T.take.b .nil pass0 (pa_cons (pv 0) (pa_cons pe_int pa_nil))) (fun _ _ => rfl)) pa_nil)))))
        (pss_one (ps_expr (pe_bm PySem.F.plainAttrs_list PySem.F.slot_list_append PySem.F.type_list_append mt_append (pv 4) (pa_cons (pe_tup (pa_cons (pv 7) (pa_cons (pv 6) (pa_cons (pe_op op_add (pv 6) (pv 8)) pa_nil)))) pa_nil))))))))
      (pss_one (ps_ret (pv 4)))), ?_⟩
    have hlt := paired_len hg
    refine ⟨Nat.zero_le _, fun fo nfo => ?_⟩
    have s1 : Same H (upd H fo (.lst [])) := same_upd nfo
    have nfg := bg.ne nfo
    have e1 : upd H fo (.lst []) fo = some (.lst []) := upd_same
    have b1 := bg.same s1
    generalize upd H fo (.lst []) = H1 at s1 e1 b1
    refine ⟨_, rfl, _, rfl, _, _, rfl, rfl, g, m + 1, N, rfl, b1, by omega, by omega, by omega, fun r H2 hr2 f2' b2 => ?_⟩
    refine ⟨_, rfl, by omega, by omega, for_it walk_range (fun i σ H3 => ∃ x5 x6 x7 x8 ts ys, σ = [some (.ref g), some (.ref t), some (.int (m : Nat)), some (.int (far : Nat)), some (.ref fo), x5, x6, x7, x8] ∧ H3 fo = some (.lst ys) ∧ TurnsAre H3 ys ts ∧ ts.length = i ∧ (∀ u ∈ ts, TrnOk gs u) ∧ Fr g H H3 ∧ BagAt H3 g (N + 1 + 4 * i))
      ⟨none, none, none, none, [], [], rfl, f2' _ _ e1 nfg, .nil, rfl, fun u hu => by simp at hu, (Fr.same s1).trans f2', b2.mono (by omega)⟩ (fun _ _ _ _ _ => trivial) ?_ ?_⟩
    · rintro i x σ H4 H3 hi ⟨x5, x6, x7, x8, ts, ys, rfl, e3, pt3, lts, okt, f3, b3⟩ ⟨rfl, rfl⟩
      refine ⟨_, rfl, _, rfl, g, far, _, rfl, b3, by omega, by omega, by omega, fun bgn H4 hbgn f4 b4 => ?_⟩
      have ht4 : H4 t = some (.tup tx) := (f3.trans f4).tup bg _ _ ht
      refine ⟨_, rfl, _, rfl, _, rfl, t, _, rfl, .inr (.inl (.inl ht4)), g, tx.length, _, rfl, b4, ?_, ?_, by omega, fun ix H5 hix f5 b5 => ?_⟩
      · have := okg.lo
        omega
      · have := okg.hi
        omega
      have ht5 := f5.tup b4 _ _ ht4
      have eix : tx[ix]? = some tx[ix] := List.getElem?_eq_getElem hix
      obtain ⟨gate, egt, rg, erg, hrg⟩ := paired_at hg eix
      have hrg5 : H5 rg = some (.tup [.str gate.n, .int gate.o, .int gate.s, .bl gate.m]) := ((f3.trans f4).trans f5).tup bg _ _ hrg
      refine ⟨t, _, _, _, rfl, rfl, .inl (.inl ht5), at1 eix, rg, _, 0, _, erg, rfl, .inl (.inl hrg5), atI_nat (j := 0) rfl, ?_⟩
      refine ⟨_, rfl, line8 (by show 2 ≤ 1000; decide), fun l nl => ?_⟩
      have s6 : Same H5 (upd H5 l (.lst [.int 9, .int 99])) := same_upd nl
      have el : upd H5 l (.lst [.int 9, .int 99]) l = some (.lst [.int 9, .int 99]) := upd_same
      have nlg := b5.ne nl
      have b6 := b5.same s6
      have f36 := f4.trans (f5.trans (Fr.same s6))
      generalize upd H5 l (.lst [.int 9, .int 99]) = H6 at s6 el b6 f36
      refine ⟨_, rfl, g, 2, _, rfl, b6, by decide, by decide, by omega, fun i2 H7 hi2 f7 b7 => ?_⟩
      obtain ⟨wm, ewm, hwm1, hwm2⟩ : ∃ wm : Nat, ([V.int 9, V.int 99] : List V)[i2]? = some (.int (wm : Nat)) ∧ 1 ≤ wm ∧ wm ≤ 99 := by
        match i2, hi2 with
        | 0, _ => exact ⟨9, rfl, by decide, by decide⟩
        | 1, _ => exact ⟨99, rfl, by decide, by decide⟩
      refine ⟨l, _, _, _, rfl, rfl, .inl (.inl (f7 _ _ el nlg)), at1 ewm, g, wm, _, rfl, b7, by omega, by omega, by omega, fun wd H8 hwd f8 b8 => ?_⟩
      refine ⟨_, _, rfl, rfl, ?_⟩
      have f38 := f36.trans (f7.trans f8)
      have e8 := f38 _ _ e3 nfg
      refine ⟨_, rfl, .inl ⟨rfl, _, .inl (.inl e8)⟩, _, rfl, _, rfl, _, rfl, _, rfl, _, _, rfl, rfl, line8 (by show 3 ≤ 1000; decide), fun tu ntu => ?_⟩
      have s9 : ∀ o, Same H8 (upd H8 tu o) := fun o => same_upd ntu
      have ntg := b8.ne ntu
      have ntf : tu ≠ fo := fun z => by rw [z, e8] at ntu; cases ntu
      have ntu0 : H tu = none := (f3.trans f38).free ntu ntg
      refine ⟨fo, ys, _, rfl, rfl, (s9 _) _ _ e8, ?_, ?_⟩
      · have := paired_len pt3
        exact small1000 (by omega)
      · refine ⟨_, _, _, _, ts ++ [⟨gate.n, (bgn : Nat), (bgn : Nat) + (1 + (wd : Nat))⟩], ys ++ [.ref tu], rfl, upd_same, ?_, by rw [List.length_append, lts]; rfl, fun u hu => ?_, ((f3.trans f38).upd ntu0).upd nfo, ((b8.upd ntg).upd nfg).mono (by omega)⟩
        · have k1 := tup_upd (H := upd H8 tu (.tup [.str gate.n, .int (bgn : Nat), .int ((bgn : Nat) + (1 + (wd : Nat)))])) (c := fo) (xs := ys) (o := .lst (ys ++ [.ref tu])) ((s9 _) _ _ e8)
          refine paired_snocT (turns_keep k1 (turns_keep (same_tups (s9 _)) (turns_keep (f38.tup b3) pt3))) ⟨tu, rfl, ?_⟩
          exact k1 _ _ upd_same
        · rcases List.mem_append.mp hu with h | h
          · exact okt u h
          · rw [List.mem_singleton.mp h]
            refine ⟨List.mem_map.mpr ⟨gate, List.mem_of_getElem? egt, rfl⟩, ?_, ?_, ?_, ?_⟩
            · show (0 : Int) ≤ (bgn : Nat)
              omega
            · show ((bgn : Nat) : Int) ≤ 1000000
              omega
            · show ((bgn : Nat) : Int) + 1 ≤ (bgn : Nat) + (1 + (wd : Nat))
              omega
            · show ((bgn : Nat) : Int) + (1 + (wd : Nat)) ≤ 1000000
              omega
    · rintro σ H3 ⟨x5, x6, x7, x8, ts, ys, rfl, e3, pt3, lts, okt, f3, b3⟩
      refine ⟨_, rfl, q fo ts H3 ⟨ys, e3, pt3⟩ nfo (by omega) okt f3 (b3.mono (by omega))⟩
end
end LT
end
section
set_option Elab.async false
set_option linter.all false
set_option maxRecDepth 100000
set_option maxHeartbeats 4000000
/-! _law_kept -/
namespace LT
open PySem PySem.Spec PyProof.Rows L2
theorem idx_at {l : List Str} (nd : l.Nodup) {i : Nat} (h : i < l.length) : l.idxOf l[i] = i := by
  have hm : l[i] ∈ l := List.getElem_mem h
  have hlt := List.idxOf_lt_length_iff.mpr hm
  have e : l[l.idxOf l[i]] = l[i] := List.getElem_idxOf hlt
  exact (List.getElem_inj nd).mp e
theorem TownOk.nodup {gs : List Gate} (h : TownOk gs) : (gs.map Gate.n).Nodup := h.up.imp fun {a b} q e => by
  rw [e] at q
  exact absurd q (List.lt_irrefl _)
section
variable {P : Program} {w : World} {K : PySem.W.Frag} {mg : Str → Option Value} {base : Heap} {cL : Addr}
def spKept : Sp := fun vs H Q _ => ∃ (g t b : Addr) (m : Nat) (gs : List Gate) (d : Nat → Nat → Int) (N : Nat), vs = [.ref g, .ref t, .ref b, .int (m : Nat)] ∧ BagAt H g N ∧ TownAt H t gs ∧ TownOk gs ∧ WalksAt H b gs.length d ∧ WalksOk gs.length d ∧ m ≤ 6 ∧ N + 2000000 ≤ 1000000000000 ∧
  ∀ (c : Addr) (ts : List Trn) (rows : List (List Trn)) (H' : Hp), TurnsAt H' c ts → H c = none → ts.length ≤ 24 → (∀ u ∈ ts, TrnOk gs u) → Part (Fl gs d) ts rows → rows.length ≤ m → Fr g H H' → BagAt H' g (N + 200) → Q (.ref c) H'
theorem scKept : FnScope ["bag", "town", "walks", "many", "names", "found", "watcher", "at", "moment", "turn", "end", "there", "gate"] ["bag", "town", "walks", "many"] (defScope (topS 39)) := ⟨rfl, rfl, rfl, by decide +kernel, rfl, by decide +kernel, by decide +kernel⟩
theorem ok_kept (T : Txt K mg cL) : FnOk P w K mg base CX0 3 T.kept.f T.kept.fd ["bag", "town", "walks", "many"] spKept := by
  refine T.kept.F.ok scKept (fun vs H Q E h => ?_) (fun cdv A0 outer s H vs Q E hr h => ?_)
  · obtain ⟨g, t, b, m, gs, d, N, rfl, _⟩ := h
    rfl
  · obtain ⟨g, t, b, m, gs, d, N, rfl, bg, ⟨tx, ht, hg⟩, okg, ⟨xs, hb, hlx, hrow⟩, okd, m6, hN, q⟩ := h
    have dT := ok_take (P := P) (w := w) (base := base) T
    have dS := ok_shuf (P := P) (w := w) (base := base) T
    have nd := scKept.nd
    refine ⟨_, pss_cons (ps_setLc (i := 4) (own := [("gate", 12)]) (g := gName 12) (te := tOp (rIxT K) (tVar 12) (tC (.int 0))) rfl nd rfl rfl (sw_true rfl rfl rfl (by decide +kernel)) (pi_tup (pv 1)) (blkOk_by (N := ["bag", "town", "walks", "many", "names", "found", "watcher", "at", "moment", "turn", "end", "there", "gate"]) (sc := defScope (topS 39)) (by decide +kernel))
        (fun _ _ _ _ _ => pg_name (i := 12) nd rfl (Or.inl rfl)) (fun _ _ _ _ _ => pts_nil) (fun _ _ _ _ _ => pe_ix ix_tup (pv 12) pe_int (fun _ _ => rfl)))
      (pss_cons (ps_set (i := 5) nd rfl (.inl rfl) (pe_lst pa_nil))
      (pss_cons (ps_for PassesOwn.never rfl (pi_range1 (by rfl) T.range (pa_cons (pv 3) pa_nil)) (pg_name (i := 6) nd rfl (.inl rfl))
        (pss_cons (ps_set (i := 7) nd rfl (.inl rfl) (pe_call dT (hr.mono (by decide)) (by rfl) T.take.g T.take.F.kp T.take.b .nil pass0 (pa_cons (pv 0) (pa_cons (pe_callB call_len_seq (by rfl) T.len PySem.boot_len (pa_cons (pv 1) pa_nil)) pa_nil))))
        (pss_cons (ps_set (i := 8) nd rfl (.inl rfl) (pe_call dT (hr.mono (by decide)) (by rfl) T.take.g T.take.F.kp T.take.b .nil pass0 (pa_cons (pv 0) (pa_cons pe_int pa_nil))))
        (pss_one (ps_for PassesOwn.never rfl (pi_range1 (by rfl) T.range (pa_cons (pe_call dT (hr.mono (by decide)) (by rfl) T.take.g T.take.F.kp T.take.b .nil pass0 (pa_cons (pv 0) (pa_cons pe_int pa_nil))) pa_nil)) (pg_name (i := 9) nd rfl (.inl rfl))
          (pss_cons (ps_set (i := 10) nd rfl (.inl rfl) (pe_op op_add (pe_op op_add (pv 8) pe_int) (pe_call dT (hr.mono (by decide)) (by rfl) T.take.g T.take.F.kp T.take.b .nil pass0 (pa_cons (pv 0) (pa_cons pe_int pa_nil)))))
          (pss_cons (ps_expr (pe_bm PySem.F.plainAttrs_list PySem.F.slot_list_append PySem.F.type_list_append mt_append (pv 5) (pa_cons (pe_tup (pa_cons (pe_ix ix_list (pv 4) (pv 7) (fun _ _ => rfl)) (pa_cons (pv 8) (pa_cons (pv 10) pa_nil)))) pa_nil)))
          (pss_cons (ps_set (i := 11) nd rfl (.inl rfl) (pe_call dT (hr.mono (by decide)) (by rfl) T.take.g T.take.F.kp T.take.b .nil pass0 (pa_cons (pv 0) (pa_cons (pe_callB call_len_seq (by rfl) T.len PySem.boot_len (pa_cons (pv 1) pa_nil)) pa_nil))))
          (pss_cons (ps_set (i := 8) nd rfl (.inl rfl) (pe_op op_add (pe_op op_add (pv 10) (pe_ix ix_tup (pe_ix ix_tup (pv 2) (pv 7) (fun _ _ => rfl)) (pv 11) (fun _ _ => rfl))) (pe_call dT (hr.mono (by decide)) (by rfl) T.take.g T.take.F.kp T.take.b .nil pass0 (pa_cons (pv 0) (pa_cons pe_int pa_nil)))))
          (pss_one (ps_set (i := 7) nd rfl (.inl rfl) (pv 11))))))))))))
      (pss_one (ps_ret (pe_call dS hr (by rfl) T.shuffled.g T.shuffled.F.kp T.shuffled.b .nil pass0 (pa_cons (pv 0) (pa_cons (pv 5) pa_nil))))))), ?_⟩
    have hT : SqT K H t tx := .inl (.inl ht)
    have hl := paired_len hg
    have hlo := okg.lo
    have hhi := okg.hi
    refine ⟨_, rfl, t, rfl, ⟨_, hT⟩, fun nm hnm => lc_kp (walk_tup (xs := tx)) hnm (fun i => ((gs.map Gate.n)[i]?).map V.str) (fun H1 s => same_seqT s hT) (fun i x H2 H1 hi kp y => ?_) fun H1 kp => ?_⟩
    · obtain ⟨rfl, hx⟩ := y
      obtain ⟨ga, eg, r, rfl, hr1⟩ := paired_at hg hx
      refine ⟨rfl, _, rfl, r, _, 0, _, rfl, rfl, .inl (.inl (kp.same _ _ hr1)), atI_nat (j := 0) rfl, ?_⟩
      refine kp.add hnm (by omega) ?_ (Same.refl _)
      rw [List.getElem?_map, eg]
      rfl
    have e1 := kp.at_
    have e := fm_list (g := V.str) (gs.map Gate.n)
    rw [List.length_map, ← hl] at e
    rw [e] at e1
    have s1 := kp.same
    have b1 := bg.same s1
    refine ⟨Nat.zero_le _, fun fo nfo => ?_⟩
    have s2 : Same H1 (upd H1 fo (.lst [])) := same_upd nfo
    have nfg := b1.ne nfo
    have nmg := bg.ne hnm
    have nfo0 := s1.free nfo
    have nfn : fo ≠ nm := fun z => by rw [z, e1] at nfo; cases nfo
    have fH1 : Fr g H H1 := Fr.same s1
    refine ⟨_, rfl, _, rfl, by omega, by omega, for_it walk_range (fun i σ H3 => ∃ x6 x7 x8 x9 x10 x11 rows ys, σ = [some (.ref g), some (.ref t), some (.ref b), some (.int (m : Nat)), some (.ref nm), some (.ref fo), x6, x7, x8, x9, x10, x11, none] ∧ H3 fo = some (.lst ys) ∧ TurnsAre H3 ys rows.flatten ∧ rows.length = i ∧ rows.flatten.length ≤ 4 * i ∧ (∀ r ∈ rows, Chain (Fl gs d) r) ∧ (∀ u ∈ rows.flatten, TrnOk gs u) ∧ H3 nm = some (.lst ((gs.map Gate.n).map V.str)) ∧ Fr g H H3 ∧ BagAt H3 g (N + 20 * i))
      ⟨none, none, none, none, none, none, [], [], rfl, upd_same, .nil, rfl, Nat.le_refl _, fun r hr => by simp at hr, fun u hu => by simp at hu, s2 _ _ e1, fH1.trans (Fr.same s2), b1.same s2⟩ (fun _ _ _ _ _ => trivial) ?_ ?_⟩
    · rintro i x σ H4 H3 hi ⟨x6, x7, x8, x9, x10, x11, rows, ys, rfl, e3, pt3, lr, lf, hch, hok, en3, f3, b3⟩ ⟨rfl, rfl⟩
      have ht3 := f3.tup bg _ _ ht
      refine ⟨_, rfl, _, rfl, t, _, rfl, .inr (.inl (.inl ht3)), g, tx.length, _, rfl, b3, by omega, by omega, by omega, fun at0 H4 hat f4 b4 => ?_⟩
      refine ⟨_, rfl, g, 50, _, rfl, b4, by decide, by decide, by omega, fun mo H5 hmo f5 b5 => ?_⟩
      refine ⟨_, rfl, g, 5, _, rfl, b5, by decide, by decide, by omega, fun tn H6 htn f6 b6 => ?_⟩
      have f36 := f4.trans (f5.trans f6)
      refine ⟨_, rfl, by omega, by omega, for_it walk_range (fun j σ H7 => ∃ x9 x10 x11 cur zs mom, ∃ at1 : Nat, σ = [some (.ref g), some (.ref t), some (.ref b), some (.int (m : Nat)), some (.ref nm), some (.ref fo), some (.int (0 + (i : Int))), some (.int (at1 : Nat)), some (.int mom), x9, x10, x11, none] ∧ at1 < gs.length ∧ 0 ≤ mom ∧ mom ≤ 50 + 2000 * (j : Nat) ∧ cur.length = j ∧ Chain (Fl gs d) cur ∧ (∀ y, cur.getLast? = some y → y.e + d (ixOf gs y.n) at1 ≤ mom) ∧ (∀ u ∈ cur, TrnOk gs u) ∧ H7 fo = some (.lst zs) ∧ TurnsAre H7 zs (rows.flatten ++ cur) ∧ H7 nm = some (.lst ((gs.map Gate.n).map V.str)) ∧ Fr g H H7 ∧ BagAt H7 g (N + 20 * i + 3 + 3 * j))
        ⟨x9, x10, x11, [], ys, ((mo : Nat) : Int), at0, rfl, by omega, by omega, by omega, rfl, trivial, (fun y hy => by cases hy), (fun u hu => by simp at hu), f36 _ _ e3 nfg, by rw [List.append_nil]; exact turns_keep (f36.tup b3) pt3, f36 _ _ en3 nmg, f3.trans f36, b6.mono (by omega)⟩ (fun _ _ _ _ _ => trivial) ?_ ?_⟩
      · rintro j x σ H8 H7 hj ⟨x9, x10, x11, cur, zs, mom, a1, rfl, ha1, m0, m1, lcu, cch, clast, cok, e7, pt7, en7, f7, b7⟩ ⟨rfl, rfl⟩
        have hj5 : j < 5 := by omega
        have hi6 : i < 6 := by omega
        -- end
        refine ⟨_, rfl, _, _, rfl, rfl, _, rfl, g, 60, _, rfl, b7, by decide, by decide, by omega, fun k60 H8 hk60 f8 b8 => ?_⟩
        refine ⟨_, _, rfl, rfl, ?_⟩
        have e8 := f8 _ _ e7 nfg
        have en8 := f8 _ _ en7 nmg
        have pt8 := turns_keep (f8.tup b7) pt7
        -- found.append
        have hnl : a1 < (gs.map Gate.n).length := by rw [List.length_map]; exact ha1
        have eat : ((gs.map Gate.n).map V.str)[a1]? = some (.str (gs.map Gate.n)[a1]) := by rw [List.getElem?_map, List.getElem?_eq_getElem hnl]; rfl
        refine ⟨_, rfl, .inl ⟨rfl, _, .inl (.inl e8)⟩, _, rfl, _, rfl, nm, _, _, _, rfl, rfl, .inl (.inl en8), at1 eat, _, rfl, _, rfl, line8 (by show 3 ≤ 1000; decide), fun tu ntu => ?_⟩
        have s9 : ∀ o, Same H8 (upd H8 tu o) := fun o => same_upd ntu
        have ntg := b8.ne ntu
        have ntf : tu ≠ fo := fun z => by rw [z, e8] at ntu; cases ntu
        have ntn : tu ≠ nm := fun z => by rw [z, en8] at ntu; cases ntu
        have ntu0 : H tu = none := (f7.trans f8).free ntu ntg
        refine ⟨fo, zs, _, rfl, rfl, (s9 _) _ _ e8, ?_, ?_⟩
        · have := paired_len pt7
          rw [List.length_append] at this
          exact small1000 (by omega)
        have e9 : upd (upd H8 tu (.tup [.str (gs.map Gate.n)[a1], .int mom, .int (mom + 1 + (k60 : Nat))])) fo (.lst (zs ++ [.ref tu])) fo = some (.lst (zs ++ [.ref tu])) := upd_same
        have k1 := tup_upd (H := upd H8 tu (.tup [.str (gs.map Gate.n)[a1], .int mom, .int (mom + 1 + (k60 : Nat))])) (c := fo) (xs := zs) (o := .lst (zs ++ [.ref tu])) ((s9 _) _ _ e8)
        have pt9 : TurnsAre (upd (upd H8 tu (.tup [.str (gs.map Gate.n)[a1], .int mom, .int (mom + 1 + (k60 : Nat))])) fo (.lst (zs ++ [.ref tu]))) (zs ++ [.ref tu]) (rows.flatten ++ (cur ++ [⟨(gs.map Gate.n)[a1], mom, mom + 1 + (k60 : Nat)⟩])) := by
          rw [← List.append_assoc]
          exact paired_snocT (turns_keep k1 (turns_keep (same_tups (s9 _)) pt8)) ⟨tu, rfl, k1 _ _ upd_same⟩
        have en9 : upd (upd H8 tu (.tup [.str (gs.map Gate.n)[a1], .int mom, .int (mom + 1 + (k60 : Nat))])) fo (.lst (zs ++ [.ref tu])) nm = some (.lst ((gs.map Gate.n).map V.str)) := by
          rw [upd_ne (Ne.symm nfn)]
          exact (s9 _) _ _ en8
        have f9 : Fr g H (upd (upd H8 tu (.tup [.str (gs.map Gate.n)[a1], .int mom, .int (mom + 1 + (k60 : Nat))])) fo (.lst (zs ++ [.ref tu]))) := ((f7.trans f8).upd ntu0).upd nfo0
        have b9 : BagAt (upd (upd H8 tu (.tup [.str (gs.map Gate.n)[a1], .int mom, .int (mom + 1 + (k60 : Nat))])) fo (.lst (zs ++ [.ref tu]))) g (N + 20 * i + 3 + 3 * j + 1) := (b8.upd ntg).upd nfg
        generalize upd (upd H8 tu (.tup [.str (gs.map Gate.n)[a1], .int mom, .int (mom + 1 + (k60 : Nat))])) fo (.lst (zs ++ [.ref tu])) = H9 at e9 pt9 en9 f9 b9
        -- there
        have ht9 := f9.tup bg _ _ ht
        refine ⟨_, rfl, _, rfl, t, _, rfl, .inr (.inl (.inl ht9)), g, tx.length, _, rfl, b9, by omega, by omega, by omega, fun th H10 hth f10 b10 => ?_⟩
        have hb10 := (f9.trans f10).tup bg _ _ hb
        obtain ⟨rw1, erw, hrw⟩ := hrow a1 ha1
        have hrw10 := (f9.trans f10).tup bg _ _ hrw
        have hth' : th < gs.length := by omega
        refine ⟨_, rfl, _, rfl, _, rfl, b, _, _, _, rfl, rfl, .inl (.inl hb10), at1 erw, _, rfl, rw1, _, _, _, rfl, rfl, .inl (.inl hrw10), at1 (rowV_at hth'), ?_⟩
        refine ⟨_, _, rfl, rfl, ?_⟩
        refine ⟨_, rfl, g, 3, _, rfl, b10, by decide, by decide, by omega, fun k3 H11 hk3 f11 b11 => ?_⟩
        refine ⟨_, _, rfl, rfl, ?_⟩
        have hlo2 := okd.lo a1 th ha1 hth'
        have hhi2 := okd.hi a1 th ha1 hth'
        have fx := f10.trans f11
        have eix : ixOf gs (gs.map Gate.n)[a1] = a1 := idx_at okg.nodup hnl
        refine ⟨_, rfl, _, _, _, cur ++ [⟨(gs.map Gate.n)[a1], mom, mom + 1 + (k60 : Nat)⟩], _, mom + 1 + (k60 : Nat) + d a1 th + (k3 : Nat), th, rfl, hth', by omega, by omega, by rw [List.length_append, lcu]; rfl, ?_, fun y hy => ?_, fun u hu => ?_, fx _ _ e9 nfg, turns_keep (fx.tup b9) pt9, fx _ _ en9 nmg, f9.trans fx, b11.mono (by omega)⟩
        · refine Chain.snoc cch fun y hy => ?_
          have := clast y hy
          show y.e + d (ixOf gs y.n) (ixOf gs (gs.map Gate.n)[a1]) ≤ mom
          rw [eix]
          exact this
        · rw [List.getLast?_concat] at hy
          cases hy
          show mom + 1 + (k60 : Nat) + d (ixOf gs (gs.map Gate.n)[a1]) th ≤ _
          rw [eix]
          omega
        · rcases List.mem_append.mp hu with h | h
          · exact cok u h
          · rw [List.mem_singleton.mp h]
            exact ⟨List.getElem_mem hnl, m0, by show mom ≤ 1000000; omega, by show mom + 1 ≤ mom + 1 + (k60 : Nat); omega, by show mom + 1 + (k60 : Nat) ≤ 1000000; omega⟩
      · rintro σ H7 ⟨x9, x10, x11, cur, zs, mom, a1, rfl, ha1, m0, m1, lcu, cch, clast, cok, e7, pt7, en7, f7, b7⟩
        have htn4 : tn ≤ 4 := by omega
        refine ⟨_, _, _, _, _, _, rows ++ [cur], zs, rfl, e7, ?_, by rw [List.length_append, lr]; rfl, ?_, fun r hr => ?_, fun u hu => ?_, en7, f7, b7.mono (by omega)⟩
        · rw [List.flatten_append]
          simpa using pt7
        · rw [List.flatten_append, List.length_append]
          simp only [List.flatten_cons, List.flatten_nil, List.append_nil]
          omega
        · rcases List.mem_append.mp hr with h | h
          · exact hch r h
          · rw [List.mem_singleton.mp h]
            exact cch
        · rw [List.flatten_append] at hu
          rcases List.mem_append.mp hu with h | h
          · exact hok u h
          · refine cok u ?_
            simpa using h
    · rintro σ H3 ⟨x6, x7, x8, x9, x10, x11, rows, ys, rfl, e3, pt3, lr, lf, hch, hok, en3, f3, b3⟩
      refine ⟨_, rfl, _, rfl, g, fo, rows.flatten, _, rfl, b3, by omega, ⟨ys, e3, pt3⟩, by omega, fun u hu => ?_, fun p ts' H4 hp htt np f4 b4 => ?_⟩
      · obtain ⟨ga, hga, e⟩ := List.mem_map.mp (hok u hu).name
        rw [← e]
        exact (okg.ok ga hga).name
      · have hpl := hp.length_eq
        refine q p ts' rows H4 htt (f3.free np (b3.ne np)) (by omega) (fun u hu => hok u (hp.mem_iff.mp hu)) ⟨hp.symm, hch⟩ (by omega) (f3.trans f4) (b4.mono (by omega))
end
end LT
end
section
set_option Elab.async false
set_option linter.all false
set_option maxRecDepth 100000
set_option maxHeartbeats 4000000
/-! the law's own count: what its ways hold; helpers for tuples -/
namespace LT
open PySem PySem.Spec PyProof.Rows L2
theorem Snd.mem {T : Type} {fT : T → T → Prop} {t : Nat → T} {pre : List Nat} {K : List T} (h : Snd fT t pre K) {u : T} (hu : u ∈ K) : ∃ a ∈ pre, u = t a := by
  obtain ⟨rows, ls, p, e, q⟩ := h
  obtain ⟨a, ha, rfl⟩ := List.mem_map.mp (q.mem_iff.mp hu)
  have : some a ∈ rows.map List.getLast? := by
    rw [e]
    exact List.mem_map.mpr ⟨a, ha, rfl⟩
  obtain ⟨row, hr, er⟩ := List.mem_map.mp this
  exact ⟨a, p.perm.mem_iff.mp (List.mem_flatten.mpr ⟨row, hr, List.mem_of_getLast? er⟩), rfl⟩
structure Ways (gs : List Gate) (d : Nat → Nat → Int) (ts : List Trn) (pre : List Nat) (Ks : List (List Trn)) : Prop where
  snd : ∀ K ∈ Ks, Snd (Fl gs d) (tr ts) pre K
  cmp : ∀ rows : List (List Nat), Part (FlI gs d ts) (List.range ts.length) rows → ∃ K ∈ Ks, Cmp (tr ts) (nbr rows) pre K
  few : Ks.length ≤ 8 ^ pre.length
theorem Ways.start (gs : List Gate) (d : Nat → Nat → Int) (ts : List Trn) : Ways gs d ts [] [[]] :=
  ⟨fun K hK => by rw [List.mem_singleton.mp hK]; exact Snd.nil, fun rows _ => ⟨[], by simp, Cmp.nil⟩, Nat.le_refl _⟩
/-- the later ones so far: k keys are done -/
structure Later (gs : List Gate) (d : Nat → Nat → Int) (ts : List Trn) (pre : List Nat) (j : Nat) (Ks : List (List Trn)) (k : Nat) (Ls : List (List Trn)) : Prop where
  snd : ∀ L ∈ Ls, Snd (Fl gs d) (tr ts) (pre ++ [j]) L
  cmp : ∀ rows : List (List Nat), Part (FlI gs d ts) (List.range ts.length) rows → ∀ (i : Nat) (K : List Trn), i < k → Ks[i]? = some K → Cmp (tr ts) (nbr rows) pre K → ∃ L ∈ Ls, Cmp (tr ts) (nbr rows) (pre ++ [j]) L
  few : Ls.length ≤ 8 * k
theorem Later.start {gs : List Gate} {d : Nat → Nat → Int} {ts : List Trn} {pre : List Nat} {j : Nat} {Ks : List (List Trn)} : Later gs d ts pre j Ks 0 [] :=
  ⟨fun L h => by simp at h, fun rows _ i K h => by omega, Nat.le_refl _⟩
theorem Later.done {gs : List Gate} {d : Nat → Nat → Int} {ts : List Trn} {pre : List Nat} {j : Nat} {Ks Ls : List (List Trn)} (w : Ways gs d ts pre Ks) (l : Later gs d ts pre j Ks Ks.length Ls) : Ways gs d ts (pre ++ [j]) Ls := by
  refine ⟨l.snd, fun rows p => ?_, ?_⟩
  · obtain ⟨K, hK, c⟩ := w.cmp rows p
    obtain ⟨i, hi, e⟩ := List.getElem_of_mem hK
    exact l.cmp rows p i K hi (by rw [List.getElem?_eq_getElem hi, e]) c
  · have h1 := l.few
    have h2 := w.few
    rw [List.length_append, List.length_singleton, Nat.pow_succ]
    omega
/-- within one key: k2 of its last ones are done -/
structure Within (gs : List Gate) (d : Nat → Nat → Int) (ts : List Trn) (j : Nat) (Ls0 : List (List Trn)) (K : List Trn) (k2 : Nat) (Ls : List (List Trn)) : Prop where
  old : ∀ L ∈ Ls0, L ∈ Ls
  new : ∃ L ∈ Ls, L.Perm (K ++ [tr ts j])
  app : ∀ (i : Nat) (u : Trn), i < k2 → K[i]? = some u → Fl gs d u (tr ts j) → ∃ L ∈ Ls, L.Perm (K.eraseIdx i ++ [tr ts j])
  all : ∀ L ∈ Ls, L ∈ Ls0 ∨ L.Perm (K ++ [tr ts j]) ∨ ∃ (i : Nat) (u : Trn), K[i]? = some u ∧ Fl gs d u (tr ts j) ∧ L.Perm (K.eraseIdx i ++ [tr ts j])
  few : Ls.length ≤ Ls0.length + 1 + k2
theorem Within.start {gs : List Gate} {d : Nat → Nat → Int} {ts : List Trn} {j : Nat} {Ls0 Ls : List (List Trn)} {K L : List Trn} (hL : L.Perm (K ++ [tr ts j])) (hm : ∀ K', K' ∈ Ls ↔ K' ∈ Ls0 ∨ K' = L) (hl : Ls.length ≤ Ls0.length + 1) : Within gs d ts j Ls0 K 0 Ls :=
  ⟨fun M h => (hm M).mpr (.inl h), ⟨L, (hm L).mpr (.inr rfl), hL⟩, fun i u h => by omega, fun M h => by
    rcases (hm M).mp h with z | rfl
    · exact .inl z
    · exact .inr (.inl hL), by omega⟩
theorem Within.skip {gs : List Gate} {d : Nat → Nat → Int} {ts : List Trn} {j k2 : Nat} {Ls0 Ls : List (List Trn)} {K : List Trn} {u : Trn} (w : Within gs d ts j Ls0 K k2 Ls) (hu : K[k2]? = some u) (hf : ¬ Fl gs d u (tr ts j)) : Within gs d ts j Ls0 K (k2 + 1) Ls :=
  ⟨w.old, w.new, fun i v h e f => by
    by_cases z : i < k2
    · exact w.app i v z e f
    · have : i = k2 := by omega
      subst this
      rw [hu] at e
      cases e
      exact (hf f).elim, w.all, by have := w.few; omega⟩
theorem Within.put {gs : List Gate} {d : Nat → Nat → Int} {ts : List Trn} {j k2 : Nat} {Ls0 Ls Ls' : List (List Trn)} {K L : List Trn} {u : Trn} (w : Within gs d ts j Ls0 K k2 Ls) (hu : K[k2]? = some u) (hf : Fl gs d u (tr ts j)) (hL : L.Perm (K.eraseIdx k2 ++ [tr ts j]))
    (hm : ∀ K', K' ∈ Ls' ↔ K' ∈ Ls ∨ K' = L) (hl : Ls'.length ≤ Ls.length + 1) : Within gs d ts j Ls0 K (k2 + 1) Ls' :=
  ⟨fun M h => (hm M).mpr (.inl (w.old M h)), let ⟨M, a, b⟩ := w.new; ⟨M, (hm M).mpr (.inl a), b⟩, fun i v h e f => by
    by_cases z : i < k2
    · obtain ⟨M, a, b⟩ := w.app i v z e f
      exact ⟨M, (hm M).mpr (.inl a), b⟩
    · have : i = k2 := by omega
      subst this
      exact ⟨L, (hm L).mpr (.inr rfl), hL⟩, fun M h => by
    rcases (hm M).mp h with z | rfl
    · exact w.all M z
    · exact .inr (.inr ⟨k2, u, hu, hf, hL⟩), by have := w.few; omega⟩
/-- the order: by begin -/
structure Ord (ts : List Trn) (order : List Nat) : Prop where
  perm : order.Perm (List.range ts.length)
  up : order.Pairwise (fun i j => (tr ts i).b ≤ (tr ts j).b)
theorem Ord.nodup {ts : List Trn} {order : List Nat} (h : Ord ts order) : order.Nodup := h.perm.nodup_iff.mpr List.nodup_range
theorem Ord.lt {ts : List Trn} {order : List Nat} (h : Ord ts order) {j : Nat} (hj : j ∈ order) : j < ts.length := List.mem_range.mp (h.perm.mem_iff.mp hj)
theorem Ord.before {ts : List Trn} {order : List Nat} (h : Ord ts order) {i j a : Nat} (hj : order[i]? = some j) (ha : a ∈ order) (hb : (tr ts a).b < (tr ts j).b) : a ∈ order.take i := by
  have hi := (List.getElem?_eq_some_iff.mp hj).1
  obtain ⟨k, hk, e⟩ := List.getElem_of_mem ha
  by_cases hki : k < i
  · rw [← e]
    exact List.mem_take_iff_getElem.mpr ⟨k, by omega, rfl⟩
  · have ej : order[i] = j := (List.getElem?_eq_some_iff.mp hj).2
    by_cases hk2 : i = k
    · subst hk2
      rw [← e, ej] at hb
      omega
    · have := List.pairwise_iff_getElem.mp h.up i k hi hk (by omega)
      rw [ej, e] at this
      omega
theorem Ord.notin {ts : List Trn} {order : List Nat} (h : Ord ts order) {i j : Nat} (hj : order[i]? = some j) : j ∉ order.take i := fun m => by
  obtain ⟨hi, ej⟩ := List.getElem?_eq_some_iff.mp hj
  obtain ⟨k, hk, e⟩ := List.mem_take_iff_getElem.mp m
  have := (List.getElem_inj h.nodup (h₀ := by omega) (h₁ := hi)).mp (e.trans ej.symm)
  omega
theorem Ord.after {ts : List Trn} {order : List Nat} (h : Ord ts order) {i j x : Nat} (hj : order[i]? = some j) (hb : (tr ts j).b < (tr ts x).b) : x ∉ order.take i := fun m => by
  obtain ⟨hi, ej⟩ := List.getElem?_eq_some_iff.mp hj
  obtain ⟨k, hk, e⟩ := List.mem_take_iff_getElem.mp m
  have := List.pairwise_iff_getElem.mp h.up k i (by omega) hi (by omega)
  rw [ej, e] at this
  omega
theorem Later.step {gs : List Gate} {d : Nat → Nat → Int} {ts : List Trn} {order : List Nat} {i j k : Nat} {Ks Ls0 Ls : List (List Trn)} {K : List Trn} (okd : WalksOk gs.length d) (okt : ∀ t ∈ ts, TrnOk gs t) (od : Ord ts order) (hj : order[i]? = some j) (w : Ways gs d ts (order.take i) Ks) (l : Later gs d ts (order.take i) j Ks k Ls0) (hK : Ks[k]? = some K) (h7 : K.length ≤ 7) (v : Within gs d ts j Ls0 K K.length Ls) : Later gs d ts (order.take i) j Ks (k + 1) Ls := by
  have hKm : K ∈ Ks := List.mem_of_getElem? hK
  have hjm : j ∈ order := List.mem_of_getElem? hj
  have hb : ∀ a x, a ∈ order → x ∈ order → FlI gs d ts a x → (tr ts a).b < (tr ts x).b := fun a x ha hx f => by
    have := fl_rk okd okt (od.lt ha) (od.lt hx) f
    have h1 := (okt _ (tr_mem (od.lt ha))).lo
    have h2 := (okt _ (tr_mem (od.lt hx))).lo
    unfold rkOf at this
    omega
  refine ⟨fun L hL => ?_, fun rows p i2 K2 h2 e2 c => ?_, ?_⟩
  · rcases v.all L hL with z | z | ⟨i3, u, e, f, z⟩
    · exact l.snd L z
    · exact (w.snd K hKm).new z
    · exact (w.snd K hKm).app e f z
  · by_cases z : i2 < k
    · obtain ⟨L, a, b⟩ := l.cmp rows p i2 K2 z e2 c
      exact ⟨L, v.old L a, b⟩
    · have : i2 = k := by omega
      subst this
      rw [hK] at e2
      cases e2
      have hnd : rows.flatten.Nodup := p.perm.nodup_iff.mpr List.nodup_range
      have inO : ∀ x, x ∈ rows.flatten → x ∈ order := fun x hx => od.perm.mem_iff.mpr (p.perm.mem_iff.mp hx)
      have m1 : ∀ q ∈ nbr rows, q.1 ∈ order := fun q hq => inO _ ((nbr_fst rows).subset (List.mem_map.mpr ⟨q, hq, rfl⟩))
      have m2 : ∀ q ∈ nbr rows, q.2 ∈ order := fun q hq => inO _ ((nbr_snd rows).subset (List.mem_map.mpr ⟨q, hq, rfl⟩))
      have st := Cmp.step (fT := Fl gs d) (j := j) c (hnd.sublist (nbr_fst rows)) (hnd.sublist (nbr_snd rows)) (fun q hq => p.nbr q hq) (od.nodup.sublist (List.take_sublist i order)) (od.notin hj)
        (fun a ha => od.before hj (m1 _ ha) (hb _ _ (m1 _ ha) (m2 _ ha) (p.nbr _ ha)))
        (fun x hx => ⟨od.after hj (hb _ _ (m1 _ hx) (m2 _ hx) (p.nbr _ hx)), fun e => by
          have := hb _ _ (m1 _ hx) (m2 _ hx) (p.nbr _ hx)
          simp only [e] at this
          omega⟩)
      rcases st with ⟨k3, u, e3, f3, st⟩ | st
      · obtain ⟨L, a, b⟩ := v.app k3 u (List.getElem?_eq_some_iff.mp e3).1 e3 f3
        exact ⟨L, a, st L b⟩
      · obtain ⟨L, a, b⟩ := v.new
        exact ⟨L, a, st L b⟩
  · have h1 := l.few
    have h2 := v.few
    omega
/-! ### tuples -/
section
variable {K : PySem.W.Frag}
theorem use_catA {H : Hp} {a b : Addr} {xs ys : List V} {Q : VK} (ha : SqT K H a xs) (hb : SqT K H b ys) (hl : xs.length + ys.length ≤ 1000) (q : ∀ (p : Addr) (H' : Hp), Same H H' → SqT K H' p (xs ++ ys) → Q (.ref p) H') : rCatA K (.ref a) (.ref b) H Q :=
  ⟨a, b, xs, ys, rfl, rfl, ha, hb, line8 hl, fun e => q b H (Same.refl H) (by rw [e]; exact hb), fun _ e => q a H (Same.refl H) (by rw [e, List.append_nil]; exact ha), fun _ _ p hp => q p _ (same_upd hp) (.inl (.inl upd_same))⟩
theorem use_take {H : Hp} {a : Addr} {xs : List V} {k : Nat} {Q : VK} (ha : SqT K H a xs) (q : ∀ (p : Addr) (H' : Hp), Same H H' → SqT K H' p (xs.take k) → Q (.ref p) H') : rSlA K (.ref a) none (some (k : Int)) H Q := by
  have e : cutV xs none (some (k : Int)) = xs.take k := by
    unfold cutV
    rw [HT.sIx_none, HT.sIx_nat, List.drop_zero, Nat.sub_zero]
    by_cases h : k ≤ xs.length
    · rw [Nat.min_eq_left h]
    · rw [Nat.min_eq_right (by omega), List.take_of_length_le (Nat.le_refl _), List.take_of_length_le (by omega)]
  refine ⟨a, xs, rfl, ha, fun h => q a H (Same.refl H) ?_, fun _ p hp => q p _ (same_upd hp) (.inl (.inl (by rw [upd_same, e])))⟩
  have h2 := h.2
  rw [HT.sIx_nat] at h2
  rw [List.take_of_length_le (by omega)]
  exact ha
theorem use_drop {H : Hp} {a : Addr} {xs : List V} {k : Nat} {Q : VK} (ha : SqT K H a xs) (q : ∀ (p : Addr) (H' : Hp), Same H H' → SqT K H' p (xs.drop k) → Q (.ref p) H') : rSlA K (.ref a) (some (k : Int)) none H Q := by
  have e : cutV xs (some (k : Int)) none = xs.drop k := by
    unfold cutV
    rw [HT.sIx_none, HT.sIx_nat]
    by_cases h : k ≤ xs.length
    · rw [Nat.min_eq_left h, List.take_of_length_le (by rw [List.length_drop]; omega)]
    · rw [Nat.min_eq_right (by omega), Nat.sub_self, List.take_zero, List.drop_eq_nil_of_le (by omega)]
  refine ⟨a, xs, rfl, ha, fun h => q a H (Same.refl H) ?_, fun _ p hp => q p _ (same_upd hp) (.inl (.inl (by rw [upd_same, e])))⟩
  have h1 := h.1
  rw [HT.sIx_nat] at h1
  rcases Nat.eq_zero_or_pos k with z | z
  · rw [z, List.drop_zero]
    exact ha
  · have : xs.length = 0 := by omega
    rw [List.drop_eq_nil_of_le (by omega)]
    rw [List.length_eq_zero_iff] at this
    rw [this] at ha
    exact ha
theorem paired_app {α β : Type} {G : α → β → Prop} {l1 l2 : List α} {m1 m2 : List β} (h1 : Paired G l1 m1) (h2 : Paired G l2 m2) : Paired G (l1 ++ l2) (m1 ++ m2) := by
  induction h1 with
  | nil => exact h2
  | cons r _ ih => exact .cons r ih
theorem paired_take {α β : Type} {G : α → β → Prop} : ∀ {l : List α} {m : List β}, Paired G l m → ∀ k, Paired G (l.take k) (m.take k)
  | _, _, .nil, k => by rw [List.take_nil, List.take_nil]; exact .nil
  | _, _, .cons _ _, 0 => .nil
  | _, _, .cons r t, k + 1 => .cons r (paired_take t k)
theorem paired_drop {α β : Type} {G : α → β → Prop} : ∀ {l : List α} {m : List β}, Paired G l m → ∀ k, Paired G (l.drop k) (m.drop k)
  | _, _, .nil, k => by rw [List.drop_nil, List.drop_nil]; exact .nil
  | _, _, .cons r t, 0 => .cons r t
  | _, _, .cons _ t, k + 1 => paired_drop t k
theorem take_drop_erase {α : Type} : ∀ (l : List α) (k : Nat), l.take k ++ l.drop (k + 1) = l.eraseIdx k := fun l k => (List.eraseIdx_eq_take_drop_succ l k).symm
end
end LT
end
section
set_option Elab.async false
set_option linter.all false
set_option maxRecDepth 100000
set_option maxHeartbeats 4000000
/-! _law_least -/
namespace LT
open PySem PySem.Spec PyProof.Rows L2
section
variable {P : Program} {w : World} {K : PySem.W.Frag} {mg : Str → Option Value} {base : Heap} {cL PT : Addr}
theorem DefC.ok {x : Str} {st : Stmt} {ps N : List Str} {c : Addr} {k : Nat} {sp : Sp} (D : DefC K mg x st ps c) (S : FnScope N ps (defScope st)) (len : ∀ vs H Q E, sp vs H Q E → vs.length = ps.length)
    (hbody : ∀ (A : Around) (outer : List Env) (s : Shared) (H : Hp) (vs : List V) (Q : VK) (E : XK), Room k (A.deeper (envOfC x (defScope st) s.heap.objs.size D.f (.ref c))) → sp vs H Q E →
      ∃ t, PSs (cxOf CX0 P w K mg base N x (defScope st) D.f (.ref c) A outer s H E).nox (defBody st) t ∧ t { nx := fun _ H' => Q .non H', rt := Q } (start N vs) H) : FnOk P w K mg base CX0 (k + 1) D.f D.fd ps sp := by
  obtain ⟨oc, od, kV, doc, pm, an, ct, osl, e, lk, hcd⟩ := D.ex
  rw [e] at lk ⊢
  refine fn_of lk hcd S len fun A outer s H vs Q E hr hsp => ?_
  obtain ⟨t, h, q⟩ := hbody A outer s H vs Q E hr hsp
  exact ⟨t, h.nox, q⟩
def lamN : Str := (Str.ofString "_law_least" ++ Str.ofString ".<locals>.") ++ Str.ofString "<lambda>"
theorem tab_in (PT : Addr) : (PT, (Str.ofString "_law_least" ++ Str.ofString ".<locals>.") ++ Str.ofString "<lambda>") ∈ [(PT, lamN)] := List.mem_singleton.mpr rfl
theorem tab_un (PT : Addr) : ∀ p : Addr × Str, p ∈ [(PT, lamN)] → p.1 = PT → p.2 = (Str.ofString "_law_least" ++ Str.ofString ".<locals>.") ++ Str.ofString "<lambda>" := fun p hp _ => by
  rw [List.mem_singleton.mp hp]
  rfl
def spLeast (PT : Addr) : Sp := fun vs H Q _ => ∃ (a b c : Addr) (gs : List Gate) (d : Nat → Nat → Int) (ts : List Trn), vs = [.ref a, .ref b, .ref c] ∧ TownAt H a gs ∧ TownOk gs ∧ WalksAt H b gs.length d ∧ WalksOk gs.length d ∧ TurnsAt H c ts ∧ ts.length ≤ 7 ∧ (∀ t ∈ ts, TrnOk gs t) ∧ LamX.Tabs [(PT, lamN)] H ∧
  ∀ (m : Nat) (H' : Hp), LamX.ExtN H H' → LamX.Tabs [(PT, lamN)] H' → (∃ rows : List (List Nat), Part (FlI gs d ts) (List.range ts.length) rows ∧ rows.length = m) → (∀ rows : List (List Nat), Part (FlI gs d ts) (List.range ts.length) rows → m ≤ rows.length) → Q (.int (m : Nat)) H'
theorem scLeast : FnScope ["town", "walks", "turns", "order", "ways", "turn", "later", "lasts", "k", "last"] ["town", "walks", "turns"] (defScope (topS 38)) := ⟨rfl, rfl, rfl, by decide +kernel, rfl, by decide +kernel, by decide +kernel⟩
theorem ND.keep {H H' : Hp} {e : Addr} {Ks : List (List Trn)} (h : ND P w H e Ks) (a : H' e = H e) (k : ∀ a xs, H a = some (.tup xs) → H' a = some (.tup xs)) : ND P w H' e Ks := by
  obtain ⟨xs, h1, h2⟩ := h
  exact ⟨xs, a.trans h1, h2.keep k⟩
theorem ND.ne {H : Hp} {e c : Addr} {Ks : List (List Trn)} (h : ND P w H e Ks) (n : H c = none) : e ≠ c := fun z => by
  obtain ⟨xs, h1, _⟩ := h
  rw [z, n] at h1
  cases h1
/-- all but ld stand -/
def FrL (ld : Addr) (H H' : Hp) : Prop := ∀ b o, H b = some o → b ≠ ld → H' b = some o
theorem FrL.tup {ld : Addr} {H H' : Hp} {Ks : List (List Trn)} (f : FrL ld H H') (n : ND P w H ld Ks) : ∀ a xs, H a = some (.tup xs) → H' a = some (.tup xs) := fun a xs e => f a _ e fun z => by
  obtain ⟨ys, h1, _⟩ := n
  rw [z, h1] at e
  exact ndo_tup (Option.some.inj e)
theorem use_put {H : Hp} {p2 ld : Addr} {zs : List V} {M : List Trn} {Ls : List (List Trn)} {Q : Hp → Prop} (h1 : SqT K H p2 zs) (h2 : TurnsAre H zs M) (h3 : ND P w H ld Ls) (h4 : Ls.length < sizeLine)
    (q : ∀ (L : List Trn) (H' : Hp) (Ls' : List (List Trn)), L.Perm M → FrL ld H H' → ND P w H' ld Ls' → (∀ K', K' ∈ Ls' ↔ K' ∈ Ls ∨ K' = L) → Ls'.length ≤ Ls.length + 1 → Q H') :
    rSortedT K [.ref p2] H fun v H1 => ∃ p ys, [v] = [V.ref p] ∧ ((SqL K H1 p ys ∧ ∀ l, H1 l = none → stND P w (.ref ld) (.ref l) (.bl true) (upd H1 l (.tup ys)) Q) ∨ (SqT K H1 p ys ∧ stND P w (.ref ld) (.ref p) (.bl true) H1 Q)) := by
  refine ⟨p2, zs, M, rfl, h1, h2, fun ys L p3 hys hperm np3 => ⟨p3, ys, rfl, .inl ⟨.inl (.inl upd_same), fun p4 np4 => ?_⟩⟩⟩
  have s1 : Same H (upd H p3 (.lst ys)) := same_upd np3
  have s2 : Same (upd H p3 (.lst ys)) (upd (upd H p3 (.lst ys)) p4 (.tup ys)) := same_upd np4
  have s12 := s1.trans s2
  have nd2 : ND P w (upd (upd H p3 (.lst ys)) p4 (.tup ys)) ld Ls := by
    refine h3.keep ?_ (same_tups s12)
    obtain ⟨xs, e, _⟩ := h3
    rw [s12 _ _ e, e]
  exact ⟨ld, p4, L, Ls, rfl, rfl, ⟨ys, upd_same, turns_keep (same_tups s12) hys⟩, nd2, h4, fun H' Ls' e9 nd9 hm hl => q L H' Ls' hperm (fun b o e n => by rw [e9 b n]; exact s12 _ _ e) nd9 hm hl⟩
/-- the ways stand, locked -/
structure Lk (P : Program) (w : World) (H2 : Hp) (wd : Addr) (od : Obj) (xw : List (NestedKey × Addr × Value)) (Ks : List (List Trn)) (H : Hp) : Prop where
  same : Same H2 H
  at_ : H wd = some (.frz od (NDO P w wd xw))
  nde : NDE H wd xw Ks
theorem Lk.next {H2 H H' : Hp} {wd ld : Addr} {od : Obj} {xw : List (NestedKey × Addr × Value)} {Ks Ls : List (List Trn)} (l : Lk P w H2 wd od xw Ks H) (f : FrL ld H H') (n : ND P w H ld Ls) (n2 : H2 ld = none) (ne : wd ≠ ld) : Lk P w H2 wd od xw Ks H' :=
  ⟨fun b o e => f _ _ (l.same _ _ e) (ne_of_none e n2), f _ _ l.at_ ne, l.nde.keep (f.tup n)⟩
theorem Lk.same' {H2 H H' : Hp} {wd : Addr} {od : Obj} {xw : List (NestedKey × Addr × Value)} {Ks : List (List Trn)} (l : Lk P w H2 wd od xw Ks H) (s : Same H H') : Lk P w H2 wd od xw Ks H' :=
  ⟨l.same.trans s, s _ _ l.at_, l.nde.keep (same_tups s)⟩
theorem ND.same {H H' : Hp} {e : Addr} {Ks : List (List Trn)} (h : ND P w H e Ks) (s : Same H H') : ND P w H' e Ks := by
  obtain ⟨xs, h1, h2⟩ := h
  exact ⟨xs, s _ _ h1, h2.keep (same_tups s)⟩
theorem use_drop' {H : Hp} {a : Addr} {xs : List V} {k : Nat} {i : Int} {Q : VK} (hi : i = (k : Int)) (ha : SqT K H a xs) (q : ∀ (p : Addr) (H' : Hp), Same H H' → SqT K H' p (xs.drop k) → Q (.ref p) H') : rSlA K (.ref a) (some i) none H Q := by
  rw [hi]
  exact use_drop ha q
theorem use_dropN {H : Hp} {σ : L2.St} {a : Addr} {xs : List V} {k : Nat} {i : Int} {Q : VK} (hi : i = (k : Int)) (ha : SqT K H a xs) (q : ∀ (p : Addr) (H' : Hp), Same H H' → SqT K H' p (xs.drop k) → Q (.ref p) H') : tNoPart σ H fun u H3 => rSlA K (.ref a) (some i) u H3 Q := use_drop' hi ha q
theorem size8 {n i : Nat} (h : n ≤ 8 * 8 ^ i + 8) (hi : i ≤ 6) : n < sizeLine := by
  rw [PySem.sizeLine_eq]
  have : 8 ^ i ≤ 8 ^ 6 := Nat.pow_le_pow_right (by decide) hi
  have e : 8 ^ 6 = 262144 := by decide
  omega
theorem ok_least (T : Txt K mg cL) (TB : LamX.TabB base mg cL PT) : FnOk P w K mg base CX0 2 T.least.f T.least.fd ["town", "walks", "turns"] (spLeast PT) := by
  refine T.least.ok scLeast (fun vs H Q E h => ?_) (fun A0 outer s H vs Q E hr h => ?_)
  · obtain ⟨a, b, c, gs, d, ts, rfl, _⟩ := h
    rfl
  · obtain ⟨a, b, c, gs, d, ts, rfl, ht, okg, hw, okd, ⟨xs, hc, hx⟩, h7, okt, tabs, q⟩ := h
    have dF := ok_lfollow (P := P) (w := w) (base := base) T
    have nd := scLeast.nd
    have hu := hr.units
    refine ⟨_, pss_cons (ps_set (i := 3) nd rfl (.inl rfl) (pe_sortKey (T := [(PT, lamN)]) hr (pv 2) (by rfl) T.sorted TB rfl (tab_in PT) (tab_un PT) (by rfl) rfl rfl rfl rfl (by decide) (fun _ _ _ _ _ => rfl)))
      (pss_cons (ps_set (i := 4) nd rfl (.inl rfl) (pe_nd1 hu))
      (pss_cons (ps_for PassesOwn.never rfl (pi_list (pv 3)) (pg_name (i := 5) nd rfl (.inl rfl))
        (pss_cons (ps_set (i := 6) nd rfl (.inl rfl) pe_ndnew)
        (pss_cons (ps_lock (ps_for PassesOwn.never rfl (pi_N (pv 4)) (pg_name (i := 7) nd rfl (.inl rfl))
          (pss_cons (ps_asg pe_bl (pg_sub (pv 6) (pe_callTy call_tuple_of (by rfl) T.tuple (by decide +kernel) (pa_cons (pe_callB (cr_sortedT hu) (by rfl) T.sorted (by decide +kernel) (pa_cons (pe_op op_catA (pv 7) (pe_tup (pa_cons (pv 5) pa_nil))) pa_nil)) pa_nil)) (set_nd hu)))
          (pss_one (ps_for PassesOwn.never rfl (pi_enumT (by rfl) T.enum (pa_cons (pv 7) pa_nil)) (pg_tup rfl (pgs_cons (pg_name (i := 8) nd rfl (.inl rfl)) (pgs_cons (pg_name (i := 9) nd rfl (.inl rfl)) pgs_nil)))
            (pss_one (ps_if (pt_val (pe_call dF hr (by rfl) T.follows.g T.follows.F.kp T.follows.b .nil pass0 (pa_cons (pv 0) (pa_cons (pv 1) (pa_cons (pv 9) (pa_cons (pv 5) pa_nil))))))
              (pss_one (ps_asg pe_bl (pg_sub (pv 6) (pe_callTy call_tuple_of (by rfl) T.tuple (by decide +kernel) (pa_cons (pe_callB (cr_sortedT hu) (by rfl) T.sorted (by decide +kernel) (pa_cons
                (pe_op op_catA (pe_op op_catA (pe_slice sl_tupA (pv 7) po_none (po_some (pv 8))) (pe_slice sl_tupA (pv 7) (po_some (pe_op op_add (pv 8) pe_int)) po_none)) (pe_tup (pa_cons (pv 5) pa_nil))) pa_nil)) pa_nil)) (set_nd hu)))) pss_nil)))))))
        (pss_one (ps_set (i := 4) nd rfl (.inl rfl) (pv 6))))))
      (pss_one (ps_ret (pe_callB (cr_min rfl) (by rfl) T.min (by decide +kernel) (pa_cons (pe_lock (pe_lc (own := [("lasts", 7)]) (g := gName 7) (te := tCB (fun xs H Q => ∃ p ys, xs = [.ref p] ∧ (SqL K H p ys ∨ SqT K H p ys) ∧ Q (.int ys.length) H) (tCons (tVar 7) tNil)) rfl nd (pi_N (pv 4)) (blkOk_by (N := ["town", "walks", "turns", "order", "ways", "turn", "later", "lasts", "k", "last"]) (sc := defScope (topS 38)) (by decide +kernel))
        (fun _ _ _ _ _ => pg_name (i := 7) nd rfl (Or.inl rfl)) (fun _ _ _ _ _ => pts_nil) (fun _ _ _ _ _ => pe_callB call_len_seq (by rfl) T.len PySem.boot_len (pa_cons (pv 7) pa_nil)))) pa_nil)))))), ?_⟩
    have hlx := paired_len hx
    refine ⟨_, rfl, c, xs, ts, rfl, .inl (.inl hc), hx, tabs, fun H1 order po eN tb hpm hup npo => ?_⟩
    have od : Ord ts order := ⟨hpm, hup⟩
    have s2 : Same H1 (upd H1 po (.lst (order.map fun i => xs.getD i .non))) := same_upd npo
    have epo : upd H1 po (.lst (order.map fun i => xs.getD i .non)) po = some (.lst (order.map fun i => xs.getD i .non)) := upd_same
    generalize upd H1 po (.lst (order.map fun i => xs.getD i .non)) = H2 at s2 epo
    have kt2 : ∀ a xs, H a = some (.tup xs) → H2 a = some (.tup xs) := fun a xs e => s2 _ _ (keep_tups eN a xs e)
    have hol : order.length = ts.length := by rw [hpm.length_eq, List.length_range]
    intro wd0 H3 nwd0 s3 nd3
    refine ⟨_, rfl, po, rfl, ⟨_, .inl (.inl (s3 _ _ epo))⟩, for_it (walk_list (xs := order.map fun i => xs.getD i .non)) (fun i σ H4 => ∃ x5 x6 x7 x8 x9 wd Ks, σ = [some (.ref a), some (.ref b), some (.ref c), some (.ref po), some (.ref wd), x5, x6, x7, x8, x9] ∧ Same H2 H4 ∧ H2 wd = none ∧ ND P w H4 wd Ks ∧ Ways gs d ts (order.take i) Ks)
      ⟨none, none, none, none, none, wd0, [[]], rfl, s3, nwd0, nd3, Ways.start gs d ts⟩ (fun i σ H4 _ ⟨_, _, _, _, _, _, _, _, s, _⟩ => .inl (.inl (s _ _ epo))) ?_ ?_⟩
    · rintro i x σ H4' H4 hi ⟨x5, x6, x7, x8, x9, wd, Ks, rfl, s4, nwd, nd4, wy⟩ ⟨rfl, hxi⟩
      rw [List.length_map] at hi
      rw [List.getElem?_map] at hxi
      have ej : order[i]? = some order[i] := List.getElem?_eq_getElem hi
      generalize order[i] = j at ej
      rw [ej] at hxi
      have hjn : j < ts.length := od.lt (List.mem_of_getElem? ej)
      have exj : xs[j]? = some x := by
        have hj2 : j < xs.length := by omega
        have : xs.getD j .non = x := Option.some.inj hxi
        rw [List.getD_eq_getElem?_getD, List.getElem?_eq_getElem hj2] at this
        rw [List.getElem?_eq_getElem hj2]
        exact congrArg some this
      obtain ⟨t, et, rj, rfl, hrj⟩ := paired_at hx exj
      have ett : tr ts j = t := tr_of et
      have hrj2 := kt2 _ _ hrj
      have i6 : i ≤ 6 := by omega
      have htl : (order.take i).length = i := by rw [List.length_take]; omega
      have wfew := wy.few
      rw [htl] at wfew
      -- later = {}
      intro ld H5 nld e5 nd5
      have s5 : Same H4 H5 := fun b o e => by rw [e5 b (ne_of_none e nld)]; exact e
      have nwl : wd ≠ ld := nd4.ne nld
      have nld2 : H2 ld = none := s4.free nld
      obtain ⟨xw, hwd4, nde4⟩ := nd4
      have hKl := nde4.len
      refine ⟨wd, _, s5 _ _ hwd4, trivial, fun ob => ?_⟩
      have lk6 : Lk P w H2 wd ob xw Ks (upd H5 wd (.frz ob (NDO P w wd xw))) := by
        refine ⟨fun b o e => ?_, upd_same, nde4.keep fun a ys e => ?_⟩
        · rw [upd_ne (ne_of_none e nwd)]
          exact s5 _ _ (s4 _ _ e)
        · rw [upd_ne (fun z => by rw [z, hwd4] at e; exact ndo_tup (Option.some.inj e))]
          exact s5 _ _ e
      have nd6 : ND P w (upd H5 wd (.frz ob (NDO P w wd xw))) ld [] := nd5.keep (upd_ne (Ne.symm nwl)) fun a ys e => by
        rw [upd_ne (fun z => by rw [z, s5 _ _ hwd4] at e; exact ndo_tup (Option.some.inj e))]
        exact e
      generalize upd H5 wd (.frz ob (NDO P w wd xw)) = H6 at lk6 nd6
      refine ⟨_, rfl, wd, ob, xw, rfl, lk6.at_, nde4.sys, for_it walk_N (fun k σ H7 => ∃ x7 x8 x9 Ls, σ = [some (.ref a), some (.ref b), some (.ref c), some (.ref po), some (.ref wd), some (.ref rj), some (.ref ld), x7, x8, x9] ∧ Lk P w H2 wd ob xw Ks H7 ∧ ND P w H7 ld Ls ∧ Later gs d ts (order.take i) j Ks k Ls)
        ⟨_, _, _, [], rfl, lk6, nd6, Later.start⟩ (fun k σ H7 _ ⟨_, _, _, _, _, l, _⟩ => ⟨l.at_, nde4.sys⟩) ?_ ?_⟩
      · rintro k x σ H7' H7 hk ⟨x7', x8', x9', Ls, rfl, lk7, nd7, la⟩ ⟨rfl, en, een, rfl⟩
        have hkK : k < Ks.length := by omega
        have eK : Ks[k]? = some Ks[k] := List.getElem?_eq_getElem hkK
        generalize Ks[k] = KK at eK
        obtain ⟨en', een', ks, hka, hks⟩ := lk7.nde.at_ k KK eK
        rw [een] at een'
        cases een'
        have hsnd := wy.snd KK (List.mem_of_getElem? eK)
        have hKlen : KK.length ≤ 6 := by
          have := hsnd.len
          rw [htl] at this
          omega
        have hkl := paired_len hks
        have lfew := la.few
        have hLs : Ls.length + 8 ≤ 8 * 8 ^ i := by
          have : 8 * (k + 1) ≤ 8 * Ks.length := Nat.mul_le_mul_left 8 hkK
          have : 8 * Ks.length ≤ 8 * 8 ^ i := Nat.mul_le_mul_left 8 wfew
          omega
        have hS7 : SqT K H7 en.2.1 ks := .inl (.inl hka)
        refine ⟨_, rfl, _, rfl, _, rfl, line8 (by show 1 ≤ 1000; decide), fun t1 nt1 => ?_⟩
        have st1 : Same H7 (upd H7 t1 (.tup [.ref rj])) := same_upd nt1
        refine use_catA (xs := ks) (ys := [.ref rj]) (same_seqT st1 hS7) (.inl (.inl upd_same)) (by rw [hkl, List.length_singleton]; omega) fun p2 H8 s8 q8 => ?_
        have s78 := st1.trans s8
        have trj : TurnAt H8 (.ref rj) (tr ts j) := ⟨rj, rfl, by rw [ett]; exact s78 _ _ (lk7.same _ _ hrj2)⟩
        refine use_put (Ls := Ls) q8 (paired_snocT (turns_keep (same_tups s78) hks) trj) (nd7.same s78) (size8 (i := i) (by omega) i6) fun L0 H9 Ls9 hp9 f9 nd9 hm9 hl9 => ?_
        have lk8 := lk7.same' s78
        have lk9 := lk8.next f9 (nd7.same s78) nld2 nwl
        have k79 : ∀ a ys, H7 a = some (.tup ys) → H9 a = some (.tup ys) := fun a ys e => f9.tup (nd7.same s78) _ _ (s78 _ _ e)
        have wi9 : Within gs d ts j Ls KK 0 Ls9 := Within.start hp9 hm9 hl9
        have hka9 := k79 _ _ hka
        refine ⟨_, rfl, en.2.1, ks, rfl, .inl (.inl hka9), for_it walk_enumT (fun k2 σ H10 => ∃ x8 x9 Ls2, σ = [some (.ref a), some (.ref b), some (.ref c), some (.ref po), some (.ref wd), some (.ref rj), some (.ref ld), some (.ref en.2.1), x8, x9] ∧ Lk P w H2 wd ob xw Ks H10 ∧ ND P w H10 ld Ls2 ∧ H10 en.2.1 = some (.tup ks) ∧ TurnsAre H10 ks KK ∧ Within gs d ts j Ls KK k2 Ls2)
          ⟨_, _, Ls9, rfl, lk9, nd9, hka9, turns_keep k79 hks, wi9⟩ (fun k2 σ H10 _ ⟨_, _, _, _, _, _, e, _⟩ => .inl (.inl e)) ?_ ?_⟩
        · rintro k2 y σ H10 H11 hk2 ⟨x8'', x9'', Ls2, rfl, lk10, nd10, hka10, hks10, wi10⟩ yy
          obtain ⟨tu, v1, v2, rfl, ntu, rfl, g1, g2⟩ := yy
          cases g1
          obtain ⟨u, eu, ru, rfl, hru⟩ := paired_at hks10 g2
          have s11 : Same H10 (upd H10 tu (.tup [.int (k2 : Nat), .ref ru])) := same_upd ntu
          refine ⟨tu, [.int (k2 : Nat), .ref ru], rfl, .inl (.inl upd_same), rfl, _, _, rfl, _, _, rfl, rfl, ?_⟩
          generalize upd H10 tu (.tup [.int (k2 : Nat), .ref ru]) = H11 at s11
          have lk11 := lk10.same' s11
          have kt11 : ∀ a ys, H a = some (.tup ys) → H11 a = some (.tup ys) := fun a ys e => lk11.same _ _ (kt2 _ _ e)
          obtain ⟨ua, hua, eua⟩ := hsnd.mem (List.mem_of_getElem? eu)
          have hun : u.n ∈ gs.map Gate.n := by
            rw [eua]
            exact (okt _ (tr_mem (od.lt (List.take_subset _ _ hua)))).name
          have htn : t.n ∈ gs.map Gate.n := (okt t (List.mem_of_getElem? et)).name
          refine ⟨_, rfl, _, rfl, _, rfl, _, rfl, a, b, _, _, gs, d, u, t, rfl, ht.keep kt11, okg.hi, hw.keep kt11, ⟨ru, rfl, s11 _ _ hru⟩, ⟨rj, rfl, lk11.same _ _ hrj2⟩, hun, htn, fun H12 s12 => ⟨_, rfl, ?_⟩⟩
          have s1012 := s11.trans s12
          have lk12 := lk11.same' s12
          have nd12 := nd10.same s1012
          have hks12 := turns_keep (same_tups s1012) hks10
          have hka12 := s1012 _ _ hka10
          by_cases hf : Fl gs d u t
          · rw [decide_eq_true hf]
            refine iteT ?_
            have hS12 : SqT K H12 en.2.1 ks := .inl (.inl hka12)
            refine ⟨_, rfl, _, rfl, _, rfl, _, rfl, use_take (k := k2) hS12 fun pa Ha sa qa => ?_⟩
            refine ⟨_, rfl, _, rfl, _, _, rfl, rfl, _, rfl, use_dropN (k := k2 + 1) (show ((k2 : Nat) : Int) + 1 = ((k2 + 1 : Nat) : Int) from rfl) (same_seqT sa hS12) fun pb Hb sb qb => ?_⟩
            refine use_catA (same_seqT sb qa) qb (by rw [List.length_take, List.length_drop]; omega) fun pc Hc sc qc => ?_
            refine ⟨_, rfl, line8 (by show 1 ≤ 1000; decide), fun t2 nt2 => ?_⟩
            have st2 : Same Hc (upd Hc t2 (.tup [.ref rj])) := same_upd nt2
            rw [take_drop_erase] at qc
            have hel : (ks.eraseIdx k2).length ≤ ks.length := by rw [List.length_eraseIdx]; split <;> omega
            refine use_catA (ys := [.ref rj]) (same_seqT st2 qc) (.inl (.inl upd_same)) (by rw [List.length_singleton]; omega) fun pd Hd sd qd => ?_
            have sad := sa.trans (sb.trans (sc.trans (st2.trans sd)))
            have trj2 : TurnAt Hd (.ref rj) (tr ts j) := ⟨rj, rfl, by rw [ett]; exact sad _ _ (lk12.same _ _ hrj2)⟩
            have wf := wi10.few
            refine use_put (Ls := Ls2) qd (paired_snocT (turns_keep (same_tups sad) (paired_erase hks12 k2)) trj2) (nd12.same sad) (size8 (i := i) (by omega) i6) fun L1 H13 Ls3 hp13 f13 nd13 hm13 hl13 => ?_
            have ndd := nd12.same sad
            exact ⟨_, _, Ls3, rfl, (lk12.same' sad).next f13 ndd nld2 nwl, nd13, f13.tup ndd _ _ (sad _ _ hka12), turns_keep (f13.tup ndd) (turns_keep (same_tups sad) hks12), wi10.put eu (by rw [ett]; exact hf) hp13 hm13 hl13⟩
          · rw [decide_eq_false hf]
            exact iteF ⟨_, _, Ls2, rfl, lk12, nd12, hka12, hks12, wi10.skip eu (by rw [ett]; exact hf)⟩
        · rintro σ H10 ⟨x8'', x9'', Ls2, rfl, lk10, nd10, hka10, hks10, wi10⟩
          rw [hkl] at wi10
          exact ⟨_, _, _, Ls2, rfl, lk10, nd10, la.step okd okt od ej wy eK (by omega) wi10⟩
      · rintro σ H7 ⟨x7', x8', x9', Ls, rfl, lk7, nd7, la⟩
        rw [hKl] at la
        refine ⟨lk7.at_, _, rfl, _, _, _, _, _, ld, Ls, rfl, fun b o e => ?_, nld2, nd7.keep (upd_ne (Ne.symm nwl)) fun a ys e => ?_, ?_⟩
        · rw [upd_ne (ne_of_none e nwd)]
          exact lk7.same _ _ e
        · rw [upd_ne (fun z => by rw [z, lk7.at_] at e; cases e)]
          exact e
        · rw [List.take_add_one, ej]
          exact la.done wy
    · rintro σ H4 ⟨x5, x6, x7, x8, x9, wd, Ks, rfl, s4, nwd, ⟨xw, hwd4, nde4⟩, wy⟩
      rw [List.length_map, List.take_length] at wy
      have hKl := nde4.len
      have hol7 : order.length ≤ 7 := by omega
      have k4 : ∀ a ys, H a = some (.tup ys) → H4 a = some (.tup ys) := fun a ys e => s4 _ _ (kt2 _ _ e)
      refine ⟨wd, _, hwd4, trivial, fun ob => ?_⟩
      have kl : ∀ a ys, H4 a = some (.tup ys) → upd H4 wd (.frz ob (NDO P w wd xw)) a = some (.tup ys) := fun a ys e => by
        rw [upd_ne (fun z => by rw [z, hwd4] at e; exact ndo_tup (Option.some.inj e))]
        exact e
      refine ⟨_, rfl, wd, ob, xw, rfl, upd_same, nde4.sys, fun D hD => lc_kp walk_N hD (fun i => (Ks[i]?).map fun L => V.int (L.length : Nat)) (fun H5 s => ⟨s _ _ upd_same, nde4.sys⟩) (fun i x H5 H6 hi p y => ?_) fun H5 p => ?_⟩
      · obtain ⟨rfl, en, een, rfl⟩ := y
        have hkK : i < Ks.length := by omega
        have eK : Ks[i]? = some Ks[i] := List.getElem?_eq_getElem hkK
        generalize Ks[i] = KK at eK
        obtain ⟨en', een', ks, hka, hks⟩ := nde4.at_ i KK eK
        rw [een] at een'
        cases een'
        have hkl := paired_len hks
        refine ⟨rfl, _, rfl, en.2.1, ks, rfl, .inr (.inl (.inl (p.same _ _ (kl _ _ hka)))), ?_⟩
        have fw := wy.few
        have : 8 ^ order.length ≤ 8 ^ 7 := Nat.pow_le_pow_right (by decide) hol7
        have e87 : 8 ^ 7 = 2097152 := by decide
        have hyi : (fun i => (Ks[i]?).map fun L => V.int (L.length : Nat)) i = some (V.int (ks.length : Nat)) := by
          show (Ks[i]?).map _ = _
          rw [eK, hkl]
          rfl
        refine ⟨_, p.at_, ?_, ?_⟩
        · rw [PySem.sizeLine_eq]
          have := fm_len (f := fun i => (Ks[i]?).map fun L => V.int (L.length : Nat)) i
          omega
        · refine ⟨fun b o q => ?_, ?_⟩
          · rw [upd_ne (ne_of_none q hD)]
            exact p.same _ _ q
          · rw [upd_same, fm_succ, show (Ks[i]?).map (fun L => V.int (L.length : Nat)) = some (V.int (ks.length : Nat)) from hyi]
            rfl
      · have h2 := p.at_
        rw [hKl, fm_list] at h2
        have nDw : D ≠ wd := fun z => by rw [z, upd_same] at hD; cases hD
        refine ⟨p.same _ _ upd_same, ?_⟩
        have sF : Same H2 (upd H5 wd (NDO P w wd xw)) := fun b o e => by
          rw [upd_ne (ne_of_none e nwd)]
          have e4 := s4 _ _ e
          refine p.same _ _ ?_
          rw [upd_ne (ne_of_none e nwd)]
          exact e4
        have eF : upd H5 wd (NDO P w wd xw) D = some (.lst ((Ks.map fun L => ((L.length : Nat) : Int)).map V.int)) := by
          rw [upd_ne nDw, h2, List.map_map]
          rfl
        have hne : 0 < Ks.length := by
          obtain ⟨L, hL, _⟩ := wy.cmp _ (Part.ones ts.length)
          exact List.length_pos_of_mem hL
        refine ⟨D, Ks.map fun L => ((L.length : Nat) : Int), rfl, .inl (.inl eF), by rw [List.length_map]; exact hne, fun m hm1 hm2 => ?_⟩
        obtain ⟨L, hL, rfl⟩ := List.mem_map.mp hm1
        have sF1 := s2.trans sF
        refine q L.length _ (eN.trans (LamX.ExtN.of sF1)) (tb.ext sF1) ((wy.snd L hL).part od.perm) fun rows pp => ?_
        obtain ⟨M, hM, c⟩ := wy.cmp rows pp
        have h1 := c.end_ pp od.perm
        have h3 := hm2 _ (List.mem_map.mpr ⟨M, hM, rfl⟩)
        omega
end
end LT
end
section
set_option Elab.async false
set_option linter.all false
set_option maxRecDepth 100000
set_option maxHeartbeats 4000000
/-! law -/
namespace LT
open PySem PySem.Spec PyProof.Rows L2
theorem Fr.tabs {T : List (Addr × Str)} {g : Addr} {H H' : Hp} {N : Nat} (f : Fr g H H') (b : BagAt H g N) (t : LamX.Tabs T H) : LamX.Tabs T H' := fun p hp => by
  obtain ⟨ps, h1, h2, h3⟩ := t p hp
  obtain ⟨c0, c1, c2, e, _⟩ := b
  refine ⟨ps, f _ _ h1 fun z => (by rw [z, e] at h1; cases h1), h2, fun pos cv hc => ?_⟩
  obtain ⟨c, e1, e2⟩ := h3 pos cv hc
  refine ⟨c, e1, f _ _ e2 fun z => ?_⟩
  rw [z, e] at e2
  unfold LamX.CodeO at e2
  cases e2
theorem extN_lst {H H' : Hp} {a : Addr} {xs : List V} (e : LamX.ExtN H H') (h : H a = some (.lst xs)) : H' a = some (.lst xs) := e _ _ h fun ps z => nomatch z
theorem BagAt.extN {H H' : Hp} {g : Addr} {N : Nat} (b : BagAt H g N) (e : LamX.ExtN H H') : BagAt H' g N := by
  obtain ⟨c0, c1, c2, a, b⟩ := b
  exact ⟨c0, c1, c2, extN_lst e a, b⟩
theorem RowsAt.extN {H H' : Hp} {rr : Addr} {rows : List (List Nat)} (h : RowsAt H rr rows) (s : LamX.ExtN H H') : RowsAt H' rr rows := by
  obtain ⟨as, e, p⟩ := h
  exact ⟨as, extN_lst s e, Paired.mapP p fun _ _ q => extN_lst s q⟩
theorem TurnsAt.to {H H' : Hp} {c : Addr} {ts : List Trn} (h : TurnsAt H c ts) (e : ∀ xs, H c = some (.lst xs) → H' c = some (.lst xs)) (k : ∀ a xs, H a = some (.tup xs) → H' a = some (.tup xs)) : TurnsAt H' c ts := by
  obtain ⟨xs, h1, h2⟩ := h
  exact ⟨xs, e _ h1, turns_keep k h2⟩
theorem RowsAt.len {H : Hp} {rr : Addr} {rows : List (List Nat)} (h : RowsAt H rr rows) : ∃ vs : List V, H rr = some (.lst vs) ∧ vs.length = rows.length := by
  obtain ⟨as, e, p⟩ := h
  exact ⟨_, e, by rw [List.length_map, paired_len p]⟩
/-- a bit more for each walk -/
def lgr (d : Nat → Nat → Int) (i j : Nat) : Int := d i j + (if j = i then 0 else 9)
theorem lgr_ok {n : Nat} {d : Nat → Nat → Int} (h : WalksOk n d) (h6 : ∀ i j, d i j ≤ 600) : WalksOk n (lgr d) := by
  refine ⟨fun i j a b => ?_, fun i j a b => ?_, fun i j a b => ?_, fun i a => ?_, fun i j k a b c => ?_⟩
  · have := h.lo i j a b
    unfold lgr
    split <;> omega
  · have := h6 i j
    unfold lgr
    split <;> omega
  · have := h.sym i j a b
    unfold lgr
    by_cases e : j = i
    · rw [if_pos e, if_pos e.symm]
      omega
    · rw [if_neg e, if_neg (Ne.symm e)]
      omega
  · have := h.zero i a
    unfold lgr
    rw [if_pos rfl]
    omega
  · have := h.tri i j k a b c
    unfold lgr
    by_cases e : j = i
    · rw [if_pos e]
      split <;> split <;> omega
    · rw [if_neg e]
      by_cases e2 : k = i
      · rw [if_pos e2, if_neg (fun z => e (z.trans e2))]
        omega
      · rw [if_neg e2]
        split <;> omega
theorem lgr_le {d : Nat → Nat → Int} (i j : Nat) : d i j ≤ lgr d i j := by
  unfold lgr
  split <;> omega
theorem cut6 (xs : List V) : cutV xs none (some 6) = xs.take 6 := by
  have e : cutV xs none (some ((6 : Nat) : Int)) = xs.take 6 := by
    unfold cutV
    rw [HT.sIx_none, HT.sIx_nat, List.drop_zero, Nat.sub_zero]
    by_cases h : 6 ≤ xs.length
    · rw [Nat.min_eq_left h]
    · rw [Nat.min_eq_right (by omega), List.take_of_length_le (Nat.le_refl _), List.take_of_length_le (by omega)]
  exact e
theorem tr_map (ts : List Trn) : (List.range ts.length).map (tr ts) = ts := by
  refine List.ext_getElem (by rw [List.length_map, List.length_range]) fun i h1 h2 => ?_
  rw [List.getElem_map, List.getElem_range]
  exact tr_of (List.getElem?_eq_getElem h2)
theorem int_items {ns : List Int} {i : Nat} {x : V} (h : ((ns.map V.int).take 6 ++ [V.int 0])[i]? = some x) : ∃ z : Int, x = .int z := by
  have := List.mem_of_getElem? h
  rcases List.mem_append.mp this with m | m
  · obtain ⟨z, _, e⟩ := List.mem_map.mp (List.mem_of_mem_take m)
    exact ⟨z, e.symm⟩
  · exact ⟨0, List.mem_singleton.mp m⟩
section
variable {P : Program} {w : World} {K : PySem.W.Frag} {mg : Str → Option Value} {base : Heap} {cL PT : Addr}
def spLaw (K : PySem.W.Frag) (PT : Addr) : Sp := fun vs H Q _ => ∃ (a : Addr) (ns : List Int), vs = [.ref a] ∧ SqL K H a (ns.map V.int) ∧ LamX.Tabs [(PT, lamN)] H ∧ ∀ H', Q (.bl true) H'
theorem scLaw : FnScope ["script", "cell", "bag", "town", "walks", "turns", "rows", "many", "kept", "longer", "k", "row", "j", "one"] ["script"] (defScope (topS 40)) := ⟨rfl, rfl, rfl, by decide +kernel, rfl, by decide +kernel, by decide +kernel⟩
theorem ok_law {f : Addr} {fd : FuncData} (F : Fun K "law" "law" (topS 40) f fd) (T : Txt K mg cL) (TB : LamX.TabB base mg cL PT) : FnOk P w K mg base CX0 46 f fd ["script"] (spLaw K PT) := by
  refine F.ok scLaw (fun vs H Q E h => ?_) (fun cdv A0 outer s H vs Q E hr h => ?_)
  · obtain ⟨a, ns, rfl, _⟩ := h
    rfl
  · obtain ⟨a, ns, rfl, hS, tabs, q⟩ := h
    have dW := ok_well (P := P) (w := w) (base := base) T
    have dT := ok_take (P := P) (w := w) (base := base) T
    have dTo := ok_town2 (P := P) (w := w) (base := base) T
    have dWa := ok_walks2 (P := P) (w := w) (base := base) T
    have dTu := ok_turns2 (P := P) (w := w) (base := base) T
    have dFw := ok_fewest (P := P) (w := w) (base := base) T
    have dLe := ok_least (P := P) (w := w) (base := base) T TB
    have dHo := ok_hold (P := P) (w := w) (base := base) T
    have dKe := ok_kept (P := P) (w := w) (base := base) T
    have nd := scLaw.nd
    refine ⟨_, pss_cons (ps_for PassesOwn.never rfl (pi_list (pe_op op_cat (pe_slice sl_list (pv 0) po_none (po_some pe_int)) (pe_lst (pa_cons pe_int pa_nil)))) (pg_name (i := 1) nd rfl (.inl rfl))
        (pss_cons (ps_set (i := 2) nd rfl (.inl rfl) (pe_call dW (hr.mono (by decide)) (by rfl) T.well.g T.well.F.kp T.well.b .nil pass0 (pa_cons (pv 1) (pa_cons pe_int pa_nil))))
        (pss_cons (ps_set (i := 3) nd rfl (.inl rfl) (pe_call dTo (hr.mono (by decide)) (by rfl) T.town.g T.town.F.kp T.town.b .nil pass0 (pa_cons (pv 2) (pa_cons pe_int pa_nil))))
        (pss_cons (ps_set (i := 4) nd rfl (.inl rfl) (pe_call dWa (hr.mono (by decide)) (by rfl) T.walks.g T.walks.F.kp T.walks.b .nil pass0 (pa_cons (pv 2) (pa_cons (pv 3) pa_nil))))
        (pss_cons (ps_set (i := 5) nd rfl (.inl rfl) (pe_call dTu (hr.mono (by decide)) (by rfl) T.turns.g T.turns.F.kp T.turns.b .nil pass0 (pa_cons (pv 2) (pa_cons (pv 3) (pa_cons pe_int (pa_cons (pe_ix ix_list (pe_lst (pa_cons pe_int (pa_cons pe_int pa_nil))) (pe_call dT (hr.mono (by decide)) (by rfl) T.take.g T.take.F.kp T.take.b .nil pass0 (pa_cons (pv 2) (pa_cons pe_int pa_nil))) (fun _ _ => rfl)) pa_nil))))))
        (pss_cons (ps_set (i := 6) nd rfl (.inl rfl) (pe_ix ix_tup (pe_call dFw hr (by rfl) T.fewest.g T.fewest.F.kp T.fewest.b .nil pass0 (pa_cons (pv 3) (pa_cons (pv 4) (pa_cons (pv 5) pa_nil)))) pe_int (fun _ _ => rfl)))
        (pss_cons (ps_if (PW.pt (pw_or (pt_cmpR op_ne (pe_callB call_len_seq (by rfl) T.len PySem.boot_len (pa_cons (pv 6) pa_nil)) (pe_call dLe (hr.mono (by decide)) (by rfl) T.least.g T.least.kp T.least.b .nil pass0 (pa_cons (pv 3) (pa_cons (pv 4) (pa_cons (pv 5) pa_nil)))) (nomark _))
            (pw_or1 (pt_not (pt_val (pe_call dHo (hr.mono (by decide)) (by rfl) T.rows_hold.g T.rows_hold.F.kp T.rows_hold.b .nil pass0 (pa_cons (pv 3) (pa_cons (pv 4) (pa_cons (pv 5) (pa_cons (pv 6) pa_nil)))))))))) (pss_one (ps_ret pe_bl)) pss_nil)
        (pss_cons (ps_set (i := 7) nd rfl (.inl rfl) (pe_op op_add pe_int (pe_call dT (hr.mono (by decide)) (by rfl) T.take.g T.take.F.kp T.take.b .nil pass0 (pa_cons (pv 2) (pa_cons pe_int pa_nil)))))
        (pss_cons (ps_set (i := 8) nd rfl (.inl rfl) (pe_call dKe (hr.mono (by decide)) (by rfl) T.kept.g T.kept.F.kp T.kept.b .nil pass0 (pa_cons (pv 2) (pa_cons (pv 3) (pa_cons (pv 4) (pa_cons (pv 7) pa_nil))))))
        (pss_cons (ps_if (pt_cmpR op_gt (pe_callB call_len_seq (by rfl) T.len PySem.boot_len (pa_cons (pe_ix ix_tup (pe_call dFw hr (by rfl) T.fewest.g T.fewest.F.kp T.fewest.b .nil pass0 (pa_cons (pv 3) (pa_cons (pv 4) (pa_cons (pv 8) pa_nil)))) pe_int (fun _ _ => rfl)) pa_nil)) (pv 7) (nomark _)) (pss_one (ps_ret pe_bl)) pss_nil)
        (pss_cons (ps_set (i := 9) nd rfl (.inl rfl) (pe_lst pa_nil))
        (pss_cons (ps_for PassesOwn.never rfl (pi_enumT (by rfl) T.enum (pa_cons (pv 4) pa_nil)) (pg_tup rfl (pgs_cons (pg_name (i := 10) nd rfl (.inr rfl)) (pgs_cons (pg_name (i := 11) nd rfl (.inl rfl)) pgs_nil)))
          (pss_one (ps_expr (pe_bm PySem.F.plainAttrs_list PySem.F.slot_list_append PySem.F.type_list_append mt_append (pv 9) (pa_cons (pe_callTy call_tuple_of (by rfl) T.tuple (by decide +kernel) (pa_cons
            (pe_lc (own := [("j", 12), ("one", 13)]) (g := g2 K 12 13) (te := tOp (rI0 fun i j => .int (i + j)) (tVar 13) (tOp (rI CMul fun i j => .int (i * j)) (tCB (fun xs H Q => (∃ i, xs = [.int i] ∧ Q (.int i) H) ∨ ∃ k, xs = [.bl k] ∧ Q (.int (if k then 1 else 0)) H) (tCons (tOp rNe (tVar 12) (tVar 10)) tNil)) (tC (.int 9)))) rfl nd (pi_enumT (by rfl) T.enum (pa_cons (pv 11) pa_nil)) (blkOk_by (N := ["script", "cell", "bag", "town", "walks", "turns", "rows", "many", "kept", "longer", "k", "row", "j", "one"]) (sc := defScope (topS 40)) (by decide +kernel))
              (fun _ _ _ _ _ => pg_tup rfl (pgs_cons (pg_name (i := 12) nd rfl (Or.inl rfl)) (pgs_cons (pg_name (i := 13) nd rfl (Or.inl rfl)) pgs_nil))) (fun _ _ _ _ _ => pts_nil)
              (fun _ _ _ _ _ => pe_op op_add (pv 13) (pe_op op_mul (pe_callTy call_int1 (by rfl) T.int (by decide +kernel) (pa_cons (pe_cmpR op_ne (pv 12) (pv 10) (nomark _)) pa_nil)) pe_int))) pa_nil)) pa_nil)))))
        (pss_one (ps_if (pt_cmpR op_lt (pe_callB call_len_seq (by rfl) T.len PySem.boot_len (pa_cons (pe_ix ix_tup (pe_call dFw hr (by rfl) T.fewest.g T.fewest.F.kp T.fewest.b .nil pass0 (pa_cons (pv 3) (pa_cons (pe_callTy call_tuple_of (by rfl) T.tuple (by decide +kernel) (pa_cons (pv 9) pa_nil)) (pa_cons (pv 8) pa_nil)))) pe_int (fun _ _ => rfl)) pa_nil))
            (pe_callB call_len_seq (by rfl) T.len PySem.boot_len (pa_cons (pe_ix ix_tup (pe_call dFw hr (by rfl) T.fewest.g T.fewest.F.kp T.fewest.b .nil pass0 (pa_cons (pv 3) (pa_cons (pv 4) (pa_cons (pv 8) pa_nil)))) pe_int (fun _ _ => rfl)) pa_nil)) (nomark _)) (pss_one (ps_ret pe_bl)) pss_nil))))))))))))))
      (pss_one (ps_ret pe_bl)), ?_⟩
    have c6 : (cutV (ns.map V.int) none (some 6)).length ≤ 6 := by
      rw [cut6, List.length_take]
      omega
    refine ⟨_, rfl, 6, rfl, a, _, rfl, hS, fun p1 np1 => ?_⟩
    have s1 : Same H (upd H p1 (.lst (cutV (ns.map V.int) none (some 6)))) := same_upd np1
    have e1 : upd H p1 (.lst (cutV (ns.map V.int) none (some 6))) p1 = some (.lst ((ns.map V.int).take 6)) := by rw [upd_same, cut6]
    generalize upd H p1 (.lst (cutV (ns.map V.int) none (some 6))) = H1 at s1 e1
    refine ⟨line8 (by show 1 ≤ 1000; decide), fun p2 np2 => ?_⟩
    have s2 : Same H1 (upd H1 p2 (.lst [.int 0])) := same_upd np2
    refine ⟨p1, p2, _, _, rfl, rfl, s2 _ _ e1, upd_same, line8 (by rw [List.length_take, List.length_singleton]; omega), fun p np => ?_⟩
    have s3 := same_upd (o := .lst ((ns.map V.int).take 6 ++ [V.int 0])) np
    have tb3 := tabs.ext (s1.trans (s2.trans s3))
    have e3 : upd (upd H1 p2 (.lst [.int 0])) p (.lst ((ns.map V.int).take 6 ++ [V.int 0])) p = some (.lst ((ns.map V.int).take 6 ++ [V.int 0])) := upd_same
    generalize upd (upd H1 p2 (.lst [.int 0])) p (.lst ((ns.map V.int).take 6 ++ [V.int 0])) = Hs at tb3 e3
    refine ⟨p, rfl, ⟨_, .inl (.inl e3)⟩, for_it (walk_list (xs := (ns.map V.int).take 6 ++ [V.int 0])) (fun i σ H2 => ∃ x1 x2 x3 x4 x5 x6 x7 x8 x9 x10 x11 x12 x13, σ = [some (.ref a), x1, x2, x3, x4, x5, x6, x7, x8, x9, x10, x11, x12, x13] ∧ H2 p = some (.lst ((ns.map V.int).take 6 ++ [V.int 0])) ∧ LamX.Tabs [(PT, lamN)] H2)
      ⟨none, none, none, none, none, none, none, none, none, none, none, none, none, rfl, e3, tb3⟩ (fun i σ H2 _ ⟨_, _, _, _, _, _, _, _, _, _, _, _, _, _, e, _⟩ => .inl (.inl e)) ?_ ?_⟩
    · rintro i x σ H0' H0 hi ⟨x1, x2, x3, x4, x5, x6, x7, x8, x9, x10, x11, x12, x13, rfl, ep0, tb0⟩ ⟨rfl, hxi⟩
      obtain ⟨z, rfl⟩ := int_items hxi
      refine ⟨_, rfl, z, rfl, fun g H1 s1 ng b1 => ?_⟩
      have npg : p ≠ g := fun z => by rw [z, ng] at ep0; cases ep0
      have ep1 := s1 _ _ ep0
      have tb1 := tb0.ext s1
      refine ⟨_, rfl, g, 4, 0, rfl, b1, by decide, by decide, by decide, fun t gs H2 ht2 okg f2 b2 => ?_⟩
      refine ⟨_, rfl, _, rfl, g, t, gs, _, rfl, b2, ht2, okg.hi, by decide, fun b d H3 hw3 h600 okd f3 b3 => ?_⟩
      have ht3 := ht2.keep (f3.tup b2)
      refine ⟨_, rfl, _, rfl, line8 (by show 2 ≤ 1000; decide), fun l nl => ?_⟩
      have s3 : Same H3 (upd H3 l (.lst [.int 40, .int 400])) := same_upd nl
      have el : upd H3 l (.lst [.int 40, .int 400]) l = some (.lst [.int 40, .int 400]) := upd_same
      have nlg := b3.ne nl
      have b3' := b3.same s3
      have fA : Fr g H1 (upd H3 l (.lst [.int 40, .int 400])) := f2.trans (f3.trans (Fr.same s3))
      generalize upd H3 l (.lst [.int 40, .int 400]) = H3' at s3 el b3' fA
      refine ⟨_, rfl, g, 2, _, rfl, b3', by decide, by decide, by decide, fun r H4 hr4 f4 b4 => ?_⟩
      obtain ⟨far, efar, hf1, hf2⟩ : ∃ far : Nat, ([V.int 40, V.int 400] : List V)[r]? = some (.int (far : Nat)) ∧ 1 ≤ far ∧ far ≤ 1000 := by
        match r, hr4 with
        | 0, _ => exact ⟨40, rfl, by decide, by decide⟩
        | 1, _ => exact ⟨400, rfl, by decide, by decide⟩
      have k34 : ∀ a ys, H3 a = some (.tup ys) → H4 a = some (.tup ys) := fun a ys e => f4.tup b3' _ _ (s3 _ _ e)
      have ht4 := ht3.keep k34
      have hw4 := hw3.keep k34
      refine ⟨l, _, _, _, rfl, rfl, .inl (.inl (f4 _ _ el nlg)), at1 efar, g, t, 7, far, gs, _, rfl, b4, ht4, okg, by decide, hf1, hf2, by decide, fun c ts H5 htt nc hlen okt f5 b5 => ?_⟩
      have ht5 := ht4.keep (f5.tup b4)
      have hw5 := hw4.keep (f5.tup b4)
      have fB : Fr g H1 H5 := fA.trans (f4.trans f5)
      have ep5 := fB _ _ ep1 npg
      have tb5 := fB.tabs b1 tb1
      refine ⟨_, rfl, _, rfl, _, rfl, t, b, c, gs, d, ts, rfl, ht5, okg, hw5, okd, htt, by omega, okt, fun H6 p6 rr so rows s6 ep6 hrr part hne hmin => ?_⟩
      refine ⟨p6, _, 0, _, rfl, rfl, .inl (.inl ep6), atI_nat (j := 0) rfl, ?_⟩
      obtain ⟨vs6, er6, lv6⟩ := hrr.len
      have ht6 := ht5.keep (same_tups s6)
      have hw6 := hw5.keep (same_tups s6)
      have htt6 := htt.to (fun xs e => s6 _ _ e) (same_tups s6)
      refine ⟨_, rfl, rr, _, rfl, .inl (.inl (.inl er6)), _, rfl, _, rfl, _, rfl, t, b, c, gs, d, ts, rfl, ht6, okg, hw6, okd, htt6, hlen, okt, tb5.ext s6, fun m H7 eN tb7 hex hmn => ?_⟩
      have em : m = rows.length := by
        obtain ⟨rows', p', e'⟩ := hex
        have := hmin rows' p'
        have := hmn rows part
        omega
      refine ⟨rfl, _, rfl, iteNS (by rw [lv6, em]) ?_⟩
      have ht7 := ht6.keep (keep_tups eN)
      have hw7 := hw6.keep (keep_tups eN)
      have htt7 := htt6.to (fun xs e => extN_lst eN e) (keep_tups eN)
      have hrr7 := hrr.extN eN
      refine ⟨_, rfl, _, rfl, _, rfl, _, rfl, t, b, c, rr, gs, d, ts, rows, rfl, ht7, okg, hw7, okd, htt7, by omega, okt, hrr7, part, hne, fun H8 s8 => ⟨_, rfl, iteF ?_⟩⟩
      have k58 : ∀ a ys, H5 a = some (.tup ys) → H8 a = some (.tup ys) := fun a ys e => s8 _ _ (keep_tups eN _ _ (s6 _ _ e))
      have b8 := ((b5.same s6).extN eN).same s8
      have ep8 := s8 _ _ (extN_lst eN (s6 _ _ ep5))
      have tb8 := tb7.ext s8
      refine ⟨_, rfl, g, 6, _, rfl, b8, by decide, by decide, by decide, fun r9 H9 hr9 f9 b9 => ⟨_, _, rfl, rfl, ?_⟩⟩
      have ht9 := (ht5.keep k58).keep (f9.tup b8)
      have hw9 := (hw5.keep k58).keep (f9.tup b8)
      refine ⟨_, rfl, _, rfl, _, rfl, _, rfl, g, t, b, 1 + r9, gs, d, _, rfl, b9, ht9, okg, hw9, okd, by omega, by decide, fun c2 ts2 rowsT H10 htt2 nc2 l2 okt2 partT lT f10 b10 => ?_⟩
      have ht10 := ht9.keep (f10.tup b9)
      have hw10 := hw9.keep (f10.tup b9)
      have fC : Fr g H8 H10 := f9.trans f10
      have ep10 := fC _ _ ep8 npg
      have tb10 := fC.tabs b8 tb8
      refine ⟨_, rfl, _, rfl, _, rfl, t, b, c2, gs, d, ts2, rfl, ht10, okg, hw10, okd, htt2, by omega, okt2, fun H11 p11 rr11 so11 rows11 s11 ep11 hrr11 part11 hne11 hmin11 => ?_⟩
      obtain ⟨vs11, er11, lv11⟩ := hrr11.len
      have hmany : rows11.length ≤ 1 + r9 := by
        have p2 : Part (Fl gs d) ((List.range ts2.length).map (tr ts2)) rowsT := by
          rw [tr_map]
          exact partT
        obtain ⟨rows', p', e'⟩ := p2.lift
        have := hmin11 rows' p'
        omega
      refine ⟨p11, _, 0, _, rfl, rfl, .inl (.inl ep11), atI_nat (j := 0) rfl, rr11, _, rfl, .inl (.inl (.inl er11)), _, rfl, _, _, rfl, rfl, _, rfl, ?_⟩
      rw [decide_eq_false (show ¬ (1 + (r9 : Nat) : Int) < (vs11.length : Nat) by omega)]
      refine iteF ?_
      have ht11 := ht10.keep (same_tups s11)
      have hw11 := hw10.keep (same_tups s11)
      have htt11 := htt2.to (fun xs e => s11 _ _ e) (same_tups s11)
      have ep12 := s11 _ _ ep10
      have tb12 := tb10.ext s11
      -- longer
      obtain ⟨xw, hbw, lxw, hrow⟩ := id hw11
      have hn8 := okg.hi
      refine ⟨Nat.zero_le _, fun lo nlo => ?_⟩
      have s12 : Same H11 (upd H11 lo (.lst [])) := same_upd nlo
      refine ⟨_, rfl, b, xw, rfl, .inl (.inl (s12 _ _ hbw)), for_it walk_enumT (fun k σ H12 => ∃ y10 y11 ws, σ = [some (.ref a), some (.int z), some (.ref g), some (.ref t), some (.ref b), some (.ref c), some (.ref rr), some (.int (1 + (r9 : Nat))), some (.ref c2), some (.ref lo), y10, y11, x12, x13] ∧ Same H11 H12 ∧ H12 lo = some (.lst ws) ∧ ws.length = k ∧ ∀ e, e < k → ∃ r, ws[e]? = some (.ref r) ∧ H12 r = some (.tup (rowV gs.length (lgr d) e)))
        ⟨_, _, [], rfl, s12, upd_same, rfl, fun e he => by omega⟩ (fun k σ H12 _ ⟨_, _, _, _, s, _⟩ => .inl (.inl (s _ _ hbw))) ?_ ?_⟩
      · rintro k y σ H12 H13 hk ⟨y10, y11, ws, rfl, s12, elo, lws, hws⟩ yy
        obtain ⟨tu, v1, v2, rfl, ntu, rfl, g1, g2⟩ := yy
        cases g1
        have hkn : k < gs.length := by omega
        obtain ⟨rk, erk, hrk⟩ := hrow k hkn
        have g2' : xw[k]? = some v2 := g2
        rw [erk] at g2'
        cases g2'
        have s13 : Same H12 (upd H12 tu (.tup [.int (k : Nat), .ref rk])) := same_upd ntu
        refine ⟨tu, [.int (k : Nat), .ref rk], rfl, .inl (.inl upd_same), rfl, _, _, rfl, _, _, rfl, rfl, ?_⟩
        generalize upd H12 tu (.tup [.int (k : Nat), .ref rk]) = H13 at s13
        have elo13 := s13 _ _ elo
        have hrk13 := s13 _ _ (s12 _ _ hrk)
        refine ⟨_, rfl, .inl ⟨rfl, _, .inl (.inl elo13)⟩, ?_⟩
        refine ⟨_, rfl, rk, _, rfl, .inl (.inl hrk13), fun D hD => lc_kp walk_enumT hD (fun j => some (V.int (lgr d k j))) (fun H14 s => .inl (.inl (s _ _ hrk13))) (fun j y H14 H15 hj p yy => ?_) fun H14 p => ?_⟩
        · obtain ⟨tv, v1, v2, rfl, ntv, rfl, g3, g4⟩ := yy
          cases g3
          rw [rowV_len] at hj
          have g4' : (rowV gs.length d k)[j]? = some v2 := g4
          rw [rowV_at hj] at g4'
          cases g4'
          refine ⟨tv, [.int (j : Nat), .int (d k j)], rfl, .inl (.inl upd_same), rfl, _, _, rfl, _, _, rfl, rfl, rfl, ?_⟩
          refine ⟨_, rfl, _, rfl, _, rfl, rfl, .inr ⟨_, rfl, _, _, rfl, rfl, .inr ⟨by decide, by decide⟩, _, _, rfl, rfl, ?_⟩⟩
          refine p.add hD (by omega) ?_ (same_upd ntv)
          show some (V.int (lgr d k j)) = some (V.int (d k j + (if (!decide (V.int (j : Nat) = V.int (k : Nat))) = true then 1 else 0) * 9))
          unfold lgr
          by_cases e : j = k
          · rw [if_pos e, e, decide_eq_true rfl]
            rfl
          · rw [if_neg e, decide_eq_false (fun z => e (by have := V.int.inj z; omega))]
            rfl
        · have h2 := p.at_
          rw [fm_map, rowV_len] at h2
          have elo14 := p.same _ _ elo13
          refine ⟨D, _, rfl, .inl ⟨.inl (.inl h2), fun lt nlt => ?_⟩⟩
          have s15 : ∀ o, Same H14 (upd H14 lt o) := fun o => same_upd nlt
          refine ⟨lo, ws, _, rfl, rfl, (s15 _) _ _ elo14, small1000 (by omega), ?_⟩
          have nlf : lt ≠ lo := fun z => by rw [z, elo14] at nlt; cases nlt
          refine ⟨_, _, ws ++ [.ref lt], rfl, fun c o e => ?_, upd_same, by rw [List.length_append, lws]; rfl, fun e he => ?_⟩
          · rw [upd_ne (ne_of_none e nlo)]
            exact (s15 _) _ _ (p.same _ _ (s13 _ _ (s12 _ _ e)))
          · by_cases hek : e < k
            · obtain ⟨r, q1, q2⟩ := hws e hek
              refine ⟨r, by rw [List.getElem?_append_left (by omega)]; exact q1, ?_⟩
              rw [upd_ne (fun z => by rw [z, elo] at q2; cases q2)]
              exact (s15 _) _ _ (p.same _ _ (s13 _ _ q2))
            · have : e = k := by omega
              subst this
              refine ⟨lt, by rw [List.getElem?_append_right (by omega), lws, Nat.sub_self]; rfl, ?_⟩
              rw [upd_ne nlf, upd_same]
              rfl
      · rintro σ H12 ⟨y10, y11, ws, rfl, s12, elo, lws, hws⟩
        have ht12 := ht11.keep (same_tups s12)
        have hw12 := hw11.keep (same_tups s12)
        have htt12 := htt11.to (fun xs e => s12 _ _ e) (same_tups s12)
        refine ⟨_, rfl, _, rfl, lo, ws, rfl, .inl ⟨.inl (.inl elo), fun lt nlt => ?_⟩⟩
        have s13 : Same H12 (upd H12 lt (.tup ws)) := same_upd nlt
        have hwl : WalksAt (upd H12 lt (.tup ws)) lt gs.length (lgr d) := by
          refine ⟨ws, upd_same, by omega, fun i hi => ?_⟩
          obtain ⟨r, q1, q2⟩ := hws i (by omega)
          exact ⟨r, q1, s13 _ _ q2⟩
        generalize upd H12 lt (.tup ws) = H13 at s13 hwl
        have htt13 := htt12.to (fun xs e => s13 _ _ e) (same_tups s13)
        refine ⟨_, rfl, t, lt, c2, gs, lgr d, ts2, rfl, ht12.keep (same_tups s13), okg, hwl, lgr_ok okd h600, htt13, by omega, okt2, fun H14 p14 rr14 so14 rows14 s14 ep14 hrr14 part14 hne14 hmin14 => ?_⟩
        obtain ⟨vs14, er14, lv14⟩ := hrr14.len
        refine ⟨p14, _, 0, _, rfl, rfl, .inl (.inl ep14), atI_nat (j := 0) rfl, rr14, _, rfl, .inl (.inl (.inl er14)), ?_⟩
        have s1314 := s13.trans s14
        refine ⟨_, rfl, _, rfl, _, rfl, t, b, c2, gs, d, ts2, rfl, ht12.keep (same_tups s1314), okg, hw12.keep (same_tups s1314), okd, htt12.to (fun xs e => s1314 _ _ e) (same_tups s1314), by omega, okt2, fun H15 p15 rr15 so15 rows15 s15 ep15 hrr15 part15 hne15 hmin15 => ?_⟩
        obtain ⟨vs15, er15, lv15⟩ := hrr15.len
        refine ⟨p15, _, 0, _, rfl, rfl, .inl (.inl ep15), atI_nat (j := 0) rfl, rr15, _, rfl, .inl (.inl (.inl er15)), _, _, rfl, rfl, _, rfl, ?_⟩
        have hle : rows15.length ≤ rows14.length := by
          refine hmin15 rows14 (part14.mono fun x y e => ?_)
          have e' : (tr ts2 x).e + lgr d (ixOf gs (tr ts2 x).n) (ixOf gs (tr ts2 y).n) ≤ (tr ts2 y).b := e
          have := lgr_le (d := d) (ixOf gs (tr ts2 x).n) (ixOf gs (tr ts2 y).n)
          show (tr ts2 x).e + d (ixOf gs (tr ts2 x).n) (ixOf gs (tr ts2 y).n) ≤ (tr ts2 y).b
          omega
        rw [decide_eq_false (show ¬ ((vs14.length : Nat) : Int) < (vs15.length : Nat) by omega)]
        have sAll := s12.trans (s1314.trans s15)
        exact iteF ⟨_, _, _, _, _, _, _, _, _, _, _, _, _, rfl, sAll _ _ ep12, tb12.ext sAll⟩
    · rintro σ H2 ⟨x1, x2, x3, x4, x5, x6, x7, x8, x9, x10, x11, x12, x13, rfl, ep, tb⟩
      exact q H2
end
end LT
end
section
set_option Elab.async false
set_option linter.all false
set_option maxRecDepth 100000
set_option maxHeartbeats 4000000
/-! the end: what the top has left, and the walk -/
namespace LT
open PySem PySem.Spec PyProof.Rows L2
/-- a def as the top has left it -/
def DefFact (K : PySem.W.Frag) (x : Str) (st : Stmt) : Prop := ∃ (f : Addr) (oc : Value) (od an : Option Addr) (kV dc pm cd ct : Value) (sl : Array (Option Value)),
  PySem.W.nsIn K mainGlobals x = some (some (.ref f)) ∧ K.lookup f = some ⟨oc, od, .func (PySem.W.fnOf x x (defArgs st) (defBody st) (defScope st) .none kV dc pm an cd ct), sl⟩ ∧ PySem.W.codeIn K cd x = true ∧ PySem.W.keepIn K (.ref f) = true
def MethFact (K : PySem.W.Frag) (C : Addr) (x q : Str) (st : Stmt) : Prop := ∃ (f : Addr) (oc : Value) (od an : Option Addr) (kV dc pm cd ct : Value) (sl : Array (Option Value)),
  PySem.W.findIn K (.ref C) x = some (some (.ref f)) ∧ PySem.W.isFn K (.ref f) = true ∧ K.lookup f = some ⟨oc, od, .func (PySem.W.fnOf x q (defArgs st) (defBody st) (defScope st) .none kV dc pm an cd ct), sl⟩ ∧ PySem.W.codeIn K cd q = true ∧ PySem.W.keepIn K (.ref f) = true
def CodeFact (K : PySem.W.Frag) (x : Str) (st : Stmt) (c : Addr) : Prop := ∃ (f : Addr) (oc : Value) (od an : Option Addr) (kV dc pm ct : Value) (sl : Array (Option Value)),
  PySem.W.nsIn K mainGlobals x = some (some (.ref f)) ∧ K.lookup f = some ⟨oc, od, .func (PySem.W.fnOf x x (defArgs st) (defBody st) (defScope st) .none kV dc pm an (.ref c) ct), sl⟩ ∧ PySem.W.codeIn K (.ref c) x = true ∧ PySem.W.keepIn K (.ref f) = true
theorem DefFact.of {K : PySem.W.Frag} {x : Str} {st : Stmt} {f : Addr} {oc : Value} {od an : Option Addr} {kV dc pm cd ct : Value} {sl : Array (Option Value)} (a : PySem.W.nsIn K mainGlobals x = some (some (.ref f)))
    (l : K.lookup f = some ⟨oc, od, .func (PySem.W.fnOf x x (defArgs st) (defBody st) (defScope st) .none kV dc pm an cd ct), sl⟩) (c : PySem.W.codeIn K cd x = true) (k : PySem.W.keepIn K (.ref f) = true) : DefFact K x st := ⟨_, _, _, _, _, _, _, _, _, _, a, l, c, k⟩
theorem MethFact.of {K : PySem.W.Frag} {C : Addr} {x q : Str} {st : Stmt} {f : Addr} {oc : Value} {od an : Option Addr} {kV dc pm cd ct : Value} {sl : Array (Option Value)} (a : PySem.W.findIn K (.ref C) x = some (some (.ref f))) (i : PySem.W.isFn K (.ref f) = true)
    (l : K.lookup f = some ⟨oc, od, .func (PySem.W.fnOf x q (defArgs st) (defBody st) (defScope st) .none kV dc pm an cd ct), sl⟩) (c : PySem.W.codeIn K cd q = true) (k : PySem.W.keepIn K (.ref f) = true) : MethFact K C x q st := ⟨_, _, _, _, _, _, _, _, _, _, a, i, l, c, k⟩
theorem CodeFact.of {K : PySem.W.Frag} {x : Str} {st : Stmt} {cc f : Addr} {oc : Value} {od an : Option Addr} {kV dc pm ct : Value} {sl : Array (Option Value)} (a : PySem.W.nsIn K mainGlobals x = some (some (.ref f)))
    (l : K.lookup f = some ⟨oc, od, .func (PySem.W.fnOf x x (defArgs st) (defBody st) (defScope st) .none kV dc pm an (.ref cc) ct), sl⟩) (c : PySem.W.codeIn K (.ref cc) x = true) (k : PySem.W.keepIn K (.ref f) = true) : CodeFact K x st cc := ⟨_, _, _, _, _, _, _, _, _, a, l, c, k⟩
section
variable {K : PySem.W.Frag} {mg : Str → Option Value} {h : Heap}
theorem DefFact.mk {x : Str} {st : Stmt} {ps : List Str} (X : K.In h) (G : h.Ns mainGlobals mg) (d : DefFact K x st)
    (hb : ∀ (kV doc pm : Value) (an : Option Addr) (cdv ct : Value) (us : List Value), us.length = ps.length → bindArgs (PySem.W.fnOf x x (defArgs st) (defBody st) (defScope st) .none kV doc pm an cdv ct) ⟨us, []⟩ = pure (ps.zip us)) : Nonempty (DefOf K mg x st ps) := by
  obtain ⟨f, oc, od, an, kV, dc, pm, cd, ct, sl, a, l, c, k⟩ := d
  have F := fun_mk l c k
  exact ⟨⟨f, _, F, F.binds hb, PySem.W.mg_of X G a⟩⟩
theorem MethFact.mk {C : Addr} {x q : Str} {st : Stmt} {ps : List Str} (d : MethFact K C x q st)
    (hb : ∀ (kV doc pm : Value) (an : Option Addr) (cdv ct : Value) (us : List Value), us.length = ps.length → bindArgs (PySem.W.fnOf x q (defArgs st) (defBody st) (defScope st) .none kV doc pm an cdv ct) ⟨us, []⟩ = pure (ps.zip us)) : Nonempty (MethOf K C x q st ps) := by
  obtain ⟨f, oc, od, an, kV, dc, pm, cd, ct, sl, a, i, l, c, k⟩ := d
  have F : Fun K x q st f (PySem.W.fnOf x q (defArgs st) (defBody st) (defScope st) .none kV dc pm an cd ct) := ⟨⟨oc, od, kV, dc, pm, an, cd, ct, sl, rfl, l, c⟩, k⟩
  exact ⟨⟨f, _, F, F.binds hb, ⟨a, i, k⟩⟩⟩
theorem CodeFact.mk {x : Str} {st : Stmt} {c : Addr} {ps : List Str} (X : K.In h) (G : h.Ns mainGlobals mg) (d : CodeFact K x st c)
    (hb : ∀ (kV doc pm : Value) (an : Option Addr) (cdv ct : Value) (us : List Value), us.length = ps.length → bindArgs (PySem.W.fnOf x x (defArgs st) (defBody st) (defScope st) .none kV doc pm an cdv ct) ⟨us, []⟩ = pure (ps.zip us)) : Nonempty (DefC K mg x st ps c) := by
  obtain ⟨f, oc, od, an, kV, dc, pm, ct, sl, a, l, cc, k⟩ := d
  have F := fun_mk l cc k
  exact ⟨⟨f, _, ⟨oc, od, kV, dc, pm, an, ct, sl, rfl, l, cc⟩, k, F.binds hb, PySem.W.mg_of X G a⟩⟩
/-- the class as the top has left it -/
structure ClsFact (K : PySem.W.Frag) (C : Addr) : Prop where
  at_ : PySem.W.nsIn K mainGlobals "Pairing" = some (some (.ref C))
  pg : PySem.W.plainGet K C Str.empty = true
  hd : PySem.W.hasDictIn K C = true
  po : PySem.W.plainOver K C = true
  sa : PySem.W.findIn K (.ref C) "__setattr__" = some (some (.builtin "object.__setattr__"))
  mks : PySem.W.makesIn K C = true
  kc : PySem.W.keepIn K (.ref C) = true
  nA : PySem.W.findIn K (.ref C) "ahead" = some none
  nB : PySem.W.findIn K (.ref C) "behind_of" = some none
  nF : PySem.W.findIn K (.ref C) "ahead_of" = some none
def ConFact (K : PySem.W.Frag) (x : Str) (v : Tok → Value) : Prop := ∃ t, PySem.W.nsIn K mainGlobals x = some (some (v t))
theorem ConFact.of {K : PySem.W.Frag} {x : Str} {v : Tok → Value} {t : Tok} (a : PySem.W.nsIn K mainGlobals x = some (some (v t))) : ConFact K x v := ⟨t, a⟩
end

structure TopFacts (K : PySem.W.Frag) (C cL PT : Addr) : Prop where
  b_isi : PySem.W.nsIn K mainGlobals "isinstance" = some none
  b_int : PySem.W.nsIn K mainGlobals "int" = some none
  b_bool : PySem.W.nsIn K mainGlobals "bool" = some none
  b_str : PySem.W.nsIn K mainGlobals "str" = some none
  b_len : PySem.W.nsIn K mainGlobals "len" = some none
  b_all : PySem.W.nsIn K mainGlobals "all" = some none
  b_any : PySem.W.nsIn K mainGlobals "any" = some none
  b_zip : PySem.W.nsIn K mainGlobals "zip" = some none
  b_tuple : PySem.W.nsIn K mainGlobals "tuple" = some none
  b_list : PySem.W.nsIn K mainGlobals "list" = some none
  b_range : PySem.W.nsIn K mainGlobals "range" = some none
  b_enum : PySem.W.nsIn K mainGlobals "enumerate" = some none
  b_sorted : PySem.W.nsIn K mainGlobals "sorted" = some none
  b_abs : PySem.W.nsIn K mainGlobals "abs" = some none
  b_min : PySem.W.nsIn K mainGlobals "min" = some none
  b_set : PySem.W.nsIn K mainGlobals "set" = some none
  c_LETTERS : ConFact K "LETTERS" fun t => .str letters t
  c_DAY : ConFact K "DAY" fun t => .int 24 t
  c_MOST_ROUNDS : ConFact K "MOST_ROUNDS" fun t => .int 40 t
  c_MOST_WALK : ConFact K "MOST_WALK" fun t => .int 1000 t
  d_is_within : DefFact K "is_within" (topS 8)
  d_is_name : DefFact K "is_name" (topS 9)
  d_rises : DefFact K "rises" (topS 10)
  d_is_gate : DefFact K "is_gate" (topS 11)
  d_is_town : DefFact K "is_town" (topS 12)
  d_look_at_town : DefFact K "look_at_town" (topS 13)
  d_names_of : DefFact K "names_of" (topS 14)
  d_are_walks : DefFact K "are_walks" (topS 19)
  d_is_turn : DefFact K "is_turn" (topS 20)
  d_look_at_turns : DefFact K "look_at_turns" (topS 21)
  d_can_follow : DefFact K "can_follow" (topS 22)
  d_fewest : DefFact K "fewest" (topS 24)
  d_are_places : DefFact K "are_places" (topS 25)
  d_rows_hold : DefFact K "rows_hold" (topS 26)
  d_well : DefFact K "_law_well" (topS 29)
  d_take : DefFact K "_law_take" (topS 30)
  d_shuffled : DefFact K "_law_shuffled" (topS 31)
  d_name : DefFact K "_law_name" (topS 32)
  d_rising : DefFact K "_law_rising" (topS 33)
  d_town : DefFact K "_law_town" (topS 34)
  d_walks : DefFact K "_law_walks" (topS 35)
  d_turns : DefFact K "_law_turns" (topS 36)
  d_follows : DefFact K "_law_follows" (topS 37)
  d_kept : DefFact K "_law_kept" (topS 39)
  cls : ClsFact K C
  m_init : MethFact K C "__init__" "Pairing.__init__" (inClass (topS 23) 0)
  m_grown : MethFact K C "grown" "Pairing.grown" (inClass (topS 23) 1)
  m_reached : MethFact K C "reached" "Pairing.reached" (inClass (topS 23) 2)
  least : CodeFact K "_law_least" (topS 38) cL
  law : DefFact K "law" (topS 40)
  hd : PySem.W.codeHdIn K cL PT = true
  no : K.lookup PT = none
section
variable {K : PySem.W.Frag} {mg : Str → Option Value} {h : Heap} {C cL PT : Addr}
theorem TopFacts.txt (F : TopFacts K C cL PT) (X : K.In h) (G : h.Ns mainGlobals mg) (mo : ∃ t, mg "MOST_MOMENT" = some (.int 1000000 t)) : Nonempty (Txt K mg cL) := by
  obtain ⟨d_is_within⟩ := F.d_is_within.mk (ps := ["thing", "low", "high"]) X G (fun _ _ _ _ _ _ us hl => match us, hl with | [_, _, _], _ => rfl)
  obtain ⟨d_is_name⟩ := F.d_is_name.mk (ps := ["thing"]) X G (fun _ _ _ _ _ _ us hl => match us, hl with | [_], _ => rfl)
  obtain ⟨d_rises⟩ := F.d_rises.mk (ps := ["some"]) X G (fun _ _ _ _ _ _ us hl => match us, hl with | [_], _ => rfl)
  obtain ⟨d_is_gate⟩ := F.d_is_gate.mk (ps := ["thing"]) X G (fun _ _ _ _ _ _ us hl => match us, hl with | [_], _ => rfl)
  obtain ⟨d_is_town⟩ := F.d_is_town.mk (ps := ["thing"]) X G (fun _ _ _ _ _ _ us hl => match us, hl with | [_], _ => rfl)
  obtain ⟨d_look_at_town⟩ := F.d_look_at_town.mk (ps := ["town"]) X G (fun _ _ _ _ _ _ us hl => match us, hl with | [_], _ => rfl)
  obtain ⟨d_names_of⟩ := F.d_names_of.mk (ps := ["town"]) X G (fun _ _ _ _ _ _ us hl => match us, hl with | [_], _ => rfl)
  obtain ⟨d_are_walks⟩ := F.d_are_walks.mk (ps := ["town", "thing"]) X G (fun _ _ _ _ _ _ us hl => match us, hl with | [_, _], _ => rfl)
  obtain ⟨d_is_turn⟩ := F.d_is_turn.mk (ps := ["town", "thing"]) X G (fun _ _ _ _ _ _ us hl => match us, hl with | [_, _], _ => rfl)
  obtain ⟨d_look_at_turns⟩ := F.d_look_at_turns.mk (ps := ["town", "walks", "turns"]) X G (fun _ _ _ _ _ _ us hl => match us, hl with | [_, _, _], _ => rfl)
  obtain ⟨d_can_follow⟩ := F.d_can_follow.mk (ps := ["town", "walks", "one", "other"]) X G (fun _ _ _ _ _ _ us hl => match us, hl with | [_, _, _, _], _ => rfl)
  obtain ⟨d_fewest⟩ := F.d_fewest.mk (ps := ["town", "walks", "turns"]) X G (fun _ _ _ _ _ _ us hl => match us, hl with | [_, _, _], _ => rfl)
  obtain ⟨d_are_places⟩ := F.d_are_places.mk (ps := ["thing", "many"]) X G (fun _ _ _ _ _ _ us hl => match us, hl with | [_, _], _ => rfl)
  obtain ⟨d_rows_hold⟩ := F.d_rows_hold.mk (ps := ["town", "walks", "turns", "rows"]) X G (fun _ _ _ _ _ _ us hl => match us, hl with | [_, _, _, _], _ => rfl)
  obtain ⟨d_well⟩ := F.d_well.mk (ps := ["cell", "turn"]) X G (fun _ _ _ _ _ _ us hl => match us, hl with | [_, _], _ => rfl)
  obtain ⟨d_take⟩ := F.d_take.mk (ps := ["bag", "many"]) X G (fun _ _ _ _ _ _ us hl => match us, hl with | [_, _], _ => rfl)
  obtain ⟨d_shuffled⟩ := F.d_shuffled.mk (ps := ["bag", "some"]) X G (fun _ _ _ _ _ _ us hl => match us, hl with | [_, _], _ => rfl)
  obtain ⟨d_name⟩ := F.d_name.mk (ps := ["bag"]) X G (fun _ _ _ _ _ _ us hl => match us, hl with | [_], _ => rfl)
  obtain ⟨d_rising⟩ := F.d_rising.mk (ps := ["bag", "most"]) X G (fun _ _ _ _ _ _ us hl => match us, hl with | [_, _], _ => rfl)
  obtain ⟨d_town⟩ := F.d_town.mk (ps := ["bag", "most"]) X G (fun _ _ _ _ _ _ us hl => match us, hl with | [_, _], _ => rfl)
  obtain ⟨d_walks⟩ := F.d_walks.mk (ps := ["bag", "town"]) X G (fun _ _ _ _ _ _ us hl => match us, hl with | [_, _], _ => rfl)
  obtain ⟨d_turns⟩ := F.d_turns.mk (ps := ["bag", "town", "many", "far"]) X G (fun _ _ _ _ _ _ us hl => match us, hl with | [_, _, _, _], _ => rfl)
  obtain ⟨d_follows⟩ := F.d_follows.mk (ps := ["town", "walks", "one", "other"]) X G (fun _ _ _ _ _ _ us hl => match us, hl with | [_, _, _, _], _ => rfl)
  obtain ⟨d_kept⟩ := F.d_kept.mk (ps := ["bag", "town", "walks", "many"]) X G (fun _ _ _ _ _ _ us hl => match us, hl with | [_, _, _, _], _ => rfl)
  obtain ⟨d_least⟩ := F.least.mk (ps := ["town", "walks", "turns"]) X G (fun _ _ _ _ _ _ us hl => match us, hl with | [_, _, _], _ => rfl)
  have cl : Cls K C := ⟨F.cls.pg, F.cls.hd, F.cls.po, F.cls.sa⟩
  obtain ⟨m_init⟩ := F.m_init.mk (ps := ["self", "ahead"]) (fun _ _ _ _ _ _ us hl => match us, hl with | [_, _], _ => rfl)
  obtain ⟨m_grown⟩ := F.m_grown.mk (ps := ["self", "one", "met"]) (fun _ _ _ _ _ _ us hl => match us, hl with | [_, _, _], _ => rfl)
  obtain ⟨m_reached⟩ := F.m_reached.mk (ps := ["self"]) (fun _ _ _ _ _ _ us hl => match us, hl with | [_], _ => rfl)
  exact ⟨{ isi := PySem.W.mg_none_of X G F.b_isi, int := PySem.W.mg_none_of X G F.b_int, bool := PySem.W.mg_none_of X G F.b_bool, str := PySem.W.mg_none_of X G F.b_str, len := PySem.W.mg_none_of X G F.b_len, all := PySem.W.mg_none_of X G F.b_all, any := PySem.W.mg_none_of X G F.b_any, zip := PySem.W.mg_none_of X G F.b_zip, tuple := PySem.W.mg_none_of X G F.b_tuple, list := PySem.W.mg_none_of X G F.b_list, range := PySem.W.mg_none_of X G F.b_range, enum := PySem.W.mg_none_of X G F.b_enum, sorted := PySem.W.mg_none_of X G F.b_sorted, abs := PySem.W.mg_none_of X G F.b_abs, min := PySem.W.mg_none_of X G F.b_min, set := PySem.W.mg_none_of X G F.b_set, LETTERS := (let ⟨t, e⟩ := F.c_LETTERS; ⟨t, PySem.W.mg_of X G e⟩), DAY := (let ⟨t, e⟩ := F.c_DAY; ⟨t, PySem.W.mg_of X G e⟩), MOST_ROUNDS := (let ⟨t, e⟩ := F.c_MOST_ROUNDS; ⟨t, PySem.W.mg_of X G e⟩), MOST_WALK := (let ⟨t, e⟩ := F.c_MOST_WALK; ⟨t, PySem.W.mg_of X G e⟩), MOST_MOMENT := mo, is_within := d_is_within, is_name := d_is_name, rises := d_rises, is_gate := d_is_gate, is_town := d_is_town, look_at_town := d_look_at_town, names_of := d_names_of, are_walks := d_are_walks, is_turn := d_is_turn, look_at_turns := d_look_at_turns, can_follow := d_can_follow, fewest := d_fewest, are_places := d_are_places, rows_hold := d_rows_hold, well := d_well, take := d_take, shuffled := d_shuffled, name := d_name, rising := d_rising, town := d_town, walks := d_walks, turns := d_turns, follows := d_follows, kept := d_kept, C := C, gC := PySem.W.mg_of X G F.cls.at_, cls := cl, nA := F.cls.nA, nB := F.cls.nB, nF := F.cls.nF, init := m_init, maker := ⟨F.cls.mks, m_init.m.at_, m_init.m.fn, F.cls.kc⟩, grown := m_grown, reached := m_reached, least := d_least }⟩
/-- the law's promise at the head's heap -/
theorem TopFacts.law_at {l : PySem.W.OpenLaw} {w : World} {fa : Addr} (F : TopFacts K C cL PT) (X : K.In h) (G : h.Ns mainGlobals mg) (mo : ∃ t, mg "MOST_MOMENT" = some (.int 1000000 t)) (hfa : mg "law" = some (.ref fa)) (ht : h.get? PT = some { cls := .none, data := .fields #[] }) :
    LamX.LawAtS l w K CX0 46 63 "script" mg fa h := by
  obtain ⟨T⟩ := F.txt X G mo
  obtain ⟨f, oc, od, an, kV, dc, pm, cd, ct, sl, a, lk, c, k⟩ := F.law
  have e := hfa.symm.trans (PySem.W.mg_of X G a)
  cases e
  have FL := fun_mk lk c k
  refine ⟨_, [(cL, PT)], spLaw K PT, fun p hp => by rw [List.mem_singleton.mp hp]; exact ht, fun p hp => by rw [List.mem_singleton.mp hp]; exact F.no, fun p hp => by rw [List.mem_singleton.mp hp]; exact PySem.W.codeHd_of_K X F.hd, fun s v => .of_eq rfl, fun H a ns _ _ hT hS => ⟨a, ns, rfl, hS, fun p hp => ?_, fun _ => rfl⟩, fun base _ _ hTB => ok_law FL T (hTB (cL, PT) (List.mem_singleton.mpr rfl))⟩
  rw [List.mem_singleton.mp hp]
  exact LamX.TabS.nil (hT (cL, PT) (List.mem_singleton.mpr rfl))
end
/-- the walk, told what stands in loose names, too -/
theorem walk_X {l : PySem.W.OpenLaw} {n k : Nat} {q : Program} {loose : List Str} {XP : (Str → Option Value) → Heap → Prop} {YP : World → Heap → Prop} {d : DefRec} {CX : World → CXT} {x : Str}
    (hn : l.most = some n) (hn2 : n ≤ sizeLine) (hdf : d.params.defaults = []) (hr : Room k callerA)
    (F : ∀ (w : World) (mg : Str → Option Value) (fa : Addr) (h : Heap), XP mg h → YP w h → h.Ns mainGlobals mg → mg d.name = some (.ref fa) → ∃ K : PySem.W.Frag, K.In h ∧ LamX.LawAtS l w K (CX w) k n x mg fa h)
    (hCX : ∀ (w : World) (H : Hp) (s : Shared) (e : Value) (s' : Shared), CX w [] H s (fun _ _ _ => False) e s' → False) :
    PySem.W.WalkO q loose XP YP l.row.toRowW d [] (fun f vs => PySem.call f vs) := by
  refine Att.attach_callB hn hdf fun w s₀ s₁ mg mb fa o pm cd doc a vs ns G Y ho hd hcd hmg hobj hints hlen hbits hg => ?_
  obtain ⟨K, KX, fd, cs, sp, hT, nT, C, hb, hsp, hF⟩ := F w mg fa _ G.X Y G.T.g hmg
  exact LamX.law_callTs KX G.T.g G.T.b G.T.builtins G.T.nolimit hg hT nT C G.T.bmain hobj hints (Nat.le_trans hlen hn2) hr hF hb (fun H hH hS => hsp H a ns hlen hbits hH hS) fun H e s' => hCX w H s₁ e s'
end LT
end
set_option Elab.async false
set_option linter.all false
set_option maxRecDepth 100000
open PySem PySem.W PyProof.Rows
set_option maxHeartbeats 0 in
theorem PySem.Challenge.cw_latchtown_k24_whole_no_fewer_watchers_by_holds : PySem.Challenge.rw_latchtown_k24_whole_no_fewer_watchers_by.Holds := by
  w_on; o_law; k_head; (case hw => w_witness2)
  k_fill
  refine LT.walk_X (l := PySem.Challenge.rw_latchtown_k24_whole_no_fewer_watchers_by) (n := 63) (k := 46) (x := "script") (CX := fun _ => L2.CX0) rfl (by rw [PySem.sizeLine_eq]; decide) rfl ⟨rfl, by decide, by decide⟩ ?F (fun _ _ _ _ _ h => h)
  case F =>
    intro w mg fa h XX Y G hmg
    have KX := PySem.W.km_in_of Y
    have HT := PySem.W.km_tabs_of Y
    obtain ⟨v, e1, e2⟩ := XX.2.val ("MOST_MOMENT", .int 1000000) (by simp)
    have mo : ∃ t, mg "MOST_MOMENT" = some (.int 1000000 t) := by
      cases e2
      exact ⟨_, e1⟩
    refine ⟨_, KX, ?_⟩
    refine' LT.TopFacts.law_at (PT := 242) ?top KX G mo hmg ?ht
    case top =>
      constructor
      (case b_isi => k_is)
      (case b_int => k_is)
      (case b_bool => k_is)
      (case b_str => k_is)
      (case b_len => k_is)
      (case b_all => k_is)
      (case b_any => k_is)
      (case b_zip => k_is)
      (case b_tuple => k_is)
      (case b_list => k_is)
      (case b_range => k_is)
      (case b_enum => k_is)
      (case b_sorted => k_is)
      (case b_abs => k_is)
      (case b_min => k_is)
      (case b_set => k_is)
      (case c_LETTERS => refine' LT.ConFact.of ?a; (case a => k_is))
      (case c_DAY => refine' LT.ConFact.of ?a; (case a => k_is))
      (case c_MOST_ROUNDS => refine' LT.ConFact.of ?a; (case a => k_is))
      (case c_MOST_WALK => refine' LT.ConFact.of ?a; (case a => k_is))
      (case d_is_within => refine' LT.DefFact.of ?a ?l ?c ?k; (case a => k_is); (case l => k_is); (case c => k_is); (case k => k_is))
      (case d_is_name => refine' LT.DefFact.of ?a ?l ?c ?k; (case a => k_is); (case l => k_is); (case c => k_is); (case k => k_is))
      (case d_rises => refine' LT.DefFact.of ?a ?l ?c ?k; (case a => k_is); (case l => k_is); (case c => k_is); (case k => k_is))
      (case d_is_gate => refine' LT.DefFact.of ?a ?l ?c ?k; (case a => k_is); (case l => k_is); (case c => k_is); (case k => k_is))
      (case d_is_town => refine' LT.DefFact.of ?a ?l ?c ?k; (case a => k_is); (case l => k_is); (case c => k_is); (case k => k_is))
      (case d_look_at_town => refine' LT.DefFact.of ?a ?l ?c ?k; (case a => k_is); (case l => k_is); (case c => k_is); (case k => k_is))
      (case d_names_of => refine' LT.DefFact.of ?a ?l ?c ?k; (case a => k_is); (case l => k_is); (case c => k_is); (case k => k_is))
      (case d_are_walks => refine' LT.DefFact.of ?a ?l ?c ?k; (case a => k_is); (case l => k_is); (case c => k_is); (case k => k_is))
      (case d_is_turn => refine' LT.DefFact.of ?a ?l ?c ?k; (case a => k_is); (case l => k_is); (case c => k_is); (case k => k_is))
      (case d_look_at_turns => refine' LT.DefFact.of ?a ?l ?c ?k; (case a => k_is); (case l => k_is); (case c => k_is); (case k => k_is))
      (case d_can_follow => refine' LT.DefFact.of ?a ?l ?c ?k; (case a => k_is); (case l => k_is); (case c => k_is); (case k => k_is))
      (case d_fewest => refine' LT.DefFact.of ?a ?l ?c ?k; (case a => k_is); (case l => k_is); (case c => k_is); (case k => k_is))
      (case d_are_places => refine' LT.DefFact.of ?a ?l ?c ?k; (case a => k_is); (case l => k_is); (case c => k_is); (case k => k_is))
      (case d_rows_hold => refine' LT.DefFact.of ?a ?l ?c ?k; (case a => k_is); (case l => k_is); (case c => k_is); (case k => k_is))
      (case d_well => refine' LT.DefFact.of ?a ?l ?c ?k; (case a => k_is); (case l => k_is); (case c => k_is); (case k => k_is))
      (case d_take => refine' LT.DefFact.of ?a ?l ?c ?k; (case a => k_is); (case l => k_is); (case c => k_is); (case k => k_is))
      (case d_shuffled => refine' LT.DefFact.of ?a ?l ?c ?k; (case a => k_is); (case l => k_is); (case c => k_is); (case k => k_is))
      (case d_name => refine' LT.DefFact.of ?a ?l ?c ?k; (case a => k_is); (case l => k_is); (case c => k_is); (case k => k_is))
      (case d_rising => refine' LT.DefFact.of ?a ?l ?c ?k; (case a => k_is); (case l => k_is); (case c => k_is); (case k => k_is))
      (case d_town => refine' LT.DefFact.of ?a ?l ?c ?k; (case a => k_is); (case l => k_is); (case c => k_is); (case k => k_is))
      (case d_walks => refine' LT.DefFact.of ?a ?l ?c ?k; (case a => k_is); (case l => k_is); (case c => k_is); (case k => k_is))
      (case d_turns => refine' LT.DefFact.of ?a ?l ?c ?k; (case a => k_is); (case l => k_is); (case c => k_is); (case k => k_is))
      (case d_follows => refine' LT.DefFact.of ?a ?l ?c ?k; (case a => k_is); (case l => k_is); (case c => k_is); (case k => k_is))
      (case d_kept => refine' LT.DefFact.of ?a ?l ?c ?k; (case a => k_is); (case l => k_is); (case c => k_is); (case k => k_is))
      (case cls => constructor; (case at_ => k_is); (case pg => k_is); (case hd => k_is); (case po => k_is); (case sa => k_is); (case mks => k_is); (case kc => k_is); (case nA => k_is); (case nB => k_is); (case nF => k_is))
      (case m_init => refine' LT.MethFact.of ?a ?i ?l ?c ?k; (case a => k_is); (case i => k_is); (case l => k_is); (case c => k_is); (case k => k_is))
      (case m_grown => refine' LT.MethFact.of ?a ?i ?l ?c ?k; (case a => k_is); (case i => k_is); (case l => k_is); (case c => k_is); (case k => k_is))
      (case m_reached => refine' LT.MethFact.of ?a ?i ?l ?c ?k; (case a => k_is); (case i => k_is); (case l => k_is); (case c => k_is); (case k => k_is))
      (case least => refine' LT.CodeFact.of ?a ?l ?c ?k; (case a => k_is); (case l => k_is); (case c => k_is); (case k => k_is))
      (case law => refine' LT.DefFact.of ?a ?l ?c ?k; (case a => k_is); (case l => k_is); (case c => k_is); (case k => k_is))
      (case hd => kernel_rfl)
      (case no => kernel_rfl)
    case ht => exact HT _ (by simp)
