import PyProof.Rows.All
import Wide.All
import OpenK.AllK
import Wide.FinOn
import HandS.ForMost
import HandS.Lambda
import HandS.Nested
import KE.SortKeyHeap
import HandS.Walk
import HandS.Zip
import HandS.DictComp
import HandS.TupAny
import HandS.Small
import HandS.Style
import HandS.Conv
import KE.GoesEnum
import KE.GoesMore
import KE.KDictCopyH
import KE.KRevSl
import HandS.Defaults
import HandS.EndTab
import HandS.IsInst
import HandS.Codes
import HandS.More
import HandS.CallLocal
import HandS.Text
import HandS.Steps
import HandS.Wide
import HandS.Deep
import KE.KDictZip
import HandS.ListItems
import PyProof.ReprDict
import PyProof.FitsInt
import HandS.TupLen
import PyProof.StrLawsRepr
import KE.KStateDown
import HandS.WordsExc
import HandS.Head0
import HandS.Head1
import HandS.Head2
import HandS.HeadEnd
import HandS.HeadHook1
import HandS.HeadHook2
import HandS.HeadHook3
import HandS.HeadHook4
import HandS.HeadWalk
import PySem.Challenge.RW_heardsince_k12_whole_numbers_alone_tell
set_option Elab.async false
set_option linter.all false
set_option maxRecDepth 100000
set_option maxHeartbeats 4000000
/-! Trees, slates, gifts: plain Lean. -/
namespace K12
section
variable {α : Type} [DecidableEq α]
/-- x and y are joined by one of the ties -/
def adj (ts : List (α × α)) (x y : α) : Prop := (x, y) ∈ ts ∨ (y, x) ∈ ts
instance (ts : List (α × α)) (x y : α) : Decidable (adj ts x y) := by unfold adj; exact inferInstance
theorem adj_comm {ts : List (α × α)} {x y : α} (h : adj ts x y) : adj ts y x := h.elim .inr .inl
theorem adj_perm {ts ts' : List (α × α)} (p : ts.Perm ts') {x y : α} : adj ts x y ↔ adj ts' x y := by
  unfold adj; rw [p.mem_iff, p.mem_iff]

structure Rooted (names : List α) (ad : α → α → Prop) (r : α) (par : α → α) (dep : α → Nat) : Prop where
  root : r ∈ names
  dep0 : dep r = 0
  up : ∀ x ∈ names, x ≠ r → par x ∈ names ∧ ad x (par x) ∧ dep x = dep (par x) + 1
  edge : ∀ x ∈ names, ∀ y ∈ names, ad x y → (x ≠ r ∧ par x = y) ∨ (y ≠ r ∧ par y = x)
  bound : ∀ x ∈ names, dep x < names.length

/-- grown leaf by leaf -/
inductive Grown : List α → List (α × α) → Prop
  | one (a : α) : Grown [a] []
  | add {ns : List α} {ts : List (α × α)} {a b : α} {e : α × α} : Grown ns ts → a ∈ ns → b ∉ ns → (e = (a, b) ∨ e = (b, a)) → Grown (ns ++ [b]) (ts ++ [e])

theorem Grown.ends {ns : List α} {ts : List (α × α)} (g : Grown ns ts) : ∀ e ∈ ts, e.1 ∈ ns ∧ e.2 ∈ ns ∧ e.1 ≠ e.2 := by
  induction g with
  | one a => intro e h; cases h
  | @add ns ts a b e' g ha hb he ih =>
    intro e h
    rcases List.mem_append.mp h with h | h
    · obtain ⟨h1, h2, h3⟩ := ih e h
      exact ⟨List.mem_append_left _ h1, List.mem_append_left _ h2, h3⟩
    · have h := List.mem_singleton.mp h
      subst h
      have hab : a ≠ b := fun q => hb (q ▸ ha)
      rcases he with rfl | rfl
      · exact ⟨List.mem_append_left _ ha, by simp, hab⟩
      · exact ⟨by simp, List.mem_append_left _ ha, hab.symm⟩
theorem Grown.nodup {ns : List α} {ts : List (α × α)} (g : Grown ns ts) : ns.Nodup := by
  induction g with
  | one a => simp
  | add g ha hb he ih =>
    rw [List.nodup_append]
    refine ⟨ih, by simp, fun x hx y hy => ?_⟩
    rw [List.mem_singleton.mp hy]
    rintro rfl
    exact hb hx
theorem Grown.len {ns : List α} {ts : List (α × α)} (g : Grown ns ts) : ts.length + 1 = ns.length := by
  induction g with
  | one a => rfl
  | add g ha hb he ih => simp only [List.length_append, List.length_singleton]; omega
theorem Grown.tnodup {ns : List α} {ts : List (α × α)} (g : Grown ns ts) : ts.Nodup := by
  induction g with
  | one a => simp
  | @add ns ts a b e g ha hb he ih =>
    rw [List.nodup_append]
    refine ⟨ih, by simp, fun x hx y hy => ?_⟩
    rw [List.mem_singleton.mp hy]
    rintro rfl
    obtain ⟨h1, h2, _⟩ := g.ends _ hx
    rcases he with rfl | rfl
    · exact hb h2
    · exact hb h1
/-- each tie parts the people in two -/
theorem Grown.cut {ns : List α} {ts : List (α × α)} (g : Grown ns ts) : ∀ e ∈ ts, ∃ S : α → Prop, S e.1 ∧ ¬ S e.2 ∧ ∀ t ∈ ts, t ≠ e → (S t.1 ↔ S t.2) := by
  induction g with
  | one a => intro e h; cases h
  | @add ns ts a b e' g ha hb he ih =>
    intro e h
    have hab : a ≠ b := fun q => hb (q ▸ ha)
    rcases List.mem_append.mp h with h | h
    · obtain ⟨S, h1, h2, h3⟩ := ih e h
      obtain ⟨n1, n2, _⟩ := g.ends e h
      have q1 : e.1 ≠ b := fun q => hb (q ▸ n1)
      have q2 : e.2 ≠ b := fun q => hb (q ▸ n2)
      refine ⟨fun x => if x = b then S a else S x, by simp only [if_neg q1]; exact h1, by simp only [if_neg q2]; exact h2, fun t ht hne => ?_⟩
      rcases List.mem_append.mp ht with ht | ht
      · obtain ⟨m1, m2, _⟩ := g.ends t ht
        have p1 : t.1 ≠ b := fun q => hb (q ▸ m1)
        have p2 : t.2 ≠ b := fun q => hb (q ▸ m2)
        simp only [if_neg p1, if_neg p2]
        exact h3 t ht hne
      · have ht := List.mem_singleton.mp ht
        subst ht
        rcases he with rfl | rfl
        · simp only [if_neg hab, if_true]
        · simp only [if_neg hab, if_true]
    · have h := List.mem_singleton.mp h
      subst h
      have key : ∀ t ∈ ts ++ [e], t ≠ e → t.1 ≠ b ∧ t.2 ≠ b := fun t ht hne => by
        rcases List.mem_append.mp ht with ht | ht
        · obtain ⟨m1, m2, _⟩ := g.ends t ht
          exact ⟨fun q => hb (q ▸ m1), fun q => hb (q ▸ m2)⟩
        · exact absurd (List.mem_singleton.mp ht) hne
      rcases he with rfl | rfl
      · refine ⟨fun x => x ≠ b, hab, fun z => z rfl, fun t ht hne => ?_⟩
        obtain ⟨k1, k2⟩ := key t ht hne
        exact ⟨fun _ => k2, fun _ => k1⟩
      · refine ⟨fun x => x = b, rfl, hab, fun t ht hne => ?_⟩
        obtain ⟨k1, k2⟩ := key t ht hne
        exact ⟨fun q => absurd q k1, fun q => absurd q k2⟩
theorem Grown.rooted {ns : List α} {ts : List (α × α)} (g : Grown ns ts) : ∀ r ∈ ns, ∃ par dep, Rooted ns (adj ts) r par dep := by
  induction g with
  | one a =>
    intro r hr
    have hr := List.mem_singleton.mp hr
    subst hr
    refine ⟨id, fun _ => 0, List.mem_singleton.mpr rfl, rfl, fun x hx hne => absurd (List.mem_singleton.mp hx) hne, fun x hx y hy h => ?_, fun x _ => by simp⟩
    unfold adj at h
    simp at h
  | @add ns ts a b e g ha hb he ih =>
    have hab : a ≠ b := fun q => hb (q ▸ ha)
    have nadj : ∀ x ∈ ns, ∀ y ∈ ns, adj (ts ++ [e]) x y → adj ts x y := fun x hx y hy h => by
      have nx : x ≠ b := fun q => hb (q ▸ hx)
      have ny : y ≠ b := fun q => hb (q ▸ hy)
      unfold adj at h ⊢
      simp only [List.mem_append, List.mem_singleton] at h
      rcases h with (h | h) | (h | h)
      · exact .inl h
      · rcases he with rfl | rfl
        · cases h; exact absurd rfl ny
        · cases h; exact absurd rfl nx
      · exact .inr h
      · rcases he with rfl | rfl
        · cases h; exact absurd rfl nx
        · cases h; exact absurd rfl ny
    have nb : ∀ y, adj (ts ++ [e]) b y → y ∈ ns ++ [b] → y = a := fun y h hy => by
      unfold adj at h
      simp only [List.mem_append, List.mem_singleton] at h
      rcases h with (h | h) | (h | h)
      · exact absurd (g.ends _ h).1 hb
      · rcases he with rfl | rfl
        · cases h; exact absurd rfl hab
        · cases h; rfl
      · exact absurd (g.ends _ h).2.1 hb
      · rcases he with rfl | rfl
        · cases h; rfl
        · cases h; exact absurd rfl hab
    have up1 : ∀ x y, adj ts x y → adj (ts ++ [e]) x y := fun x y h => by
      unfold adj at h ⊢
      simp only [List.mem_append]
      exact h.elim (fun z => .inl (.inl z)) fun z => .inr (.inl z)
    have eba : adj (ts ++ [e]) b a := by
      unfold adj
      rcases he with rfl | rfl <;> simp
    intro r hr
    rcases List.mem_append.mp hr with hr | hr
    · obtain ⟨par, dep, R⟩ := ih r hr
      have hrb : r ≠ b := fun q => hb (q ▸ hr)
      refine ⟨fun x => if x = b then a else par x, fun x => if x = b then dep a + 1 else dep x, List.mem_append_left _ hr, by simp only [if_neg hrb]; exact R.dep0, fun x hx hne => ?_, fun x hx y hy h => ?_, fun x hx => ?_⟩
      · by_cases q : x = b
        · subst q
          simp only [if_true, if_neg hab]
          exact ⟨List.mem_append_left _ ha, eba, by first | rfl | trivial⟩
        · have hx' : x ∈ ns := by
            rcases List.mem_append.mp hx with z | z
            · exact z
            · exact absurd (List.mem_singleton.mp z) q
          obtain ⟨u1, u2, u3⟩ := R.up x hx' hne
          have np : par x ≠ b := fun z => hb (z ▸ u1)
          simp only [if_neg q, if_neg np]
          exact ⟨List.mem_append_left _ u1, up1 _ _ u2, u3⟩
      · by_cases q : x = b
        · subst q
          have e1 := nb y h hy
          subst e1
          exact .inl ⟨hrb.symm, if_pos rfl⟩
        · by_cases q2 : y = b
          · subst q2
            have e1 := nb x (adj_comm h) hx
            subst e1
            exact .inr ⟨hrb.symm, if_pos rfl⟩
          · have hx' : x ∈ ns := by
              rcases List.mem_append.mp hx with z | z
              · exact z
              · exact absurd (List.mem_singleton.mp z) q
            have hy' : y ∈ ns := by
              rcases List.mem_append.mp hy with z | z
              · exact z
              · exact absurd (List.mem_singleton.mp z) q2
            simp only [if_neg q, if_neg q2]
            exact R.edge x hx' y hy' (nadj x hx' y hy' h)
      · simp only [List.length_append, List.length_singleton]
        by_cases q : x = b
        · simp only [if_pos q]
          have := R.bound a ha
          omega
        · simp only [if_neg q]
          have hx' : x ∈ ns := by
            rcases List.mem_append.mp hx with z | z
            · exact z
            · exact absurd (List.mem_singleton.mp z) q
          have := R.bound x hx'
          omega
    · have hr := List.mem_singleton.mp hr
      subst hr
      obtain ⟨par, dep, R⟩ := ih a ha
      refine ⟨fun x => if x = a then r else par x, fun x => if x = r then 0 else dep x + 1, List.mem_append_right _ (by simp), if_pos rfl, fun x hx hne => ?_, fun x hx y hy h => ?_, fun x hx => ?_⟩
      · have hx' : x ∈ ns := by
          rcases List.mem_append.mp hx with z | z
          · exact z
          · exact absurd (List.mem_singleton.mp z) hne
        by_cases q : x = a
        · subst q
          simp only [if_true, if_neg hne]
          refine ⟨List.mem_append_right _ (by simp), adj_comm eba, ?_⟩
          rw [R.dep0]
        · obtain ⟨u1, u2, u3⟩ := R.up x hx' q
          have np : par x ≠ r := fun z => hb (z ▸ u1)
          simp only [if_neg q, if_neg np, if_neg hne]
          exact ⟨List.mem_append_left _ u1, up1 _ _ u2, by omega⟩
      · by_cases q : x = r
        · subst q
          have e1 := nb y h hy
          subst e1
          exact .inr ⟨hab, if_pos rfl⟩
        · by_cases q2 : y = r
          · subst q2
            have e1 := nb x (adj_comm h) hx
            subst e1
            exact .inl ⟨hab, if_pos rfl⟩
          · have hx' : x ∈ ns := by
              rcases List.mem_append.mp hx with z | z
              · exact z
              · exact absurd (List.mem_singleton.mp z) q
            have hy' : y ∈ ns := by
              rcases List.mem_append.mp hy with z | z
              · exact z
              · exact absurd (List.mem_singleton.mp z) q2
            rcases R.edge x hx' y hy' (nadj x hx' y hy' h) with ⟨h1, h2⟩ | ⟨h1, h2⟩
            · exact .inl ⟨q, by simp only [if_neg h1]; exact h2⟩
            · exact .inr ⟨q2, by simp only [if_neg h1]; exact h2⟩
      · simp only [List.length_append, List.length_singleton]
        by_cases q : x = r
        · simp only [if_pos q]; omega
        · simp only [if_neg q]
          have hx' : x ∈ ns := by
            rcases List.mem_append.mp hx with z | z
            · exact z
            · exact absurd (List.mem_singleton.mp z) q
          have := R.bound x hx'
          omega
theorem Rooted.perm {names names' : List α} {ad ad' : α → α → Prop} {r : α} {par : α → α} {dep : α → Nat} (R : Rooted names ad r par dep) (p : names.Perm names') (h : ∀ x y, ad x y ↔ ad' x y) : Rooted names' ad' r par dep where
  root := p.mem_iff.mp R.root
  dep0 := R.dep0
  up := fun x hx hne => by
    obtain ⟨u1, u2, u3⟩ := R.up x (p.mem_iff.mpr hx) hne
    exact ⟨p.mem_iff.mp u1, (h _ _).mp u2, u3⟩
  edge := fun x hx y hy q => R.edge x (p.mem_iff.mpr hx) y (p.mem_iff.mpr hy) ((h _ _).mpr q)
  bound := fun x hx => by rw [← p.length_eq]; exact R.bound x (p.mem_iff.mpr hx)
/-- the people and the ties of a village -/
def IsTree (names : List α) (ties : List (α × α)) : Prop := ∃ ns ts, Grown ns ts ∧ ns.Perm names ∧ ts.Perm ties
section
variable {names : List α} {ties : List (α × α)}
theorem IsTree.nodup (t : IsTree names ties) : names.Nodup := by
  obtain ⟨ns, ts, g, p, q⟩ := t
  exact p.nodup_iff.mp g.nodup
theorem IsTree.len (t : IsTree names ties) : ties.length + 1 = names.length := by
  obtain ⟨ns, ts, g, p, q⟩ := t
  rw [← p.length_eq, ← q.length_eq]
  exact g.len
theorem IsTree.ends (t : IsTree names ties) : ∀ e ∈ ties, e.1 ∈ names ∧ e.2 ∈ names ∧ e.1 ≠ e.2 := by
  obtain ⟨ns, ts, g, p, q⟩ := t
  intro e h
  obtain ⟨h1, h2, h3⟩ := g.ends e (q.mem_iff.mpr h)
  exact ⟨p.mem_iff.mp h1, p.mem_iff.mp h2, h3⟩
theorem IsTree.rooted (t : IsTree names ties) {r : α} (hr : r ∈ names) : ∃ par dep, Rooted names (adj ties) r par dep := by
  obtain ⟨ns, ts, g, p, q⟩ := t
  obtain ⟨par, dep, R⟩ := g.rooted r (p.mem_iff.mpr hr)
  exact ⟨par, dep, R.perm p fun x y => adj_perm q⟩
theorem IsTree.tnodup (t : IsTree names ties) : ties.Nodup := by
  obtain ⟨ns, ts, g, p, q⟩ := t
  exact q.nodup_iff.mp g.tnodup
/-- ahead of a tie in the list: something that parts its two ends and no tie ahead -/
theorem IsTree.cut (t : IsTree names ties) {i : Nat} {e : α × α} (h : ties[i]? = some e) : ∃ S : α → Prop, S e.1 ∧ ¬ S e.2 ∧ ∀ t ∈ ties.take i, (S t.1 ↔ S t.2) := by
  have nd := t.tnodup
  obtain ⟨ns, ts, g, p, q⟩ := t
  obtain ⟨S, h1, h2, h3⟩ := g.cut e (q.mem_iff.mpr (List.mem_of_getElem? h))
  refine ⟨S, h1, h2, fun t ht => h3 t (q.mem_iff.mpr (List.mem_of_mem_take ht)) ?_⟩
  rintro rfl
  obtain ⟨j, hj, e1⟩ := List.mem_take_iff_getElem.mp ht
  obtain ⟨hi, e2⟩ := List.getElem?_eq_some_iff.mp h
  have := (List.getElem_inj nd).mp (e1.trans e2.symm)
  omega
theorem IsTree.noself (t : IsTree names ties) {x : α} : ¬ adj ties x x := fun h => by
  rcases h with h | h <;> exact (t.ends _ h).2.2 rfl
end
end
end K12

set_option maxHeartbeats 4000000
namespace K12
theorem sum_perm {l l' : List Int} (p : l.Perm l') : l.sum = l'.sum := by
  induction p with
  | nil => rfl
  | cons x _ ih => simp only [List.sum_cons]; omega
  | swap x y l => simp only [List.sum_cons]; omega
  | trans _ _ h1 h2 => exact h1.trans h2
section
variable {α : Type} [DecidableEq α]
theorem msum_perm {l l' : List α} (p : l.Perm l') (f : α → Int) : (l.map f).sum = (l'.map f).sum := sum_perm (p.map f)
theorem msum_congr {l : List α} {f g : α → Int} (h : ∀ x ∈ l, f x = g x) : (l.map f).sum = (l.map g).sum := by
  rw [List.map_congr_left h]
/-- those ahead of y -/
def ahead (l : List α) (y : α) : List α := l.take (l.idxOf y)
/-- each is given just what has come together ahead of them -/
def Fits (val want : α → Int) : Int → List α → Prop
  | _, [] => True
  | t, y :: r => want y = t ∧ Fits val want (t + val y) r
theorem Fits.congr {val val' want want' : α → Int} : ∀ {l : List α} {t : Int}, (∀ x ∈ l, val x = val' x) → (∀ x ∈ l, want x = want' x) → Fits val want t l → Fits val' want' t l
  | [], _, _, _, _ => trivial
  | y :: r, t, h1, h2, ⟨e, q⟩ => by
    refine ⟨(h2 y (by simp)).symm.trans e, ?_⟩
    rw [← h1 y (by simp)]
    exact Fits.congr (fun x hx => h1 x (by simp [hx])) (fun x hx => h2 x (by simp [hx])) q
theorem fits_append {val want : α → Int} : ∀ {a b : List α} {t : Int}, Fits val want t (a ++ b) ↔ Fits val want t a ∧ Fits val want (t + (a.map val).sum) b
  | [], b, t => by simp [Fits]
  | y :: r, b, t => by
    simp only [List.cons_append, Fits, fits_append (a := r), List.map_cons, List.sum_cons, and_assoc, Int.add_assoc]
theorem fits_iff {val want : α → Int} : ∀ {l : List α} {t : Int}, l.Nodup → (Fits val want t l ↔ ∀ y ∈ l, want y = t + ((ahead l y).map val).sum)
  | [], t, _ => by simp [Fits]
  | x :: r, t, nd => by
    obtain ⟨hx, nr⟩ := List.nodup_cons.mp nd
    have key : ∀ y ∈ r, ahead (x :: r) y = x :: ahead r y := fun y hy => by
      have hne : ¬ x = y := fun q => hx (q ▸ hy)
      unfold ahead
      have e : (x == y) = false := beq_eq_false_iff_ne.mpr hne
      rw [List.idxOf_cons, e]
      rfl
    have k0 : ahead (x :: r) x = [] := by unfold ahead; simp
    simp only [Fits, fits_iff nr]
    constructor
    · rintro ⟨h1, h2⟩ y hy
      rcases List.mem_cons.mp hy with rfl | hy
      · rw [k0]; simpa using h1
      · rw [key y hy, h2 y hy]
        simp only [List.map_cons, List.sum_cons]; omega
    · intro h
      refine ⟨by simpa [k0] using h x (by simp), fun y hy => ?_⟩
      have := h y (by simp [hy])
      rw [key y hy] at this
      simp only [List.map_cons, List.sum_cons] at this
      omega
/-- what is wanted rises, where all values are 1 or more -/
theorem fits_ge {val want : α → Int} : ∀ {l : List α} {t : Int}, (∀ x ∈ l, 1 ≤ val x) → Fits val want t l → ∀ y ∈ l, t ≤ want y
  | [], _, _, _, _, h => by cases h
  | x :: r, t, hp, ⟨e, q⟩, y, hy => by
    rcases List.mem_cons.mp hy with rfl | hy
    · omega
    · have := fits_ge (fun z hz => hp z (by simp [hz])) q y hy
      have := hp x (by simp)
      omega
theorem fits_rises {val want : α → Int} : ∀ {l : List α} {t : Int}, (∀ x ∈ l, 1 ≤ val x) → Fits val want t l → l.Pairwise (fun a b => want a < want b)
  | [], _, _, _ => .nil
  | x :: r, t, hp, ⟨e, q⟩ => by
    refine .cons (fun y hy => ?_) (fits_rises (fun z hz => hp z (by simp [hz])) q)
    have := fits_ge (fun z hz => hp z (by simp [hz])) q y hy
    have := hp x (by simp)
    omega

/-- the friends of x, in the village's order -/
def frn (names : List α) (ties : List (α × α)) (x : α) : List α := names.filter fun y => decide (adj ties y x)
theorem mem_frn {names : List α} {ties : List (α × α)} {x y : α} : y ∈ frn names ties x ↔ y ∈ names ∧ adj ties y x := by
  unfold frn; rw [List.mem_filter, decide_eq_true_eq]
theorem frn_nodup {names : List α} {ties : List (α × α)} {x : α} (h : names.Nodup) : (frn names ties x).Nodup := h.filter _

structure Vil (names : List α) (ties : List (α × α)) (own : α → Int) : Prop where
  tree : IsTree names ties
  pos : ∀ x ∈ names, 1 ≤ own x
def IsSl (names : List α) (ties : List (α × α)) (s : α → List α) : Prop := ∀ x ∈ names, (s x).Perm (frn names ties x)
/-- G x y: what x tells y -/
def IsGift (names : List α) (own : α → Int) (s : α → List α) (G : α → α → Int) : Prop := ∀ x ∈ names, Fits (fun f => G f x) (fun y => G x y) (own x) (s x)
def giftF (own : α → Int) (s : α → List α) : Nat → α → α → Int
  | 0, _, _ => 0
  | n + 1, x, y => own x + ((ahead (s x) y).map fun f => giftF own s n f x).sum
/-- how far the reckoning of what x tells y reaches -/
def rk (N : Nat) (r : α) (par : α → α) (dep : α → Nat) (x y : α) : Nat := if x ≠ r ∧ par x = y then N - dep x else N + dep x
section
variable {names : List α} {ties : List (α × α)} {own : α → Int} {s s' : α → List α} {r : α} {par : α → α} {dep : α → Nat} {G G' : α → α → Int}
theorem IsSl.nodup (h : IsSl names ties s) (nd : names.Nodup) {x : α} (hx : x ∈ names) : (s x).Nodup := (h x hx).nodup_iff.mpr (frn_nodup nd)
theorem IsSl.mem (h : IsSl names ties s) {x y : α} (hx : x ∈ names) : y ∈ s x ↔ y ∈ names ∧ adj ties y x := by rw [(h x hx).mem_iff, mem_frn]
theorem IsSl.sym (h : IsSl names ties s) {x y : α} (hx : x ∈ names) (hy : y ∈ s x) : y ∈ names ∧ x ∈ s y := by
  obtain ⟨h1, h2⟩ := (h.mem hx).mp hy
  exact ⟨h1, (h.mem h1).mpr ⟨hx, adj_comm h2⟩⟩
theorem mem_ahead {l : List α} (nd : l.Nodup) {y f : α} (hy : y ∈ l) (h : f ∈ ahead l y) : f ∈ l ∧ f ≠ y := by
  unfold ahead at h
  refine ⟨List.mem_of_mem_take h, ?_⟩
  rintro rfl
  obtain ⟨j, hj, e⟩ := List.mem_take_iff_getElem.mp h
  have h1 : l.idxOf f < l.length := List.idxOf_lt_length_iff.mpr hy
  have e2 : l[l.idxOf f] = f := List.getElem_idxOf h1
  have := (List.getElem_inj nd).mp (e.trans e2.symm)
  omega
theorem rk_lt (R : Rooted names (adj ties) r par dep) (nd : names.Nodup) (h : IsSl names ties s) {x y f : α} (hx : x ∈ names) (hy : y ∈ s x) (hf : f ∈ s x) (hne : f ≠ y) :
    f ∈ names ∧ x ∈ s f ∧ rk names.length r par dep f x < rk names.length r par dep x y := by
  obtain ⟨f1, f2⟩ := h.sym hx hf
  refine ⟨f1, f2, ?_⟩
  have e := R.edge x hx f f1 (adj_comm ((h.mem hx).mp hf).2)
  have bx := R.bound x hx
  have bf := R.bound f f1
  unfold rk
  by_cases up : x ≠ r ∧ par x = y
  · rw [if_pos up]
    rcases e with ⟨e1, e2⟩ | ⟨e1, e2⟩
    · exact absurd (e2.symm.trans up.2) hne
    · rw [if_pos ⟨e1, e2⟩]
      have := (R.up f f1 e1).2.2
      rw [e2] at this
      omega
  · rw [if_neg up]
    rcases e with ⟨e1, e2⟩ | ⟨e1, e2⟩
    · have h1 := (R.up x hx e1).2.2
      rw [e2] at h1
      have : ¬ (f ≠ r ∧ par f = x) := fun q => by
        have h2 := (R.up f f1 q.1).2.2
        rw [q.2] at h2
        omega
      rw [if_neg this]
      omega
    · rw [if_pos ⟨e1, e2⟩]
      have := (R.up f f1 e1).2.2
      omega
theorem rk_bound (R : Rooted names (adj ties) r par dep) {x y : α} (hx : x ∈ names) : rk names.length r par dep x y < 2 * names.length := by
  have := R.bound x hx
  unfold rk
  split <;> omega
theorem giftF_stable (R : Rooted names (adj ties) r par dep) (nd : names.Nodup) (h : IsSl names ties s) : ∀ (n m : Nat) (x y : α), x ∈ names → y ∈ s x → rk names.length r par dep x y < n → rk names.length r par dep x y < m → giftF own s n x y = giftF own s m x y
  | 0, _, _, _, _, _, h1, _ => by omega
  | _, 0, _, _, _, _, _, h2 => by omega
  | n + 1, m + 1, x, y, hx, hy, h1, h2 => by
    simp only [giftF]
    congr 1
    refine msum_congr fun f hf => ?_
    obtain ⟨f1, f2⟩ := mem_ahead (h.nodup nd hx) hy hf
    obtain ⟨g1, g2, g3⟩ := rk_lt R nd h hx hy f1 f2
    exact giftF_stable R nd h n m f x g1 g2 (by omega) (by omega)
/-- what one tells another, by slates -/
def gift (names : List α) (own : α → Int) (s : α → List α) : α → α → Int := giftF own s (2 * names.length)
theorem gift_eq (R : Rooted names (adj ties) r par dep) (nd : names.Nodup) (h : IsSl names ties s) {x y : α} (hx : x ∈ names) (hy : y ∈ s x) :
    gift names own s x y = own x + ((ahead (s x) y).map fun f => gift names own s f x).sum := by
  have b := rk_bound R (y := y) hx
  have e : gift names own s x y = giftF own s (2 * names.length + 1) x y := giftF_stable R nd h _ _ x y hx hy b (by omega)
  rw [e]
  rfl
theorem gift_is (t : IsTree names ties) (h : IsSl names ties s) : IsGift names own s (gift names own s) := fun x hx => by
  obtain ⟨par, dep, R⟩ := t.rooted hx
  rw [fits_iff (h.nodup t.nodup hx)]
  intro y hy
  exact gift_eq R t.nodup h hx hy
theorem IsGift.eq (g : IsGift names own s G) (nd : names.Nodup) (h : IsSl names ties s) {x y : α} (hx : x ∈ names) (hy : y ∈ s x) : G x y = own x + ((ahead (s x) y).map fun f => G f x).sum :=
  (fits_iff (h.nodup nd hx)).mp (g x hx) y hy
theorem IsGift.uniq (t : IsTree names ties) (h : IsSl names ties s) (g : IsGift names own s G) (g' : IsGift names own s G') {x y : α} (hx : x ∈ names) (hy : y ∈ s x) : G x y = G' x y := by
  obtain ⟨r, hr⟩ : ∃ r, r ∈ names := ⟨x, hx⟩
  obtain ⟨par, dep, R⟩ := t.rooted hr
  have key : ∀ (n : Nat) (x y : α), x ∈ names → y ∈ s x → rk names.length r par dep x y < n → G x y = G' x y := by
    intro n
    induction n with
    | zero => intro x y _ _ h; omega
    | succ n ih =>
      intro x y hx hy hn
      rw [g.eq t.nodup h hx hy, g'.eq t.nodup h hx hy]
      congr 1
      refine msum_congr fun f hf => ?_
      obtain ⟨f1, f2⟩ := mem_ahead (h.nodup t.nodup hx) hy hf
      obtain ⟨g1, g2, g3⟩ := rk_lt R t.nodup h hx hy f1 f2
      exact ih f x g1 g2 (by omega)
  exact key _ x y hx hy (Nat.lt_succ_self _)
theorem sum_nonneg {l : List Int} (h : ∀ x ∈ l, 0 ≤ x) : 0 ≤ l.sum := by
  induction l with
  | nil => simp
  | cons a r ih =>
    have := ih fun x hx => h x (by simp [hx])
    have := h a (by simp)
    simp only [List.sum_cons]; omega
theorem IsGift.pos (v : Vil names ties own) (h : IsSl names ties s) (g : IsGift names own s G) {x y : α} (hx : x ∈ names) (hy : y ∈ s x) : 1 ≤ G x y := by
  obtain ⟨r, hr⟩ : ∃ r, r ∈ names := ⟨x, hx⟩
  obtain ⟨par, dep, R⟩ := v.tree.rooted hr
  have key : ∀ (n : Nat) (x y : α), x ∈ names → y ∈ s x → rk names.length r par dep x y < n → 1 ≤ G x y := by
    intro n
    induction n with
    | zero => intro x y _ _ h; omega
    | succ n ih =>
      intro x y hx hy hn
      rw [g.eq v.tree.nodup h hx hy]
      have := v.pos x hx
      have := sum_nonneg (l := (ahead (s x) y).map fun f => G f x) fun z hz => by
        obtain ⟨f, hf, rfl⟩ := List.mem_map.mp hz
        obtain ⟨f1, f2⟩ := mem_ahead (h.nodup v.tree.nodup hx) hy hf
        obtain ⟨g1, g2, g3⟩ := rk_lt R v.tree.nodup h hx hy f1 f2
        have := ih f x g1 g2 (by omega)
        omega
      omega
  exact key _ x y hx hy (Nat.lt_succ_self _)
/-- how much a person has heard in the end -/
def ledg (names : List α) (own : α → Int) (s : α → List α) (x : α) : Int := own x + ((s x).map fun f => gift names own s f x).sum
/-- s are slates with the numbers num -/
def Good (names : List α) (ties : List (α × α)) (own : α → Int) (num : α → Int) (s : α → List α) : Prop := IsSl names ties s ∧ ∀ x ∈ names, ledg names own s x = num x
theorem good_of {num : α → Int} (t : IsTree names ties) (h : IsSl names ties s) (g : IsGift names own s G) (e : ∀ x ∈ names, num x = own x + ((s x).map fun f => G f x).sum) : Good names ties own num s := by
  refine ⟨h, fun x hx => ?_⟩
  rw [e x hx]
  unfold ledg
  congr 1
  refine msum_congr fun f hf => ?_
  obtain ⟨f1, f2⟩ := h.sym hx hf
  exact IsGift.uniq t h (gift_is t h) g f1 f2
end
end
end K12

set_option maxHeartbeats 4000000
namespace K12
/-! ### going through the friends behind -/
structure GS (α : Type) where
  total : Int
  found : List α
  told : Int
section
variable {α : Type} [DecidableEq α]
def goIns (met : Bool) (i : α) (front : Int) (giv : α → Int) (st : GS α) (y : α) : GS α :=
  if giv y ≠ st.total ∧ met = true ∧ st.told = 0 then ⟨st.total + front, st.found ++ [i], st.total⟩ else st
def goStep (met : Bool) (i : α) (front : Int) (giv gav : α → Int) (st : GS α) (y : α) : Option (GS α) :=
  if giv y ≠ (goIns met i front giv st y).total then none else some ⟨(goIns met i front giv st y).total + gav y, (goIns met i front giv st y).found ++ [y], (goIns met i front giv st y).told⟩
def goAll (met : Bool) (i : α) (front : Int) (giv gav : α → Int) : GS α → List α → Option (GS α)
  | st, [] => some st
  | st, y :: r => (goStep met i front giv gav st y).bind fun st' => goAll met i front giv gav st' r
def goEnd (met : Bool) (i : α) (st : GS α) : GS α := if met = true ∧ st.told = 0 then ⟨st.total, st.found ++ [i], st.total⟩ else st
def goThrough (met : Bool) (i : α) (front : Int) (giv gav : α → Int) (own : Int) (l : List α) : Option (GS α) := (goAll met i front giv gav ⟨own, [], 0⟩ l).map (goEnd met i)
variable {met : Bool} {i : α} {front own : Int} {giv gav : α → Int}
theorem goAll_snoc : ∀ {l : List α} {st : GS α} {y : α}, goAll met i front giv gav st (l ++ [y]) = (goAll met i front giv gav st l).bind fun st' => goStep met i front giv gav st' y
  | [], st, y => by
    simp only [List.nil_append, goAll, Option.bind_some]
    cases goStep met i front giv gav st y <;> rfl
  | x :: r, st, y => by
    simp only [List.cons_append, goAll]
    cases goStep met i front giv gav st x with
    | none => rfl
    | some st' => simp only [Option.bind_some]; exact goAll_snoc
theorem goAll_none_app {l m : List α} {st : GS α} (h : goAll met i front giv gav st l = none) : goAll met i front giv gav st (l ++ m) = none := by
  induction l generalizing st with
  | nil => cases h
  | cons x r ih =>
    simp only [List.cons_append, goAll] at h ⊢
    cases e : goStep met i front giv gav st x with
    | none => rfl
    | some st' =>
      rw [e] at h
      simp only [Option.bind_some] at h ⊢
      exact ih h
/-- where all fits, nobody is put in -/
theorem goAll_fits : ∀ {l : List α} {t : Int} {fd : List α} {told : Int}, Fits gav giv t l → goAll met i front giv gav ⟨t, fd, told⟩ l = some ⟨t + (l.map gav).sum, fd ++ l, told⟩
  | [], t, fd, told, _ => by simp [goAll]
  | y :: r, t, fd, told, ⟨e, q⟩ => by
    have e1 : goIns met i front giv ⟨t, fd, told⟩ y = ⟨t, fd, told⟩ := by
      unfold goIns
      rw [if_neg (fun z => z.1 e)]
    have e2 : goStep met i front giv gav ⟨t, fd, told⟩ y = some ⟨t + gav y, fd ++ [y], told⟩ := by
      unfold goStep
      rw [e1, if_neg (fun z => z e)]
    simp only [goAll, e2, Option.bind_some, goAll_fits q, List.map_cons, List.sum_cons, List.append_assoc, List.singleton_append, Int.add_assoc]
/-- what each of the person's friends tells, and is told -/
def vl (met : Bool) (i : α) (front : Int) (gav : α → Int) (y : α) : Int := if met = true ∧ y = i then front else gav y
def wn (met : Bool) (i : α) (told : Int) (giv : α → Int) (y : α) : Int := if met = true ∧ y = i then told else giv y
def one? (met : Bool) (i : α) : List α := if met = true then [i] else []
structure GInv (met : Bool) (i : α) (front : Int) (giv gav : α → Int) (own : Int) (done : List α) (st : GS α) : Prop where
  perm : st.found.Perm ((if st.told = 0 then [] else [i]) ++ done)
  total : st.total = own + (st.found.map (vl met i front gav)).sum
  fits : Fits (vl met i front gav) (wn met i st.told giv) own st.found
  told : st.told = 0 ∨ (met = true ∧ 1 ≤ st.told)
  pos : 1 ≤ st.total
theorem GInv.start (h : 1 ≤ own) : GInv met i front giv gav own [] ⟨own, [], 0⟩ := ⟨by simp, by simp, trivial, .inl rfl, h⟩
theorem GInv.step {done : List α} {st st' : GS α} {y : α} (I : GInv met i front giv gav own done st) (hy : ¬ (met = true ∧ y = i)) (hd : ¬ (met = true ∧ i ∈ done)) (hf : met = true → 1 ≤ front) (hg : 1 ≤ gav y) (e : goStep met i front giv gav st y = some st') : GInv met i front giv gav own (done ++ [y]) st' := by
  unfold goStep at e
  split at e
  · cases e
  · rename_i h1
    have h1 := Decidable.not_not.mp h1
    have e := (Option.some.inj e).symm
    have vy : vl met i front gav y = gav y := if_neg hy
    by_cases c : giv y ≠ st.total ∧ met = true ∧ st.told = 0
    · have e1 : goIns met i front giv st y = ⟨st.total + front, st.found ++ [i], st.total⟩ := if_pos c
      rw [e1] at e h1
      obtain ⟨c1, c2, c3⟩ := c
      have vi : vl met i front gav i = front := if_pos ⟨c2, rfl⟩
      have f1 := hf c2
      have p1 := I.pos
      have n0 : st.total ≠ 0 := by omega
      have ni : i ∉ st.found := fun z => by
        have z := I.perm.mem_iff.mp z
        rw [c3] at z
        exact hd ⟨c2, by simpa using z⟩
      rw [e]
      refine ⟨?_, ?_, ?_, .inr ⟨c2, p1⟩, by show 1 ≤ st.total + front + gav y; omega⟩
      · show (st.found ++ [i] ++ [y]).Perm ((if st.total = 0 then [] else [i]) ++ (done ++ [y]))
        rw [if_neg n0]
        have p := I.perm
        rw [c3] at p
        simp only [if_true, List.nil_append] at p
        rw [← List.append_assoc]
        refine List.Perm.append_right _ ?_
        exact (List.perm_append_comm).trans (List.Perm.append_left _ p)
      · show st.total + front + gav y = own + ((st.found ++ [i] ++ [y]).map (vl met i front gav)).sum
        simp only [List.map_append, List.map_cons, List.map_nil, List.sum_append, List.sum_cons, List.sum_nil, vi, vy]
        have := I.total
        omega
      · show Fits (vl met i front gav) (wn met i st.total giv) own (st.found ++ [i] ++ [y])
        rw [fits_append, fits_append]
        refine ⟨⟨I.fits.congr (fun _ _ => rfl) fun x hx => ?_, ?_⟩, ?_⟩
        · have : ¬ (met = true ∧ x = i) := fun z => ni (z.2 ▸ hx)
          unfold wn
          rw [if_neg this, if_neg this]
        · refine ⟨?_, trivial⟩
          rw [← I.total]
          exact if_pos ⟨c2, rfl⟩
        · refine ⟨?_, trivial⟩
          have : wn met i st.total giv y = giv y := if_neg hy
          rw [this, h1]
          simp only [List.map_append, List.map_cons, List.map_nil, List.sum_append, List.sum_cons, List.sum_nil, vi]
          have := I.total
          omega
    · have e1 : goIns met i front giv st y = st := if_neg c
      rw [e1] at e h1
      rw [e]
      have p1 := I.pos
      refine ⟨?_, ?_, ?_, I.told, by show 1 ≤ st.total + gav y; omega⟩
      · show (st.found ++ [y]).Perm ((if st.told = 0 then [] else [i]) ++ (done ++ [y]))
        rw [← List.append_assoc]
        exact List.Perm.append_right _ I.perm
      · show st.total + gav y = own + ((st.found ++ [y]).map (vl met i front gav)).sum
        simp only [List.map_append, List.map_cons, List.map_nil, List.sum_append, List.sum_cons, List.sum_nil, vy]
        have := I.total
        omega
      · show Fits (vl met i front gav) (wn met i st.told giv) own (st.found ++ [y])
        rw [fits_append]
        refine ⟨I.fits, ?_, trivial⟩
        have : wn met i st.told giv y = giv y := if_neg hy
        rw [this, h1]
        exact I.total
theorem GInv.all {l done : List α} {st st' : GS α} (I : GInv met i front giv gav own done st) (hl : ¬ (met = true ∧ i ∈ l)) (hd : ¬ (met = true ∧ i ∈ done)) (hf : met = true → 1 ≤ front) (hg : ∀ y ∈ l, 1 ≤ gav y) (e : goAll met i front giv gav st l = some st') : GInv met i front giv gav own (done ++ l) st' := by
  induction l generalizing done st with
  | nil =>
    cases e
    rw [List.append_nil]
    exact I
  | cons y r ih =>
    simp only [goAll] at e
    cases q : goStep met i front giv gav st y with
    | none => rw [q] at e; cases e
    | some st1 =>
      rw [q] at e
      have hy : ¬ (met = true ∧ y = i) := fun z => hl ⟨z.1, by simp [z.2]⟩
      have := ih (I.step hy hd hf (hg y (by simp)) q) (fun z => hl ⟨z.1, by simp [z.2]⟩) (fun z => by
        rcases List.mem_append.mp z.2 with h | h
        · exact hd ⟨z.1, h⟩
        · exact hl ⟨z.1, by simp [List.mem_singleton.mp h]⟩) (fun x hx => hg x (by simp [hx])) e
      rwa [List.append_assoc, List.singleton_append] at this
/-- what is found fits -/
theorem go_sound {l : List α} {st : GS α} (ho : 1 ≤ own) (hl : ¬ (met = true ∧ i ∈ l)) (hf : met = true → 1 ≤ front) (hg : ∀ y ∈ l, 1 ≤ gav y) (e : goThrough met i front giv gav own l = some st) :
    st.found.Perm (one? met i ++ l) ∧ Fits (vl met i front gav) (wn met i st.told giv) own st.found ∧ (met = true → 1 ≤ st.told) := by
  unfold goThrough at e
  cases q : goAll met i front giv gav ⟨own, [], 0⟩ l with
  | none => rw [q] at e; cases e
  | some st1 =>
    rw [q] at e
    have e := (Option.some.inj (show some (goEnd met i st1) = some st from e)).symm
    have I := GInv.all (GInv.start ho) hl (fun z => by cases z.2) hf hg q
    rw [List.nil_append] at I
    by_cases c : met = true ∧ st1.told = 0
    · have e1 : goEnd met i st1 = ⟨st1.total, st1.found ++ [i], st1.total⟩ := if_pos c
      rw [e1] at e
      obtain ⟨c1, c2⟩ := c
      have p := I.perm
      rw [c2] at p
      simp only [if_true, List.nil_append] at p
      have ni : i ∉ st1.found := fun z => hl ⟨c1, p.mem_iff.mp z⟩
      rw [e]
      refine ⟨?_, ?_, fun _ => I.pos⟩
      · unfold one?
        rw [if_pos c1]
        exact List.perm_append_comm.trans (List.Perm.append_left _ p)
      · show Fits (vl met i front gav) (wn met i st1.total giv) own (st1.found ++ [i])
        rw [fits_append]
        refine ⟨I.fits.congr (fun _ _ => rfl) fun x hx => ?_, ?_, trivial⟩
        · have : ¬ (met = true ∧ x = i) := fun z => ni (z.2 ▸ hx)
          unfold wn
          rw [if_neg this, if_neg this]
        · rw [← I.total]
          exact if_pos ⟨c1, rfl⟩
    · have e1 : goEnd met i st1 = st1 := if_neg c
      rw [e1] at e
      rw [e]
      have p := I.perm
      refine ⟨?_, I.fits, fun m => I.told.elim (fun z => absurd ⟨m, z⟩ c) fun z => z.2⟩
      rcases I.told with h0 | ⟨h1, h2⟩
      · have hm : ¬ met = true := fun m => c ⟨m, h0⟩
        rw [h0] at p
        unfold one?
        rw [if_neg hm]
        exact p
      · have n0 : ¬ st1.told = 0 := by omega
        rw [if_neg n0] at p
        unfold one?
        rw [if_pos h1]
        exact p
theorem sorted_eq {val want : α → Int} {l f : List α} {t : Int} (hv : ∀ x ∈ f, 1 ≤ val x) (h : Fits val want t f) (p : l.Perm f) (hs : l.Pairwise (fun a b => want a ≤ want b)) : l = f := by
  have r := fits_rises hv h
  refine List.Perm.eq_of_pairwise (le := fun a b => want a ≤ want b) (fun a b ha hb h1 h2 => ?_) hs (r.imp fun h => Int.le_of_lt h) p
  have ha' := p.mem_iff.mp ha
  obtain ⟨j, hj, e1⟩ := List.mem_iff_getElem.mp ha'
  obtain ⟨k, hk, e2⟩ := List.mem_iff_getElem.mp hb
  rcases Nat.lt_trichotomy j k with z | z | z
  · have := List.pairwise_iff_getElem.mp r j k hj hk z
    rw [e1, e2] at this
    omega
  · subst z
    rw [← e1, ← e2]
  · have := List.pairwise_iff_getElem.mp r k j hk hj z
    rw [e1, e2] at this
    omega
/-- what fits is found -/
theorem go_complete {l f : List α} {W : Int} (ho : 1 ≤ own) (hl : ¬ (met = true ∧ i ∈ l)) (hf : met = true → 1 ≤ front) (hg : ∀ y ∈ l, 1 ≤ gav y) (hs : l.Pairwise (fun a b => giv a ≤ giv b))
    (p : f.Perm (one? met i ++ l)) (h : Fits (vl met i front gav) (wn met i W giv) own f) : ∃ st, goThrough met i front giv gav own l = some st ∧ st.found = f ∧ (met = true → st.told = W) ∧ (met = false → st.told = 0) := by
  have hv : ∀ x ∈ f, 1 ≤ vl met i front gav x := fun x hx => by
    unfold vl
    split
    · rename_i z
      exact hf z.1
    · rename_i z
      have hx := p.mem_iff.mp hx
      unfold one? at hx
      rcases List.mem_append.mp hx with k | k
      · split at k
        · rename_i m
          exact absurd ⟨m, List.mem_singleton.mp k⟩ z
        · cases k
      · exact hg x k
  cases hm : met with
  | false =>
    subst hm
    have p' : f.Perm l := p
    have h' : Fits gav giv own f := h.congr (fun x _ => if_neg (fun z => nomatch z.1)) fun x _ => if_neg (fun z => nomatch z.1)
    have e : l = f := sorted_eq (val := gav) (want := giv) (fun x hx => hg x (p'.mem_iff.mp hx)) h' p'.symm hs
    subst e
    refine ⟨⟨own + (l.map gav).sum, l, 0⟩, ?_, rfl, (fun z => by cases z), fun _ => rfl⟩
    unfold goThrough
    rw [goAll_fits h'] <;> rfl
  | true =>
    subst hm
    have hi : i ∈ f := p.mem_iff.mpr (by simp [one?])
    obtain ⟨a, b, ef⟩ := List.append_of_mem hi
    have nil' : i ∉ l := fun z => hl ⟨rfl, z⟩
    have pab : (a ++ b).Perm l := by
      have q : (i :: (a ++ b)).Perm (i :: l) := by
        refine (List.perm_middle).symm.trans ?_
        rw [← ef]
        exact p
      exact (List.perm_cons i).mp q
    have na : i ∉ a := fun z => nil' (pab.mem_iff.mp (List.mem_append_left _ z))
    have nb : i ∉ b := fun z => nil' (pab.mem_iff.mp (List.mem_append_right _ z))
    have rises := fits_rises hv h
    have rab : (a ++ b).Pairwise (fun x y => wn true i W giv x < wn true i W giv y) := by
      rw [ef] at rises
      exact rises.sublist (List.Sublist.append (List.Sublist.refl a) (List.sublist_cons_self i b))
    have weq : ∀ x, x ∈ a ++ b → wn true i W giv x = giv x := fun x hx => if_neg fun z => by
      rcases List.mem_append.mp hx with k | k
      · exact na (z.2 ▸ k)
      · exact nb (z.2 ▸ k)
    have veq : ∀ x, x ∈ a ++ b → vl true i front gav x = gav x := fun x hx => if_neg fun z => by
      rcases List.mem_append.mp hx with k | k
      · exact na (z.2 ▸ k)
      · exact nb (z.2 ▸ k)
    have el : l = a ++ b := by
      refine List.Perm.eq_of_pairwise (le := fun a b => giv a ≤ giv b) (fun x y hx hy h1 h2 => ?_) hs ?_ pab.symm
      · obtain ⟨j, hj, e1⟩ := List.mem_iff_getElem.mp (pab.mem_iff.mpr hx)
        obtain ⟨k, hk, e2⟩ := List.mem_iff_getElem.mp hy
        have key : ∀ (j k : Nat) (hj : j < (a ++ b).length) (hk : k < (a ++ b).length), j < k → giv (a ++ b)[j] < giv (a ++ b)[k] := fun j k hj hk z => by
          have := List.pairwise_iff_getElem.mp rab j k hj hk z
          rwa [weq _ (List.getElem_mem hj), weq _ (List.getElem_mem hk)] at this
        rcases Nat.lt_trichotomy j k with z | z | z
        · have := key j k hj hk z
          rw [e1, e2] at this
          omega
        · subst z
          rw [← e1, ← e2]
        · have := key k j hk hj z
          rw [e1, e2] at this
          omega
      · refine rab.imp_of_mem fun {x y} hx hy q => ?_
        rw [weq x hx, weq y hy] at q
        omega
    rw [ef, fits_append] at h
    obtain ⟨h1, h2, h3⟩ := h
    have hw : wn true i W giv i = W := if_pos ⟨rfl, rfl⟩
    have hvi : vl true i front gav i = front := if_pos ⟨rfl, rfl⟩
    rw [hw] at h2
    rw [hvi] at h3
    have sa : (a.map (vl true i front gav)).sum = (a.map gav).sum := msum_congr fun x hx => veq x (List.mem_append_left _ hx)
    rw [sa] at h2 h3
    have h1' : Fits gav giv own a := h1.congr (fun x hx => veq x (List.mem_append_left _ hx)) fun x hx => weq x (List.mem_append_left _ hx)
    have h3' : Fits gav giv (own + (a.map gav).sum + front) b := h3.congr (fun x hx => veq x (List.mem_append_right _ hx)) fun x hx => weq x (List.mem_append_right _ hx)
    have posT : 1 ≤ own + (a.map gav).sum := by
      have := sum_nonneg (l := a.map gav) fun z hz => by
        obtain ⟨x, hx, rfl⟩ := List.mem_map.mp hz
        have := hg x (pab.mem_iff.mp (List.mem_append_left _ hx))
        omega
      omega
    have f1 := hf rfl
    have goApp : ∀ {l m : List α} {st : GS α}, goAll true i front giv gav st (l ++ m) = (goAll true i front giv gav st l).bind fun st' => goAll true i front giv gav st' m := by
      intro l m
      induction l with
      | nil => intro st; rfl
      | cons x r ih =>
        intro st
        simp only [List.cons_append, goAll]
        cases goStep true i front giv gav st x with
        | none => rfl
        | some st' => simp only [Option.bind_some]; exact ih
    rw [el]
    cases b with
    | nil =>
      refine ⟨⟨own + (a.map gav).sum, a ++ [i], own + (a.map gav).sum⟩, ?_, by rw [ef], (fun _ => h2.symm), fun z => by cases z⟩
      unfold goThrough
      rw [List.append_nil, goAll_fits h1']
      simp only [Option.map_some, goEnd, List.nil_append, true_and, if_true]
    | cons y b' =>
      obtain ⟨k1, k2⟩ := h3'
      have e1 : goIns true i front giv ⟨own + (a.map gav).sum, [] ++ a, 0⟩ y = ⟨own + (a.map gav).sum + front, [] ++ a ++ [i], own + (a.map gav).sum⟩ := by
        refine if_pos ⟨?_, rfl, rfl⟩
        show giv y ≠ own + (a.map gav).sum
        omega
      have e2 : goStep true i front giv gav ⟨own + (a.map gav).sum, [] ++ a, 0⟩ y = some ⟨own + (a.map gav).sum + front + gav y, [] ++ a ++ [i] ++ [y], own + (a.map gav).sum⟩ := by
        unfold goStep
        rw [e1]
        exact if_neg fun z => z k1
      refine ⟨⟨own + (a.map gav).sum + front + gav y + (b'.map gav).sum, [] ++ a ++ [i] ++ [y] ++ b', own + (a.map gav).sum⟩, ?_, by rw [ef]; simp, (fun _ => h2.symm), fun z => by cases z⟩
      unfold goThrough
      rw [goApp, goAll_fits h1']
      simp only [Option.bind_some, goAll, e2, goAll_fits k2, Option.map_some]
      congr 1
      refine if_neg fun z => ?_
      have : own + (a.map gav).sum = 0 := z.2
      omega
end
end K12

set_option maxHeartbeats 4000000
namespace K12
/-! ### from the rims inward -/
section
variable {α : Type} [DecidableEq α]
/-- a new value at one place -/
def put {β : Type} (g : α → β) (p : α) (v : β) : α → β := fun y => if y = p then v else g y
theorem put_at {β : Type} {g : α → β} {p : α} {v : β} : put g p v p = v := if_pos rfl
theorem put_ne {β : Type} {g : α → β} {p y : α} {v : β} (h : y ≠ p) : put g p v y = g y := if_neg h
variable {names : List α} {ties : List (α × α)} {own num : α → Int} {r : α} {par : α → α} {dep : α → Nat}
/-- whether x has a friend further in -/
def inn (r x : α) : Bool := decide (x ≠ r)
theorem inn_t {x : α} (h : x ≠ r) : inn r x = true := decide_eq_true h
/-- the friends behind x -/
def kids (names : List α) (ties : List (α × α)) (r : α) (par : α → α) (x : α) : List α := (frn names ties x).filter fun y => decide (¬ (x ≠ r ∧ y = par x))
theorem mem_kids {x y : α} : y ∈ kids names ties r par x ↔ (y ∈ names ∧ adj ties y x) ∧ ¬ (x ≠ r ∧ y = par x) := by
  unfold kids
  rw [List.mem_filter, mem_frn, decide_eq_true_eq]
theorem kid_par (R : Rooted names (adj ties) r par dep) {x y : α} (hx : x ∈ names) (h : y ∈ kids names ties r par x) : y ≠ r ∧ par y = x := by
  obtain ⟨⟨h1, h2⟩, h3⟩ := mem_kids.mp h
  rcases R.edge x hx y h1 (adj_comm h2) with z | z
  · exact absurd ⟨z.1, z.2.symm⟩ h3
  · exact z
theorem par_kid (R : Rooted names (adj ties) r par dep) {x y : α} (hy : y ∈ names) (h1 : y ≠ r) (h2 : par y = x) : y ∈ kids names ties r par x := by
  obtain ⟨u1, u2, u3⟩ := R.up y hy h1
  rw [h2] at u1 u2 u3
  refine mem_kids.mpr ⟨⟨hy, u2⟩, fun z => ?_⟩
  have := (R.up x u1 z.1).2.2
  rw [← z.2] at this
  omega
theorem frn_perm (R : Rooted names (adj ties) r par dep) (nd : names.Nodup) {x : α} (hx : x ∈ names) : (frn names ties x).Perm (one? (inn r x) (par x) ++ kids names ties r par x) := by
  by_cases h : x = r
  · have e : kids names ties r par x = frn names ties x := by
      unfold kids
      refine List.filter_eq_self.mpr fun y _ => decide_eq_true fun z => z.1 h
    have e2 : one? (inn r x) (par x) = [] := by
      unfold one? inn
      simp [h]
    rw [e, e2]
    exact List.Perm.refl _
  · have e2 : one? (inn r x) (par x) = [par x] := by
      unfold one?
      rw [inn_t h] <;> rfl
    rw [e2]
    obtain ⟨u1, u2, u3⟩ := R.up x hx h
    have hm : par x ∈ frn names ties x := mem_frn.mpr ⟨u1, adj_comm u2⟩
    have e : kids names ties r par x = (frn names ties x).erase (par x) := by
      unfold kids
      rw [(frn_nodup nd).erase_eq_filter]
      refine List.filter_congr fun y _ => ?_
      by_cases q : y = par x
      · simp [q, h]
      · simp [q]
    rw [e]
    exact (List.perm_cons_erase hm)
structure BInv (names : List α) (ties : List (α × α)) (own num : α → Int) (r : α) (par : α → α) (done : List α) (g t : α → Int) (f : α → List α) : Prop where
  perm : ∀ x ∈ done, (f x).Perm (frn names ties x)
  sub : ∀ x ∈ done, x ∈ names
  kid : ∀ x ∈ done, ∀ y ∈ kids names ties r par x, y ∈ done
  pos : ∀ x ∈ done, x ≠ r → 1 ≤ g x ∧ 1 ≤ t x
  fits : ∀ x ∈ done, Fits (vl (inn r x) (par x) (g x) t) (wn (inn r x) (par x) (t x) g) (own x) (f x)
  numb : ∀ x ∈ done, num x = own x + ((f x).map (vl (inn r x) (par x) (g x) t)).sum
  comp : ∀ s, Good names ties own num s → ∀ x ∈ done, s x = f x ∧ (x ≠ r → gift names own s (par x) x = g x ∧ gift names own s x (par x) = t x)
theorem BInv.nil {g t : α → Int} {f : α → List α} : BInv names ties own num r par [] g t f where
  perm := fun _ h => nomatch h
  sub := fun _ h => nomatch h
  kid := fun _ h => nomatch h
  pos := fun _ h => nomatch h
  fits := fun _ h => nomatch h
  numb := fun _ h => nomatch h
  comp := fun _ _ _ h => nomatch h
variable {done l : List α} {g t : α → Int} {f : α → List α} {p : α}
/-- what right slates say of the next person -/
theorem BInv.front (v : Vil names ties own) (R : Rooted names (adj ties) r par dep) (B : BInv names ties own num r par done g t f) (hp : p ∈ names) (hk : ∀ y ∈ kids names ties r par p, y ∈ done) (pl : l.Perm (kids names ties r par p))
    {s : α → List α} (G : Good names ties own num s) : (p = r → num p - own p - (l.map t).sum = 0) ∧ (p ≠ r → num p - own p - (l.map t).sum = gift names own s (par p) p ∧ 1 ≤ gift names own s (par p) p) ∧
      Fits (vl (inn r p) (par p) (num p - own p - (l.map t).sum) t) (wn (inn r p) (par p) (gift names own s p (par p)) g) (own p) (s p) ∧ (s p).Perm (one? (inn r p) (par p) ++ l) := by
  have nd := v.tree.nodup
  have ps : (s p).Perm (one? (inn r p) (par p) ++ l) := ((G.1 p hp).trans (frn_perm R nd hp)).trans (List.Perm.append_left _ pl.symm)
  have kd : ∀ y ∈ l, gift names own s p y = g y ∧ gift names own s y p = t y := fun y hy => by
    have hy' := pl.mem_iff.mp hy
    obtain ⟨k1, k2⟩ := kid_par R hp hy'
    have := (B.comp s G y (hk y hy')).2 k1
    rw [k2] at this
    exact this
  have e := G.2 p hp
  unfold ledg at e
  rw [msum_perm ps] at e
  rw [List.map_append, List.sum_append] at e
  have e2 : (l.map fun f => gift names own s f p).sum = (l.map t).sum := msum_congr fun y hy => (kd y hy).2
  rw [e2] at e
  have fr : p ≠ r → num p - own p - (l.map t).sum = gift names own s (par p) p := fun h => by
    unfold one? at e
    rw [inn_t h] at e
    simp only [if_true, List.map_cons, List.map_nil, List.sum_cons, List.sum_nil] at e
    omega
  refine ⟨fun h => ?_, fun h => ⟨fr h, ?_⟩, ?_, ps⟩
  · have h0 : inn r p = false := by unfold inn; simp [h]
    unfold one? at e
    rw [h0] at e
    simp at e
    omega
  · obtain ⟨u1, u2, u3⟩ := R.up p hp h
    exact IsGift.pos v G.1 (gift_is v.tree G.1) u1 ((G.1.mem u1).mpr ⟨hp, u2⟩)
  · refine Fits.congr (fun y hy => ?_) (fun y hy => ?_) (gift_is v.tree G.1 p hp)
    · have hy := ps.mem_iff.mp hy
      unfold vl
      split
      · rename_i z
        have hpr : p ≠ r := of_decide_eq_true z.1
        rw [z.2]
        exact (fr hpr).symm
      · rename_i z
        rcases List.mem_append.mp hy with q | q
        · unfold one? at q
          split at q
          · rename_i m
            exact absurd ⟨m, List.mem_singleton.mp q⟩ z
          · cases q
        · exact (kd y q).2
    · have hy := ps.mem_iff.mp hy
      unfold wn
      split
      · rename_i z
        rw [z.2]
      · rename_i z
        rcases List.mem_append.mp hy with q | q
        · unfold one? at q
          split at q
          · rename_i m
            exact absurd ⟨m, List.mem_singleton.mp q⟩ z
          · cases q
        · exact (kd y q).1
/-- the numbers are whole, as far as the next person goes -/
def FrontOk (r p : α) (front : Int) : Prop := (p = r → front = 0) ∧ (p ≠ r → 1 ≤ front)
theorem kids_not (R : Rooted names (adj ties) r par dep) (hp : p ∈ names) (pl : l.Perm (kids names ties r par p)) : ¬ (inn r p = true ∧ par p ∈ l) := fun z => by
  have h1 : p ≠ r := of_decide_eq_true z.1
  exact (mem_kids.mp (pl.mem_iff.mp z.2)).2 ⟨h1, rfl⟩
/-- behind a break there are no slates -/
theorem BInv.broke (v : Vil names ties own) (R : Rooted names (adj ties) r par dep) (B : BInv names ties own num r par done g t f) (hp : p ∈ names) (hk : ∀ y ∈ kids names ties r par p, y ∈ done) (pl : l.Perm (kids names ties r par p))
    (hs : l.Pairwise (fun a b => g a ≤ g b)) (h : FrontOk r p (num p - own p - (l.map t).sum) → goThrough (inn r p) (par p) (num p - own p - (l.map t).sum) g t (own p) l = none) : ∀ s, ¬ Good names ties own num s := fun s G => by
  obtain ⟨h1, h2, h3, h4⟩ := B.front v R hp hk pl G
  have ok : FrontOk r p (num p - own p - (l.map t).sum) := ⟨h1, fun z => by have := h2 z; omega⟩
  have e := h ok
  have kd : ∀ y ∈ l, 1 ≤ t y := fun y hy => by
    have hy' := pl.mem_iff.mp hy
    exact (B.pos y (hk y hy') (kid_par R hp hy').1).2
  obtain ⟨st, e2, _⟩ := go_complete (v.pos p hp) (kids_not R hp pl) (fun z => ok.2 (of_decide_eq_true z)) kd hs h4 h3
  rw [e] at e2
  cases e2
/-- one person more -/
theorem BInv.turn (v : Vil names ties own) (R : Rooted names (adj ties) r par dep) (B : BInv names ties own num r par done g t f) (hp : p ∈ names) (hd : p ∉ done) (hk : ∀ y ∈ kids names ties r par p, y ∈ done) (pl : l.Perm (kids names ties r par p))
    (hs : l.Pairwise (fun a b => g a ≤ g b)) (ok : FrontOk r p (num p - own p - (l.map t).sum)) {st : GS α} (e : goThrough (inn r p) (par p) (num p - own p - (l.map t).sum) g t (own p) l = some st) :
    BInv names ties own num r par (done ++ [p]) (put g p (num p - own p - (l.map t).sum)) (put t p st.told) (put f p st.found) := by
  have nd := v.tree.nodup
  have kd : ∀ y ∈ l, 1 ≤ t y := fun y hy => by
    have hy' := pl.mem_iff.mp hy
    exact (B.pos y (hk y hy') (kid_par R hp hy').1).2
  have hni := kids_not R hp pl
  have hfr : inn r p = true → 1 ≤ num p - own p - (l.map t).sum := fun z => ok.2 (of_decide_eq_true z)
  obtain ⟨s1, s2, s3⟩ := go_sound (v.pos p hp) hni hfr kd e
  have nl : ∀ y ∈ l, y ≠ p := fun y hy q => by
    have hy' := pl.mem_iff.mp hy
    rw [q] at hy'
    exact hd (hk p hy')
  have ndn : ∀ x ∈ done, x ≠ p := fun x hx q => hd (q ▸ hx)
  have mem : ∀ {x}, x ∈ done ++ [p] → x ∈ done ∨ x = p := fun {x} h => (List.mem_append.mp h).elim .inl fun z => .inr (List.mem_singleton.mp z)
  have pf : st.found.Perm (frn names ties p) := (s1.trans (List.Perm.append_left _ pl)).trans (frn_perm R nd hp).symm
  -- what is looked at of a person that was done is old
  have oldv : ∀ x ∈ done, ∀ y ∈ f x, vl (inn r x) (par x) (put g p (num p - own p - (l.map t).sum) x) (put t p st.told) y = vl (inn r x) (par x) (g x) t y := fun x hx y hy => by
    rw [put_ne (ndn x hx)]
    unfold vl
    split
    · rfl
    · rename_i z
      have hy' := ((B.perm x hx).trans (frn_perm R nd (B.sub x hx))).mem_iff.mp hy
      rcases List.mem_append.mp hy' with q | q
      · unfold one? at q
        split at q
        · rename_i m
          exact absurd ⟨m, List.mem_singleton.mp q⟩ z
        · cases q
      · exact put_ne (ndn y (B.kid x hx y q))
  have oldw : ∀ x ∈ done, ∀ y ∈ f x, wn (inn r x) (par x) (put t p st.told x) (put g p (num p - own p - (l.map t).sum)) y = wn (inn r x) (par x) (t x) g y := fun x hx y hy => by
    rw [put_ne (ndn x hx)]
    unfold wn
    split
    · rfl
    · rename_i z
      have hy' := ((B.perm x hx).trans (frn_perm R nd (B.sub x hx))).mem_iff.mp hy
      rcases List.mem_append.mp hy' with q | q
      · unfold one? at q
        split at q
        · rename_i m
          exact absurd ⟨m, List.mem_singleton.mp q⟩ z
        · cases q
      · exact put_ne (ndn y (B.kid x hx y q))
  have newv : ∀ y ∈ st.found, vl (inn r p) (par p) (put g p (num p - own p - (l.map t).sum) p) (put t p st.told) y = vl (inn r p) (par p) (num p - own p - (l.map t).sum) t y := fun y hy => by
    rw [put_at]
    unfold vl
    split
    · rfl
    · rename_i z
      rcases List.mem_append.mp (s1.mem_iff.mp hy) with q | q
      · unfold one? at q
        split at q
        · rename_i m
          exact absurd ⟨m, List.mem_singleton.mp q⟩ z
        · cases q
      · exact put_ne (nl y q)
  have neww : ∀ y ∈ st.found, wn (inn r p) (par p) (put t p st.told p) (put g p (num p - own p - (l.map t).sum)) y = wn (inn r p) (par p) st.told g y := fun y hy => by
    rw [put_at]
    unfold wn
    split
    · rfl
    · rename_i z
      rcases List.mem_append.mp (s1.mem_iff.mp hy) with q | q
      · unfold one? at q
        split at q
        · rename_i m
          exact absurd ⟨m, List.mem_singleton.mp q⟩ z
        · cases q
      · exact put_ne (nl y q)
  have sumF : (st.found.map (vl (inn r p) (par p) (num p - own p - (l.map t).sum) t)).sum = num p - own p := by
    rw [msum_perm s1, List.map_append, List.sum_append]
    have e1 : (l.map (vl (inn r p) (par p) (num p - own p - (l.map t).sum) t)).sum = (l.map t).sum := msum_congr fun y hy => if_neg fun (z : inn r p = true ∧ y = par p) => hni ⟨z.1, z.2 ▸ hy⟩
    rw [e1]
    unfold one?
    by_cases h : p = r
    · have h0 : inn r p = false := by unfold inn; simp [h]
      rw [h0]
      have := ok.1 h
      simp
      omega
    · rw [inn_t h]
      simp only [if_true, List.map_cons, List.map_nil, List.sum_cons, List.sum_nil, vl, true_and]
      omega
  refine ⟨fun x hx => ?_, fun x hx => ?_, fun x hx y hy => ?_, fun x hx hne => ?_, fun x hx => ?_, fun x hx => ?_, fun s G x hx => ?_⟩
  · rcases mem hx with hx | rfl
    · rw [put_ne (ndn x hx)]; exact B.perm x hx
    · rw [put_at]; exact pf
  · rcases mem hx with hx | rfl
    · exact B.sub x hx
    · exact hp
  · rcases mem hx with hx | rfl
    · exact List.mem_append_left _ (B.kid x hx y hy)
    · exact List.mem_append_left _ (hk y hy)
  · rcases mem hx with hx | rfl
    · rw [put_ne (ndn x hx), put_ne (ndn x hx)]; exact B.pos x hx hne
    · rw [put_at, put_at]; exact ⟨ok.2 hne, s3 (inn_t hne)⟩
  · rcases mem hx with hx | rfl
    · rw [put_ne (g := f) (ndn x hx)]
      exact (B.fits x hx).congr (fun y hy => (oldv x hx y hy).symm) fun y hy => (oldw x hx y hy).symm
    · rw [put_at (g := f)]
      exact s2.congr (fun y hy => (newv y hy).symm) fun y hy => (neww y hy).symm
  · rcases mem hx with hx | rfl
    · rw [put_ne (g := f) (ndn x hx), msum_congr (oldv x hx)]
      exact B.numb x hx
    · rw [put_at (g := f), msum_congr newv, sumF]
      omega
  · rcases mem hx with hx | rfl
    · rw [put_ne (ndn x hx), put_ne (ndn x hx), put_ne (ndn x hx)]
      exact B.comp s G x hx
    · rw [put_at, put_at, put_at]
      obtain ⟨h1, h2, h3, h4⟩ := B.front v R hp hk pl G
      obtain ⟨st', e2, e3, e4, e5⟩ := go_complete (v.pos _ hp) hni hfr kd hs h4 h3
      rw [e] at e2
      cases e2
      exact ⟨e3.symm, fun hne => ⟨(h2 hne).1.symm, (e4 (inn_t hne)).symm⟩⟩
/-- behind all people the slates are found -/
theorem BInv.good (v : Vil names ties own) (R : Rooted names (adj ties) r par dep) (B : BInv names ties own num r par done g t f) (all : ∀ x ∈ names, x ∈ done) : Good names ties own num f := by
  have nd := v.tree.nodup
  have sl : IsSl names ties f := fun x hx => B.perm x (all x hx)
  refine good_of (G := fun x y => wn (inn r x) (par x) (t x) g y) v.tree sl (fun x hx => ?_) fun x hx => ?_
  · refine (B.fits x (all x hx)).congr (fun y hy => ?_) fun y hy => rfl
    obtain ⟨y1, y2⟩ := sl.sym hx hy
    have e := R.edge x hx y y1 (adj_comm ((sl.mem hx).mp hy).2)
    show (if inn r x = true ∧ y = par x then g x else t y) = (if inn r y = true ∧ x = par y then t y else g x)
    rcases e with ⟨e1, e2⟩ | ⟨e1, e2⟩
    · have : ¬ (inn r y = true ∧ x = par y) := fun z => by
        have h1 := (R.up x hx e1).2.2
        have h2 := (R.up y y1 (of_decide_eq_true z.1)).2.2
        rw [e2] at h1
        rw [← z.2] at h2
        omega
      rw [if_pos ⟨inn_t e1, e2.symm⟩, if_neg this]
    · have : ¬ (inn r x = true ∧ y = par x) := fun z => by
        have h1 := (R.up x hx (of_decide_eq_true z.1)).2.2
        have h2 := (R.up y y1 e1).2.2
        rw [e2] at h2
        rw [← z.2] at h1
        omega
      rw [if_neg this, if_pos ⟨inn_t e1, e2.symm⟩]
  · rw [B.numb x (all x hx)]
    congr 1
    refine msum_congr fun y hy => ?_
    obtain ⟨y1, y2⟩ := sl.sym hx hy
    have e := R.edge x hx y y1 (adj_comm ((sl.mem hx).mp hy).2)
    show (if inn r x = true ∧ y = par x then g x else t y) = (if inn r y = true ∧ x = par y then t y else g x)
    rcases e with ⟨e1, e2⟩ | ⟨e1, e2⟩
    · have : ¬ (inn r y = true ∧ x = par y) := fun z => by
        have h1 := (R.up x hx e1).2.2
        have h2 := (R.up y y1 (of_decide_eq_true z.1)).2.2
        rw [e2] at h1
        rw [← z.2] at h2
        omega
      rw [if_pos ⟨inn_t e1, e2.symm⟩, if_neg this]
    · have : ¬ (inn r x = true ∧ y = par x) := fun z => by
        have h1 := (R.up x hx (of_decide_eq_true z.1)).2.2
        have h2 := (R.up y y1 e1).2.2
        rw [e2] at h2
        rw [← z.2] at h1
        omega
      rw [if_neg this, if_pos ⟨inn_t e1, e2.symm⟩]
/-- an order of the people in which those farther off go ahead -/
def FarFirst (names : List α) (dep : α → Nat) (ord : List α) : Prop := ord.Perm names ∧ ord.Pairwise (fun a b => dep b ≤ dep a)
theorem FarFirst.kids (R : Rooted names (adj ties) r par dep) {ord : List α} (o : FarFirst names dep ord) {i : Nat} {p : α} (h : ord[i]? = some p) : ∀ y ∈ kids names ties r par p, y ∈ ord.take i := fun y hy => by
  have hp : p ∈ names := o.1.mem_iff.mp (List.mem_of_getElem? h)
  obtain ⟨k1, k2⟩ := kid_par R hp hy
  have hy' : y ∈ names := (mem_kids.mp hy).1.1
  have d := (R.up y hy' k1).2.2
  rw [k2] at d
  obtain ⟨j, hj, e⟩ := List.mem_iff_getElem.mp (o.1.mem_iff.mpr hy')
  obtain ⟨hi, e2⟩ := List.getElem?_eq_some_iff.mp h
  rcases Nat.lt_trichotomy j i with z | z | z
  · exact List.mem_take_iff_getElem.mpr ⟨j, by omega, e⟩
  · subst z
    rw [e2] at e
    rw [e] at d
    omega
  · have := List.pairwise_iff_getElem.mp o.2 i j hi hj z
    rw [e, e2] at this
    omega
theorem FarFirst.not_done {ord : List α} (o : FarFirst names dep ord) (nd : names.Nodup) {i : Nat} {p : α} (h : ord[i]? = some p) : p ∉ ord.take i := fun hm => by
  have nd' := o.1.nodup_iff.mpr nd
  obtain ⟨j, hj, e⟩ := List.mem_take_iff_getElem.mp hm
  obtain ⟨hi, e2⟩ := List.getElem?_eq_some_iff.mp h
  have := (List.getElem_inj nd').mp (e.trans e2.symm)
  omega
/-- no two slates have the same numbers -/
theorem Good.uniq (v : Vil names ties own) {s s' : α → List α} (G : Good names ties own num s) (G' : Good names ties own num s') : ∀ x ∈ names, s x = s' x := by
  intro x hx
  obtain ⟨r, hr⟩ : ∃ r, r ∈ names := ⟨x, hx⟩
  obtain ⟨par, dep, R⟩ := v.tree.rooted hr
  have o : FarFirst names dep (names.mergeSort fun a b => decide (dep b ≤ dep a)) := by
    refine ⟨List.mergeSort_perm _ _, ?_⟩
    refine (List.pairwise_mergeSort (le := fun a b => decide (dep b ≤ dep a)) (fun a b c h1 h2 => ?_) (fun a b => ?_) names).imp fun h => of_decide_eq_true h
    · have := of_decide_eq_true h1
      have := of_decide_eq_true h2
      exact decide_eq_true (by omega)
    · rcases Nat.le_total (dep b) (dep a) with z | z
      · simp [z]
      · simp [z]
  have run : ∀ k, k ≤ (names.mergeSort fun a b => decide (dep b ≤ dep a)).length → ∃ g t f, BInv names ties own num r par ((names.mergeSort fun a b => decide (dep b ≤ dep a)).take k) g t f := by
    intro k
    induction k with
    | zero => intro _; exact ⟨fun _ => 0, fun _ => 0, fun _ => [], by rw [List.take_zero]; exact BInv.nil⟩
    | succ k ih =>
      intro hk
      obtain ⟨g, t, f, B⟩ := ih (by omega)
      obtain ⟨p, hp⟩ : ∃ p, (names.mergeSort fun a b => decide (dep b ≤ dep a))[k]? = some p := ⟨_, List.getElem?_eq_getElem (by omega)⟩
      have hpn : p ∈ names := o.1.mem_iff.mp (List.mem_of_getElem? hp)
      have hk' := o.kids R hp
      have pl : ((kids names ties r par p).mergeSort fun a b => decide (g a ≤ g b)).Perm (kids names ties r par p) := List.mergeSort_perm _ _
      have hs : ((kids names ties r par p).mergeSort fun a b => decide (g a ≤ g b)).Pairwise (fun a b => g a ≤ g b) := by
        refine (List.pairwise_mergeSort (le := fun a b => decide (g a ≤ g b)) (fun a b c h1 h2 => ?_) (fun a b => ?_) _).imp fun h => of_decide_eq_true h
        · have := of_decide_eq_true h1
          have := of_decide_eq_true h2
          exact decide_eq_true (by omega)
        · rcases Int.le_total (g a) (g b) with z | z
          · simp [z]
          · simp [z]
      obtain ⟨h1, h2, h3, h4⟩ := B.front v R hpn hk' pl G
      have ok : FrontOk r p (num p - own p - ((((kids names ties r par p).mergeSort fun a b => decide (g a ≤ g b))).map t).sum) := ⟨h1, fun z => by have := h2 z; omega⟩
      have kd : ∀ y ∈ (kids names ties r par p).mergeSort fun a b => decide (g a ≤ g b), 1 ≤ t y := fun y hy => by
        have hy' := pl.mem_iff.mp hy
        exact (B.pos y (hk' y hy') (kid_par R hpn hy').1).2
      obtain ⟨st, e, _⟩ := go_complete (v.pos p hpn) (kids_not R hpn pl) (fun z => ok.2 (of_decide_eq_true z)) kd hs h4 h3
      have := B.turn v R hpn (o.not_done v.tree.nodup hp) hk' pl hs ok e
      have e3 : (names.mergeSort fun a b => decide (dep b ≤ dep a)).take (k + 1) = (names.mergeSort fun a b => decide (dep b ≤ dep a)).take k ++ [p] := by
        rw [List.take_add_one, hp] <;> rfl
      rw [e3]
      exact ⟨_, _, _, this⟩
  obtain ⟨g, t, f, B⟩ := run _ (Nat.le_refl _)
  rw [List.take_length] at B
  have hxo := o.1.mem_iff.mpr hx
  exact ((B.comp s G x hxo).1).trans ((B.comp s' G' x hxo).1).symm
end
end K12

set_option maxHeartbeats 4000000
namespace K12
/-! ### all orders, all slates -/
section
variable {α : Type} [DecidableEq α]
def insAt (row : List α) (x : α) (k : Nat) : List α := row.take k ++ [x] ++ row.drop k
def insAll (x : α) (row : List α) : List (List α) := (List.range (row.length + 1)).map (insAt row x)
def ordStep (rows : List (List α)) (x : α) : List (List α) := rows.flatMap (insAll x)
def orders (l : List α) : List (List α) := l.foldl ordStep [[]]
def fct : Nat → Nat
  | 0 => 1
  | n + 1 => fct n * (n + 1)
theorem insAt_perm {row : List α} {x : α} {k : Nat} : (insAt row x k).Perm (row ++ [x]) := by
  unfold insAt
  have h : row = row.take k ++ row.drop k := (List.take_append_drop k row).symm
  calc (row.take k ++ [x] ++ row.drop k).Perm (row.take k ++ ([x] ++ row.drop k)) := by rw [List.append_assoc]
    _ |>.Perm (row.take k ++ (row.drop k ++ [x])) := List.Perm.append_left _ List.perm_append_comm
    _ |>.Perm (row ++ [x]) := by rw [← List.append_assoc, ← h]
theorem insAt_erase {row : List α} {x : α} {k : Nat} (h : x ∉ row) : (insAt row x k).erase x = row := by
  unfold insAt
  have h1 : x ∉ row.take k := fun z => h (List.mem_of_mem_take z)
  rw [List.append_assoc, List.erase_append_right _ h1]
  simp
theorem insAt_idx {row : List α} {x : α} {k : Nat} (h : x ∉ row) (hk : k ≤ row.length) : (insAt row x k).idxOf x = k := by
  unfold insAt
  have h1 : x ∉ row.take k := fun z => h (List.mem_of_mem_take z)
  rw [List.append_assoc, List.idxOf_append, if_neg h1]
  simp
  omega
structure OrdOk (l : List α) (rows : List (List α)) : Prop where
  mem : ∀ row, row ∈ rows ↔ row.Perm l
  nd : rows.Nodup
  len : rows.length = fct l.length
theorem OrdOk.nil : OrdOk ([] : List α) [[]] := ⟨fun row => by simp [List.perm_nil], by simp, rfl⟩
theorem OrdOk.step {l : List α} {rows : List (List α)} {x : α} (o : OrdOk l rows) (hx : x ∉ l) : OrdOk (l ++ [x]) (ordStep rows x) := by
  have nx : ∀ row ∈ rows, x ∉ row := fun row hr z => hx (((o.mem row).mp hr).mem_iff.mp z)
  refine ⟨fun row => ?_, ?_, ?_⟩
  · unfold ordStep insAll
    rw [List.mem_flatMap]
    constructor
    · rintro ⟨r, hr, h⟩
      obtain ⟨k, _, rfl⟩ := List.mem_map.mp h
      exact insAt_perm.trans (List.Perm.append_right _ ((o.mem r).mp hr))
    · intro p
      have hm : x ∈ row := p.mem_iff.mpr (by simp)
      obtain ⟨a, b, rfl⟩ := List.append_of_mem hm
      refine ⟨a ++ b, (o.mem _).mpr ?_, List.mem_map.mpr ⟨a.length, List.mem_range.mpr (by simp; omega), ?_⟩⟩
      · have q : (x :: (a ++ b)).Perm (x :: l) := (List.perm_middle.symm.trans p).trans List.perm_append_comm
        exact (List.perm_cons x).mp q
      · unfold insAt
        simp
  · unfold ordStep
    refine List.pairwise_flatMap.mpr ⟨fun r hr => ?_, ?_⟩
    · unfold insAll
      rw [List.pairwise_map]
      refine List.Pairwise.imp_of_mem ?_ List.nodup_range
      intro j k hj hk hne e
      have hj := List.mem_range.mp hj
      have hk := List.mem_range.mp hk
      have h1 := insAt_idx (k := j) (nx r hr) (by omega)
      rw [e, insAt_idx (nx r hr) (by omega)] at h1
      exact hne h1.symm
    · refine o.nd.imp_of_mem fun {r1 r2} h1 h2 hne x1 hx1 x2 hx2 e => ?_
      obtain ⟨j, _, e1⟩ := List.mem_map.mp hx1
      obtain ⟨k, _, e2⟩ := List.mem_map.mp hx2
      have h3 := insAt_erase (k := j) (nx r1 h1)
      rw [e1, e, ← e2, insAt_erase (nx r2 h2)] at h3
      exact hne h3.symm
  · unfold ordStep
    rw [List.length_flatMap]
    have e : rows.map (fun r => (insAll x r).length) = rows.map fun _ => l.length + 1 := List.map_congr_left fun r hr => by
      unfold insAll
      rw [List.length_map, List.length_range, ((o.mem r).mp hr).length_eq]
    rw [e]
    have e2 : ∀ m : List (List α), (m.map fun _ => l.length + 1).sum = m.length * (l.length + 1) := fun m => by
      induction m with
      | nil => simp
      | cons a r ih => simp only [List.map_cons, List.sum_cons, ih, List.length_cons, Nat.add_mul]; omega
    rw [e2, o.len, List.length_append, List.length_singleton]
    rfl
theorem orders_take {l : List α} (nd : l.Nodup) : ∀ k, k ≤ l.length → OrdOk (l.take k) ((l.take k).foldl ordStep [[]]) := by
  intro k
  induction k with
  | zero => intro _; rw [List.take_zero]; exact OrdOk.nil
  | succ k ih =>
    intro hk
    have e : l.take (k + 1) = l.take k ++ [l[k]] := List.take_succ_eq_append_getElem (by omega)
    rw [e, List.foldl_append]
    refine (ih (by omega)).step fun z => ?_
    obtain ⟨j, hj, e⟩ := List.mem_take_iff_getElem.mp z
    have := (List.getElem_inj nd).mp e
    omega
theorem orders_ok {l : List α} (nd : l.Nodup) : OrdOk l (orders l) := by
  have := orders_take nd l.length (Nat.le_refl _)
  rwa [List.take_length] at this
/-- slates as rows of pairs -/
def tab (names : List α) (s : α → List α) : List (α × List α) := names.map fun x => (x, s x)
def allStep (fr : α → List α) (found : List (List (α × List α))) (x : α) : List (List (α × List α)) := (orders (fr x)).flatMap fun row => found.map fun e => e ++ [(x, row)]
def allS (fr : α → List α) (names : List α) : List (List (α × List α)) := names.foldl (allStep fr) [[]]
theorem tab_congr {names : List α} {s s' : α → List α} (h : ∀ x ∈ names, s x = s' x) : tab names s = tab names s' := by
  unfold tab
  exact List.map_congr_left fun x hx => by rw [h x hx]
theorem tab_inj {names : List α} {s s' : α → List α} (h : tab names s = tab names s') : ∀ x ∈ names, s x = s' x := fun x hx => by
  unfold tab at h
  have := List.map_inj_left.mp h x hx
  exact (Prod.mk.inj this).2
structure AllOk (fr : α → List α) (names : List α) (found : List (List (α × List α))) : Prop where
  mem : ∀ e, e ∈ found ↔ ∃ s : α → List α, (∀ x ∈ names, (s x).Perm (fr x)) ∧ e = tab names s
  nd : found.Nodup
  len : ∀ n, (∀ x ∈ names, fct (fr x).length ≤ n) → found.length ≤ n ^ names.length
theorem AllOk.nil {fr : α → List α} : AllOk fr [] [[]] := ⟨fun e => by simp [tab], by simp, fun n _ => by simp⟩
theorem AllOk.step {fr : α → List α} {names : List α} {found : List (List (α × List α))} {x : α} (o : AllOk fr names found) (hx : x ∉ names) (nd : (fr x).Nodup) : AllOk fr (names ++ [x]) (allStep fr found x) := by
  have O := orders_ok nd
  refine ⟨fun e => ?_, ?_, fun n hn => ?_⟩
  · unfold allStep
    rw [List.mem_flatMap]
    constructor
    · rintro ⟨row, hr, h⟩
      obtain ⟨e', he', rfl⟩ := List.mem_map.mp h
      obtain ⟨s, h1, rfl⟩ := (o.mem e').mp he'
      have ne : ∀ y ∈ names, y ≠ x := fun y hy q => hx (q ▸ hy)
      refine ⟨put s x row, fun y hy => ?_, ?_⟩
      · rcases List.mem_append.mp hy with hy | hy
        · rw [put_ne (ne y hy)]; exact h1 y hy
        · rw [List.mem_singleton.mp hy, put_at]
          exact (O.mem row).mp hr
      · have : tab (names ++ [x]) (put s x row) = tab names (put s x row) ++ [(x, row)] := by
          unfold tab
          rw [List.map_append, List.map_cons, List.map_nil, put_at]
        rw [this, tab_congr fun y hy => put_ne (ne y hy)]
    · rintro ⟨s, h1, rfl⟩
      refine ⟨s x, (O.mem _).mpr (h1 x (by simp)), List.mem_map.mpr ⟨tab names s, (o.mem _).mpr ⟨s, fun y hy => h1 y (by simp [hy]), rfl⟩, ?_⟩⟩
      unfold tab
      rw [List.map_append] <;> rfl
  · unfold allStep
    refine List.pairwise_flatMap.mpr ⟨fun row _ => ?_, ?_⟩
    · rw [List.pairwise_map]
      exact o.nd.imp fun hne e => hne (List.append_cancel_right e)
    · refine O.nd.imp fun {r1 r2} hne x1 hx1 x2 hx2 e => ?_
      obtain ⟨e1, _, rfl⟩ := List.mem_map.mp hx1
      obtain ⟨e2, _, rfl⟩ := List.mem_map.mp hx2
      have := (List.append_inj' e rfl).2
      simp at this
      exact hne this
  · unfold allStep
    rw [List.length_flatMap]
    have e2 : ∀ m : List (List α), (m.map fun row => (found.map fun e => e ++ [(x, row)]).length).sum = m.length * found.length := fun m => by
      induction m with
      | nil => simp
      | cons a r ih =>
        rw [List.map_cons, List.sum_cons, ih, List.length_map, List.length_cons, Nat.succ_mul]
        omega
    rw [e2, O.len, List.length_append, List.length_singleton, Nat.pow_succ, Nat.mul_comm]
    exact Nat.mul_le_mul (o.len n fun y hy => hn y (by simp [hy])) (hn x (by simp))
theorem all_take {fr : α → List α} {names : List α} (nd : names.Nodup) (nf : ∀ x ∈ names, (fr x).Nodup) : ∀ k, k ≤ names.length → AllOk fr (names.take k) ((names.take k).foldl (allStep fr) [[]]) := by
  intro k
  induction k with
  | zero => intro _; rw [List.take_zero]; exact AllOk.nil
  | succ k ih =>
    intro hk
    have e : names.take (k + 1) = names.take k ++ [names[k]] := List.take_succ_eq_append_getElem (by omega)
    rw [e, List.foldl_append]
    refine (ih (by omega)).step (fun z => ?_) (nf _ (List.getElem_mem _))
    obtain ⟨j, hj, e⟩ := List.mem_take_iff_getElem.mp z
    have := (List.getElem_inj nd).mp e
    omega
theorem all_ok {fr : α → List α} {names : List α} (nd : names.Nodup) (nf : ∀ x ∈ names, (fr x).Nodup) : AllOk fr names (allS fr names) := by
  have := all_take nd nf names.length (Nat.le_refl _)
  rwa [List.take_length] at this
end
end K12

set_option maxHeartbeats 4000000
/-! sorted(xs, key=lambda x: (int, ..)), xs a list or a tuple, over the layer: the lambda may read captured names. -/
namespace K12
open PySem PySem.Spec PyProof.Rows L2 LamX NdefX
/-! ### a lambda's object -/
/-- what a lambda is made of -/
structure LF where
  qual : Str
  params : Arguments
  body : Expr
  scope : Scope
  cl : List (Str × Addr)
  c : Addr
abbrev LF.nf (F : LF) : NF := ⟨"<lambda>", F.qual, F.params, [], F.scope, F.cl, F.c⟩
abbrev LF.fd (F : LF) (pm ctv : Value) : FuncData := PySem.W.kla_fn "<lambda>" F.qual F.params F.body F.scope F.cl pm (.ref F.c) ctv
/-- the object at f is the lambda F -/
def LamO (f : Addr) (F : LF) : HO := .ext fun h => ∃ (od : Option Addr) (sl : Array (Option Value)) (pm ctv : Value), h.get? f = some (⟨.type "function", od, .func (F.fd pm ctv), sl⟩ : Obj)
theorem lamO_tbl {f : Addr} {F : LF} (ps : Array Value) : LamO f F ≠ .tbl ps := fun z => by
  unfold LamO at z
  cases z
theorem lamO_at {P : Program} {w : World} {H : Hp} {h : Heap} {f : Addr} {F : LF} (hok : HOk P w H h) (e : H f = some (LamO f F)) : ∃ (od : Option Addr) (sl : Array (Option Value)) (pm ctv : Value), h.get? f = some (⟨.type "function", od, .func (F.fd pm ctv), sl⟩ : Obj) := (hok f _ e).1
section
variable {X : Cx} {pins : List (Addr × Obj)} {σ : L2.St} {H : Hp} {s : Shared}
theorem lam_known {F : LF} {t' : Nat} {pm ctv : Value} (I : Inv X pins σ H s) :
    Inv X pins σ (upd H s.heap.objs.size (LamO s.heap.objs.size F)) { s with heap := s.heap.push { cls := .type "function", data := .func (F.fd pm ctv) }, toks := t' } := by
  have e : (s.heap.push ({ cls := .type "function", data := .func (F.fd pm ctv) } : Obj)).get? s.heap.objs.size = some ({ cls := .type "function", data := .func (F.fd pm ctv) } : Obj) := Heap.get?_push_size _ rfl
  refine I.laid (a := s.heap.objs.size) (fun b u q => Heap.get?_push_of_some _ q) (Nat.le_refl _) ⟨⟨_, _, pm, ctv, e⟩, ⟨_, e⟩, ?_⟩
  rintro h1 h2 ⟨od, sl, p, t, z⟩ st
  exact ⟨od, sl, p, t, st _ z⟩
/-- what was tracked is tracked still, but for the tables -/
structure Grow (T : List (Addr × Str)) (H H1 : Hp) : Prop where
  ext : ExtN H H1
  back : ∀ b, H1 b = none → H b = none
  tabs : Tabs T H1
/-- the lambda is made -/
theorem lam_made {T : List (Addr × Str)} {c P : Addr} {params : Arguments} {body : Expr} {scope : Scope} {pos : Pos} {E : Value → Shared → Prop} {Q : Value → Shared → Prop} (I : Inv X pins σ H s) (TB : TabB X.base X.mg c P) (hcode : X.env.code = .ref c)
    (hm : (P, X.env.qual ++ "<lambda>") ∈ T) (hu : ∀ p ∈ T, p.1 = P → p.2 = X.env.qual ++ "<lambda>") (hT : Tabs T H) (hdef : defaultsOf params X.env = ([], [])) (hfree : ∀ y ∈ scope.names, y.2 = .free → ∃ c, X.env.cells.lookup y.1 = some c)
    (h : ∀ (f c' : Addr) (H1 : Hp) (s' : Shared), Inv X pins σ H1 s' → Grow T H H1 → H1 f = some (LamO f ⟨X.env.qual ++ "<lambda>", params, body, scope, cloFrom X.env.cells scope.names [], c'⟩) → H1 c' = some (CodeO c' (X.env.qual ++ "<lambda>")) → Q (.ref f) s') :
    wpAny (model X.prog X.w) X.A (eval (.Lambda params body scope pos) X.env) Q E s := by
  obtain ⟨ps, hP, tok, old⟩ := hT _ hm
  have atP : s.heap.get? P = some { cls := .none, data := .fields ps } := I.hok P _ hP
  have cl := closure_ok hfree
  have glob := I.mod.glob.keeps I.bk
  have code := TB.code.keeps I.bk
  have blt : s.heap.BuiltinsAt X.mg P := TB.bm.keeps I.bk
  refine PySem.W.kla_eval hdef ?_
  cases among : codeAmong pos ps.toList with
  | some cv =>
    obtain ⟨c', rfl, known⟩ := old pos cv among
    refine PySem.W.kla_makeFunctionHit (mg := X.mg) (c := c) (P := P) (ps := ps) cl I.ok.glob glob hcode code atP tok among blt fun ctv h' tk keep _ => ?_
    have I1 : Inv X pins σ H { s with heap := h', toks := tk } := I.kept keep
    have nF : H h'.objs.size = none := I1.hok.fresh (Nat.le_refl _)
    have J := lam_known (F := ⟨X.env.qual ++ "<lambda>", params, body, scope, cloFrom X.env.cells scope.names [], c'⟩) (t' := tk) (pm := (X.mg "__name__").getD .none) (ctv := ctv) I1
    have up : ∀ b o, H b = some o → upd H h'.objs.size (LamO h'.objs.size ⟨X.env.qual ++ "<lambda>", params, body, scope, cloFrom X.env.cells scope.names [], c'⟩) b = some o := fun b o e => (upd_ne (ne_of_none e nF)).trans e
    exact h _ c' _ _ J ⟨ExtN.of up, fun b e => upd_none e, hT.ext up⟩ upd_same (up _ _ known)
  | none =>
    refine PySem.W.kla_makeFunction (mg := X.mg) (c := c) (P := P) (ps := ps) cl I.ok.glob glob hcode code atP tok among TB.gP blt fun c' ctv h' tk keep hge hlt rec tabAt => ?_
    obtain ⟨c2, oc, vs, t, e2, o1, o2, o3⟩ := rec
    cases e2
    have nC : H c' = none := I.hok.fresh hge
    have I1 := inv_table (t' := tk) (more := #[rawInt pos.line, rawInt pos.col, .ref c']) (h' := h') I hP (fun b o hb e => keep b o hb e) tabAt hge ⟨oc, vs, t, o1, o2, o3⟩
    have e1 : ExtN H (upd (upd H P (.tbl (ps ++ #[rawInt pos.line, rawInt pos.col, .ref c']))) c' (CodeO c' (X.env.qual ++ "<lambda>"))) := fun b o e n => by
      have n1 : b ≠ P := fun z => n ps (Option.some.inj (e.symm.trans (by rw [z]; exact hP)))
      exact (upd_ne (ne_of_none e nC)).trans ((upd_ne n1).trans e)
    have listed : (ps ++ #[rawInt pos.line, rawInt pos.col, .ref c']).toList = ps.toList ++ [rawInt pos.line, rawInt pos.col, .ref c'] := by simp
    have t1 : Tabs T (upd (upd H P (.tbl (ps ++ #[rawInt pos.line, rawInt pos.col, .ref c']))) c' (CodeO c' (X.env.qual ++ "<lambda>"))) := by
      intro p hp
      by_cases hb : p.1 = P
      · rw [hu p hp hb, hb]
        refine ⟨_, (upd_ne (ne_of_none hP nC)).trans upd_same, ?_, fun p' cv hcv => ?_⟩
        · rw [listed]
          exact PySem.TriplesOk_snoc _ _ _ _ tok
        · rw [listed] at hcv
          rcases among_app _ tok hcv with z | z
          · obtain ⟨c0, a1, a2⟩ := old p' cv z
            exact ⟨c0, a1, e1 _ _ a2 codeO_ne⟩
          · exact ⟨c', z, upd_same⟩
      · obtain ⟨ps', a1, a2, a3⟩ := hT p hp
        refine ⟨ps', (upd_ne (ne_of_none a1 nC)).trans ((upd_ne hb).trans a1), a2, fun p' cv hcv => ?_⟩
        obtain ⟨c0, b1, b2⟩ := a3 p' cv hcv
        exact ⟨c0, b1, e1 _ _ b2 codeO_ne⟩
    have nF := I1.hok.fresh (Nat.le_refl _)
    have J := lam_known (F := ⟨X.env.qual ++ "<lambda>", params, body, scope, cloFrom X.env.cells scope.names [], c'⟩) (t' := tk) (pm := (X.mg "__name__").getD .none) (ctv := ctv) I1
    refine h _ c' _ _ J ⟨fun b o e n => ?_, fun b e => upd_none (upd_none (upd_none e)), t1.ext fun b o e => (upd_ne (ne_of_none e nF)).trans e⟩ upd_same ((upd_ne (Nat.ne_of_lt hlt)).trans upd_same)
    have q := e1 b o e n
    exact (upd_ne (ne_of_none q nF)).trans q
end
/-! ### its call -/
theorem lam_code {P : Program} {w : World} {K : PySem.W.Frag} {mg : Str → Option Value} {base : Heap} {N ps fr : List Str} {F : LF} {f : Addr} {A : Around} {outer : List Env} {s : Shared} {H : Hp} {us : List Value} {vs : List V} {ws : List (Option V)} {Q : VK} {tb : TE} {k : Nat}
    (S : NScope N ps fr F.scope) (hb : ∀ (pm ctv : Value) (us : List Value), us.length = ps.length → bindArgs (F.fd pm ctv) ⟨us, []⟩ = pure (ps.zip us)) (hr : Room (k + 1) A) (e0 : Env0 P w K mg base A outer s H) (hf : H f = some (LamO f F)) (hc : H F.c = some (CodeO F.c F.qual))
    (C : CellsAt F.cl fr ws s.heap H) (r : Vals vs us) (hl : vs.length = ps.length) (hbody : Room k (A.deeper (envF F.nf f s.heap.objs.size)) → PE (ncx CX0 P w K mg base N F.nf f A outer s H E0) F.body tb) (q : tb (startF N vs ws) H Q) :
    codeAny (model P w) A (.call (.ref f) ⟨us, []⟩) (CR CX0 outer P w H s Q E0) s := by
  have lim : s.heap.NoLimit := e0.mod.nolimit.keeps fun b o e => (e0.bs b o e).1
  obtain ⟨od, sl, pm, ctv, ho⟩ := lamO_at e0.hok hf
  refine PySem.W.kla_callFunE hr.depth ho rfl S.co S.gen rfl (codeO_at e0.hok hc) ?_
  rw [hb pm ctv us (r.length.symm.trans hl)]
  refine wpAny_pure (wpAny_newFunctionEnv S.nocell (fun ⟨n, _⟩ hy => S.par n (List.of_mem_zip hy).1) (fun h1 hns hsb => ⟨lim.fresh _ hsb, ?_⟩) S.kind)
  show codeAny _ _ (.expr F.body (envF F.nf f s.heap.objs.size)) _ _
  have kp : ∀ b o, s.heap.get? b = some o → h1.get? b = some o := fun b o e => hsb.extBut b o (Nat.ne_of_lt (Heap.lt_size e)) (Heap.get?_push_of_some _ e)
  have J : Inv (ncx CX0 P w K mg base N F.nf f A outer s H E0) [] (startF N vs ws) H { s with heap := h1, toks := s.toks + (ps.zip us).length } := inv_startN (F := F.nf) S hr.hd e0 hl r C hns kp
  refine PySem.W.kla_codeExpr (wpAny_mono ((hbody (hr.deeper _)).run [] _ _ H _ J q) (fun v s' hq => ?_) fun _ _ z => z)
  obtain ⟨v', H', J', rv, hq⟩ := hq
  exact ⟨v', H', J'.os, J'.bare, J'.base, J'.hok, rv, hq⟩
section
variable {X : Cx} {pins : List (Addr × Obj)} {σ : L2.St} {H : Hp} {s : Shared}
theorem inv_pins_sub {pins' : List (Addr × Obj)} (I : Inv X pins σ H s) (h : ∀ p ∈ pins', p ∈ pins) : Inv X pins' σ H s := I.pins_of fun p hp => I.pin p (List.mem_append_right _ (h p hp))
theorem inv_pins_add {a : Addr} {o : Obj} (I : Inv X pins σ H s) (h : s.heap.get? a = some o ∧ H a = none ∧ a ≠ X.env.locals ∧ a ∉ X.fs ∧ ∀ v, o.data ≠ .cell v) : Inv X ((a, o) :: pins) σ H s := I.pins_of fun p hp => by
  rcases List.mem_cons.mp hp with rfl | hp
  · exact h
  · exact I.pin p (List.mem_append_right _ hp)
/-- an object that nobody tracks, made by ourselves, is changed -/
theorem inv_turned_own {t' : Nat} {h' : Heap} {it : Addr} (I : Inv X pins σ H s) (k : ∀ b o, b ≠ it → s.heap.get? b = some o → h'.get? b = some o) (hn : H it = none) (hL : it ≠ X.env.locals) (h1 : X.s_0.heap.objs.size ≤ it) (h2 : ∀ x c, X.env.cells.lookup x = some c → c ≠ it)
    (h3 : ∀ p ∈ X.pn ++ pins, p.1 ≠ it) : Inv X pins σ H { s with heap := h', toks := t' } := I.turned k hn hL (.inr h1) h2 h3
theorem lam_call {N ps fr : List Str} {F : LF} {f : Addr} {A : Around} {us : List Value} {vs : List V} {ws : List (Option V)} {Q : VK} {tb : TE} {k : Nat} {E : Value → Shared → Prop} (I : Inv X pins σ H s) (hA : A.frames = X.A.frames)
    (S : NScope N ps fr F.scope) (hb : ∀ (pm ctv : Value) (us : List Value), us.length = ps.length → bindArgs (F.fd pm ctv) ⟨us, []⟩ = pure (ps.zip us)) (hr : Room (k + 1) A) (hf : H f = some (LamO f F)) (hc : H F.c = some (CodeO F.c F.qual))
    (C : CellsAt F.cl fr ws s.heap H) (r : Vals vs us) (hl : vs.length = ps.length) (hbody : Room k (A.deeper (envF F.nf f s.heap.objs.size)) → PE (ncx CX0 X.prog X.w X.K X.mg X.base N F.nf f A X.stack s H E0) F.body tb) (q : tb (startF N vs ws) H Q) :
    wpAny (model X.prog X.w) A (call (.ref f) us) (EP X pins σ Q) E s := by
  have e0 : Env0 X.prog X.w X.K X.mg X.base A X.stack s H := { I.env0 with frames := hA.trans I.env0.frames }
  refine wpAny_call (codeAny_mono (lam_code S hb hr e0 hf hc C r hl hbody q) fun r s' hq => ?_)
  cases r with
  | error e => exact (show False from hq).elim
  | ok fl =>
    cases fl with
    | ret u => exact I.after hq
    | next => exact False.elim hq
    | brk => exact False.elim hq
    | cont => exact False.elim hq
end
end K12

set_option maxHeartbeats 4000000
namespace K12
open PySem PySem.Spec PyProof.Rows L2 LamX NdefX
open PySem.W (EachIs KeepsBut AllAlike Sortable alike dataLe keyH_end KeyedOut keyedOut_each SortsAt sortingHeap sortingHeap_old copyHeap copyHeap_at copyHeap_old each_snoc dataKind sortVals)
/-- whole numbers in a row, as data -/
def encT (ks : List Int) : PyData := .tuple (ks.map .int)
theorem readsAll_ints {h : Heap} : ∀ {ks : List Int} {us : List Value}, Vals (ks.map V.int) us → ReadsAll h us (ks.map .int) []
  | [], _, .nil => .nil
  | k :: ks, _, .cons r t => by
    obtain ⟨tk, rfl⟩ := r
    have q : ReadsAll h (Value.int k tk :: _) (PyData.int k :: ks.map .int) ([] ++ []) := .cons (.int k tk) (readsAll_ints t)
    exact q
theorem reads_tup {P : Program} {w : World} {H : Hp} {h : Heap} {t : Addr} {ks : List Int} (hok : HOk P w H h) (e : H t = some (.tup (ks.map V.int))) : Reads h (.ref t) (encT ks) [] := by
  obtain ⟨_, its, r, o, ho, hc, n, hd⟩ := hok t _ e
  exact .tuple ho hc hd (by simpa using readsAll_ints r)
theorem alike_enc (ks ms : List Int) : alike (encT ks) (encT ms) = true := by
  show alike (.tuple _) (.tuple _) = true
  simp only [alike]
  exact PySem.W.alike_ints _ _
theorem depth_enc (ks : List Int) : (encT ks).depth = 1 := by
  show PyData.depth (.tuple _) = 1
  simp only [PyData.depth, PySem.W.depth_ints]
/-- the order of such rows begins with the order of the first numbers -/
theorem enc_le {β : Type} {k : β → List Int} {a b : β} {x y : Int} {xs ys : List Int} (ha : k a = x :: xs) (hb : k b = y :: ys) (h : dataLe false (fun b => encT (k b)) a b = true) : x ≤ y := by
  have e : (!PySem.W.dataLt (encT (k b)) (encT (k a))) = true := h
  rw [ha, hb] at e
  have e2 : PySem.W.dataLt (encT (y :: ys)) (encT (x :: xs)) = (if PyData.eqv (.int y) (.int x) = true then PyProof.Rows.lexLt itemOrd (PySem.W.keyToksAll (ys.map .int)) (PySem.W.keyToksAll (xs.map .int)) else PySem.W.dataLt (.int y) (.int x)) := by
    show PySem.W.dataLt (.tuple (.int y :: ys.map .int)) (.tuple (.int x :: xs.map .int)) = _
    rw [PySem.W.dataLt_tuple, PySem.W.dataLt_cons (by simp [alike])]
  by_cases q : y = x
  · omega
  · have q2 : ¬ PyData.eqv (.int y) (.int x) = true := by
      simp only [PyData.eqv, beq_iff_eq]
      exact q
    rw [e2, if_neg q2, PySem.W.dataLt_int] at e
    have e3 : decide (y < x) = false := by
      cases z : decide (y < x) with
      | false => rfl
      | true => rw [z] at e; cases e
    have := of_decide_eq_false e3
    omega
theorem vals_each : ∀ {xs : List V} {us : List Value}, Vals xs us → EachIs (fun u x => RelV x u) us xs
  | _, _, .nil => .nil
  | _, _, .cons r t => .cons r (vals_each t)
theorem each_vals : ∀ {us : List Value} {xs : List V}, EachIs (fun u x => RelV x u) us xs → Vals xs us
  | _, _, .nil => .nil
  | _, _, .cons r t => .cons r (each_vals t)
section
variable {X : Cx} {pins : List (Addr × Obj)} {σ : L2.St} {H H1 : Hp} {s : Shared}
/-- a tracked heap grown by tuples alone -/
def More (H H' : Hp) : Prop := (∀ b o, H b = some o → H' b = some o) ∧ ∀ b o, H' b = some o → H b = none → ∃ xs, o = .tup xs
theorem More.refl (H : Hp) : More H H := ⟨fun _ _ e => e, fun b o e n => by rw [n] at e; cases e⟩
theorem More.tup {H H' : Hp} {t : Addr} {xs : List V} (m : More H H') (n : H' t = none) : More H (upd H' t (.tup xs)) := by
  refine ⟨fun b o e => (upd_ne (ne_of_none (m.1 b o e) n)).trans (m.1 b o e), fun b o e nb => ?_⟩
  by_cases q : b = t
  · rw [q, upd_same] at e
    exact ⟨xs, (Option.some.inj e).symm⟩
  · rw [upd_ne q] at e
    exact m.2 b o e nb
/-- objects that we made and nobody tracks: a, kS changed; a becomes a tracked list -/
theorem inv_sorted {a kS : Addr} {h' : Heap} {t' : Nat} {xs : List V} {us : List Value} {c : Nat} (I : Inv X pins σ H s) (ha : H a = none) (hk : H kS = none) (la : X.s_0.heap.objs.size ≤ a) (lk : X.s_0.heap.objs.size ≤ kS) (na : a ≠ X.env.locals) (nk : kS ≠ X.env.locals)
    (ca : ∀ x c, X.env.cells.lookup x = some c → c ≠ a) (ck : ∀ x c, X.env.cells.lookup x = some c → c ≠ kS) (pa : ∀ p ∈ X.pn ++ pins, p.1 ≠ a) (pk : ∀ p ∈ X.pn ++ pins, p.1 ≠ kS)
    (keep : ∀ b o, b ≠ a → b ≠ kS → s.heap.get? b = some o → h'.get? b = some o) (hz : xs.length ≤ sizeLine) (r : Vals xs us) (e : h'.get? a = some { cls := .type "list", data := .seq us.toArray c }) :
    Inv X pins σ (upd H a (.lst xs)) { s with heap := h', toks := t' } := by
  have ne : ∀ b u, H b = some u → b ≠ a ∧ b ≠ kS := fun b u q => ⟨ne_of_none q ha, ne_of_none q hk⟩
  have out : ∀ {b : Addr}, b ∉ [a, kS] → b ≠ a ∧ b ≠ kS := fun {b} z => ⟨fun q => z (by simp [q]), fun q => z (by simp [q])⟩
  refine I.step (g' := s.gens) (d' := s.drawn) (ch := [a, kS]) (fun b hb => ?_) (fun b o _ _ hc q _ => keep b o (out hc).1 (out hc).2 q) (fun b o _ _ hc q _ => ⟨o.slots, keep b o (out hc).1 (out hc).2 q⟩) (fun b o hc _ n => (upd_ne (out hc).1).trans n)
    (fun b o hc q => ⟨o, keep b o (out hc).1 (out hc).2 q⟩) (fun b ys q => (upd_ne (ne b _ q).1).trans q) (fun b o u q => (upd_ne (ne b _ q).1).trans q) (fun b ps q => ⟨#[], by rw [upd_ne (ne b _ q).1, q]; simp⟩) (fun m hm => ?_) (fun b u q => ?_) I.bare
  · rcases List.mem_cons.mp hb with rfl | hb
    · exact ⟨.inr la, na, ca, pa⟩
    · have hb := List.mem_singleton.mp hb
      subst hb
      exact ⟨.inr lk, nk, ck, pk⟩
  · obtain ⟨o, es, ep, ho, rest⟩ := hm
    exact ⟨o, es, ep, keep _ o na.symm nk.symm ho, rest⟩
  · by_cases q2 : b = a
    · rw [q2, upd_same] at q
      cases q
      rw [q2]
      exact ⟨hz, us, c, r, e⟩
    · rw [upd_ne q2] at q
      refine (I.hok b u q).stay (fun d v hd g => keep d v ?_ ?_ g) (fun d g => (upd_ne (ne d _ g).1).trans g) fun d ys g => (upd_ne (ne d _ g).1).trans g
      · rcases hd with rfl | hd
        · exact q2
        · exact (ne d _ hd).1
      · rcases hd with rfl | hd
        · exact (ne d _ q).2
        · exact (ne d _ hd).2
/-- the keys, one by one, then the sort -/
theorem sort_rest {A : Around} {E : Value → Shared → Prop} {f : Value} {a kS : Addr} {e1 : Nat} {xs : List V} {vs : List Value} {key : V → List Int} {Pr : PySem.Fin → Shared → Prop} (I : Inv X pins σ H s) (la : X.s_0.heap.objs.size ≤ a) (lk : X.s_0.heap.objs.size ≤ kS)
    (na : s.heap.get? a = some (seqObj "list" #[] e1)) (nk : s.heap.get? kS = some (seqObj "list" #[] 0)) (ha : H a = none) (hk : H kS = none) (ne : kS ≠ a) (al : a ≠ X.env.locals) (kl : kS ≠ X.env.locals) (af : a ∉ X.fs) (kf : kS ∉ X.fs)
    (ca : ∀ x c, X.env.cells.lookup x = some c → c ≠ a) (ck : ∀ x c, X.env.cells.lookup x = some c → c ≠ kS) (pa : ∀ p ∈ X.pn ++ pins, p.1 ≠ a) (pk : ∀ p ∈ X.pn ++ pins, p.1 ≠ kS) (rv : Vals xs vs) (hz : xs.length ≤ sizeLine) (hu : A.units + 1 < cLine)
    (hd : ∀ x ∈ xs, ∃ y r, key x = y :: r)
    (turn : ∀ (x : V) (v : Value) (pins' : List (Addr × Obj)) (H' : Hp) (s' : Shared), x ∈ xs → RelV x v → More H H' → Inv X pins' σ H' s' →
      wpAny (model X.prog X.w) A (call f [v]) (EP X pins' σ fun w H2 => ∃ t, H' t = none ∧ w = .ref t ∧ H2 = upd H' t (.tup ((key x).map V.int))) (fun _ _ => False) s')
    (done : ∀ (H' : Hp) (ys : List V) (s' : Shared), More H H' → ys.Perm xs → ys.Pairwise (fun x y => dataLe false (fun b => encT (key b)) x y = true) → H' a = none → Inv X pins σ (upd H' a (.lst ys)) s' → Pr (.done (.ret .none)) s') :
    wpAny (model X.prog X.w) A (ksk_rest a f false vs.toArray e1 (.ref kS)) Pr E s := by
  have hlen := rv.length
  unfold ksk_rest
  refine wpAny_bind (wpAny_rule ?_)
  first
    | rw [List.forIn_toArray]
    | (rw [← Array.forIn_toList]; simp only [List.toList_toArray])
  refine wpAny_bind (ksk_fold (fun i s' => ∃ (H' : Hp) (kA : List Value) (c : Nat), More H H' ∧ Inv X ((kS, seqObj "list" kA.toArray c) :: (a, seqObj "list" #[] e1) :: pins) σ H' s' ∧ EachIs (fun v x => ∃ t, v = Value.ref t ∧ H' t = some (.tup ((key x).map V.int))) kA (xs.take i)) vs 0 s ?start ?step ?fin)
  case start =>
    refine ⟨H, [], 0, More.refl H, inv_pins_add (inv_pins_add I ⟨na, ha, al, af, fun v => by intro z; cases z⟩) ⟨nk, hk, kl, kf, fun v => by intro z; cases z⟩, ?_⟩
    rw [List.take_zero]
    exact .nil
  case step =>
    rintro j v s' hv ⟨H', kA, c, mo, J, kz⟩
    simp only [Nat.zero_add] at kz ⊢
    have hj : j < vs.length := (List.getElem?_eq_some_iff.mp hv).1
    obtain ⟨x, hx⟩ : ∃ x, xs[j]? = some x := ⟨_, List.getElem?_eq_getElem (by omega)⟩
    have rx : RelV x v := by
      obtain ⟨u, hu1, hu2⟩ := rv.get hx
      rw [hv] at hu1
      cases hu1
      exact hu2
    have klen : kA.length ≤ xs.length := by
      have := kz.length
      rw [List.length_take] at this
      omega
    refine wpAny_bind (wpAny_attempt (wpAny_mono (turn x v _ H' s' (List.mem_of_getElem? hx) rx mo J) (fun w s2 hq => ?_) fun _ _ z => z.elim))
    obtain ⟨y, H2, J2, ry, t, nt, rfl, rfl⟩ := hq
    obtain rfl : w = Value.ref t := ry
    obtain ⟨nk2, hk2, _, _, _⟩ := J2.pin (kS, seqObj "list" kA.toArray c) (List.mem_append_right _ (List.mem_cons_self))
    obtain ⟨na2, ha2, _, _, _⟩ := J2.pin (a, seqObj "list" #[] e1) (List.mem_append_right _ (List.mem_cons_of_mem _ List.mem_cons_self))
    have sb := Heap.SameBut.update s2.heap kS (Obj.mapSeq (·.push (Value.ref t)))
    obtain ⟨c2, hc2⟩ : ∃ c2, (s2.heap.update kS (Obj.mapSeq (·.push (Value.ref t)))).get? kS = some (seqObj "list" (kA ++ [Value.ref t]).toArray c2) := by
      have q := get?_update_seq nk2 (·.push (Value.ref t))
      have q2 : kA.toArray.push (Value.ref t) = (kA ++ [Value.ref t]).toArray := by simp
      simp only [q2] at q
      exact ⟨_, q⟩
    try dsimp only
    refine wpAny_bind (listUpdate_at nk2 rfl ?_ (by rw [List.size_toArray]; omega) (by rw [Array.size_push, List.size_toArray]; omega))
    refine wpAny_pure ⟨rfl, upd H' t (.tup ((key x).map V.int)), kA ++ [Value.ref t], c2, mo.tup nt, ?_, ?_⟩
    · have J3 : Inv X ((a, seqObj "list" #[] e1) :: pins) σ (upd H' t (.tup ((key x).map V.int))) s2 := inv_pins_sub J2 fun p hp => List.mem_cons_of_mem _ hp
      have J4 : Inv X ((a, seqObj "list" #[] e1) :: pins) σ (upd H' t (.tup ((key x).map V.int))) { s2 with heap := s2.heap.update kS (Obj.mapSeq (·.push (Value.ref t))), toks := s2.toks } := by
        refine inv_turned_own J3 (fun b o hb e => (sb.2 b hb).trans e) hk2 kl lk ck fun p hp => ?_
        rcases List.mem_append.mp hp with hp | hp
        · exact pk p (List.mem_append_left _ hp)
        · rcases List.mem_cons.mp hp with rfl | hp
          · exact ne.symm
          · exact pk p (List.mem_append_right _ hp)
      exact inv_pins_add J4 ⟨hc2, hk2, kl, kf, fun v => by intro z; cases z⟩
    · have et : xs.take (j + 1) = xs.take j ++ [x] := by rw [List.take_add_one, hx]; rfl
      rw [et]
      generalize hK : (HO.tup ((key x).map V.int)) = K
      refine each_snoc (R := fun (v : Value) (x : V) => ∃ t', v = Value.ref t' ∧ upd H' t K t' = some (.tup ((key x).map V.int))) ⟨t, rfl, by rw [hK]; exact upd_same⟩ (kz.mono ?_)
      rintro u z ⟨t', rfl, e⟩
      exact ⟨t', rfl, (upd_ne (ne_of_none e nt)).trans e⟩
  case fin =>
    rintro s' ⟨H', kA, c, mo, J, kz⟩
    have efull : xs.take (0 + vs.length) = xs := List.take_of_length_le (by omega)
    rw [efull] at kz
    have kl2 : kA.length = xs.length := kz.length
    obtain ⟨nk2, hk2, _, _, _⟩ := J.pin (kS, seqObj "list" kA.toArray c) (List.mem_append_right _ (List.mem_cons_self))
    obtain ⟨na2, ha2, _, _, _⟩ := J.pin (a, seqObj "list" #[] e1) (List.mem_append_right _ (List.mem_cons_of_mem _ List.mem_cons_self))
    have J0 : Inv X pins σ H' s' := inv_pins_sub J fun p hp => List.mem_cons_of_mem _ (List.mem_cons_of_mem _ hp)
    try dsimp only
    refine wpAny_bind (listItems_at nk2 rfl ?_)
    have alk : AllAlike (xs.map fun x => encT (key x)) := AllAlike.of fun _ _ => alike_enc _ _
    have sbl : Sortable (xs.map fun x => encT (key x)) := .inl fun d hd' => by
      obtain ⟨x, hx, rfl⟩ := List.mem_map.mp hd'
      obtain ⟨y, r, e⟩ := hd x hx
      exact ⟨.int y, r.map .int, by rw [e]; rfl⟩
    have rd : EachIs (fun v d => ∃ as, Reads s'.heap v d as) kA (xs.map fun x => encT (key x)) := by
      refine PySem.W.each_map (R := fun v d => ∃ as, Reads s'.heap v d as) (fun x => encT (key x)) (kz.mono ?_)
      rintro v x ⟨t, rfl, e⟩
      exact ⟨[], reads_tup J0.hok e⟩
    have dep : ∀ d ∈ xs.map fun x => encT (key x), A.units + d.depth < cLine := fun d hd' => by
      obtain ⟨x, _, rfl⟩ := List.mem_map.mp hd'
      rw [depth_enc]
      exact hu
    have so : SortsAt X.prog X.w A s' (dataKind s'.heap (xs.map fun x => encT (key x))) kA := SortsAt.data rd alk sbl dep
    have hidden : KeepsBut a (PySem.W.hideAll s'.heap [kS]) s'.heap := fun b o _ e => PySem.W.of_hideAll [kS] e
    refine keyH_end (κ := dataKind s'.heap (xs.map fun x => encT (key x))) (h₁ := PySem.W.hideAll s'.heap [kS]) (keys := kA.toArray) hidden (PySem.W.hideAll_none [kS] (by simp)) nk2 na2 ne (by simpa using so) (by rw [List.size_toArray]; omega) (by omega) fun h' tk c3 k3 n3 => ?_
    have outs : EachIs (fun u x => RelV x u) (sortVals (dataKind s'.heap (xs.map fun x => encT (key x))) false kA.toArray.toList vs) (xs.mergeSort (dataLe false fun x => encT (key x))) :=
      keyedOut_each (fun x => encT (key x)) ⟨s'.heap, kA, alk, by simp, rd⟩ (vals_each rv)
    have rys := each_vals outs
    have perm : (xs.mergeSort (dataLe false fun x => encT (key x))).Perm xs := List.mergeSort_perm _ _
    refine done H' (xs.mergeSort (dataLe false fun x => encT (key x))) _ mo perm (PySem.W.sort_pairwise (PySem.W.sortLe_total _ false _) xs) ha2 ?_
    refine inv_sorted (t' := tk) (kS := kS) J0 ha2 hk2 la lk al kl ca ck pa pk (fun b o h1 h2 e => k3 b o h1 (PySem.W.hideAll_get [kS] e (by simpa using h2))) (by rw [perm.length_eq]; exact hz) rys n3
end
end K12

set_option maxHeartbeats 4000000
namespace K12
open PySem PySem.Spec PyProof.Rows L2 LamX NdefX
open PySem.W (dataLe sortingHeap sortingHeap_old copyHeap copyHeap_at copyHeap_old)
section
variable {prog : Program} {w : World} {A : Around} {E : Value → Shared → Prop} {s : Shared}
theorem collect_sq {l : Addr} {T : String} {o : Obj} {vs : List Value} {n : Nat} {Q : List Value → Shared → Prop} (hT : T = "list" ∨ T = "tuple") (ho : s.heap.get? l = some o) (hc : o.cls = .type T) (hd : o.data = .seq vs.toArray n) (hz : vs.length ≤ sizeLine)
    (h : Q vs { s with heap := (s.heap.push (seqObj "list" #[] 0)).update s.heap.objs.size (Obj.mapSeq (· ++ vs.toArray)) }) : wpAny (model prog w) A (collect (.ref l)) Q E s := by
  unfold collect
  refine wpAny_bind (wpAny_runValue (codeAny_builtin entry_proto_collect' ?_))
  show wpAny _ _ (do again (.builtin "list.__iadd__" ⟨[← newList [], .ref l], []⟩)) _ _ s
  refine wpAny_bind (wpAny_newList (wpAny_pure ⟨Code.quiet_builtin _ (by decide +kernel), codeAny_builtin entry_list_iadd' ?_⟩))
  show wpAny _ _ (Builtin.List.listExtendWith (.ref s.heap.objs.size) (.ref l) (.ref s.heap.objs.size)) _ _ { s with heap := s.heap.push (seqObj "list" #[] 0) }
  unfold Builtin.List.listExtendWith
  have there : (s.heap.push (seqObj "list" #[] 0)).get? l = some o := Heap.get?_push_of_some _ ho
  have fresh : (s.heap.push (seqObj "list" #[] 0)).get? s.heap.objs.size = some (seqObj "list" #[] 0) := Heap.get?_push_size _ rfl
  refine wpAny_bind (wpAny_typeOf (T := T) ⟨o, there, hc⟩ ?_)
  have kind : (Builtin.List.listSameRef (.ref s.heap.objs.size) (.ref l) || Value.type T == Value.type "list" || Value.type T == Value.type "tuple") = true := by
    rcases hT with rfl | rfl
    · rw [show (Value.type "list" == Value.type "list") = true from rfl]; simp
    · rw [show (Value.type "tuple" == Value.type "tuple") = true from rfl]; simp
  rw [if_pos kind]
  refine wpAny_bind (listItems_at there hd ?_)
  refine wpAny_bind (listItems_at fresh rfl ?_)
  rw [if_neg (by simp)]
  refine wpAny_bind (listUpdate_at fresh rfl ?_ (Nat.zero_le _) (by show (#[] ++ vs.toArray).size ≤ sizeLine + 1; simp only [Array.size_append, List.size_toArray, List.length_nil]; omega))
  refine wpAny_pure ?_
  show wpAny (model prog w) A (do
      let o ← load s.heap.objs.size
      match o.data with
      | .seq xs _ => pure xs.toList
      | _ => unsupported "internal:collect") Q E { s with heap := (s.heap.push (seqObj "list" #[] 0)).update s.heap.objs.size (Obj.mapSeq (· ++ vs.toArray)) }
  refine wpAny_bind (wpAny_load (get?_update_seq fresh _) ?_)
  show wpAny _ _ (pure ((#[] : Array Value) ++ vs.toArray).toList) Q E _
  rw [show ((#[] : Array Value) ++ vs.toArray).toList = vs by simp]
  exact wpAny_pure h
/-- sorted of a list or a tuple: its copy is sorted in place -/
theorem sorted_sq {l : Addr} {T : String} {o : Obj} {vs : List Value} {n : Nat} {kw : List (Str × Value)} {Q : Value → Shared → Prop} (hT : T = "list" ∨ T = "tuple") (ho : s.heap.get? l = some o) (hc : o.cls = .type T) (hd : o.data = .seq vs.toArray n) (hz : vs.length ≤ sizeLine)
    (a1 : argsOk "sorted" ⟨[.ref l], kw⟩) (a2 : ∀ x, argsOk "list.sort" ⟨[.ref x], kw⟩)
    (body : ∀ E' : Value → Shared → Prop, wpAny (model prog w) A.in1.in1 (Builtin.«list.sort» ⟨[.ref (s.heap.objs.size + 1)], kw⟩) (fun f s' => f = .done (.ret .none) ∧ Q (.ref (s.heap.objs.size + 1)) s') E' { s with heap := copyHeap s.heap vs }) :
    wpAny (model prog w) A (call (.builtin "sorted") [.ref l] kw) Q E s := by
  refine call_function_entry_kw kind_sorted plain_sorted entry_sorted a1 ?_
  unfold Builtin.«sorted»
  refine wpAny_bind (m := checkCount "sorted" 1 1 _) (wpAny_pure ?_)
  refine wpAny_bind (collect_sq hT ho hc hd hz ?_)
  refine wpAny_bind (wpAny_newList ?_ hz)
  have size1 : ((s.heap.push (seqObj "list" #[] 0)).update s.heap.objs.size (Obj.mapSeq (· ++ vs.toArray))).objs.size = s.heap.objs.size + 1 := (Heap.size_update _ _ _).trans (size_push' _ _)
  show wpAny _ _ _ _ _ { s with heap := copyHeap s.heap vs }
  rw [size1]
  refine wpAny_bind (wpAny_holding (wpAny_call_entry_kw slot_list_sort ⟨_, copyHeap_at s.heap vs, rfl⟩ entry_list_sort ?inner (a2 _)))
  case inner =>
    refine wpAny_mono (body _) ?_ fun _ _ z => z
    rintro f s' ⟨rfl, hq⟩
    exact ⟨_, rfl, wpAny_pure ⟨_, rfl, hq⟩⟩
end
/-! ### the rule -/
/-- a built-in called with keywords; what it asks may look at the caller's names -/
def CallRKS (X : Cx) (f : Value) (ks : List Str) (r : L2.St → List V → List V → Hp → VK → Prop) : Prop :=
  ∀ (pins : List (Addr × Obj)) (s : Shared) (σ : L2.St) (H : Hp) (xs zs : List V) (us ws : List Value) (Q : VK), Inv X pins σ H s → Vals xs us → Vals zs ws → r σ xs zs H Q → wpAny (model X.prog X.w) X.A (call f us (ks.zip ws)) (EP X pins σ Q) X.xe s
def tCKwS (r : L2.St → List V → List V → Hp → VK → Prop) (t tk : TA) : TE := fun σ H Q => t σ H fun vs H1 => tk σ H1 fun zs H2 => r σ vs zs H2 Q
section
variable {X : Cx}
theorem pe_callBKS {x : Str} {p pos : Pos} {e : Expr} {es : List Expr} {kws : List Keyword} {t tk : TA} {id : String} {ks : List Str} {r : L2.St → List V → List V → Hp → VK → Prop} (rule : CallRKS X (.builtin id) ks r) (hg : Gl X x) (hm : X.mg x = none) (hv : bootBuiltins x = some (.builtin id)) (ha : PA X (e :: es) t) (hk : PK X kws tk)
    (hn : x ≠ "__name__" := by decide) (hdb : (x == ("__debug__" : Str)) = false := by decide) (he : backTo pos (starEach (e :: es) X.env) = (false, eval e X.env) :: backTo pos (starEach es X.env) := by rfl) (hpl : (backTo pos (starEach (e :: es) X.env)).any (·.1) = false := by rfl)
    (hall : (backToKw pos (keywordEach kws X.env)).all (·.1.isSome) = true := by rfl) (hnone : (backToKw pos (keywordEach kws X.env)).any (·.1.isNone) = false := by rfl) (hks : (backToKw pos (keywordEach kws X.env)).filterMap (·.1) = ks := by rfl) :
    PE X (.Call (.Name x p) (e :: es) kws pos) (tCKwS r t tk) := ⟨fun pins s σ H Q I h => by
  refine wpAny_Call_Name_kw (ld_blt I hg hm hv ?_ hn hdb)
  refine PyProof.Rows.callWith_kw (thn (ha.run pos pins s σ H _ I h) fun us s1 hq1 => ?_) he hpl hall hnone
  obtain ⟨vs, H1, I1, r1, q1⟩ := hq1
  refine thn (hk.run pos pins s1 σ H1 _ I1 q1) fun ws s2 hq2 => ?_
  obtain ⟨zs, H2, I2, r2, q2⟩ := hq2
  rw [hks]
  exact rule pins s2 σ H2 vs zs us ws Q I2 r1 r2 q2⟩
/-- a lambda as a value -/
def tLamV (T : List (Addr × Str)) (mk : Addr → LF) : TE := fun _ H Q => Tabs T H ∧ ∀ (f c' : Addr) (H1 : Hp), Grow T H H1 → H1 f = some (LamO f (mk c')) → H1 c' = some (CodeO c' (mk c').qual) → Q (.ref f) H1
theorem pe_lamV {T : List (Addr × Str)} {c P : Addr} {params : Arguments} {body : Expr} {scope : Scope} {pos : Pos} (TB : TabB X.base X.mg c P) (hcode : X.env.code = .ref c) (hm : (P, X.env.qual ++ "<lambda>") ∈ T) (hu : ∀ p ∈ T, p.1 = P → p.2 = X.env.qual ++ "<lambda>") (hdef : defaultsOf params X.env = ([], []))
    (hfree : ∀ y ∈ scope.names, y.2 = .free → X.env.scope.names.lookup y.1 = some .cell ∨ X.env.scope.names.lookup y.1 = some .free) :
    PE X (.Lambda params body scope pos) (tLamV T fun c' => ⟨X.env.qual ++ "<lambda>", params, body, scope, cloFrom X.env.cells scope.names [], c'⟩) := ⟨fun pins s σ H Q I h => by
  obtain ⟨hT, h⟩ := h
  refine lam_made I TB hcode hm hu hT hdef (fun y hy e => (hfree y hy e).elim (fun z => I.ok.has _ (.inl z)) fun z => I.ok.has _ (.inr z)) fun f c' H1 s' I1 g a1 a2 => ?_
  exact ⟨.ref f, H1, I1, rfl, h f c' H1 g a1 a2⟩⟩
/-- sorted by such a lambda: the key of each item is a row of whole numbers -/
def rSortLam (K : PySem.W.Frag) (mk : Addr → LF) (N : List Str) (js : List Nat) (tb : TE) : L2.St → List V → List V → Hp → VK → Prop := fun σ vs zs H Q => ∃ (a f c' : Addr) (xs : List V) (key : V → List Int), vs = [.ref a] ∧ zs = [.ref f] ∧ (SqL K H a xs ∨ SqT K H a xs) ∧
  H f = some (LamO f (mk c')) ∧ H (mk c').c = some (CodeO (mk c').c (mk c').qual) ∧ (∀ x ∈ xs, ∃ y r, key x = y :: r) ∧
  (∀ (x : V) (H' : Hp), x ∈ xs → More H H' → tb (startF N [x] (js.map (slotAt σ))) H' fun v H2 => ∃ t, H' t = none ∧ v = .ref t ∧ H2 = upd H' t (.tup ((key x).map V.int))) ∧
  ∀ (H' : Hp) (ys : List V) (p : Addr), More H H' → ys.Perm xs → ys.Pairwise (fun x y => (key x).headD 0 ≤ (key y).headD 0) → H' p = none → Q (.ref p) (upd H' p (.lst ys))
theorem cr_sortLam {mk : Addr → LF} {N fr : List Str} {js : List Nat} {tb : TE} {cl : List (Str × Addr)} {scope : Scope} {body : Expr} {x0 : Str} (hsc : ∀ c', (mk c').scope = scope) (hcl : ∀ c', (mk c').cl = cl) (hbd : ∀ c', (mk c').body = body) (hr : Room 3 X.A) (S : NScope N [x0] fr scope)
    (hb : ∀ (c' : Addr) (pm ctv u : Value), bindArgs ((mk c').fd pm ctv) ⟨[u], []⟩ = pure [(x0, u)]) (cp : X.Ok → Caps X cl fr js)
    (hbody : ∀ (A : Around) (outer : List Env) (s : Shared) (H : Hp) (f c' : Addr), Room 0 (A.deeper (envF (mk c').nf f s.heap.objs.size)) → PE (ncx CX0 X.prog X.w X.K X.mg X.base N (mk c').nf f A outer s H E0) body tb) :
    CallRKS X (.builtin "sorted") [Str.ofString "key"] (rSortLam X.K mk N js tb) := by
  intro pins s σ H vs zs us ws Q I r rz h
  obtain ⟨a, f, c', xs, key, rfl, rfl, hseq, hf, hc, hkey, hturn, q⟩ := h
  obtain ⟨u, rfl, ru⟩ := vals1 r
  obtain ⟨u2, rfl, ru2⟩ := vals1 rz
  cases ru
  cases ru2
  obtain ⟨T, o, its, n, hT, ho, hcls, hd, rv, hz⟩ : ∃ (T : String) (o : Obj) (its : List Value) (n : Nat), (T = "list" ∨ T = "tuple") ∧ s.heap.get? a = some o ∧ o.cls = .type T ∧ o.data = .seq its.toArray n ∧ Vals xs its ∧ xs.length ≤ sizeLine := by
    rcases hseq with hs | hs
    · obtain ⟨its, rv, pl, hz⟩ := I.list hs
      obtain ⟨o, ho, hcls, n, hd⟩ := pl.isList
      exact ⟨"list", o, its, n, .inl rfl, ho, hcls, hd, rv, hz⟩
    · obtain ⟨its, rv, pl, hz⟩ := I.tuple hs
      obtain ⟨o, ho, hcls, n, hd⟩ := pl
      exact ⟨"tuple", o, its, n, .inr rfl, ho, hcls, hd, rv, hz⟩
  have hlen := rv.length
  refine sorted_sq hT ho hcls hd (by omega) (ksk_s1 _ _) (fun _ => ksk_l1 _ _) fun E' => ?_
  show wpAny (model X.prog X.w) X.A.in1.in1 (Builtin.«list.sort» ⟨[.ref (s.heap.objs.size + 1)], [(Str.ofString "key", .ref f)]⟩) _ E' _
  rw [ksk_t1]
  have z1 := copyHeap_at s.heap its
  have sz2 : (copyHeap s.heap its).objs.size = s.heap.objs.size + 2 := by
    unfold copyHeap
    rw [size_push', Heap.size_update, size_push']
  obtain ⟨e1, z2⟩ : ∃ e1, ((copyHeap s.heap its).update (s.heap.objs.size + 1) (Obj.mapSeq fun _ => (#[] : Array Value))).get? (s.heap.objs.size + 1) = some (seqObj "list" #[] e1) := ⟨_, get?_update_seq z1 fun _ => #[]⟩
  have sz3 : (((copyHeap s.heap its).update (s.heap.objs.size + 1) (Obj.mapSeq fun _ => (#[] : Array Value))).push (seqObj "tuple" its.toArray 0)).objs.size = s.heap.objs.size + 3 := by
    rw [size_push', Heap.size_update, sz2]
  unfold ksk_tree
  refine wpAny_bind (listItems_at z1 rfl ?_)
  refine wpAny_bind (listUpdate_at z1 rfl ?_ (by rw [List.size_toArray]; omega) (Nat.zero_le _))
  refine wpAny_bind (seqEpoch_at z2 rfl ?_)
  refine wpAny_bind (wpAny_newTuple ?_ (by show its.length ≤ _; omega))
  refine wpAny_bind (wpAny_newList ?_ (Nat.zero_le _))
  refine wpAny_holding ?_
  show wpAny (model X.prog X.w) X.A.in1.in1 (ksk_rest (s.heap.objs.size + 1) (.ref f) false its.toArray e1 (.ref (((copyHeap s.heap its).update (s.heap.objs.size + 1) (Obj.mapSeq fun _ => (#[] : Array Value))).push (seqObj "tuple" its.toArray 0)).objs.size)) _ _ { s with heap := sortingHeap (copyHeap s.heap its) (s.heap.objs.size + 1) its }
  rw [sz3]
  have old : ∀ b ob, s.heap.get? b = some ob → (sortingHeap (copyHeap s.heap its) (s.heap.objs.size + 1) its).get? b = some ob := fun b ob e => sortingHeap_old (Nat.ne_of_lt (Nat.lt_succ_of_lt (Heap.lt_size e))) (copyHeap_old e)
  have I0 : Inv X pins σ H { s with heap := sortingHeap (copyHeap s.heap its) (s.heap.objs.size + 1) its, toks := s.toks } := I.kept old
  have cellLt : ∀ x c, X.env.cells.lookup x = some c → c < s.heap.objs.size := fun x c e => by
    obtain ⟨v, oc, hoc, _⟩ := I.cell x c e
    exact Heap.lt_size hoc
  have pinLt : ∀ p ∈ X.pn ++ pins, p.1 < s.heap.objs.size := fun p hp => Heap.lt_size (I.pin p hp).1
  have lt := I.lt
  have nk : (sortingHeap (copyHeap s.heap its) (s.heap.objs.size + 1) its).get? (s.heap.objs.size + 3) = some (seqObj "list" #[] 0) := by
    have g : (sortingHeap (copyHeap s.heap its) (s.heap.objs.size + 1) its).get? (((copyHeap s.heap its).update (s.heap.objs.size + 1) (Obj.mapSeq fun _ => (#[] : Array Value))).push (seqObj "tuple" its.toArray 0)).objs.size = some (seqObj "list" #[] 0) := Heap.get?_push_size _ rfl
    rw [sz3] at g
    exact g
  have offs : ∀ {c : Nat} (k : Nat), c < s.heap.objs.size → c ≠ s.heap.objs.size + k := fun k h => Nat.ne_of_lt (Nat.lt_of_lt_of_le h (Nat.le_add_right _ k))
  have above : ∀ k : Nat, s.heap.objs.size ≤ s.heap.objs.size + k := fun k => Nat.le_add_right _ k
  have apart : s.heap.objs.size + 3 ≠ s.heap.objs.size + 1 := by omega
  refine sort_rest (key := key) (s := { s with heap := sortingHeap (copyHeap s.heap its) (s.heap.objs.size + 1) its, toks := s.toks }) I0 (Nat.le_trans I.sz (above 1)) (Nat.le_trans I.sz (above 3)) (Heap.get?_push_of_some _ (Heap.get?_push_of_some _ z2)) nk (I.hok.fresh (above 1)) (I.hok.fresh (above 3)) apart (offs 1 lt).symm (offs 3 lt).symm (I.nofs (above 1)) (I.nofs (above 3))
    (fun x c e => offs 1 (cellLt x c e)) (fun x c e => offs 3 (cellLt x c e)) (fun p hp => offs 1 (pinLt p hp)) (fun p hp => offs 3 (pinLt p hp)) rv hz
    (by have := hr.un; show X.A.units + 1 + 1 + 1 < cLine; omega) hkey (fun x v pins' H' s' hx rx mo J => ?_) fun H' ys s' mo p1 p2 hn J => ⟨rfl, ?_⟩
  · have sc : NScope N [x0] fr (mk c').scope := by rw [hsc]; exact S
    have hbd' : ∀ (A : Around) (outer : List Env) (s : Shared) (H : Hp), Room 0 (A.deeper (envF (mk c').nf f s.heap.objs.size)) → PE (ncx CX0 X.prog X.w X.K X.mg X.base N (mk c').nf f A outer s H E0) (mk c').body tb := fun A outer s H hr0 => by rw [hbd]; exact hbody A outer s H f c' hr0
    have cells : CellsAt (mk c').cl fr (js.map (slotAt σ)) s'.heap H' := by rw [hcl]; exact cells_of J (cp J.ok)
    refine lam_call (k := 0) J rfl sc (fun pm ctv us hl => ?_) hr.in1.in1 (mo.1 _ _ hf) (mo.1 _ _ hc) cells (.cons rx .nil) rfl (fun hr0 => hbd' _ _ _ _ hr0) (hturn x H' hx mo)
    obtain ⟨u, rfl⟩ : ∃ u, us = [u] := by
      match us, hl with
      | [u], _ => exact ⟨u, rfl⟩
    exact hb c' pm ctv u
  · refine ⟨.ref (s.heap.objs.size + 1), _, J, rfl, q H' ys _ mo p1 (p2.imp_of_mem fun {x y} hx hy e => ?_) hn⟩
    obtain ⟨k1, r1, e1⟩ := hkey x (p1.mem_iff.mp hx)
    obtain ⟨k2, r2, e2⟩ := hkey y (p1.mem_iff.mp hy)
    have := enc_le e1 e2 e
    rw [e1, e2]
    exact this
end
end K12

set_option maxHeartbeats 4000000
namespace K12
open PySem PySem.Spec PyProof.Rows L2 LamX NdefX
/-- a tracked list or tuple -/
def Sq (H : Hp) (a : Addr) (xs : List V) : Prop := H a = some (.lst xs) ∨ H a = some (.tup xs)
theorem Sq.seq {H : Hp} {K : PySem.W.Frag} {a : Addr} {xs : List V} (h : Sq H a xs) : SqL K H a xs ∨ SqT K H a xs := h.elim (fun h => .inl (SqL.of h)) fun h => .inr (SqT.of h)
theorem Sq.at {H H' : Hp} {a : Addr} {xs : List V} (h : Sq H a xs) (e : H' a = H a) : Sq H' a xs := h.elim (fun h => .inl (e.trans h)) fun h => .inr (e.trans h)
theorem Sq.up {H H' : Hp} {a : Addr} {xs : List V} (h : Sq H a xs) (e : ∀ o, H a = some o → H' a = some o) : Sq H' a xs := h.elim (fun h => .inl (e _ h)) fun h => .inr (e _ h)
/-! ### for over a list or a tuple -/
def iSq (tl : TE) : TI := fun σ H R => tl σ H fun x H1 => ∃ a xs, x = .ref a ∧ Sq H1 a xs ∧ ∀ J, Walk J xs.length (fun H => H a = H1 a) (YAt xs) → R J H1
section
variable {X : Cx} {tg : Expr}
theorem PI.or {e : Expr} {w1 w2 : TI} (h1 : PI X tg e w1) (h2 : PI X tg e w2) : PI X tg e (fun σ H R => w1 σ H R ∨ w2 σ H R) :=
  ⟨fun pins s σ H R I h => h.elim (fun h => h1.run pins s σ H R I h) fun h => h2.run pins s σ H R I h⟩
theorem pi_sq {l : Expr} {tl : TE} (hl : PE X l tl) : PI X tg l (iSq tl) := by
  refine ⟨fun pins s σ H R I h => ?_⟩
  refine thn (hl.run pins s σ H _ I h) fun v s1 ⟨x, H1, I1, r1, a, xs, e, hq, q⟩ => ?_
  subst e
  cases r1
  rcases hq with hq | hq
  · obtain ⟨its, rv, p, hz⟩ := I1.list (SqL.of hq)
    refine wpAny_pyIter_list p.isList ?_
    refine ⟨s1.heap.objs.size, [s1.heap.objs.size], _, _, H1, rfl, I1.kept (t' := s1.toks) fun b o e => Heap.get?_push_of_some _ e, turn_list a _, ⟨_, Heap.get?_push_size _ rfl, rfl, rfl⟩, fun b hb => ?_, q _ (walk_list.mono (fun H e => SqL.of (e.trans hq)) fun _ _ _ _ _ _ y => y)⟩
    have e : b = s1.heap.objs.size := by simpa using hb
    subst e
    exact I1.fpOk (Nat.le_refl _) (I1.hok.fresh (Nat.le_refl _))
  · obtain ⟨its, rv, p, hz⟩ := I1.tuple (SqT.of hq)
    refine wpAny_pyIter_tuple (show s1.heap.IsTuple a its.toArray from p) ?_
    refine ⟨s1.heap.objs.size, [s1.heap.objs.size], _, _, H1, rfl, I1.kept (t' := s1.toks) fun b o e => Heap.get?_push_of_some _ e, turn_tuple a _, ⟨_, Heap.get?_push_size _ rfl, rfl, rfl⟩, fun b hb => ?_, q _ (walk_tup.mono (fun H e => SqT.of (e.trans hq)) fun _ _ _ _ _ _ y => y)⟩
    have e : b = s1.heap.objs.size := by simpa using hb
    subst e
    exact I1.fpOk (Nat.le_refl _) (I1.hok.fresh (Nat.le_refl _))
/-! ### enumerate of a list or a tuple -/
def YEn (xs : List V) : Nat → Hp → V → Hp → Prop := YPair (fun i => some (.int (i : Nat))) (fun i => xs[i]?)
/-- the tuple at a, each item in a new pair -/
def IteT (K : PySem.W.Frag) (a : Addr) : It :=
  ⟨fun i H => ∃ (xs : List V) (x : V), SqT K H a xs ∧ xs[i]? = some x, fun i H v H' => ∃ T x, v = .ref T ∧ H T = none ∧ H' = upd H T (.tup [.int (i : Nat), x]) ∧ ∀ xs, SqT K H a xs → xs[i]? = some x, fun i H => ∃ xs : List V, SqT K H a xs ∧ xs.length ≤ i⟩
theorem walk_enumT {K : PySem.W.Frag} {a : Addr} {xs : List V} : Walk (IteT K a) xs.length (fun H => SqT K H a xs) (YEn xs) := by
  refine ⟨fun i _ hi q => ⟨xs, xs[i], q, by simp [hi]⟩, fun _ q => ⟨xs, q, Nat.le_refl _⟩, fun i H v H' _ q y => ?_⟩
  obtain ⟨T, x, h1, h2, h3, h4⟩ := y
  exact ⟨T, .int (i : Nat), x, h1, h2, h3, rfl, h4 xs q⟩
theorem turn_enumT {P : Program} {w : World} {K : PySem.W.Frag} {elts : List Expr} {kk : Nat} {tpos : Pos} (a e it : Addr) :
    Turn P w K (.Tuple elts kk tpos) (IteT K a) [e, it] e (fun i h => (∃ old, IsEnum h e it ((i : Nat) : Int) old) ∧ h.IsTupleIter it a i ∧ e ≠ it) where
  mem := by simp
  obj := fun i h st b hb => by
    obtain ⟨⟨old, he⟩, ⟨o, ho, hc, hd⟩, _⟩ := st
    have e' : b = e ∨ b = it := by simpa using hb
    rcases e' with z | z
    · rw [z]; exact ⟨_, he, fun v q => nomatch q⟩
    · rw [z]; exact ⟨o, ho, fun v q => by rw [hd] at q; cases q⟩
  keep := fun i h h' st k => let ⟨⟨old, he⟩, hi, hne⟩ := st; ⟨⟨old, k e (by simp) _ he⟩, hi.at fun o q => k it (by simp) o q, hne⟩
  item := by
    intro X hP hw hK hc i pins s σ H E I hf st hg
    subst hP hw hK
    obtain ⟨⟨old, he⟩, hit, hne⟩ := st
    obtain ⟨xs, x, hq, hx⟩ := hg
    obtain ⟨its, rv, p, hz⟩ := I.tuple hq
    have pt : s.heap.IsTuple a its.toArray := p
    obtain ⟨u, hu, ru⟩ := rv.get hx
    have hel : e < s.heap.objs.size := Heap.lt_size he
    have hil : it < s.heap.objs.size := by obtain ⟨_, q, _⟩ := hit; exact Heap.lt_size q
    have hat : a ≠ it := fun z => by
      obtain ⟨o, ho, hc', _⟩ := hit
      obtain ⟨o2, ho2, hc2, _⟩ := pt
      rw [z] at ho2
      rw [ho] at ho2
      cases ho2
      rw [hc'] at hc2
      injection hc2 with z2
      exact absurd z2 (by decide)
    have hae : e ≠ a := fun z => by
      obtain ⟨o2, ho2, hc2, _⟩ := pt
      rw [← z] at ho2
      rw [he] at ho2
      cases ho2
      injection hc2 with z2
      exact absurd z2 (by decide)
    have hlt : i < its.toArray.size := by rw [List.size_toArray]; exact (List.getElem?_eq_some_iff.mp hu).1
    refine wpAny_pyNext_enum_itemC (Draws.tuple (A := X.A.in1) (I.ok.hd hc) it a hat its.toArray) he ⟨hit, pt⟩ hlt hne (by simp [hne, hae]) fun y h' tk hPy ho hst' hT hsz hk => ?_
    have ey : y = u := by
      have q : its.toArray[i]? = some y := hPy
      have q2 : its.toArray[i]? = some u := by simpa using hu
      rw [q] at q2
      exact Option.some.inj q2
    subst ey
    obtain ⟨hit', pt'⟩ := hst'
    refine ⟨_, rfl, wpAny_letOwnedTupleGo_enum (s := { s with heap := h', toks := tk + 1 }) ho fun h'' he' sb => ?_⟩
    have hT2 : h''.get? s.heap.objs.size = some { cls := .type "tuple", data := .seq #[.int i tk, y] } := (sb.2 _ (Nat.ne_of_gt hel)).trans hT
    have new : ObjOk X.prog X.w (upd H s.heap.objs.size (.tup [.int (i : Nat), x])) h'' s.heap.objs.size (.tup [.int (i : Nat), x]) :=
      ⟨by show 2 ≤ sizeLine; decide, [.int i tk, y], .cons ⟨_, rfl⟩ (.cons ru .nil), ⟨_, hT2, rfl, _, rfl⟩⟩
    have I1 : Inv X pins σ (upd H s.heap.objs.size (.tup [.int (i : Nat), x])) { s with heap := h'', toks := tk + 1 } :=
      I.turnedNew (ch := [e, it]) (fun b ob hb q => (sb.2 b (fun z => hb (by simp [z]))).trans (hk b ob (fun z => hb (by simp [z])) (fun z => hb (by simp [z])) q)) hf (Nat.le_refl _) new
    refine ⟨.ref s.heap.objs.size, _, I1, rfl, ⟨_, x, rfl, I.hok.fresh (Nat.le_refl _), rfl, fun ys hy => by rw [I.tuple_inj hy hq]; exact hx⟩, ⟨⟨y, ?_⟩, hit'.at fun o q => (sb.2 it (Ne.symm hne)).trans q, hne⟩, fun b hb => ?_⟩
    · have e1 : ((i + 1 : Nat) : Int) = (i : Int) + 1 := by omega
      rw [e1]; exact he'
    · have hb' : b < s.heap.objs.size := by
        have e' : b = e ∨ b = it := by simpa using hb
        rcases e' with z | z
        · rw [z]; exact hel
        · rw [z]; exact hil
      rw [upd_ne (Nat.ne_of_lt hb')]
      exact (hf b hb).1
  done := by
    intro X hP hw hK hc i pins s σ H E I hf st hg
    subst hP hw hK
    obtain ⟨⟨old, he⟩, hit, hne⟩ := st
    obtain ⟨xs, hq, hx⟩ := hg
    obtain ⟨its, rv, p, hz⟩ := I.tuple hq
    have pt : s.heap.IsTuple a its.toArray := p
    obtain ⟨f0, f1, f2, f3, f4, f5⟩ := hf it (by simp)
    have hl := rv.length
    have hT : s.TypeIs (.ref e) "enumerate" := ⟨_, he, rfl⟩
    unfold pyNext
    refine wpAny_bind (wpAny_attempt (wpAny_callSpecial?_slot (name := Str.ofString "__next__") hT F.slot_enumerate_next
      (wpAny_call_entry F.slot_enumerate_next hT F.entry_enumerate_next ?_ (F.args_enumerate_next_1 _))))
    show wpAny _ _ (field (.ref e) 2 >>= _) _ _ _
    refine wpAny_bind (wpAny_field he rfl (x := .ref it) rfl ?_)
    refine wpAny_bind (wpAny_nextOf_tuple_end (I.ok.hd hc) hit pt (by simp; omega) fun h' x he' hx' => ?_)
    obtain ⟨o, ho, hc2⟩ := hx'
    refine wpAny_bind (wpAny_isInstance (T := "StopIteration") (b := true) ⟨o, ho, hc2⟩ isSubtype_stop ?_)
    refine wpAny_pure ⟨rfl, I.turned (t' := s.toks) (fun b o hb q => he' b o hb q) f0 f1 f3 f4 f5⟩
  self := fun A i s Q E st h => let ⟨⟨_, he⟩, _⟩ := st; wpAny_pyIter_enum he h
set_option maxHeartbeats 1000000 in
theorem meets_enum1 {v : Value} {o : Obj} {H : Heap → Prop} (B : Begins v o H) :
    Meets (Builtin.«enumerate.__new__» ⟨[.type "enumerate", v], []⟩) (fun _ R s => H s.heap ∧
      R (.ok (.ret (.ref (s.heap.push o).objs.size))) { s with heap := (s.heap.push o).push { cls := .type "enumerate", data := .fields #[.none, .bool false, .ref s.heap.objs.size, rawInt 0, .none, .none] } }) :=
  .of_wp fun prog w A R s h => by
    obtain ⟨hp, g, d, tk, os⟩ := s; obtain ⟨h1, h⟩ := h
    have hsub := sub_enumerate
    have q1 : ∀ {A' : Around} {E : Value → Shared → Prop} {Q : Value → Shared → Prop}, Q (.ref hp.objs.size) ⟨hp.push o, g, d, tk, os⟩ → wpAny (model prog w) A' (pyIter v) Q E ⟨hp, g, d, tk, os⟩ :=
      fun q => B.iter prog w _ _ ⟨hp, g, d, tk, os⟩ _ h1 q
    wp_walk using q1
    refine wpAny_stack_any fun st => wpAny_pure ?_
    split
    · rename_i c _ _ _ _ _
      cases (c == Value.type "enumerate")
      · wp_walk using q1
        exact ⟨_, rfl, h⟩
      · wp_walk using q1
        exact ⟨_, rfl, h⟩
    · wp_walk using q1
      exact ⟨_, rfl, h⟩
theorem enum_begins1 {prog : Program} {w : World} {A : Around} {E : Value → Shared → Prop} {s : Shared} {v : Value} {o : Obj} {H : Heap → Prop} {Q : Value → Shared → Prop} (B : Begins v o H) (h1 : H s.heap)
    (h : ∀ h', IsEnum h' (s.heap.objs.size + 1) s.heap.objs.size 0 .none → h'.get? s.heap.objs.size = some o → h'.objs.size = s.heap.objs.size + 2 →
      (∀ b o, s.heap.get? b = some o → h'.get? b = some o) → Q (.ref (s.heap.objs.size + 1)) { s with heap := h' }) :
    wpAny (model prog w) A (call (.type "enumerate") [v]) Q E s := by
  refine callType_new F.called_enumerate (by decide) (F.typeCall_enumerate_1 _) (F.newCall_enumerate_1 _) (fun obj => F.args_object_init_2 obj _) F.entry_enumerate_new
    (meets_enum1 B) ⟨h1, ?_⟩
  have hz : (s.heap.push o).objs.size = s.heap.objs.size + 1 := Heap.size_push ..
  show _ ∧ _
  rw [hz]
  have he : IsEnum ((s.heap.push o).push { cls := .type "enumerate", data := .fields #[.none, .bool false, .ref s.heap.objs.size, rawInt 0, .none, .none] }) (s.heap.objs.size + 1) s.heap.objs.size 0 .none := by
    have := Heap.get?_push_size (s.heap.push o) (o := { cls := .type "enumerate", data := .fields #[.none, .bool false, .ref s.heap.objs.size, rawInt 0, .none, .none] }) rfl
    rw [hz] at this; exact this
  refine ⟨⟨_, he, rfl⟩, h _ he (Heap.get?_push_of_some _ (Heap.get?_push_size _ B.free)) (by rw [Heap.size_push, hz]) fun b o x => Heap.get?_push_of_some _ (Heap.get?_push_of_some _ x)⟩
def iEnumSq (ta : TA) : TI := fun σ H R => ta σ H fun vs H1 => ∃ a xs, vs = [.ref a] ∧ Sq H1 a xs ∧ ∀ J, Walk J xs.length (fun H => H a = H1 a) (YEn xs) → R J H1
theorem pi_enumSq {e : Expr} {ta : TA} {p pos tpos : Pos} {elts : List Expr} {kk : Nat} (hg : Gl X "enumerate") (hm : X.mg "enumerate" = none) (ha : PA X [e] ta) (hs : starEach [e] X.env = [(false, eval e X.env)] := by rfl) :
    PI X (.Tuple elts kk tpos) (.Call (.Name "enumerate" p) [e] [] pos) (iEnumSq ta) := by
  refine ⟨fun pins s σ H R I h => ?_⟩
  refine Call_ (ld_blt I hg hm boot_enumerate (PyProof.Rows.callWith_type1 (thn (ha.run pos pins s σ H _ I h) fun us s1 ⟨vs, H1, I1, r1, q1⟩ => ?_) hs rfl))
  obtain ⟨a, xs, ex, hq, q⟩ := q1
  subst ex
  cases r1 with
  | cons r rr =>
    cases rr
    cases r
    have fin : ∀ b ∈ [s1.heap.objs.size + 1, s1.heap.objs.size], FpOk X pins H1 b := fun b hb => by
      have e' : b = s1.heap.objs.size + 1 ∨ b = s1.heap.objs.size := by simpa using hb
      have hle : s1.heap.objs.size ≤ b := by
        rcases e' with z | z
        · rw [z]; exact Nat.le_add_right _ _
        · rw [z]; exact Nat.le_refl _
      exact I1.fpOk hle (I1.hok.fresh hle)
    rcases hq with hq | hq
    · obtain ⟨its, rv, p', hz⟩ := I1.list (SqL.of hq)
      refine call_enumerate_list p'.isList fun h' he hit hsz hk => wpAny_pyIter_enum he ?_
      exact ⟨s1.heap.objs.size + 1, [s1.heap.objs.size + 1, s1.heap.objs.size], _, _, H1, rfl, I1.kept (t' := s1.toks) hk, turn_enum a (s1.heap.objs.size + 1) s1.heap.objs.size, ⟨⟨.none, he⟩, hit, Nat.succ_ne_self _⟩, fin,
        q _ (walk_enum.mono (fun H e => SqL.of (e.trans hq)) fun _ _ _ _ _ _ y => y)⟩
    · obtain ⟨its, rv, p', hz⟩ := I1.tuple (SqT.of hq)
      refine enum_begins1 (begins_tuple a its.toArray) p' fun h' he hit hsz hk => wpAny_pyIter_enum he ?_
      exact ⟨s1.heap.objs.size + 1, [s1.heap.objs.size + 1, s1.heap.objs.size], _, _, H1, rfl, I1.kept (t' := s1.toks) hk, turn_enumT a (s1.heap.objs.size + 1) s1.heap.objs.size, ⟨⟨.none, he⟩, ⟨_, hit, rfl, rfl⟩, Nat.succ_ne_self _⟩, fin,
        q _ (walk_enumT.mono (fun H e => SqT.of (e.trans hq)) fun _ _ _ _ _ _ y => y)⟩
end
/-! ### zip of two lists, of two tuples -/
theorem walk_zipT {K : PySem.W.Frag} {a b : Addr} {xs ys : List V} {n : Nat} (hn : n = min xs.length ys.length) : Walk (RZ.ItzT K a b) n (fun H => SqT K H a xs ∧ SqT K H b ys) (YPair (fun i => xs[i]?) (fun i => ys[i]?)) := by
  subst hn
  refine ⟨fun i _ hi q => ?_, fun _ q => ⟨xs, ys, q.1, q.2, by omega⟩, fun i H v H' _ q y => ?_⟩
  · have h1 : i < xs.length := by omega
    have h2 : i < ys.length := by omega
    exact ⟨xs, ys, xs[i], ys[i], q.1, q.2, by simp [h1], by simp [h2]⟩
  · obtain ⟨T, x, z, h1, h2, h3, h4, h5⟩ := y
    exact ⟨T, x, z, h1, h2, h3, h4 xs q.1, h5 ys q.2⟩
def iZipSq (ta : TA) : TI := fun σ H R => ta σ H fun vs H1 => ∃ a b xs ys, vs = [.ref a, .ref b] ∧ ((H1 a = some (.lst xs) ∧ H1 b = some (.lst ys)) ∨ (H1 a = some (.tup xs) ∧ H1 b = some (.tup ys))) ∧
  ∀ J n, n = min xs.length ys.length → Walk J n (fun H => H a = H1 a ∧ H b = H1 b) (YPair (fun i => xs[i]?) (fun i => ys[i]?)) → R J H1
theorem pi_zipSq {X : Cx} {e e2 : Expr} {ta : TA} {p pos tpos : Pos} {elts : List Expr} {kk : Nat} (hg : Gl X "zip") (hm : X.mg "zip" = none) (ha : PA X [e, e2] ta)
    (hs : starEach [e, e2] X.env = (false, eval e X.env) :: starEach [e2] X.env := by rfl) (hpl : (backTo pos (starEach [e2] X.env)).any (·.1) = false := by rfl) :
    PI X (.Tuple elts kk tpos) (.Call (.Name "zip" p) [e, e2] [] pos) (iZipSq ta) := by
  refine ⟨fun pins s σ H R I h => ?_⟩
  have ha' : PA X [e, e2] (fun σ H Q => ∃ Q0 : List V → Hp → Prop, ta σ H Q0 ∧ ∀ vs H1, Q0 vs H1 → Q vs H1) :=
    ⟨fun pos pins s σ H Q I ⟨Q0, h0, h1⟩ => thn (ha.run pos pins s σ H Q0 I h0) fun us s1 ⟨vs, H1, I1, r1, q1⟩ => ⟨vs, H1, I1, r1, h1 _ _ q1⟩⟩
  refine (RZ.pi_zipA hg hm ha' hs hpl).run pins s σ H R I ⟨_, h, fun vs H1 h1 => ?_⟩
  obtain ⟨a, b, xs, ys, ex, hq, q⟩ := h1
  rcases hq with ⟨h2, h3⟩ | ⟨h2, h3⟩
  · exact ⟨a, b, xs, ys, ex, .inl ⟨SqL.of h2, SqL.of h3, q _ _ rfl ((walk_zip rfl).mono (fun H e => ⟨SqL.of (e.1.trans h2), SqL.of (e.2.trans h3)⟩) fun _ _ _ _ _ _ y => y)⟩⟩
  · exact ⟨a, b, xs, ys, ex, .inr ⟨SqT.of h2, SqT.of h3, q _ _ rfl ((walk_zipT rfl).mono (fun H e => ⟨SqT.of (e.1.trans h2), SqT.of (e.2.trans h3)⟩) fun _ _ _ _ _ _ y => y)⟩⟩
/-! ### a dict comprehension over any walk -/
theorem dc_it {J : It} {n : Nat} {G : Hp → Prop} {Y : Nat → Hp → V → Hp → Prop} (w : Walk J n G Y) {g : TG} {tt : TT} {tk tv : TE} {vs : List Nat} {σ : L2.St} {H1 : Hp} {D : Addr} {Qd : Hp → Prop} (Pv : Nat → Hp → Prop) (h0 : Pv 0 (upd H1 D (.dK []))) (hG : ∀ i H, i ≤ n → Pv i H → G H)
    (hs : ∀ i x H H', i < n → Pv i H → Y i H x H' → g x (wipe σ vs) H' fun σ2 H2 => wipe σ2 vs = wipe σ vs ∧ tt σ2 H2 fun b H3 =>
      if b = true then tk σ2 H3 fun y H4 => tv σ2 H4 fun z H5 => ∃ kvs k, y = kV k ∧ H5 D = some (.dK kvs) ∧ kvs.length < sizeLine ∧ Pv (i + 1) (upd H5 D (.dK (putK kvs k z))) else Pv (i + 1) H3) (hd : ∀ H, Pv n H → Qd H) :
    ∃ W : Nat → Nat → Hp → Prop, (∃ m, W 0 m (upd H1 D (.dK []))) ∧ ∀ i m H, W i m H →
      (J.stop i H ∧ Qd H) ∨ (J.go i H ∧ ∃ Nx : Hp → Prop, (∀ H', Nx H' → ∃ m', m' < m ∧ W (i + 1) m' H') ∧ ∀ x H', J.yld i H x H' → g x (wipe σ vs) H' fun σ2 H2 => wipe σ2 vs = wipe σ vs ∧ tt σ2 H2 fun b H3 =>
        if b = true then tk σ2 H3 fun y H4 => tv σ2 H4 fun z H5 => ∃ kvs k, y = kV k ∧ H5 D = some (.dK kvs) ∧ kvs.length < sizeLine ∧ Nx (upd H5 D (.dK (putK kvs k z))) else Nx H3) := by
  refine ⟨fun i m H => m = n - i ∧ i ≤ n ∧ Pv i H, ⟨n, by simp, Nat.zero_le _, h0⟩, ?_⟩
  rintro i m H ⟨rfl, hi, p⟩
  have q := hG i H hi p
  by_cases hlt : i < n
  · exact .inr ⟨w.goes i H hlt q, Pv (i + 1), fun H' p' => ⟨n - (i + 1), by omega, rfl, hlt, p'⟩, fun x H' y => hs i x H H' hlt p (w.yields i H x H' hlt q y)⟩
  · have e : i = n := by omega
    subst e
    exact .inl ⟨w.stops H q, hd H p⟩
theorem kv_get {κ : Type} : ∀ {l : List (κ × V)} {r : List (κ × Value)} {j : Nat} {p : κ × V}, KV l r → l[j]? = some p → ∃ q, r[j]? = some q ∧ p.1 = q.1 ∧ RelV p.2 q.2
  | _, _, _, _, .nil, e => by simp at e
  | _, _, 0, _, .cons h _, e => by simp at e; subst e; exact ⟨_, rfl, h⟩
  | _, _, j + 1, _, .cons _ t, e => by
    obtain ⟨q, h1, h2⟩ := kv_get (j := j) t (by simpa using e)
    exact ⟨q, by simpa using h1, h2⟩
section
variable {X : Cx}
/-! ### slices of a list or a tuple -/
/-- a new list or tuple, or the whole tuple itself -/
def rSlSq : V → Option Int → Option Int → Hp → VK → Prop := fun x lo hi H Q => ∃ a xs, x = .ref a ∧ ((H a = some (.lst xs) ∧ ∀ p, H p = none → Q (.ref p) (upd H p (.lst (cutV xs lo hi)))) ∨
  (H a = some (.tup xs) ∧ (cutV xs lo hi = xs → Q (.ref a) H) ∧ ∀ p, H p = none → Q (.ref p) (upd H p (.tup (cutV xs lo hi)))))
theorem cutV_whole {xs : List V} {lo hi : Option Int} (h1 : HT.sIx xs.length 0 lo = 0) (h2 : HT.sIx xs.length xs.length hi = xs.length) : cutV xs lo hi = xs := by
  unfold cutV
  rw [h1, h2]
  simp
theorem sl_sq : SlR X rSlSq := by
  intro pins s σ H x v vl vu lo hi sl Q I rx hs pl pu h
  obtain ⟨a, xs, rfl, ⟨hx, q⟩ | ⟨hx, q1, q2⟩⟩ := h
  · exact sl_list pins s σ H _ v vl vu lo hi sl Q I rx hs pl pu ⟨a, xs, rfl, SqL.of hx, q⟩
  · exact sl_tupA pins s σ H _ v vl vu lo hi sl Q I rx hs pl pu ⟨a, xs, rfl, SqT.of hx, fun w => q1 (cutV_whole w.1 w.2), fun _ => q2⟩
/-! ### t[::-1] of a pair -/
def tRevT (te : TE) : TE := fun σ H Q => te σ H fun x H1 => ∃ a y z, x = .ref a ∧ H1 a = some (.tup [y, z]) ∧ ∀ p, H1 p = none → Q (.ref p) (upd H1 p (.tup [z, y]))
theorem sliceApplied_rev2 {prog : Program} {w : World} {A : Around} {E : Value → Shared → Prop} {s : Shared} {sl : Addr} {vl vu vs : Value} {Q : Int × Int × Nat → Shared → Prop} (hs : s.heap.IsSliceOf sl vl vu vs) (pl : IsPart vl none) (pu : IsPart vu none) (ps : IsPart vs (some (-1)))
    (h : Q (1, -1, 2) s) : wpAny (model prog w) A (Builtin.Slice.sliceApplied (.ref sl) (pure (2 : Int))) Q E s := by
  obtain ⟨os, hos, hcs, hds⟩ := id hs
  unfold Builtin.Slice.sliceApplied Builtin.Slice.sliceFields
  refine wpAny_bind (wpAny_bind (wpAny_field hos hds (x := vl) rfl (wpAny_bind (wpAny_field hos hds (x := vu) rfl (wpAny_bind (wpAny_field hos hds (x := vs) rfl (wpAny_pure ?_)))))))
  refine wpAny_bind (HT.slicePart_ ps ?_)
  show wpAny _ _ (if ((-1 : Int) == 0) = true then _ else _) _ _ s
  rw [if_neg (by decide)]
  refine wpAny_bind (HT.slicePart_ pl (wpAny_bind (HT.slicePart_ pu (wpAny_bind (wpAny_pure ?_)))))
  exact wpAny_pure h
theorem getItem_tuple_rev2 {prog : Program} {w : World} {A : Around} {E : Value → Shared → Prop} {s : Shared} {t sl : Addr} {y z : Value} {vl vu vs : Value} {Q : Value → Shared → Prop} (ht : IsTup s.heap t #[y, z]) (hs : s.heap.IsSliceOf sl vl vu vs) (pl : IsPart vl none) (pu : IsPart vu none) (ps : IsPart vs (some (-1)))
    (h : Q (.ref s.heap.objs.size) { s with heap := s.heap.push { cls := .type "tuple", data := .seq #[z, y] } }) : wpAny (model prog w) A (getItem (.ref t) (.ref sl)) Q E s := by
  obtain ⟨os, hos, hcs, hds⟩ := id hs
  have hTs : s.TypeIs (.ref sl) "slice" := ⟨os, hos, hcs⟩
  unfold getItem
  try with_reducible refine wpAny_holding ?_
  first | refine wpAny_bind (wpAny_pure ?_) | skip
  refine wpAny_bind (wpAny_sequenceKey ht.typeIs (by decide) ?_)
  refine wpAny_bind (wpAny_callSpecial?_slot (name := Str.ofString "__getitem__") ht.typeIs PyProof.Rows.slot_tuple_getitem
    (wpAny_call_entry PyProof.Rows.slot_tuple_getitem ht.typeIs entry_tuple_getitem ?_ (args_tuple_getitem _ _)))
  show wpAny _ _ (Builtin.Tuple.tupleItemsOf (.ref t) >>= _) _ _ s
  refine wpAny_bind (tupleItemsOf_ ht ?_)
  refine wpAny_bind (wpAny_typeOf hTs ?_)
  rw [if_pos (by decide)]
  refine wpAny_bind (sliceApplied_rev2 hs pl pu ps ?_)
  show wpAny _ _ (if (((1 : Int) == 0 && (-1 : Int) == 1 && (2 : Nat) == 2)) = true then _ else _) _ _ s
  rw [if_neg (by decide)]
  have htake : sizeOk (.seq #[z, y]) := by show 2 ≤ sizeLine; decide
  first
    | exact wpAny_bind (m := Builtin.Tuple.tupleExact _) (wpAny_newObj_type (wpAny_pure ⟨_, rfl, wpAny_pure h⟩) htake)
    | exact wpAny_bind (m := Builtin.Tuple.tupleExact _) (wpAny_newObj_type (wpAny_bind (wpAny_pure (wpAny_pure ⟨_, rfl, wpAny_pure h⟩))) htake)
    | exact wpAny_bind (wpAny_bind (m := Builtin.Tuple.tupleExact _) (wpAny_newObj_type (wpAny_pure (wpAny_pure ⟨_, rfl, wpAny_pure h⟩)) htake))
    | exact wpAny_bind (wpAny_bind (m := Builtin.Tuple.tupleExact _) (wpAny_newObj_type (wpAny_pure ⟨_, rfl, wpAny_pure h⟩) htake))
theorem pe_revT {e : Expr} {te : TE} {k : Nat} {p1 p2 p3 pos : Pos} (he : PE X e te) : PE X (.Subscript e (.Slice none none (some (.UnaryOp .USub (.Constant (.int 1) k p1) p2)) p3) pos) (tRevT te) := by
  refine ⟨fun pins s σ H Q I h => ?_⟩
  refine Subscript_ (thn (he.run pins s σ H _ I h) fun v s1 ⟨x, H1, I1, r1, q1⟩ => ?_)
  obtain ⟨a, y, z, ex, hx, q⟩ := q1
  subst ex
  cases r1
  have hst : PO X (some (.UnaryOp .USub (.Constant (.int 1) k p1) p2)) (tPart (tUn (rU fun i => .int (-i)) (tC (.int 1)))) := po_some (pe_un un_neg pe_int)
  refine wpAny_Slice (thn (po_none.run pins s1 σ H1 (fun o H2 => o = none ∧ H2 = H1) I1 ⟨rfl, rfl⟩) fun vl s2 ⟨l, H2, I2, pl, el, e2⟩ => ?_)
  subst el e2
  refine thn (po_none.run pins s2 σ H2 (fun o H3 => o = none ∧ H3 = H2) I2 ⟨rfl, rfl⟩) fun vu s3 ⟨u, H3, I3, pu, eu, e3⟩ => ?_
  subst eu e3
  refine thn (hst.run pins s3 σ H3 (fun o H4 => o = some (-1) ∧ H4 = H3) I3 ⟨1, rfl, -1, rfl, rfl, rfl⟩) fun vs s4 ⟨o, H4, I4, ps, eo, e4⟩ => ?_
  subst eo e4
  have I5 : Inv X pins σ H4 { s4 with heap := s4.heap.push { cls := .type "slice", data := .fields #[vl, vu, vs] } } := I4.kept (t' := s4.toks) fun b ob q => Heap.get?_push_of_some _ q
  obtain ⟨its, r, ht, hz⟩ := I5.tuple (SqT.of hx)
  obtain ⟨u1, u2, rfl, ry, rz⟩ : ∃ u1 u2, its = [u1, u2] ∧ RelV y u1 ∧ RelV z u2 := by
    cases r with
    | cons p q =>
      cases q with
      | cons p' q' =>
        cases q'
        exact ⟨_, _, rfl, p, p'⟩
  show wpAny (model X.prog X.w) X.A (subscriptTail e (.Slice none none (some (.UnaryOp .USub (.Constant (.int 1) k p1) p2)) p3) (.ref a) (.ref s4.heap.objs.size)) (EP X pins σ Q) X.xe { s4 with heap := s4.heap.push { cls := .type "slice", data := .fields #[vl, vu, vs] } }
  refine tail_any (ops := [.ref a, .ref s4.heap.objs.size]) ht.typeIs (PyProof.Rows.slot_tuple_getitem.lookup) ?_ (by with_unfolding_all rfl)
  refine getItem_tuple_rev2 ht (Heap.IsSliceOf.new _ vl vu vs) pl pu ps ?_
  refine ⟨.ref _, _, I5.laid (t' := s4.toks) (o := .tup [z, y]) (fun b ob q => Heap.get?_push_of_some _ q) (Nat.le_refl _) ?_, rfl, q _ (I5.hok.fresh (Nat.le_refl _))⟩
  exact ⟨by show 2 ≤ sizeLine; decide, [u2, u1], .cons rz (.cons ry .nil), IsTup.new _ _⟩
/-! ### tuple(d.values()) -/
theorem collect_kdl {prog : Program} {w : World} {A : Around} {E : Value → Shared → Prop} {s : Shared} {T : String} {r d : Addr} {n : Nat} {P : Nat → Value → Prop} {OK : Heap → Prop} {Q : List Value → Shared → Prop} (K : PySem.W.KdlSrc prog w T r d n P OK) (hh : A.handled = none) (hok : OK s.heap) (hlen : n ≤ sizeLine)
    (hQ : ∀ (h' : Heap) (tk : Nat) (acc : Array Value), (∀ b o, s.heap.get? b = some o → h'.get? b = some o) → ItemsOf P acc n → Q acc.toList { s with heap := h', toks := tk }) :
    wpAny (model prog w) A (collect (.ref r)) Q E s := by
  unfold collect
  refine wpAny_bind (wpAny_runValue (codeAny_builtin F.entry_proto_collect ?_))
  rw [Around.under_plainId F.plain_proto_collect _]
  show wpAny _ A.in1 (newList [] >>= fun l => again (.builtin "list.__iadd__" ⟨[l, .ref r], []⟩)) _ _ s
  refine wpAny_bind (wpAny_newObj_type ?_)
  refine wpAny_pure ⟨plainId_quiet F.plain_list_iadd _, codeAny_builtin F.entry_list_iadd ?_⟩
  rw [Around.under_plainId F.plain_list_iadd _]
  show wpAny _ A.in1 (Builtin.List.listExtendWith (.ref s.heap.objs.size) (.ref r) (.ref s.heap.objs.size)) _ _ _
  have hS : (s.heap.push { cls := .type "list", data := .seq ([] : List Value).toArray }).get? s.heap.objs.size = some { cls := .type "list", data := .seq #[] 0 } := Heap.get?_push_size _ rfl
  have hlt := K.there _ hok
  refine wpAny_mono (PySem.W.kdl_extend (A := A) (R := fun rr s' => rr = .ok (.ret (.ref s.heap.objs.size)) ∧ ∃ (h' : Heap) (tk : Nat) (acc : Array Value) (c' : Nat), s' = { s with heap := h', toks := tk } ∧
      (∀ b o, s.heap.get? b = some o → h'.get? b = some o) ∧ h'.get? s.heap.objs.size = some { cls := .type "list", dict := none, data := .seq acc c', slots := #[] } ∧ ItemsOf P acc n)
    (s := { s with heap := s.heap.push { cls := .type "list", data := .seq ([] : List Value).toArray } }) K hh (K.keep _ _ hok fun b _ o e => Heap.get?_push_of_some _ e) s.heap.objs.size (Nat.ne_of_gt hlt.1) (Nat.ne_of_gt hlt.2) (.ref s.heap.objs.size) 0 hS
    (fun h' tk acc c' hk e hi => ⟨rfl, h', tk, acc, c', rfl, fun b o q => hk b o (Nat.ne_of_lt (Heap.lt_size q)) (Heap.get?_push_of_some _ q), e, hi⟩) hlen) (fun fin s' h => ?_) (fun e s' h => ?_)
  · cases fin with
    | done f =>
      obtain ⟨e, h', tk, acc, c', rfl, hk, hS', hi⟩ := h
      cases e
      show wpAny _ A (load s.heap.objs.size >>= _) _ _ _
      exact wpAny_bind (wpAny_load hS' (wpAny_pure (hQ h' tk acc hk hi)))
    | again c' =>
      refine ⟨h.1, codeAny_mono h.2 fun rr s'' hr' => ?_⟩
      obtain ⟨rfl, h', tk, acc, c', rfl, hk, hS', hi⟩ := hr'
      show wpAny _ A (load s.heap.objs.size >>= _) _ _ _
      exact wpAny_bind (wpAny_load hS' (wpAny_pure (hQ h' tk acc hk hi)))
  · exact absurd h.1 (by simp)
theorem call_tuple_kdl {prog : Program} {w : World} {A : Around} {E : Value → Shared → Prop} {s : Shared} {T : String} {r d : Addr} {n : Nat} {P : Nat → Value → Prop} {OK : Heap → Prop} {Q : Value → Shared → Prop} (K : PySem.W.KdlSrc prog w T r d n P OK) (hT : T = "dict_values") (hh : A.handled = none) (hok : OK s.heap) (hlen : n ≤ sizeLine)
    (hQ : ∀ (h' : Heap) (tk : Nat) (acc : Array Value), (∀ b o, s.heap.get? b = some o → h'.get? b = some o) → ItemsOf P acc n →
      Q (.ref h'.objs.size) { s with heap := h'.push { cls := .type "tuple", data := .seq acc }, toks := tk }) :
    wpAny (model prog w) A (call (.type "tuple") [.ref r]) Q E s := by
  subst hT
  refine callType_codes (Q₁ := fun obj s₁ => s₁.TypeIs obj "tuple" ∧ Q obj s₁) F.called_tuple (F.typeCall_tuple_1 _) F.entry_object_init ?_ fun obj s₁ h₁ => ?_
  · refine codeAny_of_tree ?_
    show wpAny _ A.in1.in1 (do checkBuiltinCall "tuple.__new__" ⟨[.type "tuple", .ref r], []⟩; again (.builtin "tuple.__new__" ⟨[.type "tuple", .ref r], []⟩)) _ _ s
    refine wpAny_bind (wpAny_of_eq (F.newCall_tuple_1 _) (wpAny_pure ⟨plainId_quiet F.plain_tuple_new _, codeAny_builtin F.entry_tuple_new ?_⟩))
    rw [Around.under_plainId F.plain_tuple_new _]
    have hsub := sub_tuple_self
    have hinit := init_tuple_lookup
    have hmh := madeHere_tuple
    have hTI : s.TypeIs (.ref r) "dict_values" := K.type _ hok
    have hh1 : A.in1.in1.handled = none := hh
    wp_walk using wpAny_typeOf hTI, collect_kdl (A := A.in1.in1) K hh1 hok hlen
    intro h' tk acc hk hacc
    show wpAny _ _ (Builtin.Tuple.tupleExact acc.toList.toArray >>= fun v => ret v) _ _ _
    unfold Builtin.Tuple.tupleExact
    refine wpAny_bind (wpAny_newObj_type ?_ (by show acc.toList.toArray.size ≤ sizeLine; simp only [Array.toArray_toList]; rw [hacc.1]; exact hlen))
    refine wpAny_pure ?_
    have e : acc.toList.toArray = acc := by simp
    rw [e]
    exact ⟨⟨_, Heap.get?_push_size _ rfl, rfl⟩, hQ h' tk acc hk hacc⟩
  · exact ⟨h₁.1, F.args_object_init_2 obj _, object_init_meets F.called_tuple.init.lookup F.called_tuple.made (by decide) prog w A.in1 _ s₁ ⟨h₁.1, rfl, h₁.2⟩⟩
/-- tuple(e.values()) -/
def tTupVals (td : TE) : TE := fun σ H Q => td σ H fun x H1 => ∃ d kvs, x = .ref d ∧ H1 d = some (.dK kvs) ∧ ∀ p, H1 p = none → Q (.ref p) (upd H1 p (.tup (kvs.map (·.2))))
theorem pe_tupleVals {e : Expr} {td : TE} {p apos cpos pos : Pos} (hc : X.calm = true) (he : PE X e td) (hg : Gl X "tuple") (hm : X.mg "tuple" = none) (hbase : attributeBase e "values" X.env (eval e X.env) = eval e X.env := by rfl) (hline : (apos.endLine == cpos.line) = true := by rfl)
    (hs : starEach [.Call (.Attribute e "values" apos) [] [] cpos] X.env = (false, eval (.Call (.Attribute e "values" apos) [] [] cpos) X.env) :: starEach [] X.env := by rfl) :
    PE X (.Call (.Name "tuple" p) [.Call (.Attribute e "values" apos) [] [] cpos] [] pos) (tTupVals td) := by
  refine ⟨fun pins s σ H Q I hq => ?_⟩
  refine wpAny_Call_Name_kw (ld_blt I hg hm boot_tuple ?_)
  refine PyProof.Rows.callWith_type1 ?_ hs rfl
  rw [hs]
  show wpAny _ _ (spliced ((false, eval (.Call (.Attribute e "values" apos) [] [] cpos) X.env) :: backTo pos (starEach [] X.env))) _ _ s
  refine Calls.spliced_cons ?_
  refine wpAny_Call_method (T := "dict") (id := "dict.values") hbase rfl hline F.plainAttrs_dict F.slot_dict_values F.type_dict_values (thn (he.run pins s σ H _ I hq) fun u s1 ⟨x, H1, I1, rx, d, kvs, ex, hd, q⟩ => ?_)
  subst ex
  obtain rfl : u = Value.ref d := rx
  obtain ⟨hz, hs0, vs, kv, hdo⟩ := I1.hok d _ hd
  obtain ⟨ep, hat⟩ := hdo.dictAt
  have lk : kvs.length = vs.length := Paired.length kv
  have I2 : Inv X pins σ H1 { s1 with heap := s1.heap.push { cls := .type "dict_values", data := .fields #[.ref d] } } := I1.kept (t' := s1.toks) fun b ob q => Heap.get?_push_of_some _ q
  refine ⟨hdo.typeIs, hdo.mapOf.noDict, ?_⟩
  show wpAny _ _ (callWith cpos (.builtin "dict.values") [.ref d] [] []) _ X.xe s1
  refine method_meetsIn F.slot_dict_values F.entry_dict_values rfl (PySem.evalArgs_none ⟨rfl, hdo.typeIs, F.args_dict_values_1 _, _, meets_dict_values (mixKind X.prog X.w) d hs0, ⟨vs, hdo⟩, ?_⟩)
  refine Calls.spliced_nil ?_
  refine call_tuple_kdl (PySem.W.kdl_values (knd := mixKind X.prog X.w) (r := s1.heap.objs.size) (d := d) (kvs := vs) (ep := ep)) rfl (I1.ok.hd hc) ⟨⟨_, Heap.get?_push_size _ rfl, rfl, rfl⟩, hat.push _⟩ (by omega) fun h' tk acc hk hacc => ?_
  have I3 : Inv X pins σ H1 { s1 with heap := h', toks := tk } := I1.kept fun b o e => hk b o (Heap.get?_push_of_some _ e)
  have hlen : acc.toList.length = vs.length := by rw [Array.length_toList]; exact hacc.1
  have rv : Vals (kvs.map (·.2)) acc.toList := by
    refine vals_of_at (by rw [List.length_map, hlen, lk]) fun j x u h1 h2 => ?_
    obtain ⟨k, hk2⟩ := hacc.2 j u (by rw [← Array.getElem?_toList]; exact h2)
    rw [List.getElem?_map] at h1
    cases e1 : kvs[j]? with
    | none => rw [e1] at h1; cases h1
    | some kv1 =>
      rw [e1] at h1
      have h1 : kv1.2 = x := Option.some.inj h1
      obtain ⟨q1, hq1, _, hq2⟩ := kv_get kv e1
      rw [hk2] at hq1
      cases hq1
      rw [← h1]
      exact hq2
  refine ⟨.ref h'.objs.size, upd H1 h'.objs.size (.tup (kvs.map (·.2))), I3.laid (t' := tk) (fun b ob q => Heap.get?_push_of_some _ q) (Nat.le_refl _) (show ObjOk X.prog X.w _ _ _ (.tup (kvs.map (·.2))) from ⟨by rw [List.length_map]; exact hz, acc.toList, rv, ?_⟩), rfl, q _ (I3.hok.fresh (Nat.le_refl _))⟩
  rw [Array.toArray_toList]
  exact IsTup.new _ _
/-! ### o.f as a target -/
def gFld (K : PySem.W.Frag) (ta : TE) (f : Str) : TG := fun y σ H N => ta σ H fun x H2 => ∃ a C dx fs, x = .ref a ∧ H2 a = some (.ins C dx fs) ∧ Cls K C ∧ NoAttr K C f ∧ fs.length < 1000 ∧ N σ (upd H2 a (.ins C dx (putF f y fs)))
theorem pg_fld {o : Expr} {ta : TE} {f : Str} {pos : Pos} (ha : PE X o ta) : PG X (.Attribute o f pos) (gFld X.K ta f) := by
  refine ⟨fun pins s σ H v u Q I r h => ?_⟩
  rw [assign_Attribute]
  refine wpAny_bind (wpAny_holding (thn (ha.run pins s σ H _ I h) fun ov s1 ⟨x, H1, I1, r1, a, C, dx, fs, ex, ea, c, n, l, q⟩ => ?_))
  subst ex
  obtain rfl : ov = Value.ref a := r1
  refine wpAny_bind (wpAny_standAt (wpAny_bind (wpAny_holding (setattr_ok I1 ea c n l r fun s3 I3 => ?_))))
  exact wpAny_release ⟨σ, _, I3, q⟩
end
end K12

namespace K12
open PySem PySem.Spec PyProof.Rows L2
def top (i : Nat) : Stmt := PySem.Challenge.pw_heardsince_k12_whole_numbers_alone_tell.main.body.getD i (.Pass ⟨0, 0, 0, 0⟩)
abbrev s_is_list : Stmt := top 3
abbrev s_is_whole : Stmt := top 4
abbrev s_is_number : Stmt := top 5
abbrev s_is_positive : Stmt := top 6
abbrev s_is_name : Stmt := top 7
abbrev s_is_one_of : Stmt := top 8
abbrev s_first_odd : Stmt := top 9
abbrev s_rim_order : Stmt := top 20
abbrev s_checked_people : Stmt := top 23
abbrev s_is_pair_of : Stmt := top 24
abbrev s_checked_ties : Stmt := top 25
abbrev s_checked_news : Stmt := top 26
abbrev s_check_village : Stmt := top 28
abbrev s_are_numbers : Stmt := top 30
abbrev s_check_ledger : Stmt := top 31
abbrev s_worked_back : Stmt := top 32
abbrev s_slates_of_ledger : Stmt := top 33
abbrev s_ledger_break : Stmt := top 34
abbrev s_law_cell : Stmt := top 36
abbrev s_law_source : Stmt := top 37
abbrev s_law_draw : Stmt := top 38
abbrev s_law_pick : Stmt := top 39
abbrev s_law_mixed : Stmt := top 40
abbrev s_law_same : Stmt := top 41
abbrev s_law_loose : Stmt := top 42
abbrev s_law_v_names : Stmt := top 43
abbrev s_law_v_ties : Stmt := top 44
abbrev s_law_v_drawn : Stmt := top 45
abbrev s_law_v_great : Stmt := top 46
abbrev s_law_v_made : Stmt := top 47
abbrev s_law_v_friends : Stmt := top 48
abbrev s_law_v_slates : Stmt := top 49
abbrev s_law_v_gift : Stmt := top 50
abbrev s_law_v_ledger : Stmt := top 51
abbrev s_law_v_orders : Stmt := top 52
abbrev s_law_v_all : Stmt := top 53
abbrev s_law_v_handed : Stmt := top 54
abbrev s_law_v_near : Stmt := top 55
abbrev s_law_small_right : Stmt := top 56
abbrev s_law_back_right : Stmt := top 57
abbrev s_law : Stmt := top 58
abbrev s_Inward_init : Stmt := inClass (top 21) 0
abbrev s_Inward_behind : Stmt := inClass (top 21) 1
abbrev s_Inward_pairs : Stmt := inClass (top 21) 2
abbrev s_Inward_go_through : Stmt := inClass (top 21) 3
abbrev s_Inward_in_order : Stmt := inClass (top 21) 4
abbrev s_Village_init : Stmt := inClass (top 27) 0
theorem sc_is_list : FnScope ["thing"] ["thing"] (defScope s_is_list) := ⟨rfl, rfl, rfl, by decide +kernel, rfl, by decide +kernel, by decide +kernel⟩
theorem sc_is_whole : FnScope ["thing"] ["thing"] (defScope s_is_whole) := ⟨rfl, rfl, rfl, by decide +kernel, rfl, by decide +kernel, by decide +kernel⟩
theorem sc_is_number : FnScope ["thing"] ["thing"] (defScope s_is_number) := ⟨rfl, rfl, rfl, by decide +kernel, rfl, by decide +kernel, by decide +kernel⟩
theorem sc_is_positive : FnScope ["thing"] ["thing"] (defScope s_is_positive) := ⟨rfl, rfl, rfl, by decide +kernel, rfl, by decide +kernel, by decide +kernel⟩
theorem sc_is_name : FnScope ["thing", "sign"] ["thing"] (defScope s_is_name) := ⟨rfl, rfl, rfl, by decide +kernel, rfl, by decide +kernel, by decide +kernel⟩
theorem sc_is_one_of : FnScope ["known", "thing"] ["known", "thing"] (defScope s_is_one_of) := ⟨rfl, rfl, rfl, by decide +kernel, rfl, by decide +kernel, by decide +kernel⟩
theorem sc_first_odd : FnScope ["things", "is_right", "odd", "index", "thing"] ["things", "is_right"] (defScope s_first_odd) := ⟨rfl, rfl, rfl, by decide +kernel, rfl, by decide +kernel, by decide +kernel⟩
theorem sc_rim_order : FnScope ["village", "first", "inner", "doors", "waiting", "here", "friend", "order", "name"] ["village"] (defScope s_rim_order) := ⟨rfl, rfl, rfl, by decide +kernel, rfl, by decide +kernel, by decide +kernel⟩
theorem sc_checked_people : FnScope ["people", "index", "name"] ["people"] (defScope s_checked_people) := ⟨rfl, rfl, rfl, by decide +kernel, rfl, by decide +kernel, by decide +kernel⟩
theorem sc_is_pair_of : FnScope ["people", "thing", "part"] ["people", "thing"] (defScope s_is_pair_of) := ⟨rfl, rfl, rfl, by decide +kernel, rfl, by decide +kernel, by decide +kernel⟩
theorem sc_checked_ties : FnScope ["people", "ties", "lots", "name", "index", "tie", "one", "other"] ["people", "ties"] (defScope s_checked_ties) := ⟨rfl, rfl, rfl, by decide +kernel, rfl, by decide +kernel, by decide +kernel⟩
theorem sc_checked_news : FnScope ["people", "news", "wrong", "many"] ["people", "news"] (defScope s_checked_news) := ⟨rfl, rfl, rfl, by decide +kernel, rfl, by decide +kernel, by decide +kernel⟩
theorem sc_check_village : FnScope ["thing"] ["thing"] (defScope s_check_village) := ⟨rfl, rfl, rfl, by decide +kernel, rfl, by decide +kernel, by decide +kernel⟩
theorem sc_are_numbers : FnScope ["village", "thing", "name"] ["village", "thing"] (defScope s_are_numbers) := ⟨rfl, rfl, rfl, by decide +kernel, rfl, by decide +kernel, by decide +kernel⟩
theorem sc_check_ledger : FnScope ["village", "ledger"] ["village", "ledger"] (defScope s_check_ledger) := ⟨rfl, rfl, rfl, by decide +kernel, rfl, by decide +kernel, by decide +kernel⟩
theorem sc_worked_back : FnScope ["village", "numbers", "least", "inward", "person", "inner", "pairs", "told", "front", "given", "gave"] ["village", "numbers", "least"] (defScope s_worked_back) := ⟨rfl, rfl, rfl, by decide +kernel, rfl, by decide +kernel, by decide +kernel⟩
theorem sc_slates_of_ledger : FnScope ["village", "ledger"] ["village", "ledger"] (defScope s_slates_of_ledger) := ⟨rfl, rfl, rfl, by decide +kernel, rfl, by decide +kernel, by decide +kernel⟩
theorem sc_ledger_break : FnScope ["village", "ledger"] ["village", "ledger"] (defScope s_ledger_break) := ⟨rfl, rfl, rfl, by decide +kernel, rfl, by decide +kernel, by decide +kernel⟩
theorem sc_law_cell : FnScope ["_law_script", "_law_k"] ["_law_script", "_law_k"] (defScope s_law_cell) := ⟨rfl, rfl, rfl, by decide +kernel, rfl, by decide +kernel, by decide +kernel⟩
theorem sc_law_source : FnScope ["_law_script", "_law_k", "_law_cell_here", "_law_seed", "_law_one"] ["_law_script", "_law_k"] (defScope s_law_source) := ⟨rfl, rfl, rfl, by decide +kernel, rfl, by decide +kernel, by decide +kernel⟩
theorem sc_law_draw : FnScope ["_law_source_here", "_law_many", "_law_digit", "_law_seed"] ["_law_source_here", "_law_many"] (defScope s_law_draw) := ⟨rfl, rfl, rfl, by decide +kernel, rfl, by decide +kernel, by decide +kernel⟩
theorem sc_law_pick : FnScope ["_law_source_here", "_law_some"] ["_law_source_here", "_law_some"] (defScope s_law_pick) := ⟨rfl, rfl, rfl, by decide +kernel, rfl, by decide +kernel, by decide +kernel⟩
theorem sc_law_mixed : FnScope ["_law_source_here", "_law_some", "_law_left", "_law_found", "_law_k"] ["_law_source_here", "_law_some"] (defScope s_law_mixed) := ⟨rfl, rfl, rfl, by decide +kernel, rfl, by decide +kernel, by decide +kernel⟩
theorem sc_law_same : FnScope ["_law_found", "_law_wanted", "_law_mine", "_law_theirs"] ["_law_found", "_law_wanted"] (defScope s_law_same) := ⟨rfl, rfl, rfl, by decide +kernel, rfl, by decide +kernel, by decide +kernel⟩
theorem sc_law_loose : FnScope ["_law_source_here", "_law_thing", "_law_found", "_law_part"] ["_law_source_here", "_law_thing"] (defScope s_law_loose) := ⟨rfl, rfl, rfl, by decide +kernel, rfl, by decide +kernel, by decide +kernel⟩
theorem sc_law_v_names : FnScope ["_law_source_here", "_law_many", "_law_some"] ["_law_source_here", "_law_many"] (defScope s_law_v_names) := ⟨rfl, rfl, rfl, by decide +kernel, rfl, by decide +kernel, by decide +kernel⟩
theorem sc_law_v_ties : FnScope ["_law_source_here", "_law_names", "_law_shape", "_law_found", "_law_k", "_law_at", "_law_pair"] ["_law_source_here", "_law_names"] (defScope s_law_v_ties) := ⟨rfl, rfl, rfl, by decide +kernel, rfl, by decide +kernel, by decide +kernel⟩
theorem sc_law_v_drawn : FnScope ["_law_source_here", "_law_least", "_law_most", "_law_names", "_law_ties", "_law_size", "_law_name"] ["_law_source_here", "_law_least", "_law_most"] (defScope s_law_v_drawn) := ⟨rfl, rfl, rfl, by decide +kernel, rfl, by decide +kernel, by decide +kernel⟩
theorem sc_law_v_great : FnScope ["_law_source_here", "_law_most", "_law_names", "_law_k", "_law_ties", "_law_size", "_law_name"] ["_law_source_here", "_law_most"] (defScope s_law_v_great) := ⟨rfl, rfl, rfl, by decide +kernel, rfl, by decide +kernel, by decide +kernel⟩
theorem sc_law_v_made : FnScope ["_law_source_here", "_law_form", "_law_ties", "_law_pair"] ["_law_source_here", "_law_form"] (defScope s_law_v_made) := ⟨rfl, rfl, rfl, by decide +kernel, rfl, by decide +kernel, by decide +kernel⟩
theorem sc_law_v_friends : FnScope ["_law_form", "_law_person", "_law_name"] ["_law_form", "_law_person"] (defScope s_law_v_friends) := ⟨rfl, rfl, rfl, by decide +kernel, rfl, by decide +kernel, by decide +kernel⟩
theorem sc_law_v_slates : FnScope ["_law_source_here", "_law_form", "_law_name"] ["_law_source_here", "_law_form"] (defScope s_law_v_slates) := ⟨rfl, rfl, rfl, by decide +kernel, rfl, by decide +kernel, by decide +kernel⟩
theorem sc_law_v_gift : FnScope ["_law_own", "_law_slates", "_law_one", "_law_other", "_law_known", "_law_ahead", "_law_friend"] ["_law_own", "_law_slates", "_law_one", "_law_other", "_law_known"] (defScope s_law_v_gift) := ⟨rfl, rfl, rfl, by decide +kernel, rfl, by decide +kernel, by decide +kernel⟩
theorem sc_law_v_ledger : FnScope ["_law_form", "_law_slates", "_law_own", "_law_known", "_law_found", "_law_name", "_law_friend"] ["_law_form", "_law_slates"] (defScope s_law_v_ledger) := ⟨rfl, rfl, rfl, by decide +kernel, rfl, by decide +kernel, by decide +kernel⟩
theorem sc_law_v_orders : FnScope ["_law_things", "_law_rows", "_law_thing", "_law_longer", "_law_row", "_law_at"] ["_law_things"] (defScope s_law_v_orders) := ⟨rfl, rfl, rfl, by decide +kernel, rfl, by decide +kernel, by decide +kernel⟩
theorem sc_law_v_all : FnScope ["_law_form", "_law_found", "_law_name", "_law_longer", "_law_row", "_law_slates"] ["_law_form"] (defScope s_law_v_all) := ⟨rfl, rfl, rfl, by decide +kernel, rfl, by decide +kernel, by decide +kernel⟩
theorem sc_law_v_handed : FnScope ["_law_source_here", "_law_given", "_law_found", "_law_name", "_law_is_row"] ["_law_source_here", "_law_given"] (defScope s_law_v_handed) := ⟨rfl, rfl, rfl, by decide +kernel, rfl, by decide +kernel, by decide +kernel⟩
theorem sc_law_v_near : FnScope ["_law_source_here", "_law_form", "_law_given", "_law_found", "_law_name", "_law_way", "_law_other"] ["_law_source_here", "_law_form", "_law_given"] (defScope s_law_v_near) := ⟨rfl, rfl, rfl, by decide +kernel, rfl, by decide +kernel, by decide +kernel⟩
theorem sc_law_small_right : FnScope ["_law_source_here", "_law_form", "_law_village", "_law_known", "_law_some", "_law_slates", "_law_k", "_law_given", "_law_due", "_law_handed", "_law_kept", "_law_told"] ["_law_source_here"] (defScope s_law_small_right) := ⟨rfl, rfl, rfl, by decide +kernel, rfl, by decide +kernel, by decide +kernel⟩
theorem sc_law_back_right : FnScope ["_law_source_here", "_law_form", "_law_slates", "_law_village", "_law_given"] ["_law_source_here", "_law_form"] (defScope s_law_back_right) := ⟨rfl, rfl, rfl, by decide +kernel, rfl, by decide +kernel, by decide +kernel⟩
theorem sc_law : FnScope ["_law_script", "_law_turn", "_law_source_here"] ["_law_script"] (defScope s_law) := ⟨rfl, rfl, rfl, by decide +kernel, rfl, by decide +kernel, by decide +kernel⟩
theorem sc_Inward_init : FnScope ["self", "village"] ["self", "village"] (defScope s_Inward_init) := ⟨rfl, rfl, rfl, by decide +kernel, rfl, by decide +kernel, by decide +kernel⟩
theorem sc_Inward_behind : FnScope ["self", "person", "inner", "some", "name"] ["self", "person", "inner"] (defScope s_Inward_behind) := ⟨rfl, rfl, rfl, by decide +kernel, rfl, by decide +kernel, by decide +kernel⟩
theorem sc_Inward_pairs : FnScope ["self", "person", "inner", "name"] ["self", "person", "inner"] (defScope s_Inward_pairs) := ⟨rfl, rfl, rfl, by decide +kernel, rfl, by decide +kernel, by decide +kernel⟩
theorem sc_Inward_go_through : FnScope ["self", "person", "inner", "front", "talk", "total", "found", "told", "is_met", "name"] ["self", "person", "inner", "front", "talk"] (defScope s_Inward_go_through) := ⟨rfl, rfl, rfl, by decide +kernel, rfl, by decide +kernel, by decide +kernel⟩
theorem sc_Inward_in_order : FnScope ["self", "name"] ["self"] (defScope s_Inward_in_order) := ⟨rfl, rfl, rfl, by decide +kernel, rfl, by decide +kernel, by decide +kernel⟩
theorem sc_Village_init : FnScope ["self", "people", "ties", "news", "name", "one", "other", "rank", "friends", "friend"] ["self", "people", "ties", "news"] (defScope s_Village_init) := ⟨rfl, rfl, rfl, by decide +kernel, rfl, by decide +kernel, by decide +kernel⟩
end K12

set_option maxHeartbeats 4000000
namespace K12
open PySem PySem.Spec PyProof.Rows L2 LamX NdefX
/-! ### what stands behind the top -/
structure Ev where
  P : Program
  w : World
  K : PySem.W.Frag
  mg : Str → Option Value
  base : Heap
  A : Str → Addr
  D : Str → FuncData
  CV : Addr
  CI : Addr
  c1 : Addr
  P1 : Addr
  c2 : Addr
  P2 : Addr
abbrev qRim : Str := "rim_order" ++ ".<locals>." ++ "<lambda>"
abbrev qBeh : Str := "Inward.behind" ++ ".<locals>." ++ "<lambda>"
abbrev Ev.T (e : Ev) : List (Addr × Str) := [(e.P1, qRim), (e.P2, qBeh)]
/-- the def st stands as e.A x: f its own name, q its qualified name -/
structure DefQ (e : Ev) (x f q : Str) (st : Stmt) (ps : List Str) : Prop where
  F : FunD e.K f q (defArgs st) (defBody st) (defScope st) [] [] (e.A x) (e.D x)
  b : Binds e.K (e.D x) ps []
abbrev DefQ.kp {e : Ev} {x f q : Str} {st : Stmt} {ps : List Str} (d : DefQ e x f q st ps) : PySem.W.keepIn e.K (.ref (e.A x)) = true := d.F.kp
structure DefAt (e : Ev) (x : Str) (st : Stmt) (ps : List Str) : Prop extends DefQ e x x x st ps where
  mg : e.mg x = some (.ref (e.A x))
abbrev Ok (e : Ev) (k : Nat) (x : Str) (ps : List Str) (sp : Sp) : Prop := FnOk e.P e.w e.K e.mg e.base CX0 k (e.A x) (e.D x) ps sp
theorem DefQ.ok {e : Ev} {x f q : Str} {st : Stmt} {ps N : List Str} {k : Nat} {sp : Sp} (d : DefQ e x f q st ps) (S : FnScope N ps (defScope st)) (len : ∀ vs H Q E, sp vs H Q E → vs.length = ps.length)
    (hbody : ∀ (cdv : Value) (A : Around) (outer : List Env) (s : Shared) (H : Hp) (vs : List V) (Q : VK) (E : XK), cdv = (e.D x).code → Room k (A.deeper (envOfC q (defScope st) s.heap.objs.size (e.A x) cdv)) → sp vs H Q E →
      ∃ t, PSs (cxOf CX0 e.P e.w e.K e.mg e.base N q (defScope st) (e.A x) cdv A outer s H E).nox (defBody st) t ∧ t { nx := fun _ H' => Q .non H', rt := Q } (start N vs) H) : Ok e (k + 1) x ps sp := by
  obtain ⟨oc, od, dV, kV, doc, pm, an, cdv, ct, osl, hfd, lk, hcd, _, _⟩ := d.F.ex
  have hb := hbody
  unfold Ok
  rw [hfd] at lk hb ⊢
  refine fn_of lk hcd S len fun A outer s H vs Q E hr hsp => ?_
  obtain ⟨t, h, q⟩ := hb cdv A outer s H vs Q E rfl hr hsp
  exact ⟨t, h.nox, q⟩
/-! ### what a call leaves -/
def NoTbl (o : HO) : Prop := ∀ ps, o ≠ .tbl ps
theorem noTbl_lst {xs} : NoTbl (.lst xs) := fun _ h => nomatch h
theorem noTbl_tup {xs} : NoTbl (.tup xs) := fun _ h => nomatch h
theorem noTbl_dK {xs} : NoTbl (.dK xs) := fun _ h => nomatch h
theorem noTbl_dT {xs} : NoTbl (.dT xs) := fun _ h => nomatch h
theorem noTbl_ins {C d fs} : NoTbl (.ins C d fs) := fun _ h => nomatch h
/-- G: the part of H that is looked at; it knows no tables -/
structure Wd (T : List (Addr × Str)) (G H : Hp) : Prop where
  sub : ∀ b o, G b = some o → H b = some o
  ntb : ∀ b o, G b = some o → NoTbl o
  tabs : Tabs T H
/-- from G, H to G', H': what S tells may have changed -/
structure Step (T : List (Addr × Str)) (S : Addr → Prop) (G H G' H' : Hp) : Prop where
  wd : Wd T G' H'
  up : ∀ b o, G b = some o → G' b = some o
  new : ∀ b, H b ≠ none → G b = none → G' b = none
  fr : ∀ b o, H b = some o → ¬ S b → NoTbl o → H' b = some o
  dom : ∀ b, H b ≠ none → H' b ≠ none
abbrev NoS : Addr → Prop := fun _ => False
section
variable {T : List (Addr × Str)} {S S' : Addr → Prop} {G H G1 H1 G2 H2 : Hp} {p l : Addr} {o o' : HO}
theorem some_ne {H : Hp} {b : Addr} {o : HO} (h : H b = some o) : H b ≠ none := by rw [h]; simp
theorem Wd.none (w : Wd T G H) {b : Addr} (h : H b = none) : G b = none := by
  cases e : G b with
  | none => rfl
  | some o => rw [w.sub b o e] at h; cases h
theorem Step.refl (w : Wd T G H) : Step T S G H G H := ⟨w, fun _ _ h => h, fun _ _ h => h, fun _ _ h _ _ => h, fun _ h => h⟩
theorem Step.trans (a : Step T S G H G1 H1) (b : Step T S G1 H1 G2 H2) : Step T S G H G2 H2 :=
  ⟨b.wd, fun c o h => b.up c o (a.up c o h), fun c h1 h2 => b.new c (a.dom c h1) (a.new c h1 h2), fun c o h1 h2 h3 => b.fr c o (a.fr c o h1 h2 h3) h2 h3, fun c h => b.dom c (a.dom c h)⟩
theorem Step.mono (a : Step T S G H G1 H1) (h : ∀ b, S b → S' b) : Step T S' G H G1 H1 := ⟨a.wd, a.up, a.new, fun c o h1 h2 h3 => a.fr c o h1 (fun z => h2 (h c z)) h3, a.dom⟩
theorem Step.no (a : Step T NoS G H G1 H1) : Step T S G H G1 H1 := a.mono fun _ h => h.elim
theorem Step.same (w : Wd T G H) (e : Same H H1) : Step T S G H G H1 :=
  ⟨⟨fun b o h => e b o (w.sub b o h), w.ntb, w.tabs.ext e⟩, fun _ _ h => h, fun _ _ h => h, fun b o h _ _ => e b o h, fun b h => by
    cases q : H b with
    | none => exact absurd q h
    | some o => exact some_ne (e b o q)⟩
theorem same_new (h : H p = none) : Same H (upd H p o) := fun b u q => (upd_ne (ne_of_none q h)).trans q
/-- a new object that is not shown -/
theorem Step.hid (w : Wd T G H) (h : H p = none) : Step T S G H G (upd H p o) := Step.same w (same_new h)
/-- a hidden object is shown -/
theorem Step.show (a : Step T S G H G1 H1) (h : H l = none) (e : H1 l = some o) (n : NoTbl o) (h1 : ∀ u, G1 l = some u → u = o) : Step T S G H (upd G1 l o) H1 := by
  have u1 : ∀ b u, G1 b = some u → upd G1 l o b = some u := fun b u q => by
    by_cases z : b = l
    · rw [z] at q ⊢
      rw [upd_same, h1 u q]
    · rw [upd_ne z]; exact q
  refine ⟨⟨fun b u q => ?_, fun b u q => ?_, a.wd.tabs⟩, fun b u q => u1 b u (a.up b u q), fun b q1 q2 => ?_, a.fr, a.dom⟩
  · by_cases z : b = l
    · rw [z, upd_same] at q
      cases q
      rw [z]
      exact e
    · rw [upd_ne z] at q
      exact a.wd.sub b u q
  · by_cases z : b = l
    · rw [z, upd_same] at q
      cases q
      exact n
    · rw [upd_ne z] at q
      exact a.wd.ntb b u q
  · rw [upd_ne (fun z => q1 (by rw [z]; exact h))]
    exact a.new b q1 q2
/-- a new object, shown -/
theorem Step.new1 (a : Step T S G H G1 H1) (h : H1 p = none) (n : NoTbl o) : Step T S G H (upd G1 p o) (upd H1 p o) :=
  a.trans ((Step.hid (o := o) a.wd h).show h upd_same n fun u q => by rw [a.wd.none h] at q; cases q)
/-- a hidden object of our own is changed (it is no table, no code) -/
theorem Step.wr (a : Step T S G H G1 H1) (h : H l = none) (h1 : G1 l = none) (e : H1 l = some o) (n : NoTbl o) (ne : ∀ φ, o ≠ .ext φ) : Step T S G H G1 (upd H1 l o') := by
  refine ⟨⟨fun b u q => ?_, a.wd.ntb, fun p hp => ?_⟩, a.up, a.new, fun b u q1 q2 q3 => ?_, fun b q => ?_⟩
  · have nb : b ≠ l := fun z => by rw [z, h1] at q; cases q
    exact (upd_ne nb).trans (a.wd.sub b u q)
  · obtain ⟨ps, b1, b2, b3⟩ := a.wd.tabs p hp
    have n1 : p.1 ≠ l := fun z => by rw [z, e] at b1; cases b1; exact n _ rfl
    refine ⟨ps, (upd_ne n1).trans b1, b2, fun pos cv q => ?_⟩
    obtain ⟨c, d1, d2⟩ := b3 pos cv q
    exact ⟨c, d1, (upd_ne (fun z => by rw [z, e] at d2; cases d2; exact ne _ rfl)).trans d2⟩
  · exact (upd_ne (ne_of_none q1 h)).trans (a.fr b u q1 q2 q3)
  · by_cases z : b = l
    · rw [z, upd_same]; simp
    · rw [upd_ne z]; exact a.dom b q
theorem Step.get (a : Step T S G H G1 H1) {b : Addr} (h : G b = some o) : H1 b = some o := a.wd.sub b o (a.up b o h)
theorem Step.free (a : Step T S G H G1 H1) {b : Addr} (h : H1 b = none) : H b = none := by
  cases e : H b with
  | none => rfl
  | some u => exact absurd h (a.dom b (some_ne e))
/-- what the callee does not see stays as it was, but for S -/
theorem Step.own (a : Step T S G H G1 H1) {b : Addr} (h : H b = some o) (hs : ¬ S b) (n : NoTbl o) : H1 b = some o := a.fr b o h hs n
theorem Step.hidden (a : Step T S G H G1 H1) {b : Addr} (h : H b = some o) (hg : G b = none) : G1 b = none := a.new b (some_ne h) hg
end
/-! ### rows of names, of numbers; pairs; dicts by names -/
abbrev sv (l : List Str) : List V := l.map V.str
abbrev iv (l : List Int) : List V := l.map V.int
theorem sv_get {l : List Str} {i : Nat} {v : V} (h : (sv l)[i]? = some v) : ∃ x, l[i]? = some x ∧ v = .str x := by
  rw [List.getElem?_map] at h
  cases e : l[i]? with
  | none => rw [e] at h; cases h
  | some x => rw [e] at h; exact ⟨x, rfl, (Option.some.inj h).symm⟩
theorem iv_get {l : List Int} {i : Nat} {v : V} (h : (iv l)[i]? = some v) : ∃ x, l[i]? = some x ∧ v = .int x := by
  rw [List.getElem?_map] at h
  cases e : l[i]? with
  | none => rw [e] at h; cases h
  | some x => rw [e] at h; exact ⟨x, rfl, (Option.some.inj h).symm⟩
theorem Paired.getL {α β : Type} {R : α → β → Prop} : ∀ {l : List α} {r : List β} {i : Nat} {x : α}, Paired R l r → l[i]? = some x → ∃ y, r[i]? = some y ∧ R x y
  | _, _, _, _, .nil, e => by simp at e
  | _, _, 0, _, .cons h _, e => by simp at e; subst e; exact ⟨_, rfl, h⟩
  | _, _, j + 1, _, .cons _ t, e => by
    obtain ⟨q, h1, h2⟩ := Paired.getL (i := j) t (by simpa using e)
    exact ⟨q, by simpa using h1, h2⟩
theorem Paired.getR {α β : Type} {R : α → β → Prop} : ∀ {l : List α} {r : List β} {i : Nat} {y : β}, Paired R l r → r[i]? = some y → ∃ x, l[i]? = some x ∧ R x y
  | _, _, _, _, .nil, e => by simp at e
  | _, _, 0, _, .cons h _, e => by simp at e; subst e; exact ⟨_, rfl, h⟩
  | _, _, j + 1, _, .cons _ t, e => by
    obtain ⟨q, h1, h2⟩ := Paired.getR (i := j) t (by simpa using e)
    exact ⟨q, by simpa using h1, h2⟩
theorem Paired.snoc {α β : Type} {R : α → β → Prop} {x : α} {y : β} (q : R x y) : ∀ {l : List α} {r : List β}, Paired R l r → Paired R (l ++ [x]) (r ++ [y])
  | _, _, .nil => .cons q .nil
  | _, _, .cons h t => .cons h (Paired.snoc q t)
theorem Paired.app {α β : Type} {R : α → β → Prop} {l' : List α} {r' : List β} (q : Paired R l' r') : ∀ {l : List α} {r : List β}, Paired R l r → Paired R (l ++ l') (r ++ r')
  | _, _, .nil => q
  | _, _, .cons h t => .cons h (Paired.app q t)
theorem Paired.len {α β : Type} {R : α → β → Prop} : ∀ {l : List α} {r : List β}, Paired R l r → l.length = r.length
  | _, _, .nil => rfl
  | _, _, .cons _ t => congrArg Nat.succ (Paired.len t)
/-- a dict whose keys are these names, in order -/
def Dic (kvs : List (Key × V)) (names : List Str) (Pv : Str → V → Prop) : Prop := Paired (fun (kv : Key × V) x => kv.1 = Sum.inr x ∧ Pv x kv.2) kvs names
theorem Dic.keys {kvs : List (Key × V)} {names : List Str} {Pv : Str → V → Prop} (d : Dic kvs names Pv) : kvs.map (·.1) = names.map Sum.inr := by
  unfold Dic at d
  induction d with
  | nil => rfl
  | cons h t ih => simp only [List.map_cons, ih, h.1]
theorem Dic.len {kvs : List (Key × V)} {names : List Str} {Pv : Str → V → Prop} (d : Dic kvs names Pv) : kvs.length = names.length := Paired.len d
theorem Dic.mono {kvs : List (Key × V)} {names : List Str} {Pv Pw : Str → V → Prop} (d : Dic kvs names Pv) (h : ∀ x v, x ∈ names → Pv x v → Pw x v) : Dic kvs names Pw := by
  unfold Dic at d ⊢
  induction d with
  | nil => exact .nil
  | cons q t ih => exact .cons ⟨q.1, h _ _ (by simp) q.2⟩ (ih fun x v hx => h x v (by simp [hx]))
theorem valV_cons {k : Key} {v : V} {r : List (Key × V)} {x : Key} : valV ((k, v) :: r) x = if k = x then some v else valV r x := by
  first
    | rfl
    | (unfold valV; simp only [List.find?, List.lookup]; split <;> simp_all)
theorem Dic.get {kvs : List (Key × V)} {names : List Str} {Pv : Str → V → Prop} (d : Dic kvs names Pv) {x : Str} (h : x ∈ names) : ∃ v, valV kvs (Sum.inr x) = some v ∧ Pv x v := by
  unfold Dic at d
  induction d with
  | nil => cases h
  | @cons kv y l r q t ih =>
    obtain ⟨k, v⟩ := kv
    rw [valV_cons]
    obtain ⟨q1, q2⟩ := q
    subst q1
    by_cases e : y = x
    · subst e
      exact ⟨v, if_pos rfl, q2⟩
    · rw [if_neg (fun z => e (Sum.inr.inj z))]
      exact ih ((List.mem_cons.mp h).resolve_left fun z => e z.symm)
theorem Dic.none {kvs : List (Key × V)} {names : List Str} {Pv : Str → V → Prop} (d : Dic kvs names Pv) {x : Str} (h : x ∉ names) : valV kvs (Sum.inr x) = none := by
  unfold Dic at d
  induction d with
  | nil => rfl
  | @cons kv y l r q t ih =>
    obtain ⟨k, v⟩ := kv
    rw [valV_cons]
    obtain ⟨q1, q2⟩ := q
    subst q1
    rw [if_neg (fun z => h (by rw [Sum.inr.inj z]; simp))]
    exact ih fun z => h (by simp [z])
theorem Dic.put_new {kvs : List (Key × V)} {names : List Str} {Pv : Str → V → Prop} (d : Dic kvs names Pv) {x : Str} {v : V} (h : x ∉ names) (q : Pv x v) : Dic (putK kvs (Sum.inr x) v) (names ++ [x]) Pv := by
  rw [putK_new _ (d.none h)]
  exact Paired.snoc ⟨rfl, q⟩ d
theorem Dic.put_old {kvs : List (Key × V)} {names : List Str} {Pv Pw : Str → V → Prop} (d : Dic kvs names Pv) {x : Str} {v : V} (h : x ∈ names) (q : Pw x v) (o : ∀ y u, y ∈ names → y ≠ x → Pv y u → Pw y u) : Dic (putK kvs (Sum.inr x) v) names Pw := by
  obtain ⟨u, e, _⟩ := d.get h
  have e2 : (kvs.any fun kv => decide (kv.1 = (Sum.inr x : Key))) = true := by rw [valV_any, e]; rfl
  unfold putK
  rw [if_pos e2]
  clear e e2 h
  unfold Dic at d ⊢
  induction d with
  | nil => exact .nil
  | @cons kv y l r q0 t ih =>
    obtain ⟨k, u⟩ := kv
    obtain ⟨q1, q2⟩ := q0
    have q1 : k = Sum.inr y := q1
    subst q1
    rw [List.map_cons]
    refine .cons ?_ (ih fun z w hz => o z w (by simp [hz]))
    by_cases e : y = x
    · subst e
      rw [if_pos rfl]
      exact ⟨rfl, q⟩
    · rw [if_neg (fun z => e (Sum.inr.inj z))]
      exact ⟨rfl, o y u (by simp) e q2⟩
/-- pairs of names -/
def PairAt (G : Hp) (v : V) (t : Str × Str) : Prop := ∃ p, v = .ref p ∧ G p = some (.tup [.str t.1, .str t.2])
def Prs (G : Hp) (vs : List V) (ts : List (Str × Str)) : Prop := Paired (PairAt G) vs ts
theorem Prs.up {G G' : Hp} {vs : List V} {ts : List (Str × Str)} (h : Prs G vs ts) (e : ∀ b o, G b = some o → G' b = some o) : Prs G' vs ts := Paired.mapP h fun _ _ ⟨p, h1, h2⟩ => ⟨p, h1, e _ _ h2⟩
/-- a list of names at v -/
def ListAt (G : Hp) (l : List Str) (v : V) : Prop := ∃ p, v = .ref p ∧ G p = some (.lst (sv l))
theorem ListAt.up {G G' : Hp} {l : List Str} {v : V} (h : ListAt G l v) (e : ∀ b o, G b = some o → G' b = some o) : ListAt G' l v := by
  obtain ⟨p, h1, h2⟩ := h
  exact ⟨p, h1, e _ _ h2⟩
/-- a dict of lists of names: s -/
def SlAt (G : Hp) (d : Addr) (names : List Str) (s : Str → List Str) : Prop := ∃ kvs, G d = some (.dK kvs) ∧ Dic kvs names fun x v => ListAt G (s x) v
theorem SlAt.up {G G' : Hp} {d : Addr} {names : List Str} {s : Str → List Str} (h : SlAt G d names s) (e : ∀ b o, G b = some o → G' b = some o) : SlAt G' d names s := by
  obtain ⟨kvs, h1, h2⟩ := h
  exact ⟨kvs, e _ _ h1, h2.mono fun _ _ _ h => h.up e⟩
/-- a dict of numbers -/
def NumAt (G : Hp) (d : Addr) (names : List Str) (f : Str → Int) : Prop := ∃ kvs, G d = some (.dK kvs) ∧ Dic kvs names fun x v => v = .int (f x)
theorem NumAt.up {G G' : Hp} {d : Addr} {names : List Str} {f : Str → Int} (h : NumAt G d names f) (e : ∀ b o, G b = some o → G' b = some o) : NumAt G' d names f := by
  obtain ⟨kvs, h1, h2⟩ := h
  exact ⟨kvs, e _ _ h1, h2⟩
/-- (names, ties, news) -/
structure FormAt (G : Hp) (f : Addr) (names : List Str) (ties : List (Str × Str)) (news : List Int) : Prop where
  at_ : ∃ a b c tvs, G f = some (.tup [.ref a, .ref b, .ref c]) ∧ G a = some (.lst (sv names)) ∧ G b = some (.lst tvs) ∧ Prs G tvs ties ∧ G c = some (.lst (iv news))
theorem FormAt.up {G G' : Hp} {f : Addr} {names : List Str} {ties : List (Str × Str)} {news : List Int} (h : FormAt G f names ties news) (e : ∀ b o, G b = some o → G' b = some o) : FormAt G' f names ties news := by
  obtain ⟨a, b, c, tvs, h1, h2, h3, h4, h5⟩ := h.at_
  exact ⟨a, b, c, tvs, e _ _ h1, e _ _ h2, e _ _ h3, h4.up e, e _ _ h5⟩
/-- a Village's attributes -/
structure VAt (C : Addr) (G : Hp) (x : Addr) (names : List Str) (ties : List (Str × Str)) (news : List Int) : Prop where
  at_ : ∃ dx n t w f r tvs fvs rvs, G x = some (.ins C dx [("names", .ref n), ("own_ties", .ref t), ("own_news", .ref w), ("own_friends", .ref f), ("ranks", .ref r)]) ∧
    G n = some (.tup (sv names)) ∧ G t = some (.tup tvs) ∧ Prs G tvs ties ∧ G w = some (.tup (iv news)) ∧ G f = some (.dK fvs) ∧ Dic fvs names (fun y v => ListAt G (frn names ties y) v) ∧
    G r = some (.dK rvs) ∧ Dic rvs names (fun y v => v = .int (names.idxOf y : Nat))
theorem VAt.up {C : Addr} {G G' : Hp} {x : Addr} {names : List Str} {ties : List (Str × Str)} {news : List Int} (h : VAt C G x names ties news) (e : ∀ b o, G b = some o → G' b = some o) : VAt C G' x names ties news := by
  obtain ⟨dx, n, t, w, f, r, tvs, fvs, rvs, h1, h2, h3, h4, h5, h6, h7, h8, h9⟩ := h.at_
  exact ⟨dx, n, t, w, f, r, tvs, fvs, rvs, e _ _ h1, e _ _ h2, e _ _ h3, h4.up e, e _ _ h5, e _ _ h6, h7.mono fun _ _ _ h => h.up e, e _ _ h8, h9⟩
/-- the number of each, by the news in the names' order -/
def ownOf (names : List Str) (news : List Int) (x : Str) : Int := news.getD (names.idxOf x) 0
end K12

set_option maxHeartbeats 4000000
namespace K12
open PySem PySem.Spec PyProof.Rows L2 LamX NdefX
structure Tx (e : Ev) : Prop where
  n_isinstance : e.mg "isinstance" = none
  n_list : e.mg "list" = none
  n_tuple : e.mg "tuple" = none
  n_int : e.mg "int" = none
  n_bool : e.mg "bool" = none
  n_str : e.mg "str" = none
  n_len : e.mg "len" = none
  n_all : e.mg "all" = none
  n_enumerate : e.mg "enumerate" = none
  n_sorted : e.mg "sorted" = none
  n_dict : e.mg "dict" = none
  n_zip : e.mg "zip" = none
  n_range : e.mg "range" = none
  n_sum : e.mg "sum" = none
  n_abs : e.mg "abs" = none
  n_max : e.mg "max" = none
  n_repr : e.mg "repr" = none
  letters : ∃ t, e.mg "LETTERS" = some (.str "abcdefghijklmnopqrstuvwxyz" t)
  figures : ∃ t, e.mg "FIGURES" = some (.str "0123456789" t)
  f_is_list : DefAt e "is_list" s_is_list ["thing"]
  f_is_whole : DefAt e "is_whole" s_is_whole ["thing"]
  f_is_number : DefAt e "is_number" s_is_number ["thing"]
  f_is_positive : DefAt e "is_positive" s_is_positive ["thing"]
  f_is_name : DefAt e "is_name" s_is_name ["thing"]
  f_is_one_of : DefAt e "is_one_of" s_is_one_of ["known", "thing"]
  f_first_odd : DefAt e "first_odd" s_first_odd ["things", "is_right"]
  f_rim_order : DefAt e "rim_order" s_rim_order ["village"]
  f_checked_people : DefAt e "checked_people" s_checked_people ["people"]
  f_is_pair_of : DefAt e "is_pair_of" s_is_pair_of ["people", "thing"]
  f_checked_ties : DefAt e "checked_ties" s_checked_ties ["people", "ties"]
  f_checked_news : DefAt e "checked_news" s_checked_news ["people", "news"]
  f_check_village : DefAt e "check_village" s_check_village ["thing"]
  f_are_numbers : DefAt e "are_numbers" s_are_numbers ["village", "thing"]
  f_check_ledger : DefAt e "check_ledger" s_check_ledger ["village", "ledger"]
  f_worked_back : DefAt e "worked_back" s_worked_back ["village", "numbers", "least"]
  f_slates_of_ledger : DefAt e "slates_of_ledger" s_slates_of_ledger ["village", "ledger"]
  f_ledger_break : DefAt e "ledger_break" s_ledger_break ["village", "ledger"]
  f_law_cell : DefAt e "_law_cell" s_law_cell ["_law_script", "_law_k"]
  f_law_source : DefAt e "_law_source" s_law_source ["_law_script", "_law_k"]
  f_law_draw : DefAt e "_law_draw" s_law_draw ["_law_source_here", "_law_many"]
  f_law_pick : DefAt e "_law_pick" s_law_pick ["_law_source_here", "_law_some"]
  f_law_mixed : DefAt e "_law_mixed" s_law_mixed ["_law_source_here", "_law_some"]
  f_law_same : DefAt e "_law_same" s_law_same ["_law_found", "_law_wanted"]
  f_law_loose : DefAt e "_law_loose" s_law_loose ["_law_source_here", "_law_thing"]
  f_law_v_names : DefAt e "_law_v_names" s_law_v_names ["_law_source_here", "_law_many"]
  f_law_v_ties : DefAt e "_law_v_ties" s_law_v_ties ["_law_source_here", "_law_names"]
  f_law_v_drawn : DefAt e "_law_v_drawn" s_law_v_drawn ["_law_source_here", "_law_least", "_law_most"]
  f_law_v_great : DefAt e "_law_v_great" s_law_v_great ["_law_source_here", "_law_most"]
  f_law_v_made : DefAt e "_law_v_made" s_law_v_made ["_law_source_here", "_law_form"]
  f_law_v_friends : DefAt e "_law_v_friends" s_law_v_friends ["_law_form", "_law_person"]
  f_law_v_slates : DefAt e "_law_v_slates" s_law_v_slates ["_law_source_here", "_law_form"]
  f_law_v_gift : DefAt e "_law_v_gift" s_law_v_gift ["_law_own", "_law_slates", "_law_one", "_law_other", "_law_known"]
  f_law_v_ledger : DefAt e "_law_v_ledger" s_law_v_ledger ["_law_form", "_law_slates"]
  f_law_v_orders : DefAt e "_law_v_orders" s_law_v_orders ["_law_things"]
  f_law_v_all : DefAt e "_law_v_all" s_law_v_all ["_law_form"]
  f_law_v_handed : DefAt e "_law_v_handed" s_law_v_handed ["_law_source_here", "_law_given"]
  f_law_v_near : DefAt e "_law_v_near" s_law_v_near ["_law_source_here", "_law_form", "_law_given"]
  f_law_small_right : DefAt e "_law_small_right" s_law_small_right ["_law_source_here"]
  f_law_back_right : DefAt e "_law_back_right" s_law_back_right ["_law_source_here", "_law_form"]
  f_law : DefAt e "law" s_law ["_law_script"]
  f_Inward_init : DefQ e "Inward.__init__" "__init__" "Inward.__init__" s_Inward_init ["self", "village"]
  f_Inward_behind : DefQ e "Inward.behind" "behind" "Inward.behind" s_Inward_behind ["self", "person", "inner"]
  f_Inward_pairs : DefQ e "Inward.pairs" "pairs" "Inward.pairs" s_Inward_pairs ["self", "person", "inner"]
  f_Inward_go_through : DefQ e "Inward.go_through" "go_through" "Inward.go_through" s_Inward_go_through ["self", "person", "inner", "front", "talk"]
  f_Inward_in_order : DefQ e "Inward.in_order" "in_order" "Inward.in_order" s_Inward_in_order ["self"]
  f_Village_init : DefQ e "Village.__init__" "__init__" "Village.__init__" s_Village_init ["self", "people", "ties", "news"]
  mgV : e.mg "Village" = some (.ref e.CV)
  mgI : e.mg "Inward" = some (.ref e.CI)
  clV : Cls e.K e.CV
  clI : Cls e.K e.CI
  mkV : Mk e.K e.CV (e.A "Village.__init__")
  mkI : Mk e.K e.CI (e.A "Inward.__init__")
  insV : C8.InsC e.K e.CV
  code1 : (e.D "rim_order").code = .ref e.c1
  code2 : (e.D "Inward.behind").code = .ref e.c2
  tab1 : TabB e.base e.mg e.c1 e.P1
  tab2 : TabB e.base e.mg e.c2 e.P2
  neP : e.P1 ≠ e.P2
  v_names : NoAttr e.K e.CV "names"
  v_own_ties : NoAttr e.K e.CV "own_ties"
  v_own_news : NoAttr e.K e.CV "own_news"
  v_own_friends : NoAttr e.K e.CV "own_friends"
  v_ranks : NoAttr e.K e.CV "ranks"
  i_village : NoAttr e.K e.CI "village"
  i_given : NoAttr e.K e.CI "given"
  i_gave : NoAttr e.K e.CI "gave"
  i_slates : NoAttr e.K e.CI "slates"
  m_behind : Meth e.K e.CI "behind" (e.A "Inward.behind")
  m_pairs : Meth e.K e.CI "pairs" (e.A "Inward.pairs")
  m_go_through : Meth e.K e.CI "go_through" (e.A "Inward.go_through")
  m_in_order : Meth e.K e.CI "in_order" (e.A "Inward.in_order")
theorem bt_isinstance : bootBuiltins "isinstance" = some (.builtin "isinstance") := by decide +kernel
theorem bt_list : bootBuiltins "list" = some (.type "list") := by decide +kernel
theorem bt_tuple : bootBuiltins "tuple" = some (.type "tuple") := by decide +kernel
theorem bt_int : bootBuiltins "int" = some (.type "int") := by decide +kernel
theorem bt_bool : bootBuiltins "bool" = some (.type "bool") := by decide +kernel
theorem bt_str : bootBuiltins "str" = some (.type "str") := by decide +kernel
theorem bt_len : bootBuiltins "len" = some (.builtin "len") := by decide +kernel
theorem bt_all : bootBuiltins "all" = some (.builtin "all") := by decide +kernel
theorem bt_enumerate : bootBuiltins "enumerate" = some (.type "enumerate") := by decide +kernel
theorem bt_sorted : bootBuiltins "sorted" = some (.builtin "sorted") := by decide +kernel
theorem bt_dict : bootBuiltins "dict" = some (.type "dict") := by decide +kernel
theorem bt_zip : bootBuiltins "zip" = some (.type "zip") := by decide +kernel
theorem bt_range : bootBuiltins "range" = some (.type "range") := by decide +kernel
theorem bt_sum : bootBuiltins "sum" = some (.builtin "sum") := by decide +kernel
theorem bt_abs : bootBuiltins "abs" = some (.builtin "abs") := by decide +kernel
theorem bt_max : bootBuiltins "max" = some (.builtin "max") := by decide +kernel
theorem bt_repr : bootBuiltins "repr" = some (.builtin "repr") := by decide +kernel
/-! ### isinstance -/
inductive Kd (H : Hp) : V → String → Prop where
  | non : Kd H .non "NoneType"
  | bl (b : Bool) : Kd H (.bl b) "bool"
  | int (i : Int) : Kd H (.int i) "int"
  | str (x : Str) : Kd H (.str x) "str"
  | lst {a : Addr} {xs : List V} (e : H a = some (.lst xs)) : Kd H (.ref a) "list"
  | tup {a : Addr} {xs : List V} (e : H a = some (.tup xs)) : Kd H (.ref a) "tuple"
  | dK {a : Addr} {xs : List (Key × V)} (e : H a = some (.dK xs)) : Kd H (.ref a) "dict"
theorem Kd.tyx {K : PySem.W.Frag} {H : Hp} {v : V} {n : String} (k : Kd H v n) : TyX K H v (.type n) := by
  cases k with
  | non => exact .base .non
  | bl b => exact .base (.bl b)
  | int i => exact .base (.int i)
  | str x => exact .base (.str x)
  | lst e => exact .base (.lst e)
  | tup e => exact .base (.tup e)
  | dK e => exact .base (.dK e)
theorem Kd.same {H H' : Hp} {v : V} {n : String} (k : Kd H v n) (e : Same H H') : Kd H' v n := by
  cases k with
  | non => exact .non
  | bl b => exact .bl b
  | int i => exact .int i
  | str x => exact .str x
  | lst q => exact .lst (e _ _ q)
  | tup q => exact .tup (e _ _ q)
  | dK q => exact .dK (e _ _ q)
theorem Sq.kd {H : Hp} {a : Addr} {xs : List V} (h : Sq H a xs) : ∃ n, Kd H (.ref a) n ∧ (n = "list" ∨ n = "tuple") := by
  rcases h with h | h
  · exact ⟨_, .lst h, .inl rfl⟩
  · exact ⟨_, .tup h, .inr rfl⟩
def isB (c : String) (n : String) : Bool := (kitB n c).getD false
def KdN (n : String) : Prop := n = "NoneType" ∨ n = "bool" ∨ n = "int" ∨ n = "str" ∨ n = "list" ∨ n = "tuple" ∨ n = "dict"
theorem Kd.n {H : Hp} {v : V} {n : String} (k : Kd H v n) : KdN n := by cases k <;> simp [KdN]
theorem isB_eq {c n : String} (h : KdN n) (hc : c = "int" ∨ c = "bool" ∨ c = "str" ∨ c = "list" ∨ c = "tuple" ∨ c = "dict") : kitB n c = some (isB c n) := by
  rcases hc with rfl | rfl | rfl | rfl | rfl | rfl <;> rcases h with rfl | rfl | rfl | rfl | rfl | rfl | rfl <;> decide +kernel
section
variable {X : Cx}
def weak (te : TE) : TE := fun σ H Q => ∃ Q0 : V → Hp → Prop, te σ H Q0 ∧ ∀ v H1, Q0 v H1 → Q v H1
theorem pe_weak {e : Expr} {te : TE} (h : PE X e te) : PE X e (weak te) :=
  ⟨fun pins s σ H Q I ⟨Q0, h0, h1⟩ => thn (h.run pins s σ H Q0 I h0) fun u s1 ⟨v, H1, I1, r1, q1⟩ => ⟨v, H1, I1, r1, h1 _ _ q1⟩⟩
/-- isinstance by the kind of the value -/
def tKind (te : TE) (f : String → Bool) : TE := fun σ H Q => te σ H fun x H1 => ∃ n, Kd H1 x n ∧ ∀ H2, Same H1 H2 → Q (.bl (f n)) H2
theorem pe_isTy {e : Expr} {te : TE} {p p1 pos : Pos} {c : Str} {cs : String} (hg : Gl X "isinstance") (hm : X.mg "isinstance" = none) (hg1 : Gl X c) (hm1 : X.mg c = none) (hb1 : bootBuiltins c = some (.type cs)) (he : PE X e te) (hc : cs = "int" ∨ cs = "bool" ∨ cs = "str" ∨ cs = "list" ∨ cs = "tuple" ∨ cs = "dict")
    (hn : c ≠ "__name__" := by decide) (hd : (c == ("__debug__" : Str)) = false := by decide)
    (hs : starEach [e, .Name c p1] X.env = (false, eval e X.env) :: starEach [.Name c p1] X.env := by rfl) (hp2 : (backTo pos (starEach [.Name c p1] X.env)).any (·.1) = false := by rfl) (hs2 : starEach [.Name c p1] X.env = (false, eval (.Name c p1) X.env) :: starEach [] X.env := by rfl) :
    PE X (.Call (.Name "isinstance" p) [e, .Name c p1] [] pos) (tKind te (isB cs)) :=
  ⟨fun pins s σ H Q I h => (pe_callB call_isi hg hm bt_isinstance (pa_cons (pe_weak he) (pa_cons (pe_bltn (v := .ty cs) hg1 hm1 hb1 rfl hn hd) pa_nil hs2) hs) (by decide) (by decide) hs hp2).run pins s σ H Q I
    ⟨_, h, fun x H1 ⟨n, k, q⟩ => ⟨x, .ty cs, .type n, .type cs, isB cs n, rfl, .ty cs, k.tyx, kit_ty (isB_eq k.n hc), q _ (Same.refl _)⟩⟩⟩
theorem kit2 {K : PySem.W.Frag} {n a b : String} (h : KdN n) (ha : a = "int" ∨ a = "bool" ∨ a = "str" ∨ a = "list" ∨ a = "tuple" ∨ a = "dict") (hb : b = "int" ∨ b = "bool" ∨ b = "str" ∨ b = "list" ∨ b = "tuple" ∨ b = "dict") : PySem.W.kitAny K (.type n) [.type a, .type b] = some (isB a n || isB b n) := by
  refine kitAny_cons (kit_ty (isB_eq h ha)) (fun e => ?_) fun e => by rw [e]; rfl
  rw [e, Bool.false_or]
  exact kitAny_cons (kit_ty (isB_eq h hb)) (fun e => by rw [e]; exact kitAny_nil) fun e => e
theorem kit3 {K : PySem.W.Frag} {n a b c : String} (h : KdN n) (ha : a = "int" ∨ a = "bool" ∨ a = "str" ∨ a = "list" ∨ a = "tuple" ∨ a = "dict") (hb : b = "int" ∨ b = "bool" ∨ b = "str" ∨ b = "list" ∨ b = "tuple" ∨ b = "dict") (hc : c = "int" ∨ c = "bool" ∨ c = "str" ∨ c = "list" ∨ c = "tuple" ∨ c = "dict") :
    PySem.W.kitAny K (.type n) [.type a, .type b, .type c] = some (isB a n || (isB b n || isB c n)) := by
  refine kitAny_cons (kit_ty (isB_eq h ha)) (fun e => ?_) fun e => by rw [e]; rfl
  rw [e, Bool.false_or]
  exact kit2 h hb hc
theorem pe_isLT {e : Expr} {te : TE} {p p1 p2 p3 pos : Pos} {k : Nat} (hg : Gl X "isinstance") (hm : X.mg "isinstance" = none) (hg1 : Gl X "list") (hm1 : X.mg "list" = none) (hg2 : Gl X "tuple") (hm2 : X.mg "tuple" = none) (he : PE X e te)
    (hs : starEach [e, .Tuple [.Name "list" p1, .Name "tuple" p2] k p3] X.env = (false, eval e X.env) :: starEach [.Tuple [.Name "list" p1, .Name "tuple" p2] k p3] X.env := by rfl) (hp2 : (backTo pos (starEach [.Tuple [.Name "list" p1, .Name "tuple" p2] k p3] X.env)).any (·.1) = false := by rfl)
    (hs2 : starEach [.Tuple [.Name "list" p1, .Name "tuple" p2] k p3] X.env = (false, eval (.Tuple [.Name "list" p1, .Name "tuple" p2] k p3) X.env) :: starEach [] X.env := by rfl)
    (hs3 : starEach [.Name "list" p1, .Name "tuple" p2] X.env = (false, eval (.Name "list" p1) X.env) :: starEach [.Name "tuple" p2] X.env := by rfl) (hs4 : starEach [.Name "tuple" p2] X.env = (false, eval (.Name "tuple" p2) X.env) :: starEach [] X.env := by rfl) :
    PE X (.Call (.Name "isinstance" p) [e, .Tuple [.Name "list" p1, .Name "tuple" p2] k p3] [] pos) (tKind te fun n => isB "list" n || isB "tuple" n) :=
  ⟨fun pins s σ H Q I h => (pe_callB call_isiT hg hm bt_isinstance (pa_cons (pe_weak he) (pa_cons (pe_tup (pa_cons (pe_bltn (v := .ty "list") hg1 hm1 bt_list rfl) (pa_cons (pe_bltn (v := .ty "tuple") hg2 hm2 bt_tuple rfl) pa_nil hs4) hs3)) pa_nil hs2) hs) (by decide) (by decide) hs hp2).run pins s σ H Q I
    ⟨_, h, fun x H1 ⟨n, kd, q⟩ => ⟨by show 2 ≤ sizeLine; decide, fun tp htp => ⟨x, tp, [.ty "list", .ty "tuple"], .type n, [.type "list", .type "tuple"], _, rfl, upd_same, .cons (.ty _) (.cons (.ty _) .nil), (kd.same (same_new htp)).tyx, kit2 kd.n (by decide) (by decide), q _ (same_new htp)⟩⟩⟩⟩
theorem pe_isLTD {e : Expr} {te : TE} {p p1 p2 p4 p3 pos : Pos} {k : Nat} (hg : Gl X "isinstance") (hm : X.mg "isinstance" = none) (hg1 : Gl X "list") (hm1 : X.mg "list" = none) (hg2 : Gl X "tuple") (hm2 : X.mg "tuple" = none) (hg3 : Gl X "dict") (hm3 : X.mg "dict" = none) (he : PE X e te)
    (hs : starEach [e, .Tuple [.Name "list" p1, .Name "tuple" p2, .Name "dict" p4] k p3] X.env = (false, eval e X.env) :: starEach [.Tuple [.Name "list" p1, .Name "tuple" p2, .Name "dict" p4] k p3] X.env := by rfl) (hp2 : (backTo pos (starEach [.Tuple [.Name "list" p1, .Name "tuple" p2, .Name "dict" p4] k p3] X.env)).any (·.1) = false := by rfl)
    (hs2 : starEach [.Tuple [.Name "list" p1, .Name "tuple" p2, .Name "dict" p4] k p3] X.env = (false, eval (.Tuple [.Name "list" p1, .Name "tuple" p2, .Name "dict" p4] k p3) X.env) :: starEach [] X.env := by rfl)
    (hs3 : starEach [.Name "list" p1, .Name "tuple" p2, .Name "dict" p4] X.env = (false, eval (.Name "list" p1) X.env) :: starEach [.Name "tuple" p2, .Name "dict" p4] X.env := by rfl) (hs4 : starEach [.Name "tuple" p2, .Name "dict" p4] X.env = (false, eval (.Name "tuple" p2) X.env) :: starEach [.Name "dict" p4] X.env := by rfl)
    (hs5 : starEach [.Name "dict" p4] X.env = (false, eval (.Name "dict" p4) X.env) :: starEach [] X.env := by rfl) :
    PE X (.Call (.Name "isinstance" p) [e, .Tuple [.Name "list" p1, .Name "tuple" p2, .Name "dict" p4] k p3] [] pos) (tKind te fun n => isB "list" n || (isB "tuple" n || isB "dict" n)) :=
  ⟨fun pins s σ H Q I h => (pe_callB call_isiT hg hm bt_isinstance (pa_cons (pe_weak he) (pa_cons (pe_tup (pa_cons (pe_bltn (v := .ty "list") hg1 hm1 bt_list rfl) (pa_cons (pe_bltn (v := .ty "tuple") hg2 hm2 bt_tuple rfl) (pa_cons (pe_bltn (v := .ty "dict") hg3 hm3 bt_dict rfl) pa_nil hs5) hs4) hs3)) pa_nil hs2) hs) (by decide) (by decide) hs hp2).run pins s σ H Q I
    ⟨_, h, fun x H1 ⟨n, kd, q⟩ => ⟨by show 3 ≤ sizeLine; decide, fun tp htp => ⟨x, tp, [.ty "list", .ty "tuple", .ty "dict"], .type n, [.type "list", .type "tuple", .type "dict"], _, rfl, upd_same, .cons (.ty _) (.cons (.ty _) (.cons (.ty _) .nil)), (kd.same (same_new htp)).tyx, kit3 kd.n (by decide) (by decide) (by decide), q _ (same_new htp)⟩⟩⟩⟩
end
end K12

set_option maxHeartbeats 4000000
namespace K12
open PySem PySem.Spec PyProof.Rows L2 LamX NdefX
def lettersZ : Str := "abcdefghijklmnopqrstuvwxyz"
def figuresZ : Str := "0123456789"
/-- a name as the program wants it -/
def nameB (x : Str) : Bool := decide (1 ≤ x.length) && decide (x.length ≤ 8) && (match x.cps[0]? with | some c => decide (c ∈ lettersZ.cps.toList) | none => false) && x.cps.toList.all fun c => decide (c ∈ lettersZ.cps.toList) || decide (c ∈ figuresZ.cps.toList)
theorem yes_ {σ : L2.St} {H : Hp} {A B : Hp → Prop} (h : A H) : tYes σ H (fun b H3 => if b = true then A H3 else B H3) := by
  show if true = true then A H else B H
  rw [if_pos rfl]
  exact h
section
variable {e : Ev}
def spIsList : Sp := fun vs H Q _ => ∃ a xs, vs = [.ref a] ∧ Sq H a xs ∧ ∀ H', Same H H' → Q (.bl true) H'
theorem ok_is_list (t : Tx e) : Ok e 1 "is_list" ["thing"] spIsList := by
  refine t.f_is_list.ok sc_is_list (fun vs H Q E h => ?_) (fun cdv A outer s H vs Q E _ hr h => ?_)
  · obtain ⟨a, xs, rfl, _⟩ := h; rfl
  · obtain ⟨a, xs, rfl, hq, k⟩ := h
    obtain ⟨n, kd, hn⟩ := hq.kd
    refine ⟨_, pss_one (ps_ret (pe_isLT (by rfl) t.n_isinstance (by rfl) t.n_list (by rfl) t.n_tuple (pv 0))), ?_⟩
    refine ⟨_, rfl, n, kd, fun H2 s2 => ?_⟩
    rcases hn with rfl | rfl <;> exact k H2 s2
def spIsWhole : Sp := fun vs H Q _ => ∃ i, vs = [.int i] ∧ Q (.bl true) H
theorem ok_is_whole (t : Tx e) : Ok e 1 "is_whole" ["thing"] (fun vs H Q _ => ∃ i, vs = [.int i] ∧ ∀ H', Same H H' → Q (.bl true) H') := by
  refine t.f_is_whole.ok sc_is_whole (fun vs H Q E h => ?_) (fun cdv A outer s H vs Q E _ hr h => ?_)
  · obtain ⟨i, rfl, _⟩ := h; rfl
  · obtain ⟨i, rfl, k⟩ := h
    refine ⟨_, pss_one (ps_ret (pe_and (pe_isTy (by rfl) t.n_isinstance (by rfl) t.n_int bt_int (pv 0) (by decide)) (pe_one (pe_not (pe_isTy (by rfl) t.n_isinstance (by rfl) t.n_bool bt_bool (pv 0) (by decide)))))), ?_⟩
    refine ⟨_, rfl, "int", .int i, fun H2 s2 => ⟨true, rfl, iteT ⟨_, rfl, "int", .int i, fun H3 s3 => ⟨false, rfl, ?_⟩⟩⟩⟩
    exact k H3 (s2.trans s3)
theorem ok_is_number (t : Tx e) : Ok e 2 "is_number" ["thing"] (fun vs H Q _ => ∃ i, vs = [.int i] ∧ ∀ H', Same H H' → Q (.bl (decide (0 ≤ i))) H') := by
  refine t.f_is_number.ok sc_is_number (fun vs H Q E h => ?_) (fun cdv A outer s H vs Q E _ hr h => ?_)
  · obtain ⟨i, rfl, _⟩ := h; rfl
  · obtain ⟨i, rfl, k⟩ := h
    refine ⟨_, pss_one (ps_ret (pe_and (pe_call (ok_is_whole t) hr (by rfl) t.f_is_whole.mg t.f_is_whole.kp t.f_is_whole.b .nil pass0 (pa_cons (pv 0) pa_nil)) (pe_one (pe_cmpR op_ge (pv 0) pe_int (nomark _))))), ?_⟩
    refine ⟨_, rfl, i, rfl, fun H2 s2 => ⟨true, rfl, iteT ⟨_, rfl, i, 0, rfl, rfl, ?_⟩⟩⟩
    exact k H2 s2
theorem ok_is_positive (t : Tx e) : Ok e 2 "is_positive" ["thing"] (fun vs H Q _ => ∃ i, vs = [.int i] ∧ ∀ H', Same H H' → Q (.bl (decide (1 ≤ i))) H') := by
  refine t.f_is_positive.ok sc_is_positive (fun vs H Q E h => ?_) (fun cdv A outer s H vs Q E _ hr h => ?_)
  · obtain ⟨i, rfl, _⟩ := h; rfl
  · obtain ⟨i, rfl, k⟩ := h
    refine ⟨_, pss_one (ps_ret (pe_and (pe_call (ok_is_whole t) hr (by rfl) t.f_is_whole.mg t.f_is_whole.kp t.f_is_whole.b .nil pass0 (pa_cons (pv 0) pa_nil)) (pe_one (pe_cmpR op_ge (pv 0) pe_int (nomark _))))), ?_⟩
    refine ⟨_, rfl, i, rfl, fun H2 s2 => ⟨true, rfl, iteT ⟨_, rfl, i, 1, rfl, rfl, ?_⟩⟩⟩
    exact k H2 s2
theorem all_take_succ {l : List Nat} {f : Nat → Bool} {i : Nat} {c : Nat} (h : l[i]? = some c) : (l.take (i + 1)).map f = (l.take i).map f ++ [f c] := by
  rw [List.take_add_one, h]
  simp
theorem ok_is_name (t : Tx e) : Ok e 1 "is_name" ["thing"] (fun vs H Q _ => ∃ x, vs = [.str x] ∧ nameB x = true ∧ ∀ H', Same H H' → Q (.bl true) H') := by
  refine t.f_is_name.ok sc_is_name (fun vs H Q E h => ?_) (fun cdv A outer s H vs Q E _ hr h => ?_)
  · obtain ⟨i, rfl, _⟩ := h; rfl
  · obtain ⟨x, rfl, hx, k⟩ := h
    unfold nameB at hx
    simp only [Bool.and_eq_true, decide_eq_true_eq] at hx
    obtain ⟨⟨⟨h1, h2⟩, h3⟩, h4⟩ := hx
    obtain ⟨c0, e0, h3⟩ : ∃ c, x.cps[0]? = some c ∧ c ∈ lettersZ.cps.toList := by
      cases q : x.cps[0]? with
      | none => rw [q] at h3; cases h3
      | some c => rw [q] at h3; exact ⟨c, rfl, of_decide_eq_true h3⟩
    have hz : x.length ≤ sizeLine := Nat.le_trans h2 (by decide)
    obtain ⟨tl, hl⟩ := t.letters
    obtain ⟨tf, hf⟩ := t.figures
    refine ⟨_, pss_cons (ps_if (PW.pt (pw_or (pt_not (pt_val (pe_isTy (by rfl) t.n_isinstance (by rfl) t.n_str bt_str (pv 0) (by decide)))) (pw_or (pt_not (pt_chain op_le op_le pe_int (pe_callB call_len_str (by rfl) t.n_len bt_len (pa_cons (pv 0) pa_nil)) pe_int))
        (pw_or1 (pt_cmpR op_notInS (pe_item_str (pv 0) pe_int (fun _ _ => rfl)) (pe_glob (v := .str lettersZ) (by rfl) hl ⟨_, rfl⟩) (by rfl)))))) (pss_one (ps_ret pe_bl)) pss_nil)
      (pss_one (ps_ret (pe_callB (cr_all rfl) (by rfl) t.n_all bt_all (pa_cons (pe_lc (own := [("sign", 1)]) (g := gName 1) (tt := tYes) rfl sc_is_name.nd (pi_str (pv 0)) (blkOk_by (N := ["thing", "sign"]) (sc := defScope s_is_name) (by decide +kernel))
        (fun _ _ _ _ _ => pg_name (i := 1) sc_is_name.nd rfl (Or.inl rfl)) (fun _ _ _ _ _ => pts_nil)
        (fun _ _ _ _ _ => pe_or (pe_cmpR op_inS (pv 1) (pe_glob (v := .str lettersZ) (by rfl) hl ⟨_, rfl⟩) (by rfl)) (pe_one (pe_cmpR op_inS (pv 1) (pe_glob (v := .str figuresZ) (by rfl) hf ⟨_, rfl⟩) (by rfl))))) pa_nil)))), ?_⟩
    refine ⟨_, rfl, "str", .str x, fun H2 s2 => ⟨true, rfl, ?_⟩⟩
    refine iteF ?_
    refine ⟨_, rfl, x, rfl, hz, 1, _, rfl, rfl, true, (congrArg V.bl (decide_eq_true (by omega))), iteT ⟨_, 8, rfl, rfl, true, (congrArg V.bl (decide_eq_true (by omega))), ?_⟩⟩
    refine iteF ?_
    refine ⟨_, rfl, x, 0, c0, rfl, rfl, by decide, by decide, by omega, e0, c0, lettersZ, rfl, rfl, false, ?_, ?_⟩
    · rw [decide_eq_true h3]; rfl
    refine iteF ?_
    refine ⟨_, rfl, x, rfl, fun D hD => ?_⟩
    refine lc_it walk_str (fun i H3 => Same H2 H3 ∧ H3 D = some (.lst (((x.cps.toList.take i).map fun c => decide (c ∈ lettersZ.cps.toList) || decide (c ∈ figuresZ.cps.toList)).map V.bl))) ⟨same_new hD, upd_same⟩ (fun _ _ _ _ => trivial) ?_ ?_
    · rintro i v H3 H4 hi ⟨s3, d3⟩ ⟨rfl, c, hc, rfl⟩
      refine ⟨rfl, yes_ ?_⟩
      have hc' : x.cps.toList[i]? = some c := by rw [Array.getElem?_toList]; exact hc
      have fin : ∃ acc, H4 D = some (.lst acc) ∧ acc.length < sizeLine ∧ (Same H2 (upd H4 D (.lst (acc ++ [.bl (decide (c ∈ lettersZ.cps.toList) || decide (c ∈ figuresZ.cps.toList))]))) ∧ (upd H4 D (.lst (acc ++ [.bl (decide (c ∈ lettersZ.cps.toList) || decide (c ∈ figuresZ.cps.toList))]))) D = some (.lst (((x.cps.toList.take (i + 1)).map fun c => decide (c ∈ lettersZ.cps.toList) || decide (c ∈ figuresZ.cps.toList)).map V.bl))) := by
        refine ⟨_, d3, ?_, fun b o q => (upd_ne (ne_of_none q hD)).trans (s3 b o q), ?_⟩
        · rw [List.length_map, List.length_map, List.length_take]
          have : x.cps.toList.length = x.length := by simp [Str.length]
          have := Nat.min_le_left i x.cps.toList.length
          have h8 : 8 < sizeLine := by decide
          have hi' : i < x.cps.size := hi
          have : x.cps.size = x.length := rfl
          omega
        · rw [upd_same, all_take_succ hc', List.map_append]
          rfl
      refine ⟨_, rfl, c, lettersZ, rfl, rfl, _, rfl, ?_⟩
      cases q : decide (c ∈ lettersZ.cps.toList) with
      | true =>
        rw [q, Bool.true_or] at fin
        exact iteT fin
      | false =>
        rw [q, Bool.false_or] at fin
        refine iteF ⟨_, rfl, c, figuresZ, rfl, rfl, fin⟩
    · rintro H3 ⟨s3, d3⟩
      refine ⟨D, _, rfl, SqL.of d3, ?_⟩
      have e1 : (((x.cps.toList.take x.cps.size).map fun c => decide (c ∈ lettersZ.cps.toList) || decide (c ∈ figuresZ.cps.toList)).all id) = true := by
        rw [List.all_map, List.take_of_length_le (by simp)]
        exact h4
      rw [e1]
      exact k H3 (s2.trans s3)
end
end K12

set_option maxHeartbeats 4000000
namespace K12
open PySem PySem.Spec PyProof.Rows L2 LamX NdefX
theorem eqV_str {x y : Str} : eqV (.str x) (.str y) = decide (x = y) := by
  first
    | rfl
    | (unfold eqV; by_cases h : x = y <;> simp [h])
theorem inV_sv {x : Str} : ∀ {l : List Str}, inV (.str x) (sv l) = decide (x ∈ l)
  | [] => by simp [inV]
  | y :: r => by
    have ih : (sv r).any (fun z => eqV z (.str x)) = decide (x ∈ r) := inV_sv
    unfold inV
    simp only [sv, List.map_cons, List.any_cons] at ih ⊢
    rw [ih, eqV_str]
    by_cases h : y = x
    · simp [h]
    · have h' : ¬ x = y := fun z => h z.symm
      simp [h, h']
theorem flat_sv : ∀ {l : List Str}, (sv l).all flatV = true
  | [] => rfl
  | y :: r => by
    have ih := flat_sv (l := r)
    simp only [sv, List.map_cons, List.all_cons] at ih ⊢
    rw [ih]
    rfl
section
variable {e : Ev}
theorem ok_is_one_of (t : Tx e) : Ok e 1 "is_one_of" ["known", "thing"] (fun vs H Q _ => ∃ a x names, vs = [.ref a, .str x] ∧ H a = some (.tup (sv names)) ∧ ∀ H', Same H H' → Q (.bl (decide (x ∈ names))) H') := by
  refine t.f_is_one_of.ok sc_is_one_of (fun vs H Q E h => ?_) (fun cdv A outer s H vs Q E _ hr h => ?_)
  · obtain ⟨a, x, names, rfl, _⟩ := h; rfl
  · obtain ⟨a, x, names, rfl, ha, k⟩ := h
    refine ⟨_, pss_one (ps_ret (pe_and (pe_isTy (by rfl) t.n_isinstance (by rfl) t.n_str bt_str (pv 1) (by decide)) (pe_one (pe_cmpR op_in_seq (pv 1) (pv 0) (by rfl))))), ?_⟩
    refine ⟨_, rfl, "str", .str x, fun H2 s2 => ⟨true, rfl, iteT ⟨_, rfl, _, rfl, a, _, rfl, .inr (SqT.of (s2 _ _ ha)), rfl, flat_sv, ?_⟩⟩⟩
    show Q (.bl (inV (.str x) (sv names))) H2
    rw [inV_sv]
    exact k H2 s2
theorem ok_first_odd (t : Tx e) : Ok e 3 "first_odd" ["things", "is_right"] (fun vs H Q _ => ∃ a ns, vs = [.ref a, .ref (e.A "is_positive")] ∧ Sq H a (iv ns) ∧ (∀ n ∈ ns, (1 : Int) ≤ n) ∧ ∀ H', Same H H' → Q .non H') := by
  refine t.f_first_odd.ok sc_first_odd (fun vs H Q E h => ?_) (fun cdv A outer s H vs Q E _ hr h => ?_)
  · obtain ⟨a, ns, rfl, _⟩ := h; rfl
  · obtain ⟨a, ns, rfl, ha, hp, k⟩ := h
    refine ⟨_, pss_cons (ps_if (pt_not (pt_val (pe_call (ok_is_list t) (hr.mono (by decide)) (by rfl) t.f_is_list.mg t.f_is_list.kp t.f_is_list.b .nil pass0 (pa_cons (pv 0) pa_nil)))) (pss_one (ps_ret pe_int)) pss_nil)
      (pss_cons (ps_setLc (i := 2) (own := [("index", 3), ("thing", 4)]) (g := gTup e.K 2 (gCons (gName 3) (gCons (gName 4) gNil))) rfl sc_first_odd.nd rfl rfl (sw_true rfl rfl rfl (by decide +kernel)) (pi_enumSq (by rfl) t.n_enumerate (pa_cons (pv 0) pa_nil)) (blkOk_by (N := ["things", "is_right", "odd", "index", "thing"]) (sc := defScope s_first_odd) (by decide +kernel))
        (fun _ _ _ _ _ => pg_tup (n := 2) rfl (pgs_cons (pg_name (i := 3) sc_first_odd.nd rfl (Or.inl rfl) (Or.inr rfl)) (pgs_cons (pg_name (i := 4) sc_first_odd.nd rfl (Or.inl rfl) (Or.inr rfl)) pgs_nil))) (fun _ _ _ _ _ => pts_one (pt_not (pt_val (pe_callL (i := 1) (ok_is_positive t) hr rfl (by first | exact Or.inl rfl | exact Or.inr (Or.inl rfl) | exact Or.inr (Or.inr rfl)) t.f_is_positive.kp t.f_is_positive.b .nil pass0 (pa_cons (pv 4) pa_nil)))))
        (fun _ _ _ _ _ => pv 3))
      (pss_one (ps_ret (pe_ifExp (pt_truth (pv 2) (by intro _; rfl)) (pe_ix ix_list (pv 2) pe_int (fun _ _ => rfl)) pe_non)))), ?_⟩
    refine ⟨_, rfl, a, _, rfl, ha, fun H2 s2 => ⟨true, rfl, iteF ?_⟩⟩
    refine ⟨_, rfl, a, _, rfl, ha.up (s2 _), fun J w D hD => ?_⟩
    refine lc_it w (fun i H3 => Same H2 H3 ∧ H3 D = some (.lst [])) ⟨same_new hD, upd_same⟩ (fun i H3 _ ⟨s3, _⟩ => ?_) ?_ ?_
    · rcases ha.up (s2 _) with q | q
      · rw [s3 _ _ q, q]
      · rw [s3 _ _ q, q]
    · rintro i v H3 H4 hi ⟨s3, d3⟩ ⟨T, x, y, rfl, hT, rfl, hx, hy⟩
      cases hx
      obtain ⟨n, hn, rfl⟩ := iv_get hy
      refine ⟨T, _, rfl, SqT.of upd_same, rfl, ?_⟩
      refine ⟨_, _, rfl, _, _, rfl, rfl, rfl, rfl, _, rfl, n, rfl, fun H5 s5 => ⟨_, rfl, ?_⟩⟩
      rw [decide_eq_true (hp n (List.mem_of_getElem? hn))]
      exact iteF ⟨(s3.trans (same_new hT)).trans s5, s5 _ _ ((upd_ne (ne_of_none d3 hT)).trans d3)⟩
    · rintro H3 ⟨s3, d3⟩
      refine ⟨_, rfl, false, .inl ⟨[], SqL.of d3, rfl⟩, ?_⟩
      exact k H3 (s2.trans s3)
end
end K12

set_option maxHeartbeats 4000000
namespace K12
open PySem PySem.Spec PyProof.Rows L2 LamX NdefX
theorem cutV_upto {xs : List V} {k : Nat} : cutV xs none (some (k : Int)) = xs.take k := by
  unfold cutV
  rw [HT.sIx_none, HT.sIx_nat, List.drop_zero, Nat.sub_zero]
  by_cases h : k ≤ xs.length
  · rw [Nat.min_eq_left h]
  · rw [Nat.min_eq_right (by omega), List.take_of_length_le (Nat.le_refl _), List.take_of_length_le (by omega)]
theorem cutV_from {xs : List V} {k : Nat} : cutV xs (some (k : Int)) none = xs.drop k := by
  unfold cutV
  rw [HT.sIx_nat, HT.sIx_none]
  by_cases h : k ≤ xs.length
  · rw [Nat.min_eq_left h, List.take_of_length_le (by rw [List.length_drop]; omega)]
  · rw [Nat.min_eq_right (by omega), List.drop_of_length_le (Nat.le_refl _), List.drop_of_length_le (by omega), List.take_nil]
theorem cutV_all {xs : List V} : cutV xs none none = xs := cutV_whole rfl rfl
theorem sq_keep {H1 H : Hp} {a : Addr} {xs : List V} (h : Sq H1 a xs) (e : ∀ o, H1 a = some o → NoTbl o → H a = some o) : H a = H1 a := by
  rcases h with h | h
  · rw [e _ h noTbl_lst, h]
  · rw [e _ h noTbl_tup, h]
theorem nodup_take {l : List Str} (nd : l.Nodup) {i : Nat} {x : Str} (h : l[i]? = some x) : x ∉ l.take i := fun hm => by
  obtain ⟨j, hj, e⟩ := List.mem_take_iff_getElem.mp hm
  obtain ⟨hi, e2⟩ := List.getElem?_eq_some_iff.mp h
  have := (List.getElem_inj nd).mp (e.trans e2.symm)
  omega
theorem sv_take {l : List Str} {i : Nat} : (sv l).take i = sv (l.take i) := by simp [sv, List.map_take]
section
variable {e : Ev}
def spPeople (T : List (Addr × Str)) : Sp := fun vs H Q _ => ∃ a names G, vs = [.ref a] ∧ Wd T G H ∧ Sq G a (sv names) ∧ names ≠ [] ∧ names.Nodup ∧ (∀ x ∈ names, nameB x = true) ∧
  ∀ q G' H', Step T NoS G H G' H' → G' q = some (.tup (sv names)) → Q (.ref q) H'
theorem ok_checked_people (t : Tx e) : Ok e 2 "checked_people" ["people"] (spPeople e.T) := by
  refine t.f_checked_people.ok sc_checked_people (fun vs H Q E h => ?_) (fun cdv A outer s H vs Q E _ hr h => ?_)
  · obtain ⟨a, names, G, rfl, _⟩ := h; rfl
  · obtain ⟨a, names, G, rfl, wd, ha, hne, nd, hn, k⟩ := h
    refine ⟨_, pss_cons (ps_if (PW.pt (pw_or (pt_not (pt_val (pe_call (ok_is_list t) hr (by rfl) t.f_is_list.mg t.f_is_list.kp t.f_is_list.b .nil pass0 (pa_cons (pv 0) pa_nil)))) (pw_or1 (pt_cmpR op_eq (pe_callB call_len_seq (by rfl) t.n_len bt_len (pa_cons (pv 0) pa_nil)) pe_int (nomark _))))) (pss_one ps_never) pss_nil)
      (pss_cons (ps_for PassesOwn.never rfl (pi_enumSq (by rfl) t.n_enumerate (pa_cons (pv 0) pa_nil)) (pg_tup rfl (pgs_cons (pg_name (i := 1) sc_checked_people.nd rfl (.inl rfl)) (pgs_cons (pg_name (i := 2) sc_checked_people.nd rfl (.inl rfl)) pgs_nil)))
        (pss_one (ps_if (PW.pt (pw_or (pt_not (pt_val (pe_call (ok_is_name t) hr (by rfl) t.f_is_name.mg t.f_is_name.kp t.f_is_name.b .nil pass0 (pa_cons (pv 2) pa_nil)))) (pw_or1 (pt_cmpR op_in_seq (pv 2) (pe_slice sl_sq (pv 0) po_none (po_some (pv 1))) (by rfl))))) (pss_one ps_never) pss_nil)))
      (pss_one (ps_ret (pe_callTy call_tuple_of (by rfl) t.n_tuple bt_tuple (pa_cons (pv 0) pa_nil))))), ?_⟩
    have ha0 : Sq H a (sv names) := ha.up (wd.sub a)
    have len0 : ((sv names).length : Int) ≠ 0 := by
      intro z
      apply hne
      have : (sv names).length = 0 := by omega
      rw [List.length_map] at this
      exact List.length_eq_zero_iff.mp this
    refine ⟨_, rfl, a, _, rfl, ha0, fun H2 s2 => ⟨true, rfl, iteF ⟨_, rfl, a, _, rfl, (ha0.up (s2 a)).seq, rfl, _, rfl, ?_⟩⟩⟩
    rw [decide_eq_false (fun z => len0 (by injection z))]
    refine iteF ?_
    refine ⟨_, rfl, a, _, rfl, ha0.up (s2 a), fun J w => for_it w (fun i σ H3 => ∃ v1 v2, σ = [some (.ref a), v1, v2] ∧ Same H2 H3) ⟨none, none, rfl, Same.refl _⟩ (fun i σ H3 _ ⟨_, _, _, s3⟩ => sq_keep (ha0.up (s2 a)) fun o q _ => s3 _ _ q) ?_ ?_⟩
    · rintro i v σ H3 H4 hi ⟨v1, v2, rfl, s3⟩ ⟨T, x, y, rfl, hT, rfl, hx, hy⟩
      cases hx
      obtain ⟨n, hn', rfl⟩ := sv_get hy
      refine ⟨T, _, rfl, SqT.of upd_same, rfl, _, _, rfl, _, _, rfl, rfl, ?_⟩
      refine ⟨_, rfl, n, rfl, hn n (List.mem_of_getElem? hn'), fun H5 s5 => ⟨true, rfl, iteF ?_⟩⟩
      have s25 : Same H2 H5 := (s3.trans (same_new hT)).trans s5
      have nin : n ∉ names.take i := nodup_take nd hn'
      have fin : ∀ H6, Same H5 H6 → ∃ v1 v2, ([some (.ref a), some (.int (i : Nat)), some (.str n)] : L2.St) = [some (.ref a), v1, v2] ∧ Same H2 H6 := fun H6 s6 => ⟨_, _, rfl, s25.trans s6⟩
      have cut : cutV (sv names) none (some (i : Int)) = sv (names.take i) := by rw [cutV_upto, sv_take]
      refine ⟨_, rfl, _, rfl, _, rfl, i, rfl, a, sv names, rfl, ?_⟩
      rcases (ha0.up (s2 a)).up (s25 a) with q | q
      · refine .inl ⟨q, fun p hp => ⟨p, sv (names.take i), rfl, .inl (SqL.of (by rw [cut, upd_same])), rfl, flat_sv, _, rfl, ?_⟩⟩
        show if inV (.str n) (sv (names.take i)) = true then _ else _
        rw [inV_sv, decide_eq_false nin]
        exact iteF (fin _ (same_new hp))
      · refine .inr ⟨q, fun z => ?_, fun p hp => ⟨p, sv (names.take i), rfl, .inr (SqT.of (by rw [cut, upd_same])), rfl, flat_sv, _, rfl, ?_⟩⟩
        · exfalso
          rw [cut] at z
          have l1 := congrArg List.length z
          rw [List.length_map, List.length_map, List.length_take] at l1
          have : i < (sv names).length := hi
          rw [List.length_map] at this
          omega
        · show if inV (.str n) (sv (names.take i)) = true then _ else _
          rw [inV_sv, decide_eq_false nin]
          exact iteF (fin _ (same_new hp))
    · rintro σ H3 ⟨v1, v2, rfl, s3⟩
      have s03 := s2.trans s3
      refine ⟨_, rfl, a, sv names, rfl, ?_⟩
      rcases ha with q | q
      · refine .inl ⟨SqL.of (s03 _ _ (wd.sub _ _ q)), fun l hl => k l _ _ ((Step.same wd s03).new1 hl noTbl_tup) upd_same⟩
      · exact .inr ⟨SqT.of (s03 _ _ (wd.sub _ _ q)), k a _ _ (Step.same wd s03) q⟩
theorem ok_is_pair_of (t : Tx e) : Ok e 2 "is_pair_of" ["people", "thing"] (fun vs H Q _ => ∃ a b names x y, vs = [.ref a, .ref b] ∧ H a = some (.tup (sv names)) ∧ Sq H b [.str x, .str y] ∧ x ∈ names ∧ y ∈ names ∧ x ≠ y ∧ ∀ H', Same H H' → Q (.bl true) H') := by
  refine t.f_is_pair_of.ok sc_is_pair_of (fun vs H Q E h => ?_) (fun cdv A outer s H vs Q E _ hr h => ?_)
  · obtain ⟨a, b, names, x, y, rfl, _⟩ := h; rfl
  · obtain ⟨a, b, names, x, y, rfl, ha, hb, hx, hy, hne, k⟩ := h
    refine ⟨_, pss_cons (ps_if (PW.pt (pw_or (pt_not (pt_val (pe_call (ok_is_list t) hr (by rfl) t.f_is_list.mg t.f_is_list.kp t.f_is_list.b .nil pass0 (pa_cons (pv 1) pa_nil)))) (pw_or (pt_cmpR op_ne (pe_callB call_len_seq (by rfl) t.n_len bt_len (pa_cons (pv 1) pa_nil)) pe_int (nomark _))
        (pw_or1 (pt_not (pt_val (pe_callB (cr_all rfl) (by rfl) t.n_all bt_all (pa_cons (pe_lc (own := [("part", 2)]) (g := gName 2) (tt := tYes) rfl sc_is_pair_of.nd (pi_sq (pv 1)) (blkOk_by (N := ["people", "thing", "part"]) (sc := defScope s_is_pair_of) (by decide +kernel))
          (fun _ _ _ _ _ => pg_name (i := 2) sc_is_pair_of.nd rfl (Or.inl rfl)) (fun _ _ _ _ _ => pts_nil)
          (fun _ _ _ _ _ => pe_call (ok_is_one_of t) hr (by rfl) t.f_is_one_of.mg t.f_is_one_of.kp t.f_is_one_of.b .nil pass0 (pa_cons (pv 0) (pa_cons (pv 2) pa_nil)))) pa_nil)))))))) (pss_one (ps_ret pe_bl)) pss_nil)
      (pss_one (ps_ret (pe_cmpR op_ne (pe_ix ix_seq (pv 1) pe_int (fun _ _ => rfl)) (pe_ix ix_seq (pv 1) pe_int (fun _ _ => rfl)) (nomark _)))), ?_⟩
    refine ⟨_, rfl, b, _, rfl, hb, fun H2 s2 => ⟨true, rfl, iteF ⟨_, rfl, b, _, rfl, (hb.up (s2 b)).seq, rfl, _, rfl, ?_⟩⟩⟩
    refine iteF ?_
    have hb2 := hb.up (s2 b)
    refine ⟨_, rfl, b, _, rfl, hb2, fun J w D hD => ?_⟩
    refine lc_it w (fun i H3 => Same H2 H3 ∧ H3 D = some (.lst ((List.replicate i true).map V.bl))) ⟨same_new hD, upd_same⟩ (fun i H3 _ ⟨s3, _⟩ => sq_keep hb2 fun o q _ => s3 _ _ q) ?_ ?_
    · rintro i v H3 H4 hi ⟨s3, d3⟩ ⟨rfl, hv⟩
      refine ⟨rfl, yes_ ?_⟩
      have hi : i < 2 := hi
      obtain ⟨z, hz, rfl⟩ : ∃ z, z ∈ names ∧ v = .str z := by
        match i, hi, hv with
        | 0, _, hv => exact ⟨x, hx, (Option.some.inj hv).symm⟩
        | 1, _, hv => exact ⟨y, hy, (Option.some.inj hv).symm⟩
      refine ⟨_, rfl, _, rfl, a, z, names, rfl, (s2.trans s3) _ _ ha, fun H5 s5 => ?_⟩
      rw [decide_eq_true hz]
      have d5 := s5 _ _ d3
      refine ⟨_, d5, ?_, fun b o q => (upd_ne (ne_of_none q hD)).trans (s5 _ _ (s3 b o q)), ?_⟩
      · rw [List.length_map, List.length_replicate]
        exact Nat.lt_trans hi (by decide)
      · rw [upd_same, List.replicate_succ', List.map_append]
        rfl
    · rintro H3 ⟨s3, d3⟩
      refine ⟨D, _, rfl, SqL.of d3, true, rfl, iteF ?_⟩
      have hb3 := hb2.up (s3 b)
      have ix : ∀ {j : Int} {z : V} {R : V → Hp → Prop}, atI [V.str x, V.str y] j = some z → R z H3 → rIx e.K (.ref b) (.int j) H3 R := fun {j z R} h1 h2 => by
        rcases hb3 with q | q
        · exact .inl ⟨b, _, j, z, rfl, rfl, SqL.of q, h1, h2⟩
        · exact .inr (.inl ⟨b, _, j, z, rfl, rfl, SqT.of q, h1, h2⟩)
      refine ⟨_, rfl, ix (z := .str x) rfl ⟨_, rfl, ix (z := .str y) rfl ⟨rfl, ?_⟩⟩⟩
      rw [decide_eq_false (fun z => hne (by injection z))]
      exact k H3 (s2.trans s3)
theorem ok_checked_news (t : Tx e) : Ok e 4 "checked_news" ["people", "news"] (fun vs H Q _ => ∃ a b names ns G, vs = [.ref a, .ref b] ∧ Wd e.T G H ∧ G a = some (.tup (sv names)) ∧ Sq G b (iv ns) ∧ (∀ n ∈ ns, (1 : Int) ≤ n) ∧ ns.length = names.length ∧
    ∀ q G' H', Step e.T NoS G H G' H' → G' q = some (.tup (iv ns)) → Q (.ref q) H') := by
  refine t.f_checked_news.ok sc_checked_news (fun vs H Q E h => ?_) (fun cdv A outer s H vs Q E _ hr h => ?_)
  · obtain ⟨a, b, names, ns, G, rfl, _⟩ := h; rfl
  · obtain ⟨a, b, names, ns, G, rfl, wd, ha, hb, hp, hl, k⟩ := h
    refine ⟨_, pss_cons (ps_set (i := 2) sc_checked_news.nd rfl (.inl rfl) (pe_call (ok_first_odd t) hr (by rfl) t.f_first_odd.mg t.f_first_odd.kp t.f_first_odd.b .nil pass0 (pa_cons (pv 1) (pa_cons (pe_glob (v := .ref (e.A "is_positive")) (by rfl) t.f_is_positive.mg rfl) pa_nil))))
      (pss_cons (ps_set (i := 3) sc_checked_news.nd rfl (.inl rfl) (pe_ifExp (pt_val (pe_call (ok_is_list t) (hr.mono (by decide)) (by rfl) t.f_is_list.mg t.f_is_list.kp t.f_is_list.b .nil pass0 (pa_cons (pv 1) pa_nil))) (pe_callB call_len_seq (by rfl) t.n_len bt_len (pa_cons (pv 1) pa_nil)) pe_int))
      (pss_cons (ps_if (PW.pt (pw_and (pt_cmpR op_notN (pv 2) pe_non (nomark _)) (pw_and1 (pt_cmpR op_le (pv 2) (pe_callB call_len_seq (by rfl) t.n_len bt_len (pa_cons (pv 0) pa_nil)) (nomark _))))) (pss_one ps_never) pss_nil)
      (pss_cons (ps_if (pt_cmpR op_ne (pv 3) (pe_callB call_len_seq (by rfl) t.n_len bt_len (pa_cons (pv 0) pa_nil)) (nomark _)) (pss_one ps_never) pss_nil)
      (pss_one (ps_ret (pe_callTy call_tuple_of (by rfl) t.n_tuple bt_tuple (pa_cons (pv 1) pa_nil))))))), ?_⟩
    have hb0 := hb.up (wd.sub b)
    refine ⟨_, rfl, b, ns, rfl, hb0, hp, fun H2 s2 => ⟨_, rfl, b, _, rfl, hb0.up (s2 b), fun H3 s3 => ⟨true, rfl, _, rfl, b, iv ns, rfl, ((hb0.up (s2 b)).up (s3 b)).seq, ?_⟩⟩⟩
    have s03 := s2.trans s3
    refine ⟨_, rfl, rfl, false, rfl, iteF ?_⟩
    refine ⟨_, rfl, _, rfl, a, _, rfl, .inr (SqT.of (s03 _ _ (wd.sub _ _ ha))), rfl, _, rfl, ?_⟩
    have e1 : (V.int ((iv ns).length : Int)) = V.int ((sv names).length : Int) := by rw [List.length_map, List.length_map, hl]
    refine iteNS e1 ?_
    refine ⟨_, rfl, b, iv ns, rfl, ?_⟩
    rcases hb with q | q
    · refine .inl ⟨SqL.of (s03 _ _ (wd.sub _ _ q)), fun l hl => k l _ _ ((Step.same wd s03).new1 hl noTbl_tup) upd_same⟩
    · exact .inr ⟨SqT.of (s03 _ _ (wd.sub _ _ q)), k b _ _ (Step.same wd s03) q⟩
end
end K12

set_option maxHeartbeats 4000000
namespace K12
open PySem PySem.Spec PyProof.Rows L2 LamX NdefX
section
variable {X : Cx}
/-! ### rules whose questions do not name the written part -/
def rTupSq : List V → Hp → VK → Prop := fun xs H Q => ∃ p ys, xs = [.ref p] ∧ ((H p = some (.lst ys) ∧ ∀ l, H l = none → Q (.ref l) (upd H l (.tup ys))) ∨ (H p = some (.tup ys) ∧ Q (.ref p) H))
theorem call_tupSq : CallR X (.type "tuple") rTupSq := by
  intro pins s σ H xs us Q I r h
  obtain ⟨p, ys, rfl, h⟩ := h
  exact call_tuple_of pins s σ H _ us Q I r ⟨p, ys, rfl, h.elim (fun h => .inl ⟨SqL.of h.1, h.2⟩) fun h => .inr ⟨SqT.of h.1, h.2⟩⟩
def rListSq : List V → Hp → VK → Prop := fun xs H Q => ∃ p ys, xs = [.ref p] ∧ Sq H p ys ∧ ∀ l, H l = none → Q (.ref l) (upd H l (.lst ys))
theorem call_listSq : CallR X (.type "list") rListSq := by
  intro pins s σ H xs us Q I r h
  obtain ⟨p, ys, rfl, h, q⟩ := h
  exact call_list_of pins s σ H _ us Q I r ⟨p, ys, rfl, h.seq, q⟩
def rLenSq : List V → Hp → VK → Prop := fun xs H Q => ∃ p ys, xs = [.ref p] ∧ Sq H p ys ∧ Q (.int ys.length) H
theorem call_lenSq : CallR X (.builtin "len") rLenSq := by
  intro pins s σ H xs us Q I r h
  obtain ⟨p, ys, rfl, h, q⟩ := h
  exact call_len_seq pins s σ H _ us Q I r ⟨p, ys, rfl, h.seq, q⟩
def rIxSq : R2 := fun x y H Q => ∃ a xs j v, x = .ref a ∧ y = .int j ∧ Sq H a xs ∧ atI xs j = some v ∧ Q v H
theorem ix_sq : IxR X rIxSq := by
  intro value slice pins s σ H x y v u Q I rx ry h hs
  obtain ⟨a, xs, j, z, rfl, rfl, h, hz, q⟩ := h
  rcases h with h | h
  · exact ix_list value slice pins s σ H _ _ v u Q I rx ry ⟨a, xs, j, z, rfl, rfl, SqL.of h, hz, q⟩ hs
  · exact ix_tup value slice pins s σ H _ _ v u Q I rx ry ⟨a, xs, j, z, rfl, rfl, SqT.of h, hz, q⟩ hs
/-- x in a row of names -/
def rInSv : R2 := fun x y H Q => ∃ z p l, x = .str z ∧ y = .ref p ∧ Sq H p (sv l) ∧ Q (.bl (decide (z ∈ l))) H
theorem op_inSv : OpR X (compareOp .In) rInSv := by
  intro pins s σ H x y v u Q I rx ry h
  obtain ⟨z, p, l, rfl, rfl, h, q⟩ := h
  refine op_in_seq pins s σ H _ _ v u Q I rx ry ⟨p, sv l, rfl, h.seq, rfl, flat_sv, ?_⟩
  show Q (.bl (inV (.str z) (sv l))) H
  rw [inV_sv]
  exact q
/-- o.f, o an instance of C -/
def tFldC (C : Addr) (te : TE) (f : Str) : TE := fun σ H Q => te σ H fun x H1 => ∃ a dx fs v, x = .ref a ∧ H1 a = some (.ins C dx fs) ∧ fs.lookup f = some v ∧ Q v H1
theorem pe_fldC {C : Addr} {o : Expr} {te : TE} {f : Str} {pos : Pos} (c : Cls X.K C) (n : NoAttr X.K C f) (he : PE X o te) (hb : attributeBase o f X.env (eval o X.env) = eval o X.env := by rfl) : PE X (.Attribute o f pos) (tFldC C te f) :=
  ⟨fun pins s σ H Q I h => (pe_fld (pe_weak he) hb).run pins s σ H Q I ⟨_, h, fun x H1 ⟨a, dx, fs, v, e1, e2, e3, q⟩ => ⟨a, C, dx, fs, v, e1, e2, c, n, e3, q⟩⟩⟩
end
end K12

set_option maxHeartbeats 4000000
namespace K12
open PySem PySem.Spec PyProof.Rows L2 LamX NdefX
def PairSq (G : Hp) (v : V) (t : Str × Str) : Prop := ∃ p, v = .ref p ∧ Sq G p [.str t.1, .str t.2]
theorem take_snoc {α : Type} {l : List α} {i : Nat} {x : α} (h : l[i]? = some x) : l.take (i + 1) = l.take i ++ [x] := by
  rw [List.take_add_one, h]
  rfl
theorem sq_ix {K : PySem.W.Frag} {H : Hp} {b : Addr} {xs : List V} {j : Int} {z : V} {R : V → Hp → Prop} (hb : Sq H b xs) (h1 : atI xs j = some z) (h2 : R z H) : rIx K (.ref b) (.int j) H R := by
  rcases hb with q | q
  · exact .inl ⟨b, _, j, z, rfl, rfl, SqL.of q, h1, h2⟩
  · exact .inr (.inl ⟨b, _, j, z, rfl, rfl, SqT.of q, h1, h2⟩)
theorem hundred {n : Nat} (h : n ≤ 100) : n < sizeLine := Nat.lt_of_le_of_lt h (by decide)
/-- who stands with whom, after some ties -/
def Lot (names : List Str) (ties : List (Str × Str)) (lot : Str → Str) : Prop := ∀ S : Str → Prop, (∀ t ∈ ties, (S t.1 ↔ S t.2)) → ∀ x ∈ names, (S x ↔ S (lot x))
theorem Lot.nil {names : List Str} : Lot names [] id := fun _ _ _ _ => Iff.rfl
theorem Lot.step {names : List Str} {ties : List (Str × Str)} {lot : Str → Str} {e : Str × Str} (L : Lot names ties lot) (h1 : e.1 ∈ names) (h2 : e.2 ∈ names) : Lot names (ties ++ [e]) (fun x => if lot x = lot e.2 then lot e.1 else lot x) := fun S h x hx => by
  have L' := L S fun t ht => h t (by simp [ht])
  have he := h e (by simp)
  show S x ↔ S (if lot x = lot e.2 then lot e.1 else lot x)
  by_cases q : lot x = lot e.2
  · rw [if_pos q, L' x hx, q, ← L' _ h2, ← he, L' _ h1]
  · rw [if_neg q]
    exact L' x hx
theorem Lot.ne {names : List Str} {ties : List (Str × Str)} {lot : Str → Str} {i : Nat} {e : Str × Str} (t : IsTree names ties) (h : ties[i]? = some e) (L : Lot names (ties.take i) lot) : lot e.1 ≠ lot e.2 := fun q => by
  obtain ⟨S, s1, s2, s3⟩ := t.cut h
  obtain ⟨e1, e2, _⟩ := t.ends e (List.mem_of_getElem? h)
  have a1 := (L S s3 _ e1).mp s1
  rw [q] at a1
  exact s2 ((L S s3 _ e2).mpr a1)
section
variable {e : Ev}
theorem ok_checked_ties (t : Tx e) : Ok e 3 "checked_ties" ["people", "ties"] (fun vs H Q _ => ∃ a b names ties tvs G, vs = [.ref a, .ref b] ∧ Wd e.T G H ∧ G a = some (.tup (sv names)) ∧ Sq G b tvs ∧ Paired (PairSq G) tvs ties ∧ IsTree names ties ∧ names.length ≤ 100 ∧
    ∀ q G' H' ws, Step e.T NoS G H G' H' → G' q = some (.tup ws) → Prs G' ws ties → Q (.ref q) H') := by
  refine t.f_checked_ties.ok sc_checked_ties (fun vs H Q E h => ?_) (fun cdv A outer s H vs Q E _ hr h => ?_)
  · obtain ⟨a, b, names, ties, tvs, G, rfl, _⟩ := h; rfl
  · obtain ⟨a, b, names, ties, tvs, G, rfl, wd, ha, hb, hp, tr, hl, k⟩ := h
    have hu := hu_of hr
    have nd := tr.nodup
    have ltie : tvs.length = ties.length := Paired.len hp
    have tl := tr.len
    refine ⟨_, pss_cons (ps_if (pt_not (pt_val (pe_call (ok_is_list t) (hr.mono (by decide)) (by rfl) t.f_is_list.mg t.f_is_list.kp t.f_is_list.b .nil pass0 (pa_cons (pv 1) pa_nil)))) (pss_one ps_never) pss_nil)
      (pss_cons (ps_set (i := 2) sc_checked_ties.nd rfl (Or.inr rfl) (pe_dc (own := [("name", 3)]) (g := gName 3) (tt := tYes) rfl sc_checked_ties.nd (pi_sq (pv 0)) (blkOk_by (N := ["people", "ties", "lots", "name", "index", "tie", "one", "other"]) (sc := defScope s_checked_ties) (by decide +kernel))
        (fun _ _ _ _ _ => pg_name (i := 3) sc_checked_ties.nd rfl (Or.inl rfl)) (fun _ _ _ _ _ => pts_nil) (fun _ _ _ _ _ => pv 3) (fun _ _ _ _ _ => pv 3)))
      (pss_cons (ps_for PassesOwn.never rfl (pi_enumSq (by rfl) t.n_enumerate (pa_cons (pv 1) pa_nil)) (pg_tup rfl (pgs_cons (pg_name (i := 4) sc_checked_ties.nd rfl (.inl rfl)) (pgs_cons (pg_name (i := 5) sc_checked_ties.nd rfl (.inl rfl)) pgs_nil)))
        (pss_cons (ps_if (PW.pt (pw_or (pt_not (pt_val (pe_call (ok_is_pair_of t) hr (by rfl) t.f_is_pair_of.mg t.f_is_pair_of.kp t.f_is_pair_of.b .nil pass0 (pa_cons (pv 0) (pa_cons (pv 5) pa_nil)))))
          (pw_or1 (pt_cmpR op_eq (pe_dget hu (pv 2) (pe_ix ix_seq (pv 5) pe_int (fun _ _ => rfl)) (fun _ _ => rfl)) (pe_dget hu (pv 2) (pe_ix ix_seq (pv 5) pe_int (fun _ _ => rfl)) (fun _ _ => rfl)) (nomark _))))) (pss_one ps_never) pss_nil)
        (pss_cons (ps_asg (pe_tup (pa_cons (pe_dget hu (pv 2) (pe_ix ix_seq (pv 5) pe_int (fun _ _ => rfl)) (fun _ _ => rfl)) (pa_cons (pe_dget hu (pv 2) (pe_ix ix_seq (pv 5) pe_int (fun _ _ => rfl)) (fun _ _ => rfl)) pa_nil))) (pg_tup rfl (pgs_cons (pg_name (i := 6) sc_checked_ties.nd rfl (.inr rfl)) (pgs_cons (pg_name (i := 7) sc_checked_ties.nd rfl (.inr rfl)) pgs_nil))))
        (pss_one (ps_set (i := 2) sc_checked_ties.nd rfl (Or.inr rfl) (pe_lock (pe_dc (own := [("name", 3)]) (g := gName 3) (tt := tYes) rfl sc_checked_ties.nd (pi_keys (pv 2)) (blkOk_by (N := ["people", "ties", "lots", "name", "index", "tie", "one", "other"]) (sc := defScope s_checked_ties) (by decide +kernel))
          (fun _ _ _ _ _ => pg_name (i := 3) sc_checked_ties.nd rfl (Or.inl rfl)) (fun _ _ _ _ _ => pts_nil) (fun _ _ _ _ _ => pv 3)
          (fun _ _ _ _ _ => pe_ifExp (pt_cmpR op_eq (pe_dget hu (pv 2) (pv 3) (fun _ _ => rfl)) (pv 7) (nomark _)) (pv 6) (pe_dget hu (pv 2) (pv 3) (fun _ _ => rfl))))))))))
      (pss_cons (ps_if (pt_cmpR op_lt (pe_callB call_len_seq (by rfl) t.n_len bt_len (pa_cons (pv 1) pa_nil)) (pe_op op_sub (pe_callB call_len_seq (by rfl) t.n_len bt_len (pa_cons (pv 0) pa_nil)) pe_int) (nomark _)) (pss_one ps_never) pss_nil)
      (pss_one (ps_ret (pe_callTy call_tupSq (by rfl) t.n_tuple bt_tuple (pa_cons (pe_lc (own := [("tie", 5)]) (g := gName 5) (tt := tYes) rfl sc_checked_ties.nd (pi_sq (pv 1)) (blkOk_by (N := ["people", "ties", "lots", "name", "index", "tie", "one", "other"]) (sc := defScope s_checked_ties) (by decide +kernel))
        (fun _ _ _ _ _ => pg_name (i := 5) sc_checked_ties.nd rfl (Or.inl rfl)) (fun _ _ _ _ _ => pts_nil) (fun _ _ _ _ _ => pe_callTy call_tupSq (by rfl) t.n_tuple bt_tuple (pa_cons (pv 5) pa_nil))) pa_nil))))))), ?_⟩
    have ha0 : H a = some (.tup (sv names)) := wd.sub _ _ ha
    have hb0 := hb.up (wd.sub b)
    refine ⟨_, rfl, b, _, rfl, hb0, fun H1 s1 => ⟨true, rfl, iteF ?_⟩⟩
    -- lots = {name: name ..}
    refine ⟨_, rfl, a, _, rfl, .inr (s1 _ _ ha0), fun J w d hd => ?_⟩
    refine dc_it w (fun i H2 => Same H1 H2 ∧ ∃ kvs, H2 d = some (.dK kvs) ∧ Dic kvs (names.take i) fun x v => v = .str x) ⟨same_new hd, [], upd_same, .nil⟩ (fun i H2 _ ⟨s2, _⟩ => sq_keep (.inr (s1 _ _ ha0)) fun o q _ => s2 _ _ q) ?_ ?_
    · rintro i v H2 H3 hi ⟨s2, kvs, d2, D2⟩ ⟨rfl, hv⟩
      obtain ⟨x, hx, rfl⟩ := sv_get hv
      refine ⟨rfl, yes_ ⟨_, rfl, _, rfl, kvs, Sum.inr x, rfl, d2, ?_, fun b o q => (upd_ne (ne_of_none q hd)).trans (s2 b o q), _, upd_same, ?_⟩⟩
      · rw [D2.len, List.length_take]
        exact hundred (by omega)
      · rw [take_snoc hx]
        exact D2.put_new (nodup_take nd hx) rfl
    rintro H2 ⟨s2, kvs, d2, D2⟩
    rw [List.length_map, List.take_length] at D2
    have nd1 : H d = none := s1.free hd
    -- the ties
    refine ⟨_, rfl, b, _, rfl, hb0.up ((s1.trans s2) b), fun J w => for_it w (fun i σ H3 => ∃ d kvs lot v3 v4 v5 v6 v7, σ = [some (.ref a), some (.ref b), some (.ref d), v3, v4, v5, v6, v7] ∧ Same H H3 ∧ H d = none ∧ H3 d = some (.dK kvs) ∧ Dic kvs names (fun x v => v = .str (lot x)) ∧ Lot names (ties.take i) lot)
      ⟨d, kvs, id, none, none, none, none, none, rfl, s1.trans s2, nd1, d2, D2, Lot.nil⟩ (fun i σ H3 _ ⟨_, _, _, _, _, _, _, _, _, s3, _⟩ => (sq_keep hb0 fun o q _ => s3 _ _ q).trans (sq_keep hb0 fun o q _ => (s1.trans s2) _ _ q).symm) ?_ ?_⟩
    · rintro i v σ H3 H4 hi ⟨d, kvs, lot, v3, v4, v5, v6, v7, rfl, s3, nd1, d3, D3, L⟩ ⟨T, x, y, rfl, hT, rfl, hx, hy⟩
      cases hx
      obtain ⟨tie, htie, p, rfl, hq⟩ := Paired.getL hp hy
      obtain ⟨m1, m2, m3⟩ := tr.ends tie (List.mem_of_getElem? htie)
      refine ⟨T, _, rfl, SqT.of upd_same, rfl, _, _, rfl, _, _, rfl, rfl, ?_⟩
      have s4 : Same H (upd H3 T (.tup [.int (i : Nat), .ref p])) := s3.trans (same_new hT)
      have hq0 : Sq H p [.str tie.1, .str tie.2] := hq.up (wd.sub p)
      refine ⟨_, rfl, _, rfl, a, p, names, tie.1, tie.2, rfl, s4 _ _ ha0, hq0.up (s4 p), m1, m2, m3, fun H5 s5 => ⟨true, rfl, iteF ?_⟩⟩
      have s05 := s4.trans s5
      have hq5 := hq0.up (s05 p)
      have d5 : H5 d = some (.dK kvs) := s5 _ _ ((upd_ne (ne_of_none d3 hT)).trans d3)
      obtain ⟨w1, g1, rfl⟩ := D3.get m1
      obtain ⟨w2, g2, rfl⟩ := D3.get m2
      have get1 : DGet H5 d (.str tie.1) (some (.str (lot tie.1))) := by rw [← g1]; exact DGet.k (k := Sum.inr tie.1) d5
      have get2 : DGet H5 d (.str tie.2) (some (.str (lot tie.2))) := by rw [← g2]; exact DGet.k (k := Sum.inr tie.2) d5
      have lne := L.ne tr htie
      refine ⟨_, rfl, _, rfl, sq_ix (z := .str tie.1) hq5 rfl ⟨d, _, rfl, get1, _, rfl, _, rfl, sq_ix (z := .str tie.2) hq5 rfl ⟨d, _, rfl, get2, rfl, _, rfl, ?_⟩⟩⟩
      rw [decide_eq_false (fun z => lne (by injection z))]
      refine iteF ?_
      -- one, other = ..
      refine ⟨_, rfl, _, rfl, sq_ix (z := .str tie.1) hq5 rfl ⟨d, _, rfl, get1, _, rfl, _, rfl, sq_ix (z := .str tie.2) hq5 rfl ⟨d, _, rfl, get2, by show 2 ≤ sizeLine; decide, fun T2 hT2 => ⟨T2, _, rfl, SqT.of upd_same, rfl, _, _, rfl, _, _, rfl, rfl, ?_⟩⟩⟩⟩
      have s6 := s05.trans (same_new (o := .tup [.str (lot tie.1), .str (lot tie.2)]) hT2)
      have d6 : (upd H5 T2 (.tup [.str (lot tie.1), .str (lot tie.2)])) d = some (.dK kvs) := (upd_ne (ne_of_none d5 hT2)).trans d5
      -- lots = {..}
      refine ⟨d, .dK kvs, d6, trivial, fun od => ⟨_, rfl, d, od, rfl, .inl ⟨kvs, upd_same, fun D hD => ?_⟩⟩⟩
      generalize hH6 : upd H5 T2 (.tup [.str (lot tie.1), .str (lot tie.2)]) = H6 at *
      have nDd : D ≠ d := fun z => by rw [z, upd_same] at hD; cases hD
      have hD6 : H6 D = none := (upd_ne nDd).symm.trans hD
      refine dc_it walk_keys (fun j H7 => (∀ c o, c ≠ d → H6 c = some o → H7 c = some o) ∧ H7 d = some (.frz od (.dK kvs)) ∧ ∃ kvs', H7 D = some (.dK kvs') ∧ Dic kvs' (names.take j) fun x v => v = .str (if lot x = lot tie.2 then lot tie.1 else lot x)) ⟨fun c o hc q => (upd_ne (ne_of_none q hD6)).trans ((upd_ne hc).trans q), (upd_ne nDd.symm).trans upd_same, [], upd_same, .nil⟩ (fun j H7 _ ⟨_, q, _⟩ => q) ?_ ?_
      · rintro j v H7 H8 hj ⟨s7, d7, kvs', D7, Dk⟩ ⟨rfl, kk, vv, hkv, rfl⟩
        obtain ⟨x, hx, e1, e2⟩ := Paired.getL D3 hkv
        have e1 : kk = Sum.inr x := e1
        subst e1
        refine ⟨rfl, yes_ ⟨_, rfl, ?_⟩⟩
        have gx : DGet H8 d (.str x) (some (.str (lot x))) := by
          obtain ⟨w3, g3, rfl⟩ := D3.get (List.mem_of_getElem? hx)
          rw [← g3]
          exact .inl ⟨kvs, Sum.inr x, .inr ⟨od, d7⟩, rfl, rfl⟩
        have fin : ∀ z, z = (if lot x = lot tie.2 then lot tie.1 else lot x) → ∃ kvs'' k', V.str x = kV k' ∧ H8 D = some (.dK kvs'') ∧ kvs''.length < sizeLine ∧ ((∀ c o, c ≠ d → H6 c = some o → upd H8 D (.dK (putK kvs'' k' (.str z))) c = some o) ∧ upd H8 D (.dK (putK kvs'' k' (.str z))) d = some (.frz od (.dK kvs)) ∧
            ∃ kvs', upd H8 D (.dK (putK kvs'' k' (.str z))) D = some (.dK kvs') ∧ Dic kvs' (names.take (j + 1)) fun x v => v = .str (if lot x = lot tie.2 then lot tie.1 else lot x)) := by
          intro z hz
          refine ⟨kvs', Sum.inr x, rfl, D7, ?_, fun c o hc q => (upd_ne (ne_of_none q hD6)).trans (s7 c o hc q), (upd_ne nDd.symm).trans d7, _, upd_same, ?_⟩
          · rw [Dk.len, List.length_take]
            exact hundred (by omega)
          · rw [take_snoc hx]
            exact Dk.put_new (nodup_take nd hx) (by rw [hz])
        refine ⟨_, rfl, _, rfl, d, _, rfl, gx, _, rfl, rfl, _, rfl, ?_⟩
        by_cases q : lot x = lot tie.2
        · rw [decide_eq_true (congrArg V.str q)]
          exact ⟨_, rfl, fin _ (if_pos q).symm⟩
        · rw [decide_eq_false (fun z => q (by injection z))]
          exact ⟨_, rfl, _, rfl, d, _, rfl, gx, fin _ (if_neg q).symm⟩
      · rintro H7 ⟨s7, d7, kvs', D7, Dk⟩
        rw [D3.len, List.take_length] at Dk
        refine ⟨d7, D, kvs', _, _, _, _, _, _, rfl, fun c o q => ?_, s6.free hD6, (upd_ne nDd).trans D7, Dk, ?_⟩
        · have hc := ne_of_none q nd1
          exact (upd_ne hc).trans (s7 c o hc (s6 c o q))
        · rw [take_snoc htie]
          exact L.step m1 m2
    · rintro σ H3 ⟨d, kvs, lot, v3, v4, v5, v6, v7, rfl, s3, _⟩
      refine ⟨_, rfl, b, _, rfl, (hb0.up (s3 b)).seq, _, rfl, a, _, rfl, .inr (SqT.of (s3 _ _ ha0)), _, 1, rfl, rfl, _, _, rfl, rfl, _, rfl, ?_⟩
      rw [decide_eq_false (by rw [ltie, List.length_map]; omega)]
      refine iteF ?_
      refine ⟨_, rfl, b, _, rfl, hb0.up (s3 b), fun J w D hD => ?_⟩
      refine lc_it w (fun i H4 => ∃ G4 ws, Step e.T NoS G H G4 H4 ∧ G4 D = none ∧ H4 D = some (.lst ws) ∧ Prs G4 ws (ties.take i)) ⟨G, [], Step.same wd (s3.trans (same_new hD)), wd.none (s3.free hD), upd_same, .nil⟩ (fun i H4 _ ⟨G4, _, st, _⟩ => ?_) ?_ ?_
      · exact (sq_keep hb0 fun o q n => st.own q (fun z => z) n).trans (sq_keep hb0 fun o q _ => s3 _ _ q).symm
      · rintro i v H4 H5 hi ⟨G4, ws, st, g4, d4, P4⟩ ⟨rfl, hv⟩
        obtain ⟨tie, htie, p, rfl, hq⟩ := Paired.getL hp hv
        have lw : ws.length < sizeLine := by
          rw [Paired.len P4, List.length_take]
          exact hundred (by omega)
        have hD0 : H D = none := s3.free hD
        refine ⟨rfl, yes_ ⟨_, rfl, p, [.str tie.1, .str tie.2], rfl, ?_⟩⟩
        rcases hq with q | q
        · refine .inl ⟨st.get q, fun l hl => ⟨ws, (upd_ne (ne_of_none d4 hl)).trans d4, lw, ?_⟩⟩
          have st2 := st.new1 (o := .tup [.str tie.1, .str tie.2]) hl noTbl_tup
          have g5 : upd G4 l (.tup [.str tie.1, .str tie.2]) D = none := (upd_ne (ne_of_none d4 hl)).trans g4
          refine ⟨_, _, st2.wr hD0 g5 ((upd_ne (ne_of_none d4 hl)).trans d4) noTbl_lst (fun _ h => nomatch h), g5, upd_same, ?_⟩
          rw [take_snoc htie]
          exact Paired.snoc ⟨l, rfl, upd_same⟩ (P4.up fun c o h => (upd_ne (ne_of_none h (st.wd.none hl))).trans h)
        · refine .inr ⟨st.get q, ws, d4, lw, _, _, st.wr hD0 g4 d4 noTbl_lst (fun _ h => nomatch h), g4, upd_same, ?_⟩
          rw [take_snoc htie]
          exact Paired.snoc ⟨p, rfl, st.up _ _ q⟩ P4
      · rintro H4 ⟨G4, ws, st, g4, d4, P4⟩
        rw [ltie, List.take_length] at P4
        refine ⟨D, ws, rfl, .inl ⟨d4, fun l hl => k l _ _ ws (st.new1 hl noTbl_tup) upd_same (P4.up fun c o h => (upd_ne (ne_of_none h (st.wd.none hl))).trans h)⟩⟩
end
end K12

set_option maxHeartbeats 4000000
namespace K12
open PySem PySem.Spec PyProof.Rows L2 LamX NdefX
section
variable {T : List (Addr × Str)} {S : Addr → Prop} {G H G1 H1 : Hp} {l p : Addr} {o o' : HO}
/-- an object that S names is changed -/
theorem Step.wrS (a : Step T S G H G1 H1) (h : S l) (h1 : G1 l = none) (e : H1 l = some o) (n : NoTbl o) (ne : ∀ φ, o ≠ .ext φ) : Step T S G H G1 (upd H1 l o') := by
  refine ⟨⟨fun b u q => ?_, a.wd.ntb, fun p hp => ?_⟩, a.up, a.new, fun b u q1 q2 q3 => ?_, fun b q => ?_⟩
  · have nb : b ≠ l := fun z => by rw [z, h1] at q; cases q
    exact (upd_ne nb).trans (a.wd.sub b u q)
  · obtain ⟨ps, b1, b2, b3⟩ := a.wd.tabs p hp
    have n1 : p.1 ≠ l := fun z => by rw [z, e] at b1; cases b1; exact n _ rfl
    refine ⟨ps, (upd_ne n1).trans b1, b2, fun pos cv q => ?_⟩
    obtain ⟨c, d1, d2⟩ := b3 pos cv q
    exact ⟨c, d1, (upd_ne (fun z => by rw [z, e] at d2; cases d2; exact ne _ rfl)).trans d2⟩
  · exact (upd_ne (fun z => q2 (by rw [z]; exact h))).trans (a.fr b u q1 q2 q3)
  · by_cases z : b = l
    · rw [z, upd_same]; simp
    · rw [upd_ne z]; exact a.dom b q
/-- a new hidden object -/
theorem Step.hid1 (a : Step T S G H G1 H1) (h : H1 p = none) : Step T S G H G1 (upd H1 p o) := a.trans (Step.hid a.wd h)
theorem Step.hidN (a : Step T S G H G1 H1) {b : Addr} (h : H1 b = none) : G1 b = none := a.wd.none h
/-- what was new behind the start need not be named -/
theorem Step.drop (a : Step T (fun b => b = l) G H G1 H1) (h : H l = none) : Step T NoS G H G1 H1 :=
  ⟨a.wd, a.up, a.new, fun b o q _ n => a.fr b o q (fun z => by rw [z, h] at q; cases q) n, a.dom⟩
end
/-- a Village's parts -/
structure VParts (G : Hp) (names : List Str) (ties : List (Str × Str)) (news : List Int) (n t w f r : Addr) : Prop where
  hn : G n = some (.tup (sv names))
  ht : ∃ tvs, G t = some (.tup tvs) ∧ Prs G tvs ties
  hw : G w = some (.tup (iv news))
  hf : ∃ fvs, G f = some (.dK fvs) ∧ Dic fvs names (fun y v => ListAt G (frn names ties y) v)
  hr : ∃ rvs, G r = some (.dK rvs) ∧ Dic rvs names (fun y v => v = .int (names.idxOf y : Nat))
abbrev vfs (n t w f r : Addr) : List (Str × V) := [("names", .ref n), ("own_ties", .ref t), ("own_news", .ref w), ("own_friends", .ref f), ("ranks", .ref r)]
theorem VParts.up {G G' : Hp} {names : List Str} {ties : List (Str × Str)} {news : List Int} {n t w f r : Addr} (v : VParts G names ties news n t w f r) (e : ∀ b o, G b = some o → G' b = some o) : VParts G' names ties news n t w f r := by
  obtain ⟨hn, ⟨tvs, h1, h2⟩, hw, ⟨fvs, h3, h4⟩, ⟨rvs, h5, h6⟩⟩ := v
  exact ⟨e _ _ hn, ⟨tvs, e _ _ h1, h2.up e⟩, e _ _ hw, ⟨fvs, e _ _ h3, h4.mono fun _ _ _ h => h.up e⟩, ⟨rvs, e _ _ h5, h6⟩⟩
theorem VParts.at {C x dx : Addr} {G : Hp} {names : List Str} {ties : List (Str × Str)} {news : List Int} {n t w f r : Addr} (v : VParts G names ties news n t w f r) (h : G x = some (.ins C dx (vfs n t w f r))) : VAt C G x names ties news := by
  obtain ⟨hn, ⟨tvs, h1, h2⟩, hw, ⟨fvs, h3, h4⟩, ⟨rvs, h5, h6⟩⟩ := v
  exact ⟨⟨dx, n, t, w, f, r, tvs, fvs, rvs, h, hn, h1, h2, hw, h3, h4, h5, h6⟩⟩
theorem VAt.parts {C x : Addr} {G : Hp} {names : List Str} {ties : List (Str × Str)} {news : List Int} (v : VAt C G x names ties news) : ∃ dx n t w f r, G x = some (.ins C dx (vfs n t w f r)) ∧ VParts G names ties news n t w f r := by
  obtain ⟨dx, n, t, w, f, r, tvs, fvs, rvs, h, hn, h1, h2, hw, h3, h4, h5, h6⟩ := v.at_
  exact ⟨dx, n, t, w, f, r, h, hn, ⟨tvs, h1, h2⟩, hw, ⟨fvs, h3, h4⟩, ⟨rvs, h5, h6⟩⟩
theorem adj_snoc {ts : List (Str × Str)} {e : Str × Str} {x y : Str} : adj (ts ++ [e]) x y ↔ adj ts x y ∨ (x, y) = e ∨ (y, x) = e := by
  unfold adj
  simp only [List.mem_append, List.mem_singleton]
  constructor
  · rintro ((h | h) | (h | h))
    · exact .inl (.inl h)
    · exact .inr (.inl h)
    · exact .inl (.inr h)
    · exact .inr (.inr h)
  · rintro ((h | h) | h | h)
    · exact .inl (.inl h)
    · exact .inr (.inl h)
    · exact .inl (.inr h)
    · exact .inr (.inr h)
theorem idx_nodup {l : List Str} (nd : l.Nodup) {i : Nat} {x : Str} (h : l[i]? = some x) : l.idxOf x = i := by
  obtain ⟨hi, e⟩ := List.getElem?_eq_some_iff.mp h
  have h1 : l.idxOf x < l.length := List.idxOf_lt_length_iff.mpr (List.mem_of_getElem? h)
  have h2 : l[l.idxOf x] = x := List.getElem_idxOf h1
  exact (List.getElem_inj nd).mp (h2.trans e.symm)
section
variable {e : Ev}
def spVInit (e : Ev) : Sp := fun vs H Q _ => ∃ x dx a b c names ties tvs ns G, vs = [.ref x, .ref a, .ref b, .ref c] ∧ Wd e.T G H ∧ G x = none ∧ H x = some (.ins e.CV dx []) ∧ Sq G a (sv names) ∧ Sq G b tvs ∧ Paired (PairSq G) tvs ties ∧ Sq G c (iv ns) ∧ IsTree names ties ∧ names.length ≤ 100 ∧
    (∀ n ∈ ns, (1 : Int) ≤ n) ∧ ns.length = names.length ∧ (∀ y ∈ names, nameB y = true) ∧
    ∀ G' H' n t w f r, Step e.T (fun b => b = x) G H G' H' → H' x = some (.ins e.CV dx (vfs n t w f r)) → VParts G' names ties ns n t w f r → Q .non H'
theorem ok_Village_init (t : Tx e) : Ok e 5 "Village.__init__" ["self", "people", "ties", "news"] (spVInit e) := by
  refine t.f_Village_init.ok sc_Village_init (fun vs H Q E h => ?_) (fun cdv A outer s H vs Q E _ hr h => ?_)
  · obtain ⟨x, dx, a, b, c, names, ties, tvs, ns, G, rfl, _⟩ := h; rfl
  · obtain ⟨x, dx, a, b, c, names, ties, tvs, ns, G, rfl, wd, gx, hx, ha, hb, hp, hc, tr, hl, hpos, hln, hnb, k⟩ := h
    have hu := hu_of hr
    have nd := tr.nodup
    have hne : names ≠ [] := fun z => by have := tr.len; rw [z] at this; cases this
    have tl := tr.len
    refine ⟨_, pss_cons (ps_fld (pv 0) (pe_call (ok_checked_people t) (hr.mono (by decide)) (by rfl) t.f_checked_people.mg t.f_checked_people.kp t.f_checked_people.b .nil pass0 (pa_cons (pv 1) pa_nil)) rfl)
      (pss_cons (ps_fld (pv 0) (pe_call (ok_checked_ties t) (hr.mono (by decide)) (by rfl) t.f_checked_ties.mg t.f_checked_ties.kp t.f_checked_ties.b .nil pass0 (pa_cons (pe_fldC t.clV t.v_names (pv 0)) (pa_cons (pv 2) pa_nil))) rfl)
      (pss_cons (ps_fld (pv 0) (pe_call (ok_checked_news t) (hr.mono (by decide)) (by rfl) t.f_checked_news.mg t.f_checked_news.kp t.f_checked_news.b .nil pass0 (pa_cons (pe_fldC t.clV t.v_names (pv 0)) (pa_cons (pv 3) pa_nil))) rfl)
      (pss_cons (ps_fld (pv 0) (pe_dc (own := [("name", 4)]) (g := gName 4) (tt := tYes) rfl sc_Village_init.nd (pi_sq (pe_fldC t.clV t.v_names (pv 0))) (blkOk_by (N := ["self", "people", "ties", "news", "name", "one", "other", "rank", "friends", "friend"]) (sc := defScope s_Village_init) (by decide +kernel))
        (fun _ _ _ _ _ => pg_name (i := 4) sc_Village_init.nd rfl (Or.inl rfl)) (fun _ _ _ _ _ => pts_nil) (fun _ _ _ _ _ => pv 4) (fun _ _ _ _ _ => pe_lst pa_nil)) rfl)
      (pss_cons (ps_for PassesOwn.never rfl (pi_sq (pe_fldC t.clV t.v_own_ties (pv 0))) (pg_tup rfl (pgs_cons (pg_name (i := 5) sc_Village_init.nd rfl (.inl rfl)) (pgs_cons (pg_name (i := 6) sc_Village_init.nd rfl (.inl rfl)) pgs_nil)))
        (pss_cons (ps_expr (pe_bm PySem.F.plainAttrs_list PySem.F.slot_list_append PySem.F.type_list_append mt_append (pe_dget hu (pe_fldC t.clV t.v_own_friends (pv 0)) (pv 5) (fun _ _ => rfl)) (pa_cons (pv 6) pa_nil)))
        (pss_one (ps_expr (pe_bm PySem.F.plainAttrs_list PySem.F.slot_list_append PySem.F.type_list_append mt_append (pe_dget hu (pe_fldC t.clV t.v_own_friends (pv 0)) (pv 6) (fun _ _ => rfl)) (pa_cons (pv 5) pa_nil))))))
      (pss_cons (ps_fld (pv 0) (pe_dc (own := [("rank", 7), ("name", 4)]) (g := gTup e.K 2 (gCons (gName 7) (gCons (gName 4) gNil))) (tt := tYes) rfl sc_Village_init.nd (pi_enumSq (by rfl) t.n_enumerate (pa_cons (pe_fldC t.clV t.v_names (pv 0)) pa_nil)) (blkOk_by (N := ["self", "people", "ties", "news", "name", "one", "other", "rank", "friends", "friend"]) (sc := defScope s_Village_init) (by decide +kernel))
        (fun _ _ _ _ _ => pg_tup (n := 2) rfl (pgs_cons (pg_name (i := 7) sc_Village_init.nd rfl (Or.inl rfl) (Or.inr rfl)) (pgs_cons (pg_name (i := 4) sc_Village_init.nd rfl (Or.inl rfl) (Or.inr rfl)) pgs_nil))) (fun _ _ _ _ _ => pts_nil) (fun _ _ _ _ _ => pv 4) (fun _ _ _ _ _ => pv 7)) rfl)
      (pss_one (ps_for PassesOwn.never rfl (pi_sq (pe_fldC t.clV t.v_names (pv 0))) (pg_name (i := 4) sc_Village_init.nd rfl (.inl rfl))
        (pss_cons (ps_set (i := 8) sc_Village_init.nd rfl (.inr rfl) (pe_dget hu (pe_fldC t.clV t.v_own_friends (pv 0)) (pv 4) (fun _ _ => rfl)))
        (pss_one (ps_dput hu (pe_fldC t.clV t.v_own_friends (pv 0)) (pv 4) (pe_lc (own := [("friend", 9)]) (g := gName 9) rfl sc_Village_init.nd (pi_sq (pe_fldC t.clV t.v_names (pv 0))) (blkOk_by (N := ["self", "people", "ties", "news", "name", "one", "other", "rank", "friends", "friend"]) (sc := defScope s_Village_init) (by decide +kernel))
          (fun _ _ _ _ _ => pg_name (i := 9) sc_Village_init.nd rfl (Or.inl rfl)) (fun _ _ _ _ _ => pts_one (pt_cmpR op_inSv (pv 9) (pv 8) (by rfl))) (fun _ _ _ _ _ => pv 9)) rfl)))))))))), ?_⟩
    have gone : ∀ {G' H' : Hp}, Step e.T (fun b => b = x) G H G' H' → G' x = none := fun st => st.hidden hx gx
    have nins : ∀ {fs : List (Str × V)} φ, HO.ins e.CV dx fs ≠ .ext φ := fun _ h => nomatch h
    have nlst : ∀ {xs : List V} φ, HO.lst xs ≠ .ext φ := fun _ h => nomatch h
    have ndk : ∀ {xs : List (Key × V)} φ, HO.dK xs ≠ .ext φ := fun _ h => nomatch h
    -- names, ties, news
    refine ⟨_, rfl, a, names, G, rfl, wd, ha, hne, nd, hnb, fun n G1 H1 st1 g1 => ⟨_, rfl, x, e.CV, dx, [], rfl, st1.own hx (fun z => z) noTbl_ins, t.clV, t.v_names, by show 0 < 1000; decide, ?_⟩⟩
    have a1 : Step e.T (fun b => b = x) G H G1 (upd H1 x (.ins e.CV dx [("names", .ref n)])) := st1.no.wrS rfl (gone st1.no) (st1.own hx (fun z => z) noTbl_ins) noTbl_ins nins
    refine ⟨_, rfl, x, dx, _, .ref n, rfl, upd_same, rfl, _, rfl, n, b, names, ties, tvs, G1, rfl, a1.wd, g1, hb.up (a1.up b), Paired.mapP hp fun v t ⟨p, h1, h2⟩ => ⟨p, h1, h2.up (a1.up p)⟩, tr, hl, fun tt G2 H2 ws st2 g2 P2 => ?_⟩
    have x2 : H2 x = some (.ins e.CV dx [("names", .ref n)]) := st2.own upd_same (fun z => z) noTbl_ins
    refine ⟨_, rfl, x, e.CV, dx, _, rfl, x2, t.clV, t.v_own_ties, by show 1 < 1000; decide, ?_⟩
    have a2 : Step e.T (fun b => b = x) G H G2 (upd H2 x (.ins e.CV dx [("names", .ref n), ("own_ties", .ref tt)])) := (a1.trans st2.no).wrS rfl (gone (a1.trans st2.no)) x2 noTbl_ins nins
    refine ⟨_, rfl, x, dx, _, .ref n, rfl, upd_same, rfl, _, rfl, n, c, names, ns, G2, rfl, a2.wd, st2.up _ _ g1, hc.up (a2.up c), hpos, hln, fun w G3 H3 st3 g3 => ?_⟩
    have x3 : H3 x = some (.ins e.CV dx [("names", .ref n), ("own_ties", .ref tt)]) := st3.own upd_same (fun z => z) noTbl_ins
    refine ⟨_, rfl, x, e.CV, dx, _, rfl, x3, t.clV, t.v_own_news, by show 2 < 1000; decide, ?_⟩
    have a3 : Step e.T (fun b => b = x) G H G3 (upd H3 x (.ins e.CV dx [("names", .ref n), ("own_ties", .ref tt), ("own_news", .ref w)])) := (a2.trans st3.no).wrS rfl (gone (a2.trans st3.no)) x3 noTbl_ins nins
    have hn3 : G3 n = some (.tup (sv names)) := st3.up _ _ (st2.up _ _ g1)
    have ht3 : G3 tt = some (.tup ws) := st3.up _ _ g2
    have P3 := P2.up st3.up
    clear st1 a1 st2 x2 a2 st3 x3 P2 g2
    show (_ : Prop)
    generalize hH4 : upd H3 x (.ins e.CV dx (putF "own_news" (.ref w) [("names", .ref n), ("own_ties", .ref tt)])) = H4
    have a4 : Step e.T (fun b => b = x) G H G3 H4 := by rw [← hH4]; exact a3
    have x4 : H4 x = some (.ins e.CV dx [("names", .ref n), ("own_ties", .ref tt), ("own_news", .ref w)]) := by rw [← hH4]; exact upd_same
    clear a3 hH4
    -- own_friends, empty
    refine ⟨_, rfl, x, dx, _, .ref n, rfl, x4, rfl, n, sv names, rfl, .inr (a4.wd.sub _ _ hn3), fun J wk f hf => ?_⟩
    have hf0 : H f = none := a4.free hf
    have gf : G3 f = none := a4.hidN hf
    have nfx : x ≠ f := ne_of_none x4 hf
    refine dc_it wk (fun i H5 => ∃ (kvs : List (Key × V)) (pf : Str → Addr), Step e.T (fun b => b = x) G H G3 H5 ∧ H5 x = H4 x ∧ H5 f = some (.dK kvs) ∧ Dic kvs (names.take i) (fun y v => v = .ref (pf y)) ∧ (∀ y ∈ names.take i, H5 (pf y) = some (.lst []) ∧ H (pf y) = none ∧ G3 (pf y) = none) ∧ ∀ y ∈ names.take i, ∀ z ∈ names.take i, pf y = pf z → y = z)
      ⟨[], fun _ => 0, a4.hid1 hf, upd_ne nfx, upd_same, .nil, (by simp), (by simp)⟩ (fun i H5 _ ⟨_, _, st, _⟩ => (sq_keep (.inr hn3) fun o q _ => st.wd.sub _ _ q).trans (sq_keep (.inr hn3) fun o q _ => a4.wd.sub _ _ q).symm) ?_ ?_
    · rintro i v H5 H6 hi ⟨kvs, pf, st, ex, ef, D, fr, inj⟩ ⟨rfl, hv⟩
      obtain ⟨y, hy, rfl⟩ := sv_get hv
      have ny : y ∉ names.take i := nodup_take nd hy
      refine ⟨rfl, yes_ ⟨_, rfl, by show 0 ≤ sizeLine; decide, fun p hp => ?_⟩⟩
      have hp0 : H p = none := st.free hp
      have npf : f ≠ p := ne_of_none ef hp
      have nxp : x ≠ p := ne_of_none (ex.trans x4) hp
      have old : ∀ z ∈ names.take i, pf z ≠ p := fun z hz => ne_of_none (fr z hz).1 hp
      have oldf : ∀ z ∈ names.take i, pf z ≠ f := fun z hz q => by
        have := (fr z hz).1
        rw [q, ef] at this
        cases this
      have zy : ∀ z ∈ names.take i, z ≠ y := fun z hz q => ny (q ▸ hz)
      refine ⟨kvs, Sum.inr y, rfl, (upd_ne npf).trans ef, by rw [D.len, List.length_take]; exact hundred (by omega), _, put pf y p, ((st.hid1 (o := .lst []) hp).wr hf0 gf ((upd_ne npf).trans ef) noTbl_dK ndk), ((upd_ne nfx).trans (upd_ne nxp)).trans ex, upd_same, ?_, ?_, ?_⟩
      · rw [take_snoc hy]
        exact (D.mono fun z u hz hu => by rw [put_ne (zy z hz)]; exact hu).put_new ny (by rw [put_at])
      · rw [take_snoc hy]
        intro z hz
        rcases List.mem_append.mp hz with hz | hz
        · rw [put_ne (zy z hz)]
          exact ⟨((upd_ne (oldf z hz)).trans (upd_ne (old z hz))).trans (fr z hz).1, (fr z hz).2⟩
        · rw [List.mem_singleton.mp hz, put_at]
          exact ⟨(upd_ne npf.symm).trans upd_same, hp0, st.hidN hp⟩
      · rw [take_snoc hy]
        intro z hz z' hz' q
        rcases List.mem_append.mp hz with hz | hz <;> rcases List.mem_append.mp hz' with hz' | hz'
        · rw [put_ne (zy z hz), put_ne (zy z' hz')] at q
          exact inj z hz z' hz' q
        · rw [put_ne (zy z hz), List.mem_singleton.mp hz', put_at] at q
          exact absurd q (old z hz)
        · rw [put_ne (zy z' hz'), List.mem_singleton.mp hz, put_at] at q
          exact absurd q.symm (old z' hz')
        · rw [List.mem_singleton.mp hz, List.mem_singleton.mp hz']
    rintro H5 ⟨fvs, pf, st5, ex5, ef5, D5, fr5, inj⟩
    rw [List.length_map, List.take_length] at D5 fr5 inj
    have x5 := ex5.trans x4
    refine ⟨_, rfl, x, e.CV, dx, _, rfl, x5, t.clV, t.v_own_friends, by show 3 < 1000; decide, ?_⟩
    show (_ : Prop)
    generalize hH6 : upd H5 x (.ins e.CV dx (putF "own_friends" (.ref f) [("names", .ref n), ("own_ties", .ref tt), ("own_news", .ref w)])) = H6
    have st6 : Step e.T (fun b => b = x) G H G3 H6 := by rw [← hH6]; exact st5.wrS rfl (gone st5) x5 noTbl_ins nins
    have x6 : H6 x = some (.ins e.CV dx [("names", .ref n), ("own_ties", .ref tt), ("own_news", .ref w), ("own_friends", .ref f)]) := by rw [← hH6]; exact upd_same
    have ef6 : H6 f = some (.dK fvs) := by rw [← hH6]; exact (upd_ne nfx.symm).trans ef5
    have fr6 : ∀ y ∈ names, H6 (pf y) = some (.lst []) := fun y hy => by
      rw [← hH6]
      refine (upd_ne fun z => ?_).trans (fr5 y hy).1
      have := (fr5 y hy).1
      rw [z, x5] at this
      cases this
    have pfx : ∀ y ∈ names, pf y ≠ x := fun y hy z => by
      have := fr6 y hy
      rw [z, x6] at this
      cases this
    have pff : ∀ y ∈ names, pf y ≠ f := fun y hy z => by
      have := fr6 y hy
      rw [z, ef6] at this
      cases this
    clear hH6 st5 ex5 ef5 x5 x4 a4
    have lt : ws.length = ties.length := Paired.len P3
    -- the ties
    refine ⟨_, rfl, x, dx, _, .ref tt, rfl, x6, rfl, tt, ws, rfl, .inr (st6.wd.sub _ _ ht3), fun J wk => for_it wk (fun i σ H7 => ∃ (v4 v5 v6 v7 v8 v9 : Option V) (L : Str → List Str), σ = [some (.ref x), some (.ref a), some (.ref b), some (.ref c), v4, v5, v6, v7, v8, v9] ∧ Step e.T (fun b => b = x) G H G3 H7 ∧ H7 x = H6 x ∧ H7 f = H6 f ∧
        ∀ y ∈ names, H7 (pf y) = some (.lst (sv (L y))) ∧ (∀ z, z ∈ L y ↔ adj (ties.take i) z y) ∧ (L y).length ≤ i)
      ⟨_, _, _, _, _, _, fun _ => [], rfl, st6, rfl, rfl, fun y hy => ⟨fr6 y hy, fun z => by simp [adj], Nat.le_refl _⟩⟩ (fun i σ H7 _ ⟨_, _, _, _, _, _, _, _, st, _⟩ => (sq_keep (.inr ht3) fun o q _ => st.wd.sub _ _ q).trans (sq_keep (.inr ht3) fun o q _ => st6.wd.sub _ _ q).symm) ?_ ?_⟩
    · rintro i v σ H7 H8 hi ⟨v4, v5, v6, v7, v8, v9, L, rfl, st, ex, ef, fr⟩ ⟨rfl, hv⟩
      obtain ⟨tie, htie, p, rfl, hq⟩ := Paired.getL P3 hv
      obtain ⟨m1, m2, m3⟩ := tr.ends tie (List.mem_of_getElem? htie)
      have hi100 : i < 100 := by omega
      refine ⟨p, _, rfl, SqT.of (st.wd.sub _ _ hq), rfl, _, _, rfl, _, _, rfl, rfl, ?_⟩
      have g1 : DGet H8 f (.str tie.1) (some (.ref (pf tie.1))) := by
        obtain ⟨u, g, rfl⟩ := D5.get m1
        rw [← g]
        exact DGet.k (k := Sum.inr tie.1) (ef.trans ef6)
      obtain ⟨f1, f2, f3⟩ := fr _ m1
      refine ⟨_, rfl, x, dx, _, _, rfl, ex.trans x6, rfl, _, rfl, f, _, rfl, g1, .inl ⟨rfl, _, SqL.of f1⟩, _, rfl, pf tie.1, _, _, rfl, rfl, f1, hundred (by rw [List.length_map]; omega), ?_⟩
      generalize hH9 : upd H8 (pf tie.1) (.lst (sv (L tie.1) ++ [.str tie.2])) = H9
      have st9 : Step e.T (fun b => b = x) G H G3 H9 := by rw [← hH9]; exact st.wr (fr5 _ m1).2.1 (fr5 _ m1).2.2 f1 noTbl_lst nlst
      have x9 : H9 x = H6 x := by rw [← hH9]; exact (upd_ne (pfx _ m1).symm).trans ex
      have f9 : H9 f = H6 f := by rw [← hH9]; exact (upd_ne (pff _ m1).symm).trans ef
      have g2 : DGet H9 f (.str tie.2) (some (.ref (pf tie.2))) := by
        obtain ⟨u, g, rfl⟩ := D5.get m2
        rw [← g]
        exact DGet.k (k := Sum.inr tie.2) (f9.trans ef6)
      obtain ⟨k1, k2, k3⟩ := fr _ m2
      have n12 : pf tie.2 ≠ pf tie.1 := fun q => m3 (inj _ m2 _ m1 q).symm
      have k9 : H9 (pf tie.2) = some (.lst (sv (L tie.2))) := by rw [← hH9]; exact (upd_ne n12).trans k1
      refine ⟨_, rfl, x, dx, _, _, rfl, x9.trans x6, rfl, _, rfl, f, _, rfl, g2, .inl ⟨rfl, _, SqL.of k9⟩, _, rfl, pf tie.2, _, _, rfl, rfl, k9, hundred (by rw [List.length_map]; omega), ?_⟩
      obtain ⟨L', hL'⟩ : ∃ L' : Str → List Str, ∀ y, L' y = if y = tie.1 then L y ++ [tie.2] else if y = tie.2 then L y ++ [tie.1] else L y := ⟨_, fun _ => rfl⟩
      refine ⟨_, _, _, _, _, _, L', rfl, st9.wr (fr5 _ m2).2.1 (fr5 _ m2).2.2 k9 noTbl_lst nlst, (upd_ne (pfx _ m2).symm).trans x9, (upd_ne (pff _ m2).symm).trans f9, fun y hy => ?_⟩
      obtain ⟨q1, q2, q3⟩ := fr y hy
      rw [take_snoc htie, hL']
      by_cases e1 : y = tie.1
      · rw [if_pos e1]
        refine ⟨?_, fun z => ?_, by rw [List.length_append]; simp; omega⟩
        · rw [e1, ← hH9]
          refine (upd_ne n12.symm).trans (upd_same.trans ?_)
          simp [sv]
        · rw [adj_snoc, ← q2 z, List.mem_append, List.mem_singleton, e1]
          constructor
          · rintro (h | h)
            · exact .inl h
            · exact .inr (.inr (by rw [h]))
          · rintro (h | h | h)
            · exact .inl h
            · exact absurd (congrArg Prod.snd h) (fun q => m3 q)
            · exact .inr (congrArg Prod.snd h)
      · rw [if_neg e1]
        by_cases e2 : y = tie.2
        · rw [if_pos e2]
          refine ⟨?_, fun z => ?_, by rw [List.length_append]; simp; omega⟩
          · rw [e2]
            refine upd_same.trans ?_
            simp [sv]
          · rw [adj_snoc, ← q2 z, List.mem_append, List.mem_singleton, e2]
            constructor
            · rintro (h | h)
              · exact .inl h
              · exact .inr (.inl (by rw [h]))
            · rintro (h | h | h)
              · exact .inl h
              · exact .inr (congrArg Prod.fst h)
              · exact absurd (congrArg Prod.fst h) (fun q => m3 q.symm)
        · rw [if_neg e2]
          refine ⟨?_, fun z => ?_, by omega⟩
          · rw [← hH9]
            exact ((upd_ne (fun q => e2 (inj _ hy _ m2 q))).trans (upd_ne (fun q => e1 (inj _ hy _ m1 q)))).trans q1
          · rw [adj_snoc, ← q2 z]
            constructor
            · intro h; exact .inl h
            · rintro (h | h | h)
              · exact h
              · exact absurd (congrArg Prod.snd h) e2
              · exact absurd (congrArg Prod.fst h) e1
    rintro σ H7 ⟨v4, v5, v6, v7, v8, v9, L, rfl, st7, ex7, ef7, fr7⟩
    rw [lt, List.take_length] at fr7
    have x7 := ex7.trans x6
    -- ranks
    refine ⟨_, rfl, x, dx, _, .ref n, rfl, x7, rfl, n, sv names, rfl, .inr (st7.wd.sub _ _ hn3), fun J wk r hr7 => ?_⟩
    have hr0 : H r = none := st7.free hr7
    have gr : G3 r = none := st7.hidN hr7
    refine dc_it wk (fun i H8 => Same H7 H8 ∧ ∃ kvs, H8 r = some (.dK kvs) ∧ Dic kvs (names.take i) (fun y v => v = .int (names.idxOf y : Nat))) ⟨same_new hr7, [], upd_same, .nil⟩ (fun i H8 _ ⟨s8, _⟩ => sq_keep (.inr (st7.wd.sub _ _ hn3)) fun o q _ => s8 _ _ q) ?_ ?_
    · rintro i v H8 H9 hi ⟨s8, kvs, er, Dr⟩ ⟨T, u1, u2, rfl, hT, rfl, hu1, hu2⟩
      cases hu1
      obtain ⟨y, hy, rfl⟩ := sv_get hu2
      refine ⟨T, _, rfl, SqT.of upd_same, rfl, _, _, rfl, _, _, rfl, rfl, rfl, yes_ ⟨_, rfl, _, rfl, kvs, Sum.inr y, rfl, (upd_ne (ne_of_none er hT)).trans er, by rw [Dr.len, List.length_take]; exact hundred (by omega), fun c o q => (upd_ne (ne_of_none q hr7)).trans ((same_new hT) _ _ (s8 c o q)), _, upd_same, ?_⟩⟩
      rw [take_snoc hy]
      exact Dr.put_new (nodup_take nd hy) (by rw [idx_nodup nd hy])
    rintro H8 ⟨s8, rvs, er8, Dr⟩
    rw [List.length_map, List.take_length] at Dr
    have x8 := s8 _ _ x7
    refine ⟨_, rfl, x, e.CV, dx, _, rfl, x8, t.clV, t.v_ranks, by show 4 < 1000; decide, ?_⟩
    show (_ : Prop)
    generalize hH9 : upd H8 x (.ins e.CV dx (putF "ranks" (.ref r) [("names", .ref n), ("own_ties", .ref tt), ("own_news", .ref w), ("own_friends", .ref f)])) = H9
    have st9 : Step e.T (fun b => b = x) G H G3 H9 := by rw [← hH9]; exact (st7.trans (Step.same st7.wd s8)).wrS rfl (gone st7) x8 noTbl_ins nins
    have x9 : H9 x = some (.ins e.CV dx (vfs n tt w f r)) := by rw [← hH9]; exact upd_same
    have nrx : r ≠ x := fun z => by rw [z, x8] at er8; cases er8
    have ef9 : H9 f = some (.dK fvs) := by rw [← hH9]; exact (upd_ne nfx.symm).trans (s8 _ _ (ef7.trans ef6))
    have er9 : H9 r = some (.dK rvs) := by rw [← hH9]; exact (upd_ne nrx).trans er8
    have fr9 : ∀ y ∈ names, H9 (pf y) = some (.lst (sv (L y))) := fun y hy => by rw [← hH9]; exact (upd_ne (pfx y hy)).trans (s8 _ _ (fr7 y hy).1)
    have nrf : r ≠ f := ne_of_none (ef7.trans ef6) hr7 |>.symm
    have prf : ∀ y ∈ names, pf y ≠ r := fun y hy => ne_of_none (fr7 y hy).1 hr7
    clear hH9 x8 er8 s8 x7 ex7 ef7 st7 x6 ef6 fr6
    -- the friends in the names' order
    refine ⟨_, rfl, x, dx, _, .ref n, rfl, x9, rfl, n, sv names, rfl, .inr (st9.wd.sub _ _ hn3), fun J wk => for_it wk (fun i σ Ha => ∃ (v4 v5 v6 v7 v8 v9 : Option V) (Ga : Hp) (kvs : List (Key × V)), σ = [some (.ref x), some (.ref a), some (.ref b), some (.ref c), v4, v5, v6, v7, v8, v9] ∧ Step e.T (fun b => b = x) G H Ga Ha ∧ (∀ b o, G3 b = some o → Ga b = some o) ∧ Ga f = none ∧ Ga r = none ∧ Ha x = H9 x ∧ Ha r = H9 r ∧ Ha f = some (.dK kvs) ∧
        Dic kvs names (fun y v => (y ∈ names.take i → ListAt Ga (frn names ties y) v) ∧ (y ∉ names.take i → v = .ref (pf y))) ∧ ∀ y ∈ names, Ha (pf y) = some (.lst (sv (L y))))
      ⟨_, _, _, _, _, _, G3, fvs, rfl, st9, fun _ _ h => h, gf, gr, rfl, rfl, ef9, D5.mono fun y v _ hv => ⟨fun z => absurd z (by simp), fun _ => hv⟩, fr9⟩ (fun i σ Ha _ ⟨_, _, _, _, _, _, Ga, _, _, st, up, _⟩ => (sq_keep (.inr hn3) fun o q _ => st.wd.sub _ _ (up _ _ q)).trans (sq_keep (.inr hn3) fun o q _ => st9.wd.sub _ _ q).symm) ?_ ?_⟩
    · rintro i v σ Ha Hb hi ⟨v4, v5, v6, v7, v8, v9, Ga, kvs, rfl, st, up, gf, gr, exa, era, efa, Da, fra⟩ ⟨rfl, hv⟩
      obtain ⟨y, hy, rfl⟩ := sv_get hv
      have my := List.mem_of_getElem? hy
      have ny : y ∉ names.take i := nodup_take nd hy
      have gy : DGet Hb f (.str y) (some (.ref (pf y))) := by
        obtain ⟨u, g, hu⟩ := Da.get my
        rw [hu.2 ny] at g
        rw [← g]
        exact DGet.k (k := Sum.inr y) efa
      refine ⟨_, rfl, x, dx, _, _, rfl, exa.trans x9, rfl, _, rfl, f, _, rfl, gy, ?_⟩
      refine ⟨_, rfl, x, dx, _, .ref n, rfl, exa.trans x9, rfl, n, sv names, rfl, .inr (st.wd.sub _ _ (up _ _ hn3)), fun J2 wk2 D hD => ?_⟩
      refine lc_it wk2 (fun j Hc => Same Hb Hc ∧ Hc D = some (.lst (sv ((names.take j).filter fun z => decide (z ∈ L y))))) ⟨same_new hD, upd_same⟩ (fun j Hc _ ⟨sc, _⟩ => sq_keep (.inr (st.wd.sub _ _ (up _ _ hn3))) fun o q _ => sc _ _ q) ?_ ?_
      · rintro j v Hc Hd hj ⟨sc, ec⟩ ⟨rfl, hv⟩
        obtain ⟨z, hz, rfl⟩ := sv_get hv
        refine ⟨rfl, _, rfl, _, rfl, z, pf y, L y, rfl, rfl, .inl (sc _ _ (fra y my)), _, rfl, ?_⟩
        have el : ((names.take (j + 1)).filter fun z => decide (z ∈ L y)) = ((names.take j).filter fun z => decide (z ∈ L y)) ++ (if z ∈ L y then [z] else []) := by
          rw [take_snoc hz, List.filter_append]
          by_cases q : z ∈ L y <;> simp [q]
        by_cases q : z ∈ L y
        · rw [decide_eq_true q]
          refine iteT ⟨_, rfl, _, ec, ?_, fun c o h => (upd_ne (ne_of_none h hD)).trans (sc c o h), ?_⟩
          · rw [List.length_map]
            refine hundred (Nat.le_trans (List.length_filter_le _ _) ?_)
            rw [List.length_take]
            omega
          · rw [upd_same, el, if_pos q]
            simp [sv]
        · rw [decide_eq_false q]
          refine iteF ⟨sc, ?_⟩
          rw [ec, el, if_neg q, List.append_nil]
      · rintro Hc ⟨sc, ec⟩
        rw [List.length_map, List.take_length] at ec
        have efr : (names.filter fun z => decide (z ∈ L y)) = frn names ties y := by
          unfold frn
          refine List.filter_congr fun z _ => ?_
          have := (fr7 y my).2.1 z
          by_cases q : z ∈ L y
          · rw [decide_eq_true q, decide_eq_true (this.mp q)]
          · rw [decide_eq_false q, decide_eq_false (fun w => q (this.mpr w))]
        rw [efr] at ec
        have st2 : Step e.T (fun b => b = x) G H (upd Ga D (.lst (sv (frn names ties y)))) Hc := (st.trans (Step.same st.wd sc)).show (st.free hD) ec noTbl_lst fun u q => by rw [st.hidN hD] at q; cases q
        have efc : Hc f = some (.dK kvs) := sc _ _ efa
        have nfD : f ≠ D := ne_of_none efa hD
        have nrD : r ≠ D := ne_of_none (era.trans er9) hD
        have gf2 : upd Ga D (.lst (sv (frn names ties y))) f = none := (upd_ne nfD).trans gf
        refine ⟨_, rfl, x, dx, _, .ref f, rfl, sc _ _ (exa.trans x9), rfl, _, rfl, f, _, rfl, DPut.k (k := Sum.inr y) efc (by rw [Da.len]; exact hundred hl), ?_⟩
        refine ⟨_, _, _, _, _, _, upd Ga D (.lst (sv (frn names ties y))), _, rfl, st2.wr hf0 gf2 efc noTbl_dK ndk, fun c o h => ?_, gf2, (upd_ne nrD).trans gr, ?_, ?_, upd_same, ?_, fun z hz => ?_⟩
        · exact (upd_ne (ne_of_none (up c o h) (st.hidN hD))).trans (up c o h)
        · exact (upd_ne nfx).trans ((sc _ _ (exa.trans x9)).trans x9.symm)
        · exact (upd_ne nrf).trans ((sc _ _ (era.trans er9)).trans er9.symm)
        · refine Da.put_old my ⟨fun _ => ⟨D, rfl, upd_same⟩, fun q => absurd (by rw [take_snoc hy]; simp) q⟩ fun z u hz hzy ⟨h1, h2⟩ => ⟨fun q => ?_, fun q => h2 fun w => q (by rw [take_snoc hy]; simp [w])⟩
          rw [take_snoc hy] at q
          rcases List.mem_append.mp q with q | q
          · exact (h1 q).up fun c o h => (upd_ne (ne_of_none h (st.hidN hD))).trans h
          · exact absurd (List.mem_singleton.mp q) hzy
        · exact (upd_ne (pff z hz)).trans (sc _ _ (fra z hz))
    · rintro σ Ha ⟨v4, v5, v6, v7, v8, v9, Ga, kvs, rfl, st, up, gf, gr, exa, era, efa, Da, fra⟩
      rw [List.length_map, List.take_length] at Da
      have st1 := st.show hf0 efa noTbl_dK fun u q => by rw [gf] at q; cases q
      have gr1 : upd Ga f (.dK kvs) r = none := (upd_ne nrf).trans gr
      have st2 := st1.show hr0 (era.trans er9) noTbl_dK fun u q => by rw [gr1] at q; cases q
      have up1 : ∀ c o, Ga c = some o → upd (upd Ga f (.dK kvs)) r (.dK rvs) c = some o := fun c o h => (upd_ne (ne_of_none h gr)).trans ((upd_ne (ne_of_none h gf)).trans h)
      refine k _ Ha n tt w f r st2 (exa.trans x9) ⟨up1 _ _ (up _ _ hn3), ⟨ws, up1 _ _ (up _ _ ht3), P3.up fun c o h => up1 _ _ (up _ _ h)⟩, up1 _ _ (up _ _ g3), ⟨kvs, (upd_ne nrf.symm).trans upd_same, Da.mono fun y v hy hv => (hv.1 hy).up up1⟩, ⟨rvs, upd_same, Dr⟩⟩
end
end K12

set_option maxHeartbeats 4000000
namespace K12
open PySem PySem.Spec PyProof.Rows L2 LamX NdefX
/-- grown, but for the tables -/
structure Gw (T : List (Addr × Str)) (H H' : Hp) : Prop where
  ext : ExtN H H'
  dom : ∀ b, H' b = none → H b = none
  tabs : Tabs T H'
theorem Gw.trans {T : List (Addr × Str)} {H H1 H2 : Hp} (a : Gw T H H1) (b : Gw T H1 H2) : Gw T H H2 := ⟨a.ext.trans b.ext, fun c h => a.dom c (b.dom c h), b.tabs⟩
theorem Gw.of_same {T : List (Addr × Str)} {H H1 : Hp} (t : Tabs T H) (s : Same H H1) : Gw T H H1 := ⟨ExtN.of s, fun b h => s.free h, t.ext s⟩
theorem Gw.step {T : List (Addr × Str)} {G H H1 : Hp} {S : Addr → Prop} (w : Wd T G H) (g : Gw T H H1) : Step T S G H G H1 :=
  ⟨⟨fun b o h => g.ext b o (w.sub b o h) (w.ntb b o h), w.ntb, g.tabs⟩, fun _ _ h => h, fun _ _ h => h, fun b o h _ n => g.ext b o h n, fun b h q => h (g.dom b q)⟩
/-- sorted(l, key=lambda x0: ..) -/
def tSortLam (T : List (Addr × Str)) (N : List Str) (js : List Nat) (tl tb : TE) : TE := fun σ H Q => tl σ H fun x H1 => ∃ a xs, x = .ref a ∧ Sq H1 a xs ∧ Tabs T H1 ∧ ∃ key : V → List Int, (∀ x ∈ xs, ∃ y r, key x = y :: r) ∧
  (∀ (x : V) (H' : Hp), x ∈ xs → Gw T H1 H' → tb (startF N [x] (js.map (slotAt σ))) H' fun v H2 => ∃ t, H' t = none ∧ v = .ref t ∧ H2 = upd H' t (.tup ((key x).map V.int))) ∧
  ∀ (H' : Hp) (ys : List V) (p : Addr), Gw T H1 H' → ys.Perm xs → ys.Pairwise (fun x y => (key x).headD 0 ≤ (key y).headD 0) → H' p = none → Q (.ref p) (upd H' p (.lst ys))
theorem pe_sortLam {X : Cx} {T : List (Addr × Str)} {c P : Addr} {l : Expr} {tl tb : TE} {params : Arguments} {body : Expr} {scope : Scope} {p lpos kpos pos : Pos} {N fr : List Str} {js : List Nat} {x0 : Str} (hr : Room 3 X.A) (TB : TabB X.base X.mg c P) (hcode : X.env.code = .ref c) (hm : (P, X.env.qual ++ "<lambda>") ∈ T) (hu : ∀ p ∈ T, p.1 = P → p.2 = X.env.qual ++ "<lambda>")
    (hg : Gl X "sorted") (hmg : X.mg "sorted" = none) (hl : PE X l tl) (S : NScope N [x0] fr scope) (hfr : ∀ y ∈ fr, (y, NameKind.free) ∈ scope.names) (hfree : ∀ y ∈ scope.names, y.2 = .free → X.env.scope.names.lookup y.1 = some .cell ∨ X.env.scope.names.lookup y.1 = some .free) (hjs : js.map (fun j => X.N[j]?) = fr.map some)
    (hb : ∀ (q : Str) (cl : List (Str × Addr)) (c' : Addr) (pm ctv u : Value), bindArgs ((⟨q, params, body, scope, cl, c'⟩ : LF).fd pm ctv) ⟨[u], []⟩ = pure [(x0, u)])
    (hbody : ∀ (q : Str) (cl : List (Str × Addr)) (A : Around) (outer : List Env) (s : Shared) (H : Hp) (f c' : Addr), Room 0 (A.deeper (envF (⟨q, params, body, scope, cl, c'⟩ : LF).nf f s.heap.objs.size)) → PE (ncx CX0 X.prog X.w X.K X.mg X.base N (⟨q, params, body, scope, cl, c'⟩ : LF).nf f A outer s H E0) body tb)
    (hdef : defaultsOf params X.env = ([], []) := by rfl)
    (he : backTo pos (starEach [l] X.env) = (false, eval l X.env) :: backTo pos (starEach [] X.env) := by rfl) (hpl : (backTo pos (starEach [l] X.env)).any (·.1) = false := by rfl) (hs : starEach [l] X.env = (false, eval l X.env) :: starEach [] X.env := by rfl) :
    PE X (.Call (.Name "sorted" p) [l] [⟨some "key", .Lambda params body scope lpos, kpos⟩] pos) (tSortLam T N js tl tb) := by
  refine ⟨fun pins s σ H Q I h => ?_⟩
  refine (pe_callBKS (cr_sortLam (mk := fun c' => ⟨X.env.qual ++ "<lambda>", params, body, scope, cloFrom X.env.cells scope.names [], c'⟩) (N := N) (js := js) (tb := tb) (fun _ => rfl) (fun _ => rfl) (fun _ => rfl) hr S (fun c' pm ctv u => hb _ _ c' pm ctv u) (fun ok => Caps.made ok hfree hfr hjs)
    (fun A outer s H f c' hr0 => hbody _ _ A outer s H f c' hr0)) hg hmg bt_sorted (pa_cons (pe_weak hl) pa_nil hs) (pk_cons (pe_lamV TB hcode hm hu hdef hfree) pk_nil) (by decide) (by decide) he hpl).run pins s σ H Q I ?_
  refine ⟨_, h, fun x H1 ⟨a, xs, ex, hq, tabs, key, hkey, hturn, q⟩ => ?_⟩
  subst ex
  refine ⟨tabs, fun f c' H2 g hf hc => ?_⟩
  have gw : Gw T H1 H2 := ⟨g.ext, g.back, g.tabs⟩
  have hq2 : Sq H2 a xs := hq.elim (fun h => .inl (g.ext _ _ h noTbl_lst)) fun h => .inr (g.ext _ _ h noTbl_tup)
  refine ⟨a, f, c', xs, key, rfl, rfl, hq2.seq, hf, hc, hkey, fun x H' hx mo => hturn x H' hx (gw.trans (Gw.of_same g.tabs mo.1)), fun H' ys p mo p1 p2 hn => q H' ys p (gw.trans (Gw.of_same g.tabs mo.1)) p1 p2 hn⟩
end K12

set_option maxHeartbeats 4000000
namespace K12
open PySem PySem.Spec PyProof.Rows L2 LamX NdefX
/-- a dict of numbers, its keys in any order -/
def NumP (H : Hp) (d : Addr) (names : List Str) (num : Str → Int) : Prop := ∃ kvs perm, H d = some (.dK kvs) ∧ perm.Perm names ∧ Dic kvs perm (fun y v => v = .int (num y))
theorem NumP.up {G G' : Hp} {d : Addr} {names : List Str} {f : Str → Int} (h : NumP G d names f) (e : ∀ b o, G b = some o → G' b = some o) : NumP G' d names f := by
  obtain ⟨kvs, perm, h1, h2, h3⟩ := h
  exact ⟨kvs, perm, e _ _ h1, h2, h3⟩
theorem NumP.get {H : Hp} {d : Addr} {names : List Str} {f : Str → Int} (h : NumP H d names f) {x : Str} (hx : x ∈ names) : DGet H d (.str x) (some (.int (f x))) := by
  obtain ⟨kvs, perm, h1, h2, h3⟩ := h
  obtain ⟨u, g, rfl⟩ := h3.get (h2.mem_iff.mpr hx)
  rw [← g]
  exact DGet.k (k := Sum.inr x) h1
section
variable {e : Ev}
theorem ok_check_village (t : Tx e) : Ok e 1 "check_village" ["thing"] (fun vs H Q _ => ∃ x dx fs, vs = [.ref x] ∧ H x = some (.ins e.CV dx fs) ∧ Q .non H) := by
  refine t.f_check_village.ok sc_check_village (fun vs H Q E h => ?_) (fun cdv A outer s H vs Q E _ hr h => ?_)
  · obtain ⟨x, dx, fs, rfl, _⟩ := h; rfl
  · obtain ⟨x, dx, fs, rfl, hx, k⟩ := h
    refine ⟨_, pss_one (ps_if (pt_not (pt_val (pe_callB (C8.call_isC t.insV) (by rfl) t.n_isinstance bt_isinstance (pa_cons (pv 0) (pa_cons (pe_glob (v := .ref e.CV) (by rfl) t.mgV rfl) pa_nil))))) (pss_one ps_never) pss_nil), ?_⟩
    exact ⟨_, rfl, x, dx, fs, rfl, hx, true, rfl, iteF k⟩
theorem ok_are_numbers (t : Tx e) : Ok e 3 "are_numbers" ["village", "thing"] (fun vs H Q _ => ∃ x d names ties ns num, vs = [.ref x, .ref d] ∧ VAt e.CV H x names ties ns ∧ names.length ≤ 100 ∧ NumP H d names num ∧ (∀ y ∈ names, 0 ≤ num y) ∧ ∀ H', Same H H' → Q (.bl true) H') := by
  refine t.f_are_numbers.ok sc_are_numbers (fun vs H Q E h => ?_) (fun cdv A outer s H vs Q E _ hr h => ?_)
  · obtain ⟨x, d, names, ties, ns, num, rfl, _⟩ := h; rfl
  · obtain ⟨x, d, names, ties, ns, num, rfl, hv, hl, hd, hnum, k⟩ := h
    have hu := hu_of hr
    obtain ⟨dx, n, tt, w, f, r, hx, P⟩ := hv.parts
    obtain ⟨kvs, perm, hd1, hd2, hd3⟩ := id hd
    refine ⟨_, pss_cons (ps_if (PW.pt (pw_or (pt_not (pt_val (pe_isTy (by rfl) t.n_isinstance (by rfl) t.n_dict bt_dict (pv 1) (by decide)))) (pw_or1 (pt_cmpR op_ne (pe_callB call_lenD (by rfl) t.n_len bt_len (pa_cons (pv 1) pa_nil)) (pe_callB call_lenSq (by rfl) t.n_len bt_len (pa_cons (pe_fldC t.clV t.v_names (pv 0)) pa_nil)) (nomark _))))) (pss_one (ps_ret pe_bl)) pss_nil)
      (pss_one (ps_ret (pe_callB (cr_all rfl) (by rfl) t.n_all bt_all (pa_cons (pe_lc (own := [("name", 2)]) (g := gName 2) (tt := tYes) rfl sc_are_numbers.nd (pi_sq (pe_fldC t.clV t.v_names (pv 0))) (blkOk_by (N := ["village", "thing", "name"]) (sc := defScope s_are_numbers) (by decide +kernel))
        (fun _ _ _ _ _ => pg_name (i := 2) sc_are_numbers.nd rfl (Or.inl rfl)) (fun _ _ _ _ _ => pts_nil)
        (fun _ _ _ _ _ => pe_and (pe_cmp (pc_din hu (pv 2) (pv 1))) (pe_one (pe_call (ok_is_number t) hr (by rfl) t.f_is_number.mg t.f_is_number.kp t.f_is_number.b .nil pass0 (pa_cons (pe_dget hu (pv 1) (pv 2) (fun _ _ => rfl)) pa_nil))))) pa_nil)))), ?_⟩
    refine ⟨_, rfl, "dict", .dK hd1, fun H2 s2 => ⟨true, rfl, iteF ?_⟩⟩
    have e1 : V.int (kvs.length : Int) = V.int ((sv names).length : Int) := by rw [hd3.len, hd2.length_eq, List.length_map]
    refine ⟨_, rfl, d, kvs, rfl, s2 _ _ hd1, _, rfl, x, dx, _, .ref n, rfl, s2 _ _ hx, rfl, n, _, rfl, .inr (s2 _ _ P.hn), rfl, _, rfl, iteNS e1 ?_⟩
    have hn2 : Sq H2 n (sv names) := .inr (s2 _ _ P.hn)
    refine ⟨_, rfl, x, dx, _, .ref n, rfl, s2 _ _ hx, rfl, n, _, rfl, hn2, fun J wk D hD => ?_⟩
    refine lc_it wk (fun i H3 => Same H2 H3 ∧ H3 D = some (.lst ((List.replicate i true).map V.bl))) ⟨same_new hD, upd_same⟩ (fun i H3 _ ⟨s3, _⟩ => sq_keep hn2 fun o q _ => s3 _ _ q) ?_ ?_
    · rintro i v H3 H4 hi ⟨s3, d3⟩ ⟨rfl, hv⟩
      obtain ⟨y, hy, rfl⟩ := sv_get hv
      have my := List.mem_of_getElem? hy
      have g := (hd.up (s2.trans s3)).get my
      refine ⟨rfl, yes_ ⟨_, rfl, _, rfl, d, _, rfl, g, true, rfl, iteT ⟨_, rfl, _, rfl, d, _, rfl, g, num y, rfl, fun H5 s5 => ?_⟩⟩⟩
      rw [decide_eq_true (hnum y my)]
      refine ⟨_, s5 _ _ d3, ?_, fun b o q => (upd_ne (ne_of_none q hD)).trans (s5 _ _ (s3 b o q)), ?_⟩
      · rw [List.length_map, List.length_replicate]
        have : i < (sv names).length := hi
        rw [List.length_map] at this
        exact hundred (by omega)
      · rw [upd_same, List.replicate_succ', List.map_append]
        rfl
    · rintro H3 ⟨s3, d3⟩
      refine ⟨D, _, rfl, SqL.of d3, ?_⟩
      have e2 : ((List.replicate (sv names).length true).all id) = true := by
        rw [List.all_replicate]
        simp
      rw [e2]
      exact k H3 (s2.trans s3)
theorem ok_check_ledger (t : Tx e) : Ok e 4 "check_ledger" ["village", "ledger"] (fun vs H Q _ => ∃ x d names ties ns num, vs = [.ref x, .ref d] ∧ VAt e.CV H x names ties ns ∧ names.length ≤ 100 ∧ NumP H d names num ∧ (∀ y ∈ names, 0 ≤ num y) ∧ ∀ H', Same H H' → Q .non H') := by
  refine t.f_check_ledger.ok sc_check_ledger (fun vs H Q E h => ?_) (fun cdv A outer s H vs Q E _ hr h => ?_)
  · obtain ⟨x, d, names, ties, ns, num, rfl, _⟩ := h; rfl
  · obtain ⟨x, d, names, ties, ns, num, rfl, hv, hl, hd, hnum, k⟩ := h
    obtain ⟨dx, n, tt, w, f, r, hx, P⟩ := hv.parts
    refine ⟨_, pss_cons (ps_expr (pe_call (ok_check_village t) (hr.mono (by decide)) (by rfl) t.f_check_village.mg t.f_check_village.kp t.f_check_village.b .nil pass0 (pa_cons (pv 0) pa_nil)))
      (pss_one (ps_if (pt_not (pt_val (pe_call (ok_are_numbers t) hr (by rfl) t.f_are_numbers.mg t.f_are_numbers.kp t.f_are_numbers.b .nil pass0 (pa_cons (pv 0) (pa_cons (pv 1) pa_nil))))) (pss_one ps_never) pss_nil)), ?_⟩
    exact ⟨_, rfl, x, dx, _, rfl, hx, _, rfl, _, rfl, x, d, names, ties, ns, num, rfl, hv, hl, hd, hnum, fun H' s' => ⟨true, rfl, iteF (k H' s')⟩⟩
end
end K12

set_option maxHeartbeats 4000000
namespace K12
open PySem PySem.Spec PyProof.Rows L2 LamX NdefX
/-- who has been seen, who waits -/
structure DInv (names : List Str) (ties : List (Str × Str)) (r : Str) (par : Str → Str) (vis wl : List Str) (pd : Str → Prop) : Prop where
  nd : vis.Nodup
  root : r ∈ vis
  sub : ∀ x ∈ vis, x ∈ names
  par_ : ∀ x ∈ vis, x ≠ r → par x ∈ vis
  wsub : ∀ x ∈ wl, x ∈ vis
  done : ∀ x ∈ vis, x ∉ wl → ¬ pd x → ∀ y ∈ frn names ties x, y ∈ vis
section
variable {names : List Str} {ties : List (Str × Str)} {r : Str} {par : Str → Str} {dep : Str → Nat} {vis wl : List Str} {here : Str}
theorem DInv.start (hr : r ∈ names) : DInv names ties r par [r] [r] (fun _ => False) := ⟨by simp, by simp, fun x hx => by rw [List.mem_singleton.mp hx]; exact hr, fun x hx h => absurd (List.mem_singleton.mp hx) h, fun x hx => hx, fun x hx h => absurd hx h⟩
theorem DInv.pop (I : DInv names ties r par vis (wl ++ [here]) (fun _ => False)) : DInv names ties r par vis wl (fun x => x = here) :=
  ⟨I.nd, I.root, I.sub, I.par_, fun x hx => I.wsub x (by simp [hx]), fun x hx h1 h2 => I.done x hx (by simp [h1, h2]) fun z => z⟩
theorem DInv.find (R : Rooted names (adj ties) r par dep) (I : DInv names ties r par vis wl (fun x => x = here)) (hh : here ∈ vis) {y : Str} (hy : y ∈ frn names ties here) (hn : y ∉ vis) :
    y ≠ r ∧ par y = here ∧ dep y = dep here + 1 ∧ DInv names ties r par (vis ++ [y]) (wl ++ [y]) (fun x => x = here) := by
  obtain ⟨y1, y2⟩ := mem_frn.mp hy
  rcases R.edge here (I.sub _ hh) y y1 (adj_comm y2) with z | z
  · exact absurd (z.2 ▸ I.par_ here hh z.1) hn
  · have d := (R.up y y1 z.1).2.2
    rw [z.2] at d
    refine ⟨z.1, z.2, d, ?_, by simp [I.root], fun x hx => ?_, fun x hx h => ?_, fun x hx => ?_, fun x hx h1 h2 w hw => ?_⟩
    · exact List.nodup_append.mpr ⟨I.nd, by simp, fun a ha b hb q => hn (by rw [← List.mem_singleton.mp hb, ← q]; exact ha)⟩
    · rcases List.mem_append.mp hx with hx | hx
      · exact I.sub x hx
      · rw [List.mem_singleton.mp hx]; exact y1
    · rcases List.mem_append.mp hx with hx | hx
      · simp [I.par_ x hx h]
      · rw [List.mem_singleton.mp hx, z.2]; simp [hh]
    · rcases List.mem_append.mp hx with hx | hx
      · simp [I.wsub x hx]
      · simp [List.mem_singleton.mp hx]
    · rcases List.mem_append.mp hx with hx | hx
      · have := I.done x hx (fun q => h1 (by simp [q])) h2 w hw
        simp [this]
      · exact absurd (by simp [List.mem_singleton.mp hx]) h1
theorem DInv.over (I : DInv names ties r par vis wl (fun x => x = here)) (h : ∀ y ∈ frn names ties here, y ∈ vis) : DInv names ties r par vis wl (fun _ => False) :=
  ⟨I.nd, I.root, I.sub, I.par_, I.wsub, fun x hx h1 _ => by
    by_cases q : x = here
    · rw [q]; exact h
    · exact I.done x hx h1 q⟩
theorem DInv.all (R : Rooted names (adj ties) r par dep) (I : DInv names ties r par vis [] (fun _ => False)) : ∀ x ∈ names, x ∈ vis := by
  have key : ∀ (n : Nat) (x : Str), dep x < n → x ∈ names → x ∈ vis := by
    intro n
    induction n with
    | zero => intro x h; omega
    | succ n ih =>
      intro x h hx
      by_cases q : x = r
      · rw [q]; exact I.root
      · obtain ⟨u1, u2, u3⟩ := R.up x hx q
        exact I.done (par x) (ih _ (by omega) u1) (by simp) (fun z => z) x (mem_frn.mpr ⟨hx, u2⟩)
  exact fun x hx => key _ x (Nat.lt_succ_self _) hx
theorem DInv.perm (R : Rooted names (adj ties) r par dep) (nd : names.Nodup) (I : DInv names ties r par vis [] (fun _ => False)) : vis.Perm names :=
  (List.perm_ext_iff_of_nodup I.nd nd).mpr fun x => ⟨I.sub x, I.all R x⟩
theorem nodup_le : ∀ {l m : List Str}, l.Nodup → (∀ x ∈ l, x ∈ m) → l.length ≤ m.length
  | [], _, _, _ => Nat.zero_le _
  | x :: r, m, nd, h => by
    obtain ⟨n1, n2⟩ := List.nodup_cons.mp nd
    have hx := h x (by simp)
    have ih := nodup_le (m := m.erase x) n2 fun y hy => (List.mem_erase_of_ne (fun q => n1 (by rw [← q]; exact hy))).mpr (h y (by simp [hy]))
    rw [List.length_erase_of_mem hx] at ih
    have := List.length_pos_of_mem hx
    rw [List.length_cons]
    omega
theorem DInv.le {pd : Str → Prop} (I : DInv names ties r par vis wl pd) : vis.length ≤ names.length := nodup_le I.nd I.sub
end
theorem iteT' {b : Bool} {A B : Prop} (e : b = true) (h : A) : if b = true then A else B := by
  rw [if_pos e]
  exact h
theorem List.Perm.map_inv_of {α β : Type} {f : α → β} : ∀ {ys : List β} {l : List α}, ys.Perm (l.map f) → ∃ m : List α, ys = m.map f ∧ m.Perm l := by
  intro ys l p
  generalize hz : l.map f = zs at p
  induction p generalizing l with
  | nil => exact ⟨[], rfl, by rw [List.map_eq_nil_iff.mp hz]⟩
  | cons x p ih =>
    cases l with
    | nil => cases hz
    | cons a l =>
      rw [List.map_cons] at hz
      injection hz with h1 h2
      obtain ⟨m, e1, e2⟩ := ih h2
      exact ⟨a :: m, by rw [List.map_cons, ← e1, h1], e2.cons a⟩
  | swap x y zs =>
    match l, hz with
    | a :: b :: l, hz =>
      simp only [List.map_cons] at hz
      injection hz with h1 h2
      injection h2 with h2 h3
      exact ⟨b :: a :: l, by simp only [List.map_cons]; rw [h1, h2, h3], .swap _ _ _⟩
  | trans p q ih1 ih2 =>
    obtain ⟨m, e1, e2⟩ := ih2 hz
    obtain ⟨m', e3, e4⟩ := ih1 e1.symm
    exact ⟨m', e3, e4.trans e2⟩
def parV (r : Str) (par : Str → Str) (y : Str) : V := if y = r then .non else .str (par y)
/-- (name, the friend further in) -/
def RowAt (G : Hp) (r : Str) (par : Str → Str) (v : V) (y : Str) : Prop := ∃ q, v = .ref q ∧ G q = some (.tup [.str y, parV r par y])
/-- a list of such rows, the farthest first -/
def RimAt (G : Hp) (p : Addr) (names : List Str) (ties : List (Str × Str)) (r : Str) (par : Str → Str) (dep : Str → Nat) (ord : List Str) : Prop :=
  Rooted names (adj ties) r par dep ∧ FarFirst names dep ord ∧ ∃ vs, G p = some (.lst vs) ∧ Paired (RowAt G r par) vs ord
section
variable {e : Ev}
theorem ok_rim_order (t : Tx e) : Ok e 5 "rim_order" ["village"] (fun vs H Q _ => ∃ x names ties ns G, vs = [.ref x] ∧ Wd e.T G H ∧ VAt e.CV G x names ties ns ∧ IsTree names ties ∧ names.length ≤ 100 ∧
    ∀ p G' H' r par dep ord, Step e.T NoS G H G' H' → RimAt G' p names ties r par dep ord → Q (.ref p) H') := by
  refine t.f_rim_order.ok sc_rim_order (fun vs H Q E h => ?_) (fun cdv A outer s H vs Q E hcd hr h => ?_)
  · obtain ⟨x, names, ties, ns, G, rfl, _⟩ := h; rfl
  · obtain ⟨x, names, ties, ns, G, rfl, wd, hv, tr, hl, k⟩ := h
    have hu := hu_of hr
    have nd := tr.nodup
    obtain ⟨dx, n, tt, w, f, rk, hx, P⟩ := hv.parts
    have hx0 := wd.sub _ _ hx
    have hn0 := wd.sub _ _ P.hn
    refine ⟨_, pss_cons (ps_set (i := 1) sc_rim_order.nd rfl (.inl rfl) (pe_ix ix_sq (pe_fldC t.clV t.v_names (pv 0)) pe_int (fun _ _ => rfl)))
      (pss_cons (ps_asg (pe_tup (pa_cons (pe_disp (pps_cons (pv 1) pe_non pps_nil) (by rfl) (by rfl) (fun z => by cases z) (by decide)) (pa_cons (pe_disp (pps_cons (pv 1) pe_int pps_nil) (by rfl) (by rfl) (fun z => by cases z) (by decide)) (pa_cons (pe_lst (pa_cons (pv 1) pa_nil)) pa_nil))))
        (pg_tup rfl (pgs_cons (pg_name (i := 2) sc_rim_order.nd rfl (.inr rfl)) (pgs_cons (pg_name (i := 3) sc_rim_order.nd rfl (.inr rfl)) (pgs_cons (pg_name (i := 4) sc_rim_order.nd rfl (.inl rfl)) pgs_nil)))))
      (pss_cons (ps_while PassesOwn.never (pt_truth (pv 4) (by intro _; rfl))
        (pss_cons (ps_set (i := 5) sc_rim_order.nd rfl (.inl rfl) (pe_bm0 PySem.F.plainAttrs_list PySem.F.slot_list_pop PySem.F.type_list_pop mt_pop (pv 4)))
        (pss_one (ps_for PassesOwn.never rfl (pi_sq (pe_dget hu (pe_fldC t.clV t.v_own_friends (pv 0)) (pv 5) (fun _ _ => rfl))) (pg_name (i := 6) sc_rim_order.nd rfl (.inl rfl))
          (pss_one (ps_if (pt_cmp (pc_dnotin hu (pv 6) (pv 3)))
            (pss_cons (ps_asg (pe_tup (pa_cons (pv 5) (pa_cons (pe_op op_add (pe_dget hu (pv 3) (pv 5) (fun _ _ => rfl)) pe_int) pa_nil))) (pg_tup rfl (pgs_cons (pg_sub (pv 2) (pv 6) (set_dict hu)) (pgs_cons (pg_sub (pv 3) (pv 6) (set_dict hu)) pgs_nil))))
            (pss_one (ps_expr (pe_bm PySem.F.plainAttrs_list PySem.F.slot_list_append PySem.F.type_list_append mt_append (pv 4) (pa_cons (pv 6) pa_nil))))) pss_nil))))))
      (pss_cons (ps_set (i := 7) sc_rim_order.nd rfl (.inl rfl) (pe_sortLam (T := e.T) (N := ["name", "doors", "village"]) (fr := ["doors", "village"]) (js := [3, 0]) (x0 := "name") (hr.mono (by decide)) t.tab1 (hcd.trans t.code1) (List.mem_cons_self) (fun p hp he => by
          rcases List.mem_cons.mp hp with rfl | hp
          · rfl
          · rw [List.mem_singleton.mp hp] at he
            exact absurd he.symm t.neP) (by rfl) t.n_sorted (pe_fldC t.clV t.v_names (pv 0)) (nscope_by (by decide +kernel)) (by decide +kernel) (fun y hy h => (show ∀ y ∈ ([(("name" : Str), NameKind.local), ("doors", .free), ("village", .free)] : List (Str × NameKind)), y.2 = .free → List.lookup y.1 (defScope s_rim_order).names = some .cell ∨ List.lookup y.1 (defScope s_rim_order).names = some .free from by decide +kernel) y hy h) (by rfl) (fun _ _ _ _ _ _ => rfl)
          (fun _ _ A outer s H f c' hr0 => pe_tup (pa_cons (pe_op op_sub pe_int (pe_dget (hu_of hr0) (pv 1) (pv 0) (fun _ _ => rfl))) (pa_cons (pe_dget (hu_of hr0) (pe_fldC t.clV t.v_ranks (pv 2)) (pv 0) (fun _ _ => rfl)) pa_nil)))))
      (pss_one (ps_ret (pe_lc (own := [("name", 8)]) (g := gName 8) (tt := tYes) rfl sc_rim_order.nd (pi_sq (pv 7)) (blkOk_by (N := ["village", "first", "inner", "doors", "waiting", "here", "friend", "order", "name"]) (sc := defScope s_rim_order) (by decide +kernel))
        (fun _ _ _ _ _ => pg_name (i := 8) sc_rim_order.nd rfl (Or.inl rfl)) (fun _ _ _ _ _ => pts_nil) (fun _ _ _ _ _ => pe_tup (pa_cons (pv 8) (pa_cons (pe_dget hu (pv 2) (pv 8) (fun _ _ => rfl)) pa_nil))))))))), ?_⟩
    -- first
    have hne : names ≠ [] := fun z => by have := tr.len; rw [z] at this; cases this
    obtain ⟨r, nr, en⟩ : ∃ r nr, names = r :: nr := by
      cases names with
      | nil => exact absurd rfl hne
      | cons r nr => exact ⟨r, nr, rfl⟩
    have mr : r ∈ names := by rw [en]; simp
    obtain ⟨par, dep, R⟩ := tr.rooted mr
    refine ⟨_, rfl, x, dx, _, .ref n, rfl, hx0, rfl, n, sv names, 0, .str r, rfl, rfl, .inr hn0, (show atI (sv names) ((0 : Nat) : Int) = some (.str r) from atI_nat (by rw [en]; rfl)), ?_⟩
    -- inner, doors, waiting
    refine fun di hdi => ⟨_, rfl, upd_same, [(Sum.inr r, .non)], rfl, by show 1 ≤ 15; decide, ?_⟩
    rw [upd_upd]
    refine fun dd hdd => ⟨_, rfl, upd_same, [(Sum.inr r, .int 0)], rfl, by show 1 ≤ 15; decide, ?_⟩
    rw [upd_upd]
    refine ⟨_, rfl, by show 1 ≤ sizeLine; decide, fun wa hwa => ⟨by show 3 ≤ sizeLine; decide, fun T hT => ⟨T, _, rfl, SqT.of upd_same, rfl, _, _, rfl, _, _, rfl, _, _, rfl, rfl, ?_⟩⟩⟩
    have ndd : dd ≠ di := fun z => by rw [z, upd_same] at hdd; cases hdd
    have hdd0 : H dd = none := (upd_ne ndd).symm.trans hdd
    have m0 : ∀ v : V, mergeK [] [((Sum.inr r : Key), v)] = [(Sum.inr r, v)] := fun v => rfl
    rw [m0, m0] at *
    have nwi : wa ≠ di := fun z => by rw [z, upd_ne ndd.symm, upd_same] at hwa; cases hwa
    have nwd : wa ≠ dd := fun z => by rw [z, upd_same] at hwa; cases hwa
    have hwa0 : H wa = none := (upd_ne nwi).symm.trans ((upd_ne nwd).symm.trans hwa)
    have sH : Same H (upd (upd (upd (upd H di (.dK [(Sum.inr r, .non)])) dd (.dK [(Sum.inr r, .int 0)])) wa (.lst [.str r])) T (.tup [.ref di, .ref dd, .ref wa])) := (((same_new hdi).trans (same_new hdd)).trans (same_new hwa)).trans (same_new hT)
    have ei : (upd (upd (upd (upd H di (.dK [(Sum.inr r, .non)])) dd (.dK [(Sum.inr r, .int 0)])) wa (.lst [.str r])) T (.tup [.ref di, .ref dd, .ref wa])) di = some (.dK [(Sum.inr r, .non)]) := ((same_new hdd).trans ((same_new hwa).trans (same_new hT))) _ _ upd_same
    have ed : (upd (upd (upd (upd H di (.dK [(Sum.inr r, .non)])) dd (.dK [(Sum.inr r, .int 0)])) wa (.lst [.str r])) T (.tup [.ref di, .ref dd, .ref wa])) dd = some (.dK [(Sum.inr r, .int 0)]) := ((same_new hwa).trans (same_new hT)) _ _ upd_same
    have ew : (upd (upd (upd (upd H di (.dK [(Sum.inr r, .non)])) dd (.dK [(Sum.inr r, .int 0)])) wa (.lst [.str r])) T (.tup [.ref di, .ref dd, .ref wa])) wa = some (.lst (sv [r])) := (same_new hT) _ _ upd_same
    generalize upd (upd (upd (upd H di (.dK [(Sum.inr r, .non)])) dd (.dK [(Sum.inr r, .int 0)])) wa (.lst [.str r])) T (.tup [.ref di, .ref dd, .ref wa]) = H1 at *
    -- while waiting
    dsimp only
    unfold tSeq
    refine while_by (fun σ H2 => ∃ (v5 v6 v7 v8 : Option V) (vis wl : List Str) (ivs dvs : List (Key × V)), σ = [some (.ref x), some (.str r), some (.ref di), some (.ref dd), some (.ref wa), v5, v6, v7, v8] ∧ Same H H2 ∧ H2 di = some (.dK ivs) ∧ H2 dd = some (.dK dvs) ∧ H2 wa = some (.lst (sv wl)) ∧
        Dic ivs vis (fun y v => v = parV r par y) ∧ Dic dvs vis (fun y v => v = .int (dep y : Nat)) ∧ DInv names ties r par vis wl (fun _ => False) ∧ wl.length ≤ vis.length)
      (fun σ H2 => 2 * (names.length - (match H2 dd with | some (.dK dvs) => dvs.length | _ => 0)) + (match H2 wa with | some (.lst l) => l.length | _ => 0)) ?_ ?_ ?_
    · refine ⟨_, _, _, _, [r], [r], _, _, rfl, sH, ei, ed, ew, .cons ⟨rfl, ?_⟩ .nil, .cons ⟨rfl, ?_⟩ .nil, DInv.start mr, Nat.le_refl _⟩
      · exact (if_pos rfl).symm
      · show V.int 0 = V.int (dep r : Nat)
        rw [R.dep0]
        rfl
    · rintro σ H2 ⟨v5, v6, v7, v8, vis, wl, ivs, dvs, rfl, s2, ei2, ed2, ew2, Di, Dd, I, hwl⟩
      refine ⟨_, rfl, !(sv wl).isEmpty, .inl ⟨_, SqL.of ew2, rfl⟩, ?_⟩
      rcases List.eq_nil_or_concat wl with rfl | ⟨wl', here, rfl⟩
      · refine iteF ?_
        -- order
        have pv_ := I.perm R nd
        refine ⟨_, rfl, x, dx, _, .ref n, rfl, s2 _ _ hx0, rfl, n, sv names, rfl, .inr (s2 _ _ hn0), wd.tabs.ext s2, fun v => match v with | .str y => [0 - (dep y : Int), (names.idxOf y : Nat)] | _ => [0], fun v hv => ?_, fun v H3 hv g => ?_, fun H3 ys p g p1 p2 hp => ?_⟩
        · obtain ⟨y, _, rfl⟩ := List.mem_map.mp hv
          exact ⟨_, _, rfl⟩
        · obtain ⟨y, hy, rfl⟩ := List.mem_map.mp hv
          obtain ⟨u, gu, rfl⟩ := Dd.get ((I.perm R nd).mem_iff.mpr hy)
          obtain ⟨rvs, hr1, hr2⟩ := P.hr
          obtain ⟨u2, gu2, rfl⟩ := hr2.get hy
          have e1 : DGet H3 dd (.str y) (some (.int (dep y : Nat))) := by rw [← gu]; exact DGet.k (k := Sum.inr y) (g.ext _ _ ed2 noTbl_dK)
          have e2 : DGet H3 rk (.str y) (some (.int (names.idxOf y : Nat))) := by rw [← gu2]; exact DGet.k (k := Sum.inr y) (g.ext _ _ (s2 _ _ (wd.sub _ _ hr1)) noTbl_dK)
          refine ⟨_, rfl, _, rfl, dd, _, rfl, e1, _, _, rfl, rfl, _, rfl, x, dx, _, _, rfl, g.ext _ _ (s2 _ _ hx0) noTbl_ins, rfl, _, rfl, rk, _, rfl, e2, by show 2 ≤ sizeLine; decide, fun t' ht' => ⟨t', ht', rfl, rfl⟩⟩
        · obtain ⟨ord, rfl, po⟩ : ∃ ord, ys = sv ord ∧ ord.Perm names := by
            obtain ⟨ord, q1, q2⟩ := List.Perm.map_inv_of (f := V.str) p1
            exact ⟨ord, q1, q2⟩
          have far : FarFirst names dep ord := ⟨po, by
            rw [List.pairwise_map] at p2
            refine p2.imp fun {a b} h => ?_
            have h : 0 - (dep a : Int) ≤ 0 - (dep b : Int) := h
            omega⟩
          have eo : upd H3 p (.lst (sv ord)) p = some (.lst (sv ord)) := upd_same
          have g3 : Gw e.T H (upd H3 p (.lst (sv ord))) := ((Gw.of_same wd.tabs s2).trans g).trans (Gw.of_same g.tabs (same_new hp))
          have di3 : upd H3 p (.lst (sv ord)) di = some (.dK ivs) := (upd_ne (ne_of_none (g.ext _ _ ei2 noTbl_dK) hp)).trans (g.ext _ _ ei2 noTbl_dK)
          generalize upd H3 p (.lst (sv ord)) = H4 at *
          refine ⟨_, rfl, p, _, rfl, .inl eo, fun J wk D hD => ?_⟩
          have hD0 : H D = none := g3.dom _ hD
          refine lc_it wk (fun i H5 => ∃ G5 vs, Step e.T NoS G H G5 H5 ∧ Same H4 H5 ∧ G5 D = none ∧ H5 D = some (.lst vs) ∧ Paired (RowAt G5 r par) vs (ord.take i)) ⟨G, [], (g3.step wd).hid1 hD, same_new hD, wd.none hD0, upd_same, .nil⟩ (fun i H5 _ ⟨_, _, _, s5, _⟩ => sq_keep (.inl eo) fun o q _ => s5 _ _ q) ?_ ?_
          · rintro i v H5 H6 hi ⟨G5, vs, st, s5, g5, d5, P5⟩ ⟨rfl, hv⟩
            obtain ⟨y, hy, rfl⟩ := sv_get hv
            obtain ⟨u, gu, rfl⟩ := Di.get ((I.perm R nd).mem_iff.mpr (po.mem_iff.mp (List.mem_of_getElem? hy)))
            have e1 : DGet H6 di (.str y) (some (parV r par y)) := by rw [← gu]; exact DGet.k (k := Sum.inr y) (s5 _ _ di3)
            refine ⟨rfl, yes_ ⟨_, rfl, _, rfl, _, rfl, di, _, rfl, e1, by show 2 ≤ sizeLine; decide, fun q hq => ⟨vs, (upd_ne (ne_of_none d5 hq)).trans d5, ?_, ?_⟩⟩⟩
            · rw [Paired.len P5, List.length_take]
              have := po.length_eq
              exact hundred (by omega)
            · have st2 := st.new1 (o := .tup [.str y, parV r par y]) hq noTbl_tup
              have nDq : D ≠ q := ne_of_none d5 hq
              refine ⟨_, _, st2.wr hD0 ((upd_ne nDq).trans g5) ((upd_ne nDq).trans d5) noTbl_lst (fun _ h => nomatch h), fun c o h => (upd_ne (ne_of_none h hD)).trans ((upd_ne (ne_of_none (s5 _ _ h) hq)).trans (s5 _ _ h)), (upd_ne nDq).trans g5, upd_same, ?_⟩
              rw [take_snoc hy]
              exact Paired.snoc ⟨q, rfl, upd_same⟩ (Paired.mapP P5 fun _ _ ⟨q', h1, h2⟩ => ⟨q', h1, (upd_ne (ne_of_none h2 (st.hidN hq))).trans h2⟩)
          · rintro H5 ⟨G5, vs, st, s5, g5, d5, P5⟩
            rw [List.length_map, List.take_length] at P5
            refine k D _ H5 r par dep ord (st.show hD0 d5 noTbl_lst fun u q => by rw [g5] at q; cases q) ⟨R, far, vs, upd_same, Paired.mapP P5 fun _ _ ⟨q', h1, h2⟩ => ⟨q', h1, (upd_ne (ne_of_none h2 g5)).trans h2⟩⟩
      · rw [List.concat_eq_append] at *
        refine iteT' ?_ ?_
        · simp [sv]
        have hh : here ∈ vis := I.wsub here (by simp)
        have mh : here ∈ names := I.sub here hh
        have I1 := I.pop
        have elast : (sv (wl' ++ [here]))[(sv (wl' ++ [here])).length - 1]? = some (V.str here) := by simp [sv]
        have edrop : (sv (wl' ++ [here])).dropLast = sv wl' := by simp [sv]
        refine ⟨_, rfl, .inl ⟨rfl, _, SqL.of ew2⟩, wa, _, .str here, rfl, rfl, ew2, elast, ?_⟩
        rw [edrop]
        have s3 : Same H (upd H2 wa (.lst (sv wl'))) := fun c o h => (upd_ne (ne_of_none h hwa0)).trans (s2 c o h)
        have nwi2 : di ≠ wa := nwi.symm
        have nwd2 : dd ≠ wa := nwd.symm
        have ei3 : upd H2 wa (.lst (sv wl')) di = some (.dK ivs) := (upd_ne nwi2).trans ei2
        have ed3 : upd H2 wa (.lst (sv wl')) dd = some (.dK dvs) := (upd_ne nwd2).trans ed2
        have ew3 : upd H2 wa (.lst (sv wl')) wa = some (.lst (sv wl')) := upd_same
        generalize upd H2 wa (.lst (sv wl')) = H3 at *
        obtain ⟨fvs, hf1, hf2⟩ := P.hf
        obtain ⟨u, gu, fp, rfl, hfp⟩ := hf2.get mh
        have gf : DGet H3 f (.str here) (some (.ref fp)) := by rw [← gu]; exact DGet.k (k := Sum.inr here) (s3 _ _ (wd.sub _ _ hf1))
        have hfp0 := wd.sub _ _ hfp
        refine ⟨_, rfl, x, dx, _, _, rfl, s3 _ _ hx0, rfl, _, rfl, f, _, rfl, gf, fp, _, rfl, .inl (s3 _ _ hfp0), fun J wk => for_it wk (fun i σ H4 => ∃ (v6 v7 v8 : Option V) (vis2 wl2 : List Str) (ivs dvs2 : List (Key × V)), σ = [some (.ref x), some (.str r), some (.ref di), some (.ref dd), some (.ref wa), some (.str here), v6, v7, v8] ∧ Same H H4 ∧ H4 di = some (.dK ivs) ∧ H4 dd = some (.dK dvs2) ∧ H4 wa = some (.lst (sv wl2)) ∧
            Dic ivs vis2 (fun y v => v = parV r par y) ∧ Dic dvs2 vis2 (fun y v => v = .int (dep y : Nat)) ∧ DInv names ties r par vis2 wl2 (fun z => z = here) ∧ wl2.length + 1 ≤ vis2.length ∧ here ∈ vis2 ∧ (∀ y ∈ (frn names ties here).take i, y ∈ vis2) ∧ 2 * (names.length - vis2.length) + wl2.length ≤ 2 * (names.length - vis.length) + wl'.length)
          ⟨_, _, _, vis, wl', ivs, dvs, rfl, s3, ei3, ed3, ew3, Di, Dd, I1, by simp at hwl; omega, hh, by simp, Nat.le_refl _⟩ (fun i σ H4 _ ⟨_, _, _, _, _, _, _, _, s4, _⟩ => by rw [s4 _ _ hfp0, s3 _ _ hfp0]) ?_ ?_⟩
        · rintro i v σ H4 H5 hi ⟨v6, v7, v8, vis2, wl2, ivs2, dvs2, rfl, s4, ei4, ed4, ew4, Di4, Dd4, I4, hwl4, hh4, ht4, hm4⟩ ⟨rfl, hv⟩
          obtain ⟨y, hy, rfl⟩ := sv_get hv
          have my := List.mem_of_getElem? hy
          refine ⟨_, rfl, _, rfl, dd, _, rfl, DGet.k (k := Sum.inr y) ed4, _, rfl, ?_⟩
          by_cases q : y ∈ vis2
          · obtain ⟨u, gu, _⟩ := Dd4.get q
            rw [gu]
            refine iteF ⟨_, _, _, vis2, wl2, ivs2, dvs2, rfl, s4, ei4, ed4, ew4, Di4, Dd4, I4, hwl4, hh4, fun z hz => ?_, hm4⟩
            rw [take_snoc hy] at hz
            rcases List.mem_append.mp hz with hz | hz
            · exact ht4 z hz
            · rw [List.mem_singleton.mp hz]; exact q
          · rw [Dd4.none q]
            obtain ⟨f1, f2, f3, I5⟩ := I4.find R hh4 my q
            obtain ⟨u, gu, rfl⟩ := Dd4.get hh4
            have gh : DGet H5 dd (.str here) (some (.int (dep here : Nat))) := by rw [← gu]; exact DGet.k (k := Sum.inr here) ed4
            have lv := I5.le
            rw [List.length_append, List.length_singleton] at lv
            refine iteT ⟨_, rfl, _, rfl, _, rfl, dd, _, rfl, gh, _, _, rfl, rfl, by show 2 ≤ sizeLine; decide, fun T2 hT2 => ⟨T2, _, rfl, SqT.of upd_same, rfl, ?_⟩⟩
            have s5 := s4.trans (same_new (o := .tup [.str here, .int ((dep here : Nat) + 1)]) hT2)
            have ei5 := (same_new (o := .tup [.str here, .int ((dep here : Nat) + 1)]) hT2) _ _ ei4
            have ed5 := (same_new (o := .tup [.str here, .int ((dep here : Nat) + 1)]) hT2) _ _ ed4
            have ew5 := (same_new (o := .tup [.str here, .int ((dep here : Nat) + 1)]) hT2) _ _ ew4
            generalize hH6 : upd H5 T2 (.tup [.str here, .int ((dep here : Nat) + 1)]) = H6 at *
            have sz1 : ivs2.length < sizeLine := by rw [Di4.len]; exact hundred (by omega)
            have sz2 : dvs2.length < sizeLine := by rw [Dd4.len]; exact hundred (by omega)
            refine ⟨_, _, rfl, _, rfl, _, rfl, di, _, rfl, DPut.k (k := Sum.inr y) ei5 sz1, _, _, rfl, _, rfl, _, rfl, dd, _, rfl, DPut.k (k := Sum.inr y) ((upd_ne ndd).trans ed5) sz2, rfl, ?_⟩
            have ew7 : upd (upd H6 di (.dK (putK ivs2 (Sum.inr y) (.str here)))) dd (.dK (putK dvs2 (Sum.inr y) (.int ((dep here : Nat) + 1)))) wa = some (.lst (sv wl2)) := (upd_ne nwd).trans ((upd_ne nwi).trans ew5)
            refine ⟨_, rfl, .inl ⟨rfl, _, SqL.of ew7⟩, _, rfl, wa, _, _, rfl, rfl, ew7, by rw [List.length_map]; exact hundred (by omega), ?_⟩
            refine ⟨_, _, _, vis2 ++ [y], wl2 ++ [y], _, _, rfl, fun c o h => ?_, (upd_ne nwi2).trans ((upd_ne ndd.symm).trans upd_same), (upd_ne nwd2).trans upd_same, ?_, Di4.put_new q ?_, Dd4.put_new q ?_, I5, by simp; omega, by simp [hh4], fun z hz => ?_, ?_⟩
            · exact (upd_ne (ne_of_none h hwa0)).trans ((upd_ne (ne_of_none h hdd0)).trans ((upd_ne (ne_of_none h hdi)).trans (s5 c o h)))
            · rw [upd_same]
              simp [sv]
            · unfold parV
              rw [if_neg f1, f2]
            · rw [f3]
              rfl
            · rw [take_snoc hy] at hz
              rcases List.mem_append.mp hz with hz | hz
              · simp [ht4 z hz]
              · simp [List.mem_singleton.mp hz]
            · simp only [List.length_append, List.length_singleton]
              omega
        · rintro σ H4 ⟨v6, v7, v8, vis2, wl2, ivs2, dvs2, rfl, s4, ei4, ed4, ew4, Di4, Dd4, I4, hwl4, hh4, ht4, hm4⟩
          rw [List.length_map, List.take_length] at ht4
          refine ⟨⟨_, _, _, _, vis2, wl2, ivs2, dvs2, rfl, s4, ei4, ed4, ew4, Di4, Dd4, I4.over ht4, by omega⟩, ?_⟩
          simp only [ed4, ew4, ed2, ew2, Dd4.len, Dd.len, List.length_map, List.length_append, List.length_singleton]
          exact Nat.lt_succ_of_le hm4
    · rintro σ H2 Q1 Q2 hQ ⟨v, e1, k1, t1, q1⟩
      exact ⟨v, e1, k1, t1, hQ _ _ q1⟩
end
end K12

set_option maxHeartbeats 4000000
namespace K12
open PySem PySem.Spec PyProof.Rows L2 LamX NdefX
abbrev ifs (v g ga sl : Addr) : List (Str × V) := [("village", .ref v), ("given", .ref g), ("gave", .ref ga), ("slates", .ref sl)]
/-- an Inward's given and gave, so far for those in done -/
structure IAt (e : Ev) (G H : Hp) (x v g ga sl : Addr) (names : List Str) (ties : List (Str × Str)) (ns : List Int) (done : List Str) (gv tv : Str → Int) : Prop where
  hx : ∃ dx, H x = some (.ins e.CI dx (ifs v g ga sl))
  hv : VAt e.CV G v names ties ns
  hg : ∃ gvs, H g = some (.dK gvs) ∧ Dic gvs done (fun y u => u = .int (gv y))
  hga : ∃ tvs, H ga = some (.dK tvs) ∧ Dic tvs done (fun y u => u = .int (tv y))
theorem IAt.step {e : Ev} {S : Addr → Prop} {G H G' H' : Hp} {x v g ga sl : Addr} {names : List Str} {ties : List (Str × Str)} {ns : List Int} {done : List Str} {gv tv : Str → Int} (I : IAt e G H x v g ga sl names ties ns done gv tv) (st : Step e.T S G H G' H') (h1 : ¬ S x) (h2 : ¬ S g) (h3 : ¬ S ga) : IAt e G' H' x v g ga sl names ties ns done gv tv := by
  obtain ⟨⟨dx, hx⟩, hv, ⟨gvs, a1, a2⟩, tvs, b1, b2⟩ := I
  exact ⟨⟨dx, st.fr _ _ hx h1 noTbl_ins⟩, hv.up st.up, ⟨gvs, st.fr _ _ a1 h2 noTbl_dK, a2⟩, tvs, st.fr _ _ b1 h3 noTbl_dK, b2⟩
theorem filter_one {c : Str → Prop} [DecidablePred c] {y : Str} : ([y].filter fun z => decide (c z)) = if c y then [y] else [] := by
  by_cases h : c y <;> simp [h]
section
variable {e : Ev}
theorem ok_Inward_init (t : Tx e) : Ok e 1 "Inward.__init__" ["self", "village"] (fun vs H Q _ => ∃ x v dx, vs = [.ref x, .ref v] ∧ H x = some (.ins e.CI dx []) ∧
    ∀ H' g ga sl, (∀ b o, H b = some o → b ≠ x → H' b = some o) → H g = none → H ga = none → H sl = none → g ≠ ga → g ≠ sl → ga ≠ sl → H' x = some (.ins e.CI dx (ifs v g ga sl)) → H' g = some (.dK []) → H' ga = some (.dK []) → H' sl = some (.dK []) → Q .non H') := by
  refine t.f_Inward_init.ok sc_Inward_init (fun vs H Q E h => ?_) (fun cdv A outer s H vs Q E hcd hr h => ?_)
  · obtain ⟨x, v, dx, rfl, _⟩ := h; rfl
  · obtain ⟨x, v, dx, rfl, hx, k⟩ := h
    refine ⟨_, pss_cons (ps_fld (pv 0) (pv 1) rfl) (pss_one (ps_asg (pe_tup (pa_cons pe_dnewK (pa_cons pe_dnewK (pa_cons pe_dnewK pa_nil)))) (pg_tup rfl (pgs_cons (pg_fld (pv 0)) (pgs_cons (pg_fld (pv 0)) (pgs_cons (pg_fld (pv 0)) pgs_nil)))))), ?_⟩
    refine ⟨_, rfl, _, rfl, x, e.CI, dx, [], rfl, hx, t.clI, t.i_village, by show 0 < 1000; decide, ?_⟩
    show (_ : Prop)
    generalize hH1 : upd H x (.ins e.CI dx (putF "village" (.ref v) [])) = H1
    have x1 : H1 x = some (.ins e.CI dx [("village", .ref v)]) := by rw [← hH1]; exact upd_same
    have k1 : ∀ b o, H b = some o → b ≠ x → H1 b = some o := fun b o q h => by rw [← hH1]; exact (upd_ne h).trans q
    have f1 : ∀ b, H1 b = none → H b = none := fun b q => by
      rw [← hH1] at q
      by_cases z : b = x
      · rw [z, upd_same] at q; cases q
      · rwa [upd_ne z] at q
    clear hH1
    refine fun g hg ga hga sl hsl => ⟨by show 3 ≤ sizeLine; decide, fun T hT => ⟨T, _, rfl, SqT.of upd_same, rfl, ?_⟩⟩
    have s2 : Same H1 (upd (upd (upd (upd H1 g (.dK [])) ga (.dK [])) sl (.dK [])) T (.tup [.ref g, .ref ga, .ref sl])) := (((same_new hg).trans (same_new hga)).trans (same_new hsl)).trans (same_new hT)
    have n1 : g ≠ ga := fun z => by rw [← z, upd_same] at hga; cases hga
    have n2 : ga ≠ sl := fun z => by rw [← z, upd_same] at hsl; cases hsl
    have n3 : g ≠ sl := fun z => by rw [← z, upd_ne n1, upd_same] at hsl; cases hsl
    have eg : (upd (upd (upd (upd H1 g (.dK [])) ga (.dK [])) sl (.dK [])) T (.tup [.ref g, .ref ga, .ref sl])) g = some (.dK []) := ((same_new hga).trans ((same_new hsl).trans (same_new hT))) _ _ upd_same
    have ega : (upd (upd (upd (upd H1 g (.dK [])) ga (.dK [])) sl (.dK [])) T (.tup [.ref g, .ref ga, .ref sl])) ga = some (.dK []) := ((same_new hsl).trans (same_new hT)) _ _ upd_same
    have esl : (upd (upd (upd (upd H1 g (.dK [])) ga (.dK [])) sl (.dK [])) T (.tup [.ref g, .ref ga, .ref sl])) sl = some (.dK []) := (same_new hT) _ _ upd_same
    have f2 : H1 ga = none := (upd_ne n1.symm).symm.trans hga
    have f3 : H1 sl = none := ((upd_ne n3.symm).symm.trans ((upd_ne n2.symm).symm.trans hsl))
    generalize upd (upd (upd (upd H1 g (.dK [])) ga (.dK [])) sl (.dK [])) T (.tup [.ref g, .ref ga, .ref sl]) = H2 at *
    have x2 := s2 _ _ x1
    have nx : ∀ {b o}, H2 b = some (.dK o) → b ≠ x := fun h z => by rw [z, x2] at h; cases h
    refine ⟨_, _, rfl, _, rfl, x, e.CI, dx, _, rfl, x2, t.clI, t.i_given, by show 1 < 1000; decide, _, _, rfl, _, rfl, x, e.CI, dx, _, rfl, upd_same, t.clI, t.i_gave, by show 2 < 1000; decide, _, _, rfl, _, rfl, x, e.CI, dx, _, rfl, upd_same, t.clI, t.i_slates, by show 3 < 1000; decide, rfl, ?_⟩
    refine k _ g ga sl (fun b o q h => ?_) (f1 _ hg) (f1 _ f2) (f1 _ f3) n1 n3 n2 upd_same ?_ ?_ ?_
    · exact (upd_ne h).trans ((upd_ne h).trans ((upd_ne h).trans (s2 _ _ (k1 b o q h))))
    · exact (upd_ne (nx eg)).trans ((upd_ne (nx eg)).trans ((upd_ne (nx eg)).trans eg))
    · exact (upd_ne (nx ega)).trans ((upd_ne (nx ega)).trans ((upd_ne (nx ega)).trans ega))
    · exact (upd_ne (nx esl)).trans ((upd_ne (nx esl)).trans ((upd_ne (nx esl)).trans esl))
/-- what the methods of an Inward want, of the next person p -/
structure NextP (names : List Str) (ties : List (Str × Str)) (r : Str) (par : Str → Str) (done : List Str) (gv : Str → Int) (p : Str) : Prop where
  mem : p ∈ names
  kid : ∀ y ∈ kids names ties r par p, y ∈ done ∧ 1 ≤ gv y
  nd : names.Nodup
  len : names.length ≤ 100
theorem ok_Inward_behind (t : Tx e) : Ok e 4 "Inward.behind" ["self", "person", "inner"] (fun vs H Q _ => ∃ x v g ga sl names ties ns done gv tv r par p G, vs = [.ref x, .str p, parV r par p] ∧ Wd e.T G H ∧ IAt e G H x v g ga sl names ties ns done gv tv ∧ NextP names ties r par done gv p ∧
    ∀ q G' H' l, Step e.T NoS G H G' H' → G' q = some (.lst (sv l)) → l.Perm (kids names ties r par p) → l.Pairwise (fun a b => gv a ≤ gv b) → Q (.ref q) H') := by
  refine t.f_Inward_behind.ok sc_Inward_behind (fun vs H Q E h => ?_) (fun cdv A outer s H vs Q E hcd hr h => ?_)
  · obtain ⟨x, v, g, ga, sl, names, ties, ns, done, gv, tv, r, par, p, G, rfl, _⟩ := h; rfl
  · obtain ⟨x, v, g, ga, sl, names, ties, ns, done, gv, tv, r, par, p, G, rfl, wd, I, N, k⟩ := h
    have hu := hu_of hr
    obtain ⟨⟨dx, hx⟩, hv, ⟨gvs, hg1, hg2⟩, tvs, ht1, ht2⟩ := I
    obtain ⟨dv, n, tt, w, f, rk, hv0, P⟩ := hv.parts
    have hv1 := wd.sub _ _ hv0
    refine ⟨_, pss_cons (ps_setLc (i := 3) (own := [("name", 4)]) (g := gName 4) rfl sc_Inward_behind.nd rfl rfl (sw_true rfl rfl rfl (by decide +kernel)) (pi_sq (pe_dget hu (pe_fldC t.clV t.v_own_friends (pe_fldC t.clI t.i_village (pv 0))) (pv 1) (fun _ _ => rfl))) (blkOk_by (N := ["self", "person", "inner", "some", "name"]) (sc := defScope s_Inward_behind) (by decide +kernel))
        (fun _ _ _ _ _ => pg_name (i := 4) sc_Inward_behind.nd rfl (Or.inl rfl)) (fun _ _ _ _ _ => pts_one (PW.pt (pw_and (pt_cmpR op_ne (pv 4) (pv 2) (nomark _)) (pw_and1 (pt_cmpR op_gt (pe_dget hu (pe_fldC t.clI t.i_given (pv 0)) (pv 4) (fun _ _ => rfl)) pe_int (nomark _)))))) (fun _ _ _ _ _ => pv 4))
      (pss_one (ps_ret (pe_sortLam (T := e.T) (N := ["name", "self"]) (fr := ["self"]) (js := [0]) (x0 := "name") hr t.tab2 (hcd.trans t.code2) (List.mem_cons_of_mem _ List.mem_cons_self) (fun p hp he => by
          rcases List.mem_cons.mp hp with rfl | hp
          · exact absurd he t.neP
          · rw [List.mem_singleton.mp hp]
            rfl) (by rfl) t.n_sorted (pv 3) (nscope_by (by decide +kernel)) (by decide +kernel) (fun y hy h => (show ∀ y ∈ ([(("name" : Str), NameKind.local), ("self", .free)] : List (Str × NameKind)), y.2 = .free → List.lookup y.1 (defScope s_Inward_behind).names = some .cell ∨ List.lookup y.1 (defScope s_Inward_behind).names = some .free from by decide +kernel) y hy h) (by rfl) (fun _ _ _ _ _ _ => rfl)
          (fun _ _ A outer s H f c' hr0 => pe_tup (pa_cons (pe_dget (hu_of hr0) (pe_fldC t.clI t.i_given (pv 1)) (pv 0) (fun _ _ => rfl)) (pa_cons (pe_dget (hu_of hr0) (pe_fldC t.clI t.i_gave (pv 1)) (pv 0) (fun _ _ => rfl)) (pa_cons (pe_dget (hu_of hr0) (pe_fldC t.clV t.v_ranks (pe_fldC t.clI t.i_village (pv 1))) (pv 0) (fun _ _ => rfl)) pa_nil))))))), ?_⟩
    obtain ⟨fvs, hf1, hf2⟩ := P.hf
    obtain ⟨u, gu, fp, rfl, hfp⟩ := hf2.get N.mem
    have hfp0 := wd.sub _ _ hfp
    have gf : DGet H f (.str p) (some (.ref fp)) := by rw [← gu]; exact DGet.k (k := Sum.inr p) (wd.sub _ _ hf1)
    refine ⟨_, rfl, x, dx, _, .ref v, rfl, hx, rfl, v, dv, _, .ref f, rfl, hv1, rfl, _, rfl, f, _, rfl, gf, fp, sv (frn names ties p), rfl, .inl hfp0, fun J wk D hD => ?_⟩
    refine lc_it wk (fun i H2 => Same H H2 ∧ H2 D = some (.lst (sv (((frn names ties p).take i).filter fun y => decide (¬ (p ≠ r ∧ y = par p)))))) ⟨same_new hD, upd_same⟩ (fun i H2 _ ⟨s2, _⟩ => sq_keep (.inl hfp0) fun o q _ => s2 _ _ q) ?_ ?_
    · rintro i u H2 H3 hi ⟨s2, d2⟩ ⟨rfl, hu2⟩
      obtain ⟨y, hy, rfl⟩ := sv_get hu2
      have el : (((frn names ties p).take (i + 1)).filter fun y => decide (¬ (p ≠ r ∧ y = par p))) = (((frn names ties p).take i).filter fun y => decide (¬ (p ≠ r ∧ y = par p))) ++ (if ¬ (p ≠ r ∧ y = par p) then [y] else []) := by
        rw [take_snoc hy, List.filter_append]
        congr 1
        exact filter_one (c := fun y => ¬ (p ≠ r ∧ y = par p))
      have e1 : (decide (V.str y = parV r par p)) = decide (p ≠ r ∧ y = par p) := by
        unfold parV
        by_cases q : p = r
        · rw [if_pos q]; simp [q]
        · rw [if_neg q]; simp [q]
      have sc : scal (.str y) (parV r par p) = true := by
        unfold parV
        by_cases q : p = r
        · rw [if_pos q]; rfl
        · rw [if_neg q]; rfl
      refine ⟨rfl, _, rfl, _, rfl, sc, _, rfl, ?_⟩
      rw [e1]
      by_cases q : p ≠ r ∧ y = par p
      · rw [decide_eq_true q]
        refine iteF ?_
        rw [el, if_neg (fun h => h q), List.append_nil]
        exact ⟨s2, d2⟩
      · rw [decide_eq_false q]
        have my : y ∈ kids names ties r par p := by
          unfold kids
          rw [List.mem_filter]
          exact ⟨List.mem_of_getElem? hy, decide_eq_true q⟩
        obtain ⟨m1, m2⟩ := N.kid y my
        obtain ⟨u3, g3, rfl⟩ := hg2.get m1
        have gg : DGet H3 g (.str y) (some (.int (gv y))) := by rw [← g3]; exact DGet.k (k := Sum.inr y) (s2 _ _ hg1)
        refine iteT ⟨_, rfl, x, dx, _, _, rfl, s2 _ _ hx, rfl, _, rfl, g, _, rfl, gg, _, _, rfl, rfl, _, rfl, ?_⟩
        rw [decide_eq_true (show (0 : Int) < gv y by omega)]
        refine iteT ⟨_, rfl, _, d2, ?_, fun c o h => (upd_ne (ne_of_none h hD)).trans (s2 c o h), ?_⟩
        · rw [List.length_map]
          refine hundred (Nat.le_trans (List.length_filter_le _ _) ?_)
          rw [List.length_take]
          have : (frn names ties p).length ≤ names.length := List.length_filter_le _ _
          have := N.len
          omega
        · rw [upd_same, el, if_pos q]
          simp [sv]
    · rintro H2 ⟨s2, d2⟩
      rw [List.length_map, List.take_length] at d2
      have d2 : H2 D = some (.lst (sv (kids names ties r par p))) := d2
      refine ⟨_, rfl, D, sv (kids names ties r par p), rfl, .inl d2, wd.tabs.ext s2, fun u => match u with | .str y => [gv y, tv y, (names.idxOf y : Nat)] | _ => [0], fun u hu => ?_, fun u H3 hu g3 => ?_, fun H3 ys q g3 p1 p2 hq => ?_⟩
      · obtain ⟨y, _, rfl⟩ := List.mem_map.mp hu
        exact ⟨_, _, rfl⟩
      · obtain ⟨y, hy, rfl⟩ := List.mem_map.mp hu
        obtain ⟨m1, m2⟩ := N.kid y hy
        obtain ⟨u1, q1, rfl⟩ := hg2.get m1
        obtain ⟨u2, q2, rfl⟩ := ht2.get m1
        obtain ⟨rvs, hr1, hr2⟩ := P.hr
        obtain ⟨u3, q3, rfl⟩ := hr2.get (mem_kids.mp hy).1.1
        have x3 := g3.ext _ _ (s2 _ _ hx) noTbl_ins
        have e1 : DGet H3 g (.str y) (some (.int (gv y))) := by rw [← q1]; exact DGet.k (k := Sum.inr y) (g3.ext _ _ (s2 _ _ hg1) noTbl_dK)
        have e2 : DGet H3 ga (.str y) (some (.int (tv y))) := by rw [← q2]; exact DGet.k (k := Sum.inr y) (g3.ext _ _ (s2 _ _ ht1) noTbl_dK)
        have e3 : DGet H3 rk (.str y) (some (.int (names.idxOf y : Nat))) := by rw [← q3]; exact DGet.k (k := Sum.inr y) (g3.ext _ _ (s2 _ _ (wd.sub _ _ hr1)) noTbl_dK)
        refine ⟨_, rfl, x, dx, _, _, rfl, x3, rfl, _, rfl, g, _, rfl, e1, _, rfl, x, dx, _, _, rfl, x3, rfl, _, rfl, ga, _, rfl, e2, _, rfl, x, dx, _, _, rfl, x3, rfl, v, dv, _, _, rfl, g3.ext _ _ (s2 _ _ hv1) noTbl_ins, rfl, _, rfl, rk, _, rfl, e3, by show 3 ≤ sizeLine; decide, fun t' ht' => ⟨t', ht', rfl, rfl⟩⟩
      · obtain ⟨l, rfl, pl⟩ := List.Perm.map_inv_of p1
        have gw := (Gw.of_same wd.tabs s2).trans g3
        rw [List.pairwise_map] at p2
        exact k q _ _ l ((gw.step wd).new1 hq noTbl_lst) upd_same pl (p2.imp fun {a b} h => h)
end
end K12

set_option maxHeartbeats 4000000
namespace K12
open PySem PySem.Spec PyProof.Rows L2 LamX NdefX
/-- what H does not know -/
def NewV (H : Hp) (v : V) : Prop := ∀ l, v = .ref l → H l = none
/-- slates of a new dict, of new lists -/
def SlNew (H G : Hp) (d : Addr) (names : List Str) (s : Str → List Str) : Prop := H d = none ∧ ∃ kvs, G d = some (.dK kvs) ∧ Dic kvs names fun x v => ListAt G (s x) v ∧ NewV H v
theorem SlNew.sl {H G : Hp} {d : Addr} {names : List Str} {s : Str → List Str} (h : SlNew H G d names s) : SlAt G d names s := by
  obtain ⟨_, kvs, h1, h2⟩ := h
  exact ⟨kvs, h1, h2.mono fun _ _ _ h => h.1⟩
theorem SlNew.up {H G G' : Hp} {d : Addr} {names : List Str} {s : Str → List Str} (h : SlNew H G d names s) (e : ∀ b o, G b = some o → G' b = some o) : SlNew H G' d names s := by
  obtain ⟨h0, kvs, h1, h2⟩ := h
  exact ⟨h0, kvs, e _ _ h1, h2.mono fun _ _ _ h => ⟨h.1.up e, h.2⟩⟩
theorem SlNew.less {H H' G : Hp} {d : Addr} {names : List Str} {s : Str → List Str} (h : SlNew H' G d names s) (e : ∀ b, H' b = none → H b = none) : SlNew H G d names s := by
  obtain ⟨h0, kvs, h1, h2⟩ := h
  exact ⟨e _ h0, kvs, h1, h2.mono fun _ _ _ h => ⟨h.1, fun l q => e _ (h.2 l q)⟩⟩
/-- a pair of numbers -/
def NumPair (G : Hp) (a b : Str → Int) (v : V) (y : Str) : Prop := ∃ q, v = .ref q ∧ G q = some (.tup [.int (a y), .int (b y)])
theorem iteF' {b : Bool} {A B : Prop} (e : b = false) (h : B) : if b = true then A else B := by
  rw [e]
  exact iteF h
theorem ownOf_at {names : List Str} {ns : List Int} {x : Str} (hx : x ∈ names) (hl : ns.length = names.length) : ns[names.idxOf x]? = some (ownOf names ns x) := by
  have h1 : names.idxOf x < names.length := List.idxOf_lt_length_iff.mpr hx
  unfold ownOf
  rw [List.getElem?_eq_getElem (by omega), List.getD_eq_getElem?_getD, List.getElem?_eq_getElem (by omega)]
  rfl
section
variable {e : Ev}
theorem ok_Inward_pairs (t : Tx e) : Ok e 5 "Inward.pairs" ["self", "person", "inner"] (fun vs H Q _ => ∃ x v g ga sl names ties ns done gv tv r par p G, vs = [.ref x, .str p, parV r par p] ∧ Wd e.T G H ∧ IAt e G H x v g ga sl names ties ns done gv tv ∧ NextP names ties r par done gv p ∧
    ∀ q G' H' l us, Step e.T NoS G H G' H' → G' q = some (.lst us) → Paired (NumPair G' gv tv) us l → l.Perm (kids names ties r par p) → l.Pairwise (fun a b => gv a ≤ gv b) → Q (.ref q) H') := by
  refine t.f_Inward_pairs.ok sc_Inward_pairs (fun vs H Q E h => ?_) (fun cdv A outer s H vs Q E hcd hr h => ?_)
  · obtain ⟨x, v, g, ga, sl, names, ties, ns, done, gv, tv, r, par, p, G, rfl, _⟩ := h; rfl
  · obtain ⟨x, v, g, ga, sl, names, ties, ns, done, gv, tv, r, par, p, G, rfl, wd, I, N, k⟩ := h
    have hu := hu_of hr
    refine ⟨_, pss_one (ps_ret (pe_lc (own := [("name", 3)]) (g := gName 3) (tt := tYes) rfl sc_Inward_pairs.nd (pi_sq (pe_meth (pv 0) t.clI t.m_behind (ok_Inward_behind t) hr t.f_Inward_behind.b .nil pass0 (pa_cons (pv 1) (pa_cons (pv 2) pa_nil)))) (blkOk_by (N := ["self", "person", "inner", "name"]) (sc := defScope s_Inward_pairs) (by decide +kernel))
      (fun _ _ _ _ _ => pg_name (i := 3) sc_Inward_pairs.nd rfl (Or.inl rfl)) (fun _ _ _ _ _ => pts_nil) (fun _ _ _ _ _ => pe_tup (pa_cons (pe_dget hu (pe_fldC t.clI t.i_given (pv 0)) (pv 3) (fun _ _ => rfl)) (pa_cons (pe_dget hu (pe_fldC t.clI t.i_gave (pv 0)) (pv 3) (fun _ _ => rfl)) pa_nil))))), ?_⟩
    obtain ⟨dx, hx⟩ := I.hx
    refine ⟨_, rfl, x, dx, _, rfl, hx, rfl, _, rfl, _, rfl, x, v, g, ga, sl, names, ties, ns, done, gv, tv, r, par, p, G, rfl, wd, I, N, fun q1 G1 H1 l st1 gq pl pw => ?_⟩
    refine ⟨q1, sv l, rfl, .inl (st1.wd.sub _ _ gq), fun J wk D hD => ?_⟩
    have hD0 : H D = none := st1.free hD
    have I1 := I.step st1 (fun z => z) (fun z => z) (fun z => z)
    obtain ⟨⟨dx1, hx1⟩, hv1, ⟨gvs, hg1, hg2⟩, tvs, ht1, ht2⟩ := I1
    have hl : l.length ≤ 100 := by
      have h1 := pl.length_eq
      have : (kids names ties r par p).length ≤ (frn names ties p).length := List.length_filter_le _ _
      have : (frn names ties p).length ≤ names.length := List.length_filter_le _ _
      have := N.len
      omega
    refine lc_it wk (fun i H2 => ∃ G2 us, Step e.T NoS G H G2 H2 ∧ Same H1 H2 ∧ (∀ b o, G1 b = some o → G2 b = some o) ∧ G2 D = none ∧ H2 D = some (.lst us) ∧ Paired (NumPair G2 gv tv) us (l.take i)) ⟨G1, [], st1.hid1 hD, same_new hD, fun _ _ h => h, st1.hidN hD, upd_same, .nil⟩ (fun i H2 _ ⟨_, _, _, s2, _⟩ => sq_keep (.inl (st1.wd.sub _ _ gq)) fun o q _ => s2 _ _ q) ?_ ?_
    · rintro i u H2 H3 hi ⟨G2, us, st, s2, up, g2, d2, P2⟩ ⟨rfl, hu2⟩
      obtain ⟨y, hy, rfl⟩ := sv_get hu2
      obtain ⟨m1, m2⟩ := N.kid y (pl.mem_iff.mp (List.mem_of_getElem? hy))
      obtain ⟨u1, q1', rfl⟩ := hg2.get m1
      obtain ⟨u2, q2, rfl⟩ := ht2.get m1
      have e1 : DGet H3 g (.str y) (some (.int (gv y))) := by rw [← q1']; exact DGet.k (k := Sum.inr y) (s2 _ _ hg1)
      have e2 : DGet H3 ga (.str y) (some (.int (tv y))) := by rw [← q2]; exact DGet.k (k := Sum.inr y) (s2 _ _ ht1)
      refine ⟨rfl, yes_ ⟨_, rfl, x, dx1, _, _, rfl, s2 _ _ hx1, rfl, _, rfl, g, _, rfl, e1, _, rfl, x, dx1, _, _, rfl, s2 _ _ hx1, rfl, _, rfl, ga, _, rfl, e2, by show 2 ≤ sizeLine; decide, fun T hT => ⟨us, (upd_ne (ne_of_none d2 hT)).trans d2, ?_, ?_⟩⟩⟩
      · rw [Paired.len P2, List.length_take]
        exact hundred (by omega)
      · have st2 := st.new1 (o := .tup [.int (gv y), .int (tv y)]) hT noTbl_tup
        have nDT : D ≠ T := ne_of_none d2 hT
        refine ⟨_, _, st2.wr hD0 ((upd_ne nDT).trans g2) ((upd_ne nDT).trans d2) noTbl_lst (fun _ h => nomatch h), fun c o h => (upd_ne (ne_of_none h hD)).trans ((upd_ne (ne_of_none (s2 _ _ h) hT)).trans (s2 _ _ h)), fun c o h => (upd_ne (ne_of_none (up _ _ h) (st.hidN hT))).trans (up _ _ h), (upd_ne nDT).trans g2, upd_same, ?_⟩
        rw [take_snoc hy]
        exact Paired.snoc ⟨T, rfl, upd_same⟩ (Paired.mapP P2 fun _ _ ⟨q', h1, h2⟩ => ⟨q', h1, (upd_ne (ne_of_none h2 (st.hidN hT))).trans h2⟩)
    · rintro H2 ⟨G2, us, st, s2, up, g2, d2, P2⟩
      rw [List.length_map, List.take_length] at P2
      exact k D _ H2 l us (st.show hD0 d2 noTbl_lst fun u q => by rw [g2] at q; cases q) upd_same (Paired.mapP P2 fun _ _ ⟨q', h1, h2⟩ => ⟨q', h1, (upd_ne (ne_of_none h2 g2)).trans h2⟩) pl pw
theorem ok_Inward_in_order (t : Tx e) : Ok e 1 "Inward.in_order" ["self"] (fun vs H Q _ => ∃ x v g ga sl names ties ns done gv tv G svs fd H0, vs = [.ref x] ∧ Wd e.T G H ∧ IAt e G H x v g ga sl names ties ns done gv tv ∧ names.length ≤ 100 ∧ names.Nodup ∧ H sl = some (.dK svs) ∧ Dic svs done (fun y u => ListAt G (fd y) u ∧ NewV H0 u) ∧ (∀ y ∈ names, y ∈ done) ∧ (∀ b, H b = none → H0 b = none) ∧
    ∀ d G' H', Step e.T NoS G H G' H' → SlNew H0 G' d names fd → Q (.ref d) H') := by
  refine t.f_Inward_in_order.ok sc_Inward_in_order (fun vs H Q E h => ?_) (fun cdv A outer s H vs Q E hcd hr h => ?_)
  · obtain ⟨x, v, g, ga, sl, names, ties, ns, done, gv, tv, G, svs, fd, H0, rfl, _⟩ := h; rfl
  · obtain ⟨x, v, g, ga, sl, names, ties, ns, done, gv, tv, G, svs, fd, H0, rfl, wd, I, hl, nd, hs, Ds, all, h0, k⟩ := h
    have hu := hu_of hr
    obtain ⟨⟨dx, hx⟩, hv, _⟩ := I
    obtain ⟨dv, n, tt, w, f, rk, hv0, P⟩ := hv.parts
    have hv1 := wd.sub _ _ hv0
    have hn := wd.sub _ _ P.hn
    refine ⟨_, pss_one (ps_ret (pe_dc (own := [("name", 1)]) (g := gName 1) (tt := tYes) rfl sc_Inward_in_order.nd (pi_sq (pe_fldC t.clV t.v_names (pe_fldC t.clI t.i_village (pv 0)))) (blkOk_by (N := ["self", "name"]) (sc := defScope s_Inward_in_order) (by decide +kernel))
      (fun _ _ _ _ _ => pg_name (i := 1) sc_Inward_in_order.nd rfl (Or.inl rfl)) (fun _ _ _ _ _ => pts_nil) (fun _ _ _ _ _ => pv 1) (fun _ _ _ _ _ => pe_dget hu (pe_fldC t.clI t.i_slates (pv 0)) (pv 1) (fun _ _ => rfl)))), ?_⟩
    refine ⟨_, rfl, x, dx, _, .ref v, rfl, hx, rfl, v, dv, _, .ref n, rfl, hv1, rfl, n, sv names, rfl, .inr hn, fun J wk d hd => ?_⟩
    refine dc_it wk (fun i H2 => Same H H2 ∧ ∃ kvs, H2 d = some (.dK kvs) ∧ Dic kvs (names.take i) fun y u => ListAt G (fd y) u ∧ NewV H0 u) ⟨same_new hd, [], upd_same, .nil⟩ (fun i H2 _ ⟨s2, _⟩ => sq_keep (.inr hn) fun o q _ => s2 _ _ q) ?_ ?_
    · rintro i u H2 H3 hi ⟨s2, kvs, d2, D2⟩ ⟨rfl, hu2⟩
      obtain ⟨y, hy, rfl⟩ := sv_get hu2
      obtain ⟨u1, g1, l1⟩ := Ds.get (all y (List.mem_of_getElem? hy))
      have e1 : DGet H3 sl (.str y) (some u1) := by rw [← g1]; exact DGet.k (k := Sum.inr y) (s2 _ _ hs)
      refine ⟨rfl, yes_ ⟨_, rfl, _, rfl, x, dx, _, _, rfl, s2 _ _ hx, rfl, _, rfl, sl, _, rfl, e1, kvs, Sum.inr y, rfl, d2, ?_, fun c o h => (upd_ne (ne_of_none h hd)).trans (s2 c o h), _, upd_same, ?_⟩⟩
      · rw [D2.len, List.length_take]
        exact hundred (by omega)
      · rw [take_snoc hy]
        exact D2.put_new (nodup_take nd hy) l1
    · rintro H2 ⟨s2, kvs, d2, D2⟩
      rw [List.length_map, List.take_length] at D2
      exact k d _ H2 ((Step.same wd s2).show hd d2 noTbl_dK fun u q => by rw [wd.none hd] at q; cases q) ⟨h0 _ hd, kvs, upd_same, D2.mono fun y u _ h => ⟨h.1.up fun c o q => (upd_ne (ne_of_none q (wd.none hd))).trans q, h.2⟩⟩
theorem ok_Inward_go_through (t : Tx e) : Ok e 5 "Inward.go_through" ["self", "person", "inner", "front", "talk"] (fun vs H Q _ => ∃ x v g ga sl names ties ns done gv tv r par p G front svs, vs = [.ref x, .str p, parV r par p, .int front, .non] ∧ Wd e.T G H ∧ IAt e G H x v g ga sl names ties ns done gv tv ∧ NextP names ties r par done gv p ∧
    ns.length = names.length ∧ H sl = some (.dK svs) ∧ svs.length ≤ 100 ∧ G sl = none ∧ sl ≠ x ∧ sl ≠ g ∧ sl ≠ ga ∧ (p ≠ r → 1 ≤ front) ∧
    ∀ u G' H' l, Step e.T (fun b => b = sl) G H G' H' → l.Perm (kids names ties r par p) → l.Pairwise (fun a b => gv a ≤ gv b) →
      ((goThrough (inn r p) (par p) front gv tv (ownOf names ns p) l = none ∧ u = .non ∧ H' sl = some (.dK svs)) ∨ ∃ st q, goThrough (inn r p) (par p) front gv tv (ownOf names ns p) l = some st ∧ u = .int st.told ∧ H' sl = some (.dK (putK svs (Sum.inr p) (.ref q))) ∧ G' q = some (.lst (sv st.found)) ∧ H q = none) → Q u H') := by
  refine t.f_Inward_go_through.ok sc_Inward_go_through (fun vs H Q E h => ?_) (fun cdv A outer s H vs Q E hcd hr h => ?_)
  · obtain ⟨x, v, g, ga, sl, names, ties, ns, done, gv, tv, r, par, p, G, front, svs, rfl, _⟩ := h; rfl
  · obtain ⟨x, v, g, ga, sl, names, ties, ns, done, gv, tv, r, par, p, G, front, svs, rfl, wd, I, N, hln, hs, hls, gs, n1, n2, n3, hfr, k⟩ := h
    have hu := hu_of hr
    obtain ⟨dx, hx⟩ := I.hx
    obtain ⟨dv, n, tt, w, f, rk, hv0, P⟩ := I.hv.parts
    have hv1 := wd.sub _ _ hv0
    refine ⟨_, pss_cons (ps_par3 (i := 5) (j := 6) (l := 7) rfl sc_Inward_go_through.nd rfl rfl rfl (by decide) (by decide) (by decide) rfl rfl rfl (pa_cons (pe_ix ix_sq (pe_fldC t.clV t.v_own_news (pe_fldC t.clI t.i_village (pv 0))) (pe_dget hu (pe_fldC t.clV t.v_ranks (pe_fldC t.clI t.i_village (pv 0))) (pv 1) (fun _ _ => rfl)) (fun _ _ => rfl)) (pa_cons (pe_lst pa_nil) (pa_cons pe_int pa_nil))) (by rfl))
      (C8.pss_cut (ps_set (i := 8) sc_Inward_go_through.nd rfl (.inl rfl) (pe_and (pe_cmpR op_notN (pv 2) pe_non (nomark _)) (pe_one (pe_or (pe_cmpR op_notN (pv 4) pe_non (nomark _)) (pe_one (pe_cmpR op_gt (pv 3) pe_int (nomark _)))))))
      (pss_cons (ps_for PassesOwn.never rfl (pi_sq (pe_meth (pv 0) t.clI t.m_behind (ok_Inward_behind t) hr t.f_Inward_behind.b .nil pass0 (pa_cons (pv 1) (pa_cons (pv 2) pa_nil)))) (pg_name (i := 9) sc_Inward_go_through.nd rfl (.inl rfl))
        (C8.pss_cut (ps_if (PW.pt (pw_and (pt_cmpR op_ne (pe_dget hu (pe_fldC t.clI t.i_given (pv 0)) (pv 9) (fun _ _ => rfl)) (pv 5) (nomark _)) (pw_and (pt_val (pv 8)) (pw_and1 (pt_cmpR op_eq (pv 7) pe_int (nomark _))))))
          (pss_cons (ps_expr (pe_bm PySem.F.plainAttrs_list PySem.F.slot_list_append PySem.F.type_list_append mt_append (pv 6) (pa_cons (pv 2) pa_nil)))
          (pss_one (ps_par (i := 7) (j := 5) rfl sc_Inward_go_through.nd rfl rfl (by decide) rfl rfl (pa_cons (pv 5) (pa_cons (pe_ifExp (pt_cmpR op_isN (pv 4) pe_non (nomark _)) (pe_op op_add (pv 5) (pv 3)) (pv 4)) pa_nil)) (by rfl)))) pss_nil)
        (pss_cons (ps_if (pt_cmpR op_ne (pe_dget hu (pe_fldC t.clI t.i_given (pv 0)) (pv 9) (fun _ _ => rfl)) (pv 5) (nomark _)) (pss_one (ps_ret pe_non)) pss_nil)
        (pss_cons (ps_expr (pe_bm PySem.F.plainAttrs_list PySem.F.slot_list_append PySem.F.type_list_append mt_append (pv 6) (pa_cons (pv 9) pa_nil)))
        (pss_one (ps_set (i := 5) sc_Inward_go_through.nd rfl (.inl rfl) (pe_op op_add (pv 5) (pe_dget hu (pe_fldC t.clI t.i_gave (pv 0)) (pv 9) (fun _ _ => rfl)))))))))
      (C8.pss_cut (ps_if (PW.pt (pw_and (pt_val (pv 8)) (pw_and1 (pt_cmpR op_eq (pv 7) pe_int (nomark _)))))
        (pss_cons (ps_expr (pe_bm PySem.F.plainAttrs_list PySem.F.slot_list_append PySem.F.type_list_append mt_append (pv 6) (pa_cons (pv 2) pa_nil)))
        (pss_one (ps_set (i := 7) sc_Inward_go_through.nd rfl (.inl rfl) (pv 5)))) pss_nil)
      (pss_cons (ps_dput hu (pe_fldC t.clI t.i_slates (pv 0)) (pv 1) (pv 6) rfl)
      (pss_one (ps_ret (pv 7))))))), ?_⟩
    obtain ⟨rvs, hr1, hr2⟩ := P.hr
    obtain ⟨u, gu, rfl⟩ := hr2.get N.mem
    have gr : DGet H rk (.str p) (some (.int (names.idxOf p : Nat))) := by rw [← gu]; exact DGet.k (k := Sum.inr p) (wd.sub _ _ hr1)
    have hown : (iv ns)[names.idxOf p]? = some (.int (ownOf names ns p)) := by rw [List.getElem?_map, ownOf_at N.mem hln]; rfl
    refine ⟨_, rfl, x, dx, _, .ref v, rfl, hx, rfl, v, dv, _, .ref w, rfl, hv1, rfl, _, rfl, x, dx, _, .ref v, rfl, hx, rfl, v, dv, _, .ref rk, rfl, hv1, rfl, _, rfl, rk, _, rfl, gr, w, iv ns, _, .int (ownOf names ns p), rfl, rfl, .inr (wd.sub _ _ P.hw), atI_nat hown, by show 0 ≤ sizeLine; decide, fun fa hfa => ⟨_, _, _, rfl, ?_⟩⟩
    have gfa : G fa = none := wd.none hfa
    have s0 : Step e.T NoS G H G (upd H fa (.lst [])) := Step.hid wd hfa
    have efa : upd H fa (.lst []) fa = some (.lst (sv [])) := upd_same
    have I0 := I.step s0 (fun z => z) (fun z => z) (fun z => z)
    have hs0 := s0.own hs (fun z => z) noTbl_dK
    generalize upd H fa (.lst []) = H0 at *
    obtain ⟨dx0, hx0⟩ := I0.hx
    -- is_met
    refine ⟨fun σ' H' => σ' = [some (.ref x), some (.str p), some (parV r par p), some (.int front), some .non, some (.int (ownOf names ns p)), some (.ref fa), some (.int 0), some (.bl (inn r p)), none] ∧ H' = H0, ?_, ?_⟩
    · by_cases q : p = r
      · have e1 : parV r par p = .non := if_pos q
        refine ⟨_, rfl, rfl, false, ?_, iteF ⟨?_, rfl⟩⟩
        · rw [e1]; rfl
        · rw [show inn r p = false from decide_eq_false (fun h => h q)]
          rfl
      · have e1 : parV r par p = .str (par p) := if_neg q
        refine ⟨_, rfl, rfl, true, ?_, iteT ⟨_, rfl, rfl, false, rfl, iteF ⟨_, rfl, _, _, rfl, rfl, ?_, rfl⟩⟩⟩
        · rw [e1]; rfl
        · have := hfr q
          rw [inn_t q]
          exact congrArg (fun b : Bool => ([some (.ref x), some (.str p), some (parV r par p), some (.int front), some .non, some (.int (ownOf names ns p)), some (.ref fa), some (.int 0), some (.bl b), none] : L2.St)) (decide_eq_true (show (0 : Int) < front by omega))
    rintro σ' H' ⟨rfl, rfl⟩
    -- the loop
    refine ⟨_, rfl, x, dx0, _, rfl, hx0, rfl, _, rfl, _, rfl, x, v, g, ga, sl, names, ties, ns, done, gv, tv, r, par, p, G, rfl, s0.wd, I0, N, fun q1 G1 H1 l st1 gq pl pw => ⟨q1, sv l, rfl, .inl (st1.wd.sub _ _ gq), fun J wk => ?_⟩⟩
    have I1 := I0.step st1 (fun z => z) (fun z => z) (fun z => z)
    obtain ⟨⟨dx1, hx1⟩, hv1', ⟨gvs, hg1, hg2⟩, tvs, ht1, ht2⟩ := I1
    have hs1 := st1.own hs0 (fun z => z) noTbl_dK
    have efa1 := st1.own efa (fun z => z) noTbl_lst
    have gfa1 : G1 fa = none := st1.hidden efa gfa
    have gsl1 : G1 sl = none := st1.hidden hs0 gs
    have nqf : q1 ≠ fa := fun z => by rw [z, gfa1] at gq; cases gq
    have nxf : x ≠ fa := fun z => by rw [z, efa1] at hx1; cases hx1
    have ngf : g ≠ fa := fun z => by rw [z, efa1] at hg1; cases hg1
    have naf : ga ≠ fa := fun z => by rw [z, efa1] at ht1; cases ht1
    have nsf : sl ≠ fa := fun z => by rw [z, efa1] at hs1; cases hs1
    have hl : l.length ≤ 100 := by
      have h1 := pl.length_eq
      have : (kids names ties r par p).length ≤ (frn names ties p).length := List.length_filter_le _ _
      have : (frn names ties p).length ≤ names.length := List.length_filter_le _ _
      have := N.len
      omega
    have a1 : Step e.T (fun b => b = sl) G H G1 H1 := (s0.trans st1).no
    have hmet : inn r p = true → parV r par p = .str (par p) := fun h => if_neg (of_decide_eq_true h)
    refine for_it wk (fun i σ H3 => ∃ (v9 : Option V) (st : GS Str), σ = [some (.ref x), some (.str p), some (parV r par p), some (.int front), some .non, some (.int st.total), some (.ref fa), some (.int st.told), some (.bl (inn r p)), v9] ∧ Step e.T (fun b => b = sl) G H G1 H3 ∧ (∀ b o, b ≠ fa → H1 b = some o → H3 b = some o) ∧ H3 fa = some (.lst (sv st.found)) ∧
        st.found.length ≤ 2 * i ∧ goAll (inn r p) (par p) front gv tv ⟨ownOf names ns p, [], 0⟩ (l.take i) = some st)
      ⟨none, ⟨ownOf names ns p, [], 0⟩, rfl, a1, fun _ _ _ h => h, efa1, Nat.le_refl _, rfl⟩ (fun i σ H3 _ ⟨_, _, _, _, fr, _⟩ => sq_keep (.inl (st1.wd.sub _ _ gq)) fun o q _ => fr _ _ nqf q) ?_ ?_
    · rintro i u H3 σ3 H4 hi ⟨v9, st, rfl, a3, fr, f3, fl, ga3⟩ ⟨rfl, hu2⟩
      obtain ⟨y, hy, rfl⟩ := sv_get hu2
      obtain ⟨m1, m2⟩ := N.kid y (pl.mem_iff.mp (List.mem_of_getElem? hy))
      obtain ⟨u1, q1', rfl⟩ := hg2.get m1
      obtain ⟨u2, q2, rfl⟩ := ht2.get m1
      have hi100 : i < 100 := by
        have : i < (sv l).length := hi
        rw [List.length_map] at this
        omega
      have big : ∀ {k : Nat}, k ≤ 2 * i + 2 → k < sizeLine := fun h => Nat.lt_of_le_of_lt h (Nat.lt_of_le_of_lt (show 2 * i + 2 ≤ 202 by omega) (by decide))
      refine ⟨fun σ' H' => σ' = [some (.ref x), some (.str p), some (parV r par p), some (.int front), some .non, some (.int (goIns (inn r p) (par p) front gv st y).total), some (.ref fa), some (.int (goIns (inn r p) (par p) front gv st y).told), some (.bl (inn r p)), some (.str y)] ∧ Step e.T (fun b => b = sl) G H G1 H' ∧ (∀ b o, b ≠ fa → H1 b = some o → H' b = some o) ∧ H' fa = some (.lst (sv (goIns (inn r p) (par p) front gv st y).found)) ∧
          (goIns (inn r p) (par p) front gv st y).found.length ≤ 2 * i + 1, ?_, ?_⟩
      · have e1 : DGet H4 g (.str y) (some (.int (gv y))) := by rw [← q1']; exact DGet.k (k := Sum.inr y) (fr _ _ ngf hg1)
        have stay : ¬ (gv y ≠ st.total ∧ inn r p = true ∧ st.told = 0) → goIns (inn r p) (par p) front gv st y = st := fun h => if_neg h
        have keep : ¬ (gv y ≠ st.total ∧ inn r p = true ∧ st.told = 0) → ([some (.ref x), some (.str p), some (parV r par p), some (.int front), some .non, some (.int st.total), some (.ref fa), some (.int st.told), some (.bl (inn r p)), some (.str y)] : L2.St) = [some (.ref x), some (.str p), some (parV r par p), some (.int front), some .non, some (.int (goIns (inn r p) (par p) front gv st y).total), some (.ref fa), some (.int (goIns (inn r p) (par p) front gv st y).told), some (.bl (inn r p)), some (.str y)] ∧ Step e.T (fun b => b = sl) G H G1 H4 ∧ (∀ b o, b ≠ fa → H1 b = some o → H4 b = some o) ∧ H4 fa = some (.lst (sv (goIns (inn r p) (par p) front gv st y).found)) ∧
            (goIns (inn r p) (par p) front gv st y).found.length ≤ 2 * i + 1 := fun h => by
          rw [stay h]
          exact ⟨rfl, a3, fr, f3, by omega⟩
        refine ⟨_, rfl, x, dx1, _, _, rfl, fr _ _ nxf hx1, rfl, _, rfl, g, _, rfl, e1, _, rfl, rfl, _, rfl, ?_⟩
        by_cases c1 : gv y = st.total
        · rw [decide_eq_true (congrArg V.int c1)]
          exact iteF (keep fun h => h.1 c1)
        · rw [decide_eq_false (fun h => c1 (by injection h))]
          refine iteT ⟨_, rfl, inn r p, rfl, ?_⟩
          by_cases c2 : inn r p = true
          · refine iteT' c2 ⟨_, rfl, rfl, _, rfl, ?_⟩
            by_cases c3 : st.told = 0
            · rw [decide_eq_true (congrArg V.int c3)]
              have eg : goIns (inn r p) (par p) front gv st y = ⟨st.total + front, st.found ++ [par p], st.total⟩ := if_pos ⟨c1, c2, c3⟩
              refine iteT ⟨_, rfl, .inl ⟨rfl, _, SqL.of f3⟩, _, rfl, fa, _, _, rfl, rfl, f3, by rw [List.length_map]; exact big (by omega), ?_⟩
              refine ⟨_, rfl, _, rfl, rfl, true, rfl, ?_⟩
              refine ⟨_, rfl, _, rfl, _, _, rfl, rfl, _, _, rfl, ?_⟩
              rw [eg]
              refine ⟨rfl, a3.wr hfa gfa1 f3 noTbl_lst (fun _ h => nomatch h), fun b o h1 h2 => (upd_ne h1).trans (fr b o h1 h2), ?_, by rw [List.length_append]; simp; omega⟩
              rw [upd_same, hmet c2]
              simp [sv]
            · rw [decide_eq_false (fun h => c3 (by injection h))]
              exact iteF (keep fun h => c3 h.2.2)
          · rw [Bool.not_eq_true] at c2
            refine iteF' c2 ?_
            exact iteF <| keep fun h => by rw [c2] at h; exact Bool.noConfusion h.2.1
      · rintro σ' H' ⟨rfl, a4, fr4, f4, fl4⟩
        have e1 : DGet H' g (.str y) (some (.int (gv y))) := by rw [← q1']; exact DGet.k (k := Sum.inr y) (fr4 _ _ ngf hg1)
        refine ⟨_, rfl, x, dx1, _, _, rfl, fr4 _ _ nxf hx1, rfl, _, rfl, g, _, rfl, e1, _, rfl, rfl, _, rfl, ?_⟩
        have el : l.take (i + 1) = l.take i ++ [y] := take_snoc hy
        by_cases c1 : gv y = (goIns (inn r p) (par p) front gv st y).total
        · rw [decide_eq_true (congrArg V.int c1)]
          refine iteF ?_
          refine ⟨_, rfl, .inl ⟨rfl, _, SqL.of f4⟩, _, rfl, fa, _, _, rfl, rfl, f4, by rw [List.length_map]; exact big (by omega), ?_⟩
          have fr5 : ∀ b o, b ≠ fa → H1 b = some o → upd H' fa (.lst (sv (goIns (inn r p) (par p) front gv st y).found ++ [.str y])) b = some o := fun b o h1 h2 => (upd_ne h1).trans (fr4 b o h1 h2)
          have e2 : DGet (upd H' fa (.lst (sv (goIns (inn r p) (par p) front gv st y).found ++ [.str y]))) ga (.str y) (some (.int (tv y))) := by rw [← q2]; exact DGet.k (k := Sum.inr y) (fr5 _ _ naf ht1)
          refine ⟨_, rfl, _, rfl, x, dx1, _, _, rfl, fr5 _ _ nxf hx1, rfl, _, rfl, ga, _, rfl, e2, _, _, rfl, rfl, ?_⟩
          refine ⟨_, ⟨(goIns (inn r p) (par p) front gv st y).total + tv y, (goIns (inn r p) (par p) front gv st y).found ++ [y], (goIns (inn r p) (par p) front gv st y).told⟩, rfl, a4.wr hfa gfa1 f4 noTbl_lst (fun _ h => nomatch h), fr5, ?_, by rw [List.length_append]; simp; omega, ?_⟩
          · rw [upd_same]
            simp [sv]
          · rw [el, goAll_snoc, ga3]
            show goStep _ _ _ _ _ st y = _
            unfold goStep
            rw [if_neg (fun h => h c1)]
        · rw [decide_eq_false (fun h => c1 (by injection h))]
          refine iteT ?_
          refine k .non G1 H' l a4 pl pw (.inl ⟨?_, rfl, fr4 _ _ nsf hs1⟩)
          have gn : goAll (inn r p) (par p) front gv tv ⟨ownOf names ns p, [], 0⟩ (l.take (i + 1)) = none := by
            rw [el, goAll_snoc, ga3]
            show goStep _ _ _ _ _ st y = _
            unfold goStep
            rw [if_pos c1]
          have gn2 := goAll_none_app (m := l.drop (i + 1)) gn
          rw [List.take_append_drop] at gn2
          unfold goThrough
          rw [gn2]
          rfl
    · rintro σ H3 ⟨v9, st, rfl, a3, fr, f3, fl, ga3⟩
      rw [List.length_map, List.take_length] at ga3
      rw [List.length_map] at fl
      have gth : goThrough (inn r p) (par p) front gv tv (ownOf names ns p) l = some (goEnd (inn r p) (par p) st) := by
        unfold goThrough
        rw [ga3]
        rfl
      refine ⟨fun σ' H' => ∃ v9, σ' = [some (.ref x), some (.str p), some (parV r par p), some (.int front), some .non, some (.int (goEnd (inn r p) (par p) st).total), some (.ref fa), some (.int (goEnd (inn r p) (par p) st).told), some (.bl (inn r p)), v9] ∧ Step e.T (fun b => b = sl) G H G1 H' ∧ (∀ b o, b ≠ fa → H1 b = some o → H' b = some o) ∧ H' fa = some (.lst (sv (goEnd (inn r p) (par p) st).found)), ?_, ?_⟩
      · refine ⟨_, rfl, inn r p, rfl, ?_⟩
        cases hi : inn r p with
        | false =>
          refine iteF ?_
          refine iteF ⟨v9, ?_, a3, fr, ?_⟩
          · unfold goEnd
            rw [if_neg (fun h => Bool.noConfusion h.1)]
          · unfold goEnd
            rw [if_neg (fun h => Bool.noConfusion h.1)]
            exact f3
        | true =>
          refine iteT ⟨_, rfl, rfl, _, rfl, ?_⟩
          by_cases q : st.told = 0
          · rw [decide_eq_true (congrArg V.int q)]
            refine iteT ⟨_, rfl, .inl ⟨rfl, _, SqL.of f3⟩, _, rfl, fa, _, _, rfl, rfl, f3, by rw [List.length_map]; exact Nat.lt_of_le_of_lt fl (Nat.lt_of_le_of_lt (Nat.mul_le_mul_left 2 hl) (by decide)), _, rfl, v9, ?_, a3.wr (hfa) gfa1 f3 noTbl_lst (fun _ h => nomatch h), fun b o h1 h2 => (upd_ne h1).trans (fr b o h1 h2), ?_⟩
            · unfold goEnd
              rw [if_pos ⟨rfl, q⟩]
              rfl
            · unfold goEnd
              rw [if_pos ⟨rfl, q⟩, upd_same, hmet hi]
              simp [sv]
          · rw [decide_eq_false (fun h => q (by injection h))]
            refine iteF ⟨v9, ?_, a3, fr, ?_⟩
            · unfold goEnd
              rw [if_neg (fun h => q h.2)]
            · unfold goEnd
              rw [if_neg (fun h => q h.2)]
              exact f3
      · rintro σ' H' ⟨v9', rfl, a4, fr4, f4⟩
        have hs4 := fr4 _ _ nsf hs1
        have hx4 := fr4 _ _ nxf hx1
        refine ⟨_, rfl, _, rfl, x, dx1, _, .ref sl, rfl, hx4, rfl, _, rfl, sl, _, rfl, DPut.k (k := Sum.inr p) hs4 (hundred hls), _, rfl, ?_⟩
        have a5 : Step e.T (fun b => b = sl) G H G1 (upd H' sl (.dK (putK svs (Sum.inr p) (.ref fa)))) := a4.wrS rfl gsl1 hs4 noTbl_dK (fun _ h => nomatch h)
        have a6 := a5.show (hfa) ((upd_ne nsf.symm).trans f4) noTbl_lst fun u q => by rw [gfa1] at q; cases q
        exact k _ _ _ l a6 pl pw (.inr ⟨_, fa, gth, rfl, upd_same, upd_same, hfa⟩)
end
end K12

set_option maxHeartbeats 4000000
namespace K12
open PySem PySem.Spec PyProof.Rows L2 LamX NdefX
/-- what is worked back: slates with these numbers, or none -/
def Worked (H0 G : Hp) (names : List Str) (ties : List (Str × Str)) (own num : Str → Int) (a b : V) : Prop :=
  (∃ s d, Good names ties own num s ∧ a = .ref d ∧ SlNew H0 G d names s ∧ b = .non) ∨ ((∀ s, ¬ Good names ties own num s) ∧ a = .non ∧ ∃ w, b = .ref w)
theorem Worked.less {H H' G : Hp} {names : List Str} {ties : List (Str × Str)} {own num : Str → Int} {a b : V} (w : Worked H' G names ties own num a b) (e : ∀ b, H' b = none → H b = none) : Worked H G names ties own num a b := by
  rcases w with ⟨s, d, h1, h2, h3, h4⟩ | h
  · exact .inl ⟨s, d, h1, h2, h3.less e, h4⟩
  · exact .inr h
theorem vil_of {names : List Str} {ties : List (Str × Str)} {ns : List Int} (tr : IsTree names ties) (hp : ∀ n ∈ ns, (1 : Int) ≤ n) (hl : ns.length = names.length) : Vil names ties (ownOf names ns) :=
  ⟨tr, fun x hx => hp _ (List.mem_of_getElem? (ownOf_at hx hl))⟩
section
variable {e : Ev}
theorem ok_worked_back (t : Tx e) : Ok e 6 "worked_back" ["village", "numbers", "least"] (fun vs H Q _ => ∃ v d names ties ns num G, vs = [.ref v, .ref d, .int 1] ∧ Wd e.T G H ∧ VAt e.CV G v names ties ns ∧ IsTree names ties ∧ names.length ≤ 100 ∧ (∀ n ∈ ns, (1 : Int) ≤ n) ∧ ns.length = names.length ∧ NumP G d names num ∧
    ∀ q G' H' a b, Step e.T NoS G H G' H' → G' q = some (.tup [a, b]) → Worked H G' names ties (ownOf names ns) num a b → Q (.ref q) H') := by
  refine t.f_worked_back.ok sc_worked_back (fun vs H Q E h => ?_) (fun cdv A outer s H vs Q E hcd hr h => ?_)
  · obtain ⟨v, d, names, ties, ns, num, G, rfl, _⟩ := h; rfl
  · obtain ⟨v, d, names, ties, ns, num, G, rfl, wd, hv, tr, hl, hpos, hln, hd, k⟩ := h
    have hu := hu_of hr
    have nd := tr.nodup
    have V0 := vil_of tr hpos hln
    obtain ⟨dv, n, tt, w, f, rk, hv0, P⟩ := hv.parts
    refine ⟨_, pss_cons (ps_set (i := 3) sc_worked_back.nd rfl (.inl rfl) (pe_make t.mkI (ok_Inward_init t) (hr.mono (by decide)) (by rfl) t.mgI t.f_Inward_init.b .nil pass0 (pa_cons (pv 0) pa_nil)))
      (pss_cons (ps_for PassesOwn.never rfl (pi_sq (pe_call (ok_rim_order t) hr (by rfl) t.f_rim_order.mg t.f_rim_order.kp t.f_rim_order.b .nil pass0 (pa_cons (pv 0) pa_nil))) (pg_tup rfl (pgs_cons (pg_name (i := 4) sc_worked_back.nd rfl (.inl rfl)) (pgs_cons (pg_name (i := 5) sc_worked_back.nd rfl (.inl rfl)) pgs_nil)))
        (pss_cons (ps_par (i := 6) (j := 7) rfl sc_worked_back.nd rfl rfl (by decide) rfl rfl (pa_cons (pe_meth (pv 3) t.clI t.m_pairs (ok_Inward_pairs t) hr t.f_Inward_pairs.b .nil pass0 (pa_cons (pv 4) (pa_cons (pv 5) pa_nil))) (pa_cons pe_non pa_nil)) (by rfl))
        (pss_cons (ps_set (i := 8) sc_worked_back.nd rfl (.inl rfl) (pe_op op_sub (pe_op op_sub (pe_dget hu (pv 1) (pv 4) (fun _ _ => rfl)) (pe_ix ix_sq (pe_fldC t.clV t.v_own_news (pv 0)) (pe_dget hu (pe_fldC t.clV t.v_ranks (pv 0)) (pv 4) (fun _ _ => rfl)) (fun _ _ => rfl)))
          (pe_callB (cr_sum rfl) (by rfl) t.n_sum bt_sum (pa_cons (pe_lc (own := [("given", 9), ("gave", 10)]) (g := gTup e.K 2 (gCons (gName 9) (gCons (gName 10) gNil))) (tt := tYes) rfl sc_worked_back.nd (pi_sq (pv 6)) (blkOk_by (N := ["village", "numbers", "least", "inward", "person", "inner", "pairs", "told", "front", "given", "gave"]) (sc := defScope s_worked_back) (by decide +kernel))
            (fun _ _ _ _ _ => pg_tup (n := 2) rfl (pgs_cons (pg_name (i := 9) sc_worked_back.nd rfl (Or.inl rfl) (Or.inr rfl)) (pgs_cons (pg_name (i := 10) sc_worked_back.nd rfl (Or.inl rfl) (Or.inr rfl)) pgs_nil))) (fun _ _ _ _ _ => pts_nil) (fun _ _ _ _ _ => pv 10)) pa_nil))))
        (C8.pss_cut (ps_if (PW.pt (pw_or (PW.pt (pw_and (pt_cmpR op_isN (pv 5) pe_non (nomark _)) (pw_and1 (pt_cmpR op_eq (pv 8) pe_int (nomark _))))) (pw_or1 (PW.pt (pw_and (pt_cmpR op_notN (pv 5) pe_non (nomark _)) (pw_and1 (pt_cmpR op_ge (pv 8) (pv 2) (nomark _))))))))
          (pss_one (ps_set (i := 7) sc_worked_back.nd rfl (.inl rfl) (pe_meth (pv 3) t.clI t.m_go_through (ok_Inward_go_through t) hr t.f_Inward_go_through.b .nil pass0 (pa_cons (pv 4) (pa_cons (pv 5) (pa_cons (pv 8) (pa_cons pe_non pa_nil))))))) pss_nil)
        (pss_cons (ps_if (pt_cmpR op_isN (pv 7) pe_non (nomark _)) (pss_one (ps_ret (pe_tup (pa_cons pe_non (pa_cons (pe_tup (pa_cons (pv 4) (pa_cons (pv 8) (pa_cons (pv 6) pa_nil)))) pa_nil))))) pss_nil)
        (pss_one (ps_asg (pe_tup (pa_cons (pv 8) (pa_cons (pv 7) pa_nil))) (pg_tup rfl (pgs_cons (pg_sub (pe_fldC t.clI t.i_given (pv 3)) (pv 4) (set_dict hu)) (pgs_cons (pg_sub (pe_fldC t.clI t.i_gave (pv 3)) (pv 4) (set_dict hu)) pgs_nil))))))))))
      (pss_one (ps_ret (pe_tup (pa_cons (pe_meth0 (pv 3) t.clI t.m_in_order (ok_Inward_in_order t) (hr.mono (by decide)) t.f_Inward_in_order.b .nil pass0) (pa_cons pe_non pa_nil)))))), ?_⟩
    -- inward = Inward(village)
    refine ⟨_, rfl, fun x dx nx ndx nex => ⟨x, v, dx, rfl, upd_same, fun H1 g ga sl fr1 ng nga nsl n1 n2 n3 hx1 hg1 hga1 hs1 => ⟨rfl, ?_⟩⟩⟩
    have up0 : ∀ b o, H b = some o → upd (upd H dx (.own x)) x (.ins e.CI dx []) b = some o := fun b o h => (upd_ne (ne_of_none h nx)).trans ((upd_ne (ne_of_none h ndx)).trans h)
    have sH1 : Same H H1 := fun b o h => fr1 b o (up0 b o h) (ne_of_none h nx)
    have fresh : ∀ b, upd (upd H dx (.own x)) x (.ins e.CI dx []) b = none → H b = none := fun b h => by
      cases q : H b with
      | none => rfl
      | some o => rw [up0 b o q] at h; cases h
    have g0 := fresh _ ng
    have ga0 := fresh _ nga
    have s0 := fresh _ nsl
    have st1 : Step e.T NoS G H G H1 := Step.same wd sH1
    -- rim_order
    refine ⟨_, rfl, v, names, ties, ns, G, rfl, st1.wd, hv, tr, hl, fun p0 G2 H2 r par dep ord st2 rim => ?_⟩
    obtain ⟨R, far, rows, hrow, Prow⟩ := rim
    have a2 := st1.trans st2
    have hx2 := st2.own hx1 (fun z => z) noTbl_ins
    have hg2 := st2.own hg1 (fun z => z) noTbl_dK
    have hga2 := st2.own hga1 (fun z => z) noTbl_dK
    have hs2 := st2.own hs1 (fun z => z) noTbl_dK
    have Gx : G2 x = none := st2.hidden hx1 (wd.none nx)
    have Gg : G2 g = none := st2.hidden hg1 (wd.none g0)
    have Gga : G2 ga = none := st2.hidden hga1 (wd.none ga0)
    have Gs : G2 sl = none := st2.hidden hs1 (wd.none s0)
    have lrow : rows.length = ord.length := Paired.len Prow
    have lord : ord.length = names.length := far.1.length_eq
    have nxg : x ≠ g := fun z => by rw [z, hg2] at hx2; cases hx2
    have nxga : x ≠ ga := fun z => by rw [z, hga2] at hx2; cases hx2
    have nxs : x ≠ sl := fun z => by rw [z, hs2] at hx2; cases hx2
    have hp0 := a2.wd.sub _ _ hrow
    refine ⟨p0, rows, rfl, .inl hp0, fun J wk => for_it wk (fun i σ H3 => ∃ (v4 v5 v6 v7 v8 v9 v10 : Option V) (G3 : Hp) (gv tv : Str → Int) (fd : Str → List Str) (svs : List (Key × V)), σ = [some (.ref v), some (.ref d), some (.int 1), some (.ref x), v4, v5, v6, v7, v8, v9, v10] ∧ Step e.T NoS G H G3 H3 ∧ (∀ b o, G2 b = some o → G3 b = some o) ∧ G3 x = none ∧ G3 g = none ∧ G3 ga = none ∧ G3 sl = none ∧
        IAt e G3 H3 x v g ga sl names ties ns (ord.take i) gv tv ∧ H3 sl = some (.dK svs) ∧ Dic svs (ord.take i) (fun y u => ListAt G3 (fd y) u ∧ NewV H u) ∧ BInv names ties (ownOf names ns) num r par (ord.take i) gv tv fd)
      ⟨_, _, _, _, _, _, _, G2, fun _ => 0, fun _ => 0, fun _ => [], [], rfl, a2, fun _ _ h => h, Gx, Gg, Gga, Gs, ⟨⟨dx, hx2⟩, hv.up a2.up, ⟨[], hg2, .nil⟩, [], hga2, .nil⟩, hs2, .nil, BInv.nil⟩ (fun i σ H3 _ ⟨_, _, _, _, _, _, _, G3, _, _, _, _, _, a3, up, _⟩ => sq_keep (.inl hp0) fun o q _ => ?_) ?_ ?_⟩
    · have e1 := hp0.symm.trans q
      rw [← e1]
      exact a3.wd.sub _ _ (up _ _ hrow)
    · rintro i u σ H3 H4 hi ⟨v4, v5, v6, v7, v8, v9, v10, G3, gv, tv, fd, svs, rfl, a3, up, gx, gg, gga, gs, I3, hs3, Ds, B⟩ ⟨rfl, hu2⟩
      obtain ⟨p, hp, q0, rfl, hq0⟩ := Paired.getL Prow hu2
      have mp : p ∈ names := far.1.mem_iff.mp (List.mem_of_getElem? hp)
      have np : p ∉ ord.take i := far.not_done nd hp
      have hk := far.kids R hp
      have N : NextP names ties r par (ord.take i) gv p := ⟨mp, fun y hy => ⟨hk y hy, (B.pos y (hk y hy) (kid_par R mp hy).1).1⟩, nd, hl⟩
      obtain ⟨dx3, hx3⟩ := I3.hx
      refine ⟨q0, _, rfl, SqT.of (a3.wd.sub _ _ (up _ _ hq0)), rfl, _, _, rfl, _, _, rfl, rfl, ?_⟩
      -- pairs
      refine ⟨_, rfl, x, dx3, _, rfl, hx3, rfl, _, rfl, _, rfl, x, v, g, ga, sl, names, ties, ns, ord.take i, gv, tv, r, par, p, G3, rfl, a3.wd, I3, N, fun pa G5 H5 l us st5 hpa Pl pl pw => ⟨_, _, rfl, ?_⟩⟩
      have a5 := a3.trans st5
      have I5 := I3.step st5 (fun z => z) (fun z => z) (fun z => z)
      have hs5 := st5.own hs3 (fun z => z) noTbl_dK
      have up5 : ∀ b o, G2 b = some o → G5 b = some o := fun b o h => st5.up _ _ (up b o h)
      have upG : ∀ b o, G b = some o → H5 b = some o := fun b o h => a5.get h
      have gx5 : G5 x = none := st5.hidden hx3 gx
      have gg5 : G5 g = none := by obtain ⟨_, h, _⟩ := I3.hg; exact st5.hidden h gg
      have gga5 : G5 ga = none := by obtain ⟨_, h, _⟩ := I3.hga; exact st5.hidden h gga
      have gs5 : G5 sl = none := st5.hidden hs3 gs
      have gd : DGet H5 d (.str p) (some (.int (num p))) := (hd.up upG).get mp
      obtain ⟨rvs, hr1, hr2⟩ := P.hr
      obtain ⟨u1, gu1, rfl⟩ := hr2.get mp
      have gr : DGet H5 rk (.str p) (some (.int (names.idxOf p : Nat))) := by rw [← gu1]; exact DGet.k (k := Sum.inr p) (upG _ _ hr1)
      have hown : (iv ns)[names.idxOf p]? = some (.int (ownOf names ns p)) := by rw [List.getElem?_map, ownOf_at mp hln]; rfl
      have hv5 := upG _ _ hv0
      have hpa5 := st5.wd.sub _ _ hpa
      refine ⟨_, rfl, _, rfl, d, _, rfl, gd, _, rfl, v, dv, _, .ref w, rfl, hv5, rfl, _, rfl, v, dv, _, .ref rk, rfl, hv5, rfl, _, rfl, rk, _, rfl, gr, w, iv ns, _, .int (ownOf names ns p), rfl, rfl, .inr (upG _ _ P.hw), atI_nat hown, _, _, rfl, rfl, ?_⟩
      have ll : l.length ≤ 100 := by
        have h1 := pl.length_eq
        have : (kids names ties r par p).length ≤ (frn names ties p).length := List.length_filter_le _ _
        have : (frn names ties p).length ≤ names.length := List.length_filter_le _ _
        omega
      have lus : us.length = l.length := Paired.len Pl
      refine ⟨_, rfl, pa, us, rfl, .inl hpa5, fun J2 wk2 D hD => ?_⟩
      refine lc_it wk2 (fun j H6 => Same H5 H6 ∧ H6 D = some (.lst (iv ((l.take j).map tv)))) ⟨same_new hD, upd_same⟩ (fun j H6 _ ⟨s6, _⟩ => sq_keep (.inl hpa5) fun o q _ => s6 _ _ q) ?_ ?_
      · rintro j u2 H6 H7 hj ⟨s6, d6⟩ ⟨rfl, hu3⟩
        obtain ⟨y, hy, q2, rfl, hq2⟩ := Paired.getL Pl hu3
        refine ⟨q2, _, rfl, SqT.of (s6 _ _ (st5.wd.sub _ _ hq2)), rfl, _, _, rfl, _, _, rfl, rfl, rfl, yes_ ⟨_, rfl, _, d6, ?_, fun c o h => (upd_ne (ne_of_none h hD)).trans (s6 c o h), ?_⟩⟩
        · rw [List.length_map, List.length_map, List.length_take]
          exact hundred (by omega)
        · rw [upd_same, take_snoc hy]
          simp [iv]
      rintro H6 ⟨s6, d6⟩
      rw [lus, List.take_length] at d6
      refine ⟨D, l.map tv, rfl, SqL.of d6, _, _, rfl, rfl, ?_⟩
      have a6 := a5.trans (Step.same a5.wd s6)
      have I6 := I5.step (S := NoS) (Step.same a5.wd s6) (fun z => z) (fun z => z) (fun z => z)
      have hs6 := s6 _ _ hs5
      obtain ⟨dx6, hx6⟩ := I6.hx
      have hls : svs.length ≤ 100 := by
        rw [Ds.len, List.length_take]
        omega
      dsimp only
      generalize hfr : num p - ownOf names ns p - (l.map tv).sum = fr
      -- told
      refine ⟨fun σ' H' => ∃ (v7 : V) (v9 v10 : Option V) (G7 : Hp), σ' = [some (.ref v), some (.ref d), some (.int 1), some (.ref x), some (.str p), some (parV r par p), some (.ref pa), some v7, some (.int fr), v9, v10] ∧ Step e.T NoS G H G7 H' ∧ (∀ b o, G5 b = some o → G7 b = some o) ∧ G7 x = none ∧ G7 g = none ∧ G7 ga = none ∧ G7 sl = none ∧
          IAt e G7 H' x v g ga sl names ties ns (ord.take i) gv tv ∧ ((v7 = .non ∧ ∀ s, ¬ Good names ties (ownOf names ns) num s) ∨ ∃ (st : GS Str) (q : Addr), v7 = .int st.told ∧ BInv names ties (ownOf names ns) num r par (ord.take i ++ [p]) (put gv p fr) (put tv p st.told) (put fd p st.found) ∧ H' sl = some (.dK (putK svs (Sum.inr p) (.ref q))) ∧ G7 q = some (.lst (sv st.found)) ∧ H q = none), ?_, ?_⟩
      · -- go_through, when the front is right
        have bad : ¬ FrontOk r p fr → ∃ (v7 : V) (v9' v10' : Option V) (G7 : Hp), ([some (.ref v), some (.ref d), some (.int 1), some (.ref x), some (.str p), some (parV r par p), some (.ref pa), some .non, some (.int fr), v9, v10] : L2.St) = [some (.ref v), some (.ref d), some (.int 1), some (.ref x), some (.str p), some (parV r par p), some (.ref pa), some v7, some (.int fr), v9', v10'] ∧ Step e.T NoS G H G7 H6 ∧ (∀ b o, G5 b = some o → G7 b = some o) ∧ G7 x = none ∧ G7 g = none ∧ G7 ga = none ∧ G7 sl = none ∧
          IAt e G7 H6 x v g ga sl names ties ns (ord.take i) gv tv ∧ ((v7 = .non ∧ ∀ s, ¬ Good names ties (ownOf names ns) num s) ∨ ∃ (st : GS Str) (q : Addr), v7 = .int st.told ∧ BInv names ties (ownOf names ns) num r par (ord.take i ++ [p]) (put gv p fr) (put tv p st.told) (put fd p st.found) ∧ H6 sl = some (.dK (putK svs (Sum.inr p) (.ref q))) ∧ G7 q = some (.lst (sv st.found)) ∧ H q = none) := fun no =>
          ⟨.non, v9, v10, G5, rfl, a6, fun _ _ h => h, gx5, gg5, gga5, gs5, I6, .inl ⟨rfl, B.broke V0 R mp hk pl pw fun ok => absurd (hfr ▸ ok) no⟩⟩
        have go : FrontOk r p fr → ∀ (G7 H7 : Hp) (u7 : V) (l2 : List Str), Step e.T (fun b => b = sl) G5 H6 G7 H7 → l2.Perm (kids names ties r par p) → l2.Pairwise (fun a b => gv a ≤ gv b) →
            ((goThrough (inn r p) (par p) fr gv tv (ownOf names ns p) l2 = none ∧ u7 = .non ∧ H7 sl = some (.dK svs)) ∨ ∃ (st : GS Str) (q : Addr), goThrough (inn r p) (par p) fr gv tv (ownOf names ns p) l2 = some st ∧ u7 = .int st.told ∧ H7 sl = some (.dK (putK svs (Sum.inr p) (.ref q))) ∧ G7 q = some (.lst (sv st.found)) ∧ H6 q = none) →
            ∃ (v7 : V) (v9' v10' : Option V) (G7' : Hp), ([some (.ref v), some (.ref d), some (.int 1), some (.ref x), some (.str p), some (parV r par p), some (.ref pa), some u7, some (.int fr), v9, v10] : L2.St) = [some (.ref v), some (.ref d), some (.int 1), some (.ref x), some (.str p), some (parV r par p), some (.ref pa), some v7, some (.int fr), v9', v10'] ∧ Step e.T NoS G H G7' H7 ∧ (∀ b o, G5 b = some o → G7' b = some o) ∧ G7' x = none ∧ G7' g = none ∧ G7' ga = none ∧ G7' sl = none ∧
          IAt e G7' H7 x v g ga sl names ties ns (ord.take i) gv tv ∧ ((v7 = .non ∧ ∀ s, ¬ Good names ties (ownOf names ns) num s) ∨ ∃ (st : GS Str) (q : Addr), v7 = .int st.told ∧ BInv names ties (ownOf names ns) num r par (ord.take i ++ [p]) (put gv p fr) (put tv p st.told) (put fd p st.found) ∧ H7 sl = some (.dK (putK svs (Sum.inr p) (.ref q))) ∧ G7' q = some (.lst (sv st.found)) ∧ H q = none) := by
          intro ok G7 H7 u7 l2 st7 pl2 pw2 out
          have hsum : (l.map tv).sum = (l2.map tv).sum := msum_perm (pl.trans pl2.symm) tv
          have hfr2 : num p - ownOf names ns p - (l2.map tv).sum = fr := by rw [← hsum]; exact hfr
          have a7 : Step e.T NoS G H G7 H7 := (a6.no.trans st7).drop s0
          have hx7 := st7.hidden hx6 gx5
          obtain ⟨_, hg6, _⟩ := I6.hg
          obtain ⟨_, hga6, _⟩ := I6.hga
          refine ⟨u7, v9, v10, G7, rfl, a7, st7.up, hx7, st7.hidden hg6 gg5, st7.hidden hga6 gga5, st7.hidden hs6 gs5, I6.step st7 nxs n2 n3, ?_⟩
          rcases out with ⟨o1, o2, o3⟩ | ⟨st, q, o1, o2, o3, o4, o5⟩
          · exact .inl ⟨o2, B.broke V0 R mp hk pl2 pw2 fun _ => by rw [hfr2]; exact o1⟩
          · refine .inr ⟨st, q, o2, ?_, o3, o4, a6.free o5⟩
            have := B.turn V0 R mp np hk pl2 pw2 (by rw [hfr2]; exact ok) (by rw [hfr2]; exact o1)
            rw [hfr2] at this
            exact this
        by_cases q : p = r
        · have e1 : parV r par p = .non := if_pos q
          refine ⟨_, rfl, rfl, true, ?_, iteT ⟨_, rfl, rfl, _, rfl, ?_⟩⟩
          · rw [e1]; rfl
          by_cases z : fr = 0
          · rw [decide_eq_true (congrArg V.int z)]
            refine iteT ?_
            refine iteT ⟨_, rfl, x, dx6, _, rfl, hx6, rfl, _, rfl, _, rfl, _, rfl, x, v, g, ga, sl, names, ties, ns, ord.take i, gv, tv, r, par, p, G5, fr, svs, rfl, a6.wd, I6, N, hln, hs6, hls, gs5, nxs.symm, n2.symm, n3.symm, fun h => absurd q h, fun u7 G7 H7 l2 st7 pl2 pw2 out => go ⟨fun _ => z, fun h => absurd q h⟩ G7 H7 u7 l2 st7 pl2 pw2 out⟩
          · rw [decide_eq_false (fun h => z (by injection h))]
            refine iteF ⟨_, rfl, rfl, false, ?_, iteF ?_⟩
            · rw [e1]; rfl
            refine iteF (bad fun ok => z (ok.1 q))
        · have e1 : parV r par p = .str (par p) := if_neg q
          refine ⟨_, rfl, rfl, false, ?_, iteF ?_⟩
          · rw [e1]; rfl
          refine iteF ⟨_, rfl, rfl, true, ?_, iteT ⟨_, rfl, _, rfl, _, _, rfl, rfl, _, rfl, ?_⟩⟩
          · rw [e1]; rfl
          by_cases z : (1 : Int) ≤ fr
          · rw [decide_eq_true z]
            refine iteT ⟨_, rfl, x, dx6, _, rfl, hx6, rfl, _, rfl, _, rfl, _, rfl, x, v, g, ga, sl, names, ties, ns, ord.take i, gv, tv, r, par, p, G5, fr, svs, rfl, a6.wd, I6, N, hln, hs6, hls, gs5, nxs.symm, n2.symm, n3.symm, fun _ => z, fun u7 G7 H7 l2 st7 pl2 pw2 out => go ⟨fun h => absurd h q, fun _ => z⟩ G7 H7 u7 l2 st7 pl2 pw2 out⟩
          · rw [decide_eq_false z]
            exact iteF (bad fun ok => z (ok.2 q))
      · rintro σ' H7 ⟨v7', v9', v10', G7, rfl, a7, up7, gx7, gg7, gga7, gs7, I7, out⟩
        rcases out with ⟨rfl, none_⟩ | ⟨st, q, rfl, B7, hs7, hq7, hqn⟩
        · refine ⟨_, rfl, rfl, true, rfl, iteT ⟨_, rfl, _, rfl, _, rfl, by show 3 ≤ sizeLine; decide, fun w' hw' => ⟨by show 2 ≤ sizeLine; decide, fun q' hq' => ?_⟩⟩⟩
          exact k q' _ _ _ _ ((a7.hid1 hw').new1 hq' noTbl_tup) upd_same (.inr ⟨none_, rfl, w', rfl⟩)
        · refine ⟨_, rfl, rfl, false, rfl, iteF ⟨_, rfl, _, rfl, by show 2 ≤ sizeLine; decide, fun T hT => ⟨T, _, rfl, SqT.of upd_same, rfl, ?_⟩⟩⟩
          have a8 := a7.hid1 (o := .tup [.int fr, .int st.told]) hT
          have I8 := I7.step (S := NoS) (Step.hid (o := .tup [.int fr, .int st.told]) a7.wd hT) (fun z => z) (fun z => z) (fun z => z)
          have hs8 : upd H7 T (.tup [.int fr, .int st.told]) sl = some (.dK (putK svs (Sum.inr p) (.ref q))) := (upd_ne (ne_of_none hs7 hT)).trans hs7
          generalize upd H7 T (.tup [.int fr, .int st.told]) = H8 at *
          obtain ⟨⟨dx8, hx8⟩, hv8, ⟨gvs, hg8, Dg⟩, tvs, hga8, Dga⟩ := I8
          have z1 : gvs.length < sizeLine := by rw [Dg.len, List.length_take]; exact hundred (by omega)
          have z2 : tvs.length < sizeLine := by rw [Dga.len, List.length_take]; exact hundred (by omega)
          have b1 := a8.wr (o' := .dK (putK gvs (Sum.inr p) (.int fr))) g0 gg7 hg8 noTbl_dK (fun _ h => nomatch h)
          have hga9 : upd H8 g (.dK (putK gvs (Sum.inr p) (.int fr))) ga = some (.dK tvs) := (upd_ne n1.symm).trans hga8
          refine ⟨_, _, rfl, _, rfl, x, dx8, _, .ref g, rfl, hx8, rfl, _, rfl, g, _, rfl, DPut.k (k := Sum.inr p) hg8 z1, _, _, rfl, _, rfl, x, dx8, _, .ref ga, rfl, (upd_ne nxg).trans hx8, rfl, _, rfl, ga, _, rfl, DPut.k (k := Sum.inr p) hga9 z2, rfl, ?_⟩
          have b2 := b1.wr (o' := .dK (putK tvs (Sum.inr p) (.int st.told))) ga0 gga7 hga9 noTbl_dK (fun _ h => nomatch h)
          have et : ord.take (i + 1) = ord.take i ++ [p] := take_snoc hp
          have npy : ∀ y ∈ ord.take i, y ≠ p := fun y hy h => np (h ▸ hy)
          refine ⟨_, _, _, _, _, _, _, G7, put gv p fr, put tv p st.told, put fd p st.found, _, rfl, b2, fun b o h => up7 _ _ (up5 b o h), gx7, gg7, gga7, gs7, ⟨⟨dx8, (upd_ne nxga).trans ((upd_ne nxg).trans hx8)⟩, hv8, ⟨_, (upd_ne n1).trans upd_same, ?_⟩, _, upd_same, ?_⟩, (upd_ne n3.symm).trans ((upd_ne n2.symm).trans hs8), ?_, ?_⟩
          · rw [et]
            exact (Dg.mono fun y u hy hu => by rw [put_ne (npy y hy)]; exact hu).put_new np (by rw [put_at])
          · rw [et]
            exact (Dga.mono fun y u hy hu => by rw [put_ne (npy y hy)]; exact hu).put_new np (by rw [put_at])
          · rw [et]
            refine (Ds.mono fun y u hy hu => ?_).put_new np ⟨⟨q, rfl, by rw [put_at]; exact hq7⟩, fun l h => by cases h; exact hqn⟩
            rw [put_ne (npy y hy)]
            exact ⟨hu.1.up fun c o h => up7 _ _ (st5.up _ _ h), hu.2⟩
          · rw [et]
            exact B7
    · rintro σ H3 ⟨v4, v5, v6, v7, v8, v9, v10, G3, gv, tv, fd, svs, rfl, a3, up, gx, gg, gga, gs, I3, hs3, Ds, B⟩
      rw [lrow, List.take_length] at Ds B I3
      have all : ∀ y ∈ names, y ∈ ord := fun y hy => far.1.mem_iff.mpr hy
      obtain ⟨dx3, hx3⟩ := I3.hx
      refine ⟨_, rfl, x, dx3, _, rfl, hx3, rfl, x, v, g, ga, sl, names, ties, ns, ord, gv, tv, G3, svs, fd, H, rfl, a3.wd, I3, hl, nd, hs3, Ds, all, fun b h => a3.free h, fun dd G4 H4 st4 sl4 => ?_⟩
      refine ⟨by show 2 ≤ sizeLine; decide, fun q hq => ?_⟩
      have a4 := a3.trans st4
      have ga4 := B.good V0 R all
      exact k q _ _ _ _ (a4.new1 hq noTbl_tup) upd_same (.inl ⟨fd, dd, ga4, rfl, sl4.up fun c o h => (upd_ne (ne_of_none h (a4.hidN hq))).trans h, rfl⟩)
end
end K12

set_option maxHeartbeats 4000000
namespace K12
open PySem PySem.Spec PyProof.Rows L2 LamX NdefX
/-- a village at v, a ledger at d -/
structure VL (e : Ev) (G H : Hp) (v d : Addr) (names : List Str) (ties : List (Str × Str)) (ns : List Int) (num : Str → Int) : Prop where
  wd : Wd e.T G H
  hv : VAt e.CV G v names ties ns
  tr : IsTree names ties
  len : names.length ≤ 100
  pos : ∀ n ∈ ns, (1 : Int) ≤ n
  lns : ns.length = names.length
  hd : NumP G d names num
  num : ∀ y ∈ names, 0 ≤ num y
section
variable {e : Ev}
theorem ok_slates_of_ledger (t : Tx e) : Ok e 7 "slates_of_ledger" ["village", "ledger"] (fun vs H Q _ => ∃ v d names ties ns num G, vs = [.ref v, .ref d] ∧ VL e G H v d names ties ns num ∧
    ∀ G' H' a b, Step e.T NoS G H G' H' → Worked H G' names ties (ownOf names ns) num a b → Q a H') := by
  refine t.f_slates_of_ledger.ok sc_slates_of_ledger (fun vs H Q E h => ?_) (fun cdv A outer s H vs Q E hcd hr h => ?_)
  · obtain ⟨v, d, names, ties, ns, num, G, rfl, _⟩ := h; rfl
  · obtain ⟨v, d, names, ties, ns, num, G, rfl, L, k⟩ := h
    refine ⟨_, pss_cons (ps_expr (pe_call (ok_check_ledger t) (hr.mono (by decide)) (by rfl) t.f_check_ledger.mg t.f_check_ledger.kp t.f_check_ledger.b .nil pass0 (pa_cons (pv 0) (pa_cons (pv 1) pa_nil))))
      (pss_one (ps_ret (pe_ix ix_sq (pe_call (ok_worked_back t) hr (by rfl) t.f_worked_back.mg t.f_worked_back.kp t.f_worked_back.b .nil pass0 (pa_cons (pv 0) (pa_cons (pv 1) (pa_cons pe_int pa_nil)))) pe_int (fun _ _ => rfl)))), ?_⟩
    refine ⟨_, rfl, _, rfl, v, d, names, ties, ns, num, rfl, L.hv.up L.wd.sub, L.len, L.hd.up L.wd.sub, L.num, fun H1 s1 => ?_⟩
    have st := Step.same (S := NoS) L.wd s1
    refine ⟨_, rfl, _, rfl, v, d, names, ties, ns, num, G, rfl, st.wd, L.hv, L.tr, L.len, L.pos, L.lns, L.hd, fun q G2 H2 a b st2 hq w => ?_⟩
    exact ⟨q, _, 0, a, rfl, rfl, .inr (st2.wd.sub _ _ hq), rfl, k G2 H2 a b (st.trans st2) (w.less fun c h => s1.free h)⟩
theorem ok_ledger_break (t : Tx e) : Ok e 7 "ledger_break" ["village", "ledger"] (fun vs H Q _ => ∃ v d names ties ns num G, vs = [.ref v, .ref d] ∧ VL e G H v d names ties ns num ∧
    ∀ G' H' a b, Step e.T NoS G H G' H' → Worked H G' names ties (ownOf names ns) num a b → Q b H') := by
  refine t.f_ledger_break.ok sc_ledger_break (fun vs H Q E h => ?_) (fun cdv A outer s H vs Q E hcd hr h => ?_)
  · obtain ⟨v, d, names, ties, ns, num, G, rfl, _⟩ := h; rfl
  · obtain ⟨v, d, names, ties, ns, num, G, rfl, L, k⟩ := h
    refine ⟨_, pss_cons (ps_expr (pe_call (ok_check_ledger t) (hr.mono (by decide)) (by rfl) t.f_check_ledger.mg t.f_check_ledger.kp t.f_check_ledger.b .nil pass0 (pa_cons (pv 0) (pa_cons (pv 1) pa_nil))))
      (pss_one (ps_ret (pe_ix ix_sq (pe_call (ok_worked_back t) hr (by rfl) t.f_worked_back.mg t.f_worked_back.kp t.f_worked_back.b .nil pass0 (pa_cons (pv 0) (pa_cons (pv 1) (pa_cons pe_int pa_nil)))) pe_int (fun _ _ => rfl)))), ?_⟩
    refine ⟨_, rfl, _, rfl, v, d, names, ties, ns, num, rfl, L.hv.up L.wd.sub, L.len, L.hd.up L.wd.sub, L.num, fun H1 s1 => ?_⟩
    have st := Step.same (S := NoS) L.wd s1
    refine ⟨_, rfl, _, rfl, v, d, names, ties, ns, num, G, rfl, st.wd, L.hv, L.tr, L.len, L.pos, L.lns, L.hd, fun q G2 H2 a b st2 hq w => ?_⟩
    exact ⟨q, _, 1, b, rfl, rfl, .inr (st2.wd.sub _ _ hq), rfl, k G2 H2 a b (st.trans st2) (w.less fun c h => s1.free h)⟩
end
end K12

set_option maxHeartbeats 4000000
namespace K12
open PySem PySem.Spec PyProof.Rows L2 LamX NdefX
theorem erase_perm : ∀ {l : List V} {i : Nat} (h : i < l.length), (l[i] :: l.eraseIdx i).Perm l
  | x :: r, 0, _ => .refl _
  | x :: r, i + 1, h => by
    have h' : i < r.length := by simpa using h
    show (r[i] :: x :: r.eraseIdx i).Perm (x :: r)
    exact (List.Perm.swap x r[i] (r.eraseIdx i)).trans ((erase_perm h').cons x)
/-- a source of draws at s -/
def Src (s : Addr) (H : Hp) : Prop := ∃ a b c : Int, H s = some (.lst [.int a, .int b, .int c]) ∧ 0 ≤ a
/-- a state with a source that is not looked at -/
structure SrcAt (e : Ev) (s : Addr) (G H : Hp) : Prop where
  wd : Wd e.T G H
  gs : G s = none
  src : Src s H
abbrev OnS (s : Addr) : Addr → Prop := fun b => b = s
theorem SrcAt.ne {e : Ev} {s : Addr} {G H : Hp} (I : SrcAt e s G H) : H s ≠ none := by obtain ⟨a, b, c, h, _⟩ := I.src; rw [h]; simp
theorem SrcAt.step {e : Ev} {s : Addr} {G H G' H' : Hp} {S : Addr → Prop} (I : SrcAt e s G H) (st : Step e.T S G H G' H') (h : Src s H') : SrcAt e s G' H' := ⟨st.wd, st.new s I.ne I.gs, h⟩
theorem SrcAt.no {e : Ev} {s : Addr} {G H G' H' : Hp} (I : SrcAt e s G H) (st : Step e.T NoS G H G' H') : SrcAt e s G' H' := by
  obtain ⟨a, b, c, h, z⟩ := I.src
  exact I.step st ⟨a, b, c, st.own h (fun z => z) noTbl_lst, z⟩
theorem SrcAt.away {e : Ev} {s p : Addr} {G H : Hp} (I : SrcAt e s G H) {o : HO} (h : G p = some o) : p ≠ s := fun z => by rw [z, I.gs] at h; cases h
theorem SrcAt.away0 {e : Ev} {s p : Addr} {G H : Hp} (I : SrcAt e s G H) (h : H p = none) : s ≠ p := fun z => I.ne (by rw [z]; exact h)
section
variable {e : Ev}
/-- sp: a def that draws, from s; R: what it makes of the argument -/
theorem ok_draw (t : Tx e) : Ok e 1 "_law_draw" ["_law_source_here", "_law_many"] (fun vs H Q _ => ∃ s m G, vs = [.ref s, .int m] ∧ 0 < m ∧ m ≤ 1000000000000000 ∧ SrcAt e s G H ∧
    ∀ r H', 0 ≤ r → r < m → Step e.T (OnS s) G H G H' → Src s H' → Q (.int r) H') := by
  refine t.f_law_draw.ok sc_law_draw (fun vs H Q E h => ?_) (fun cdv A outer s H vs Q E hcd hr h => ?_)
  · obtain ⟨s, m, G, rfl, _⟩ := h; rfl
  · obtain ⟨s, m, G, rfl, hm, hm2, I, k⟩ := h
    obtain ⟨a, b, c, hs, ha⟩ := I.src
    refine ⟨_, pss_cons (ps_if (pt_cmpR op_gt (pe_ix ix_sq (pv 0) pe_int (fun _ _ => rfl)) pe_int (nomark _))
        (pss_cons (ps_set (i := 2) sc_law_draw.nd rfl (.inl rfl) (pe_op op_mod (pe_callTy call_int1 (by rfl) t.n_int bt_int (pa_cons (pe_ix ix_sq (pv 0) pe_int (fun _ _ => rfl)) pa_nil)) (pv 1)))
        (pss_cons (ps_asg (pe_op op_fdivW (pe_ix ix_sq (pv 0) pe_int (fun _ _ => rfl)) (pv 1)) (pg_sub (pv 0) pe_int set_list))
        (pss_one (ps_ret (pv 2))))) pss_nil)
      (pss_cons (ps_asg (pe_op op_add (pe_ix ix_sq (pv 0) pe_int (fun _ _ => rfl)) pe_int) (pg_sub (pv 0) pe_int set_list))
      (pss_cons (ps_set (i := 3) sc_law_draw.nd rfl (.inl rfl) (pe_op op_mod (pe_callTy call_int1 (by rfl) t.n_int bt_int (pa_cons (pe_op op_add (pe_ix ix_sq (pv 0) pe_int (fun _ _ => rfl)) (pe_op op_mul pe_int (pe_ix ix_sq (pv 0) pe_int (fun _ _ => rfl)))) pa_nil)) pe_int))
      (pss_cons (ps_set (i := 3) sc_law_draw.nd rfl (.inl rfl) (pe_op op_mod (pe_callTy call_int1 (by rfl) t.n_int bt_int (pa_cons (pe_op op_add (pe_op op_pow (pv 3) pe_int) (pe_ix ix_sq (pv 0) pe_int (fun _ _ => rfl))) pa_nil)) pe_int))
      (pss_one (ps_ret (pe_op op_mod (pe_op op_fdiv (pe_op op_mod (pe_callTy call_int1 (by rfl) t.n_int bt_int (pa_cons (pe_op op_add (pe_op op_mul (pv 3) pe_int) (pe_op op_mul pe_int (pe_ix ix_sq (pv 0) pe_int (fun _ _ => rfl)))) pa_nil)) pe_int) pe_int) (pv 1))))))), ?_⟩
    have mo : ∀ z : Int, 0 ≤ z % m ∧ z % m < m := fun z => ⟨Int.emod_nonneg _ (by omega), Int.emod_lt_of_pos _ hm⟩
    have wr : ∀ x y z : Int, Step e.T (OnS s) G H G (upd H s (.lst [.int x, .int y, .int z])) := fun x y z => (Step.refl I.wd).wrS rfl I.gs hs noTbl_lst (fun _ h => nomatch h)
    refine ⟨_, rfl, s, _, 0, .int a, rfl, rfl, .inl hs, rfl, _, _, rfl, rfl, _, rfl, ?_⟩
    refine ite2 (fun q => ?_) (fun q => ?_)
    · refine ⟨_, rfl, s, _, 0, .int a, rfl, rfl, .inl hs, rfl, .inl ⟨a, rfl, _, rfl, _, _, rfl, rfl, hm, ?_⟩⟩
      refine ⟨_, rfl, s, _, 0, .int a, rfl, rfl, .inl hs, rfl, _, rfl, _, _, rfl, rfl, wide_div (b := 50) hm (by omega) (by decide) (by decide), ?_⟩
      refine ⟨_, rfl, s, _, _, 0, rfl, rfl, hs, rfl, _, rfl, ?_⟩
      exact k _ _ (mo a).1 (mo a).2 (wr _ b c) ⟨_, b, c, upd_same, Int.ediv_nonneg ha (by omega)⟩
    · refine ⟨_, rfl, s, _, 2, .int c, rfl, rfl, .inl hs, rfl, _, 1, rfl, rfl, _, rfl, s, _, _, 2, rfl, rfl, hs, rfl, ?_⟩
      have e1 : ([V.int a, V.int b, V.int c]).set 2 (V.int (c + 1)) = [V.int a, V.int b, V.int (c + 1)] := rfl
      have hs2 : upd H s (.lst (([V.int a, V.int b, V.int c]).set 2 (V.int (c + 1)))) s = some (.lst [.int a, .int b, .int (c + 1)]) := by rw [e1]; exact upd_same
      have st2 : Step e.T (OnS s) G H G (upd H s (.lst (([V.int a, V.int b, V.int c]).set 2 (V.int (c + 1))))) := wr a b (c + 1)
      dsimp only
      generalize upd H s (.lst (([V.int a, V.int b, V.int c]).set 2 (V.int (c + 1)))) = H2 at *
      refine ⟨_, rfl, s, _, 1, .int b, rfl, rfl, .inl hs2, rfl, _, rfl, s, _, 2, .int (c + 1), rfl, rfl, .inl hs2, rfl, _, _, rfl, rfl, .inl ⟨by decide, by decide⟩, _, _, rfl, rfl, .inl ⟨_, rfl, _, _, rfl, rfl, (show (0 : Int) < 2147483629 from by decide), ?_⟩⟩
      have hp : ∀ z : Int, (z % 2147483629).natAbs < 2 ^ 64 := fun z => by
        have h1 := Int.emod_nonneg z (show (2147483629 : Int) ≠ 0 by decide)
        have h2 := Int.emod_lt_of_pos z (show (0 : Int) < 2147483629 by decide)
        omega
      refine ⟨_, rfl, _, _, rfl, rfl, ⟨by decide, by decide, hp _⟩, _, rfl, s, _, 2, .int (c + 1), rfl, rfl, .inl hs2, rfl, _, _, rfl, rfl, .inl ⟨_, rfl, _, _, rfl, rfl, (show (0 : Int) < 2147483647 from by decide), ?_⟩⟩
      have hq : ∀ z : Int, -(2 ^ 64) < z % 2147483647 ∧ z % 2147483647 < 2 ^ 64 := fun z => by
        have h1 := Int.emod_nonneg z (show (2147483647 : Int) ≠ 0 by decide)
        have h2 := Int.emod_lt_of_pos z (show (0 : Int) < 2147483647 by decide)
        omega
      refine ⟨_, rfl, _, _, rfl, rfl, .inr ⟨by decide, by decide⟩, _, rfl, s, _, 2, .int (c + 1), rfl, rfl, .inl hs2, rfl, _, _, rfl, rfl, .inl ⟨by decide, by decide⟩, _, _, rfl, rfl, .inl ⟨_, rfl, _, _, rfl, rfl, (show (0 : Int) < 2147483629 from by decide), ?_⟩⟩
      refine ⟨_, _, rfl, rfl, ⟨by decide, by decide⟩, _, rfl, _, _, rfl, rfl, hm, ?_⟩
      exact k _ _ (mo _).1 (mo _).2 st2 ⟨_, _, _, hs2, ha⟩
theorem ok_cell (t : Tx e) : Ok e 1 "_law_cell" ["_law_script", "_law_k"] (fun vs H Q _ => ∃ a ns k, vs = [.ref a, .int (k : Nat)] ∧ SqL e.K H a (iv ns) ∧ ∀ c, Q (.int c) H) := by
  refine t.f_law_cell.ok sc_law_cell (fun vs H Q E h => ?_) (fun cdv A outer s H vs Q E hcd hr h => ?_)
  · obtain ⟨a, ns, k, rfl, _⟩ := h; rfl
  · obtain ⟨a, ns, n, rfl, ha, k⟩ := h
    refine ⟨_, pss_one (ps_ret (pe_ifExp (pt_cmpR op_lt (pv 1) (pe_callB call_len_seq (by rfl) t.n_len bt_len (pa_cons (pv 0) pa_nil)) (nomark _)) (pe_ix ix_list (pv 0) (pv 1) (fun _ _ => rfl))
      (pe_op op_mod (pe_callTy call_int1 (by rfl) t.n_int bt_int (pa_cons (pe_op op_add (pe_op op_add (pe_op op_mul (pe_callB (cr_sum rfl) (by rfl) t.n_sum bt_sum (pa_cons (pv 0) pa_nil)) pe_int) (pe_op op_mul pe_int (pv 1))) pe_int) pa_nil)) pe_int))), ?_⟩
    refine ⟨_, rfl, _, rfl, a, iv ns, rfl, .inl ha, _, _, rfl, rfl, _, rfl, ?_⟩
    by_cases q : n < ns.length
    · rw [decide_eq_true (by rw [List.length_map]; omega)]
      refine ⟨_, rfl, _, rfl, a, _, _, .int ns[n], rfl, rfl, ha, atI_nat (by rw [List.getElem?_map, List.getElem?_eq_getElem q]; rfl), k _⟩
    · rw [decide_eq_false (by rw [List.length_map]; omega)]
      exact ⟨_, rfl, a, ns, rfl, ha, _, _, rfl, rfl, .inr ⟨by decide, by decide⟩, _, rfl, _, _, rfl, rfl, .inl ⟨by decide, by decide⟩, _, _, rfl, rfl, _, _, rfl, rfl, .inl ⟨_, rfl, _, _, rfl, rfl, (show (0 : Int) < 1000003 from by decide), k _⟩⟩
theorem ok_source (t : Tx e) : Ok e 2 "_law_source" ["_law_script", "_law_k"] (fun vs H Q _ => ∃ a ns k G, vs = [.ref a, .int (k : Nat)] ∧ SqL e.K H a (iv ns) ∧ Wd e.T G H ∧ ∀ s H', Step e.T NoS G H G H' → H s = none → SrcAt e s G H' → Q (.ref s) H') := by
  refine t.f_law_source.ok sc_law_source (fun vs H Q E h => ?_) (fun cdv A outer s H vs Q E hcd hr h => ?_)
  · obtain ⟨a, ns, k, G, rfl, _⟩ := h; rfl
  · obtain ⟨a, ns, n, G, rfl, ha, wd, k⟩ := h
    refine ⟨_, pss_cons (ps_par (i := 2) (j := 3) rfl sc_law_source.nd rfl rfl (by decide) rfl rfl (pa_cons (pe_callB call_abs (by rfl) t.n_abs bt_abs (pa_cons (pe_call (ok_cell t) hr (by rfl) t.f_law_cell.mg t.f_law_cell.kp t.f_law_cell.b .nil pass0 (pa_cons (pv 0) (pa_cons (pv 1) pa_nil))) pa_nil)) (pa_cons (pe_op op_add pe_int (pe_op op_mul pe_int (pv 1))) pa_nil)) (by rfl))
      (pss_cons (ps_for PassesOwn.never rfl (pi_sq (pe_slice sl_list (pv 0) po_none (po_some pe_int))) (pg_name (i := 4) sc_law_source.nd rfl (.inl rfl))
        (pss_one (ps_set (i := 3) sc_law_source.nd rfl (.inl rfl) (pe_op op_mod (pe_callTy call_int1 (by rfl) t.n_int bt_int (pa_cons (pe_op op_add (pe_op op_add (pe_op op_mul (pv 3) pe_int) (pe_op op_mod (pe_callTy call_int1 (by rfl) t.n_int bt_int (pa_cons (pv 4) pa_nil)) pe_int)) pe_int) pa_nil)) pe_int))))
      (pss_one (ps_ret (pe_lst (pa_cons (pe_ifExp (pt_cmpR op_ge (pv 2) (pe_op op_pow pe_int pe_int) (nomark _)) (pv 2) pe_int) (pa_cons (pe_op op_mod (pe_callTy call_int1 (by rfl) t.n_int bt_int (pa_cons (pe_op op_add (pe_op op_add (pv 3) (pe_op op_mul (pv 2) pe_int)) (pe_op op_mul pe_int (pv 1))) pa_nil)) pe_int) (pa_cons pe_int pa_nil))))))), ?_⟩
    refine ⟨_, rfl, _, rfl, a, ns, n, rfl, ha, fun c => ⟨c, rfl, _, rfl, _, _, rfl, rfl, .inl ⟨by decide, by decide⟩, _, _, rfl, rfl, _, _, rfl, ?_⟩⟩
    refine ⟨_, rfl, 63, rfl, a, iv ns, rfl, ha, fun p hp => ?_⟩
    have ep : cutV (iv ns) none (some 63) = iv (ns.take 63) := by
      exact (cutV_upto (xs := iv ns) (k := 63)).trans (by simp [iv, List.map_take])
    rw [ep]
    refine ⟨p, iv (ns.take 63), rfl, .inl upd_same, fun J wk => for_it wk (fun i σ H3 => ∃ (sd : Int) (v4 : Option V), σ = [some (.ref a), some (.int (n : Nat)), some (.int (if c < 0 then -c else c)), some (.int sd), v4] ∧ H3 = upd H p (.lst (iv (ns.take 63)))) ⟨_, _, rfl, rfl⟩ (fun i σ H3 _ ⟨_, _, _, h⟩ => by rw [h]) ?_ ?_⟩
    · rintro i v σ H3 H4 hi ⟨sd, v4, rfl, rfl⟩ ⟨rfl, hv⟩
      obtain ⟨z, hz, rfl⟩ := iv_get hv
      exact ⟨_, rfl, _, _, rfl, rfl, .inr ⟨by decide, by decide⟩, _, rfl, .inl ⟨z, rfl, _, _, rfl, rfl, (show (0 : Int) < 2147483629 from by decide), _, _, rfl, rfl, _, _, rfl, rfl, .inl ⟨_, rfl, _, _, rfl, rfl, (show (0 : Int) < 2147483647 from by decide), _, _, rfl, rfl⟩⟩⟩
    · rintro σ H3 ⟨sd, v4, rfl, rfl⟩
      have fin : ∀ x : Int, 0 ≤ x → ∀ y s, upd H p (.lst (iv (ns.take 63))) s = none → Q (.ref s) (upd (upd H p (.lst (iv (ns.take 63)))) s (.lst [.int x, .int y, .int 0])) := fun x hx y s hs => by
        have s1 := same_new (H := H) (o := .lst (iv (ns.take 63))) hp
        have st : Step e.T NoS G H G (upd (upd H p (.lst (iv (ns.take 63)))) s (.lst [.int x, .int y, .int 0])) := Step.same wd (s1.trans (same_new hs))
        exact k s _ st (s1.free hs) ⟨st.wd, wd.none (s1.free hs), x, y, 0, upd_same, hx⟩
      refine ⟨_, rfl, 10, 18, rfl, rfl, ⟨by decide, by decide, by decide⟩, _, _, rfl, rfl, _, rfl, ?_⟩
      by_cases q : (10 : Int) ^ (18 : Int).toNat ≤ (if c < 0 then -c else c)
      · rw [decide_eq_true q]
        refine ⟨_, rfl, _, rfl, _, rfl, _, _, rfl, rfl, .inr ⟨by decide, by decide⟩, _, _, rfl, rfl, _, rfl, _, _, rfl, rfl, .inl ⟨by decide, by decide⟩, _, _, rfl, rfl, .inl ⟨_, rfl, _, _, rfl, rfl, (show (0 : Int) < 2147483629 from by decide), by show 3 ≤ sizeLine; decide, fun s hs => ?_⟩⟩
        exact fin _ (by split <;> omega) _ s hs
      · rw [decide_eq_false q]
        refine ⟨_, rfl, _, rfl, _, _, rfl, rfl, .inr ⟨by decide, by decide⟩, _, _, rfl, rfl, _, rfl, _, _, rfl, rfl, .inl ⟨by decide, by decide⟩, _, _, rfl, rfl, .inl ⟨_, rfl, _, _, rfl, rfl, (show (0 : Int) < 2147483629 from by decide), by show 3 ≤ sizeLine; decide, fun s hs => ?_⟩⟩
        exact fin 0 (Int.le_refl _) _ s hs
theorem ok_pick (t : Tx e) : Ok e 2 "_law_pick" ["_law_source_here", "_law_some"] (fun vs H Q _ => ∃ s p xs G, vs = [.ref s, .ref p] ∧ SrcAt e s G H ∧ Sq H p xs ∧ p ≠ s ∧ xs ≠ [] ∧ xs.length ≤ 1000000000 ∧
    ∀ x H', x ∈ xs → Step e.T (OnS s) G H G H' → Src s H' → Q x H') := by
  refine t.f_law_pick.ok sc_law_pick (fun vs H Q E h => ?_) (fun cdv A outer s H vs Q E hcd hr h => ?_)
  · obtain ⟨s, p, xs, G, rfl, _⟩ := h; rfl
  · obtain ⟨s, p, xs, G, rfl, I, hp, hne, hx, hl, k⟩ := h
    have hpos : 0 < xs.length := List.length_pos_iff.mpr hx
    refine ⟨_, pss_one (ps_ret (pe_ix ix_sq (pv 1) (pe_call (ok_draw t) hr (by rfl) t.f_law_draw.mg t.f_law_draw.kp t.f_law_draw.b .nil pass0 (pa_cons (pv 0) (pa_cons (pe_callB call_lenSq (by rfl) t.n_len bt_len (pa_cons (pv 1) pa_nil)) pa_nil))) (fun _ _ => rfl))), ?_⟩
    refine ⟨_, rfl, _, rfl, _, rfl, p, xs, rfl, hp, s, xs.length, G, rfl, by omega, by omega, I, fun r H' h0 h1 st src => ?_⟩
    have hi : r.toNat < xs.length := by omega
    have er : ((r.toNat : Nat) : Int) = r := Int.toNat_of_nonneg h0
    refine ⟨p, xs, r, xs[r.toNat], rfl, rfl, hp.elim (fun h => .inl (st.fr _ _ h hne noTbl_lst)) (fun h => .inr (st.fr _ _ h hne noTbl_tup)), ?_, k _ _ (List.getElem_mem _) st src⟩
    have q := atI_nat (xs := xs) (List.getElem?_eq_getElem hi)
    rw [er] at q
    exact q
theorem ok_mixed (t : Tx e) : Ok e 2 "_law_mixed" ["_law_source_here", "_law_some"] (fun vs H Q _ => ∃ s p xs G, vs = [.ref s, .ref p] ∧ SrcAt e s G H ∧ Sq H p xs ∧ p ≠ s ∧ xs.length ≤ 1000 ∧
    ∀ q ys G' H', ys.Perm xs → Step e.T (OnS s) G H G' H' → Src s H' → G' q = some (.lst ys) → Q (.ref q) H') := by
  refine t.f_law_mixed.ok sc_law_mixed (fun vs H Q E h => ?_) (fun cdv A outer s H vs Q E hcd hr h => ?_)
  · obtain ⟨s, p, xs, G, rfl, _⟩ := h; rfl
  · obtain ⟨s, p, xs, G, rfl, I, hp, hne, hl, k⟩ := h
    refine ⟨_, pss_cons (ps_par (i := 2) (j := 3) rfl sc_law_mixed.nd rfl rfl (by decide) rfl rfl (pa_cons (pe_callTy call_listSq (by rfl) t.n_list bt_list (pa_cons (pv 1) pa_nil)) (pa_cons (pe_lst pa_nil) pa_nil)) (by rfl))
      (pss_cons (ps_for PassesOwn.never rfl (pi_range1 (by rfl) t.n_range (pa_cons (pe_callB call_lenSq (by rfl) t.n_len bt_len (pa_cons (pv 1) pa_nil)) pa_nil)) (pg_name (i := 4) sc_law_mixed.nd rfl (.inl rfl))
        (pss_one (ps_expr (pe_bm PySem.F.plainAttrs_list PySem.F.slot_list_append PySem.F.type_list_append mt_append (pv 3) (pa_cons (pe_bm PySem.F.plainAttrs_list PySem.F.slot_list_pop PySem.F.type_list_pop mt_popAt (pv 2) (pa_cons (pe_call (ok_draw t) hr (by rfl) t.f_law_draw.mg t.f_law_draw.kp t.f_law_draw.b .nil pass0 (pa_cons (pv 0) (pa_cons (pe_callB call_lenSq (by rfl) t.n_len bt_len (pa_cons (pv 2) pa_nil)) pa_nil))) pa_nil)) pa_nil)))))
      (pss_one (ps_ret (pv 3)))), ?_⟩
    refine ⟨_, rfl, p, xs, rfl, hp, fun l hl0 => ⟨by show 0 ≤ sizeLine; decide, fun f hf => ⟨_, _, rfl, ?_⟩⟩⟩
    have nlf : l ≠ f := fun z => by rw [← z, upd_same] at hf; cases hf
    have hf0 : H f = none := (upd_ne nlf.symm).symm.trans hf
    have s1 : Same H (upd (upd H l (.lst xs)) f (.lst [])) := (same_new hl0).trans (same_new hf)
    have el : upd (upd H l (.lst xs)) f (.lst []) l = some (.lst xs) := (upd_ne nlf).trans upd_same
    have ef : upd (upd H l (.lst xs)) f (.lst []) f = some (.lst []) := upd_same
    have nsl : s ≠ l := I.away0 hl0
    have nsf : s ≠ f := I.away0 hf0
    have I1 := I.no (Step.same I.wd s1)
    have st1 : Step e.T (OnS s) G H G (upd (upd H l (.lst xs)) f (.lst [])) := Step.same I.wd s1
    generalize upd (upd H l (.lst xs)) f (.lst []) = H1 at *
    refine ⟨_, rfl, p, xs, rfl, hp.up fun o h => s1 _ _ h, (xs.length : Int), rfl, by omega, by omega, for_range (lo := 0) (n := xs.length) (fun i σ H3 => ∃ (vk : Option V) (left found : List V), σ = [some (.ref s), some (.ref p), some (.ref l), some (.ref f), vk] ∧ Step e.T (OnS s) G H G H3 ∧ Src s H3 ∧ H3 l = some (.lst left) ∧ H3 f = some (.lst found) ∧ (found ++ left).Perm xs ∧ found.length = i)
      ⟨none, xs, [], rfl, st1, I1.src, el, ef, .refl _, rfl⟩ ?_ ?_⟩
    · rintro i σ H3 hi ⟨vk, left, found, rfl, st, src, el3, ef3, pm, fl⟩
      have hlen : found.length + left.length = xs.length := by rw [← List.length_append]; exact pm.length_eq
      have I3 := I.step st src
      refine ⟨_, rfl, .inl ⟨rfl, _, SqL.of ef3⟩, _, rfl, .inl ⟨rfl, _, SqL.of el3⟩, _, rfl, _, rfl, l, left, rfl, .inl el3, s, left.length, G, rfl, by omega, by omega, I3, fun r H4 h0 h1 st4 src4 => ?_⟩
      have hr : r.toNat < left.length := by omega
      have el4 := st4.fr _ _ el3 nsl.symm noTbl_lst
      have ef4 := st4.fr _ _ ef3 nsf.symm noTbl_lst
      have hseq : seqIndex? r left.length = some r.toNat := (ixN_seq (by
        unfold ixN
        rw [if_pos h0, if_pos (by omega)])).1
      refine ⟨l, left, r, r.toNat, left[r.toNat], rfl, rfl, el4, by omega, by omega, hseq, List.getElem?_eq_getElem hr, ?_⟩
      have st5 := st.trans st4
      have a5 : Step e.T (OnS s) G H G (upd H4 l (.lst (left.eraseIdx r.toNat))) := st5.wr hl0 (I.wd.none hl0) el4 noTbl_lst (fun _ h => nomatch h)
      have ef5 : upd H4 l (.lst (left.eraseIdx r.toNat)) f = some (.lst found) := (upd_ne nlf.symm).trans ef4
      have hs5 : Src s (upd H4 l (.lst (left.eraseIdx r.toNat))) := by obtain ⟨x, y, z, h, w⟩ := src4; exact ⟨x, y, z, (upd_ne nsl).trans h, w⟩
      refine ⟨f, found, _, rfl, rfl, ef5, Nat.lt_of_le_of_lt (show found.length ≤ 1000 by omega) (by decide), ?_⟩
      refine ⟨_, left.eraseIdx r.toNat, found ++ [left[r.toNat]], rfl, a5.wr hf0 (I.wd.none hf0) ef5 noTbl_lst (fun _ h => nomatch h), ?_, (upd_ne nlf).trans upd_same, upd_same, ?_, by simp [fl]⟩
      · obtain ⟨x, y, z, h, w⟩ := hs5
        exact ⟨x, y, z, (upd_ne nsf).trans h, w⟩
      · refine List.Perm.trans ?_ pm
        rw [List.append_assoc]
        exact List.Perm.append_left _ (erase_perm hr)
    · rintro σ H3 ⟨vk, left, found, rfl, st, src, el3, ef3, pm, fl⟩
      have hlen : found.length + left.length = xs.length := by rw [← List.length_append]; exact pm.length_eq
      have hl0' : left = [] := List.length_eq_zero_iff.mp (by omega)
      rw [hl0', List.append_nil] at pm
      exact ⟨_, rfl, k f found _ H3 pm (st.show hf0 ef3 noTbl_lst fun u q => by rw [I.wd.none hf0] at q; cases q) src upd_same⟩
end
end K12

set_option maxHeartbeats 4000000
namespace K12
open PySem PySem.Spec PyProof.Rows L2 LamX NdefX
/-- rows of rows, n deep -/
inductive Dl (G : Hp) : Nat → V → Prop where
  | flat {n : Nat} {v : V} (h : flatV v = true) : Dl G n v
  | list {n : Nat} {p : Addr} {xs : List V} (h : G p = some (.lst xs)) (hl : xs.length ≤ 1000) (all : ∀ x ∈ xs, Dl G n x) : Dl G (n + 1) (.ref p)
/-- w is v, each list in it a list or a tuple -/
def Lo (G G' : Hp) : Nat → V → V → Prop
  | 0, v, w => flatV v = true ∧ w = v
  | n + 1, v, w => (flatV v = true ∧ w = v) ∨ ∃ p q xs ys, v = .ref p ∧ w = .ref q ∧ G p = some (.lst xs) ∧ Sq G' q ys ∧ Paired (Lo G G' n) xs ys
theorem Lo.flat {G G' : Hp} {n : Nat} {v : V} (h : flatV v = true) : Lo G G' n v v := by
  cases n with
  | zero => exact ⟨h, rfl⟩
  | succ n => exact .inl ⟨h, rfl⟩
theorem Lo.list {G G' : Hp} {n : Nat} {p q : Addr} {xs ys : List V} (h : G p = some (.lst xs)) (h' : Sq G' q ys) (r : Paired (Lo G G' n) xs ys) : Lo G G' (n + 1) (.ref p) (.ref q) := .inr ⟨p, q, xs, ys, rfl, rfl, h, h', r⟩
theorem Paired.mapI {α β : Type} {F F' : α → β → Prop} : ∀ {l : List α} {r : List β}, Paired F l r → (∀ a b, a ∈ l → F a b → F' a b) → Paired F' l r
  | _, _, .nil, _ => .nil
  | _, _, .cons q t, f => .cons (f _ _ (by simp) q) (Paired.mapI t fun a b h => f a b (by simp [h]))
theorem Lo.up {G G1 G' G2 : Hp} (e : ∀ b o, G b = some o → G1 b = some o) (e2 : ∀ b o, G' b = some o → G2 b = some o) : ∀ {n : Nat} {v w : V}, Lo G G' n v w → Lo G1 G2 n v w := by
  intro n
  induction n with
  | zero => exact fun h => h
  | succ n ih =>
    rintro v w (h | ⟨p, q, xs, ys, h1, h2, h3, h4, r⟩)
    · exact .inl h
    · exact .inr ⟨p, q, xs, ys, h1, h2, e _ _ h3, h4.up (e2 _), Paired.mapP r fun _ _ q => ih q⟩
theorem Lo.back {G G1 G' : Hp} (e : ∀ b o, G b = some o → G1 b = some o) : ∀ {n : Nat} {v w : V}, Dl G n v → Lo G1 G' n v w → Lo G G' n v w := by
  intro n
  induction n with
  | zero => exact fun _ h => h
  | succ n ih =>
    rintro v w d (h | ⟨p, q, xs, ys, rfl, h2, h3, h4, r⟩)
    · exact .inl h
    · cases d with
      | flat h => cases h
      | list h hl a =>
        have e1 := e _ _ h
        rw [h3] at e1
        cases e1
        exact .inr ⟨p, q, xs, ys, rfl, h2, h, h4, Paired.mapI r fun a' b' ha q => ih (a a' ha) q⟩
theorem Dl.up {G G1 : Hp} (e : ∀ b o, G b = some o → G1 b = some o) : ∀ {n : Nat} {v : V}, Dl G n v → Dl G1 n v := by
  intro n
  induction n with
  | zero =>
    intro v h
    cases h with
    | flat h => exact .flat h
  | succ n ih =>
    intro v h
    cases h with
    | flat h => exact .flat h
    | list h hl a => exact .list (e _ _ h) hl fun x hx => ih (a x hx)
theorem flat_kd {H : Hp} {v : V} (h : flatV v = true) : ∃ n, Kd H v n ∧ (isB "list" n || isB "tuple" n) = false := by
  cases v with
  | non => exact ⟨_, .non, by decide +kernel⟩
  | bl b => exact ⟨_, .bl b, by decide +kernel⟩
  | int i => exact ⟨_, .int i, by decide +kernel⟩
  | str x => exact ⟨_, .str x, by decide +kernel⟩
  | _ => cases h
section
variable {e : Ev}
/-- n = 0: no promise -/
def spLoose (e : Ev) : Nat → Sp
  | 0 => fun _ _ _ _ => False
  | n + 1 => fun vs H Q _ => ∃ s v G, vs = [.ref s, v] ∧ SrcAt e s G H ∧ Dl G n v ∧ ∀ w G' H', Step e.T (OnS s) G H G' H' → Src s H' → Lo G G' n v w → Q w H'
theorem ok_loose (t : Tx e) : ∀ n, Ok e (n + 1) "_law_loose" ["_law_source_here", "_law_thing"] (spLoose e n) := by
  intro n
  induction n with
  | zero => exact ⟨fun _ _ _ _ h => h.elim, fun _ _ _ _ _ _ _ _ _ _ _ _ _ h => h.elim⟩
  | succ n ih =>
    refine t.f_law_loose.ok sc_law_loose (fun vs H Q E h => ?_) (fun cdv A outer s H vs Q E hcd hr h => ?_)
    · obtain ⟨s, v, G, rfl, _⟩ := h; rfl
    · obtain ⟨s, v, G, rfl, I, hd, k⟩ := h
      refine ⟨_, pss_cons (ps_if (pt_not (pt_val (pe_isLT (by rfl) t.n_isinstance (by rfl) t.n_list (by rfl) t.n_tuple (pv 1)))) (pss_one (ps_ret (pv 1))) pss_nil)
        (pss_cons (ps_setLc (i := 2) (own := [("_law_part", 3)]) (g := gName 3) (tt := tYes) rfl sc_law_loose.nd rfl rfl (sw_true rfl rfl rfl (by decide +kernel)) (pi_sq (pv 1)) (blkOk_by (N := ["_law_source_here", "_law_thing", "_law_found", "_law_part"]) (sc := defScope s_law_loose) (by decide +kernel))
          (fun _ _ _ _ _ => pg_name (i := 3) sc_law_loose.nd rfl (Or.inl rfl)) (fun _ _ _ _ _ => pts_nil) (fun _ _ _ _ _ => pe_call ih hr (by rfl) t.f_law_loose.mg t.f_law_loose.kp t.f_law_loose.b .nil pass0 (pa_cons (pv 0) (pa_cons (pv 3) pa_nil))))
        (pss_one (ps_ret (pe_ifExp (pt_cmpR op_eq (pe_call (ok_draw t) (hr.mono (by omega)) (by rfl) t.f_law_draw.mg t.f_law_draw.kp t.f_law_draw.b .nil pass0 (pa_cons (pv 0) (pa_cons pe_int pa_nil))) pe_int (nomark _)) (pv 2) (pe_callTy call_tupSq (by rfl) t.n_tuple bt_tuple (pa_cons (pv 2) pa_nil)))))), ?_⟩
      cases hd with
      | flat hf =>
        obtain ⟨m, kd, hm⟩ := flat_kd hf (H := H)
        refine ⟨_, rfl, m, kd, fun H2 s2 => ⟨_, rfl, ?_⟩⟩
        have st := Step.same (S := OnS s) I.wd s2
        refine iteT' (show (!(isB "list" m || isB "tuple" m)) = true by rw [hm]; rfl) ⟨_, rfl, ?_⟩
        exact k v G H2 st (I.no (Step.same I.wd s2)).src (.flat hf)
      | @list n p xs hp hl all =>
        refine ⟨_, rfl, "list", .lst (I.wd.sub _ _ hp), fun H2 s2 => ⟨_, rfl, ?_⟩⟩
        refine iteF' (by decide +kernel) ?_
        have I2 := I.no (Step.same I.wd s2)
        have hp2 := s2 _ _ (I.wd.sub _ _ hp)
        refine ⟨_, rfl, p, xs, rfl, .inl hp2, fun J wk D hD => ?_⟩
        have hD0 : H D = none := s2.free hD
        have nsD : s ≠ D := I.away0 hD0
        refine lc_it wk (fun i H3 => ∃ G3 ys, Step e.T (OnS s) G H G3 H3 ∧ Src s H3 ∧ G3 D = none ∧ H3 D = some (.lst ys) ∧ Paired (Lo G G3 n) (xs.take i) ys) ⟨G, [], (Step.same I.wd s2).hid1 hD, ?_, I.wd.none hD0, upd_same, ?_⟩ (fun i H3 _ ⟨_, _, st, _⟩ => sq_keep (.inl hp2) fun o q _ => ?_) ?_ ?_
        · obtain ⟨x, y, z, h, w⟩ := I2.src
          exact ⟨x, y, z, (upd_ne nsD).trans h, w⟩
        · exact .nil
        · rw [hp2] at q
          rw [← q]
          exact st.get hp
        · rintro i u H3 H4 hi ⟨G3, ys, st, src, g3, d3, P3⟩ ⟨rfl, hu⟩
          have I3 := I.step st src
          have mx : u ∈ xs := List.mem_of_getElem? hu
          refine ⟨rfl, yes_ ⟨_, rfl, _, rfl, s, u, G3, rfl, I3, (all u mx).up st.up, fun w G4 H4 st4 src4 lo => ?_⟩⟩
          have d4 := st4.fr _ _ d3 nsD.symm noTbl_lst
          have g4 : G4 D = none := st4.hidden d3 g3
          have st5 := st.trans st4
          have hs5 : Src s (upd H4 D (.lst (ys ++ [w]))) := by
            obtain ⟨x, y, z, h, w⟩ := src4
            exact ⟨x, y, z, (upd_ne nsD).trans h, w⟩
          have hi' : i < xs.length := hi
          refine ⟨ys, d4, ?_, G4, ys ++ [w], st5.wr hD0 g4 d4 noTbl_lst (fun _ h => nomatch h), hs5, g4, upd_same, ?_⟩
          · rw [← Paired.len P3, List.length_take]
            exact Nat.lt_of_le_of_lt (show min i xs.length ≤ 1000 by omega) (by decide)
          · rw [take_snoc hu]
            exact Paired.snoc (Lo.back st.up (all u mx) lo) (Paired.mapP P3 fun _ _ h => Lo.up (fun _ _ h => h) st4.up h)
        · rintro H3 ⟨G3, ys, st, src, g3, d3, P3⟩
          rw [List.take_length] at P3
          have I3 := I.step st src
          refine ⟨_, rfl, s, 2, G3, rfl, by decide, by decide, I3, fun r H4 h0 h1 st4 src4 => ⟨rfl, _, rfl, ?_⟩⟩
          have d4 := st4.fr _ _ d3 nsD.symm noTbl_lst
          have st5 := st.trans st4
          by_cases q : r = 0
          · rw [decide_eq_true (congrArg V.int q)]
            refine ⟨_, rfl, k (.ref D) _ H4 (st5.show hD0 d4 noTbl_lst fun u h => by rw [g3] at h; cases h) src4 (.list hp (.inl upd_same) (Paired.mapP P3 fun _ _ h => Lo.up (fun _ _ h => h) (fun c o h => (upd_ne (ne_of_none h g3)).trans h) h))⟩
          · rw [decide_eq_false (fun h => q (by injection h))]
            refine ⟨_, rfl, D, ys, rfl, .inl ⟨d4, fun l hl' => ?_⟩⟩
            have hs5 : Src s (upd H4 l (.tup ys)) := by
              obtain ⟨x, y, z, h, w⟩ := src4
              exact ⟨x, y, z, (upd_ne (ne_of_none h hl')).trans h, w⟩
            exact k (.ref l) _ _ (st5.new1 hl' noTbl_tup) hs5 (.list hp (.inr upd_same) (Paired.mapP P3 fun _ _ h => Lo.up (fun _ _ h => h) (fun c o h => (upd_ne (ne_of_none h (st5.wd.none hl'))).trans h) h))
end
end K12

set_option maxHeartbeats 4000000
namespace K12
open PySem PySem.Spec PyProof.Rows L2 LamX NdefX
def someN : List Str := ["b", "aa", "c1", "hall", "z9", "a", "m3", "abcdefg1", "attic", "no", "q7", "cellar"]
theorem someN_nd : someN.Nodup := by decide +kernel
theorem someN_ok : ∀ x ∈ someN, nameB x = true := by decide +kernel
/-- pairs in another order -/
theorem Paired.perm {α β : Type} {F : α → β → Prop} {vs' vs : List α} (p : vs'.Perm vs) : ∀ {ts : List β}, Paired F vs ts → ∃ ts', ts'.Perm ts ∧ Paired F vs' ts' := by
  induction p with
  | nil => exact fun h => ⟨_, .refl _, h⟩
  | cons x p ih =>
    intro ts h
    cases h with
    | cons q t =>
      obtain ⟨ts', p', t'⟩ := ih t
      exact ⟨_ :: ts', p'.cons _, .cons q t'⟩
  | swap x y l =>
    intro ts h
    cases h with
    | cons q t =>
      cases t with
      | cons q' t' => exact ⟨_, .swap _ _ _, .cons q' (.cons q t')⟩
  | trans p q ih1 ih2 =>
    intro ts h
    obtain ⟨t2, p2, h2⟩ := ih2 h
    obtain ⟨t1, p1, h1⟩ := ih1 h2
    exact ⟨t1, p1.trans p2, h1⟩
theorem IsTree.perm {names names' : List Str} {ties ties' : List (Str × Str)} (t : IsTree names ties) (p : names.Perm names') (q : ties.Perm ties') : IsTree names' ties' := by
  obtain ⟨ns, ts, g, h1, h2⟩ := t
  exact ⟨ns, ts, g, h1.trans p, h2.trans q⟩
/-- a form: names, ties, news -/
structure FOk (names : List Str) (ties : List (Str × Str)) (news : List Int) (most : Nat) : Prop where
  tree : IsTree names ties
  ok : ∀ x ∈ names, nameB x = true
  len : names.length ≤ most
  lns : news.length = names.length
  pos : ∀ n ∈ news, (1 : Int) ≤ n
  big : ∀ n ∈ news, n ≤ 1000000000000000
section
variable {e : Ev}
theorem ok_v_names (t : Tx e) : Ok e 3 "_law_v_names" ["_law_source_here", "_law_many"] (fun vs H Q _ => ∃ s G, ∃ m : Nat, vs = [.ref s, .int (m : Nat)] ∧ SrcAt e s G H ∧ 1 ≤ m ∧ m ≤ 12 ∧
    ∀ q names G' H', Step e.T (OnS s) G H G' H' → Src s H' → G' q = some (.lst (sv names)) → names.length = m → names.Nodup → (∀ x ∈ names, nameB x = true) → Q (.ref q) H') := by
  refine t.f_law_v_names.ok sc_law_v_names (fun vs H Q E h => ?_) (fun cdv A outer s H vs Q E hcd hr h => ?_)
  · obtain ⟨s, G, m, rfl, _⟩ := h; rfl
  · obtain ⟨s, G, m, rfl, I, h1, h2, k⟩ := h
    refine ⟨_, pss_cons (ps_set (i := 2) sc_law_v_names.nd rfl (.inl rfl) (pe_lst (pa_cons pe_str (pa_cons pe_str (pa_cons pe_str (pa_cons pe_str (pa_cons pe_str (pa_cons pe_str (pa_cons pe_str (pa_cons pe_str (pa_cons pe_str (pa_cons pe_str (pa_cons pe_str (pa_cons pe_str pa_nil))))))))))))))
      (pss_one (ps_ret (pe_slice sl_sq (pe_call (ok_mixed t) hr (by rfl) t.f_law_mixed.mg t.f_law_mixed.kp t.f_law_mixed.b .nil pass0 (pa_cons (pv 0) (pa_cons (pv 2) pa_nil))) po_none (po_some (pv 1))))), ?_⟩
    refine ⟨by show 12 ≤ sizeLine; decide, fun l hl => ?_⟩
    have el : upd H l (.lst (sv someN)) l = some (.lst (sv someN)) := upd_same
    have s1 : Same H (upd H l (.lst (sv someN))) := same_new hl
    refine ⟨_, rfl, _, rfl, s, l, sv someN, G, rfl, I.no (Step.same I.wd s1), .inl el, (I.away0 hl).symm, by show 12 ≤ 1000; decide, fun q ys G2 H2 pm st src hq => ?_⟩
    obtain ⟨ns, rfl, pn⟩ := List.Perm.map_inv_of pm
    refine ⟨_, rfl, m, rfl, q, sv ns, rfl, .inl ⟨st.wd.sub _ _ hq, fun p hp => ?_⟩⟩
    have st2 : Step e.T (OnS s) G H G2 H2 := (Step.same I.wd s1).trans st
    have ec : cutV (sv ns) none (some (m : Int)) = sv (ns.take m) := by rw [cutV_upto, sv_take]
    rw [ec]
    have hs2 : Src s (upd H2 p (.lst (sv (ns.take m)))) := by
      obtain ⟨x, y, z, h, w⟩ := src
      exact ⟨x, y, z, (upd_ne (ne_of_none h hp)).trans h, w⟩
    have lns : ns.length = 12 := pn.length_eq
    exact k p (ns.take m) _ _ (st2.new1 hp noTbl_lst) hs2 upd_same (by rw [List.length_take]; omega) ((pn.nodup_iff.mpr someN_nd).sublist (List.take_sublist _ _)) fun x hx => someN_ok x (pn.mem_iff.mp (List.mem_of_mem_take hx))
theorem ok_v_ties (t : Tx e) : Ok e 3 "_law_v_ties" ["_law_source_here", "_law_names"] (fun vs H Q _ => ∃ s p names G, vs = [.ref s, .ref p] ∧ SrcAt e s G H ∧ G p = some (.lst (sv names)) ∧ names.Nodup ∧ names ≠ [] ∧ names.length ≤ 100 ∧
    ∀ q us ties G' H', Step e.T (OnS s) G H G' H' → Src s H' → G' q = some (.lst us) → Prs G' us ties → IsTree names ties → Q (.ref q) H') := by
  refine t.f_law_v_ties.ok sc_law_v_ties (fun vs H Q E h => ?_) (fun cdv A outer s H vs Q E hcd hr h => ?_)
  · obtain ⟨s, p, names, G, rfl, _⟩ := h; rfl
  · obtain ⟨s, p, names, G, rfl, I, hp, nd, hne, hl, k⟩ := h
    have hr1 : Room 1 _ := hr.mono (by decide)
    refine ⟨_, pss_cons (ps_par (i := 2) (j := 3) rfl sc_law_v_ties.nd rfl rfl (by decide) rfl rfl (pa_cons (pe_call (ok_draw t) hr1 (by rfl) t.f_law_draw.mg t.f_law_draw.kp t.f_law_draw.b .nil pass0 (pa_cons (pv 0) (pa_cons pe_int pa_nil))) (pa_cons (pe_lst pa_nil) pa_nil)) (by rfl))
      (pss_cons (ps_for PassesOwn.never rfl (pi_range2 (by rfl) t.n_range (pa_cons pe_int (pa_cons (pe_callB call_lenSq (by rfl) t.n_len bt_len (pa_cons (pv 1) pa_nil)) pa_nil))) (pg_name (i := 4) sc_law_v_ties.nd rfl (.inl rfl))
        (pss_cons (ps_set (i := 5) sc_law_v_ties.nd rfl (.inl rfl) (pe_ix ix_sq (pe_lst (pa_cons (pe_op op_sub (pv 4) pe_int) (pa_cons pe_int (pa_cons (pe_call (ok_draw t) hr1 (by rfl) t.f_law_draw.mg t.f_law_draw.kp t.f_law_draw.b .nil pass0 (pa_cons (pv 0) (pa_cons (pv 4) pa_nil))) (pa_cons (pe_callB (call_max2 rfl) (by rfl) t.n_max bt_max (pa_cons pe_int (pa_cons (pe_op op_sub (pe_op op_sub (pv 4) pe_int) (pe_call (ok_draw t) hr1 (by rfl) t.f_law_draw.mg t.f_law_draw.kp t.f_law_draw.b .nil pass0 (pa_cons (pv 0) (pa_cons pe_int pa_nil)))) pa_nil))) pa_nil))))) (pv 2) (fun _ _ => rfl)))
        (pss_cons (ps_set (i := 6) sc_law_v_ties.nd rfl (.inl rfl) (pe_tup (pa_cons (pe_ix ix_sq (pv 1) (pv 5) (fun _ _ => rfl)) (pa_cons (pe_ix ix_sq (pv 1) (pv 4) (fun _ _ => rfl)) pa_nil))))
        (pss_one (ps_expr (pe_bm PySem.F.plainAttrs_list PySem.F.slot_list_append PySem.F.type_list_append mt_append (pv 3) (pa_cons (pe_ifExp (pt_cmpR op_eq (pe_call (ok_draw t) hr1 (by rfl) t.f_law_draw.mg t.f_law_draw.kp t.f_law_draw.b .nil pass0 (pa_cons (pv 0) (pa_cons pe_int pa_nil))) pe_int (nomark _)) (pv 6) (pe_revT (pv 6))) pa_nil)))))))
      (pss_one (ps_ret (pe_call (ok_mixed t) hr (by rfl) t.f_law_mixed.mg t.f_law_mixed.kp t.f_law_mixed.b .nil pass0 (pa_cons (pv 0) (pa_cons (pv 3) pa_nil)))))), ?_⟩
    refine ⟨_, rfl, s, 4, G, rfl, by decide, by decide, I, fun sh H1 sh0 sh4 st1 src1 => ⟨by show 0 ≤ sizeLine; decide, fun f hf => ⟨_, _, rfl, ?_⟩⟩⟩
    have hf0 : H f = none := st1.free hf
    have gf : G f = none := I.wd.none hf0
    have I1 := I.step st1 src1
    have nsf : s ≠ f := I1.away0 hf
    have st2 : Step e.T (OnS s) G H G (upd H1 f (.lst [])) := st1.hid1 hf
    have src2 : Src s (upd H1 f (.lst [])) := by obtain ⟨x, y, z, h, w⟩ := src1; exact ⟨x, y, z, (upd_ne nsf).trans h, w⟩
    have ef2 : upd H1 f (.lst []) f = some (.lst []) := upd_same
    generalize upd H1 f (.lst []) = H2 at *
    obtain ⟨r, nr, en⟩ : ∃ r nr, names = r :: nr := by
      cases names with
      | nil => exact absurd rfl hne
      | cons r nr => exact ⟨r, nr, rfl⟩
    have ln : nr.length + 1 = names.length := by rw [en]; rfl
    have hp2 := st2.get hp
    refine ⟨_, rfl, p, sv names, rfl, .inl hp2, 1, _, rfl, ⟨by decide, by decide, by rw [List.length_map]; omega, by rw [List.length_map]; omega⟩, ?_⟩
    have en2 : (((sv names).length : Int) - 1).toNat = nr.length := by rw [List.length_map]; omega
    rw [en2]
    refine for_range (lo := 1) (n := nr.length) (fun i σ H3 => ∃ (v4 v5 v6 : Option V) (G3 : Hp) (us : List V) (ts : List (Str × Str)), σ = [some (.ref s), some (.ref p), some (.int sh), some (.ref f), v4, v5, v6] ∧ Step e.T (OnS s) G H G3 H3 ∧ Src s H3 ∧ G3 f = none ∧ H3 f = some (.lst us) ∧ Prs G3 us ts ∧ Grown (names.take (i + 1)) ts)
      ⟨_, _, _, G, [], [], rfl, st2, src2, gf, ef2, .nil, by rw [en]; exact Grown.one r⟩ ?_ ?_
    · rintro i σ H3 hi ⟨v4, v5, v6, G3, us, ts, rfl, st, src, gf3, ef3, P3, gr⟩
      have I3 := I.step st src
      have lus : us.length = i := by
        have h1 := Paired.len P3
        have h2 := gr.len
        rw [List.length_take] at h2
        omega
      -- the other end
      refine ⟨_, rfl, _, _, rfl, rfl, _, rfl, _, rfl, s, 1 + (i : Int), G3, rfl, by omega, by omega, I3, fun d1 H4 d10 d11 st4 src4 => ?_⟩
      have a4 := st.trans st4
      have I4 := I.step a4 src4
      refine ⟨_, rfl, _, _, rfl, rfl, _, rfl, s, 2, G3, rfl, by decide, by decide, I4, fun d2 H5 d20 d21 st5 src5 => ⟨_, _, rfl, rfl, _, _, rfl, by show 4 ≤ sizeLine; decide, fun q hq => ?_⟩⟩
      have a5 := a4.trans st5
      have ef5 : H5 f = some (.lst us) := st5.fr _ _ (st4.fr _ _ ef3 nsf.symm noTbl_lst) nsf.symm noTbl_lst
      obtain ⟨x, hx, x0, x1⟩ : ∃ x : Int, atI [V.int (1 + (i : Int) - 1), V.int 0, V.int d1, V.int (if 1 + (i : Int) - 1 - d2 > 0 then 1 + (i : Int) - 1 - d2 else 0)] sh = some (.int x) ∧ 0 ≤ x ∧ x < 1 + (i : Int) := by
        have c : sh = 0 ∨ sh = 1 ∨ sh = 2 ∨ sh = 3 := by omega
        rcases c with rfl | rfl | rfl | rfl
        · exact ⟨_, rfl, by omega, by omega⟩
        · exact ⟨_, rfl, by omega, by omega⟩
        · exact ⟨_, rfl, by omega, by omega⟩
        · exact ⟨_, rfl, by split <;> omega, by split <;> omega⟩
      refine ⟨_, rfl, q, _, sh, .int x, rfl, rfl, .inl upd_same, hx, ?_⟩
      have a6 := a5.hid1 (o := .lst [V.int (1 + (i : Int) - 1), V.int 0, V.int d1, V.int (if 1 + (i : Int) - 1 - d2 > 0 then 1 + (i : Int) - 1 - d2 else 0)]) hq
      have ef6 := (same_new (o := .lst [V.int (1 + (i : Int) - 1), V.int 0, V.int d1, V.int (if 1 + (i : Int) - 1 - d2 > 0 then 1 + (i : Int) - 1 - d2 else 0)]) hq) _ _ ef5
      have src6 : Src s (upd H5 q (.lst [V.int (1 + (i : Int) - 1), V.int 0, V.int d1, V.int (if 1 + (i : Int) - 1 - d2 > 0 then 1 + (i : Int) - 1 - d2 else 0)])) := by obtain ⟨x, y, z, h, w⟩ := src5; exact ⟨x, y, z, (same_new hq) _ _ h, w⟩
      generalize upd H5 q (.lst [V.int (1 + (i : Int) - 1), V.int 0, V.int d1, V.int (if 1 + (i : Int) - 1 - d2 > 0 then 1 + (i : Int) - 1 - d2 else 0)]) = H6 at *
      have hp6 := a6.get hp
      have hxn : x.toNat < names.length := by omega
      have ha : names[x.toNat]? = some names[x.toNat] := List.getElem?_eq_getElem hxn
      have hin : 1 + i < names.length := by omega
      have hb : names[1 + i]? = some names[1 + i] := List.getElem?_eq_getElem hin
      have atx : atI (sv names) x = some (.str names[x.toNat]) := by
        have q := atI_nat (xs := sv names) (j := x.toNat) (v := .str names[x.toNat]) (by rw [List.getElem?_map, ha]; rfl)
        rw [Int.toNat_of_nonneg x0] at q
        exact q
      have atk : atI (sv names) (1 + (i : Int)) = some (.str names[1 + i]) := by
        have q := atI_nat (xs := sv names) (j := 1 + i) (v := .str names[1 + i]) (by rw [List.getElem?_map, hb]; rfl)
        have e1 : (((1 + i : Nat)) : Int) = 1 + (i : Int) := by omega
        rw [e1] at q
        exact q
      generalize names[x.toNat] = na at *
      generalize hnb : names[1 + i] = nb at *
      refine ⟨_, rfl, _, rfl, p, sv names, x, _, rfl, rfl, .inl hp6, atx, _, rfl, _, rfl, p, sv names, _, _, rfl, rfl, .inl hp6, atk, by show 2 ≤ sizeLine; decide, fun T hT => ?_⟩
      have a7 := a6.new1 (o := .tup [.str na, .str nb]) hT noTbl_tup
      have ef7 := (same_new (o := .tup [.str na, .str nb]) hT) _ _ ef6
      have src7 : Src s (upd H6 T (.tup [.str na, .str nb])) := by obtain ⟨x, y, z, h, w⟩ := src6; exact ⟨x, y, z, (same_new hT) _ _ h, w⟩
      have up7 : ∀ b o, G3 b = some o → upd G3 T (.tup [.str na, .str nb]) b = some o := fun b o h => (upd_ne (ne_of_none h (a6.wd.none hT))).trans h
      have gf7 : upd G3 T (.tup [.str na, .str nb]) f = none := (upd_ne (ne_of_none ef6 hT)).trans gf3
      have gT7 : upd G3 T (.tup [.str na, .str nb]) T = some (.tup [.str na, .str nb]) := upd_same
      have hT7 : upd H6 T (.tup [.str na, .str nb]) T = some (.tup [.str na, .str nb]) := upd_same
      generalize upd H6 T (.tup [.str na, .str nb]) = H7 at *
      generalize upd G3 T (.tup [.str na, .str nb]) = G7 at *
      have ma : na ∈ names.take (i + 1) := List.mem_of_getElem? (i := x.toNat) (by rw [List.getElem?_take_of_lt (by omega)]; exact ha)
      have hb' : names[i + 1]? = some nb := by rw [Nat.add_comm]; exact hb
      have mb : nb ∉ names.take (i + 1) := nodup_take nd hb'
      have et : names.take (i + 1 + 1) = names.take (i + 1) ++ [nb] := take_snoc hb'
      refine ⟨_, rfl, .inl ⟨rfl, _, SqL.of ef7⟩, _, rfl, s, 2, G7, rfl, by decide, by decide, I.step a7 src7, fun d3 H8 d30 d31 st8 src8 => ⟨rfl, _, rfl, ?_⟩⟩
      have a8 := a7.trans st8
      have ef8 := st8.fr _ _ ef7 nsf.symm noTbl_lst
      have hT8 := st8.wd.sub _ _ gT7
      have szu : us.length < sizeLine := hundred (by omega)
      by_cases z : d3 = 0
      · rw [decide_eq_true (congrArg V.int z)]
        refine ⟨_, rfl, f, us, _, rfl, rfl, ef8, szu, ?_⟩
        refine ⟨_, _, _, G7, _, _, rfl, a8.wr hf0 gf7 ef8 noTbl_lst (fun _ h => nomatch h), ?_, gf7, upd_same, Paired.snoc ⟨T, rfl, gT7⟩ (P3.up up7), by rw [et]; exact gr.add ma mb (.inl rfl)⟩
        obtain ⟨x, y, z, h, w⟩ := src8
        exact ⟨x, y, z, (upd_ne nsf).trans h, w⟩
      · rw [decide_eq_false (fun h => z (by injection h))]
        refine ⟨_, rfl, T, .str na, .str nb, rfl, hT8, fun T2 hT2 => ?_⟩
        have a9 := a8.new1 (o := .tup [.str nb, .str na]) hT2 noTbl_tup
        have nf2 : f ≠ T2 := ne_of_none ef8 hT2
        have gf9 : upd G7 T2 (.tup [.str nb, .str na]) f = none := (upd_ne nf2).trans gf7
        have ef9 : upd H8 T2 (.tup [.str nb, .str na]) f = some (.lst us) := (upd_ne nf2).trans ef8
        refine ⟨f, us, _, rfl, rfl, ef9, szu, ?_⟩
        refine ⟨_, _, _, _, _, _, rfl, a9.wr hf0 gf9 ef9 noTbl_lst (fun _ h => nomatch h), ?_, gf9, upd_same, Paired.snoc (y := (nb, na)) ⟨T2, rfl, upd_same⟩ ((P3.up up7).up fun c o h => (upd_ne (ne_of_none h (a8.wd.none hT2))).trans h), by rw [et]; exact gr.add ma mb (.inr rfl)⟩
        obtain ⟨x, y, z, h, w⟩ := src8
        exact ⟨x, y, z, (upd_ne nsf).trans ((same_new hT2) _ _ h), w⟩
    · rintro σ H3 ⟨v4, v5, v6, G3, us, ts, rfl, st, src, gf3, ef3, P3, gr⟩
      have et : names.take (nr.length + 1) = names := List.take_of_length_le (by omega)
      rw [et] at gr
      have I3 := I.step st src
      have lus : us.length + 1 = names.length := by rw [Paired.len P3]; exact gr.len
      refine ⟨_, rfl, _, rfl, s, f, us, G3, rfl, I3, .inl ef3, nsf.symm, by omega, fun q ys G4 H4 pm st4 src4 hq => ?_⟩
      obtain ⟨ts', pt, Pt⟩ := Paired.perm pm (P3.up st4.up)
      exact k q ys ts' G4 H4 (st.trans st4) src4 hq Pt ⟨names, ts, gr, .refl _, pt.symm⟩
end
end K12

set_option maxHeartbeats 4000000
namespace K12
open PySem PySem.Spec PyProof.Rows L2 LamX NdefX
def nmP (k : Nat) : Str := ("p" : Str) ++ (toString ((10 : Int) + (0 + (k : Int))) : Str)
theorem nmP_nd : ((List.range 60).map nmP).Nodup := by decide +kernel
theorem nmP_ok : ∀ k ∈ List.range 60, nameB (nmP k) = true ∧ ("p" : Str).length + (toString ((10 : Int) + (0 + (k : Int))) : Str).length ≤ 100 := by decide +kernel
theorem Src.same {s : Addr} {H H' : Hp} (h : Src s H) (e : Same H H') : Src s H' := by
  obtain ⟨x, y, z, h, w⟩ := h
  exact ⟨x, y, z, e _ _ h, w⟩
section
variable {e : Ev}
theorem SrcAt.away0' {s p : Addr} {G H : Hp} (I : SrcAt e s G H) (h : H p = none) : p ≠ s := (I.away0 h).symm
theorem ok_v_drawn (t : Tx e) : Ok e 4 "_law_v_drawn" ["_law_source_here", "_law_least", "_law_most"] (fun vs H Q _ => ∃ s G, ∃ most : Nat, vs = [.ref s, .int 1, .int (most : Nat)] ∧ SrcAt e s G H ∧ 1 ≤ most ∧ most ≤ 12 ∧
    ∀ f names ties news G' H', Step e.T (OnS s) G H G' H' → Src s H' → FormAt G' f names ties news → FOk names ties news most → Q (.ref f) H') := by
  refine t.f_law_v_drawn.ok sc_law_v_drawn (fun vs H Q E h => ?_) (fun cdv A outer s H vs Q E hcd hr h => ?_)
  · obtain ⟨s, G, most, rfl, _⟩ := h; rfl
  · obtain ⟨s, G, most, rfl, I, m1, m2, k⟩ := h
    refine ⟨_, pss_cons (ps_set (i := 3) sc_law_v_drawn.nd rfl (.inl rfl) (pe_call (ok_v_names t) hr (by rfl) t.f_law_v_names.mg t.f_law_v_names.kp t.f_law_v_names.b .nil pass0 (pa_cons (pv 0) (pa_cons (pe_op op_add (pv 1) (pe_call (ok_draw t) (hr.mono (by decide)) (by rfl) t.f_law_draw.mg t.f_law_draw.kp t.f_law_draw.b .nil pass0 (pa_cons (pv 0) (pa_cons (pe_op op_add (pe_op op_sub (pv 2) (pv 1)) pe_int) pa_nil)))) pa_nil))))
      (pss_cons (ps_asg (pe_tup (pa_cons (pe_call (ok_v_ties t) hr (by rfl) t.f_law_v_ties.mg t.f_law_v_ties.kp t.f_law_v_ties.b .nil pass0 (pa_cons (pv 0) (pa_cons (pv 3) pa_nil))) (pa_cons (pe_call (ok_pick t) (hr.mono (by decide)) (by rfl) t.f_law_pick.mg t.f_law_pick.kp t.f_law_pick.b .nil pass0 (pa_cons (pv 0) (pa_cons (pe_lst (pa_cons pe_int (pa_cons pe_int (pa_cons pe_int (pa_cons (pe_op op_pow pe_int pe_int) pa_nil))))) pa_nil))) pa_nil)))
        (pg_tup rfl (pgs_cons (pg_name (i := 4) sc_law_v_drawn.nd rfl (.inl rfl)) (pgs_cons (pg_name (i := 5) sc_law_v_drawn.nd rfl (.inr rfl)) pgs_nil))))
      (pss_one (ps_ret (pe_tup (pa_cons (pe_call (ok_mixed t) (hr.mono (by decide)) (by rfl) t.f_law_mixed.mg t.f_law_mixed.kp t.f_law_mixed.b .nil pass0 (pa_cons (pv 0) (pa_cons (pv 3) pa_nil))) (pa_cons (pv 4) (pa_cons (pe_lc (own := [("_law_name", 6)]) (g := gName 6) (tt := tYes) rfl sc_law_v_drawn.nd (pi_sq (pv 3)) (blkOk_by (N := ["_law_source_here", "_law_least", "_law_most", "_law_names", "_law_ties", "_law_size", "_law_name"]) (sc := defScope s_law_v_drawn) (by decide +kernel))
        (fun _ _ _ _ _ => pg_name (i := 6) sc_law_v_drawn.nd rfl (Or.inl rfl)) (fun _ _ _ _ _ => pts_nil) (fun _ _ _ _ _ => pe_op op_add pe_int (pe_call (ok_draw t) (hr.mono (by decide)) (by rfl) t.f_law_draw.mg t.f_law_draw.kp t.f_law_draw.b .nil pass0 (pa_cons (pv 0) (pa_cons (pv 5) pa_nil))))) pa_nil))))))), ?_⟩
    refine ⟨_, rfl, _, rfl, _, rfl, _, rfl, _, rfl, _, _, rfl, rfl, _, _, rfl, rfl, s, (most : Int) - 1 + 1, G, rfl, by omega, by omega, I, fun r H0 r0 r1 st0 src0 => ⟨_, _, rfl, rfl, ?_⟩⟩
    have em : (1 : Int) + r = (((1 + r).toNat : Nat) : Int) := by omega
    refine ⟨s, G, (1 + r).toNat, by rw [← em]; rfl, I.step st0 src0, by omega, by omega, fun p names G1 H1 st1 src1 hp1 ln nd nok => ?_⟩
    have a1 := st0.trans st1
    -- from here: names at p in G1, H1 (a1 : Step .. G H G1 H1), src1
    have I1 := I.step a1 src1
    have hne : names ≠ [] := fun z => by rw [z] at ln; simp at ln; omega
    refine ⟨_, rfl, _, rfl, s, p, names, G1, rfl, I1, hp1, nd, hne, by omega, fun tq us ties G2 H2 st2 src2 ht2 P2 tr => ?_⟩
    have a2 := a1.trans st2
    have I2 := I.step a2 src2
    refine ⟨_, rfl, 10, 15, rfl, rfl, ⟨by decide, by decide, by decide⟩, by show 4 ≤ sizeLine; decide, fun pl hpl => ?_⟩
    have src3 : Src s (upd H2 pl (.lst [V.int 1, V.int 1, V.int 3, V.int ((10 : Int) ^ (15 : Int).toNat)])) := src2.same (same_new hpl)
    refine ⟨s, pl, [V.int 1, V.int 1, V.int 3, V.int ((10 : Int) ^ (15 : Int).toNat)], G2, rfl, I2.no (Step.hid I2.wd hpl), .inl upd_same, (I2.away0' hpl), by simp, by show 4 ≤ 1000000000; decide, fun x H4 hx st4 src4 => ?_⟩
    have a4 : Step e.T (OnS s) G H G2 H4 := (a2.hid1 hpl).trans st4
    obtain ⟨sz, rfl, sz1, sz2⟩ : ∃ sz : Int, x = .int sz ∧ 1 ≤ sz ∧ sz ≤ 1000000000000000 := by
      simp only [List.mem_cons, List.not_mem_nil, or_false] at hx
      rcases hx with rfl | rfl | rfl | rfl
      all_goals exact ⟨_, rfl, by decide, by decide⟩
    refine ⟨by show 2 ≤ sizeLine; decide, fun T hT => ⟨T, _, rfl, SqT.of upd_same, rfl, _, _, rfl, _, _, rfl, rfl, ?_⟩⟩
    have a5 := a4.hid1 (o := .tup [.ref tq, .int sz]) hT
    have src5 : Src s (upd H4 T (.tup [.ref tq, .int sz])) := src4.same (same_new hT)
    generalize upd H4 T (.tup [.ref tq, .int sz]) = H5 at *
    have hp2 : G2 p = some (.lst (sv names)) := st2.up _ _ hp1
    have I5 := I.step a5 src5
    refine ⟨_, rfl, _, rfl, s, p, sv names, G2, rfl, I5, .inl (a5.wd.sub _ _ hp2), I5.away hp2, by rw [List.length_map]; omega, fun nq ys G6 H6 pm st6 src6 hq6 => ?_⟩
    obtain ⟨names', rfl, pn⟩ := List.Perm.map_inv_of pm
    have a6 := a5.trans st6
    have I6 := I.step a6 src6
    have hp6 : G6 p = some (.lst (sv names)) := st6.up _ _ hp2
    have hpH := a6.wd.sub _ _ hp6
    refine ⟨_, rfl, _, rfl, p, sv names, rfl, .inl hpH, fun J wk D hD => ?_⟩
    have hD0 : H D = none := a6.free hD
    have nsD : s ≠ D := I6.away0 hD
    refine lc_it wk (fun i H7 => ∃ ns, Step e.T (OnS s) G H G6 H7 ∧ Src s H7 ∧ H7 D = some (.lst (iv ns)) ∧ ns.length = i ∧ (∀ z ∈ ns, (1 : Int) ≤ z ∧ z ≤ 1000000000000000)) ⟨[], a6.hid1 hD, src6.same (same_new hD), upd_same, rfl, by simp⟩ (fun i H7 _ ⟨_, st, _⟩ => sq_keep (.inl hpH) fun o q _ => ?_) ?_ ?_
    · rw [hpH] at q
      rw [← q]
      exact st.wd.sub _ _ hp6
    · rintro i u H7 H8 hi ⟨ns, st, src, d7, lns, hns⟩ ⟨rfl, hu⟩
      refine ⟨rfl, yes_ ⟨_, rfl, _, rfl, s, sz, G6, rfl, by omega, sz2, I.step st src, fun r H9 r0 r1 st9 src9 => ⟨_, _, rfl, rfl, ?_⟩⟩⟩
      have d9 := st9.fr _ _ d7 nsD.symm noTbl_lst
      have hi' : i < (sv names).length := hi
      rw [List.length_map] at hi'
      refine ⟨_, d9, by rw [List.length_map]; exact hundred (by omega), ns ++ [1 + r], (st.trans st9).wr hD0 (a6.wd.none hD) d9 noTbl_lst (fun _ h => nomatch h), ?_, by rw [upd_same]; simp [iv], by simp [lns], fun z hz => ?_⟩
      · obtain ⟨x, y, z, h, w⟩ := src9
        exact ⟨x, y, z, (upd_ne nsD).trans h, w⟩
      · rcases List.mem_append.mp hz with hz | hz
        · exact hns z hz
        · rw [List.mem_singleton.mp hz]; exact ⟨by omega, by omega⟩
    · rintro H7 ⟨ns, st, src, d7, lns, hns⟩
      rw [List.length_map] at lns
      refine ⟨by show 3 ≤ sizeLine; decide, fun f hf => ?_⟩
      have a7 := st.show hD0 d7 noTbl_lst fun u q => by rw [a6.wd.none hD] at q; cases q
      have up7 : ∀ b o, G6 b = some o → upd G6 D (.lst (iv ns)) b = some o := fun b o h => (upd_ne (ne_of_none h (a6.wd.none hD))).trans h
      have a8 := a7.new1 (o := .tup [.ref nq, .ref tq, .ref D]) hf noTbl_tup
      have up8 : ∀ b o, upd G6 D (.lst (iv ns)) b = some o → upd (upd G6 D (.lst (iv ns))) f (.tup [.ref nq, .ref tq, .ref D]) b = some o := fun b o h => (upd_ne (ne_of_none h (a7.wd.none hf))).trans h
      exact k f names' ties ns _ _ a8 (src.same (same_new hf)) ⟨nq, tq, D, us, upd_same, up8 _ _ (up7 _ _ hq6), up8 _ _ (up7 _ _ (st6.up _ _ ht2)), (P2.up st6.up).up fun b o h => up8 _ _ (up7 _ _ h), up8 _ _ upd_same⟩
        ⟨tr.perm pn.symm (.refl _), fun x hx => nok x (pn.mem_iff.mp hx), by rw [pn.length_eq]; omega, by rw [lns, pn.length_eq], fun z hz => (hns z hz).1, fun z hz => (hns z hz).2⟩
theorem ok_v_great (t : Tx e) : Ok e 4 "_law_v_great" ["_law_source_here", "_law_most"] (fun vs H Q _ => ∃ s G, vs = [.ref s, .int 60] ∧ SrcAt e s G H ∧
    ∀ f names ties news G' H', Step e.T (OnS s) G H G' H' → Src s H' → FormAt G' f names ties news → FOk names ties news 60 → Q (.ref f) H') := by
  refine t.f_law_v_great.ok sc_law_v_great (fun vs H Q E h => ?_) (fun cdv A outer s H vs Q E hcd hr h => ?_)
  · obtain ⟨s, G, rfl, _⟩ := h; rfl
  · obtain ⟨s, G, rfl, I, k⟩ := h
    refine ⟨_, pss_cons (ps_setLc (i := 2) (own := [("_law_k", 3)]) (g := gName 3) (tt := tYes) rfl sc_law_v_great.nd rfl rfl (sw_true rfl rfl rfl (by decide +kernel)) (pi_range1 (by rfl) t.n_range (pa_cons (pe_op op_add pe_int (pe_call (ok_draw t) (hr.mono (by decide)) (by rfl) t.f_law_draw.mg t.f_law_draw.kp t.f_law_draw.b .nil pass0 (pa_cons (pv 0) (pa_cons (pe_op op_sub (pv 1) pe_int) pa_nil)))) pa_nil)) (blkOk_by (N := ["_law_source_here", "_law_most", "_law_names", "_law_k", "_law_ties", "_law_size", "_law_name"]) (sc := defScope s_law_v_great) (by decide +kernel))
        (fun _ _ _ _ _ => pg_name (i := 3) sc_law_v_great.nd rfl (Or.inl rfl)) (fun _ _ _ _ _ => pts_nil) (fun _ _ _ _ _ => pe_op op_add_str pe_str (pe_callTy call_str_int (by rfl) t.n_str bt_str (pa_cons (pe_op op_add pe_int (pv 3)) pa_nil))))
      (pss_cons (ps_asg (pe_tup (pa_cons (pe_call (ok_v_ties t) hr (by rfl) t.f_law_v_ties.mg t.f_law_v_ties.kp t.f_law_v_ties.b .nil pass0 (pa_cons (pv 0) (pa_cons (pv 2) pa_nil))) (pa_cons (pe_call (ok_pick t) (hr.mono (by decide)) (by rfl) t.f_law_pick.mg t.f_law_pick.kp t.f_law_pick.b .nil pass0 (pa_cons (pv 0) (pa_cons (pe_lst (pa_cons pe_int (pa_cons pe_int (pa_cons (pe_op op_pow pe_int pe_int) pa_nil)))) pa_nil))) pa_nil)))
        (pg_tup rfl (pgs_cons (pg_name (i := 4) sc_law_v_great.nd rfl (.inl rfl)) (pgs_cons (pg_name (i := 5) sc_law_v_great.nd rfl (.inr rfl)) pgs_nil))))
      (pss_one (ps_ret (pe_tup (pa_cons (pe_call (ok_mixed t) (hr.mono (by decide)) (by rfl) t.f_law_mixed.mg t.f_law_mixed.kp t.f_law_mixed.b .nil pass0 (pa_cons (pv 0) (pa_cons (pv 2) pa_nil))) (pa_cons (pv 4) (pa_cons (pe_lc (own := [("_law_name", 6)]) (g := gName 6) (tt := tYes) rfl sc_law_v_great.nd (pi_sq (pv 2)) (blkOk_by (N := ["_law_source_here", "_law_most", "_law_names", "_law_k", "_law_ties", "_law_size", "_law_name"]) (sc := defScope s_law_v_great) (by decide +kernel))
        (fun _ _ _ _ _ => pg_name (i := 6) sc_law_v_great.nd rfl (Or.inl rfl)) (fun _ _ _ _ _ => pts_nil) (fun _ _ _ _ _ => pe_op op_add pe_int (pe_call (ok_draw t) (hr.mono (by decide)) (by rfl) t.f_law_draw.mg t.f_law_draw.kp t.f_law_draw.b .nil pass0 (pa_cons (pv 0) (pa_cons (pv 5) pa_nil))))) pa_nil))))))), ?_⟩
    refine ⟨_, rfl, _, rfl, _, _, rfl, rfl, s, 60 - 12, G, rfl, by decide, by decide, I, fun r H0 r0 r1 st0 src0 => ⟨_, _, rfl, rfl, 13 + r, rfl, by omega, by omega, fun p hp0 => ?_⟩⟩
    have hpp : H p = none := st0.free hp0
    have I0 := I.step st0 src0
    have nsp : s ≠ p := I0.away0 hp0
    refine lc_it (walk_range (lo := 0) (n := (13 + r).toNat)) (fun i H2 => Same H0 H2 ∧ H2 p = some (.lst (sv ((List.range i).map nmP)))) ⟨same_new hp0, upd_same⟩ (fun _ _ _ _ => trivial) ?_ ?_
    · rintro i u H2 H3 hi ⟨s2, d2⟩ ⟨rfl, rfl⟩
      have hi' : i < (13 + r).toNat := hi
      have mi : i ∈ List.range 60 := List.mem_range.mpr (by omega)
      obtain ⟨o1, o2⟩ := nmP_ok i mi
      refine ⟨rfl, yes_ ⟨_, rfl, _, _, rfl, rfl, _, rfl, ?_, _, _, rfl, rfl, Nat.le_trans o2 (by decide), ?_⟩⟩
      · have : ((10 : Int) + (0 + (i : Int))).natAbs.log2 < 1920 := by
          have h1 : ((10 : Int) + (0 + (i : Int))).natAbs < 2 ^ 7 := by omega
          exact Nat.lt_of_lt_of_le (PySem.Flt.log2_lt_of (by decide) h1) (by decide)
        exact this
      refine ⟨_, d2, by rw [List.length_map, List.length_map, List.length_range]; exact hundred (by omega), fun c o h => (upd_ne (ne_of_none h hp0)).trans (s2 c o h), ?_⟩
      rw [upd_same, List.range_succ]
      simp [sv, nmP]
    rintro H1 ⟨s1, d1⟩
    have a1 := (st0.trans (Step.same I0.wd s1)).show hpp d1 noTbl_lst fun u q => by rw [I0.wd.none hp0] at q; cases q
    have src1 := src0.same s1
    generalize hnm : (List.range (13 + r).toNat).map nmP = names at *
    have ln : names.length = (13 + r).toNat := by rw [← hnm, List.length_map, List.length_range]
    have sub : names.Sublist ((List.range 60).map nmP) := by
      rw [← hnm]
      refine List.Sublist.map _ ?_
      have e1 : List.range 60 = List.range ((13 + r).toNat + (60 - (13 + r).toNat)) := by congr 1; omega
      rw [e1, List.range_add]
      exact List.sublist_append_left _ _
    have nd : names.Nodup := nmP_nd.sublist sub
    have nok : ∀ x ∈ names, nameB x = true := fun x hx => by
      obtain ⟨j, hj, rfl⟩ := List.mem_map.mp (sub.subset hx)
      exact (nmP_ok j hj).1
    have hp1 : upd G p (.lst (sv names)) p = some (.lst (sv names)) := upd_same
    generalize hG1 : upd G p (.lst (sv names)) = G1 at *
    -- from here: names at p in G1, H1 (a1 : Step .. G H G1 H1), src1
    have I1 := I.step a1 src1
    have hne : names ≠ [] := fun z => by rw [z] at ln; simp at ln; omega
    refine ⟨_, rfl, _, rfl, s, p, names, G1, rfl, I1, hp1, nd, hne, by omega, fun tq us ties G2 H2 st2 src2 ht2 P2 tr => ?_⟩
    have a2 := a1.trans st2
    have I2 := I.step a2 src2
    refine ⟨_, rfl, 10, 15, rfl, rfl, ⟨by decide, by decide, by decide⟩, by show 3 ≤ sizeLine; decide, fun pl hpl => ?_⟩
    have src3 : Src s (upd H2 pl (.lst [V.int 1, V.int 3, V.int ((10 : Int) ^ (15 : Int).toNat)])) := src2.same (same_new hpl)
    refine ⟨s, pl, [V.int 1, V.int 3, V.int ((10 : Int) ^ (15 : Int).toNat)], G2, rfl, I2.no (Step.hid I2.wd hpl), .inl upd_same, (I2.away0' hpl), by simp, by show 3 ≤ 1000000000; decide, fun x H4 hx st4 src4 => ?_⟩
    have a4 : Step e.T (OnS s) G H G2 H4 := (a2.hid1 hpl).trans st4
    obtain ⟨sz, rfl, sz1, sz2⟩ : ∃ sz : Int, x = .int sz ∧ 1 ≤ sz ∧ sz ≤ 1000000000000000 := by
      simp only [List.mem_cons, List.not_mem_nil, or_false] at hx
      rcases hx with rfl | rfl | rfl
      all_goals exact ⟨_, rfl, by decide, by decide⟩
    refine ⟨by show 2 ≤ sizeLine; decide, fun T hT => ⟨T, _, rfl, SqT.of upd_same, rfl, _, _, rfl, _, _, rfl, rfl, ?_⟩⟩
    have a5 := a4.hid1 (o := .tup [.ref tq, .int sz]) hT
    have src5 : Src s (upd H4 T (.tup [.ref tq, .int sz])) := src4.same (same_new hT)
    generalize upd H4 T (.tup [.ref tq, .int sz]) = H5 at *
    have hp2 : G2 p = some (.lst (sv names)) := st2.up _ _ hp1
    have I5 := I.step a5 src5
    refine ⟨_, rfl, _, rfl, s, p, sv names, G2, rfl, I5, .inl (a5.wd.sub _ _ hp2), I5.away hp2, by rw [List.length_map]; omega, fun nq ys G6 H6 pm st6 src6 hq6 => ?_⟩
    obtain ⟨names', rfl, pn⟩ := List.Perm.map_inv_of pm
    have a6 := a5.trans st6
    have I6 := I.step a6 src6
    have hp6 : G6 p = some (.lst (sv names)) := st6.up _ _ hp2
    have hpH := a6.wd.sub _ _ hp6
    refine ⟨_, rfl, _, rfl, p, sv names, rfl, .inl hpH, fun J wk D hD => ?_⟩
    have hD0 : H D = none := a6.free hD
    have nsD : s ≠ D := I6.away0 hD
    refine lc_it wk (fun i H7 => ∃ ns, Step e.T (OnS s) G H G6 H7 ∧ Src s H7 ∧ H7 D = some (.lst (iv ns)) ∧ ns.length = i ∧ (∀ z ∈ ns, (1 : Int) ≤ z ∧ z ≤ 1000000000000000)) ⟨[], a6.hid1 hD, src6.same (same_new hD), upd_same, rfl, by simp⟩ (fun i H7 _ ⟨_, st, _⟩ => sq_keep (.inl hpH) fun o q _ => ?_) ?_ ?_
    · rw [hpH] at q
      rw [← q]
      exact st.wd.sub _ _ hp6
    · rintro i u H7 H8 hi ⟨ns, st, src, d7, lns, hns⟩ ⟨rfl, hu⟩
      refine ⟨rfl, yes_ ⟨_, rfl, _, rfl, s, sz, G6, rfl, by omega, sz2, I.step st src, fun r H9 r0 r1 st9 src9 => ⟨_, _, rfl, rfl, ?_⟩⟩⟩
      have d9 := st9.fr _ _ d7 nsD.symm noTbl_lst
      have hi' : i < (sv names).length := hi
      rw [List.length_map] at hi'
      refine ⟨_, d9, by rw [List.length_map]; exact hundred (by omega), ns ++ [1 + r], (st.trans st9).wr hD0 (a6.wd.none hD) d9 noTbl_lst (fun _ h => nomatch h), ?_, by rw [upd_same]; simp [iv], by simp [lns], fun z hz => ?_⟩
      · obtain ⟨x, y, z, h, w⟩ := src9
        exact ⟨x, y, z, (upd_ne nsD).trans h, w⟩
      · rcases List.mem_append.mp hz with hz | hz
        · exact hns z hz
        · rw [List.mem_singleton.mp hz]; exact ⟨by omega, by omega⟩
    · rintro H7 ⟨ns, st, src, d7, lns, hns⟩
      rw [List.length_map] at lns
      refine ⟨by show 3 ≤ sizeLine; decide, fun f hf => ?_⟩
      have a7 := st.show hD0 d7 noTbl_lst fun u q => by rw [a6.wd.none hD] at q; cases q
      have up7 : ∀ b o, G6 b = some o → upd G6 D (.lst (iv ns)) b = some o := fun b o h => (upd_ne (ne_of_none h (a6.wd.none hD))).trans h
      have a8 := a7.new1 (o := .tup [.ref nq, .ref tq, .ref D]) hf noTbl_tup
      have up8 : ∀ b o, upd G6 D (.lst (iv ns)) b = some o → upd (upd G6 D (.lst (iv ns))) f (.tup [.ref nq, .ref tq, .ref D]) b = some o := fun b o h => (upd_ne (ne_of_none h (a7.wd.none hf))).trans h
      exact k f names' ties ns _ _ a8 (src.same (same_new hf)) ⟨nq, tq, D, us, upd_same, up8 _ _ (up7 _ _ hq6), up8 _ _ (up7 _ _ (st6.up _ _ ht2)), (P2.up st6.up).up fun b o h => up8 _ _ (up7 _ _ h), up8 _ _ upd_same⟩
        ⟨tr.perm pn.symm (.refl _), fun x hx => nok x (pn.mem_iff.mp hx), by rw [pn.length_eq]; omega, by rw [lns, pn.length_eq], fun z hz => (hns z hz).1, fun z hz => (hns z hz).2⟩
end
end K12

set_option maxHeartbeats 4000000
namespace K12
open PySem PySem.Spec PyProof.Rows L2 LamX NdefX
/-! ### pairs of names as data -/
def prS (z : Str × Str) : PyData := .tuple [.str z.1, .str z.2]
def okS (x : Str) : Prop := PyData.strOk x = true
theorem prS_lay {z : Str × Str} (h : okS z.1 ∧ okS z.2) : (prS z).canLay0 = true := by
  obtain ⟨h1, h2⟩ := h
  unfold okS at h1 h2
  simp [prS, PyData.canLay0, PyData.canLayAll0, h1, h2]
theorem prS_depth (z : Str × Str) : (prS z).depth = 1 := by simp [prS, PyData.depth, PyData.depthAll]
theorem prSs_lay : ∀ {zs : List (Str × Str)}, (∀ z ∈ zs, okS z.1 ∧ okS z.2) → PyData.canLayAll0 (zs.map prS) = true
  | [], _ => by simp [PyData.canLayAll0]
  | z :: zs, h => by simp [PyData.canLayAll0, prS_lay (h z (by simp)), prSs_lay (zs := zs) fun w hw => h w (by simp [hw])]
theorem prSs_depth : ∀ zs : List (Str × Str), PyData.depthAll (zs.map prS) ≤ 2
  | [] => by simp [PyData.depthAll]
  | z :: zs => by
    have h1 := prSs_depth zs
    have h2 := prS_depth z
    simp only [List.map_cons, PyData.depthAll]
    omega
theorem prS_shaped {z : Str × Str} (hz : okS z.1 ∧ okS z.2) : SeqAt.shaped (prS z) = true := by
  have h := prS_depth z
  show ((prS z).canLay0 && decide ((prS z).depth ≤ 64)) = true
  rw [Bool.and_eq_true]
  exact ⟨prS_lay hz, decide_eq_true (by omega)⟩
theorem prSs_shaped {zs : List (Str × Str)} (hz : ∀ z ∈ zs, okS z.1 ∧ okS z.2) : SeqAt.shaped (.list (zs.map prS)) = true := by
  have h1 := prSs_depth zs
  have h2 : PyData.depth (.list (zs.map prS)) ≤ 64 := by
    simp only [PyData.depth]
    omega
  show (PyData.canLay0 (.list (zs.map prS)) && decide (PyData.depth (.list (zs.map prS)) ≤ 64)) = true
  rw [Bool.and_eq_true]
  exact ⟨by simp only [PyData.canLay0]; exact prSs_lay hz, decide_eq_true h2⟩
theorem prS_eqv (z w : Str × Str) : PyData.eqv (prS z) (prS w) = decide (z = w) := by
  obtain ⟨a, b⟩ := z
  obtain ⟨a', b'⟩ := w
  have e : PyData.eqv (prS (a, b)) (prS (a', b')) = ((a == a') && ((b == b') && true)) := by simp only [prS, PyData.eqv, PyData.eqvAll]
  rw [e]
  by_cases h1 : a = a'
  · by_cases h2 : b = b'
    · subst h1 h2; simp
    · have q : (b == b') = false := beq_eq_false_iff_ne.mpr h2
      rw [q, Bool.false_and, Bool.and_false, decide_eq_false (fun h => h2 (Prod.mk.inj h).2)]
  · have q : (a == a') = false := beq_eq_false_iff_ne.mpr h1
    rw [q, Bool.false_and, decide_eq_false (fun h => h1 (Prod.mk.inj h).1)]
theorem prs_dp {K : PySem.W.Frag} {H : Hp} : ∀ {us : List V} {ts : List (Str × Str)}, Prs H us ts → DpAll K H us (ts.map prS)
  | _, _, .nil => .nil
  | _, _, .cons ⟨p, h1, h2⟩ t => by
    subst h1
    exact .cons (.tup (SqT.of h2) (.cons (.str _) (.cons (.str _) .nil))) (prs_dp t)
theorem prS_any (z : Str × Str) : ∀ ts : List (Str × Str), ((ts.map prS).any fun w => PyData.eqv w (prS z)) = decide (z ∈ ts)
  | [] => by simp
  | w :: ts => by
    rw [List.map_cons, List.any_cons, prS_any z ts, prS_eqv]
    by_cases h : w = z
    · subst h; simp
    · have h' : ¬ z = w := fun q => h q.symm
      simp [h, h']
def rInPr : R2 := fun x y H Q => ∃ q p a b us ts, (okS a ∧ okS b) ∧ (∀ z ∈ ts, okS z.1 ∧ okS z.2) ∧ x = .ref q ∧ y = .ref p ∧ H q = some (.tup [.str a, .str b]) ∧ H p = some (.lst us) ∧ Prs H us ts ∧ Q (.bl (decide ((a, b) ∈ ts))) H
theorem op_inPr {X : Cx} (hu : X.A.units + 65 < cLine) : OpR X (compareOp .In) rInPr := by
  intro pins s σ H x y v u Q I rx ry h
  obtain ⟨q, p, a, b, us, ts, o1, o2, rfl, rfl, h1, h2, h3, k⟩ := h
  refine op_inD hu pins s σ H _ _ v u Q I rx ry ⟨prS (a, b), ts.map prS, .tup (SqT.of h1) (.cons (.str _) (.cons (.str _) .nil)), .lst (SqL.of h2) (prs_dp h3), prS_shaped o1, prSs_shaped o2, ?_⟩
  rw [prS_any]
  exact k
/-! ### dict(pairs), the keys all different -/
theorem mergeK_new : ∀ {more kvs : List (Key × V)}, ((kvs ++ more).map (·.1)).Nodup → mergeK kvs more = kvs ++ more
  | [], kvs, _ => by simp [mergeK]
  | (k, v) :: r, kvs, h => by
    have e : mergeK kvs ((k, v) :: r) = mergeK (putK kvs k v) r := rfl
    have hk : valV kvs k = none := by
      cases q : valV kvs k with
      | none => rfl
      | some u =>
        exfalso
        have h1 : k ∈ kvs.map (·.1) := by
          exact valV_in q
        rw [List.map_append, List.nodup_append] at h
        exact h.2.2 k h1 k (by simp) rfl
    have e2 : kvs ++ (k, v) :: r = (kvs ++ [(k, v)]) ++ r := by simp
    rw [e, putK_new _ hk, e2]
    exact mergeK_new (by rw [← e2]; exact h)
theorem Dic.nodup {kvs : List (Key × V)} {names : List Str} {Pv : Str → V → Prop} (d : Dic kvs names Pv) (nd : names.Nodup) : (kvs.map (·.1)).Nodup := by
  rw [d.keys]
  exact List.Pairwise.map _ (fun a b h q => h (Sum.inr.inj q)) nd
def rDictPr : List V → Hp → VK → Prop := fun xs H Q => ∃ (a : Addr) (ps : List Addr) (kvs : List (Key × V)), xs = [.ref a] ∧ H a = some (.lst (ps.map V.ref)) ∧ Paired (fun p (kv : Key × V) => H p = some (.tup [kV kv.1, kv.2])) ps kvs ∧ (kvs.map (·.1)).Nodup ∧ ∀ p, H p = none → Q (.ref p) (upd H p (.dK kvs))
theorem call_dictPr {X : Cx} (hc : X.calm = true) : CallR X (.type "dict") rDictPr := by
  intro pins s σ H xs us Q I r h
  obtain ⟨a, ps, kvs, rfl, h1, h2, h3, q⟩ := h
  refine call_dictP hc pins s σ H _ us Q I r ⟨a, ps, kvs, rfl, SqL.of h1, Paired.mapP h2 fun _ _ h => SqT.of h, fun p hp => ?_⟩
  rw [mergeK_new (kvs := []) (by simpa using h3)]
  exact q p hp
theorem nameB_okS {x : Str} (h : nameB x = true) : okS x := by
  unfold nameB at h
  simp only [Bool.and_eq_true, decide_eq_true_eq] at h
  obtain ⟨⟨⟨h1, h2⟩, h3⟩, h4⟩ := h
  have lt : ∀ c ∈ lettersZ.cps.toList, c < 0x110000 := by decide +kernel
  have ft : ∀ c ∈ figuresZ.cps.toList, c < 0x110000 := by decide +kernel
  unfold okS PyData.strOk
  rw [← Array.all_toList]
  refine List.all_eq_true.mpr fun c hc => decide_eq_true ?_
  have := List.all_eq_true.mp h4 c hc
  rw [Bool.or_eq_true, decide_eq_true_eq, decide_eq_true_eq] at this
  exact this.elim (lt c) (ft c)
section
variable {e : Ev}
theorem Lo.ref {G G' : Hp} {n : Nat} {p : Addr} {xs : List V} {w : V} (h : Lo G G' (n + 1) (.ref p) w) (hp : G p = some (.lst xs)) : ∃ q ys, w = .ref q ∧ Sq G' q ys ∧ Paired (Lo G G' n) xs ys := by
  rcases h with h | ⟨p', q, xs', ys, h1, h2, h3, h4, h5⟩
  · cases h.1
  · cases h1
    rw [hp] at h3
    cases h3
    exact ⟨q, ys, h2, h4, h5⟩
theorem Lo.flats {G G' : Hp} {n : Nat} : ∀ {xs ys : List V}, Paired (Lo G G' n) xs ys → (∀ x ∈ xs, flatV x = true) → ys = xs
  | _, _, .nil, _ => rfl
  | _, _, .cons (a := x) (b := y) q t, h => by
    have hx := h x (by simp)
    have e1 : y = x := by
      cases n with
      | zero => exact q.2
      | succ n =>
        rcases q with q | ⟨p', _, _, _, h1, _⟩
        · exact q.2
        · rw [h1] at hx; cases hx
    rw [e1, Lo.flats t fun z hz => h z (by simp [hz])]
theorem sv_flat {l : List Str} : ∀ x ∈ sv l, flatV x = true := fun x hx => by
  obtain ⟨y, _, rfl⟩ := List.mem_map.mp hx
  rfl
theorem iv_flat {l : List Int} : ∀ x ∈ iv l, flatV x = true := fun x hx => by
  obtain ⟨y, _, rfl⟩ := List.mem_map.mp hx
  rfl
theorem ok_v_friends (t : Tx e) : Ok e 1 "_law_v_friends" ["_law_form", "_law_person"] (fun vs H Q _ => ∃ f y names ties news most G, vs = [.ref f, .str y] ∧ Wd e.T G H ∧ FormAt G f names ties news ∧ FOk names ties news most ∧ most ≤ 100 ∧ y ∈ names ∧
    ∀ q G' H', Step e.T NoS G H G' H' → G' q = some (.lst (sv (frn names ties y))) → Q (.ref q) H') := by
  refine t.f_law_v_friends.ok sc_law_v_friends (fun vs H Q E h => ?_) (fun cdv A outer s H vs Q E hcd hr h => ?_)
  · obtain ⟨f, y, names, ties, news, most, G, rfl, _⟩ := h; rfl
  · obtain ⟨f, y, names, ties, news, most, G, rfl, wd, F, ok, hm, my, k⟩ := h
    have hl : names.length ≤ 100 := Nat.le_trans ok.len hm
    have oy := nameB_okS (ok.ok y my)
    have ot : ∀ z ∈ ties, okS z.1 ∧ okS z.2 := fun z hz => ⟨nameB_okS (ok.ok _ (ok.tree.ends z hz).1), nameB_okS (ok.ok _ (ok.tree.ends z hz).2.1)⟩
    obtain ⟨a, b, c, tvs, hf, ha, hb, P, hc⟩ := F.at_
    have hu65 : ∀ {A' : Around}, Room 0 A' → A'.units + 65 < cLine := fun r => by have := r.un; omega
    refine ⟨_, pss_one (ps_ret (pe_lc (own := [("_law_name", 2)]) (g := gName 2) rfl sc_law_v_friends.nd (pi_sq (pe_ix ix_sq (pv 0) pe_int (fun _ _ => rfl))) (blkOk_by (N := ["_law_form", "_law_person", "_law_name"]) (sc := defScope s_law_v_friends) (by decide +kernel))
      (fun _ _ _ _ _ => pg_name (i := 2) sc_law_v_friends.nd rfl (Or.inl rfl)) (fun _ _ _ _ _ => pts_one (PW.pt (pw_or (pt_cmpR (op_inPr (hu65 hr)) (pe_tup (pa_cons (pv 2) (pa_cons (pv 1) pa_nil))) (pe_ix ix_sq (pv 0) pe_int (fun _ _ => rfl)) (by rfl)) (pw_or1 (pt_cmpR (op_inPr (hu65 hr)) (pe_tup (pa_cons (pv 1) (pa_cons (pv 2) pa_nil))) (pe_ix ix_sq (pv 0) pe_int (fun _ _ => rfl)) (by rfl))))))
      (fun _ _ _ _ _ => pv 2))), ?_⟩
    have hf0 := wd.sub _ _ hf
    have ha0 := wd.sub _ _ ha
    have hb0 := wd.sub _ _ hb
    refine ⟨_, rfl, f, _, 0, .ref a, rfl, rfl, .inr hf0, rfl, a, sv names, rfl, .inl ha0, fun J wk D hD => ?_⟩
    refine lc_it wk (fun i H2 => Same H H2 ∧ H2 D = some (.lst (sv ((names.take i).filter fun z => decide (adj ties z y))))) ⟨same_new hD, upd_same⟩ (fun i H2 _ ⟨s2, _⟩ => sq_keep (.inl ha0) fun o q _ => s2 _ _ q) ?_ ?_
    · rintro i u H2 H3 hi ⟨s2, d2⟩ ⟨rfl, hu⟩
      obtain ⟨z, hz, rfl⟩ := sv_get hu
      have el : ((names.take (i + 1)).filter fun z => decide (adj ties z y)) = ((names.take i).filter fun z => decide (adj ties z y)) ++ (if adj ties z y then [z] else []) := by
        rw [take_snoc hz, List.filter_append]
        congr 1
        exact filter_one (c := fun z => adj ties z y)
      have yes : ∀ H4, Same H3 H4 → adj ties z y → ∃ acc, H4 D = some (.lst acc) ∧ acc.length < sizeLine ∧ (Same H (upd H4 D (.lst (acc ++ [.str z]))) ∧ upd H4 D (.lst (acc ++ [.str z])) D = some (.lst (sv ((names.take (i + 1)).filter fun z => decide (adj ties z y))))) := fun H4 s4 h => by
        refine ⟨_, s4 _ _ d2, ?_, fun c o q => (upd_ne (ne_of_none q hD)).trans (s4 _ _ (s2 c o q)), ?_⟩
        · rw [List.length_map]
          refine hundred (Nat.le_trans (List.length_filter_le _ _) ?_)
          rw [List.length_take]
          omega
        · rw [upd_same, el, if_pos h]
          simp [sv]
      refine ⟨rfl, _, rfl, _, rfl, by show 2 ≤ sizeLine; decide, fun T hT => ⟨_, rfl, f, _, 1, .ref b, rfl, rfl, .inr ((s2.trans (same_new hT)) _ _ hf0), rfl, ?_⟩⟩
      refine ⟨T, b, z, y, tvs, ties, ⟨nameB_okS (ok.ok z (List.mem_of_getElem? hz)), oy⟩, ot, rfl, rfl, upd_same, (s2.trans (same_new hT)) _ _ hb0, P.up fun c o q => (s2.trans (same_new hT)) _ _ (wd.sub _ _ q), _, rfl, ?_⟩
      by_cases c1 : (z, y) ∈ ties
      · rw [decide_eq_true c1]
        exact iteT (iteT ⟨_, rfl, yes _ (same_new hT) (.inl c1)⟩)
      · rw [decide_eq_false c1]
        refine iteF ⟨_, rfl, _, rfl, by show 2 ≤ sizeLine; decide, fun T2 hT2 => ⟨_, rfl, f, _, 1, .ref b, rfl, rfl, .inr ((s2.trans ((same_new hT).trans (same_new hT2))) _ _ hf0), rfl, ?_⟩⟩
        refine ⟨T2, b, y, z, tvs, ties, ⟨oy, nameB_okS (ok.ok z (List.mem_of_getElem? hz))⟩, ot, rfl, rfl, upd_same, (s2.trans ((same_new hT).trans (same_new hT2))) _ _ hb0, P.up fun c o q => (s2.trans ((same_new hT).trans (same_new hT2))) _ _ (wd.sub _ _ q), _, rfl, ?_⟩
        by_cases c2 : (y, z) ∈ ties
        · rw [decide_eq_true c2]
          exact iteT ⟨_, rfl, yes _ ((same_new hT).trans (same_new hT2)) (.inr c2)⟩
        · rw [decide_eq_false c2]
          refine iteF ⟨s2.trans ((same_new hT).trans (same_new hT2)), ?_⟩
          rw [el, if_neg (fun h => h.elim c1 c2), List.append_nil]
          exact ((same_new hT).trans (same_new hT2)) _ _ d2
    · rintro H2 ⟨s2, d2⟩
      rw [List.length_map, List.take_length] at d2
      exact k D _ H2 ((Step.same wd s2).show hD d2 noTbl_lst fun u q => by rw [wd.none hD] at q; cases q) upd_same
theorem ok_v_slates (t : Tx e) : Ok e 3 "_law_v_slates" ["_law_source_here", "_law_form"] (fun vs H Q _ => ∃ s f names ties news most G, vs = [.ref s, .ref f] ∧ SrcAt e s G H ∧ FormAt G f names ties news ∧ FOk names ties news most ∧ most ≤ 100 ∧
    ∀ d sl G' H', Step e.T (OnS s) G H G' H' → Src s H' → SlAt G' d names sl → IsSl names ties sl → Q (.ref d) H') := by
  refine t.f_law_v_slates.ok sc_law_v_slates (fun vs H Q E h => ?_) (fun cdv A outer s H vs Q E hcd hr h => ?_)
  · obtain ⟨s, f, names, ties, news, most, G, rfl, _⟩ := h; rfl
  · obtain ⟨s, f, names, ties, news, most, G, rfl, I, F, ok, hm, k⟩ := h
    have hl : names.length ≤ 100 := Nat.le_trans ok.len hm
    have nd := ok.tree.nodup
    obtain ⟨a, b, c, tvs, hf, ha, hb, P, hc⟩ := F.at_
    refine ⟨_, pss_one (ps_ret (pe_callTy (call_dictPr rfl) (by rfl) t.n_dict bt_dict (pa_cons (pe_lc (own := [("_law_name", 2)]) (g := gName 2) (tt := tYes) rfl sc_law_v_slates.nd (pi_sq (pe_ix ix_sq (pv 1) pe_int (fun _ _ => rfl))) (blkOk_by (N := ["_law_source_here", "_law_form", "_law_name"]) (sc := defScope s_law_v_slates) (by decide +kernel))
      (fun _ _ _ _ _ => pg_name (i := 2) sc_law_v_slates.nd rfl (Or.inl rfl)) (fun _ _ _ _ _ => pts_nil)
      (fun _ _ _ _ _ => pe_tup (pa_cons (pv 2) (pa_cons (pe_call (ok_mixed t) hr (by rfl) t.f_law_mixed.mg t.f_law_mixed.kp t.f_law_mixed.b .nil pass0 (pa_cons (pv 0) (pa_cons (pe_call (ok_v_friends t) (hr.mono (by decide)) (by rfl) t.f_law_v_friends.mg t.f_law_v_friends.kp t.f_law_v_friends.b .nil pass0 (pa_cons (pv 1) (pa_cons (pv 2) pa_nil))) pa_nil))) pa_nil)))) pa_nil))), ?_⟩
    have hf0 := I.wd.sub _ _ hf
    have ha0 := I.wd.sub _ _ ha
    refine ⟨_, rfl, f, _, 0, .ref a, rfl, rfl, .inr hf0, rfl, a, sv names, rfl, .inl ha0, fun J wk D hD => ?_⟩
    have nsD : s ≠ D := I.away0 hD
    refine lc_it wk (fun i H2 => ∃ (G2 : Hp) (ps : List Addr) (kvs : List (Key × V)) (sl : Str → List Str), Step e.T (OnS s) G H G2 H2 ∧ Src s H2 ∧ G2 D = none ∧ H2 D = some (.lst (ps.map V.ref)) ∧ Paired (fun p (kv : Key × V) => G2 p = some (.tup [kV kv.1, kv.2])) ps kvs ∧ Dic kvs (names.take i) (fun y v => ListAt G2 (sl y) v) ∧ ∀ y ∈ names.take i, (sl y).Perm (frn names ties y))
      ⟨G, [], [], fun _ => [], Step.hid I.wd hD, I.src.same (same_new hD), I.wd.none hD, upd_same, .nil, .nil, by simp⟩ (fun i H2 _ ⟨_, _, _, _, st, _⟩ => sq_keep (.inl ha0) fun o q _ => ?_) ?_ ?_
    · rw [ha0] at q
      rw [← q]
      exact st.get ha
    · rintro i u H2 H3 hi ⟨G2, ps, kvs, sl, st, src, g2, d2, P2, D2, S2⟩ ⟨rfl, hu⟩
      obtain ⟨y, hy, rfl⟩ := sv_get hu
      have ny : y ∉ names.take i := nodup_take nd hy
      have I2 := I.step st src
      refine ⟨rfl, yes_ ⟨_, rfl, _, rfl, _, rfl, _, rfl, f, y, names, ties, news, most, G2, rfl, st.wd, F.up st.up, ok, hm, List.mem_of_getElem? hy, fun q G4 H4 st4 hq => ?_⟩⟩
      have a4 := st.trans st4.no
      have I4 := I2.no st4
      have lf : (frn names ties y).length ≤ names.length := List.length_filter_le _ _
      refine ⟨s, q, sv (frn names ties y), G4, rfl, I4, .inl (st4.wd.sub _ _ hq), I4.away hq, by rw [List.length_map]; omega, fun q5 ys G5 H5 pm st5 src5 hq5 => ⟨by show 2 ≤ sizeLine; decide, fun T hT => ?_⟩⟩
      obtain ⟨l, rfl, pl⟩ := List.Perm.map_inv_of pm
      have a5 := a4.trans st5
      have d5 : H5 D = some (.lst (ps.map V.ref)) := st5.fr _ _ (st4.own d2 (fun z => z) noTbl_lst) nsD.symm noTbl_lst
      have g5 : G5 D = none := st5.hidden (st4.own d2 (fun z => z) noTbl_lst) (st4.hidden d2 g2)
      have nDT : D ≠ T := ne_of_none d5 hT
      have a6 := a5.new1 (o := .tup [.str y, .ref q5]) hT noTbl_tup
      have up6 : ∀ b o, G2 b = some o → upd G5 T (.tup [.str y, .ref q5]) b = some o := fun b o h => (upd_ne (ne_of_none (st5.up _ _ (st4.up _ _ h)) (a5.wd.none hT))).trans (st5.up _ _ (st4.up _ _ h))
      have zy : ∀ z ∈ names.take i, z ≠ y := fun z hz q => ny (q ▸ hz)
      have lps : ps.length = kvs.length := Paired.len P2
      refine ⟨ps.map V.ref, (upd_ne nDT).trans d5, ?_, upd G5 T (.tup [.str y, .ref q5]), ps ++ [T], kvs ++ [(Sum.inr y, .ref q5)], put sl y l, a6.wr hD (by exact (upd_ne nDT).trans g5) ((upd_ne nDT).trans d5) noTbl_lst (fun _ h => nomatch h), ?_, (upd_ne nDT).trans g5, ?_, Paired.snoc (R := fun (p : Addr) (kv : Key × V) => upd G5 T (.tup [.str y, .ref q5]) p = some (.tup [kV kv.1, kv.2])) upd_same (Paired.mapP P2 fun _ _ h => up6 _ _ h), ?_, ?_⟩
      · rw [List.length_map, lps, D2.len, List.length_take]
        exact hundred (by omega)
      · have := src5.same (same_new (o := .tup [.str y, .ref q5]) hT)
        obtain ⟨x, y', z, h, w⟩ := this
        exact ⟨x, y', z, (upd_ne nsD).trans h, w⟩
      · rw [upd_same]
        simp
      · rw [take_snoc hy]
        refine Paired.snoc ⟨rfl, q5, rfl, ?_⟩ (D2.mono fun z u hz h => by rw [put_ne (zy z hz)]; exact h.up up6)
        rw [put_at]
        exact (upd_ne (ne_of_none hq5 (a5.wd.none hT))).trans hq5
      · rw [take_snoc hy]
        intro z hz
        rcases List.mem_append.mp hz with hz | hz
        · rw [put_ne (zy z hz)]; exact S2 z hz
        · rw [List.mem_singleton.mp hz, put_at]; exact pl
    · rintro H2 ⟨G2, ps, kvs, sl, st, src, g2, d2, P2, D2, S2⟩
      rw [List.length_map, List.take_length] at D2 S2
      refine ⟨D, ps, kvs, rfl, d2, Paired.mapP P2 fun _ _ h => st.wd.sub _ _ h, D2.nodup nd, fun p hp => ?_⟩
      exact k p sl _ _ (st.new1 hp noTbl_dK) (src.same (same_new hp)) ⟨kvs, upd_same, D2.mono fun _ _ _ h => h.up fun c o q => (upd_ne (ne_of_none q (st.wd.none hp))).trans q⟩ S2
theorem ok_v_made (t : Tx e) : Ok e 7 "_law_v_made" ["_law_source_here", "_law_form"] (fun vs H Q _ => ∃ s f names ties news most G, vs = [.ref s, .ref f] ∧ SrcAt e s G H ∧ FormAt G f names ties news ∧ FOk names ties news most ∧ most ≤ 100 ∧
    ∀ v G' H', Step e.T (OnS s) G H G' H' → Src s H' → VAt e.CV G' v names ties news → Q (.ref v) H') := by
  refine t.f_law_v_made.ok sc_law_v_made (fun vs H Q E h => ?_) (fun cdv A outer s H vs Q E hcd hr h => ?_)
  · obtain ⟨s, f, names, ties, news, most, G, rfl, _⟩ := h; rfl
  · obtain ⟨s, f, names, ties, news, most, G, rfl, I, F, ok, hm, k⟩ := h
    obtain ⟨a, b, c, tvs, hf, ha, hb, P, hc⟩ := F.at_
    have hf0 := I.wd.sub _ _ hf
    have hb0 := I.wd.sub _ _ hb
    have lt : tvs.length = ties.length := Paired.len P
    have tl := ok.tree.len
    have ln := ok.len
    refine ⟨_, pss_cons (ps_set (i := 2) sc_law_v_made.nd rfl (.inl rfl) (pe_call (ok_loose t 3) (hr.mono (by decide)) (by rfl) t.f_law_loose.mg t.f_law_loose.kp t.f_law_loose.b .nil pass0 (pa_cons (pv 0) (pa_cons (pe_lc (own := [("_law_pair", 3)]) (g := gName 3) (tt := tYes) rfl sc_law_v_made.nd (pi_sq (pe_ix ix_sq (pv 1) pe_int (fun _ _ => rfl))) (blkOk_by (N := ["_law_source_here", "_law_form", "_law_ties", "_law_pair"]) (sc := defScope s_law_v_made) (by decide +kernel))
        (fun _ _ _ _ _ => pg_name (i := 3) sc_law_v_made.nd rfl (Or.inl rfl)) (fun _ _ _ _ _ => pts_nil) (fun _ _ _ _ _ => pe_callTy call_listSq (by rfl) t.n_list bt_list (pa_cons (pv 3) pa_nil))) pa_nil))))
      (pss_one (ps_ret (pe_make t.mkV (ok_Village_init t) hr (by rfl) t.mgV t.f_Village_init.b .nil pass0 (pa_cons (pe_call (ok_loose t 2) (hr.mono (by decide)) (by rfl) t.f_law_loose.mg t.f_law_loose.kp t.f_law_loose.b .nil pass0 (pa_cons (pv 0) (pa_cons (pe_ix ix_sq (pv 1) pe_int (fun _ _ => rfl)) pa_nil)))
        (pa_cons (pv 2) (pa_cons (pe_call (ok_loose t 2) (hr.mono (by decide)) (by rfl) t.f_law_loose.mg t.f_law_loose.kp t.f_law_loose.b .nil pass0 (pa_cons (pv 0) (pa_cons (pe_ix ix_sq (pv 1) pe_int (fun _ _ => rfl)) pa_nil))) pa_nil)))))), ?_⟩
    -- the ties, as lists
    refine ⟨_, rfl, _, rfl, f, _, 1, .ref b, rfl, rfl, .inr hf0, rfl, b, tvs, rfl, .inl hb0, fun J wk D hD => ?_⟩
    refine lc_it wk (fun i H2 => ∃ (G2 : Hp) (us : List V), Step e.T NoS G H G2 H2 ∧ G2 D = none ∧ H2 D = some (.lst us) ∧ Paired (fun v (tie : Str × Str) => ∃ p, v = V.ref p ∧ G2 p = some (.lst [.str tie.1, .str tie.2])) us (ties.take i))
      ⟨G, [], Step.hid I.wd hD, I.wd.none hD, upd_same, .nil⟩ (fun i H2 _ ⟨_, _, st, _⟩ => sq_keep (.inl hb0) fun o q _ => ?_) ?_ ?_
    · rw [hb0] at q
      rw [← q]
      exact st.get hb
    · rintro i u H2 H3 hi ⟨G2, us, st, g2, d2, P2⟩ ⟨rfl, hu⟩
      obtain ⟨tie, htie, p, rfl, hp⟩ := Paired.getL P hu
      refine ⟨rfl, yes_ ⟨_, rfl, p, [.str tie.1, .str tie.2], rfl, .inr (st.get hp), fun l hl => ?_⟩⟩
      have nDl : D ≠ l := ne_of_none d2 hl
      have a3 := st.new1 (o := .lst [.str tie.1, .str tie.2]) hl noTbl_lst
      refine ⟨us, (upd_ne nDl).trans d2, ?_, _, us ++ [.ref l], a3.wr hD ((upd_ne nDl).trans g2) ((upd_ne nDl).trans d2) noTbl_lst (fun _ h => nomatch h), (upd_ne nDl).trans g2, upd_same, ?_⟩
      · rw [Paired.len P2, List.length_take]
        exact hundred (by omega)
      · rw [take_snoc htie]
        exact Paired.snoc ⟨l, rfl, upd_same⟩ (Paired.mapP P2 fun _ _ ⟨q, h1, h2⟩ => ⟨q, h1, (upd_ne (ne_of_none h2 (st.wd.none hl))).trans h2⟩)
    rintro H2 ⟨G2, us, st, g2, d2, P2⟩
    rw [lt, List.take_length] at P2
    have a2 := st.show hD d2 noTbl_lst fun u q => by rw [g2] at q; cases q
    have hD2 : upd G2 D (.lst us) D = some (.lst us) := upd_same
    have P2' : Paired (fun v (tie : Str × Str) => ∃ p, v = V.ref p ∧ upd G2 D (.lst us) p = some (.lst [.str tie.1, .str tie.2])) us ties := Paired.mapP P2 fun _ _ ⟨q, h1, h2⟩ => ⟨q, h1, (upd_ne (ne_of_none h2 g2)).trans h2⟩
    generalize upd G2 D (.lst us) = G3 at *
    have I3 := I.no a2
    have dl : Dl G3 2 (.ref D) := .list hD2 (by rw [Paired.len P2']; omega) fun x hx => by
      obtain ⟨j, hj, rfl⟩ := List.mem_iff_getElem.mp hx
      obtain ⟨tie, _, q, h1, h2⟩ := Paired.getL P2' (List.getElem?_eq_getElem hj)
      rw [h1]
      exact .list h2 (by show 2 ≤ 1000; decide) fun z hz => .flat (by simp only [List.mem_cons, List.not_mem_nil, or_false] at hz; rcases hz with rfl | rfl <;> rfl)
    refine ⟨s, .ref D, G3, rfl, I3, dl, fun w4 G4 H4 st4 src4 lo4 => ?_⟩
    obtain ⟨q4, ys4, rfl, hq4, r4⟩ := Lo.ref lo4 hD2
    have a4 := a2.no.trans st4
    have I4 := I3.step st4 src4
    have Pt : Paired (PairSq G4) ys4 ties := by
      clear dl lo4 hq4 lt hb hb0 hD2 d2 P2 tl
      generalize ties = ts at *
      have key : ∀ {us ys : List V} {ts : List (Str × Str)}, Paired (fun v (tie : Str × Str) => ∃ p, v = V.ref p ∧ G3 p = some (.lst [.str tie.1, .str tie.2])) us ts → Paired (Lo G3 G4 1) us ys → Paired (PairSq G4) ys ts := by
        intro us ys ts h
        induction h generalizing ys with
        | nil =>
          intro r
          cases r
          exact .nil
        | cons q t ih =>
          intro r
          cases r with
          | cons r1 r2 =>
            obtain ⟨p, rfl, hp⟩ := q
            obtain ⟨q', ys', rfl, hq', r'⟩ := Lo.ref r1 hp
            have e1 := Lo.flats r' (by intro z hz; simp only [List.mem_cons, List.not_mem_nil, or_false] at hz; rcases hz with rfl | rfl <;> rfl)
            rw [e1] at hq'
            exact .cons ⟨q', rfl, hq'⟩ (ih r2)
      exact key P2' r4
    -- the names, the news
    have ha4 : G4 a = some (.lst (sv names)) := st4.up _ _ (a2.up _ _ ha)
    have hf4 := a4.get hf
    refine ⟨_, rfl, _, rfl, f, _, 0, .ref a, rfl, rfl, .inr hf4, rfl, s, .ref a, G4, rfl, I4, .list ha4 (by rw [List.length_map]; omega) fun x hx => .flat (sv_flat x hx), fun w5 G5 H5 st5 src5 lo5 => ?_⟩
    obtain ⟨q5, ys5, rfl, hq5, r5⟩ := Lo.ref lo5 ha4
    rw [Lo.flats r5 sv_flat] at hq5
    have a5 := a4.trans st5
    have I5 := I4.step st5 src5
    have hc5 : G5 c = some (.lst (iv news)) := st5.up _ _ (st4.up _ _ (a2.up _ _ hc))
    have hf5 := a5.get hf
    refine ⟨_, rfl, _, rfl, _, rfl, f, _, 2, .ref c, rfl, rfl, .inr hf5, rfl, s, .ref c, G5, rfl, I5, .list hc5 (by rw [List.length_map, ok.lns]; omega) fun x hx => .flat (iv_flat x hx), fun w6 G6 H6 st6 src6 lo6 => ?_⟩
    obtain ⟨q6, ys6, rfl, hq6, r6⟩ := Lo.ref lo6 hc5
    rw [Lo.flats r6 iv_flat] at hq6
    have a6 := a5.trans st6
    have I6 := I5.step st6 src6
    -- the Village
    intro x dx nx ndx nex
    have s7 : Same H6 (upd (upd H6 dx (.own x)) x (.ins e.CV dx [])) := fun b o h => (upd_ne (ne_of_none h nx)).trans ((upd_ne (ne_of_none h ndx)).trans h)
    have st7 : Step e.T NoS G6 H6 G6 (upd (upd H6 dx (.own x)) x (.ins e.CV dx [])) := Step.same a6.wd s7
    refine ⟨x, dx, q5, q4, q6, names, ties, ys4, news, G6, rfl, st7.wd, a6.wd.none nx, upd_same, hq5.up fun o h => st6.up _ _ h, hq4.up fun o h => st6.up _ _ (st5.up _ _ h), Paired.mapP Pt fun _ _ ⟨p, h1, h2⟩ => ⟨p, h1, h2.up fun o h => st6.up _ _ (st5.up _ _ h)⟩, hq6, ok.tree, by omega, ok.pos, ok.lns, ok.ok, fun G8 H8 n tt w ff r st8 hx8 V => ⟨rfl, ?_⟩⟩
    have st9 : Step e.T NoS G6 H6 G8 H8 := (st7.no.trans st8).drop nx
    have st10 := st9.show nx hx8 noTbl_ins fun u q => by rw [st8.hidden (b := x) upd_same (a6.wd.none nx)] at q; cases q
    have src8 := (I6.no st9).src
    exact k x _ H8 (a6.trans st10.no) src8 ((V.up fun b o h => (upd_ne (ne_of_none h (st8.hidden (b := x) upd_same (a6.wd.none nx)))).trans h).at upd_same)
end
end K12

set_option maxHeartbeats 4000000
namespace K12
open PySem PySem.Spec PyProof.Rows L2 LamX NdefX
theorem kv_zip {names : List Str} : ∀ {ys : List V} {us : List Value}, Vals ys us → ys.length = names.length → KV ((names.map (Sum.inr : Str → Key)).zip ys) ((names.map (Sum.inr : Str → Key)).zip us) := by
  induction names with
  | nil => intro ys us r h; exact .nil
  | cons x r ih =>
    intro ys us v h
    cases v with
    | nil => cases h
    | cons q t => exact .cons ⟨rfl, q⟩ (ih t (by simpa using h))
theorem vals_str : ∀ {names : List Str} {us : List Value} {i : Nat} {u : Value}, Vals (sv names) us → us[i]? = some u → ∃ x, names[i]? = some x ∧ Value.isStrOf x u = true := by
  intro names us i u r h
  have hl := r.length
  have hi : i < us.length := (List.getElem?_eq_some_iff.mp h).1
  rw [List.length_map] at hl
  obtain ⟨w, h1, h2⟩ := r.get (i := i) (x := .str names[i]) (by rw [List.getElem?_map, List.getElem?_eq_getElem (by omega)]; rfl)
  rw [h] at h1
  cases h1
  obtain ⟨t, rfl⟩ := h2
  exact ⟨names[i], List.getElem?_eq_getElem (by omega), keyIs_str names[i] t⟩
theorem zip_keys {names : List Str} {ys : List V} (h : ys.length = names.length) : ((names.map (Sum.inr : Str → Key)).zip ys).map (·.1) = names.map Sum.inr := by
  rw [show (fun x : Key × V => x.1) = Prod.fst from rfl, List.map_fst_zip]
  rw [List.length_map]
  omega
section
variable {X : Cx}
def tDictZip (ta : TA) : TE := fun σ H Q => ta σ H fun vs H1 => ∃ a b names ys, vs = [.ref a, .ref b] ∧ H1 a = some (.lst (sv names)) ∧ H1 b = some (.lst ys) ∧ names.Nodup ∧ ys.length = names.length ∧ ∀ p, H1 p = none → Q (.ref p) (upd H1 p (.dK ((names.map Sum.inr).zip ys)))
theorem pe_dictZip {e e2 : Expr} {ta : TA} {p p2 pos2 pos : Pos} (hc : X.calm = true) (hg : Gl X "dict") (hm : X.mg "dict" = none) (hg2 : Gl X "zip") (hm2 : X.mg "zip" = none) (ha : PA X [e, e2] ta)
    (hs0 : starEach [.Call (.Name "zip" p2) [e, e2] [] pos2] X.env = (false, eval (.Call (.Name "zip" p2) [e, e2] [] pos2) X.env) :: starEach [] X.env := by rfl)
    (hs : starEach [e, e2] X.env = (false, eval e X.env) :: starEach [e2] X.env := by rfl) (hpl : (backTo pos2 (starEach [e2] X.env)).any (·.1) = false := by rfl) :
    PE X (.Call (.Name "dict" p) [.Call (.Name "zip" p2) [e, e2] [] pos2] [] pos) (tDictZip ta) := by
  refine ⟨fun pins s σ H Q I h => ?_⟩
  refine wpAny_Call_Name_kw (ld_blt I hg hm bt_dict ?_)
  refine PyProof.Rows.callWith_type1 ?_ hs0 rfl
  rw [hs0]
  show wpAny _ _ (spliced ((false, eval (.Call (.Name "zip" p2) [e, e2] [] pos2) X.env) :: backTo pos (starEach [] X.env))) _ _ s
  refine Calls.spliced_cons ?_
  refine Call_ (ld_blt I hg2 hm2 PyProof.Rows.boot_zip (PyProof.Rows.callWith_type1 (thn (ha.run pos2 pins s σ H _ I h) fun us s1 ⟨vs, H1, I1, r1, q1⟩ => ?_) hs hpl))
  obtain ⟨a, b, names, ys, ex, hqx, hqy, nd, hl, q⟩ := q1
  subst ex
  cases r1 with
  | cons r rr =>
    cases rr with
    | cons r' rr =>
      cases rr
      cases r
      cases r'
      obtain ⟨its, rv, p1, hz1⟩ := I1.list (SqL.of hqx)
      obtain ⟨its2, rv2, p3, hz2⟩ := I1.list (SqL.of hqy)
      refine call_zip_2 p1.isList p3.isList fun h' hz hTI hTO h1 h2 hsz hk => ?_
      refine Calls.spliced_nil ?_
      have l1 := rv.length
      have l2 := rv2.length
      rw [List.length_map] at l1
      have KVz := kv_zip rv2 hl
      refine PySem.call_dict_pairs (knd := mixKind X.prog X.w) (kvs := (names.map (Sum.inr : Str → Key)).zip its2) (PairArg.zip _ _ _ _ _ a b (PySem.W.ktu_apart s1.heap.objs.size a b p1.lt p3.lt) its.toArray its2.toArray) (I1.ok.hd hc)
        ⟨hz, hTI, ⟨_, _, hTO⟩, h1, h2, p1.isList.at (fun o e => hk _ _ e), p3.isList.at (fun o e => hk _ _ e)⟩ ⟨by rw [List.length_zip, List.length_map, List.size_toArray, List.size_toArray, l1], fun i key v hkv => ?_⟩ (by rw [List.size_toArray, List.size_toArray]; omega) fun h'' tk hd' hk2 => ?_
      · obtain ⟨k1, k2⟩ := hkv
        rw [List.getElem?_toArray] at k1 k2
        obtain ⟨x, hx, hkey⟩ := vals_str rv k1
        exact ⟨Sum.inr x, by rw [List.getElem?_zip_eq_some]; exact ⟨by rw [List.getElem?_map, hx]; rfl, k2⟩, hkey⟩
      · show EP X pins σ Q (.ref h'.objs.size) { s1 with heap := h'', toks := tk }
        have keep : ∀ b o, s1.heap.get? b = some o → h''.get? b = some o := fun b o e => hk2 b o (fun hmem => by
          have hlt := Heap.lt_size e
          simp only [List.mem_cons, List.not_mem_nil, or_false] at hmem
          rcases hmem with z | z | z | z
          · rw [z] at hlt; exact absurd hlt (Nat.not_lt.mpr (Nat.le_add_right _ _))
          · rw [z] at hlt; exact absurd hlt (Nat.not_lt.mpr (Nat.le_add_right _ _))
          · rw [z] at hlt; exact absurd hlt (Nat.lt_irrefl _)
          · rw [z] at hlt; exact absurd hlt (Nat.not_lt.mpr (Nat.le_add_right _ _))) (hk b o e)
        have hle : s1.heap.objs.size ≤ h'.objs.size := by rw [hsz]; exact Nat.le_add_right _ _
        have em : mergeK [] ((names.map (Sum.inr : Str → Key)).zip ys) = (names.map (Sum.inr : Str → Key)).zip ys := mergeK_new (kvs := []) (by
          rw [List.nil_append, zip_keys hl]
          exact List.Pairwise.map _ (fun a b h q => h (Sum.inr.inj q)) nd)
        have KVm := KV.merge KVz (kvs := []) (vs := []) .nil
        rw [em] at KVm
        have hmod : (h'.objs.size == sysModules) = false := beq_eq_false_iff_ne.mpr (Nat.ne_of_gt (Nat.lt_of_lt_of_le I1.big hle))
        have hfr : H1 h'.objs.size = none := I1.hok.fresh hle
        refine ⟨.ref h'.objs.size, upd H1 h'.objs.size (.dK ((names.map Sum.inr).zip ys)), I1.laid (t' := tk) keep hle (show ObjOk X.prog X.w _ _ _ (.dK ((names.map Sum.inr).zip ys)) from ⟨?_, hmod, _, KVm, hd'⟩), rfl, q _ hfr⟩
        rw [List.length_zip, List.length_map]
        rw [List.length_map] at hz1
        omega
end
theorem dic_zip : ∀ {names : List Str} {ns : List Int}, names.Nodup → ns.length = names.length → Dic ((names.map Sum.inr).zip (iv ns)) names (fun y v => v = .int (ownOf names ns y))
  | [], [], _, _ => .nil
  | x :: r, n :: ns, nd, h => by
    obtain ⟨n1, n2⟩ := List.nodup_cons.mp nd
    have ih := dic_zip (names := r) (ns := ns) n2 (by simpa using h)
    refine .cons ⟨rfl, ?_⟩ (Dic.mono (Pw := fun y v => v = .int (ownOf (x :: r) (n :: ns) y)) ih fun y v hy hv => ?_)
    · show V.int n = _
      unfold ownOf
      simp
    · rw [hv]
      unfold ownOf
      have hne : ¬ x = y := fun q => n1 (q ▸ hy)
      have e1 : (x :: r).idxOf y = r.idxOf y + 1 := by
        rw [List.idxOf_cons]
        have : (x == y) = false := beq_eq_false_iff_ne.mpr hne
        rw [this]
        rfl
      rw [e1]
      rfl
  | [], _ :: _, _, h => by simp at h
  | _ :: _, [], _, h => by simp at h
end K12

set_option maxHeartbeats 4000000
namespace K12
open PySem PySem.Spec PyProof.Rows L2 LamX NdefX
abbrev k2 (x y : Str) : List Key := [Sum.inr x, Sum.inr y]
theorem k2_inj {x y x' y' : Str} (h : k2 x y = k2 x' y') : (x, y) = (x', y') := by
  unfold k2 at h
  injection h with h1 h2
  injection h2 with h2 _
  rw [Sum.inr.inj h1, Sum.inr.inj h2]
/-- what is known of the gifts -/
def KP (g : Str → Str → Int) (kvs : List (List Key × V)) (ks : List (Str × Str)) : Prop := Paired (fun (kv : List Key × V) (z : Str × Str) => kv.1 = k2 z.1 z.2 ∧ kv.2 = .int (g z.1 z.2)) kvs ks
theorem KP.get {g : Str → Str → Int} {x y : Str} : ∀ {kvs : List (List Key × V)} {ks : List (Str × Str)}, KP g kvs ks → valV kvs (k2 x y) = if (x, y) ∈ ks then some (.int (g x y)) else none
  | _, _, .nil => by simp [valV_nil]
  | (k, v) :: kvs, z :: ks, .cons ⟨h1, h2⟩ t => by
    have h1 : k = k2 z.1 z.2 := h1
    have h2 : v = .int (g z.1 z.2) := h2
    by_cases e : z = (x, y)
    · rw [valV_pos (by rw [h1, e]), if_pos (by rw [e]; simp)]
      show some v = _
      rw [h2, e]
    · have ne : ¬ k = k2 x y := fun q => e (k2_inj (h1.symm.trans q))
      rw [valV_neg ne, KP.get (ks := ks) t]
      have e' : ¬ (x, y) = z := fun q => e q.symm
      simp [e']
theorem KP.put {g : Str → Str → Int} {x y : Str} {kvs : List (List Key × V)} {ks : List (Str × Str)} (h : KP g kvs ks) : KP g (putK kvs (k2 x y) (.int (g x y))) (if (x, y) ∈ ks then ks else ks ++ [(x, y)]) := by
  by_cases m : (x, y) ∈ ks
  · rw [if_pos m]
    have e : (kvs.any fun kv => decide (kv.1 = k2 x y)) = true := by rw [valV_any, h.get, if_pos m]; rfl
    unfold putK
    rw [if_pos e]
    clear e m
    unfold KP at h ⊢
    induction h with
    | nil => exact .nil
    | @cons kv z l r q t ih =>
      rw [List.map_cons]
      refine .cons ?_ ih
      by_cases e : kv.1 = k2 x y
      · rw [if_pos e]
        have ez : z = (x, y) := k2_inj (q.1.symm.trans e)
        subst ez
        exact ⟨q.1, rfl⟩
      · rw [if_neg e]
        exact q
  · rw [if_neg m, putK_new _ (by rw [h.get, if_neg m])]
    exact Paired.snoc ⟨rfl, rfl⟩ h
theorem nodup_leP : ∀ {l m : List (Str × Str)}, l.Nodup → (∀ x ∈ l, x ∈ m) → l.length ≤ m.length
  | [], _, _, _ => Nat.zero_le _
  | x :: r, m, nd, h => by
    obtain ⟨n1, n2⟩ := List.nodup_cons.mp nd
    have hx := h x (by simp)
    have ih := nodup_leP (m := m.erase x) n2 fun y hy => (List.mem_erase_of_ne (fun q => n1 (by rw [← q]; exact hy))).mpr (h y (by simp [hy]))
    rw [List.length_erase_of_mem hx] at ih
    have := List.length_pos_of_mem hx
    rw [List.length_cons]
    omega
/-- the known gifts, at most one for each two persons -/
def KInv (names : List Str) (g : Str → Str → Int) (kvs : List (List Key × V)) : Prop := ∃ ks, KP g kvs ks ∧ ks.Nodup ∧ ∀ z ∈ ks, z.1 ∈ names ∧ z.2 ∈ names
theorem pairs_len (names : List Str) : ∀ l : List Str, (l.flatMap fun a => names.map fun b => (a, b)).length = l.length * names.length
  | [] => by simp
  | x :: r => by rw [List.flatMap_cons, List.length_append, List.length_map, pairs_len names r, List.length_cons, Nat.succ_mul, Nat.add_comm]
theorem KInv.len {names : List Str} {g : Str → Str → Int} {kvs : List (List Key × V)} (h : KInv names g kvs) : kvs.length ≤ names.length * names.length := by
  obtain ⟨ks, h1, h2, h3⟩ := h
  rw [Paired.len h1, ← pairs_len names names]
  refine nodup_leP h2 fun z hz => ?_
  obtain ⟨z1, z2⟩ := h3 z hz
  exact List.mem_flatMap.mpr ⟨z.1, z1, List.mem_map.mpr ⟨z.2, z2, rfl⟩⟩
theorem KInv.put {names : List Str} {g : Str → Str → Int} {kvs : List (List Key × V)} (h : KInv names g kvs) {x y : Str} (hx : x ∈ names) (hy : y ∈ names) : KInv names g (putK kvs (k2 x y) (.int (g x y))) := by
  obtain ⟨ks, h1, h2, h3⟩ := h
  refine ⟨_, h1.put, ?_, ?_⟩
  · by_cases m : (x, y) ∈ ks
    · rw [if_pos m]; exact h2
    · rw [if_neg m]
      exact List.nodup_append.mpr ⟨h2, by simp, fun a ha b hb q => m (by rw [← List.mem_singleton.mp hb, ← q]; exact ha)⟩
  · by_cases m : (x, y) ∈ ks
    · rw [if_pos m]; exact h3
    · rw [if_neg m]
      intro z hz
      rcases List.mem_append.mp hz with hz | hz
      · exact h3 z hz
      · rw [List.mem_singleton.mp hz]; exact ⟨hx, hy⟩
theorem idx_first {l : List Str} {y : Str} (h : y ∈ l) : (sv l)[l.idxOf y]? = some (.str y) ∧ ∀ (m : Nat) (z' : V), m < l.idxOf y → (sv l)[m]? = some z' → eqV z' (.str y) = false := by
  have h1 : l.idxOf y < l.length := List.idxOf_lt_length_iff.mpr h
  refine ⟨by rw [List.getElem?_map, List.getElem?_eq_getElem h1, List.getElem_idxOf h1]; rfl, fun m z' hm hz => ?_⟩
  obtain ⟨w, hw, rfl⟩ := sv_get hz
  rw [eqV_str]
  refine decide_eq_false fun q => ?_
  subst q
  have h2 : m < l.length := by omega
  have h3 : l[m] = w := by rw [List.getElem?_eq_getElem h2] at hw; exact Option.some.inj hw
  have := List.not_of_lt_findIdx (p := (· == w)) (xs := l) (i := m) hm
  simp [h3] at this
section
variable {e : Ev}
/-- the dict of known gifts at kd changes -/
abbrev OnK (kd : Addr) : Addr → Prop := fun b => b = kd
structure GiftAt (e : Ev) (G H : Hp) (o d kd : Addr) (names : List Str) (ties : List (Str × Str)) (own : Str → Int) (sl : Str → List Str) : Prop where
  wd : Wd e.T G H
  ho : NumAt G o names own
  hd : SlAt G d names sl
  gk : G kd = none
  tr : IsTree names ties
  sl_ : IsSl names ties sl
  len : names.length ≤ 100
def spGift (e : Ev) (r : Str) (par : Str → Str) (dep : Str → Nat) (names : List Str) : Nat → Sp
  | 0 => fun _ _ _ _ => False
  | n + 1 => fun vs H Q _ => ∃ o d x y kd ties own sl G kvs, vs = [.ref o, .ref d, .str x, .str y, .ref kd] ∧ GiftAt e G H o d kd names ties own sl ∧ Rooted names (adj ties) r par dep ∧ H kd = some (.dT kvs) ∧ KInv names (gift names own sl) kvs ∧ x ∈ names ∧ y ∈ sl x ∧ rk names.length r par dep x y < n + 1 ∧
    ∀ G' H' kvs', Step e.T (OnK kd) G H G' H' → H' kd = some (.dT kvs') → KInv names (gift names own sl) kvs' → Q (.int (gift names own sl x y)) H'
theorem ok_v_gift (t : Tx e) (r : Str) (par : Str → Str) (dep : Str → Nat) (names : List Str) : ∀ n, Ok e (n + 1) "_law_v_gift" ["_law_own", "_law_slates", "_law_one", "_law_other", "_law_known"] (spGift e r par dep names n) := by
  intro n
  induction n with
  | zero => exact ⟨fun _ _ _ _ h => h.elim, fun _ _ _ _ _ _ _ _ _ _ _ _ _ h => h.elim⟩
  | succ n ih =>
    refine t.f_law_v_gift.ok sc_law_v_gift (fun vs H Q E h => ?_) (fun cdv A outer s H vs Q E hcd hr h => ?_)
    · obtain ⟨o, d, x, y, kd, ties, own, sl, G, kvs, rfl, _⟩ := h; rfl
    · obtain ⟨o, d, x, y, kd, ties, own, sl, G, kvs, rfl, I, R, hk, kinv, mx, my, hrk, k⟩ := h
      have hu := hu_of hr
      have nd := I.tr.nodup
      have my2 : y ∈ names := (I.sl_.mem mx).mp my |>.1
      have sz : ∀ {kvs : List (List Key × V)}, KInv names (gift names own sl) kvs → kvs.length < sizeLine := fun h => by
        have h1 := h.len
        have h2 := I.len
        have h3 : names.length * names.length ≤ 100 * 100 := Nat.mul_le_mul h2 h2
        exact Nat.lt_of_le_of_lt (Nat.le_trans h1 h3) (by decide)
      refine ⟨_, pss_cons (ps_if (pt_cmp (pc_dnotin hu (pe_tup (pa_cons (pv 2) (pa_cons (pv 3) pa_nil))) (pv 4)))
          (pss_cons (ps_set (i := 5) sc_law_v_gift.nd rfl (.inl rfl) (pe_slice sl_sq (pe_dget hu (pv 1) (pv 2) (fun _ _ => rfl)) po_none (po_some (pe_bm PySem.F.plainAttrs_list PySem.F.slot_list_index PySem.F.type_list_index mt_index (pe_dget hu (pv 1) (pv 2) (fun _ _ => rfl)) (pa_cons (pv 3) pa_nil)))))
          (pss_one (ps_dput hu (pv 4) (pe_tup (pa_cons (pv 2) (pa_cons (pv 3) pa_nil))) (pe_op op_add (pe_dget hu (pv 0) (pv 2) (fun _ _ => rfl)) (pe_callB (cr_sum rfl) (by rfl) t.n_sum bt_sum (pa_cons (pe_lc (own := [("_law_friend", 6)]) (g := gName 6) (tt := tYes) rfl sc_law_v_gift.nd (pi_sq (pv 5)) (blkOk_by (N := ["_law_own", "_law_slates", "_law_one", "_law_other", "_law_known", "_law_ahead", "_law_friend"]) (sc := defScope s_law_v_gift) (by decide +kernel))
            (fun _ _ _ _ _ => pg_name (i := 6) sc_law_v_gift.nd rfl (Or.inl rfl)) (fun _ _ _ _ _ => pts_nil) (fun _ _ _ _ _ => pe_call ih hr (by rfl) t.f_law_v_gift.mg t.f_law_v_gift.kp t.f_law_v_gift.b .nil pass0 (pa_cons (pv 0) (pa_cons (pv 1) (pa_cons (pv 6) (pa_cons (pv 2) (pa_cons (pv 4) pa_nil))))))) pa_nil))) rfl))) pss_nil)
        (pss_one (ps_ret (pe_dget hu (pv 4) (pe_tup (pa_cons (pv 2) (pa_cons (pv 3) pa_nil))) (fun _ _ => rfl)))), ?_⟩
      -- the end: known[one, other]
      have fin : ∀ (v5 v6 : Option V) (G1 H1 : Hp) (kvs1 : List (List Key × V)), Step e.T (OnK kd) G H G1 H1 → H1 kd = some (.dT kvs1) → KInv names (gift names own sl) kvs1 → valV kvs1 (k2 x y) = some (.int (gift names own sl x y)) → ∀ T, H1 T = none → Q (.int (gift names own sl x y)) (upd H1 T (.tup [.str x, .str y])) := fun v5 v6 G1 H1 kvs1 st hk1 ki hv T hT =>
        k _ _ kvs1 (st.hid1 hT) ((upd_ne (ne_of_none hk1 hT)).trans hk1) ki
      refine ⟨_, rfl, _, rfl, by show 2 ≤ sizeLine; decide, fun T hT => ⟨_, rfl, kd, _, rfl, DGet.t (k := k2 x y) ((upd_ne (ne_of_none hk hT)).trans hk) upd_same, _, rfl, ?_⟩⟩
      have st1 : Step e.T (OnK kd) G H G (upd H T (.tup [.str x, .str y])) := Step.hid I.wd hT
      have hk1 : upd H T (.tup [.str x, .str y]) kd = some (.dT kvs) := (upd_ne (ne_of_none hk hT)).trans hk
      generalize upd H T (.tup [.str x, .str y]) = H1 at *
      obtain ⟨ks, kp, knd, ksub⟩ := id kinv
      by_cases m : (x, y) ∈ ks
      · have hv : valV kvs (k2 x y) = some (.int (gift names own sl x y)) := by rw [kp.get, if_pos m]
        rw [hv]
        refine iteF ⟨_, rfl, _, rfl, _, rfl, by show 2 ≤ sizeLine; decide, fun T2 hT2 => ⟨kd, _, rfl, ?_, fin none none _ _ kvs st1 hk1 kinv hv T2 hT2⟩⟩
        rw [← hv]
        exact DGet.t (k := k2 x y) ((upd_ne (ne_of_none hk1 hT2)).trans hk1) upd_same
      · have hv : valV kvs (k2 x y) = none := by rw [kp.get, if_neg m]
        rw [hv]
        refine iteT ?_
        obtain ⟨skvs, hs1, hs2⟩ := I.hd
        obtain ⟨u, gu, lp, rfl, hlp⟩ := hs2.get mx
        have hs := st1.get hs1
        have gl : DGet H1 d (.str x) (some (.ref lp)) := by rw [← gu]; exact DGet.k (k := Sum.inr x) hs
        have hl1 := st1.get hlp
        obtain ⟨i1, i2⟩ := idx_first my
        refine ⟨_, rfl, _, rfl, d, _, rfl, gl, _, rfl, _, rfl, d, _, rfl, gl, .inl ⟨rfl, _, SqL.of hl1⟩, _, rfl, lp, sv (sl x), .str y, (sl x).idxOf y, _, rfl, rfl, SqL.of hl1, rfl, flat_sv, i1, by rw [eqV_str]; exact decide_eq_true rfl, i2, _, rfl, lp, sv (sl x), rfl, .inl ⟨hl1, fun q hq => ?_⟩⟩
        have ec : cutV (sv (sl x)) none (some ((sl x).idxOf y : Nat)) = sv (ahead (sl x) y) := by rw [cutV_upto, sv_take]; rfl
        rw [ec]
        have st2 := st1.hid1 (o := .lst (sv (ahead (sl x) y))) hq
        have hk2 : upd H1 q (.lst (sv (ahead (sl x) y))) kd = some (.dT kvs) := (upd_ne (ne_of_none hk1 hq)).trans hk1
        have hq2 : upd H1 q (.lst (sv (ahead (sl x) y))) q = some (.lst (sv (ahead (sl x) y))) := upd_same
        have nqk : q ≠ kd := (ne_of_none hk1 hq).symm
        generalize upd H1 q (.lst (sv (ahead (sl x) y))) = H2 at *
        obtain ⟨okvs, ho1, ho2⟩ := I.ho
        obtain ⟨u2, gu2, rfl⟩ := ho2.get mx
        have go : DGet H2 o (.str x) (some (.int (own x))) := by rw [← gu2]; exact DGet.k (k := Sum.inr x) (st2.get ho1)
        refine ⟨_, rfl, _, rfl, o, _, rfl, go, _, rfl, q, _, rfl, .inl hq2, fun J wk D hD => ?_⟩
        have ndx : (sl x).Nodup := I.sl_.nodup nd mx
        have la : (ahead (sl x) y).length ≤ 100 := by
          have h1 : (ahead (sl x) y).length ≤ (sl x).length := by unfold ahead; rw [List.length_take]; omega
          have h2 := (I.sl_ x mx).length_eq
          have h3 : (frn names ties x).length ≤ names.length := List.length_filter_le _ _
          have := I.len
          omega
        have nDk : D ≠ kd := (ne_of_none hk2 hD).symm
        have hD0 : H D = none := st2.free hD
        refine lc_it wk (fun i H3 => ∃ (G3 : Hp) (kvs3 : List (List Key × V)), Step e.T (OnK kd) G H G3 H3 ∧ (∀ b o, b ≠ kd → b ≠ D → H2 b = some o → NoTbl o → H3 b = some o) ∧ G3 D = none ∧ G3 kd = none ∧ H3 kd = some (.dT kvs3) ∧ KInv names (gift names own sl) kvs3 ∧ H3 D = some (.lst (iv (((ahead (sl x) y).take i).map fun f => gift names own sl f x))))
          ⟨G, kvs, st2.hid1 hD, fun b o h1 h2 h3 _ => (upd_ne h2).trans h3, I.wd.none hD0, I.gk, (upd_ne nDk.symm).trans hk2, kinv, upd_same⟩ (fun i H3 _ ⟨_, _, _, fr, _⟩ => sq_keep (.inl hq2) fun o h n => fr q o nqk (fun z => by rw [z, hD] at h; cases h) h n) ?_ ?_
        · rintro i u H3 H4 hi ⟨G3, kvs3, st, fr, g3, gk3, hk3, ki3, d3⟩ ⟨rfl, hu2⟩
          obtain ⟨f, hf, rfl⟩ := sv_get hu2
          obtain ⟨mf1, mf2⟩ := mem_ahead ndx my (List.mem_of_getElem? hf)
          obtain ⟨rk1, rk2, rk3⟩ := rk_lt R nd I.sl_ mx my mf1 mf2
          have I3 : GiftAt e G3 H4 o d kd names ties own sl := ⟨st.wd, ⟨okvs, st.up _ _ ho1, ho2⟩, ⟨skvs, st.up _ _ hs1, hs2.mono fun _ _ _ h => h.up st.up⟩, gk3, I.tr, I.sl_, I.len⟩
          refine ⟨rfl, yes_ ⟨_, rfl, _, rfl, _, rfl, _, rfl, _, rfl, ?_⟩⟩
          cases n with
          | zero => omega
          | succ n =>
            refine ⟨o, d, f, x, kd, ties, own, sl, G3, kvs3, rfl, I3, R, hk3, ki3, rk1, rk2, by omega, fun G5 H5 kvs5 st5 hk5 ki5 => ?_⟩
            have d5 := st5.fr _ _ d3 nDk noTbl_lst
            refine ⟨_, d5, ?_, G5, kvs5, (st.trans st5).wr hD0 (st5.hidden d3 g3) d5 noTbl_lst (fun _ h => nomatch h), fun b o' h1 h2 h3 h4 => (upd_ne h2).trans (st5.fr _ _ (fr b o' h1 h2 h3 h4) h1 h4), st5.hidden d3 g3, st5.hidden hk3 gk3, (upd_ne nDk.symm).trans hk5, ki5, ?_⟩
            · rw [List.length_map, List.length_map, List.length_take]
              exact hundred (by omega)
            · rw [upd_same, take_snoc hf]
              simp [iv]
        · rintro H3 ⟨G3, kvs3, st, fr, g3, gk3, hk3, ki3, d3⟩
          rw [List.length_map, List.take_length] at d3
          refine ⟨D, _, rfl, SqL.of d3, _, _, rfl, rfl, ?_⟩
          have eg : own x + ((ahead (sl x) y).map fun f => gift names own sl f x).sum = gift names own sl x y := (gift_eq R nd I.sl_ mx my).symm
          dsimp only
          rw [eg]
          refine ⟨_, rfl, _, rfl, _, rfl, by show 2 ≤ sizeLine; decide, fun T2 hT2 => ⟨kd, _, rfl, DPut.t (k := k2 x y) ((upd_ne (ne_of_none hk3 hT2)).trans hk3) upd_same (sz ki3), ?_⟩⟩
          have hk4 : upd H3 T2 (.tup [.str x, .str y]) kd = some (.dT kvs3) := (upd_ne (ne_of_none hk3 hT2)).trans hk3
          have st5 : Step e.T (OnK kd) G H G3 (upd (upd H3 T2 (.tup [.str x, .str y])) kd (.dT (putK kvs3 (k2 x y) (.int (gift names own sl x y))))) := (st.hid1 hT2).wrS rfl gk3 hk4 noTbl_dT (fun _ h => nomatch h)
          have hk5 : upd (upd H3 T2 (.tup [.str x, .str y])) kd (.dT (putK kvs3 (k2 x y) (.int (gift names own sl x y)))) kd = some (.dT (putK kvs3 (k2 x y) (.int (gift names own sl x y)))) := upd_same
          have ki5 := ki3.put (x := x) (y := y) mx my2
          have hv5 : valV (putK kvs3 (k2 x y) (.int (gift names own sl x y))) (k2 x y) = some (.int (gift names own sl x y)) := by rw [valV_put, if_pos rfl]
          generalize upd (upd H3 T2 (.tup [.str x, .str y])) kd (.dT (putK kvs3 (k2 x y) (.int (gift names own sl x y)))) = H5 at *
          refine ⟨_, rfl, _, rfl, _, rfl, by show 2 ≤ sizeLine; decide, fun T3 hT3 => ⟨kd, _, rfl, ?_, fin none none _ _ _ st5 hk5 ki5 hv5 T3 hT3⟩⟩
          rw [← hv5]
          exact DGet.t (k := k2 x y) ((upd_ne (ne_of_none hk5 hT3)).trans hk5) upd_same
end
end K12

set_option maxHeartbeats 4000000
namespace K12
open PySem PySem.Spec PyProof.Rows L2 LamX NdefX
section
variable {e : Ev}
theorem ok_v_ledger (t : Tx e) : Ok e 122 "_law_v_ledger" ["_law_form", "_law_slates"] (fun vs H Q _ => ∃ f d names ties news most sl G, vs = [.ref f, .ref d] ∧ Wd e.T G H ∧ FormAt G f names ties news ∧ FOk names ties news most ∧ most ≤ 60 ∧ SlAt G d names sl ∧ IsSl names ties sl ∧
    ∀ q G' H', Step e.T NoS G H G' H' → NumAt G' q names (ledg names (ownOf names news) sl) → Q (.ref q) H') := by
  refine t.f_law_v_ledger.ok sc_law_v_ledger (fun vs H Q E h => ?_) (fun cdv A outer s H vs Q E hcd hr h => ?_)
  · obtain ⟨f, d, names, ties, news, most, sl, G, rfl, _⟩ := h; rfl
  · obtain ⟨f, d, names, ties, news, most, sl, G, rfl, wd, F, ok, hm, hd, isl, k⟩ := h
    have hu := hu_of hr
    have nd := ok.tree.nodup
    have hl : names.length ≤ 60 := Nat.le_trans ok.len hm
    obtain ⟨a, b, c, tvs, hf, ha, hb, P, hc⟩ := F.at_
    have hf0 := wd.sub _ _ hf
    have hne : names ≠ [] := fun z => by have := ok.tree.len; rw [z] at this; cases this
    obtain ⟨r, mr⟩ : ∃ r, r ∈ names := by
      cases hn : names with
      | nil => exact absurd hn hne
      | cons r nr => exact ⟨r, by simp⟩
    obtain ⟨par, dep, R⟩ := ok.tree.rooted mr
    refine ⟨_, pss_cons (ps_asg (pe_tup (pa_cons (pe_dictZip rfl (by rfl) t.n_dict (by rfl) t.n_zip (pa_cons (pe_ix ix_sq (pv 0) pe_int (fun _ _ => rfl)) (pa_cons (pe_ix ix_sq (pv 0) pe_int (fun _ _ => rfl)) pa_nil))) (pa_cons pe_dnewT pa_nil))) (pg_tup rfl (pgs_cons (pg_name (i := 2) sc_law_v_ledger.nd rfl (.inr rfl)) (pgs_cons (pg_name (i := 3) sc_law_v_ledger.nd rfl (.inr rfl)) pgs_nil))))
      (pss_cons (ps_set (i := 4) sc_law_v_ledger.nd rfl (.inl rfl) pe_dnewK)
      (pss_cons (ps_for PassesOwn.never rfl (pi_sq (pe_ix ix_sq (pv 0) pe_int (fun _ _ => rfl))) (pg_name (i := 5) sc_law_v_ledger.nd rfl (.inr rfl))
        (pss_one (ps_dput hu (pv 4) (pv 5) (pe_op op_add (pe_dget hu (pv 2) (pv 5) (fun _ _ => rfl)) (pe_callB (cr_sum rfl) (by rfl) t.n_sum bt_sum (pa_cons (pe_lc (own := [("_law_friend", 6)]) (g := gName 6) (tt := tYes) rfl sc_law_v_ledger.nd (pi_sq (pe_dget hu (pv 1) (pv 5) (fun _ _ => rfl))) (blkOk_by (N := ["_law_form", "_law_slates", "_law_own", "_law_known", "_law_found", "_law_name", "_law_friend"]) (sc := defScope s_law_v_ledger) (by decide +kernel))
          (fun _ _ _ _ _ => pg_name (i := 6) sc_law_v_ledger.nd rfl (Or.inl rfl)) (fun _ _ _ _ _ => pts_nil) (fun _ _ _ _ _ => pe_call (ok_v_gift t r par dep names 120) hr (by rfl) t.f_law_v_gift.mg t.f_law_v_gift.kp t.f_law_v_gift.b .nil pass0 (pa_cons (pv 2) (pa_cons (pv 1) (pa_cons (pv 6) (pa_cons (pv 5) (pa_cons (pv 3) pa_nil))))))) pa_nil))) rfl)))
      (pss_one (ps_ret (pv 4))))), ?_⟩
    refine ⟨_, rfl, f, _, 0, .ref a, rfl, rfl, .inr hf0, rfl, _, rfl, f, _, 2, .ref c, rfl, rfl, .inr hf0, rfl, a, c, names, iv news, rfl, wd.sub _ _ ha, wd.sub _ _ hc, nd, by rw [List.length_map]; exact ok.lns, fun o ho => ?_⟩
    have a1 := (Step.refl (S := NoS) wd).new1 (o := .dK ((names.map Sum.inr).zip (iv news))) ho noTbl_dK
    have No : NumAt (upd G o (.dK ((names.map Sum.inr).zip (iv news)))) o names (ownOf names news) := ⟨_, upd_same, dic_zip nd ok.lns⟩
    generalize upd H o (.dK ((names.map Sum.inr).zip (iv news))) = H1 at *
    generalize upd G o (.dK ((names.map Sum.inr).zip (iv news))) = G1 at *
    refine fun kd hkd => ⟨by show 2 ≤ sizeLine; decide, fun T hT => ⟨T, _, rfl, SqT.of upd_same, rfl, _, _, rfl, _, _, rfl, rfl, ?_⟩⟩
    have hkd0 : H kd = none := a1.free hkd
    have a2 := (a1.hid1 (o := .dT []) hkd).hid1 (o := .tup [.ref o, .ref kd]) hT
    have gk1 : G1 kd = none := a1.hidN hkd
    have ek : upd (upd H1 kd (.dT [])) T (.tup [.ref o, .ref kd]) kd = some (.dT []) := (upd_ne (ne_of_none upd_same hT)).trans upd_same
    generalize upd (upd H1 kd (.dT [])) T (.tup [.ref o, .ref kd]) = H2 at *
    refine fun fd hfd => ?_
    have hfd0 : H fd = none := a2.free hfd
    have a3 := a2.hid1 (o := .dK []) hfd
    have gf1 : G1 fd = none := a2.hidN hfd
    have nkf : kd ≠ fd := ne_of_none ek hfd
    have ek3 : upd H2 fd (.dK []) kd = some (.dT []) := (upd_ne nkf).trans ek
    have ef3 : upd H2 fd (.dK []) fd = some (.dK []) := upd_same
    generalize upd H2 fd (.dK []) = H3 at *
    have hf3 := a3.get hf
    have ha3 := a3.get ha
    refine ⟨_, rfl, f, _, 0, .ref a, rfl, rfl, .inr hf3, rfl, a, sv names, rfl, .inl ha3, fun J wk => for_it wk (fun i σ H4 => ∃ (v5 v6 : Option V) (G4 : Hp) (kvs : List (List Key × V)) (fvs : List (Key × V)), σ = [some (.ref f), some (.ref d), some (.ref o), some (.ref kd), some (.ref fd), v5, v6] ∧ Step e.T NoS G H G4 H4 ∧ (∀ b o, G1 b = some o → G4 b = some o) ∧ G4 kd = none ∧ G4 fd = none ∧ H4 kd = some (.dT kvs) ∧ KInv names (gift names (ownOf names news) sl) kvs ∧ H4 fd = some (.dK fvs) ∧ Dic fvs (names.take i) (fun y v => v = .int (ledg names (ownOf names news) sl y)))
      ⟨_, _, G1, [], [], rfl, a3, fun _ _ h => h, gk1, gf1, ek3, ⟨[], .nil, by simp, by simp⟩, ef3, .nil⟩ (fun i σ H4 _ ⟨_, _, G4, _, _, _, st, up, _⟩ => sq_keep (.inl ha3) fun o q _ => ?_) ?_ ?_⟩
    · rw [ha3] at q
      rw [← q]
      exact st.get ha
    · rintro i u σ H4 H5 hi ⟨v5, v6, G4, kvs, fvs, rfl, st, up, gk, gf, hk4, ki, hf4, Df⟩ ⟨rfl, hu2⟩
      obtain ⟨y, hy, rfl⟩ := sv_get hu2
      have my := List.mem_of_getElem? hy
      obtain ⟨okvs, ho1, ho2⟩ := No
      obtain ⟨u1, g1, rfl⟩ := ho2.get my
      have go : DGet H5 o (.str y) (some (.int (ownOf names news y))) := by rw [← g1]; exact DGet.k (k := Sum.inr y) (st.wd.sub _ _ (up _ _ ho1))
      obtain ⟨skvs, hs1, hs2⟩ := id hd
      obtain ⟨u2, g2, lp, rfl, hlp⟩ := hs2.get my
      have gs : DGet H5 d (.str y) (some (.ref lp)) := by rw [← g2]; exact DGet.k (k := Sum.inr y) (st.get hs1)
      have hl5 := st.get hlp
      refine ⟨_, rfl, _, rfl, o, _, rfl, go, _, rfl, _, rfl, d, _, rfl, gs, lp, sv (sl y), rfl, .inl hl5, fun J2 wk2 D hD => ?_⟩
      have hD0 : H D = none := st.free hD
      have nDk : D ≠ kd := (ne_of_none hk4 hD).symm
      have nDf : D ≠ fd := (ne_of_none hf4 hD).symm
      have lsl : (sl y).length ≤ 60 := by
        have h2 := (isl y my).length_eq
        have h3 : (frn names ties y).length ≤ names.length := List.length_filter_le _ _
        omega
      refine lc_it wk2 (fun j H6 => ∃ (G6 : Hp) (kvs6 : List (List Key × V)), Step e.T NoS G H G6 H6 ∧ (∀ b o, G4 b = some o → G6 b = some o) ∧ G6 D = none ∧ G6 kd = none ∧ G6 fd = none ∧ H6 kd = some (.dT kvs6) ∧ KInv names (gift names (ownOf names news) sl) kvs6 ∧ H6 fd = some (.dK fvs) ∧ H6 D = some (.lst (iv (((sl y).take j).map fun x => gift names (ownOf names news) sl x y))))
        ⟨G4, kvs, st.hid1 hD, fun _ _ h => h, st.hidN hD, gk, gf, (upd_ne nDk.symm).trans hk4, ki, (upd_ne nDf.symm).trans hf4, upd_same⟩ (fun j H6 _ ⟨_, _, s6, _⟩ => sq_keep (.inl hl5) fun o q _ => ?_) ?_ ?_
      · rw [hl5] at q
        rw [← q]
        exact s6.get hlp
      · rintro j u3 H6 H7 hj ⟨G6, kvs6, s6, up6, g6D, g6k, g6f, hk6, ki6, hf6, d6⟩ ⟨rfl, hu3⟩
        obtain ⟨x, hx, rfl⟩ := sv_get hu3
        have mx := List.mem_of_getElem? hx
        obtain ⟨m1, m2⟩ := isl.sym my mx
        have IG : GiftAt e G6 H7 o d kd names ties (ownOf names news) sl := ⟨s6.wd, ⟨okvs, up6 _ _ (up _ _ ho1), ho2⟩, hd.up s6.up, g6k, ok.tree, isl, by omega⟩
        have rb := rk_bound (y := y) R m1
        refine ⟨rfl, yes_ ⟨_, rfl, _, rfl, _, rfl, _, rfl, _, rfl, o, d, x, y, kd, ties, ownOf names news, sl, G6, kvs6, rfl, IG, R, hk6, ki6, m1, m2, (show rk names.length r par dep x y < 120 by omega), fun G8 H8 kvs8 st8 hk8 ki8 => ?_⟩⟩
        have d8 := st8.fr _ _ d6 nDk noTbl_lst
        have f8 := st8.fr _ _ hf6 nkf.symm noTbl_dK
        have s8 := (s6.no.trans st8).drop hkd0
        refine ⟨_, d8, ?_, G8, kvs8, s8.wr hD0 (st8.hidden d6 g6D) d8 noTbl_lst (fun _ h => nomatch h), fun b o h => st8.up _ _ (up6 b o h), st8.hidden d6 g6D, st8.hidden hk6 g6k, st8.hidden hf6 g6f, (upd_ne nDk.symm).trans hk8, ki8, (upd_ne nDf.symm).trans f8, ?_⟩
        · rw [List.length_map, List.length_map, List.length_take]
          exact hundred (by omega)
        · rw [upd_same, take_snoc hx]
          simp [iv]
      · rintro H6 ⟨G6, kvs6, s6, up6, g6D, g6k, g6f, hk6, ki6, hf6, d6⟩
        rw [List.length_map, List.take_length] at d6
        refine ⟨D, _, rfl, SqL.of d6, _, _, rfl, rfl, _, rfl, _, rfl, fd, _, rfl, DPut.k (k := Sum.inr y) hf6 (by rw [Df.len, List.length_take]; exact hundred (by omega)), ?_⟩
        refine ⟨_, _, G6, kvs6, _, rfl, s6.wr hfd0 g6f hf6 noTbl_dK (fun _ h => nomatch h), fun b o h => up6 _ _ (up b o h), g6k, g6f, (upd_ne nkf).trans hk6, ki6, upd_same, ?_⟩
        rw [take_snoc hy]
        exact Df.put_new (nodup_take nd hy) rfl
    · rintro σ H4 ⟨v5, v6, G4, kvs, fvs, rfl, st, up, gk, gf, hk4, ki, hf4, Df⟩
      rw [List.length_map, List.take_length] at Df
      exact ⟨_, rfl, k fd _ H4 (st.show hfd0 hf4 noTbl_dK fun u q => by rw [gf] at q; cases q) ⟨fvs, upd_same, Df⟩⟩
end
end K12

set_option maxHeartbeats 4000000
namespace K12
open PySem PySem.Spec PyProof.Rows L2 LamX NdefX
def RowsAt (G : Hp) (us : List V) (rows : List (List Str)) : Prop := Paired (fun v row => ListAt G row v) us rows
theorem RowsAt.up {G G' : Hp} {us : List V} {rows : List (List Str)} (h : RowsAt G us rows) (e : ∀ b o, G b = some o → G' b = some o) : RowsAt G' us rows := Paired.mapP h fun _ _ h => h.up e
theorem flat_len {α β : Type} {f : α → List β} {c : Nat} : ∀ {l : List α}, (∀ x ∈ l, (f x).length = c) → (l.flatMap f).length = l.length * c
  | [], _ => by simp
  | x :: r, h => by
    rw [List.flatMap_cons, List.length_append, h x (by simp), flat_len (l := r) fun y hy => h y (by simp [hy]), List.length_cons, Nat.succ_mul, Nat.add_comm]
theorem insAll_len {x : Str} {row : List Str} : (insAll x row).length = row.length + 1 := by unfold insAll; rw [List.length_map, List.length_range]
theorem fct_le : ∀ i, i ≤ 4 → fct i ≤ 24 := by decide
section
variable {e : Ev}
theorem ok_v_orders (t : Tx e) : Ok e 1 "_law_v_orders" ["_law_things"] (fun vs H Q _ => ∃ p l G, vs = [.ref p] ∧ Wd e.T G H ∧ G p = some (.lst (sv l)) ∧ l.Nodup ∧ l.length ≤ 4 ∧
    ∀ q us G' H', Step e.T NoS G H G' H' → G' q = some (.lst us) → RowsAt G' us (orders l) → Q (.ref q) H') := by
  refine t.f_law_v_orders.ok sc_law_v_orders (fun vs H Q E h => ?_) (fun cdv A outer s H vs Q E hcd hr h => ?_)
  · obtain ⟨p, l, G, rfl, _⟩ := h; rfl
  · obtain ⟨p, l, G, rfl, wd, hp, nd, hl, k⟩ := h
    refine ⟨_, pss_cons (ps_set (i := 1) sc_law_v_orders.nd rfl (.inl rfl) (pe_lst (pa_cons (pe_lst pa_nil) pa_nil)))
      (pss_cons (ps_for PassesOwn.never rfl (pi_sq (pv 0)) (pg_name (i := 2) sc_law_v_orders.nd rfl (.inr rfl))
        (pss_cons (ps_set (i := 3) sc_law_v_orders.nd rfl (.inl rfl) (pe_lst pa_nil))
        (pss_cons (ps_for PassesOwn.never rfl (pi_sq (pv 1)) (pg_name (i := 4) sc_law_v_orders.nd rfl (.inr rfl))
          (pss_one (ps_expr (pe_bm PySem.F.plainAttrs_list PySem.F.slot_list_extend PySem.F.type_list_extend mt_extend (pv 3) (pa_cons (pe_lc (own := [("_law_at", 5)]) (g := gName 5) (tt := tYes) rfl sc_law_v_orders.nd (pi_range1 (by rfl) t.n_range (pa_cons (pe_op op_add (pe_callB call_lenSq (by rfl) t.n_len bt_len (pa_cons (pv 4) pa_nil)) pe_int) pa_nil)) (blkOk_by (N := ["_law_things", "_law_rows", "_law_thing", "_law_longer", "_law_row", "_law_at"]) (sc := defScope s_law_v_orders) (by decide +kernel))
            (fun _ _ _ _ _ => pg_name (i := 5) sc_law_v_orders.nd rfl (Or.inl rfl)) (fun _ _ _ _ _ => pts_nil) (fun _ _ _ _ _ => pe_op op_cat (pe_op op_cat (pe_slice sl_sq (pv 4) po_none (po_some (pv 5))) (pe_lst (pa_cons (pv 2) pa_nil))) (pe_slice sl_sq (pv 4) (po_some (pv 5)) po_none))) pa_nil)))))
        (pss_one (ps_set (i := 1) sc_law_v_orders.nd rfl (.inl rfl) (pv 3))))))
      (pss_one (ps_ret (pv 1)))), ?_⟩
    have hp0 := wd.sub _ _ hp
    refine ⟨by show 0 ≤ sizeLine; decide, fun e0 he0 => ⟨by show 1 ≤ sizeLine; decide, fun ra hra => ?_⟩⟩
    have a1 := (Step.refl (S := NoS) wd).new1 (o := .lst []) he0 noTbl_lst
    have hra0 : H ra = none := a1.free hra
    have a2 := a1.hid1 (o := .lst [.ref e0]) hra
    refine ⟨_, rfl, p, sv l, rfl, .inl (a2.get hp), fun J wk => for_it wk (fun i σ H3 => ∃ (ra : Addr) (v2 v3 v4 v5 : Option V) (G3 : Hp) (us : List V), σ = [some (.ref p), some (.ref ra), v2, v3, v4, v5] ∧ Step e.T NoS G H G3 H3 ∧ H ra = none ∧ G3 ra = none ∧ H3 ra = some (.lst us) ∧ RowsAt G3 us ((l.take i).foldl ordStep [[]]))
      ⟨ra, _, _, _, _, _, _, rfl, a2, hra0, a1.hidN hra, upd_same, .cons ⟨e0, rfl, upd_same⟩ .nil⟩ (fun i σ H3 _ ⟨_, _, _, _, _, _, _, _, st, _⟩ => by rw [st.get hp, a2.get hp]) ?_ ?_⟩
    · rintro i u σ H3 H4 hi ⟨ra, v2, v3, v4, v5, G3, us, rfl, st, hra0, gra, era, Ru⟩ ⟨rfl, hu⟩
      obtain ⟨x, hx, rfl⟩ := sv_get hu
      have hi4 : i < l.length := by have : i < (sv l).length := hi; rwa [List.length_map] at this
      have O := orders_take nd i (by omega)
      generalize hrs : (l.take i).foldl ordStep [[]] = rs at *
      have lrs : rs.length ≤ 24 := by
        rw [O.len, List.length_take]
        exact fct_le _ (by omega)
      have lrow : ∀ row ∈ rs, row.length = i := fun row hrow => by
        rw [((O.mem row).mp hrow).length_eq, List.length_take]
        omega
      refine ⟨by show 0 ≤ sizeLine; decide, fun la hla => ?_⟩
      have hla0 : H la = none := st.free hla
      have nrl : ra ≠ la := ne_of_none era hla
      have lus : us.length = rs.length := Paired.len Ru
      refine ⟨_, rfl, ra, us, rfl, .inl ((upd_ne nrl).trans era), fun J2 wk2 => for_it wk2 (fun j σ H5 => ∃ (v4 v5 : Option V) (G5 : Hp) (ws : List V), σ = [some (.ref p), some (.ref ra), some (.str x), some (.ref la), v4, v5] ∧ Step e.T NoS G H G5 H5 ∧ (∀ b o, G3 b = some o → G5 b = some o) ∧ H5 ra = some (.lst us) ∧ G5 ra = none ∧ H5 la = some (.lst ws) ∧ G5 la = none ∧ RowsAt G5 ws ((rs.take j).flatMap (insAll x)))
        ⟨_, _, G3, [], rfl, st.hid1 hla, fun _ _ h => h, (upd_ne nrl).trans era, gra, upd_same, st.hidN hla, .nil⟩ (fun j σ H5 _ ⟨_, _, _, _, _, _, _, h, _⟩ => by rw [h, upd_ne nrl, era]) ?_ ?_⟩
      · rintro j u σ H5 H6 hj ⟨v4, v5, G5, ws, rfl, st5, up5, era5, gra5, ela5, gla5, Rw⟩ ⟨rfl, hu2⟩
        obtain ⟨row, hrow, rq, rfl, hrq⟩ := Paired.getL Ru hu2
        have mrow := List.mem_of_getElem? hrow
        have lr := lrow row mrow
        have hrq5 := st5.wd.sub _ _ (up5 _ _ hrq)
        have lws : ws.length = j * (i + 1) := by
          rw [Paired.len Rw, flat_len (c := i + 1) fun r hr => by rw [insAll_len, lrow r (List.mem_of_mem_take hr)]]
          rw [List.length_take, Nat.min_eq_left (by have : j < us.length := hj; omega)]
        have hj24 : j < 24 := by have : j < us.length := hj; omega
        have lws2 : ws.length ≤ 24 * 5 := by rw [lws]; exact Nat.mul_le_mul (by omega) (by omega)
        refine ⟨_, rfl, .inl ⟨rfl, _, SqL.of ela5⟩, _, rfl, rq, sv row, rfl, .inl hrq5, _, _, rfl, rfl, _, rfl, by rw [List.length_map]; omega, by rw [List.length_map]; omega, fun D hD => ?_⟩
        have hD0 : H D = none := st5.free hD
        have nDr : ra ≠ D := ne_of_none era5 hD
        have nDl : la ≠ D := ne_of_none ela5 hD
        have en : ((((sv row).length : Int) + 1).toNat) = row.length + 1 := by rw [List.length_map]; omega
        show ∃ W : Nat → Nat → Hp → Prop, _
        rw [en]
        refine lc_it (walk_range (lo := 0) (n := row.length + 1)) (fun m H7 => ∃ (G7 : Hp) (zs : List V), Step e.T NoS G H G7 H7 ∧ (∀ b o, G5 b = some o → G7 b = some o) ∧ H7 ra = some (.lst us) ∧ G7 ra = none ∧ H7 la = some (.lst ws) ∧ G7 la = none ∧ H7 D = some (.lst zs) ∧ G7 D = none ∧ RowsAt G7 zs ((List.range m).map (insAt row x)))
          ⟨G5, [], st5.hid1 hD, fun _ _ h => h, (upd_ne nDr).trans era5, gra5, (upd_ne nDl).trans ela5, gla5, upd_same, st5.hidN hD, .nil⟩ (fun _ _ _ _ => trivial) ?_ ?_
        · rintro m u H7 H8 hm' ⟨G7, zs, st7, up7, era7, gra7, ela7, gla7, eD7, gD7, Rz⟩ ⟨rfl, rfl⟩
          have hrq7 := st7.wd.sub _ _ (up7 _ _ (up5 _ _ hrq))
          have e0m : (0 : Int) + (m : Nat) = ((m : Nat) : Int) := by omega
          have cut1 : cutV (sv row) none (some (0 + (m : Nat) : Int)) = sv (row.take m) := by rw [e0m, cutV_upto, sv_take]
          have cut2 : cutV (sv row) (some (0 + (m : Nat) : Int)) none = sv (row.drop m) := by rw [e0m, cutV_from]; simp [sv, List.map_drop]
          refine ⟨rfl, yes_ ⟨_, rfl, _, rfl, _, rfl, rq, sv row, rfl, .inl ⟨hrq7, fun p1 hp1 => ⟨_, rfl, by show 1 ≤ sizeLine; decide, fun p2 hp2 => ?_⟩⟩⟩⟩
          rw [cut1] at hp2 ⊢
          have s1 := same_new (o := .lst (sv (row.take m))) hp1
          have s2 := same_new (o := .lst [.str x]) hp2
          have e1 : upd (upd H8 p1 (.lst (sv (row.take m)))) p2 (.lst [.str x]) p1 = some (.lst (sv (row.take m))) := s2 _ _ upd_same
          refine ⟨p1, p2, _, _, rfl, rfl, e1, upd_same, by rw [List.length_map, List.length_take]; exact Nat.le_of_lt (hundred (by show min m row.length + 1 ≤ 100; omega)), fun p3 hp3 => ?_⟩
          have s3 := same_new (o := .lst (sv (row.take m) ++ [.str x])) hp3
          have s123 := (s1.trans s2).trans s3
          refine ⟨_, rfl, _, rfl, _, rfl, rq, sv row, rfl, .inl ⟨s123 _ _ hrq7, fun p4 hp4 => ?_⟩⟩
          rw [cut2]
          have s4 := same_new (o := .lst (sv (row.drop m))) hp4
          have e3 : upd (upd (upd (upd H8 p1 (.lst (sv (row.take m)))) p2 (.lst [.str x])) p3 (.lst (sv (row.take m) ++ [.str x]))) p4 (.lst (sv (row.drop m))) p3 = some (.lst (sv (row.take m) ++ [.str x])) := s4 _ _ upd_same
          refine ⟨p3, p4, _, _, rfl, rfl, e3, upd_same, ?_, fun p5 hp5 => ?_⟩
          · rw [List.length_append, List.length_map, List.length_map, List.length_take, List.length_drop]
            exact Nat.le_of_lt (hundred (by show min m row.length + 1 + (row.length - m) ≤ 100; omega))
          have st8 := (st7.trans (Step.same st7.wd (s123.trans s4))).new1 (o := .lst ((sv (row.take m) ++ [.str x]) ++ sv (row.drop m))) hp5 noTbl_lst
          have eins : (sv (row.take m) ++ [V.str x]) ++ sv (row.drop m) = sv (insAt row x m) := by simp [sv, insAt]
          rw [eins] at st8 ⊢
          have s5 := same_new (o := .lst (sv (insAt row x m))) hp5
          have sA := (s123.trans s4).trans s5
          have hgn : ∀ b o, G7 b = some o → upd G7 p5 (.lst (sv (insAt row x m))) b = some o := fun b o h => (upd_ne (ne_of_none ((s123.trans s4) _ _ (st7.wd.sub _ _ h)) hp5)).trans h
          have hgne : ∀ {b o}, H8 b = some o → G7 b = none → upd G7 p5 (.lst (sv (insAt row x m))) b = none := fun {b o} h g => (upd_ne (ne_of_none ((s123.trans s4) _ _ h) hp5)).trans g
          have lzs : zs.length = m := by rw [Paired.len Rz, List.length_map, List.length_range]
          refine ⟨zs, sA _ _ eD7, by rw [lzs]; exact hundred (by omega), _, zs ++ [.ref p5], st8.wr hD0 (hgne eD7 gD7) (sA _ _ eD7) noTbl_lst (fun _ h => nomatch h), fun b o h => hgn _ _ (up7 b o h), (upd_ne nDr).trans (sA _ _ era7), hgne era7 gra7, (upd_ne nDl).trans (sA _ _ ela7), hgne ela7 gla7, upd_same, hgne eD7 gD7, ?_⟩
          rw [List.range_succ, List.map_append]
          exact Paired.app (.cons ⟨p5, rfl, upd_same⟩ .nil) (Rz.up hgn)
        · rintro H7 ⟨G7, zs, st7, up7, era7, gra7, ela7, gla7, eD7, gD7, Rz⟩
          have lzs : zs.length = row.length + 1 := by rw [Paired.len Rz, List.length_map, List.length_range]
          refine ⟨la, D, ws, zs, rfl, rfl, ela7, eD7, Nat.le_of_lt (Nat.lt_of_le_of_lt (show ws.length + zs.length ≤ 200 by omega) (by decide)), ?_⟩
          refine ⟨_, _, G7, ws ++ zs, rfl, st7.wr hla0 gla7 ela7 noTbl_lst (fun _ h => nomatch h), fun b o h => up7 _ _ (up5 b o h), (upd_ne nrl).trans era7, gra7, upd_same, gla7, ?_⟩
          rw [take_snoc hrow, List.flatMap_append]
          refine Paired.app ?_ (Rw.up up7)
          have e9 : [row].flatMap (insAll x) = (List.range (row.length + 1)).map (insAt row x) := by simp [insAll]
          rw [e9]
          exact Rz
      · rintro σ H5 ⟨v4, v5, G5, ws, rfl, st5, up5, era5, gra5, ela5, gla5, Rw⟩
        rw [lus, List.take_length] at Rw
        refine ⟨_, rfl, la, _, _, _, _, G5, ws, rfl, st5, hla0, gla5, ela5, ?_⟩
        rw [take_snoc hx, List.foldl_append]
        rw [hrs]
        exact Rw
    · rintro σ H3 ⟨ra, v2, v3, v4, v5, G3, us, rfl, st, hra0, gra, era, Ru⟩
      rw [List.length_map, List.take_length] at Ru
      exact ⟨_, rfl, k ra us _ H3 (st.show hra0 era noTbl_lst fun u q => by rw [gra] at q; cases q) upd_same (Ru.up fun b o h => (upd_ne (ne_of_none h gra)).trans h)⟩
end
end K12

set_option maxHeartbeats 4000000
namespace K12
open PySem PySem.Spec PyProof.Rows L2 LamX NdefX
/-- a dict with these entries, in their order -/
def EntAt (G : Hp) (v : V) (en : List (Str × List Str)) : Prop := ∃ d kvs, v = .ref d ∧ G d = some (.dK kvs) ∧ Paired (fun (kv : Key × V) (x : Str × List Str) => kv.1 = Sum.inr x.1 ∧ ListAt G x.2 kv.2) kvs en
def EntsAt (G : Hp) (us : List V) (ens : List (List (Str × List Str))) : Prop := Paired (EntAt G) us ens
theorem EntAt.up {G G' : Hp} {v : V} {en : List (Str × List Str)} (h : EntAt G v en) (e : ∀ b o, G b = some o → G' b = some o) : EntAt G' v en := by
  obtain ⟨d, kvs, h1, h2, h3⟩ := h
  exact ⟨d, kvs, h1, e _ _ h2, Paired.mapP h3 fun _ _ h => ⟨h.1, h.2.up e⟩⟩
theorem EntsAt.up {G G' : Hp} {us : List V} {ens : List (List (Str × List Str))} (h : EntsAt G us ens) (e : ∀ b o, G b = some o → G' b = some o) : EntsAt G' us ens := Paired.mapP h fun _ _ h => h.up e
theorem ent_keys {G : Hp} {kvs : List (Key × V)} {en : List (Str × List Str)} (h : Paired (fun (kv : Key × V) (x : Str × List Str) => kv.1 = Sum.inr x.1 ∧ ListAt G x.2 kv.2) kvs en) : kvs.map (·.1) = (en.map (·.1)).map Sum.inr := by
  induction h with
  | nil => rfl
  | cons q t ih => simp only [List.map_cons, ih, q.1]
/-- slates as a dict, in the names' order -/
theorem EntAt.slAt {G : Hp} {d : Addr} {names : List Str} {s : Str → List Str} (h : EntAt G (.ref d) (tab names s)) : SlAt G d names s := by
  obtain ⟨d', kvs, h1, h2, h3⟩ := h
  cases h1
  refine ⟨kvs, h2, ?_⟩
  unfold tab at h3
  unfold Dic
  clear h2
  generalize names = l at *
  induction l generalizing kvs with
  | nil => cases h3; exact .nil
  | cons x r ih =>
    rw [List.map_cons] at h3
    cases h3 with
    | cons q t => exact .cons ⟨q.1, q.2⟩ (ih _ t)
theorem frn_len {names : List Str} {ties : List (Str × Str)} (tr : IsTree names ties) {x : Str} (hx : x ∈ names) : (frn names ties x).length + 1 ≤ names.length := by
  have nd := tr.nodup
  have h := nodup_le (l := x :: frn names ties x) (m := names) (List.nodup_cons.mpr ⟨fun h => tr.noself (mem_frn.mp h).2, frn_nodup nd⟩) fun y hy => by
    rcases List.mem_cons.mp hy with rfl | hy
    · exact hx
    · exact (mem_frn.mp hy).1
  simpa using h
theorem all_len {names : List Str} {ties : List (Str × Str)} (tr : IsTree names ties) (hl : names.length ≤ 5) {i : Nat} (hi : i ≤ names.length) : ((names.take i).foldl (allStep (frn names ties)) [[]]).length ≤ 24 ^ i := by
  have A := all_take tr.nodup (fun x _ => frn_nodup (ties := ties) (x := x) tr.nodup) i hi
  have := A.len 24 fun x hx => fct_le _ (by have := frn_len tr (List.mem_of_mem_take hx); omega)
  rwa [List.length_take, Nat.min_eq_left hi] at this
section
variable {e : Ev}
theorem ok_v_all (t : Tx e) : Ok e 2 "_law_v_all" ["_law_form"] (fun vs H Q _ => ∃ f names ties news most G, vs = [.ref f] ∧ Wd e.T G H ∧ FormAt G f names ties news ∧ FOk names ties news most ∧ most ≤ 5 ∧
    ∀ q us G' H', Step e.T NoS G H G' H' → G' q = some (.lst us) → EntsAt G' us (allS (frn names ties) names) → Q (.ref q) H') := by
  refine t.f_law_v_all.ok sc_law_v_all (fun vs H Q E h => ?_) (fun cdv A outer s H vs Q E hcd hr h => ?_)
  · obtain ⟨f, names, ties, news, most, G, rfl, _⟩ := h; rfl
  · obtain ⟨f, names, ties, news, most, G, rfl, wd, F, ok, hm, k⟩ := h
    obtain ⟨a, b, c, tvs, hf, ha, hb, P, hc⟩ := F.at_
    have tr := ok.tree
    have nd := tr.nodup
    have hl : names.length ≤ 5 := Nat.le_trans ok.len hm
    refine ⟨_, pss_cons (ps_set (i := 1) sc_law_v_all.nd rfl (.inl rfl) (pe_lst (pa_cons pe_dnewK pa_nil)))
      (pss_cons (ps_for PassesOwn.never rfl (pi_sq (pe_ix ix_sq (pv 0) pe_int (fun _ _ => rfl))) (pg_name (i := 2) sc_law_v_all.nd rfl (.inr rfl))
        (pss_cons (ps_set (i := 3) sc_law_v_all.nd rfl (.inl rfl) (pe_lst pa_nil))
        (pss_cons (ps_for PassesOwn.never rfl (pi_sq (pe_call (ok_v_orders t) hr (by rfl) t.f_law_v_orders.mg t.f_law_v_orders.kp t.f_law_v_orders.b .nil pass0 (pa_cons (pe_call (ok_v_friends t) hr (by rfl) t.f_law_v_friends.mg t.f_law_v_friends.kp t.f_law_v_friends.b .nil pass0 (pa_cons (pv 0) (pa_cons (pv 2) pa_nil))) pa_nil))) (pg_name (i := 4) sc_law_v_all.nd rfl (.inr rfl))
          (pss_one (ps_expr (pe_bm PySem.F.plainAttrs_list PySem.F.slot_list_extend PySem.F.type_list_extend mt_extend (pv 3) (pa_cons (pe_lc (own := [("_law_slates", 5)]) (g := gName 5) (tt := tYes) rfl sc_law_v_all.nd (pi_sq (pv 1)) (blkOk_by (N := ["_law_form", "_law_found", "_law_name", "_law_longer", "_law_row", "_law_slates"]) (sc := defScope s_law_v_all) (by decide +kernel))
            (fun _ _ _ _ _ => pg_name (i := 5) sc_law_v_all.nd rfl (Or.inl rfl)) (fun _ _ _ _ _ => pts_nil) (fun _ _ _ _ _ => pe_callTy (call_dictPr rfl) (by rfl) t.n_dict bt_dict (pa_cons (pe_op op_cat (LiI.pe_listItems rfl (pv 5) (by rfl) t.n_list bt_list) (pe_lst (pa_cons (pe_tup (pa_cons (pv 2) (pa_cons (pv 4) pa_nil))) pa_nil))) pa_nil))) pa_nil)))))
        (pss_one (ps_set (i := 1) sc_law_v_all.nd rfl (.inl rfl) (pv 3))))))
      (pss_one (ps_ret (pv 1)))), ?_⟩
    refine fun e0 he0 => ⟨by show 1 ≤ sizeLine; decide, fun fa hfa => ?_⟩
    have a1 := (Step.refl (S := NoS) wd).new1 (o := .dK []) he0 noTbl_dK
    have hfa0 : H fa = none := a1.free hfa
    have a2 := a1.hid1 (o := .lst [.ref e0]) hfa
    have hf2 := a2.get hf
    have ha2 := a2.get ha
    refine ⟨_, rfl, f, _, 0, .ref a, rfl, rfl, .inr hf2, rfl, a, sv names, rfl, .inl ha2, fun J wk => for_it wk (fun i σ H3 => ∃ (fa : Addr) (v2 v3 v4 v5 : Option V) (G3 : Hp) (us : List V), σ = [some (.ref f), some (.ref fa), v2, v3, v4, v5] ∧ Step e.T NoS G H G3 H3 ∧ H fa = none ∧ G3 fa = none ∧ H3 fa = some (.lst us) ∧ EntsAt G3 us ((names.take i).foldl (allStep (frn names ties)) [[]]))
      ⟨fa, _, _, _, _, _, _, rfl, a2, hfa0, a1.hidN hfa, upd_same, .cons ⟨e0, [], rfl, upd_same, .nil⟩ .nil⟩ (fun i σ H3 _ ⟨_, _, _, _, _, _, _, _, st, _⟩ => by rw [st.get ha, ha2]) ?_ ?_⟩
    · rintro i u σ H3 H4 hi ⟨fa, v2, v3, v4, v5, G3, us, rfl, st, hfa0, gfa, efa, Eu⟩ ⟨rfl, hu⟩
      obtain ⟨x, hx, rfl⟩ := sv_get hu
      have mx := List.mem_of_getElem? hx
      have nx : x ∉ names.take i := nodup_take nd hx
      have hi5 : i < names.length := by have : i < (sv names).length := hi; rwa [List.length_map] at this
      have A := all_take nd (fun x _ => frn_nodup (ties := ties) (x := x) nd) i (by omega)
      have lfd := all_len tr hl (i := i) (by omega)
      generalize hfd : (names.take i).foldl (allStep (frn names ties)) [[]] = fd at *
      have l24 : 24 ^ i ≤ 24 ^ 4 := Nat.pow_le_pow_right (by decide) (by omega)
      have lfd4 : fd.length ≤ 331776 := Nat.le_trans lfd (Nat.le_trans l24 (by decide))
      have lus : us.length = fd.length := Paired.len Eu
      refine ⟨by show 0 ≤ sizeLine; decide, fun la hla => ?_⟩
      have hla0 : H la = none := st.free hla
      have nfl : fa ≠ la := ne_of_none efa hla
      have stl := st.hid1 (o := .lst []) hla
      have efl : upd H4 la (.lst []) fa = some (.lst us) := (upd_ne nfl).trans efa
      have ell : upd H4 la (.lst []) la = some (.lst []) := upd_same
      have gla : G3 la = none := st.hidN hla
      generalize upd H4 la (.lst []) = H5 at *
      -- the orders of the friends
      refine ⟨_, rfl, _, rfl, f, x, names, ties, news, most, G3, rfl, stl.wd, F.up stl.up, ok, by omega, mx, fun fq G6 H6 st6 hfq => ?_⟩
      have a6 := stl.trans st6
      have lfr := frn_len tr mx
      have O := orders_ok (frn_nodup (ties := ties) (x := x) nd)
      refine ⟨fq, frn names ties x, G6, rfl, a6.wd, hfq, frn_nodup nd, by omega, fun oq us2 G7 H7 st7 hoq Ro => ?_⟩
      have a7 := a6.trans st7
      have efa7 : H7 fa = some (.lst us) := st7.own (st6.own efl (fun z => z) noTbl_lst) (fun z => z) noTbl_lst
      have ela7 : H7 la = some (.lst []) := st7.own (st6.own ell (fun z => z) noTbl_lst) (fun z => z) noTbl_lst
      have gfa7 : G7 fa = none := st7.hidden (st6.own efl (fun z => z) noTbl_lst) (st6.hidden efl gfa)
      have gla7 : G7 la = none := st7.hidden (st6.own ell (fun z => z) noTbl_lst) (st6.hidden ell gla)
      have lo : (orders (frn names ties x)).length ≤ 24 := by rw [O.len]; exact fct_le _ (by omega)
      have lus2 : us2.length = (orders (frn names ties x)).length := Paired.len Ro
      have hoq7 := a7.wd.sub _ _ hoq
      have Eu7 := Eu.up fun b o h => st7.up _ _ (st6.up b o h)
      generalize hos : orders (frn names ties x) = os at *
      refine ⟨oq, us2, rfl, .inl hoq7, fun J2 wk2 => for_it wk2 (fun j σ H8 => ∃ (v4 v5 : Option V) (G8 : Hp) (ws : List V), σ = [some (.ref f), some (.ref fa), some (.str x), some (.ref la), v4, v5] ∧ Step e.T NoS G H G8 H8 ∧ (∀ b o, G7 b = some o → G8 b = some o) ∧ H8 fa = some (.lst us) ∧ G8 fa = none ∧ H8 la = some (.lst ws) ∧ G8 la = none ∧ EntsAt G8 ws ((os.take j).flatMap fun row => fd.map fun en => en ++ [(x, row)]))
        ⟨_, _, G7, [], rfl, a7, fun _ _ h => h, efa7, gfa7, ela7, gla7, .nil⟩ (fun j σ H8 _ ⟨_, _, G8, _, _, st8, up8, _⟩ => by rw [st8.wd.sub _ _ (up8 _ _ hoq), hoq7]) ?_ ?_⟩
      · rintro j u σ H8 H9 hj ⟨v4, v5, G8, ws, rfl, st8, up8, efa8, gfa8, ela8, gla8, Ew⟩ ⟨rfl, hu2⟩
        obtain ⟨row, hrow, rq, rfl, hrq⟩ := Paired.getL Ro hu2
        have hj24 : j < os.length := by have : j < us2.length := hj; omega
        have lws : ws.length = j * fd.length := by
          rw [Paired.len Ew, flat_len (c := fd.length) fun r _ => by rw [List.length_map], List.length_take, Nat.min_eq_left (by omega)]
        have lws2 : ws.length ≤ 23 * 331776 := by rw [lws]; exact Nat.mul_le_mul (by omega) lfd4
        refine ⟨_, rfl, .inl ⟨rfl, _, SqL.of ela8⟩, _, rfl, fa, us, rfl, .inl efa8, fun J3 wk3 D hD => ?_⟩
        have hD0 : H D = none := st8.free hD
        have nDf : fa ≠ D := ne_of_none efa8 hD
        have nDl : la ≠ D := ne_of_none ela8 hD
        refine lc_it wk3 (fun m H10 => ∃ (G10 : Hp) (zs : List V), Step e.T NoS G H G10 H10 ∧ (∀ b o, G8 b = some o → G10 b = some o) ∧ H10 fa = some (.lst us) ∧ G10 fa = none ∧ H10 la = some (.lst ws) ∧ G10 la = none ∧ H10 D = some (.lst zs) ∧ G10 D = none ∧ EntsAt G10 zs ((fd.take m).map fun en => en ++ [(x, row)]))
          ⟨G8, [], st8.hid1 hD, fun _ _ h => h, (upd_ne nDf).trans efa8, gfa8, (upd_ne nDl).trans ela8, gla8, upd_same, st8.hidN hD, .nil⟩ (fun m H10 _ ⟨_, _, _, _, h, _⟩ => by rw [h, efa8]) ?_ ?_
        · rintro m u H10 H11 hm' ⟨G10, zs, st10, up10, efa10, gfa10, ela10, gla10, eD10, gD10, Ez⟩ ⟨rfl, hu3⟩
          obtain ⟨en, hen, sd, kvs, rfl, hsd, hkv⟩ := Paired.getL Eu7 hu3
          have ups : ∀ b o, G7 b = some o → G10 b = some o := fun b o h => up10 _ _ (up8 _ _ h)
          have hsd10 := st10.wd.sub _ _ (ups _ _ hsd)
          obtain ⟨ss, _, ess⟩ := (A.mem en).mp (List.mem_of_getElem? hen)
          have kys : kvs.map (·.1) = (names.take i).map Sum.inr := by
            rw [ent_keys hkv, ess]
            unfold tab
            rw [List.map_map, List.map_map]
            rfl
          have lkv : kvs.length = i := by
            have := congrArg List.length kys
            rw [List.length_map, List.length_map, List.length_take] at this
            omega
          refine ⟨rfl, yes_ ⟨_, rfl, sd, kvs, rfl, hsd10, fun H12 lq as s12 hlq has hqn hl12 hP12 => ?_⟩⟩
          have las : as.length = kvs.length := Paired.len hP12
          refine ⟨_, rfl, _, rfl, by show 2 ≤ sizeLine; decide, fun T hT => ⟨by show 1 ≤ sizeLine; decide, fun p2 hp2 => ?_⟩⟩
          have sT := same_new (o := .tup [.str x, .ref rq]) hT
          have s2 := same_new (o := .lst [.ref T]) hp2
          have hT13 : upd (upd H12 T (.tup [.str x, .ref rq])) p2 (.lst [.ref T]) T = some (.tup [.str x, .ref rq]) := s2 _ _ upd_same
          have hl13 := (sT.trans s2) _ _ hl12
          have hp13 : upd (upd H12 T (.tup [.str x, .ref rq])) p2 (.lst [.ref T]) p2 = some (.lst [.ref T]) := upd_same
          have s13 : Same H11 (upd (upd H12 T (.tup [.str x, .ref rq])) p2 (.lst [.ref T])) := (show Same H11 H12 from s12).trans (sT.trans s2)
          have hP13 : Paired (fun (t : Addr) (q : Key × V) => upd (upd H12 T (.tup [.str x, .ref rq])) p2 (.lst [.ref T]) t = some (.tup [kV q.1, q.2])) as kvs := Paired.mapP hP12 fun _ _ h => (sT.trans s2) _ _ h
          generalize upd (upd H12 T (.tup [.str x, .ref rq])) p2 (.lst [.ref T]) = H13 at *
          refine ⟨lq, p2, _, _, rfl, rfl, hl13, hp13, by rw [List.length_map]; exact Nat.le_of_lt (hundred (by show as.length + 1 ≤ 100; omega)), fun p3 hp3 => ?_⟩
          have s3 := same_new (o := .lst (as.map V.ref ++ [.ref T])) hp3
          have e3 : upd H13 p3 (.lst (as.map V.ref ++ [.ref T])) p3 = some (.lst ((as ++ [T]).map V.ref)) := by rw [upd_same]; simp
          have hP14 : Paired (fun (t : Addr) (q : Key × V) => upd H13 p3 (.lst (as.map V.ref ++ [.ref T])) t = some (.tup [kV q.1, q.2])) (as ++ [T]) (kvs ++ [(Sum.inr x, .ref rq)]) := Paired.snoc (R := fun (t : Addr) (q : Key × V) => upd H13 p3 (.lst (as.map V.ref ++ [.ref T])) t = some (.tup [kV q.1, q.2])) (s3 _ _ hT13) (Paired.mapP hP13 fun _ _ h => s3 _ _ h)
          refine ⟨p3, as ++ [T], kvs ++ [(Sum.inr x, .ref rq)], rfl, e3, hP14, ?_, fun p4 hp4 => ?_⟩
          · rw [List.map_append, kys]
            refine List.nodup_append.mpr ⟨List.Pairwise.map _ (fun a b h q => h (Sum.inr.inj q)) (nd.sublist (List.take_sublist _ _)), by simp, fun a ha b hb q => ?_⟩
            obtain ⟨y, hy, rfl⟩ := List.mem_map.mp ha
            have hb : b = Sum.inr x := by simpa using hb
            rw [hb] at q
            exact nx (Sum.inr.inj q ▸ hy)
          · have s14 := s13.trans s3
            have st14 := (st10.trans (Step.same st10.wd s14)).new1 (o := .dK (kvs ++ [(Sum.inr x, .ref rq)])) hp4 noTbl_dK
            have s5 := same_new (o := .dK (kvs ++ [(Sum.inr x, .ref rq)])) hp4
            have sA := s14.trans s5
            have hgn : ∀ b o, G10 b = some o → upd G10 p4 (.dK (kvs ++ [(Sum.inr x, .ref rq)])) b = some o := fun b o h => (upd_ne (ne_of_none (s14 _ _ (st10.wd.sub _ _ h)) hp4)).trans h
            have hgne : ∀ {b o}, H11 b = some o → G10 b = none → upd G10 p4 (.dK (kvs ++ [(Sum.inr x, .ref rq)])) b = none := fun {b o} h g => (upd_ne (ne_of_none (s14 _ _ h) hp4)).trans g
            have lzs : zs.length ≤ 331776 := by
              rw [Paired.len Ez, List.length_map, List.length_take]
              omega
            refine ⟨zs, sA _ _ eD10, Nat.lt_of_le_of_lt lzs (by decide), _, zs ++ [.ref p4], st14.wr hD0 (hgne eD10 gD10) (sA _ _ eD10) noTbl_lst (fun _ h => nomatch h), fun b o h => hgn _ _ (up10 b o h), (upd_ne nDf).trans (sA _ _ efa10), hgne efa10 gfa10, (upd_ne nDl).trans (sA _ _ ela10), hgne ela10 gla10, upd_same, hgne eD10 gD10, ?_⟩
            rw [take_snoc hen, List.map_append]
            refine Paired.app (.cons ⟨p4, _, rfl, upd_same, ?_⟩ .nil) (Ez.up hgn)
            exact Paired.snoc ⟨rfl, rq, rfl, hgn _ _ (ups _ _ hrq)⟩ (Paired.mapP hkv fun _ _ h => ⟨h.1, h.2.up fun b o q => hgn _ _ (ups _ _ q)⟩)
        · rintro H10 ⟨G10, zs, st10, up10, efa10, gfa10, ela10, gla10, eD10, gD10, Ez⟩
          rw [lus, List.take_length] at Ez
          have lzs : zs.length = fd.length := by rw [Paired.len Ez, List.length_map]
          refine ⟨la, D, ws, zs, rfl, rfl, ela10, eD10, Nat.le_trans (show ws.length + zs.length ≤ 24 * 331776 by omega) (by decide), ?_⟩
          refine ⟨_, _, G10, ws ++ zs, rfl, st10.wr hla0 gla10 ela10 noTbl_lst (fun _ h => nomatch h), fun b o h => up10 _ _ (up8 b o h), (upd_ne nfl).trans efa10, gfa10, upd_same, gla10, ?_⟩
          rw [take_snoc hrow, List.flatMap_append]
          refine Paired.app ?_ (Ew.up up10)
          have e9 : ([row].flatMap fun row => fd.map fun en => en ++ [(x, row)]) = fd.map fun en => en ++ [(x, row)] := by simp
          rw [e9]
          exact Ez
      · rintro σ H8 ⟨v4, v5, G8, ws, rfl, st8, up8, efa8, gfa8, ela8, gla8, Ew⟩
        rw [lus2, List.take_length] at Ew
        refine ⟨_, rfl, la, _, _, _, _, G8, ws, rfl, st8, hla0, gla8, ela8, ?_⟩
        rw [take_snoc hx, List.foldl_append, hfd]
        show EntsAt G8 ws (allStep (frn names ties) fd x)
        unfold allStep
        rw [hos]
        exact Ew
    · rintro σ H3 ⟨fa, v2, v3, v4, v5, G3, us, rfl, st, hfa0, gfa, efa, Eu⟩
      rw [List.length_map, List.take_length] at Eu
      exact ⟨_, rfl, k fa us _ H3 (st.show hfa0 efa noTbl_lst fun u q => by rw [gfa] at q; cases q) upd_same (Eu.up fun b o h => (upd_ne (ne_of_none h gfa)).trans h)⟩
end
end K12

set_option maxHeartbeats 4000000
namespace K12
open PySem PySem.Spec PyProof.Rows L2 LamX NdefX
theorem pe_no {X : Cx} {ex : Expr} : PE X ex (fun _ _ _ => False) := ⟨fun _ _ _ _ _ _ h => h.elim⟩
theorem NumP.at {G : Hp} {q : Addr} {names : List Str} {num : Str → Int} (h : NumAt G q names num) : NumP G q names num := by
  obtain ⟨kvs, h1, h2⟩ := h
  exact ⟨kvs, names, h1, .refl _, h2⟩
section
variable {e : Ev}
theorem ok_v_handed (t : Tx e) : Ok e 3 "_law_v_handed" ["_law_source_here", "_law_given"] (fun vs H Q _ => ∃ s d names num G, vs = [.ref s, .ref d] ∧ SrcAt e s G H ∧ NumP G d names num ∧ names.Nodup ∧ names.length ≤ 100 ∧
    ∀ q G' H', Step e.T (OnS s) G H G' H' → Src s H' → NumP G' q names num → Q (.ref q) H') := by
  refine t.f_law_v_handed.ok sc_law_v_handed (fun vs H Q E h => ?_) (fun cdv A outer s H vs Q E hcd hr h => ?_)
  · obtain ⟨s, d, names, num, G, rfl, _⟩ := h; rfl
  · obtain ⟨s, d, names, num, G, rfl, I, N, nd, hl, k⟩ := h
    have hu := hu_of hr
    obtain ⟨kvs, perm, hd, pm, D⟩ := N
    refine ⟨_, pss_cons (ps_set (i := 2) sc_law_v_handed.nd rfl (.inl rfl) pe_dnewK)
      (pss_cons (ps_for PassesOwn.never rfl (pi_sq (pe_call (ok_mixed t) hr (by rfl) t.f_law_mixed.mg t.f_law_mixed.kp t.f_law_mixed.b .nil pass0 (pa_cons (pv 0) (pa_cons (pe_callTy (call_list_dK rfl) (by rfl) t.n_list bt_list (pa_cons (pv 1) pa_nil)) pa_nil)))) (pg_name (i := 3) sc_law_v_handed.nd rfl (.inl rfl))
        (pss_cons (ps_set (i := 4) sc_law_v_handed.nd rfl (.inl rfl) (pe_isTy (by rfl) t.n_isinstance (by rfl) t.n_list bt_list (pe_dget hu (pv 1) (pv 3) (fun _ _ => rfl)) (by decide)))
        (pss_one (ps_asg (pe_ifExp (pt_val (pv 4)) pe_no (pe_dget hu (pv 1) (pv 3) (fun _ _ => rfl))) (pg_sub (pv 2) (pv 3) (set_dict hu))))))
      (pss_one (ps_ret (pv 2)))), ?_⟩
    have hd0 := I.wd.sub _ _ hd
    refine fun fd hfd => ⟨_, rfl, _, rfl, d, kvs, rfl, (upd_ne (ne_of_none hd0 hfd)).trans hd0, fun q hq => ?_⟩
    have hfd0 := hfd
    have a2 := ((Step.refl (S := NoS) I.wd).hid1 (o := .dK []) hfd).hid1 (o := .lst (kvs.map fun kv => kV kv.1)) hq
    have gf2 : G fd = none := I.wd.none hfd
    have nfq : fd ≠ q := ne_of_none upd_same hq
    have ef2 : upd (upd H fd (.dK [])) q (.lst (kvs.map fun kv => kV kv.1)) fd = some (.dK []) := (upd_ne nfq).trans upd_same
    have eq2 : upd (upd H fd (.dK [])) q (.lst (kvs.map fun kv => kV kv.1)) q = some (.lst (sv perm)) := by
      rw [upd_same]
      have h1 : (kvs.map fun kv => kV kv.1) = (kvs.map (·.1)).map kV := by rw [List.map_map]; rfl
      rw [h1, D.keys, List.map_map]
      rfl
    have I2 := I.no a2
    generalize upd (upd H fd (.dK [])) q (.lst (kvs.map fun kv => kV kv.1)) = H2 at *
    refine ⟨s, q, sv perm, G, rfl, I2, .inl eq2, fun z => by rw [z] at hq; exact I.ne (by rw [← hq]; exact (upd_ne (I.away0 hfd)).symm), by rw [List.length_map, pm.length_eq]; omega, fun q3 ys G3 H3 pm3 st3 src3 hq3 => ?_⟩
    obtain ⟨l, rfl, pl⟩ := List.Perm.map_inv_of pm3
    have nl : l.Nodup := (pl.trans pm).nodup_iff.mpr nd
    have nsf : s ≠ fd := I.away0 hfd
    have a3 := a2.no.trans st3
    have ef3 : H3 fd = some (.dK []) := st3.fr _ _ ef2 nsf.symm noTbl_dK
    have gf3 : G3 fd = none := st3.hidden ef2 gf2
    have hq3' := a3.wd.sub _ _ hq3
    have hd3 := a3.get hd
    refine ⟨q3, sv l, rfl, .inl hq3', fun J wk => for_it wk (fun i σ H4 => ∃ (v3 v4 : Option V) (ks : List (Key × V)), σ = [some (.ref s), some (.ref d), some (.ref fd), v3, v4] ∧ Step e.T (OnS s) G H G3 H4 ∧ Src s H4 ∧ H4 fd = some (.dK ks) ∧ Dic ks (l.take i) (fun y v => v = .int (num y)))
      ⟨_, _, [], rfl, a3, src3, ef3, .nil⟩ (fun i σ H4 _ ⟨_, _, _, _, st, _⟩ => by rw [st.wd.sub _ _ hq3, hq3']) ?_ ?_⟩
    · rintro i u σ H4 H5 hi ⟨v3, v4, ks, rfl, st4, src4, ef4, D4⟩ ⟨rfl, hu2⟩
      obtain ⟨y, hy, rfl⟩ := sv_get hu2
      have ny : y ∉ l.take i := nodup_take nl hy
      have hd4 := st4.get hd
      obtain ⟨w, gw, rfl⟩ := D.get (pl.mem_iff.mp (List.mem_of_getElem? hy))
      have dg : ∀ {H' : Hp}, H' d = some (.dK kvs) → DGet H' d (.str y) (some (.int (num y))) := fun h => by rw [← gw]; exact DGet.k (k := Sum.inr y) h
      have lks : ks.length ≤ 100 := by
        rw [D4.len, List.length_take]
        have := (pl.trans pm).length_eq
        omega
      refine ⟨_, rfl, _, rfl, d, _, rfl, dg hd4, "int", .int _, fun H6 s6 => ?_⟩
      have st6 := st4.trans (Step.same st4.wd s6)
      have hd6 := st6.get hd
      have ef6 := s6 _ _ ef4
      refine ⟨_, rfl, ?_⟩
      refine ⟨_, rfl, ?_⟩
      refine ⟨_, rfl, _, rfl, d, _, rfl, dg hd6, _, rfl, _, rfl, fd, _, rfl, DPut.k (k := Sum.inr y) ef6 (by show ks.length < 16777216; omega), _, _, _, rfl, st6.wr hfd gf3 ef6 noTbl_dK (fun _ h => nomatch h), ?_, upd_same, ?_⟩
      · obtain ⟨x, y', z, h, w⟩ := src4.same s6
        exact ⟨x, y', z, (upd_ne nsf).trans h, w⟩
      · rw [take_snoc hy]
        exact D4.put_new ny rfl
    · rintro σ H4 ⟨v3, v4, ks, rfl, st4, src4, ef4, D4⟩
      rw [List.length_map, List.take_length] at D4
      refine ⟨_, rfl, k fd _ H4 (st4.show hfd ef4 noTbl_dK fun u q => by rw [gf3] at q; cases q) src4 ⟨ks, l, upd_same, pl.trans pm, D4⟩⟩
end
end K12

set_option maxHeartbeats 4000000
namespace K12
open PySem PySem.Spec PyProof.Rows L2 LamX NdefX
theorem num_put {kvs : List (Key × V)} {names : List Str} {num : Str → Int} {x : Str} {z : Int} (D : Dic kvs names (fun y v => v = .int (num y))) (hx : x ∈ names) : Dic (putK kvs (Sum.inr x) (.int z)) names (fun y v => v = .int (put num x z y)) :=
  D.put_old hx (by rw [put_at]) fun y u _ ne h => by rw [put_ne ne]; exact h
theorem num_get {kvs : List (Key × V)} {names : List Str} {num : Str → Int} {x : Str} {H : Hp} {d : Addr} (D : Dic kvs names (fun y v => v = .int (num y))) (hx : x ∈ names) (h : H d = some (.dK kvs)) : DGet H d (.str x) (some (.int (num x))) := by
  obtain ⟨w, g, rfl⟩ := D.get hx
  rw [← g]
  exact DGet.k (k := Sum.inr x) h
def Bnd (names : List Str) (num : Str → Int) (Z : Int) : Prop := ∀ y ∈ names, 0 ≤ num y ∧ num y ≤ Z
theorem Bnd.put {names : List Str} {num : Str → Int} {Z Z' : Int} (b : Bnd names num Z) (hz : Z ≤ Z') {x : Str} {z : Int} (h : 0 ≤ z ∧ z ≤ Z') : Bnd names (put num x z) Z' := fun y hy => by
  by_cases q : y = x
  · rw [q, put_at]; exact h
  · rw [put_ne q]; have := b y hy; omega
theorem news_sum {M : Int} : ∀ {ns : List Int}, (∀ n ∈ ns, (1 : Int) ≤ n ∧ n ≤ M) → 0 ≤ ns.sum ∧ ns.sum ≤ ns.length * M
  | [], _ => by simp
  | n :: r, h => by
    have h1 := h n (by simp)
    have h2 := news_sum (ns := r) fun m hm => h m (by simp [hm])
    rw [List.sum_cons, List.length_cons]
    have : ((r.length + 1 : Nat) : Int) * M = r.length * M + M := by rw [Int.natCast_add, Int.add_mul]; simp
    omega
section
variable {e : Ev}
/-- the walk of near, between two of its ifs -/
def NearI (e : Ev) (s f d D : Addr) (names : List Str) (y z : Str) (w Z : Int) (G H : Hp) (σ : L2.St) (H3 : Hp) : Prop :=
  ∃ kvs num, σ = [some (.ref s), some (.ref f), some (.ref d), some (.ref D), some (.str y), some (.int w), some (.str z)] ∧ Step e.T (OnS s) G H G H3 ∧ Src s H3 ∧ H3 D = some (.dK kvs) ∧ Dic kvs names (fun y v => v = .int (num y)) ∧ Bnd names num Z
theorem ok_v_near (t : Tx e) : Ok e 3 "_law_v_near" ["_law_source_here", "_law_form", "_law_given"] (fun vs H Q _ => ∃ s f d names ties news most num Z G, vs = [.ref s, .ref f, .ref d] ∧ SrcAt e s G H ∧ FormAt G f names ties news ∧ FOk names ties news most ∧ most ≤ 60 ∧ NumAt G d names num ∧ Bnd names num Z ∧ 100000000000000000 ≤ Z ∧
    ∀ q num' G' H', Step e.T (OnS s) G H G' H' → Src s H' → NumAt G' q names num' → Bnd names num' (Z + 2) → Q (.ref q) H') := by
  refine t.f_law_v_near.ok sc_law_v_near (fun vs H Q E h => ?_) (fun cdv A outer s H vs Q E hcd hr h => ?_)
  · obtain ⟨s, f, d, names, ties, news, most, num, Z, G, rfl, _⟩ := h; rfl
  · obtain ⟨s, f, d, names, ties, news, most, num, Z, G, rfl, I, F, ok, hm, N, B, hZ, k⟩ := h
    have hu := hu_of hr
    have nd := ok.tree.nodup
    obtain ⟨a, b, c, tvs, hf, ha, hb, P, hc⟩ := F.at_
    obtain ⟨kvs, hd, Dk⟩ := N
    have hl : names.length ≤ 60 := Nat.le_trans ok.len hm
    have hne : names ≠ [] := fun z => by have := ok.tree.len; rw [z] at this; cases this
    have hpos : 0 < names.length := List.length_pos_iff.mpr hne
    refine ⟨_, pss_cons (ps_par (i := 3) (j := 4) rfl sc_law_v_near.nd rfl rfl (by decide) rfl rfl (pa_cons (pe_callTy call_dictD (by rfl) t.n_dict bt_dict (pa_cons (pv 2) pa_nil)) (pa_cons (pe_call (ok_pick t) hr (by rfl) t.f_law_pick.mg t.f_law_pick.kp t.f_law_pick.b .nil pass0 (pa_cons (pv 0) (pa_cons (pe_ix ix_sq (pv 1) pe_int (fun _ _ => rfl)) pa_nil))) pa_nil)) (by rfl))
      (pss_cons (ps_par (i := 5) (j := 6) rfl sc_law_v_near.nd rfl rfl (by decide) rfl rfl (pa_cons (pe_call (ok_draw t) (hr.mono (by decide)) (by rfl) t.f_law_draw.mg t.f_law_draw.kp t.f_law_draw.b .nil pass0 (pa_cons (pv 0) (pa_cons pe_int pa_nil))) (pa_cons (pe_call (ok_pick t) hr (by rfl) t.f_law_pick.mg t.f_law_pick.kp t.f_law_pick.b .nil pass0 (pa_cons (pv 0) (pa_cons (pe_ix ix_sq (pv 1) pe_int (fun _ _ => rfl)) pa_nil))) pa_nil)) (by rfl))
      (C8.pss_cut (ps_if (pt_cmpR op_lt (pv 5) pe_int (nomark _))
        (pss_one (ps_asg (pe_callB (call_max2 rfl) (by rfl) t.n_max bt_max (pa_cons pe_int (pa_cons (pe_op op_add (pe_dget hu (pv 3) (pv 4) (fun _ _ => rfl)) (pe_ix ix_sq (pe_lst (pa_cons pe_int (pa_cons (pe_un un_neg pe_int) pa_nil))) (pv 5) (fun _ _ => rfl))) pa_nil))) (pg_sub (pv 3) (pv 4) (set_dict hu)))) pss_nil)
      (C8.pss_cut (ps_if (pt_cmpR op_eq (pv 5) pe_int (nomark _))
        (pss_one (ps_asg (pe_tup (pa_cons (pe_dget hu (pv 3) (pv 6) (fun _ _ => rfl)) (pa_cons (pe_dget hu (pv 3) (pv 4) (fun _ _ => rfl)) pa_nil))) (pg_tup rfl (pgs_cons (pg_sub (pv 3) (pv 4) (set_dict hu)) (pgs_cons (pg_sub (pv 3) (pv 6) (set_dict hu)) pgs_nil))))) pss_nil)
      (C8.pss_cut (ps_if (pt_cmpR op_eq (pv 5) pe_int (nomark _))
        (pss_one (ps_asg (pe_call (ok_pick t) hr (by rfl) t.f_law_pick.mg t.f_law_pick.kp t.f_law_pick.b .nil pass0 (pa_cons (pv 0) (pa_cons (pe_lst (pa_cons pe_int (pa_cons (pe_callB (cr_sum rfl) (by rfl) t.n_sum bt_sum (pa_cons (pe_ix ix_sq (pv 1) pe_int (fun _ _ => rfl)) pa_nil)) (pa_cons (pe_op op_pow pe_int pe_int) (pa_cons (pe_ix ix_sq (pe_ix ix_sq (pv 1) pe_int (fun _ _ => rfl)) pe_int (fun _ _ => rfl)) pa_nil))))) pa_nil))) (pg_sub (pv 3) (pv 4) (set_dict hu)))) pss_nil)
      (C8.pss_cut (ps_if (pt_cmpR op_eq (pv 5) pe_int (nomark _))
        (pss_one (ps_asg (pe_tup (pa_cons (pe_op op_add (pe_dget hu (pv 3) (pv 4) (fun _ _ => rfl)) pe_int) (pa_cons (pe_callB (call_max2 rfl) (by rfl) t.n_max bt_max (pa_cons pe_int (pa_cons (pe_op op_sub (pe_dget hu (pv 3) (pv 6) (fun _ _ => rfl)) pe_int) pa_nil))) pa_nil))) (pg_tup rfl (pgs_cons (pg_sub (pv 3) (pv 4) (set_dict hu)) (pgs_cons (pg_sub (pv 3) (pv 6) (set_dict hu)) pgs_nil))))) pss_nil)
      (pss_one (ps_ret (pv 3)))))))), ?_⟩
    have hd0 := I.wd.sub _ _ hd
    refine ⟨_, rfl, d, kvs, rfl, .inl hd0, fun D hD => ?_⟩
    have a1 := (Step.refl (S := OnS s) I.wd).hid1 (o := .dK kvs) hD
    have gD : G D = none := I.wd.none hD
    have nsD : s ≠ D := I.away0 hD
    have eD1 : upd H D (.dK kvs) D = some (.dK kvs) := upd_same
    have I1 := I.step a1 (I.src.same (same_new hD))
    generalize upd H D (.dK kvs) = H1 at *
    have hf1 := I1.wd.sub _ _ hf
    have ha1 := I1.wd.sub _ _ ha
    refine ⟨_, rfl, _, rfl, f, _, 0, .ref a, rfl, rfl, .inr hf1, rfl, s, a, sv names, G, rfl, I1, .inl ha1, I1.away ha, by simpa [sv] using hne, by rw [List.length_map]; omega, fun x H2 hx st2 src2 => ?_⟩
    obtain ⟨y, my, rfl⟩ := List.mem_map.mp hx
    have a2 := a1.trans st2
    have I2 := I.step a2 src2
    refine ⟨_, _, rfl, _, rfl, s, 6, G, rfl, by decide, by decide, I2, fun w H3 hw0 hw6 st3 src3 => ?_⟩
    have a3 := a2.trans st3
    have I3 := I.step a3 src3
    have hf3 := I3.wd.sub _ _ hf
    have ha3 := I3.wd.sub _ _ ha
    refine ⟨_, rfl, _, rfl, f, _, 0, .ref a, rfl, rfl, .inr hf3, rfl, s, a, sv names, G, rfl, I3, .inl ha3, I3.away ha, by simpa [sv] using hne, by rw [List.length_map]; omega, fun x H4 hx st4 src4 => ?_⟩
    obtain ⟨z, mz, rfl⟩ := List.mem_map.mp hx
    have a4 := a3.trans st4
    have eD4 : H4 D = some (.dK kvs) := st4.fr _ _ (st3.fr _ _ (st2.fr _ _ eD1 nsD.symm noTbl_dK) nsD.symm noTbl_dK) nsD.symm noTbl_dK
    have wr : ∀ {H5 : Hp} {k5 k6 : List (Key × V)}, Step e.T (OnS s) G H G H5 → H5 D = some (.dK k5) → Step e.T (OnS s) G H G (upd H5 D (.dK k6)) := fun st h => st.wr hD gD h noTbl_dK fun _ h => nomatch h
    have sr : ∀ {H5 : Hp} {o : HO}, Src s H5 → Src s (upd H5 D o) := fun ⟨x, y, z, h, w⟩ => ⟨x, y, z, (upd_ne nsD).trans h, w⟩
    have lk : ∀ {k5 : List (Key × V)} {num : Str → Int}, Dic k5 names (fun y v => v = .int (num y)) → k5.length < sizeLine := fun D5 => by rw [D5.len]; show names.length < 16777216; omega
    refine ⟨_, _, rfl, NearI e s f d D names y z w (Z + 1) G H, ?_, ?_⟩
    · refine ⟨_, rfl, _, _, rfl, rfl, _, rfl, ite2 (fun q => ?_) (fun q => ?_)⟩
      · refine ⟨_, rfl, _, rfl, D, _, rfl, num_get Dk my eD4, _, rfl, by show 2 ≤ sizeLine; decide, fun p hp => ?_⟩
        have a5 := a4.hid1 (o := .lst [.int 1, .int (-1)]) hp
        have eD5 : upd H4 p (.lst [.int 1, .int (-1)]) D = some (.dK kvs) := (upd_ne (ne_of_none eD4 hp)).trans eD4
        have src5 : Src s (upd H4 p (.lst [.int 1, .int (-1)])) := src4.same (same_new hp)
        have ep : upd H4 p (.lst [.int 1, .int (-1)]) p = some (.lst [.int 1, .int (-1)]) := upd_same
        generalize upd H4 p (.lst [.int 1, .int (-1)]) = H5 at *
        have q2 : w < 2 := of_decide_eq_true q
        have hx : ∃ dl : Int, (dl = 1 ∨ dl = -1) ∧ atI [V.int 1, V.int (-1)] w = some (.int dl) := by
          have h01 : w = 0 ∨ w = 1 := by omega
          rcases h01 with rfl | rfl
          · exact ⟨1, .inl rfl, rfl⟩
          · exact ⟨-1, .inr rfl, rfl⟩
        obtain ⟨dl, hdl, hat⟩ := hx
        refine ⟨_, rfl, p, _, w, .int dl, rfl, rfl, .inl ep, hat, _, _, rfl, rfl, _, _, rfl, _, rfl, _, rfl, D, _, rfl, DPut.k (k := Sum.inr y) eD5 (lk Dk), ?_⟩
        have b := B y my
        refine ⟨_, _, rfl, wr a5 eD5, sr src5, upd_same, num_put Dk my, B.put (by omega) ?_⟩
        split <;> omega
      · exact ⟨kvs, num, rfl, a4, src4, eD4, Dk, fun y hy => by have := B y hy; omega⟩
    rintro σ5 H5 ⟨k5, n5, rfl, a5, src5, eD5, D5, B5⟩
    refine ⟨NearI e s f d D names y z w (Z + 1) G H, ?_, ?_⟩
    · refine ⟨_, rfl, rfl, _, rfl, ite2 (fun q => ?_) (fun q => ⟨k5, n5, rfl, a5, src5, eD5, D5, B5⟩)⟩
      refine ⟨_, rfl, _, rfl, D, _, rfl, num_get D5 mz eD5, _, rfl, _, rfl, D, _, rfl, num_get D5 my eD5, by show 2 ≤ sizeLine; decide, fun p hp => ?_⟩
      have a6 := a5.hid1 (o := .tup [.int (n5 z), .int (n5 y)]) hp
      have eD6 : upd H5 p (.tup [.int (n5 z), .int (n5 y)]) D = some (.dK k5) := (upd_ne (ne_of_none eD5 hp)).trans eD5
      have src6 : Src s (upd H5 p (.tup [.int (n5 z), .int (n5 y)])) := src5.same (same_new hp)
      have ep : upd H5 p (.tup [.int (n5 z), .int (n5 y)]) p = some (.tup [.int (n5 z), .int (n5 y)]) := upd_same
      generalize upd H5 p (.tup [.int (n5 z), .int (n5 y)]) = H6 at *
      refine ⟨p, _, rfl, SqT.of ep, rfl, _, _, rfl, _, rfl, _, rfl, D, _, rfl, DPut.k (k := Sum.inr y) eD6 (lk D5), _, _, rfl, _, rfl, _, rfl, D, _, rfl, DPut.k (k := Sum.inr z) upd_same (lk (num_put D5 my)), rfl, ?_⟩
      exact ⟨_, _, rfl, wr (wr a6 eD6) upd_same, sr (sr src6), upd_same, num_put (num_put D5 my) mz, (B5.put (Int.le_refl _) (B5 z mz)).put (Int.le_refl _) (B5 y my)⟩
    rintro σ6 H6 ⟨k6, n6, rfl, a6, src6, eD6, D6, B6⟩
    refine ⟨NearI e s f d D names y z w (Z + 1) G H, ?_, ?_⟩
    · refine ⟨_, rfl, rfl, _, rfl, ite2 (fun q => ?_) (fun q => ⟨k6, n6, rfl, a6, src6, eD6, D6, B6⟩)⟩
      have hf6 := a6.get hf
      have hc6 := a6.get hc
      have lnews : 0 < news.length := by rw [ok.lns]; exact hpos
      have hn0 : (iv news)[0]? = some (.int news[0]) := by rw [List.getElem?_map, List.getElem?_eq_getElem lnews]; rfl
      have sm := news_sum (M := 1000000000000000) (ns := news) fun n hn => ⟨ok.pos n hn, ok.big n hn⟩
      have ln60 : (news.length : Int) ≤ 60 := by rw [ok.lns]; omega
      have b0 := ok.pos _ (List.getElem_mem lnews)
      have b1 := ok.big _ (List.getElem_mem lnews)
      refine ⟨_, rfl, _, rfl, f, _, 2, .ref c, rfl, rfl, .inr hf6, rfl, c, news, rfl, SqL.of hc6, 10, 17, rfl, rfl, ⟨by decide, by decide, by decide⟩, _, rfl, f, _, 2, .ref c, rfl, rfl, .inr hf6, rfl, c, iv news, 0, .int news[0], rfl, rfl, .inl hc6, atI_nat hn0, by show 4 ≤ sizeLine; decide, fun p hp => ?_⟩
      have a7 := a6.hid1 (o := .lst [.int 0, .int news.sum, .int (10 ^ (17 : Int).toNat), .int news[0]]) hp
      have I6 : SrcAt e s G H6 := I.step a6 src6
      have eD7 := (upd_ne (H := H6) (o := .lst [.int 0, .int news.sum, .int (10 ^ (17 : Int).toNat), .int news[0]]) (ne_of_none eD6 hp)).trans eD6
      have src7 : Src s (upd H6 p (.lst [.int 0, .int news.sum, .int (10 ^ (17 : Int).toNat), .int news[0]])) := src6.same (same_new hp)
      have I7 := I.step a7 src7
      have ep : upd H6 p (.lst [.int 0, .int news.sum, .int (10 ^ (17 : Int).toNat), .int news[0]]) p = some (.lst [.int 0, .int news.sum, .int (10 ^ (17 : Int).toNat), .int news[0]]) := upd_same
      generalize upd H6 p (.lst [.int 0, .int news.sum, .int (10 ^ (17 : Int).toNat), .int news[0]]) = H7 at *
      refine ⟨s, p, _, G, rfl, I7, .inl ep, fun z => I6.ne (by rw [← z]; exact hp), by simp, by show 4 ≤ 1000000000; decide, fun x H8 hx st8 src8 => ?_⟩
      have hx2 : ∃ v : Int, x = .int v ∧ 0 ≤ v ∧ v ≤ Z + 1 := by
        simp only [List.mem_cons, List.not_mem_nil, or_false] at hx
        rcases hx with rfl | rfl | rfl | rfl
        · exact ⟨0, rfl, by omega, by omega⟩
        · refine ⟨_, rfl, sm.1, ?_⟩
          have := Int.mul_le_mul_of_nonneg_right ln60 (show (0 : Int) ≤ 1000000000000000 by decide)
          omega
        · exact ⟨_, rfl, by decide, by have : (10 : Int) ^ (17 : Int).toNat = 100000000000000000 := by decide
                                       omega⟩
        · exact ⟨_, rfl, by omega, by omega⟩
      obtain ⟨v, rfl, hv0, hv1⟩ := hx2
      have eD8 : H8 D = some (.dK k6) := st8.fr _ _ eD7 nsD.symm noTbl_dK
      refine ⟨_, rfl, _, rfl, D, _, rfl, DPut.k (k := Sum.inr y) eD8 (lk D6), ?_⟩
      exact ⟨_, _, rfl, wr (a7.trans st8) eD8, sr src8, upd_same, num_put D6 my, B6.put (Int.le_refl _) ⟨hv0, hv1⟩⟩
    rintro σ7 H7 ⟨k7, n7, rfl, a7, src7, eD7, D7, B7⟩
    refine ⟨NearI e s f d D names y z w (Z + 2) G H, ?_, ?_⟩
    · refine ⟨_, rfl, rfl, _, rfl, ite2 (fun q => ?_) (fun q => ⟨k7, n7, rfl, a7, src7, eD7, D7, fun y hy => by have := B7 y hy; omega⟩)⟩
      have by7 := B7 y my
      have bz7 := B7 z mz
      refine ⟨_, rfl, _, rfl, D, _, rfl, num_get D7 my eD7, _, _, rfl, rfl, _, rfl, _, rfl, D, _, rfl, num_get D7 mz eD7, _, _, rfl, rfl, _, _, rfl, by show 2 ≤ sizeLine; decide, fun p hp => ?_⟩
      have hmx : 0 ≤ (if n7 z - 1 > 0 then n7 z - 1 else 0) ∧ (if n7 z - 1 > 0 then n7 z - 1 else 0) ≤ Z + 2 := by split <;> omega
      generalize (if n7 z - 1 > 0 then n7 z - 1 else 0) = m at *
      have a8 := a7.hid1 (o := .tup [.int (n7 y + 1), .int m]) hp
      have eD8 : upd H7 p (.tup [.int (n7 y + 1), .int m]) D = some (.dK k7) := (upd_ne (ne_of_none eD7 hp)).trans eD7
      have src8 : Src s (upd H7 p (.tup [.int (n7 y + 1), .int m])) := src7.same (same_new hp)
      have ep : upd H7 p (.tup [.int (n7 y + 1), .int m]) p = some (.tup [.int (n7 y + 1), .int m]) := upd_same
      generalize upd H7 p (.tup [.int (n7 y + 1), .int m]) = H8 at *
      refine ⟨p, _, rfl, SqT.of ep, rfl, _, _, rfl, _, rfl, _, rfl, D, _, rfl, DPut.k (k := Sum.inr y) eD8 (lk D7), _, _, rfl, _, rfl, _, rfl, D, _, rfl, DPut.k (k := Sum.inr z) upd_same (lk (num_put D7 my)), rfl, ?_⟩
      exact ⟨_, _, rfl, wr (wr a8 eD8) upd_same, sr (sr src8), upd_same, num_put (num_put D7 my) mz, (B7.put (by omega) ⟨by omega, by omega⟩).put (Int.le_refl _) hmx⟩
    rintro σ8 H8 ⟨k8, n8, rfl, a8, src8, eD8, D8, B8⟩
    exact ⟨_, rfl, k D n8 _ H8 (a8.show hD eD8 noTbl_dK fun u q => by rw [gD] at q; cases q) src8 ⟨k8, upd_same, D8⟩ B8⟩
end
end K12

set_option maxHeartbeats 4000000
namespace K12
open PySem PySem.Spec PyProof.Rows L2 LamX NdefX
/-- the same data, with no number and no truth value in it -/
inductive Eq2 (H : Hp) : Nat → V → V → Prop where
  | flat {n : Nat} {v : V} (h : v = .non ∨ ∃ x, v = .str x) : Eq2 H n v v
  | lst {n : Nat} {a b : Addr} {xs ys : List V} (h1 : H a = some (.lst xs)) (h2 : H b = some (.lst ys)) (hl : xs.length ≤ 1000) (he : xs.length = ys.length) (all : ∀ (i : Nat) (x y : V), xs[i]? = some x → ys[i]? = some y → Eq2 H n x y) : Eq2 H (n + 1) (.ref a) (.ref b)
  | tup {n : Nat} {a b : Addr} {xs ys : List V} (h1 : H a = some (.tup xs)) (h2 : H b = some (.tup ys)) (hl : xs.length ≤ 1000) (he : xs.length = ys.length) (all : ∀ (i : Nat) (x y : V), xs[i]? = some x → ys[i]? = some y → Eq2 H n x y) : Eq2 H (n + 1) (.ref a) (.ref b)
  | dct {n : Nat} {a b : Addr} {ka kb : List (Key × V)} (h1 : H a = some (.dK ka)) (h2 : H b = some (.dK kb)) (hl : ka.length ≤ 1000) (he : ka.length = kb.length) (key : ∀ (i : Nat) (p q : Key × V), ka[i]? = some p → kb[i]? = some q → ∃ x, p.1 = Sum.inr x ∧ q.1 = Sum.inr x) (all : ∀ (i : Nat) (p q : Key × V), ka[i]? = some p → kb[i]? = some q → Eq2 H n p.2 q.2) : Eq2 H (n + 3) (.ref a) (.ref b)
theorem Eq2.same {H H' : Hp} (s : Same H H') {n : Nat} {v w : V} (h : Eq2 H n v w) : Eq2 H' n v w := by
  induction h with
  | flat h => exact .flat h
  | lst h1 h2 hl he all ih => exact .lst (s _ _ h1) (s _ _ h2) hl he ih
  | tup h1 h2 hl he all ih => exact .tup (s _ _ h1) (s _ _ h2) hl he ih
  | dct h1 h2 hl he key all ih => exact .dct (s _ _ h1) (s _ _ h2) hl he key ih
theorem items_eq2 {H : Hp} {n : Nat} {a b : Addr} {as bs : List Addr} {ka kb : List (Key × V)} (ha : H a = some (.lst (as.map V.ref))) (hb : H b = some (.lst (bs.map V.ref))) (pa : Paired (fun (t : Addr) (q : Key × V) => H t = some (.tup [kV q.1, q.2])) as ka) (pb : Paired (fun (t : Addr) (q : Key × V) => H t = some (.tup [kV q.1, q.2])) bs kb)
    (hl : ka.length ≤ 1000) (he : ka.length = kb.length) (key : ∀ (i : Nat) (p q : Key × V), ka[i]? = some p → kb[i]? = some q → ∃ x, p.1 = Sum.inr x ∧ q.1 = Sum.inr x) (all : ∀ (i : Nat) (p q : Key × V), ka[i]? = some p → kb[i]? = some q → Eq2 H n p.2 q.2) : Eq2 H (n + 2) (.ref a) (.ref b) := by
  have la := Paired.len pa
  have lb := Paired.len pb
  refine .lst ha hb (by rw [List.length_map]; omega) (by rw [List.length_map, List.length_map]; omega) fun i x y hx hy => ?_
  rw [List.getElem?_map, Option.map_eq_some_iff] at hx hy
  obtain ⟨ta, ga, rfl⟩ := hx
  obtain ⟨tb, gb, rfl⟩ := hy
  obtain ⟨p, gp, hp⟩ := Paired.getL pa ga
  obtain ⟨q, gq, hq⟩ := Paired.getL pb gb
  refine .tup hp hq (by show 2 ≤ 1000; omega) rfl fun j x y hx hy => ?_
  obtain ⟨z, e1, e2⟩ := key i p q gp gq
  match j, hx, hy with
  | 0, hx, hy =>
    cases hx; cases hy
    rw [e1, e2]
    exact .flat (.inr ⟨z, rfl⟩)
  | 1, hx, hy =>
    cases hx; cases hy
    exact all i p q gp gq
  | j + 2, hx, hy => cases hx
section
variable {e : Ev}
def spSame : Nat → Sp
  | 0 => fun _ _ _ _ => False
  | n + 1 => fun vs H Q _ => ∃ v w, vs = [v, w] ∧ Eq2 H n v w ∧ ∀ H', Same H H' → Q (.bl true) H'
theorem ok_same (t : Tx e) : ∀ n, Ok e (n + 1) "_law_same" ["_law_found", "_law_wanted"] (spSame n) := by
  intro n
  induction n with
  | zero => exact ⟨fun _ _ _ _ h => h.elim, fun _ _ _ _ _ _ _ _ _ _ _ _ _ h => h.elim⟩
  | succ n ih =>
    refine t.f_law_same.ok sc_law_same (fun vs H Q E h => ?_) (fun cdv A outer s H vs Q E hcd hr h => ?_)
    · obtain ⟨v, w, rfl, _⟩ := h; rfl
    · obtain ⟨v, w, rfl, hd, k⟩ := h
      refine ⟨_, pss_cons (ps_if (pt_val (pe_isLT (by rfl) t.n_isinstance (by rfl) t.n_list (by rfl) t.n_tuple (pv 1)))
          (pss_cons (ps_if (PW.pt (pw_or (pt_cmpR op_ne (pe_isTy (by rfl) t.n_isinstance (by rfl) t.n_list bt_list (pv 0) (by decide)) (pe_isTy (by rfl) t.n_isinstance (by rfl) t.n_list bt_list (pv 1) (by decide)) (nomark _)) (pw_or1 (pt_cmpR op_ne (pe_isTy (by rfl) t.n_isinstance (by rfl) t.n_tuple bt_tuple (pv 0) (by decide)) (pe_isTy (by rfl) t.n_isinstance (by rfl) t.n_tuple bt_tuple (pv 1) (by decide)) (nomark _))))) (pss_one (ps_ret pe_bl)) pss_nil)
          (pss_one (ps_ret (pe_and (pe_cmpR op_eq (pe_callB call_lenSq (by rfl) t.n_len bt_len (pa_cons (pv 0) pa_nil)) (pe_callB call_lenSq (by rfl) t.n_len bt_len (pa_cons (pv 1) pa_nil)) (nomark _)) (pe_one (pe_callB (cr_all rfl) (by rfl) t.n_all bt_all (pa_cons (pe_lc (own := [("_law_mine", 2), ("_law_theirs", 3)]) (g := gTup e.K 2 (gCons (gName 2) (gCons (gName 3) gNil))) (tt := tYes) rfl sc_law_same.nd (pi_zipSq (by rfl) t.n_zip (pa_cons (pv 0) (pa_cons (pv 1) pa_nil))) (blkOk_by (N := ["_law_found", "_law_wanted", "_law_mine", "_law_theirs"]) (sc := defScope s_law_same) (by decide +kernel))
            (fun _ _ _ _ _ => pg_tup (n := 2) rfl (pgs_cons (pg_name (i := 2) sc_law_same.nd rfl (Or.inl rfl) (Or.inr rfl)) (pgs_cons (pg_name (i := 3) sc_law_same.nd rfl (Or.inl rfl) (Or.inr rfl)) pgs_nil))) (fun _ _ _ _ _ => pts_nil) (fun _ _ _ _ _ => pe_call ih hr (by rfl) t.f_law_same.mg t.f_law_same.kp t.f_law_same.b .nil pass0 (pa_cons (pv 2) (pa_cons (pv 3) pa_nil)))) pa_nil))))))) pss_nil)
        (pss_cons (ps_if (pt_val (pe_isTy (by rfl) t.n_isinstance (by rfl) t.n_dict bt_dict (pv 1) (by decide)))
          (pss_one (ps_ret (pe_and (pe_isTy (by rfl) t.n_isinstance (by rfl) t.n_dict bt_dict (pv 0) (by decide)) (pe_one (pe_call ih hr (by rfl) t.f_law_same.mg t.f_law_same.kp t.f_law_same.b .nil pass0 (pa_cons (LiI.pe_listItems rfl (pv 0) (by rfl) t.n_list bt_list) (pa_cons (LiI.pe_listItems rfl (pv 1) (by rfl) t.n_list bt_list) pa_nil))))))) pss_nil)
        (pss_cons (ps_if (PW.pt (pw_or (pt_val (pe_isTy (by rfl) t.n_isinstance (by rfl) t.n_bool bt_bool (pv 1) (by decide))) (pw_or1 (pt_val (pe_isTy (by rfl) t.n_isinstance (by rfl) t.n_bool bt_bool (pv 0) (by decide)))))) (pss_one (ps_ret pe_no)) pss_nil)
        (pss_one (ps_ret (pe_and (pe_not (pe_isLTD (by rfl) t.n_isinstance (by rfl) t.n_list (by rfl) t.n_tuple (by rfl) t.n_dict (pv 0))) (pe_one (pe_cmpR op_eq (pv 0) (pv 1) (nomark _)))))))), ?_⟩
      cases hd with
      | flat h =>
        have hk : ∃ m, Kd H v m ∧ (m = "NoneType" ∨ m = "str") ∧ scal v v = true := by
          rcases h with rfl | ⟨x, rfl⟩
          · exact ⟨_, .non, .inl rfl, rfl⟩
          · exact ⟨_, .str x, .inr rfl, rfl⟩
        obtain ⟨m, kd, hm, hsc⟩ := hk
        have f1 : (isB "list" m || isB "tuple" m) = false := by rcases hm with rfl | rfl <;> decide +kernel
        have f2 : isB "dict" m = false := by rcases hm with rfl | rfl <;> decide +kernel
        have f3 : isB "bool" m = false := by rcases hm with rfl | rfl <;> decide +kernel
        have f4 : (isB "list" m || (isB "tuple" m || isB "dict" m)) = false := by rcases hm with rfl | rfl <;> decide +kernel
        refine ⟨_, rfl, m, kd, fun H2 s2 => ⟨_, rfl, iteF' f1 ?_⟩⟩
        refine ⟨_, rfl, m, kd.same s2, fun H3 s3 => ⟨_, rfl, iteF' f2 ?_⟩⟩
        have a3 := s2.trans s3
        refine ⟨_, rfl, m, kd.same a3, fun H4 s4 => ⟨_, rfl, iteF' f3 ⟨_, rfl, m, kd.same (a3.trans s4), fun H5 s5 => ⟨_, rfl, iteF' f3 ?_⟩⟩⟩⟩
        have a5 := (a3.trans s4).trans s5
        refine ⟨_, rfl, m, kd.same a5, fun H6 s6 => ⟨_, rfl, _, rfl, iteT' (show (!(isB "list" m || (isB "tuple" m || isB "dict" m))) = true by rw [f4]; rfl) ⟨_, rfl, _, rfl, hsc, ?_⟩⟩⟩
        rw [decide_eq_true rfl]
        exact k H6 (a5.trans s6)
      | @lst n a b xs ys h1 h2 hl he all =>
        refine ⟨_, rfl, "list", .lst h2, fun H2 s2 => ⟨_, rfl, iteT' (by decide +kernel) ?_⟩⟩
        refine ⟨_, rfl, "list", .lst (s2 _ _ h1), fun H3 s3 => ?_⟩
        have a3 := s2.trans s3
        refine ⟨_, rfl, "list", .lst (a3 _ _ h2), fun H4 s4 => ⟨rfl, _, rfl, iteNS rfl ?_⟩⟩
        have a4 := a3.trans s4
        refine ⟨_, rfl, "list", .lst (a4 _ _ h1), fun H5 s5 => ?_⟩
        have a5 := a4.trans s5
        refine ⟨_, rfl, "list", .lst (a5 _ _ h2), fun H6 s6 => ⟨rfl, _, rfl, iteNS rfl ?_⟩⟩
        have a6 := a5.trans s6
        have e1 := a6 _ _ h1
        have e2 := a6 _ _ h2
        refine ⟨_, rfl, a, xs, rfl, .inl e1, _, rfl, b, ys, rfl, .inl e2, rfl, _, rfl, iteT' (decide_eq_true (by rw [he])) ?_⟩
        refine ⟨_, rfl, _, rfl, a, b, xs, ys, rfl, .inl ⟨e1, e2⟩, fun J n' hn' wk D hD => ?_⟩
        have hn2 : n' = xs.length := by omega
        subst hn2
        refine lc_it wk (fun i H7 => Same H6 H7 ∧ H7 D = some (.lst ((List.replicate i true).map V.bl))) ⟨same_new hD, upd_same⟩ (fun i H7 _ ⟨s7, _⟩ => ⟨(s7 _ _ e1).trans e1.symm, (s7 _ _ e2).trans e2.symm⟩) ?_ ?_
        · rintro i u H7 H8 hi ⟨s7, d7⟩ ⟨T, x, y, rfl, hT, rfl, hx, hy⟩
          have s8 := same_new (o := .tup [x, y]) hT
          refine ⟨T, _, rfl, SqT.of upd_same, rfl, _, _, rfl, _, _, rfl, rfl, rfl, yes_ ⟨_, rfl, _, rfl, x, y, rfl, (all i x y hx hy).same ((a6.trans s7).trans s8), fun H9 s9 => ?_⟩⟩
          refine ⟨_, s9 _ _ (s8 _ _ d7), ?_, fun b o q => (upd_ne (ne_of_none q hD)).trans (s9 _ _ (s8 _ _ (s7 b o q))), ?_⟩
          · rw [List.length_map, List.length_replicate]
            exact Nat.lt_of_le_of_lt (show i ≤ 1000 by omega) (by decide)
          · rw [upd_same, List.replicate_succ', List.map_append]
            rfl
        · rintro H7 ⟨s7, d7⟩
          refine ⟨D, _, rfl, SqL.of d7, ?_⟩
          have e3 : ((List.replicate xs.length true).all id) = true := by
            rw [List.all_replicate]
            simp
          rw [e3]
          exact k H7 (a6.trans s7)
      | @tup n a b xs ys h1 h2 hl he all =>
        refine ⟨_, rfl, "tuple", .tup h2, fun H2 s2 => ⟨_, rfl, iteT' (by decide +kernel) ?_⟩⟩
        refine ⟨_, rfl, "tuple", .tup (s2 _ _ h1), fun H3 s3 => ?_⟩
        have a3 := s2.trans s3
        refine ⟨_, rfl, "tuple", .tup (a3 _ _ h2), fun H4 s4 => ⟨rfl, _, rfl, iteNS rfl ?_⟩⟩
        have a4 := a3.trans s4
        refine ⟨_, rfl, "tuple", .tup (a4 _ _ h1), fun H5 s5 => ?_⟩
        have a5 := a4.trans s5
        refine ⟨_, rfl, "tuple", .tup (a5 _ _ h2), fun H6 s6 => ⟨rfl, _, rfl, iteNS rfl ?_⟩⟩
        have a6 := a5.trans s6
        have e1 := a6 _ _ h1
        have e2 := a6 _ _ h2
        refine ⟨_, rfl, a, xs, rfl, .inr e1, _, rfl, b, ys, rfl, .inr e2, rfl, _, rfl, iteT' (decide_eq_true (by rw [he])) ?_⟩
        refine ⟨_, rfl, _, rfl, a, b, xs, ys, rfl, .inr ⟨e1, e2⟩, fun J n' hn' wk D hD => ?_⟩
        have hn2 : n' = xs.length := by omega
        subst hn2
        refine lc_it wk (fun i H7 => Same H6 H7 ∧ H7 D = some (.lst ((List.replicate i true).map V.bl))) ⟨same_new hD, upd_same⟩ (fun i H7 _ ⟨s7, _⟩ => ⟨(s7 _ _ e1).trans e1.symm, (s7 _ _ e2).trans e2.symm⟩) ?_ ?_
        · rintro i u H7 H8 hi ⟨s7, d7⟩ ⟨T, x, y, rfl, hT, rfl, hx, hy⟩
          have s8 := same_new (o := .tup [x, y]) hT
          refine ⟨T, _, rfl, SqT.of upd_same, rfl, _, _, rfl, _, _, rfl, rfl, rfl, yes_ ⟨_, rfl, _, rfl, x, y, rfl, (all i x y hx hy).same ((a6.trans s7).trans s8), fun H9 s9 => ?_⟩⟩
          refine ⟨_, s9 _ _ (s8 _ _ d7), ?_, fun b o q => (upd_ne (ne_of_none q hD)).trans (s9 _ _ (s8 _ _ (s7 b o q))), ?_⟩
          · rw [List.length_map, List.length_replicate]
            exact Nat.lt_of_le_of_lt (show i ≤ 1000 by omega) (by decide)
          · rw [upd_same, List.replicate_succ', List.map_append]
            rfl
        · rintro H7 ⟨s7, d7⟩
          refine ⟨D, _, rfl, SqL.of d7, ?_⟩
          have e3 : ((List.replicate xs.length true).all id) = true := by
            rw [List.all_replicate]
            simp
          rw [e3]
          exact k H7 (a6.trans s7)
      | @dct n a b ka kb h1 h2 hl he key all =>
        refine ⟨_, rfl, "dict", .dK h2, fun H2 s2 => ⟨_, rfl, iteF' (by decide +kernel) ?_⟩⟩
        refine ⟨_, rfl, "dict", .dK (s2 _ _ h2), fun H3 s3 => ⟨_, rfl, iteT' (by decide +kernel) ?_⟩⟩
        have a3 := s2.trans s3
        refine ⟨_, rfl, "dict", .dK (a3 _ _ h1), fun H4 s4 => ⟨_, rfl, iteT' (by decide +kernel) ?_⟩⟩
        have a4 := a3.trans s4
        refine ⟨_, rfl, a, ka, rfl, a4 _ _ h1, fun H5 l1 as s5 hl1 ha1 hn1 hx1 hP1 => ?_⟩
        have a5 := a4.trans s5
        refine ⟨_, rfl, b, kb, rfl, a5 _ _ h2, fun H6 l2 bs s6 hl2 ha2 hn2 hx2 hP2 => ?_⟩
        refine ⟨.ref l1, .ref l2, rfl, items_eq2 (s6 _ _ hx1) hx2 (Paired.mapP hP1 fun _ _ h => s6 _ _ h) hP2 hl he key fun i p q hp hq => (all i p q hp hq).same (a5.trans s6), fun H7 s7 => ?_⟩
        exact k H7 ((a5.trans s6).trans s7)
end
end K12

set_option maxHeartbeats 4000000
namespace K12
open PySem PySem.Spec PyProof.Rows L2 LamX NdefX
theorem ledg_nn {names : List Str} {ties : List (Str × Str)} {own : Str → Int} {s : Str → List Str} (v : Vil names ties own) (h : IsSl names ties s) {x : Str} (hx : x ∈ names) : 0 ≤ ledg names own s x := by
  unfold ledg
  have h1 := v.pos x hx
  have h2 := sum_nonneg (l := (s x).map fun f => gift names own s f x) fun z hz => by
    obtain ⟨f, hf, rfl⟩ := List.mem_map.mp hz
    obtain ⟨f1, f2⟩ := h.sym hx hf
    have := IsGift.pos v h (gift_is v.tree h) f1 f2
    omega
  omega
theorem FOk.vil {names : List Str} {ties : List (Str × Str)} {news : List Int} {most : Nat} (ok : FOk names ties news most) : Vil names ties (ownOf names news) := vil_of ok.tree ok.pos ok.lns
theorem FOk.vl {e : Ev} {G H : Hp} {v d : Addr} {names : List Str} {ties : List (Str × Str)} {news : List Int} {most : Nat} {num : Str → Int} (ok : FOk names ties news most) (hm : most ≤ 100) (wd : Wd e.T G H) (hv : VAt e.CV G v names ties news) (hd : NumP G d names num) (hn : ∀ y ∈ names, 0 ≤ num y) : VL e G H v d names ties news num :=
  ⟨wd, hv, ok.tree, Nat.le_trans ok.len hm, ok.pos, ok.lns, hd, hn⟩
theorem sl_eq2 {G H : Hp} {a b : Addr} {names : List Str} {s s' : Str → List Str} (up : ∀ b o, G b = some o → H b = some o) (h : SlAt G a names s) (h' : SlAt G b names s') (q : ∀ x ∈ names, s x = s' x) (hl : names.length ≤ 1000) (hs : ∀ x ∈ names, (s x).length ≤ 1000) : Eq2 H 4 (.ref a) (.ref b) := by
  obtain ⟨ka, a1, a2⟩ := h
  obtain ⟨kb, b1, b2⟩ := h'
  have la := a2.len
  have lb := b2.len
  refine .dct (n := 1) (up _ _ a1) (up _ _ b1) (by omega) (by omega) (fun i p r hp hr => ?_) fun i p r hp hr => ?_
  all_goals
    obtain ⟨x, hx, e1, pa, rfl', ga⟩ := Paired.getL a2 hp
    obtain ⟨y, hy, e2, pb, rfl2, gb⟩ := Paired.getL b2 hr
    have exy : x = y := by rw [hx] at hy; exact Option.some.inj hy
    subst exy
    have mx := List.mem_of_getElem? hx
  · exact ⟨x, e1, e2⟩
  · rw [rfl', rfl2]
    rw [← q x mx] at gb
    refine .lst (up _ _ ga) (up _ _ gb) (by rw [List.length_map]; exact hs x mx) rfl fun j u w hu hw => ?_
    rw [hu] at hw
    cases hw
    obtain ⟨z, _, rfl⟩ := sv_get hu
    exact .flat (.inr ⟨z, rfl⟩)
theorem eq2_one {H : Hp} {n : Nat} {a b : Addr} {v w : V} (ha : H a = some (.lst [v])) (hb : H b = some (.lst [w])) (h : Eq2 H n v w) : Eq2 H (n + 1) (.ref a) (.ref b) :=
  .lst ha hb (by show 1 ≤ 1000; omega) rfl fun i x y hx hy => by
    match i, hx, hy with
    | 0, hx, hy => cases hx; cases hy; exact h
    | i + 1, hx, hy => cases hx
theorem eq2_two {H : Hp} {n : Nat} {a b : Addr} {v v' w w' : V} (ha : H a = some (.lst [v, v'])) (hb : H b = some (.lst [w, w'])) (h : Eq2 H n v w) (h' : Eq2 H n v' w') : Eq2 H (n + 1) (.ref a) (.ref b) :=
  .lst ha hb (by show 2 ≤ 1000; omega) rfl fun i x y hx hy => by
    match i, hx, hy with
    | 0, hx, hy => cases hx; cases hy; exact h
    | 1, hx, hy => cases hx; cases hy; exact h'
    | i + 2, hx, hy => cases hx
theorem sl_len {names : List Str} {ties : List (Str × Str)} {s : Str → List Str} (h : IsSl names ties s) {x : Str} (hx : x ∈ names) : (s x).length ≤ names.length := by
  rw [(h x hx).length_eq]
  exact List.length_filter_le _ _
section
variable {e : Ev}
theorem ok_back_right (t : Tx e) : Ok e 123 "_law_back_right" ["_law_source_here", "_law_form"] (fun vs H Q _ => ∃ s f names ties news most G, vs = [.ref s, .ref f] ∧ SrcAt e s G H ∧ FormAt G f names ties news ∧ FOk names ties news most ∧ most ≤ 60 ∧
    ∀ G' H', Step e.T (OnS s) G H G' H' → Src s H' → Q (.bl true) H') := by
  refine t.f_law_back_right.ok sc_law_back_right (fun vs H Q E h => ?_) (fun cdv A outer s H vs Q E hcd hr h => ?_)
  · obtain ⟨s, f, names, ties, news, most, G, rfl, _⟩ := h; rfl
  · obtain ⟨s, f, names, ties, news, most, G, rfl, I, F, ok, hm, k⟩ := h
    have nd := ok.tree.nodup
    have hl : names.length ≤ 60 := Nat.le_trans ok.len hm
    refine ⟨_, pss_cons (ps_par (i := 2) (j := 3) rfl sc_law_back_right.nd rfl rfl (by decide) rfl rfl (pa_cons (pe_call (ok_v_slates t) (hr.mono (by decide)) (by rfl) t.f_law_v_slates.mg t.f_law_v_slates.kp t.f_law_v_slates.b .nil pass0 (pa_cons (pv 0) (pa_cons (pv 1) pa_nil))) (pa_cons (pe_call (ok_v_made t) (hr.mono (by decide)) (by rfl) t.f_law_v_made.mg t.f_law_v_made.kp t.f_law_v_made.b .nil pass0 (pa_cons (pv 0) (pa_cons (pv 1) pa_nil))) pa_nil)) (by rfl))
      (pss_cons (ps_set (i := 4) sc_law_back_right.nd rfl (.inl rfl) (pe_call (ok_v_handed t) (hr.mono (by decide)) (by rfl) t.f_law_v_handed.mg t.f_law_v_handed.kp t.f_law_v_handed.b .nil pass0 (pa_cons (pv 0) (pa_cons (pe_call (ok_v_ledger t) hr (by rfl) t.f_law_v_ledger.mg t.f_law_v_ledger.kp t.f_law_v_ledger.b .nil pass0 (pa_cons (pv 1) (pa_cons (pv 2) pa_nil))) pa_nil))))
      (pss_one (ps_ret (pe_call (ok_same t 6) (hr.mono (by decide)) (by rfl) t.f_law_same.mg t.f_law_same.kp t.f_law_same.b .nil pass0 (pa_cons (pe_lst (pa_cons (pe_call (ok_slates_of_ledger t) (hr.mono (by decide)) (by rfl) t.f_slates_of_ledger.mg t.f_slates_of_ledger.kp t.f_slates_of_ledger.b .nil pass0 (pa_cons (pv 3) (pa_cons (pv 4) pa_nil))) (pa_cons (pe_call (ok_ledger_break t) (hr.mono (by decide)) (by rfl) t.f_ledger_break.mg t.f_ledger_break.kp t.f_ledger_break.b .nil pass0 (pa_cons (pv 3) (pa_cons (pv 4) pa_nil))) pa_nil))) (pa_cons (pe_lst (pa_cons (pv 2) (pa_cons pe_non pa_nil))) pa_nil)))))), ?_⟩
    refine ⟨_, rfl, _, rfl, s, f, names, ties, news, most, G, rfl, I, F, ok, by omega, fun d sl G1 H1 st1 src1 hd isl => ?_⟩
    have I1 := I.step st1 src1
    refine ⟨_, rfl, _, rfl, s, f, names, ties, news, most, G1, rfl, I1, F.up st1.up, ok, by omega, fun v G2 H2 st2 src2 hv => ⟨_, _, rfl, ?_⟩⟩
    have I2 := I1.step st2 src2
    have a2 := st1.trans st2
    refine ⟨_, rfl, _, rfl, _, rfl, f, d, names, ties, news, most, sl, G2, rfl, I2.wd, F.up a2.up, ok, hm, hd.up st2.up, isl, fun q G3 H3 st3 hq => ?_⟩
    have I3 := I2.no st3
    have a3 := a2.trans st3.no
    refine ⟨s, q, names, _, G3, rfl, I3, NumP.at hq, nd, by omega, fun g G4 H4 st4 src4 hg => ?_⟩
    have I4 := I3.step st4 src4
    have a4 := a3.trans st4
    have good : Good names ties (ownOf names news) (ledg names (ownOf names news) sl) sl := ⟨isl, fun _ _ => rfl⟩
    refine ⟨_, rfl, _, rfl, v, g, names, ties, news, _, G4, rfl, ok.vl (by omega) I4.wd (hv.up fun b o h => st4.up _ _ (st3.up _ _ h)) hg (fun y hy => ledg_nn ok.vil isl hy), fun G5 H5 a b st5 w5 => ?_⟩
    have I5 := I4.no st5
    have a5 := a4.trans st5.no
    refine ⟨_, rfl, _, rfl, v, g, names, ties, news, _, G5, rfl, ok.vl (by omega) I5.wd (hv.up fun b o h => st5.up _ _ (st4.up _ _ (st3.up _ _ h))) (hg.up st5.up) (fun y hy => ledg_nn ok.vil isl hy), fun G6 H6 a' b' st6 w6 => ?_⟩
    have a6 := a5.trans st6.no
    have I6 := I5.no st6
    have w5' : ∃ s d', Good names ties (ownOf names news) (ledg names (ownOf names news) sl) s ∧ a = .ref d' ∧ SlAt G5 d' names s := by
      rcases w5 with ⟨s, d', h1, h2, h3, _⟩ | ⟨h, _⟩
      · exact ⟨s, d', h1, h2, h3.sl⟩
      · exact absurd good (h sl)
    have w6' : b' = .non := by
      rcases w6 with ⟨_, _, _, _, _, h⟩ | ⟨h, _⟩
      · exact h
      · exact absurd good (h sl)
    obtain ⟨s', d', g', rfl, hd'⟩ := w5'
    subst w6'
    refine ⟨by show 2 ≤ sizeLine; decide, fun p1 hp1 => ⟨_, rfl, by show 2 ≤ sizeLine; decide, fun p2 hp2 => ?_⟩⟩
    have s1 := same_new (o := .lst [.ref d', .non]) hp1
    have s2 := same_new (o := .lst [.ref d, .non]) hp2
    have s12 := s1.trans s2
    refine ⟨.ref p1, .ref p2, rfl, eq2_two (s2 _ _ upd_same) upd_same ((sl_eq2 (G := G6) (H := H6) I6.wd.sub (hd'.up st6.up) (hd.up fun b o h => st6.up _ _ (st5.up _ _ (st4.up _ _ (st3.up _ _ (st2.up _ _ h))))) (Good.uniq ok.vil g' good) (by omega) fun x hx => Nat.le_trans (sl_len g'.1 hx) (by omega)).same s12) (.flat (.inl rfl)), fun H7 s7 => ?_⟩
    exact k G6 H7 (a6.trans (Step.same I6.wd (s12.trans s7))) (I6.src.same (s12.trans s7))
end
end K12

set_option maxHeartbeats 4000000
/-! repr of a dict whatever reprs are under way: where its own is, the text is short. -/
namespace K12
open PySem PySem.Spec PyProof.Rows L2 LamX NdefX
/-- whether a repr of the dict at a is under way -/
def under (g : List Code) (a : Addr) : Bool := g.any fun c => dictGuardF (.ref a) (c, default)
def reprD (g : List Code) (a : Addr) (ps : List Str) : Str := if under g a = true then "{...}" else dictText ps
/-- the entries' texts, each of its own -/
def EntIs (P : Program) (w : World) (es : Array DictEntry) (ps : List Str) : Prop :=
  ps.length = es.size ∧ ∀ (i : Nat) (en : DictEntry), es[i]? = some en → ∃ k v : Str, ps[i]? = some (k ++ ": " ++ v) ∧ ReprIs P w en.key k ∧ ReprIs P w en.val v
theorem own_repr {P : Program} {w : World} {A : Around} {g : List Code} {s : Shared} {a : Addr} {o : Obj} {es : Array DictEntry} {n : Nat} {ps : List Str} {R : Result → Shared → Prop} {id : String} {rest : List Value}
    (ho : s.heap.get? a = some o) (hcl : o.cls = .type "dict") (hda : o.data = .dict es n) (hsys : (a == sysModules) = false) (hE : EntIs P w es ps) (hg : A.guards = some g) (hsz : (dictText ps).length ≤ sizeLine)
    (hR : ∀ u tk, R (.ok (.ret (.str (reprD g a ps) u))) { s with toks := tk }) :
    wpOwn (model P w) A (.builtin id ⟨.ref a :: rest, []⟩) (Builtin.dictReprAt 0 ⟨[.ref a], []⟩) (fun fin s1 => match fin with | .done f => R (.ok f) s1 | .again c1 => c1.quiet = true ∧ codeAny (model P w) A c1 R s1) (fun x s1 => R (.error x) s1) s := by
  have ty : s.TypeIs (.ref a) "dict" := ⟨o, ho, hcl⟩
  obtain ⟨hlen, hit⟩ := hE
  have small := piled_le_dictText ps
  unfold Builtin.dictReprAt
  refine wpOwn_bind (wpOwn_of_wpAny ?_)
  unfold Builtin.Dict.dictSlotNone
  refine wpAny_bind (wpAny_notOrdered_dict ty ?_)
  show wpAny _ _ (pure (Value.ref a)) _ _ s
  refine wpAny_pure ?_
  rw [dictReprRunning_eq]
  refine wpOwn_bind (wpOwn_stackTailAny hg (dictGuardF_off _) (dictGuardF_pos _) ?_)
  show wpOwn (model P w) A _ (if (under g a) = true then _ else _) _ _ s
  unfold reprD at hR
  cases hu : under g a with
  | true =>
    rw [if_pos rfl]
    refine wpOwn_of_wpAny ?_
    show wpAny _ _ ((PySem.retStr "{...}" : Sem Fin) >>= _) _ _ s
    have e1 := hR s.toks (s.toks + 1)
    rw [hu, if_pos rfl] at e1
    exact wpAny_bind (wpAny_bind (wpAny_mkStr (wpAny_pure (wpAny_pure e1)) (by decide +kernel)))
  | false =>
    rw [if_neg Bool.false_ne_true]
    refine wpOwn_of_wpAny ?_
    show wpAny _ _ (Builtin.Dict.addrOf (.ref a) >>= _) _ _ s
    refine wpAny_bind (wpAny_pure ?_)
    unfold Builtin.Dict.showsAll
    rw [if_neg (by rw [hsys]; exact Bool.false_ne_true)]
    refine wpAny_bind (wpAny_pure (wpAny_bind (wpAny_dictEpoch ho hda (wpAny_bind (wpAny_dictEntries ho hda (wpAny_bind ?_))))))
    rw [Std.Legacy.Range.forIn_eq_forIn_range']
    simp only [Std.Legacy.Range.size, Nat.sub_zero, Nat.add_sub_cancel, Nat.div_one]
    refine wpAny_forIn_list _ (fun l r s1 => ∃ i tk, i ≤ es.size ∧ l = List.range' i (es.size - i) ∧ r = (⟨(ps.take i).toArray, 0 + piled (ps.take i)⟩ : (Array Str × Nat)) ∧ s1 = { s with toks := tk }) _ ?_ ?_ _ _ ⟨0, s.toks, Nat.zero_le _, by simp, by simp [piled], rfl⟩
    · rintro x l _ s1 ⟨i, tk, hi, hr, rfl, rfl⟩
      have hlt : i < es.size := by
        by_cases q : i < es.size
        · exact q
        · rw [show es.size - i = 0 by omega] at hr
          cases hr
      rw [show es.size - i = (es.size - (i + 1)) + 1 by omega, List.range'_succ] at hr
      obtain ⟨rfl, rfl⟩ := List.cons.inj hr
      obtain ⟨k, v, hp, rk, rv⟩ := hit x es[x] (Array.getElem?_eq_getElem hlt)
      have lkv : (k ++ ": " ++ v).length = k.length + 2 + v.length := by
        rw [strLen_append, strLen_append]
        rfl
      have g1 := piled_take_succ hp
      have g2 := piled_take_le ps (x + 1)
      rw [lkv] at g1
      refine wpAny_bind (wpAny_dictEntries ho hda ?_)
      rw [Array.getElem?_eq_getElem hlt]
      refine wpAny_bind (wpAny_holding (wpAny_bind (rk _ (by omega) _ _ _ _ fun t1 => wpAny_bind (rv _ (by omega) _ _ _ _ fun t2 => wpAny_pure ?_))))
      refine wpAny_bind (wpAny_dictEpoch ho hda ?_)
      rw [if_neg (by simp)]
      refine wpAny_pure ⟨x + 1, t2, hlt, rfl, ?_, rfl⟩
      have e1 : (ps.take x).toArray.push (k ++ ": " ++ v) = (ps.take (x + 1)).toArray := by
        rw [List.take_add_one, hp]
        simp
      rw [e1, show 0 + piled (ps.take x) + (k.length + v.length + 4) = 0 + piled (ps.take (x + 1)) by omega]
    · rintro _ s1 ⟨i, tk, hi, hr, rfl, rfl⟩
      have hin : i = es.size := by
        by_cases q : i = es.size
        · exact q
        · rw [show es.size - i = (es.size - (i + 1)) + 1 by omega, List.range'_succ] at hr
          cases hr
      have e1 := hR tk (tk + 1)
      rw [hu, if_neg Bool.false_ne_true] at e1
      rw [hin, ← hlen, List.take_length]
      exact wpAny_bind (wpAny_mkStr (wpAny_pure (by simpa [dictText] using e1)) (by simpa [dictText] using hsz))
theorem prs_at {P : Program} {w : World} {es : List DictEntry} {vs : List (Key × Value)} (p : Pairs (mixKind P w) es vs) : ∀ {i : Nat} {en : DictEntry}, es[i]? = some en → ∃ kv, vs[i]? = some kv ∧ keyIs kv.1 en.key = true ∧ en.val = kv.2 := by
  induction p with
  | nil => intro i en h; cases h
  | @cons e0 kv0 _ _ h1 h2 _ ih =>
    intro i en h
    cases i with
    | zero => cases h; exact ⟨_, rfl, h1, h2⟩
    | succ i => exact ih h
theorem prs_len {P : Program} {w : World} {es : List DictEntry} {vs : List (Key × Value)} (p : Pairs (mixKind P w) es vs) : es.length = vs.length := by
  induction p with
  | nil => rfl
  | cons _ _ _ ih => simp [ih]
def dTexts (perm : List Str) (num : Str → Int) : List Str := perm.map fun y => reprText y ++ ": " ++ (toString (num y) : String)
theorem ent_is {P : Program} {w : World} {es : Array DictEntry} {kvs : List (Key × V)} {vs : List (Key × Value)} {perm : List Str} {num : Str → Int} (D : Dic kvs perm (fun y v => v = .int (num y))) (r : KV kvs vs) (p : Pairs (mixKind P w) es.toList vs)
    (hn : ∀ y ∈ perm, (reprText y).length ≤ sizeLine ∧ (num y).natAbs.log2 < 1920) : EntIs P w es (dTexts perm num) := by
  have l1 : es.size = vs.length := by rw [← prs_len p]; simp
  have l2 : kvs.length = vs.length := Paired.length r
  refine ⟨by unfold dTexts; rw [List.length_map, l1, ← l2, D.len], fun i en h => ?_⟩
  obtain ⟨kv, h1, h2, h3⟩ := prs_at p (i := i) (en := en) (by rw [Array.getElem?_toList]; exact h)
  have hi : i < kvs.length := by rw [l2]; exact (List.getElem?_eq_some_iff.mp h1).1
  obtain ⟨q, q1, q2, q3⟩ := kv_get r (List.getElem?_eq_getElem hi)
  rw [h1] at q1
  cases q1
  obtain ⟨y, hy, e1, e2⟩ := Paired.getL D (List.getElem?_eq_getElem hi)
  have my := List.mem_of_getElem? hy
  rw [e2] at q3
  obtain ⟨t, ht⟩ := q3
  rw [← q2, e1] at h2
  rcases keyIs_shape h2 with ⟨_, _, z, _⟩ | ⟨x, t2, z1, z2⟩
  · cases z
  · cases z1
    refine ⟨reprText y, (toString (num y) : String), ?_, ?_, ?_⟩
    · unfold dTexts
      rw [List.getElem?_map, hy]
      rfl
    · rw [z2]
      exact .str _ _ (hn y my).1
    · rw [h3, ht]
      exact .int _ (hn y my).2
section
variable {X : Cx}
/-- repr(d), d a dict of numbers, g: the guards about -/
def rRepr (g : List Code) : List V → Hp → VK → Prop := fun xs H Q => ∃ a kvs perm num, xs = [.ref a] ∧ H a = some (.dK kvs) ∧ Dic kvs perm (fun y v => v = .int (num y)) ∧ (∀ y ∈ perm, (reprText y).length ≤ sizeLine ∧ (num y).natAbs.log2 < 1920) ∧ (dictText (dTexts perm num)).length ≤ sizeLine ∧ Q (.str (reprD g a (dTexts perm num))) H
theorem call_reprD {g : List Code} (hg : X.A.guards = some g) (hu : X.A.units + 1 < cLine) : CallR X (.builtin "repr") (rRepr g) := by
  intro pins s σ H xs us Q I r h
  obtain ⟨a, kvs, perm, num, ex, hk, D, hn, hsz, q⟩ := h
  subst ex
  obtain ⟨u, eu, rx⟩ := vals1 r
  subst eu
  obtain rfl : u = Value.ref a := rx
  obtain ⟨_, lo, vs, rk, o, es, ep, ho, ⟨hc, _⟩, hd, _, hp, _⟩ := (show ObjOk X.prog X.w H s.heap a (.dK kvs) from I.hok a _ hk)
  refine call_repr_slot hu ⟨o, ho, hc⟩ PySem.F.slot_dict_repr ?_
  refine wpAny_call (codeAny_call_builtin_own (Code.quiet_builtin _ (by decide +kernel)) PySem.F.entry_dict_repr (PySem.F.slot_dict_repr.check _ _ _ _ _ _ _ _ ⟨o, ho, hc⟩ (PySem.F.args_dict_repr_1 _) ?_))
  refine own_repr (R := callEnd _ _) ho hc hd lo (ent_is D rk hp hn) hg hsz fun u tk => ?_
  exact ⟨_, _, rfl, .str (reprD g a (dTexts perm num)), H, I.tok _, ⟨_, rfl⟩, q⟩
end
end K12

set_option maxHeartbeats 4000000
namespace K12
open PySem PySem.Spec PyProof.Rows L2 LamX NdefX
/-- as DefQ.ok; the guards about are known -/
theorem DefQ.okG {e : Ev} {x f q : Str} {st : Stmt} {ps N : List Str} {k : Nat} {sp : Sp} (d : DefQ e x f q st ps) (S : FnScope N ps (defScope st)) (len : ∀ vs H Q E, sp vs H Q E → vs.length = ps.length)
    (hbody : ∀ (cdv : Value) (A : Around) (g : List Code) (outer : List Env) (s : Shared) (H : Hp) (vs : List V) (Q : VK) (E : XK), A.guards = some g → cdv = (e.D x).code → Room k (A.deeper (envOfC q (defScope st) s.heap.objs.size (e.A x) cdv)) → sp vs H Q E →
      ∃ t, PSs (cxOf CX0 e.P e.w e.K e.mg e.base N q (defScope st) (e.A x) cdv A outer s H E).nox (defBody st) t ∧ t { nx := fun _ H' => Q .non H', rt := Q } (start N vs) H) : Ok e (k + 1) x ps sp := by
  obtain ⟨oc, od, dV, kV, doc, pm, an, cdv, ct, osl, hfd, lk, hcd, _, _⟩ := d.F.ex
  have hb := hbody
  unfold Ok
  rw [hfd] at lk hb ⊢
  refine ⟨len, fun A outer s H args us vs Q E hr e0 hbi r hsp => ?_⟩
  intro Γ p hc hΓ
  refine run_ofS (A := { A with guards := some (guardsOf Γ.below) }) lk hcd S ⟨hr.hd, hr.dp, hr.un⟩ ⟨e0.frames, e0.mod, e0.bs, e0.bsz, e0.funs, e0.frf, e0.hok, e0.bare⟩ hbi r (len _ _ _ _ hsp) (fun room => ?_) Γ p hc ⟨hΓ.1, hΓ.2.1, hΓ.2.2.1, fun g hg => by cases hg; rfl, hΓ.2.2.2.2⟩
  obtain ⟨t, h, q⟩ := hb cdv _ _ outer s H vs Q E rfl rfl room hsp
  exact ⟨t, h.nox, q⟩
theorem guards_cx {e : Ev} {N : List Str} {q : Str} {sc : Scope} {a : Addr} {cdv : Value} {A : Around} {outer : List Env} {s : Shared} {H : Hp} {E : XK} {g : List Code} (h : A.guards = some g) : ((cxOf CX0 e.P e.w e.K e.mg e.base N q sc a cdv A outer s H E).nox).A.guards = some g := h
end K12

set_option maxHeartbeats 4000000
namespace K12
open PySem PySem.Spec PyProof.Rows L2 LamX NdefX
variable {names : List Str} {ties : List (Str × Str)} {own num : Str → Int}
theorem sum_le5 {M : Int} (hM : 0 ≤ M) : ∀ {l : List Int} {k : Nat}, l.length ≤ k → (∀ z ∈ l, z ≤ M) → l.sum ≤ k * M
  | [], k, _, _ => by simpa using Int.mul_nonneg (Int.natCast_nonneg k) hM
  | z :: r, 0, h, _ => by simp at h
  | z :: r, k + 1, h, q => by
    have h1 := q z (by simp)
    have h2 := sum_le5 hM (l := r) (k := k) (by simpa using h) fun y hy => q y (by simp [hy])
    rw [List.sum_cons]
    have : ((k + 1 : Nat) : Int) * M = k * M + M := by rw [Int.natCast_add, Int.add_mul]; simp
    omega
theorem pow6 {n m : Nat} (h : n ≤ m) : (6 : Int) ^ n ≤ 6 ^ m := by
  induction h with
  | refl => exact Int.le_refl _
  | @step m _ ih =>
    have : (0 : Int) < 6 ^ m := Int.pow_pos (by decide)
    rw [Int.pow_succ]
    omega
theorem giftF_le {s : Str → List Str} {M : Int} (hM : 0 ≤ M) (ho : ∀ x ∈ names, own x ≤ M) (tr : IsTree names ties) (isl : IsSl names ties s) (hl : names.length ≤ 5) : ∀ (n : Nat) (x y : Str), x ∈ names → giftF own s n x y ≤ M * 6 ^ n
  | 0, x, y, _ => by show (0 : Int) ≤ M * 6 ^ 0; omega
  | n + 1, x, y, hx => by
    have hp : (0 : Int) ≤ M * 6 ^ n := Int.mul_nonneg hM (Int.pow_nonneg (by decide))
    have h1 := ho x hx
    have h2 := sum_le5 hp (l := (ahead (s x) y).map fun f => giftF own s n f x) (k := 5) (by
      rw [List.length_map]
      unfold ahead
      rw [List.length_take]
      have := sl_len isl hx
      omega) fun z hz => by
        obtain ⟨f, hf, rfl⟩ := List.mem_map.mp hz
        unfold ahead at hf
        exact giftF_le hM ho tr isl hl n f x (isl.sym hx (List.mem_of_mem_take hf)).1
    have h3 : M ≤ M * 6 ^ n := by
      have : (1 : Int) ≤ 6 ^ n := show (0 : Int) < 6 ^ n from Int.pow_pos (by decide)
      calc M = M * 1 := by simp
        _ ≤ M * 6 ^ n := Int.mul_le_mul_of_nonneg_left this hM
    have e : M * 6 ^ (n + 1) = 6 * (M * 6 ^ n) := by rw [Int.pow_succ, ← Int.mul_assoc, Int.mul_comm]
    rw [e]
    show own x + _ ≤ _
    omega
theorem ledg_bnd {s : Str → List Str} {M : Int} (hM : 0 ≤ M) (v : Vil names ties own) (ho : ∀ x ∈ names, own x ≤ M) (isl : IsSl names ties s) (hl : names.length ≤ 5) : Bnd names (ledg names own s) (M * 6 ^ 11) := fun x hx => by
  refine ⟨ledg_nn v isl hx, ?_⟩
  have hp : (0 : Int) ≤ M * 6 ^ 10 := Int.mul_nonneg hM (Int.pow_nonneg (by decide))
  have hq : M * 6 ^ (2 * names.length) ≤ M * 6 ^ 10 := Int.mul_le_mul_of_nonneg_left (pow6 (by omega)) hM
  have h2 := sum_le5 hp (l := (s x).map fun f => gift names own s f x) (k := 5) (by
    rw [List.length_map]
    have := sl_len isl hx
    omega) fun z hz => by
      obtain ⟨f, hf, rfl⟩ := List.mem_map.mp hz
      exact Int.le_trans (giftF_le hM ho v.tree isl hl _ f x (isl.sym hx hf).1) hq
  have h1 := ho x hx
  unfold ledg
  omega
theorem giftF_congr {s s' : Str → List Str} (isl : IsSl names ties s) (h : ∀ x ∈ names, s x = s' x) : ∀ (n : Nat) (x y : Str), x ∈ names → giftF own s n x y = giftF own s' n x y
  | 0, _, _, _ => rfl
  | n + 1, x, y, hx => by
    simp only [giftF]
    rw [← h x hx]
    congr 1
    refine msum_congr fun f hf => ?_
    unfold ahead at hf
    exact giftF_congr isl h n f x (isl.sym hx (List.mem_of_mem_take hf)).1
theorem ledg_congr {s s' : Str → List Str} (isl : IsSl names ties s) (h : ∀ x ∈ names, s x = s' x) {x : Str} (hx : x ∈ names) : ledg names own s x = ledg names own s' x := by
  unfold ledg
  rw [← h x hx]
  congr 1
  refine msum_congr fun f hf => ?_
  exact giftF_congr isl h _ f x (isl.sym hx hf).1
/-- a ledger as a key -/
def keyOf (names : List Str) (num : Str → Int) : List Key := names.map fun x => Sum.inl (num x)
theorem keyOf_inj {f g : Str → Int} (h : keyOf names f = keyOf names g) : ∀ x ∈ names, f x = g x := fun x hx => Sum.inl.inj (List.map_inj_left.mp h x hx)
theorem keyOf_congr {f g : Str → Int} (h : ∀ x ∈ names, f x = g x) : keyOf names f = keyOf names g := List.map_congr_left fun x hx => congrArg Sum.inl (h x hx)
/-- the ledgers with their slates -/
def KT (G : Hp) (names : List Str) (own : Str → Int) (kvs : List (List Key × V)) (ss : List (Str → List Str)) : Prop := Paired (fun (kv : List Key × V) s => kv.1 = keyOf names (ledg names own s) ∧ ∃ d, kv.2 = .ref d ∧ SlAt G d names s) kvs ss
theorem KT.up {G G' : Hp} {kvs : List (List Key × V)} {ss : List (Str → List Str)} (h : KT G names own kvs ss) (e : ∀ b o, G b = some o → G' b = some o) : KT G' names own kvs ss := Paired.mapP h fun _ _ ⟨h1, d, h2, h3⟩ => ⟨h1, d, h2, h3.up e⟩
theorem KT.get {G : Hp} {k : List Key} : ∀ {kvs : List (List Key × V)} {ss : List (Str → List Str)}, KT G names own kvs ss →
    (∃ s d, s ∈ ss ∧ keyOf names (ledg names own s) = k ∧ valV kvs k = some (.ref d) ∧ SlAt G d names s) ∨ ((∀ s ∈ ss, keyOf names (ledg names own s) ≠ k) ∧ valV kvs k = none)
  | _, _, .nil => .inr ⟨fun _ h => by simp at h, rfl⟩
  | (k0, v0) :: r, s :: ss, .cons ⟨h1, d, h2, h3⟩ t => by
    have ev : valV ((k0, v0) :: r) k = if k0 = k then some v0 else valV r k := by
      unfold valV
      rw [List.find?_cons]
      by_cases q : k0 = k
      · rw [if_pos q]; simp [q]
      · rw [if_neg q]; simp [q]
    rw [ev]
    by_cases q : k0 = k
    · rw [if_pos q]
      have h2' : v0 = .ref d := h2
      have h1' : k0 = keyOf names (ledg names own s) := h1
      exact .inl ⟨s, d, by simp, by rw [← h1', q], by rw [h2'], h3⟩
    · rw [if_neg q]
      rcases KT.get t with ⟨s', d', m, e1, e2, e3⟩ | ⟨e1, e2⟩
      · exact .inl ⟨s', d', by simp [m], e1, e2, e3⟩
      · refine .inr ⟨fun s' hs => ?_, e2⟩
        rcases List.mem_cons.mp hs with rfl | hs
        · have h1' : k0 = keyOf names (ledg names own s') := h1
          rw [← h1']; exact q
        · exact e1 s' hs
theorem KT.put {G : Hp} {kvs : List (List Key × V)} {ss : List (Str → List Str)} {s : Str → List Str} {d : Addr} (h : KT G names own kvs ss) (hn : ∀ s' ∈ ss, keyOf names (ledg names own s') ≠ keyOf names (ledg names own s)) (hd : SlAt G d names s) : KT G names own (putK kvs (keyOf names (ledg names own s)) (.ref d)) (ss ++ [s]) := by
  have e : (kvs.any fun kv => decide (kv.1 = keyOf names (ledg names own s))) = false := by
    rw [List.any_eq_false]
    intro kv hk
    obtain ⟨i, hi⟩ := List.mem_iff_getElem?.mp hk
    obtain ⟨s', hs', h1, _⟩ := Paired.getL h hi
    rw [h1, decide_eq_true_eq]
    exact hn s' (List.mem_of_getElem? hs')
  unfold putK
  rw [e]
  exact Paired.snoc (R := fun (kv : List Key × V) s => kv.1 = keyOf names (ledg names own s) ∧ ∃ d, kv.2 = .ref d ∧ SlAt G d names s) ⟨rfl, d, rfl, hd⟩ h
theorem ents_split {G : Hp} : ∀ {us : List V} {ens : List (List (Str × List Str))}, EntsAt G us ens → (∀ en ∈ ens, ∃ s, IsSl names ties s ∧ en = tab names s) →
    ∃ ss : List (Str → List Str), ens = ss.map (tab names) ∧ (∀ s ∈ ss, IsSl names ties s) ∧ Paired (fun u s => ∃ d, u = .ref d ∧ SlAt G d names s) us ss
  | _, _, .nil, _ => ⟨[], rfl, by simp, .nil⟩
  | u :: us, en :: ens, .cons h t, q => by
    obtain ⟨s, h1, h2⟩ := q en (by simp)
    obtain ⟨ss, e1, e2, e3⟩ := ents_split t fun x hx => q x (by simp [hx])
    refine ⟨s :: ss, by rw [List.map_cons, ← e1, h2], fun x hx => ?_, .cons ?_ e3⟩
    · rcases List.mem_cons.mp hx with rfl | hx
      · exact h1
      · exact e2 x hx
    · obtain ⟨d, kvs, rfl, h5, h6⟩ := id h
      rw [h2] at h
      exact ⟨d, rfl, h.slAt⟩
/-- all slates of a village, each once -/
structure AllSl (names : List Str) (ties : List (Str × Str)) (ss : List (Str → List Str)) : Prop where
  isl : ∀ s ∈ ss, IsSl names ties s
  nd : (ss.map (tab names)).Nodup
  all : ∀ s, IsSl names ties s → ∃ s' ∈ ss, ∀ x ∈ names, s' x = s x
theorem all_sl {G : Hp} {us : List V} (tr : IsTree names ties) (h : EntsAt G us (allS (frn names ties) names)) : ∃ ss, AllSl names ties ss ∧ Paired (fun u s => ∃ d, u = .ref d ∧ SlAt G d names s) us ss := by
  have A := all_ok tr.nodup (fr := frn names ties) fun x _ => frn_nodup (ties := ties) (x := x) tr.nodup
  obtain ⟨ss, e1, e2, e3⟩ := ents_split (ties := ties) (names := names) h fun en hen => by
    obtain ⟨s, h1, h2⟩ := (A.mem en).mp hen
    exact ⟨s, h1, h2⟩
  refine ⟨ss, ⟨e2, by rw [← e1]; exact A.nd, fun s hs => ?_⟩, e3⟩
  have : tab names s ∈ ss.map (tab names) := by rw [← e1]; exact (A.mem _).mpr ⟨s, hs, rfl⟩
  obtain ⟨s', m, q⟩ := List.mem_map.mp this
  exact ⟨s', m, tab_inj q⟩
theorem AllSl.new {ss : List (Str → List Str)} (A : AllSl names ties ss) (v : Vil names ties own) {i : Nat} {s : Str → List Str} (h : ss[i]? = some s) : ∀ s' ∈ ss.take i, keyOf names (ledg names own s') ≠ keyOf names (ledg names own s) := by
  intro s' hs' q
  have hk := keyOf_inj q
  have h1 := A.isl s' (List.mem_of_mem_take hs')
  have h2 := A.isl s (List.mem_of_getElem? h)
  have e := Good.uniq v (num := ledg names own s) ⟨h1, hk⟩ ⟨h2, fun _ _ => rfl⟩
  have nd := A.nd
  obtain ⟨j, hj, ej⟩ := List.mem_take_iff_getElem.mp hs'
  have hi : i < ss.length := (List.getElem?_eq_some_iff.mp h).1
  have ei : ss[i] = s := (List.getElem?_eq_some_iff.mp h).2
  have := List.pairwise_iff_getElem.mp nd j i (by rw [List.length_map]; omega) (by rw [List.length_map]; exact hi) (by omega)
  apply this
  rw [List.getElem_map, List.getElem_map, ej, ei]
  exact tab_congr e
/-- what is due: the slates that a ledger can come from, by the table -/
theorem due_is {G : Hp} {kvs : List (List Key × V)} {ss : List (Str → List Str)} (A : AllSl names ties ss) (K : KT G names own kvs ss) (num : Str → Int) :
    (∃ s d, Good names ties own num s ∧ valV kvs (keyOf names num) = some (.ref d) ∧ SlAt G d names s) ∨ ((∀ s, ¬ Good names ties own num s) ∧ valV kvs (keyOf names num) = none) := by
  rcases K.get (k := keyOf names num) with ⟨s, d, m, e1, e2, e3⟩ | ⟨e1, e2⟩
  · exact .inl ⟨s, d, ⟨A.isl s m, keyOf_inj e1⟩, e2, e3⟩
  · refine .inr ⟨fun s g => ?_, e2⟩
    obtain ⟨s', m, q⟩ := A.all s g.1
    refine e1 s' m (keyOf_congr fun x hx => ?_)
    rw [ledg_congr (A.isl s' m) q hx]
    exact g.2 x hx
end K12

set_option maxHeartbeats 4000000
namespace K12
open PySem PySem.Spec PyProof.Rows L2 LamX NdefX
theorem Step.sub {T : List (Addr × Str)} {S : Addr → Prop} {G H G' G1 H1 : Hp} (a : Step T S G H G1 H1) (h0 : ∀ b o, G b = some o → G' b = some o) (h1 : ∀ b o, G' b = some o → G1 b = some o) : Step T S G H G' H1 :=
  ⟨⟨fun b o h => a.wd.sub b o (h1 b o h), fun b o h => a.wd.ntb b o (h1 b o h), a.wd.tabs⟩, h0, fun b q r => (by
    cases z : G' b with
    | none => rfl
    | some o =>
      have y := h1 b o z
      rw [a.new b q r] at y
      cases y), a.fr, a.dom⟩
def DueIs (G : Hp) (names : List Str) (ties : List (Str × Str)) (own num : Str → Int) (w : V) : Prop := (∃ s d, Good names ties own num s ∧ w = .ref d ∧ SlAt G d names s) ∨ ((∀ s, ¬ Good names ties own num s) ∧ w = .non)
theorem DueIs.up {G G' : Hp} {names : List Str} {ties : List (Str × Str)} {own num : Str → Int} {w : V} (h : DueIs G names ties own num w) (e : ∀ b o, G b = some o → G' b = some o) : DueIs G' names ties own num w := by
  rcases h with ⟨s, d, h1, h2, h3⟩ | h
  · exact .inl ⟨s, d, h1, h2, h3.up e⟩
  · exact .inr h
theorem worked_due {H0 G H : Hp} {names : List Str} {ties : List (Str × Str)} {own num : Str → Int} {a b w : V} (up : ∀ b o, G b = some o → H b = some o) (v : Vil names ties own) (hl : names.length ≤ 1000) (k : Worked H0 G names ties own num a b) (h : DueIs G names ties own num w) : Eq2 H 4 a w := by
  rcases h with ⟨s', d', g', rfl, h3'⟩ | ⟨no, rfl⟩
  · rcases k with ⟨s, d, g, rfl, h3, _⟩ | ⟨no, _⟩
    · exact sl_eq2 up h3.sl h3' (Good.uniq v g g') hl fun x hx => Nat.le_trans (sl_len g.1 hx) hl
    · exact absurd g' (no s')
  · rcases k with ⟨s, d, g, _⟩ | ⟨_, rfl, _⟩
    · exact absurd g (no s)
    · exact .flat (.inl rfl)
theorem worked_brk {H0 G : Hp} {G2 : Hp} {names : List Str} {ties : List (Str × Str)} {own num : Str → Int} {a b w : V} (k : Worked H0 G names ties own num a b) (h : DueIs G2 names ties own num w) : decide (b = .non) = !decide (w = .non) := by
  rcases h with ⟨s', d', g', rfl, _⟩ | ⟨no, rfl⟩
  · rcases k with ⟨_, _, _, _, _, rfl⟩ | ⟨no, _⟩
    · rw [decide_eq_true rfl, decide_eq_false (fun h => nomatch h)]; rfl
    · exact absurd g' (no s')
  · rcases k with ⟨s, d, g, _⟩ | ⟨_, _, w', rfl⟩
    · exact absurd g (no s)
    · rw [decide_eq_true rfl, decide_eq_false (fun h => nomatch h)]; rfl
theorem dic_vals {kvs : List (Key × V)} {names : List Str} {num : Str → Int} (D : Dic kvs names (fun y v => v = .int (num y))) : kvs.map (·.2) = (keyOf names num).map kV := by
  unfold Dic at D
  unfold keyOf
  rw [List.map_map]
  induction D with
  | nil => rfl
  | cons q t ih => rw [List.map_cons, List.map_cons, q.2, ih]; rfl
theorem name_rp {x : Str} (h : nameB x = true) : (reprText x).length ≤ 82 := by
  have hx : x.length ≤ 8 ∧ ∀ c ∈ x.cps.toList, c < 16 ^ 8 := by
    unfold nameB at h
    simp only [Bool.and_eq_true, decide_eq_true_eq, List.all_eq_true, Bool.or_eq_true] at h
    obtain ⟨⟨⟨_, h2⟩, _⟩, h4⟩ := h
    refine ⟨h2, fun c hc => ?_⟩
    have hl : ∀ c ∈ lettersZ.cps.toList, c < 16 ^ 8 := by decide +kernel
    have hf : ∀ c ∈ figuresZ.cps.toList, c < 16 ^ 8 := by decide +kernel
    rcases h4 c hc with q | q
    · exact hl c q
    · exact hf c q
  have := StrLaws.reprText_len x hx.2
  omega
theorem piled_mul {B : Nat} : ∀ ps : List Str, (∀ p ∈ ps, p.length ≤ B) → piled ps ≤ ps.length * (B + 2)
  | [], _ => by simp [piled]
  | p :: r, h => by
    have h1 := h p (by simp)
    have h2 := piled_mul r fun q hq => h q (by simp [hq])
    rw [piled_cons, List.length_cons, Nat.add_mul]
    omega
theorem text_fits {perm : List Str} {num : Str → Int} (hl : perm.length ≤ 100) (hn : ∀ y ∈ perm, nameB y = true) (hz : ∀ y ∈ perm, (num y).natAbs.log2 < 1920) : (dictText (dTexts perm num)).length ≤ sizeLine := by
  have e : (dictText (dTexts perm num)).length = 1 + (Str.join ", " (dTexts perm num)).length + 1 := by
    unfold dictText
    rw [strLen_append, strLen_append]; rfl
  rw [e]
  by_cases q : dTexts perm num = []
  · rw [q]; decide +kernel
  · have h1 := join_length_add _ q
    have h2 := piled_mul (B := 2010) (dTexts perm num) fun p hp => by
      obtain ⟨y, hy, rfl⟩ := List.mem_map.mp hp
      have g1 := name_rp (hn y hy)
      have g2 : (Str.ofString (toString (num y))).length ≤ 1921 := by
        rw [PySem.ofString_length]
        exact int_text_length_le (by decide) (hz y hy)
      rw [strLen_append, strLen_append]
      show (reprText y).length + 2 + (Str.ofString (toString (num y))).length ≤ 2010
      omega
    have h3 : (dTexts perm num).length ≤ 100 := by unfold dTexts; rw [List.length_map]; exact hl
    have h4 : (dTexts perm num).length * 2012 ≤ 100 * 2012 := Nat.mul_le_mul_right _ h3
    show _ ≤ 16777216
    omega
section
variable {e : Ev}
theorem ok_small_right (t : Tx e) : Ok e 123 "_law_small_right" ["_law_source_here"] (fun vs H Q _ => ∃ s G, vs = [.ref s] ∧ SrcAt e s G H ∧
    ∀ G' H', Step e.T (OnS s) G H G' H' → Src s H' → Q (.bl true) H') := by
  refine t.f_law_small_right.okG sc_law_small_right (fun vs H Q E h => ?_) (fun cdv A g outer sh H vs Q E hg hcd hr h => ?_)
  · obtain ⟨s, G, rfl, _⟩ := h; rfl
  · obtain ⟨s, G, rfl, I, k⟩ := h
    have hu := hu_of hr
    have hgx := guards_cx (e := e) (N := ["_law_source_here", "_law_form", "_law_village", "_law_known", "_law_some", "_law_slates", "_law_k", "_law_given", "_law_due", "_law_handed", "_law_kept", "_law_told"]) (q := "_law_small_right") (sc := defScope s_law_small_right) (a := e.A "_law_small_right") (cdv := cdv) (outer := outer) (s := sh) (H := H) (E := E) hg
    refine ⟨_, (pss_cons (ps_set (i := 1) sc_law_small_right.nd rfl (.inl rfl) (pe_call (ok_v_drawn t) (hr.mono (by decide)) (by rfl) t.f_law_v_drawn.mg t.f_law_v_drawn.kp t.f_law_v_drawn.b .nil pass0 (pa_cons (pv 0) (pa_cons pe_int (pa_cons pe_int pa_nil)))))
      (pss_cons (ps_par (i := 2) (j := 3) rfl sc_law_small_right.nd rfl rfl (by decide) rfl rfl (pa_cons (pe_call (ok_v_made t) (hr.mono (by decide)) (by rfl) t.f_law_v_made.mg t.f_law_v_made.kp t.f_law_v_made.b .nil pass0 (pa_cons (pv 0) (pa_cons (pv 1) pa_nil))) (pa_cons pe_dnewT pa_nil)) (by rfl))
      (pss_cons (ps_set (i := 4) sc_law_small_right.nd rfl (.inl rfl) (pe_call (ok_v_all t) (hr.mono (by decide)) (by rfl) t.f_law_v_all.mg t.f_law_v_all.kp t.f_law_v_all.b .nil pass0 (pa_cons (pv 1) pa_nil)))
      (pss_cons (ps_for PassesOwn.never rfl (pi_sq (pv 4)) (pg_name (i := 5) sc_law_small_right.nd rfl (.inl rfl)) (pss_one (ps_asg (pv 5) (pg_sub (pv 3) (pe_tupleVals rfl (pe_call (ok_v_ledger t) hr (by rfl) t.f_law_v_ledger.mg t.f_law_v_ledger.kp t.f_law_v_ledger.b .nil pass0 (pa_cons (pv 1) (pa_cons (pv 5) pa_nil))) (by rfl) t.n_tuple) (set_dict hu)))))
      (pss_cons (ps_if (pt_cmpR op_ne (pe_callB call_len_dT (by rfl) t.n_len bt_len (pa_cons (pv 3) pa_nil)) (pe_callB call_lenSq (by rfl) t.n_len bt_len (pa_cons (pv 4) pa_nil)) (nomark _)) (pss_one (ps_ret pe_bl)) pss_nil)
      (pss_cons (ps_for PassesOwn.never rfl (pi_range1 (by rfl) t.n_range (pa_cons pe_int pa_nil)) (pg_name (i := 6) sc_law_small_right.nd rfl (.inl rfl)) (pss_cons (ps_set (i := 7) sc_law_small_right.nd rfl (.inl rfl) (pe_call (ok_v_ledger t) hr (by rfl) t.f_law_v_ledger.mg t.f_law_v_ledger.kp t.f_law_v_ledger.b .nil pass0 (pa_cons (pv 1) (pa_cons (pe_call (ok_pick t) (hr.mono (by decide)) (by rfl) t.f_law_pick.mg t.f_law_pick.kp t.f_law_pick.b .nil pass0 (pa_cons (pv 0) (pa_cons (pv 4) pa_nil))) pa_nil))))
      (C8.pss_cut (ps_set (i := 7) sc_law_small_right.nd rfl (.inl rfl) (pe_ifExp (pt_cmpR op_gt (pe_call (ok_draw t) (hr.mono (by decide)) (by rfl) t.f_law_draw.mg t.f_law_draw.kp t.f_law_draw.b .nil pass0 (pa_cons (pv 0) (pa_cons pe_int pa_nil))) pe_int (nomark _)) (pe_call (ok_v_near t) (hr.mono (by decide)) (by rfl) t.f_law_v_near.mg t.f_law_v_near.kp t.f_law_v_near.b .nil pass0 (pa_cons (pv 0) (pa_cons (pv 1) (pa_cons (pv 7) pa_nil)))) (pv 7)))
      (pss_cons (ps_par (i := 8) (j := 9) rfl sc_law_small_right.nd rfl rfl (by decide) rfl rfl (pa_cons (pe_dget1 hu (pv 3) (pe_tupleVals rfl (pv 7) (by rfl) t.n_tuple) ⟨rfl, rfl, rfl, rfl⟩) (pa_cons (pe_call (ok_v_handed t) (hr.mono (by decide)) (by rfl) t.f_law_v_handed.mg t.f_law_v_handed.kp t.f_law_v_handed.b .nil pass0 (pa_cons (pv 0) (pa_cons (pv 7) pa_nil))) pa_nil)) (by rfl))
      (pss_cons (ps_par (i := 10) (j := 11) rfl sc_law_small_right.nd rfl rfl (by decide) rfl rfl (pa_cons (pe_callB (call_reprD hgx hu) (by rfl) t.n_repr bt_repr (pa_cons (pv 9) pa_nil)) (pa_cons (pe_call (ok_slates_of_ledger t) (hr.mono (by decide)) (by rfl) t.f_slates_of_ledger.mg t.f_slates_of_ledger.kp t.f_slates_of_ledger.b .nil pass0 (pa_cons (pv 2) (pa_cons (pv 9) pa_nil))) pa_nil)) (by rfl))
      (pss_cons (ps_if (PW.pt (pw_or (pt_not (pt_val (pe_call (ok_same t 6) (hr.mono (by decide)) (by rfl) t.f_law_same.mg t.f_law_same.kp t.f_law_same.b .nil pass0 (pa_cons (pe_lst (pa_cons (pv 11) pa_nil)) (pa_cons (pe_lst (pa_cons (pv 8) pa_nil)) pa_nil))))) (pw_or1 (pt_cmpR op_ne (pe_callB (call_reprD hgx hu) (by rfl) t.n_repr bt_repr (pa_cons (pv 9) pa_nil)) (pv 10) (nomark _))))) (pss_one (ps_ret pe_bl)) pss_nil)
      (pss_cons (ps_if (pt_cmpR op_ne (pe_cmpR op_isN (pe_call (ok_ledger_break t) (hr.mono (by decide)) (by rfl) t.f_ledger_break.mg t.f_ledger_break.kp t.f_ledger_break.b .nil pass0 (pa_cons (pv 2) (pa_cons (pv 9) pa_nil))) pe_non (nomark _)) (pe_cmpR op_notN (pv 8) pe_non (nomark _)) (nomark _)) (pss_one (ps_ret pe_bl)) pss_nil)
      (C8.pss_cut (ps_if (pt_cmpR op_notN (pv 11) pe_non (nomark _)) (pss_cons (ps_expr (pe_bm PySem.F.plainAttrs_list PySem.F.slot_list_append PySem.F.type_list_append mt_append (pe_dget hu (pv 11) (pe_ix ix_sq (pe_ix ix_sq (pv 1) pe_int (fun _ _ => rfl)) pe_int (fun _ _ => rfl)) (fun _ _ => rfl)) (pa_cons pe_str pa_nil))) (pss_one (ps_dput hu (pv 11) pe_str (pe_lst pa_nil) rfl))) pss_nil)
      (pss_one (ps_if (pt_not (pt_val (pe_call (ok_same t 6) (hr.mono (by decide)) (by rfl) t.f_law_same.mg t.f_law_same.kp t.f_law_same.b .nil pass0 (pa_cons (pe_lst (pa_cons (pe_call (ok_slates_of_ledger t) (hr.mono (by decide)) (by rfl) t.f_slates_of_ledger.mg t.f_slates_of_ledger.kp t.f_slates_of_ledger.b .nil pass0 (pa_cons (pv 2) (pa_cons (pv 7) pa_nil))) pa_nil)) (pa_cons (pe_lst (pa_cons (pv 8) pa_nil)) pa_nil))))) (pss_one (ps_ret pe_bl)) pss_nil))))))))))
      (pss_one (ps_ret pe_bl)))))))), ?_⟩
    refine ⟨_, rfl, s, G, 5, rfl, I, by decide, by decide, fun f names ties news G1 H1 st1 src1 F1 ok => ?_⟩
    have I1 := I.step st1 src1
    have tr := ok.tree
    have nd := tr.nodup
    have hl : names.length ≤ 5 := ok.len
    have vil := ok.vil
    refine ⟨_, rfl, _, rfl, s, f, names, ties, news, 5, G1, rfl, I1, F1, ok, by omega, fun v G2 H2 st2 src2 hv2 => ?_⟩
    have I2 := I1.step st2 src2
    have a2 := st1.trans st2
    refine fun kd hkd => ⟨_, _, rfl, ?_⟩
    have a3 := a2.hid1 (o := .dT []) hkd
    have hkd0 : H kd = none := a2.free hkd
    have g2kd : G2 kd = none := I2.wd.none hkd
    have nskd : s ≠ kd := I2.away0 hkd
    have I3 := I2.step (Step.hid (S := NoS) (o := .dT []) I2.wd hkd) (src2.same (same_new hkd))
    have ekd3 : upd H2 kd (.dT []) kd = some (.dT []) := upd_same
    generalize upd H2 kd (.dT []) = H3 at *
    have F2 := F1.up st2.up
    refine ⟨_, rfl, f, names, ties, news, 5, G2, rfl, I3.wd, F2, ok, by omega, fun q us G4 H4 st4 hq4 En => ?_⟩
    have a4 := a3.trans st4.no
    have I4 := I3.no st4
    have ekd4 : H4 kd = some (.dT []) := st4.own ekd3 (fun z => z) noTbl_dT
    have g4kd : G4 kd = none := st4.hidden ekd3 g2kd
    have F4 := F2.up st4.up
    have hv4 := hv2.up st4.up
    obtain ⟨ss, AS, Ps⟩ := all_sl tr En
    have lus : us.length ≤ 7962624 := by
      have h1 := Paired.len En
      have h2 := all_len tr hl (i := names.length) (Nat.le_refl _)
      rw [List.take_length] at h2
      have h3 : (24 : Nat) ^ names.length ≤ 24 ^ 5 := Nat.pow_le_pow_right (by decide) hl
      have h4 : us.length = (names.foldl (allStep (frn names ties)) [[]]).length := h1
      have h5 : (24 : Nat) ^ 5 = 7962624 := by decide
      omega
    have lss : us.length = ss.length := Paired.len Ps
    have hq4' := st4.wd.sub _ _ hq4
    refine ⟨_, rfl, q, us, rfl, .inl hq4', fun J wk => for_it wk (fun i σ H5 => ∃ (v5 v6 v7 v8 v9 v10 v11 : Option V) (kvs : List (List Key × V)), σ = [some (.ref s), some (.ref f), some (.ref v), some (.ref kd), some (.ref q), v5, v6, v7, v8, v9, v10, v11] ∧ Step e.T (OnS s) G H G4 H5 ∧ Src s H5 ∧ H5 kd = some (.dT kvs) ∧ KT G4 names (ownOf names news) kvs (ss.take i))
      ⟨_, _, _, _, _, _, _, [], rfl, a4, I4.src, ekd4, .nil⟩ (fun i σ H5 _ ⟨_, _, _, _, _, _, _, _, _, st, _⟩ => by rw [st.wd.sub _ _ hq4, hq4']) ?_ ?_⟩
    · rintro i u σ H5 H6 hi ⟨v5, v6, v7, v8, v9, v10, v11, kvs, rfl, a5, src5, ekd5, K5⟩ ⟨rfl, hu5⟩
      obtain ⟨sl, hsl, d, rfl, hd⟩ := Paired.getL Ps hu5
      have I5 := I.step a5 src5
      refine ⟨_, rfl, _, rfl, _, rfl, _, rfl, f, d, names, ties, news, 5, sl, G4, rfl, I5.wd, F4, ok, by omega, hd, AS.isl sl (List.mem_of_getElem? hsl), fun q7 G7 H7 st7 hn7 => ?_⟩
      have a7 := (a5.trans st7.no).sub a4.up st7.up
      have src7 := (I5.no st7).src
      have ekd7 : H7 kd = some (.dT kvs) := st7.own ekd5 (fun z => z) noTbl_dT
      obtain ⟨nvs, hn1, hn2⟩ := hn7
      refine ⟨q7, nvs, rfl, st7.wd.sub _ _ hn1, fun p hp => ?_⟩
      have a8 := a7.hid1 (o := .tup (nvs.map (·.2))) hp
      have ekd8 : upd H7 p (.tup (nvs.map (·.2))) kd = some (.dT kvs) := (upd_ne (ne_of_none ekd7 hp)).trans ekd7
      have ep : upd H7 p (.tup (nvs.map (·.2))) p = some (.tup ((keyOf names (ledg names (ownOf names news) sl)).map kV)) := by rw [upd_same, dic_vals hn2]
      have src8 : Src s (upd H7 p (.tup (nvs.map (·.2)))) := src7.same (same_new hp)
      generalize upd H7 p (.tup (nvs.map (·.2))) = H8 at *
      have lk : kvs.length < sizeLine := by
        have := Paired.len K5
        rw [List.length_take] at this
        show kvs.length < 16777216
        omega
      refine ⟨kd, _, rfl, .inr ⟨kvs, _, p, ekd8, rfl, ep, lk, rfl⟩, _, _, _, _, _, _, _, _, rfl, a8.wr hkd0 g4kd ekd8 noTbl_dT (fun _ h => nomatch h), ?_, upd_same, ?_⟩
      · obtain ⟨x, y, z, h, w⟩ := src8
        exact ⟨x, y, z, (upd_ne nskd).trans h, w⟩
      · rw [take_snoc hsl]
        exact K5.put (AS.new vil hsl) hd
    · rintro σ H5 ⟨v5, v6, v7, v8, v9, v10, v11, kvs, rfl, a5, src5, ekd5, K5⟩
      rw [lss, List.take_length] at K5
      have lkv : kvs.length = us.length := by rw [lss]; exact Paired.len K5
      have hq5 := a5.wd.sub _ _ hq4
      refine ⟨_, rfl, kd, kvs, rfl, ekd5, _, rfl, q, us, rfl, .inl hq5, rfl, _, rfl, iteNS (congrArg (fun n : Nat => V.int (n : Int)) lkv) ?_⟩
      have ekd6 := ekd5
      have usne : us ≠ [] := fun z => by
        obtain ⟨s', m, _⟩ := AS.all (frn names ties) fun _ _ => .refl _
        rw [z] at lss
        have := List.length_pos_of_mem m
        simp at lss
        omega
      have nq : q ≠ s := I4.away hq4
      have oM : ∀ x ∈ names, ownOf names news x ≤ 1000000000000000 := fun x hx => ok.big _ (List.mem_of_getElem? (ownOf_at hx ok.lns))
      refine ⟨12, rfl, by decide, by decide, for_range (lo := 0) (n := 12) (fun i σ H6 => ∃ (v6 v7 v8 v9 v10 v11 : Option V), σ = [some (.ref s), some (.ref f), some (.ref v), some (.ref kd), some (.ref q), v5, v6, v7, v8, v9, v10, v11] ∧ Step e.T (OnS s) G H G4 H6 ∧ Src s H6 ∧ H6 kd = some (.dT kvs))
        ⟨_, _, _, _, _, _, rfl, a5, src5, ekd5⟩ ?_ ?_⟩
      · rintro i σ H6 hi ⟨v6, v7, v8, v9, v10, v11, rfl, a6, src6, ekd6⟩
        have I6 := I.step a6 src6
        refine ⟨_, rfl, _, rfl, _, rfl, s, q, us, G4, rfl, I6, .inl (I6.wd.sub _ _ hq4), nq, usne, by omega, fun u H7 mu st7 src7 => ?_⟩
        have I7 := I6.step st7 src7
        have a7 := a6.trans st7
        obtain ⟨j, hj⟩ := List.mem_iff_getElem?.mp mu
        obtain ⟨sl, hsl, d, rfl, hd⟩ := Paired.getL Ps hj
        have isl := AS.isl sl (List.mem_of_getElem? hsl)
        refine ⟨f, d, names, ties, news, 5, sl, G4, rfl, I7.wd, F4, ok, by omega, hd, isl, fun q8 G8 H8 st8 hn8 => ?_⟩
        have a8 := a7.trans st8.no
        have I8 := I7.no st8
        have ekd7 : H7 kd = some (.dT kvs) := st7.fr _ _ ekd6 nskd.symm noTbl_dT
        have ekd8 : H8 kd = some (.dT kvs) := st8.own ekd7 (fun z => z) noTbl_dT
        have b8 := ledg_bnd (M := 1000000000000000) (by decide) vil oM isl hl
        refine ⟨fun σ' H' => ∃ (qg : Addr) (num : Str → Int) (G9 : Hp), σ' = [some (.ref s), some (.ref f), some (.ref v), some (.ref kd), some (.ref q), v5, some (.int (0 + (i : Nat))), some (.ref qg), v8, v9, v10, v11] ∧ Step e.T (OnS s) G H G9 H' ∧ (∀ b o, G4 b = some o → G9 b = some o) ∧ Src s H' ∧ H' kd = some (.dT kvs) ∧ NumAt G9 qg names num ∧ Bnd names num (1000000000000000 * 6 ^ 11 + 2), ?_, ?_⟩
        · refine ⟨_, rfl, s, 3, G8, rfl, by decide, by decide, I8, fun r H9 r0 r3 st9 src9 => ⟨_, _, rfl, rfl, _, rfl, ite2 (fun z => ?_) (fun z => ?_)⟩⟩
          · refine ⟨_, rfl, _, rfl, _, rfl, s, f, q8, names, ties, news, 5, _, _, G8, rfl, I8.step st9 src9, F4.up st8.up, ok, by omega, hn8, b8, by decide, fun qg num' G10 H10 st10 src10 hn10 b10 => ?_⟩
            exact ⟨qg, num', G10, rfl, (a8.trans st9).trans st10, fun b o h => st10.up _ _ (st8.up _ _ h), src10, st10.fr _ _ (st9.fr _ _ ekd8 nskd.symm noTbl_dT) nskd.symm noTbl_dT, hn10, b10⟩
          · exact ⟨_, rfl, q8, _, G8, rfl, a8.trans st9, st8.up, src9, st9.fr _ _ ekd8 nskd.symm noTbl_dT, hn8, fun y hy => ⟨(b8 y hy).1, by have := (b8 y hy).2; omega⟩⟩
        rintro σ9 H9 ⟨qg, num, G9, rfl, a9, up9, src9, ekd9, hn9, b9⟩
        have I9 := I.step a9 src9
        have nn : ∀ y ∈ names, 0 ≤ num y := fun y hy => (b9 y hy).1
        have hz : ∀ y ∈ names, (num y).natAbs.log2 < 1920 := fun y hy => by
          have h1 := b9 y hy
          have h2 : (num y).natAbs ≤ 1000000000000000 * 6 ^ 11 + 2 := by omega
          by_cases z : (num y).natAbs = 0
          · rw [z]; decide
          · exact (Nat.log2_lt z).mpr (Nat.lt_of_le_of_lt h2 (by decide +kernel))
        obtain ⟨nvs, hn1, hn2⟩ := id hn9
        refine ⟨_, rfl, kd, rfl, .inr ⟨kvs, .inl ekd9⟩, _, rfl, qg, nvs, rfl, I9.wd.sub _ _ hn1, fun p hp => ?_⟩
        have a10 := a9.hid1 (o := .tup (nvs.map (·.2))) hp
        have ekd10 : upd H9 p (.tup (nvs.map (·.2))) kd = some (.dT kvs) := (upd_ne (ne_of_none ekd9 hp)).trans ekd9
        have ep : upd H9 p (.tup (nvs.map (·.2))) p = some (.tup ((keyOf names num).map kV)) := by rw [upd_same, dic_vals hn2]
        have I10 := I.step a10 (src9.same (same_new hp))
        generalize upd H9 p (.tup (nvs.map (·.2))) = H10 at *
        refine ⟨valV kvs (keyOf names num), DGet.t ekd10 ep, _, rfl, _, rfl, s, qg, names, num, G9, rfl, I10, NumP.at hn9, nd, by omega, fun hh G11 H11 st11 src11 hp11 => ⟨_, _, rfl, ?_⟩⟩
        have due : DueIs G4 names ties (ownOf names news) num ((valV kvs (keyOf names num)).getD .non) := by
          rcases due_is AS K5 num with ⟨s0, d0, g0, e0, e1⟩ | ⟨no, e0⟩
          · rw [e0]; exact .inl ⟨s0, d0, g0, rfl, e1⟩
          · rw [e0]; exact .inr ⟨no, rfl⟩
        generalize (valV kvs (keyOf names num)).getD .non = w at *
        have a11 := a10.trans st11
        have I11 := I10.step st11 src11
        have up11 : ∀ b o, G4 b = some o → G11 b = some o := fun b o h => st11.up _ _ (up9 b o h)
        have ekd11 : H11 kd = some (.dT kvs) := st11.fr _ _ ekd10 nskd.symm noTbl_dT
        have hn11 := hn9.up st11.up
        have hv11 := hv4.up up11
        obtain ⟨hks, perm, he1, pm, hD⟩ := id hp11
        have cond : ∀ y ∈ perm, (reprText y).length ≤ sizeLine ∧ (num y).natAbs.log2 < 1920 := fun y hy => ⟨Nat.le_trans (name_rp (ok.ok y (pm.mem_iff.mp hy))) (by decide), hz y (pm.mem_iff.mp hy)⟩
        have fits := text_fits (perm := perm) (num := num) (by rw [pm.length_eq]; omega) (fun y hy => ok.ok y (pm.mem_iff.mp hy)) fun y hy => hz y (pm.mem_iff.mp hy)
        refine ⟨_, rfl, hh, hks, perm, num, rfl, I11.wd.sub _ _ he1, hD, cond, fits, _, rfl, _, rfl, v, hh, names, ties, news, num, G11, rfl, ok.vl (by omega) I11.wd hv11 hp11 nn, fun G12 H12 ta tb st12 w12 => ⟨_, _, rfl, ?_⟩⟩
        have a12 := (a11.trans st12.no).sub a11.up st12.up
        have I12 := I11.no (st12.sub (fun _ _ h => h) st12.up)
        refine ⟨_, rfl, by show 1 ≤ sizeLine; decide, fun p1 hp1 => ⟨_, rfl, by show 1 ≤ sizeLine; decide, fun p2 hp2 => ?_⟩⟩
        have E4 : Eq2 H12 4 ta w := worked_due (G := G12) (H := H12) st12.wd.sub vil (by omega) w12 (due.up fun b o h => st12.up _ _ (up11 b o h))
        have s12 := (same_new (o := .lst [ta]) hp1).trans (same_new (o := .lst [w]) hp2)
        refine ⟨.ref p1, .ref p2, rfl, eq2_one ((same_new (o := .lst [w]) hp2) _ _ upd_same) upd_same (E4.same s12), fun H13 s13 => ⟨true, rfl, iteF ?_⟩⟩
        have s13' : Same H12 H13 := s12.trans s13
        have a13 := a12.trans (Step.same I12.wd s13')
        have I13 := I12.no (Step.same I12.wd s13')
        refine ⟨_, rfl, hh, hks, perm, num, rfl, I13.wd.sub _ _ he1, hD, cond, fits, _, rfl, rfl, _, rfl, iteNS rfl ?_⟩
        refine ⟨_, rfl, _, rfl, v, hh, names, ties, news, num, G11, rfl, ok.vl (by omega) I13.wd hv11 hp11 nn, fun G14 H14 ta2 tb2 st14 w14 => ⟨rfl, _, rfl, rfl, rfl, _, rfl, iteNS (congrArg V.bl (worked_brk w14 due)) ?_⟩⟩
        have a14 := (a13.trans st14.no).sub a13.up st14.up
        have I14 := I13.no (st14.sub (fun _ _ h => h) st14.up)
        have ekd14 : H14 kd = some (.dT kvs) := st14.own (s13' _ _ (st12.own ekd11 (fun z => z) noTbl_dT)) (fun z => z) noTbl_dT
        refine ⟨fun σ' H' => σ' = [some (.ref s), some (.ref f), some (.ref v), some (.ref kd), some (.ref q), v5, some (.int (0 + (i : Nat))), some (.ref qg), some w, some (.ref hh), some (.str (reprD g hh (dTexts perm num))), some ta] ∧ Step e.T (OnS s) G H G11 H' ∧ Src s H' ∧ H' kd = some (.dT kvs), ?_, ?_⟩
        · rcases id w12 with ⟨s', d', g', rfl, ⟨hn0, tks, et1, et2⟩, rfl⟩ | ⟨no, rfl, _⟩
          · refine ⟨_, rfl, rfl, _, rfl, iteT' (by rfl) ?_⟩
            obtain ⟨fa, fb, fc, tvs, hf, ha, _, _, _⟩ := F4.at_
            have hf14 := a14.wd.sub _ _ (up11 _ _ hf)
            have ha14 := a14.wd.sub _ _ (up11 _ _ ha)
            have hne : 0 < names.length := by
              have := tr.len
              omega
            have hn0' : (sv names)[0]? = some (.str names[0]) := by rw [List.getElem?_map, List.getElem?_eq_getElem hne]; rfl
            obtain ⟨v0, gv0, ⟨l0, rfl, el0⟩, nv0⟩ := et2.get (List.getElem_mem hne)
            have hl0 : H11 l0 = none := nv0 l0 rfl
            have ed12 := st12.wd.sub _ _ et1
            have el12 := st12.wd.sub _ _ el0
            have ed14 : H14 d' = some (.dK tks) := st14.own (s13' _ _ ed12) (fun z => z) noTbl_dK
            have el14 : H14 l0 = some (.lst (sv (s' names[0]))) := st14.own (s13' _ _ el12) (fun z => z) noTbl_lst
            have gd11 : G11 d' = none := I11.wd.none hn0
            have gl11 : G11 l0 = none := I11.wd.none hl0
            have hdH : H d' = none := a11.free hn0
            have hlH : H l0 = none := a11.free hl0
            have lsl : (sv (s' names[0])).length < sizeLine := by
              rw [List.length_map]
              have := sl_len g'.1 (List.getElem_mem hne)
              show _ < 16777216
              omega
            have ndl : d' ≠ l0 := fun z => by rw [z, el14] at ed14; cases ed14
            have nkl : kd ≠ l0 := fun z => by rw [z, el14] at ekd14; cases ekd14
            have nkd : kd ≠ d' := fun z => by rw [z, ed14] at ekd14; cases ekd14
            have nsl : s ≠ l0 := I11.away0 hl0
            have nsd : s ≠ d' := I11.away0 hn0
            refine ⟨_, rfl, _, rfl, f, _, 0, .ref fa, rfl, rfl, .inr hf14, rfl, fa, sv names, 0, .str names[0], rfl, rfl, .inl ha14, atI_nat hn0', d', .ref l0, rfl, by rw [← gv0]; exact DGet.k (k := Sum.inr names[0]) ed14, .inl ⟨rfl, _, SqL.of el14⟩, l0, _, _, rfl, rfl, el14, lsl, ?_⟩
            have a15 := a14.wr (o' := .lst (sv (s' names[0]) ++ [.str "late"])) hlH gl11 el14 noTbl_lst (fun _ h => nomatch h)
            have ed15 : upd H14 l0 (.lst (sv (s' names[0]) ++ [.str "late"])) d' = some (.dK tks) := (upd_ne ndl).trans ed14
            have ekd15 : upd H14 l0 (.lst (sv (s' names[0]) ++ [.str "late"])) kd = some (.dT kvs) := (upd_ne nkl).trans ekd14
            have src15 : Src s (upd H14 l0 (.lst (sv (s' names[0]) ++ [.str "late"]))) := by
              obtain ⟨x, y, z, h, w⟩ := I14.src
              exact ⟨x, y, z, (upd_ne nsl).trans h, w⟩
            generalize upd H14 l0 (.lst (sv (s' names[0]) ++ [.str "late"])) = H15 at *
            refine ⟨by show 0 ≤ sizeLine; decide, fun nl hnl => ⟨_, rfl, d', _, rfl, DPut.k (k := Sum.inr "late") ((upd_ne (ne_of_none ed15 hnl)).trans ed15) ?_, ?_⟩⟩
            · rw [et2.len]
              show names.length < 16777216
              omega
            have a16 := a15.hid1 (o := .lst []) hnl
            refine ⟨rfl, a16.wr hdH gd11 ((upd_ne (ne_of_none ed15 hnl)).trans ed15) noTbl_dK (fun _ h => nomatch h), ?_, (upd_ne nkd).trans ((upd_ne (ne_of_none ekd15 hnl)).trans ekd15)⟩
            obtain ⟨x, y, z, h, w⟩ := src15
            exact ⟨x, y, z, (upd_ne nsd).trans ((upd_ne (ne_of_none h hnl)).trans h), w⟩
          · exact ⟨_, rfl, rfl, _, rfl, iteF' (by rfl) ⟨rfl, a14, I14.src, ekd14⟩⟩
        rintro σ17 H17 ⟨rfl, a17, src17, ekd17⟩
        have I17 := I.step a17 src17
        refine ⟨_, rfl, _, rfl, v, qg, names, ties, news, num, G11, rfl, ok.vl (by omega) I17.wd hv11 (NumP.at hn11) nn, fun G18 H18 ta3 tb3 st18 w18 => ⟨by show 1 ≤ sizeLine; decide, fun p3 hp3 => ⟨_, rfl, by show 1 ≤ sizeLine; decide, fun p4 hp4 => ?_⟩⟩⟩
        have E18 : Eq2 H18 4 ta3 w := worked_due (G := G18) (H := H18) st18.wd.sub vil (by omega) w18 (due.up fun b o h => st18.up _ _ (up11 b o h))
        have s18 := (same_new (o := .lst [ta3]) hp3).trans (same_new (o := .lst [w]) hp4)
        have a18 := a17.trans st18.no
        have ekd18 : H18 kd = some (.dT kvs) := st18.own ekd17 (fun z => z) noTbl_dT
        have src18 := (I17.no st18).src
        refine ⟨.ref p3, .ref p4, rfl, eq2_one ((same_new (o := .lst [w]) hp4) _ _ upd_same) upd_same (E18.same s18), fun H19 s19 => ⟨true, rfl, iteF ?_⟩⟩
        have a19 := (a18.trans (Step.same a18.wd (s18.trans s19))).sub a4.up fun b o h => st18.up _ _ (up11 b o h)
        exact ⟨_, _, _, _, _, _, rfl, a19, src18.same (s18.trans s19), (s18.trans s19) _ _ ekd18⟩
      · rintro σ H6 ⟨v6, v7, v8, v9, v10, v11, rfl, a6, src6, ekd6⟩
        exact k _ _ a6 src6
end
end K12

set_option maxHeartbeats 4000000
namespace K12
open PySem PySem.Spec PyProof.Rows L2 LamX NdefX
section
variable {e : Ev}
theorem ok_law (t : Tx e) : Ok e 124 "law" ["_law_script"] (fun vs H Q _ => ∃ a ns G, vs = [.ref a] ∧ SqL e.K H a (iv ns) ∧ Wd e.T G H ∧ ∀ H', Q (.bl true) H') := by
  refine t.f_law.ok sc_law (fun vs H Q E h => ?_) (fun cdv A outer sh H vs Q E hcd hr h => ?_)
  · obtain ⟨a, ns, G, rfl, _⟩ := h; rfl
  · obtain ⟨a, ns, G, rfl, ha, wd, k⟩ := h
    refine ⟨_, pss_cons (ps_for PassesOwn.never rfl (pi_range1 (by rfl) t.n_range (pa_cons pe_int pa_nil)) (pg_name (i := 1) sc_law.nd rfl (.inl rfl))
        (pss_cons (ps_set (i := 2) sc_law.nd rfl (.inl rfl) (pe_call (ok_source t) (hr.mono (by decide)) (by rfl) t.f_law_source.mg t.f_law_source.kp t.f_law_source.b .nil pass0 (pa_cons (pv 0) (pa_cons (pv 1) pa_nil))))
        (pss_one (ps_if (PW.pt (pw_or (pt_not (pt_val (pe_call (ok_small_right t) hr (by rfl) t.f_law_small_right.mg t.f_law_small_right.kp t.f_law_small_right.b .nil pass0 (pa_cons (pv 2) pa_nil))))
          (pw_or1 (pt_not (pt_val (pe_call (ok_back_right t) hr (by rfl) t.f_law_back_right.mg t.f_law_back_right.kp t.f_law_back_right.b .nil pass0 (pa_cons (pv 2) (pa_cons (pe_call (ok_v_drawn t) (hr.mono (by decide)) (by rfl) t.f_law_v_drawn.mg t.f_law_v_drawn.kp t.f_law_v_drawn.b .nil pass0 (pa_cons (pv 2) (pa_cons pe_int (pa_cons pe_int pa_nil)))) pa_nil))))))))
          (pss_one (ps_ret pe_bl)) pss_nil))))
      (pss_cons (ps_set (i := 2) sc_law.nd rfl (.inl rfl) (pe_call (ok_source t) (hr.mono (by decide)) (by rfl) t.f_law_source.mg t.f_law_source.kp t.f_law_source.b .nil pass0 (pa_cons (pv 0) (pa_cons pe_int pa_nil))))
      (pss_one (ps_ret (pe_call (ok_back_right t) hr (by rfl) t.f_law_back_right.mg t.f_law_back_right.kp t.f_law_back_right.b .nil pass0 (pa_cons (pv 2) (pa_cons (pe_call (ok_v_great t) (hr.mono (by decide)) (by rfl) t.f_law_v_great.mg t.f_law_v_great.kp t.f_law_v_great.b .nil pass0 (pa_cons (pv 2) (pa_cons pe_int pa_nil))) pa_nil)))))), ?_⟩
    have up : ∀ {G' H' : Hp} {S : Addr → Prop}, Step e.T S G H G' H' → (∀ b, S b → H b = none) → SqL e.K H' a (iv ns) := fun st hS => by
      rcases ha with (q | ⟨o, q⟩) | q
      · exact .inl (.inl (st.fr _ _ q (fun z => by rw [hS _ z] at q; cases q) noTbl_lst))
      · exact .inl (.inr ⟨o, st.fr _ _ q (fun z => by rw [hS _ z] at q; cases q) fun _ h => nomatch h⟩)
      · exact .inr q
    refine ⟨3, rfl, by decide, by decide, for_range (lo := 0) (n := 3) (fun i σ H3 => ∃ (v1 v2 : Option V), σ = [some (.ref a), v1, v2] ∧ Step e.T NoS G H G H3) ⟨_, _, rfl, Step.refl wd⟩ ?_ ?_⟩
    · rintro i σ H3 hi ⟨v1, v2, rfl, a3⟩
      refine ⟨_, rfl, _, rfl, a, ns, i, G, by simp, up a3 (fun _ z => z.elim), a3.wd, fun s H4 st4 hs I4 => ?_⟩
      have a4 := a3.trans st4
      have hsH : H s = none := a3.free hs
      refine ⟨_, rfl, s, G, rfl, I4, fun G5 H5 st5 src5 => ⟨true, rfl, iteF ?_⟩⟩
      have I5 := I4.step st5 src5
      refine ⟨_, rfl, _, rfl, s, G5, 10, rfl, I5, by decide, by decide, fun f names ties news G6 H6 st6 src6 F6 ok => ?_⟩
      refine ⟨s, f, names, ties, news, 10, G6, rfl, I5.step st6 src6, F6, ok, by decide, fun G7 H7 st7 src7 => ⟨true, rfl, iteF ?_⟩⟩
      have a7 := (((a4.no.trans st5).trans st6).trans st7).drop hsH
      exact ⟨_, _, rfl, a7.sub (fun _ _ h => h) a7.up⟩
    · rintro σ H3 ⟨v1, v2, rfl, a3⟩
      refine ⟨_, rfl, a, ns, 3, G, rfl, up a3 (fun _ z => z.elim), a3.wd, fun s H4 st4 hs I4 => ?_⟩
      refine ⟨_, rfl, _, rfl, s, G, rfl, I4, fun f names ties news G6 H6 st6 src6 F6 ok => ?_⟩
      exact ⟨s, f, names, ties, news, 60, G6, rfl, I4.step st6 src6, F6, ok, by decide, fun G7 H7 st7 src7 => k H7⟩
end
end K12

set_option maxHeartbeats 0
namespace K12
open PySem PySem.Spec PyProof.Rows L2
def d_is_list : He.DefD := ⟨("is_list", none), "is_list", "is_list", defArgs s_is_list, defBody s_is_list, defScope s_is_list, [], []⟩
def d_is_whole : He.DefD := ⟨("is_whole", none), "is_whole", "is_whole", defArgs s_is_whole, defBody s_is_whole, defScope s_is_whole, [], []⟩
def d_is_number : He.DefD := ⟨("is_number", none), "is_number", "is_number", defArgs s_is_number, defBody s_is_number, defScope s_is_number, [], []⟩
def d_is_positive : He.DefD := ⟨("is_positive", none), "is_positive", "is_positive", defArgs s_is_positive, defBody s_is_positive, defScope s_is_positive, [], []⟩
def d_is_name : He.DefD := ⟨("is_name", none), "is_name", "is_name", defArgs s_is_name, defBody s_is_name, defScope s_is_name, [], []⟩
def d_is_one_of : He.DefD := ⟨("is_one_of", none), "is_one_of", "is_one_of", defArgs s_is_one_of, defBody s_is_one_of, defScope s_is_one_of, [], []⟩
def d_first_odd : He.DefD := ⟨("first_odd", none), "first_odd", "first_odd", defArgs s_first_odd, defBody s_first_odd, defScope s_first_odd, [], []⟩
def d_rim_order : He.DefD := ⟨("rim_order", none), "rim_order", "rim_order", defArgs s_rim_order, defBody s_rim_order, defScope s_rim_order, [], []⟩
def d_checked_people : He.DefD := ⟨("checked_people", none), "checked_people", "checked_people", defArgs s_checked_people, defBody s_checked_people, defScope s_checked_people, [], []⟩
def d_is_pair_of : He.DefD := ⟨("is_pair_of", none), "is_pair_of", "is_pair_of", defArgs s_is_pair_of, defBody s_is_pair_of, defScope s_is_pair_of, [], []⟩
def d_checked_ties : He.DefD := ⟨("checked_ties", none), "checked_ties", "checked_ties", defArgs s_checked_ties, defBody s_checked_ties, defScope s_checked_ties, [], []⟩
def d_checked_news : He.DefD := ⟨("checked_news", none), "checked_news", "checked_news", defArgs s_checked_news, defBody s_checked_news, defScope s_checked_news, [], []⟩
def d_check_village : He.DefD := ⟨("check_village", none), "check_village", "check_village", defArgs s_check_village, defBody s_check_village, defScope s_check_village, [], []⟩
def d_are_numbers : He.DefD := ⟨("are_numbers", none), "are_numbers", "are_numbers", defArgs s_are_numbers, defBody s_are_numbers, defScope s_are_numbers, [], []⟩
def d_check_ledger : He.DefD := ⟨("check_ledger", none), "check_ledger", "check_ledger", defArgs s_check_ledger, defBody s_check_ledger, defScope s_check_ledger, [], []⟩
def d_worked_back : He.DefD := ⟨("worked_back", none), "worked_back", "worked_back", defArgs s_worked_back, defBody s_worked_back, defScope s_worked_back, [], []⟩
def d_slates_of_ledger : He.DefD := ⟨("slates_of_ledger", none), "slates_of_ledger", "slates_of_ledger", defArgs s_slates_of_ledger, defBody s_slates_of_ledger, defScope s_slates_of_ledger, [], []⟩
def d_ledger_break : He.DefD := ⟨("ledger_break", none), "ledger_break", "ledger_break", defArgs s_ledger_break, defBody s_ledger_break, defScope s_ledger_break, [], []⟩
def d_law_cell : He.DefD := ⟨("_law_cell", none), "_law_cell", "_law_cell", defArgs s_law_cell, defBody s_law_cell, defScope s_law_cell, [], []⟩
def d_law_source : He.DefD := ⟨("_law_source", none), "_law_source", "_law_source", defArgs s_law_source, defBody s_law_source, defScope s_law_source, [], []⟩
def d_law_draw : He.DefD := ⟨("_law_draw", none), "_law_draw", "_law_draw", defArgs s_law_draw, defBody s_law_draw, defScope s_law_draw, [], []⟩
def d_law_pick : He.DefD := ⟨("_law_pick", none), "_law_pick", "_law_pick", defArgs s_law_pick, defBody s_law_pick, defScope s_law_pick, [], []⟩
def d_law_mixed : He.DefD := ⟨("_law_mixed", none), "_law_mixed", "_law_mixed", defArgs s_law_mixed, defBody s_law_mixed, defScope s_law_mixed, [], []⟩
def d_law_same : He.DefD := ⟨("_law_same", none), "_law_same", "_law_same", defArgs s_law_same, defBody s_law_same, defScope s_law_same, [], []⟩
def d_law_loose : He.DefD := ⟨("_law_loose", none), "_law_loose", "_law_loose", defArgs s_law_loose, defBody s_law_loose, defScope s_law_loose, [], []⟩
def d_law_v_names : He.DefD := ⟨("_law_v_names", none), "_law_v_names", "_law_v_names", defArgs s_law_v_names, defBody s_law_v_names, defScope s_law_v_names, [], []⟩
def d_law_v_ties : He.DefD := ⟨("_law_v_ties", none), "_law_v_ties", "_law_v_ties", defArgs s_law_v_ties, defBody s_law_v_ties, defScope s_law_v_ties, [], []⟩
def d_law_v_drawn : He.DefD := ⟨("_law_v_drawn", none), "_law_v_drawn", "_law_v_drawn", defArgs s_law_v_drawn, defBody s_law_v_drawn, defScope s_law_v_drawn, [], []⟩
def d_law_v_great : He.DefD := ⟨("_law_v_great", none), "_law_v_great", "_law_v_great", defArgs s_law_v_great, defBody s_law_v_great, defScope s_law_v_great, [], []⟩
def d_law_v_made : He.DefD := ⟨("_law_v_made", none), "_law_v_made", "_law_v_made", defArgs s_law_v_made, defBody s_law_v_made, defScope s_law_v_made, [], []⟩
def d_law_v_friends : He.DefD := ⟨("_law_v_friends", none), "_law_v_friends", "_law_v_friends", defArgs s_law_v_friends, defBody s_law_v_friends, defScope s_law_v_friends, [], []⟩
def d_law_v_slates : He.DefD := ⟨("_law_v_slates", none), "_law_v_slates", "_law_v_slates", defArgs s_law_v_slates, defBody s_law_v_slates, defScope s_law_v_slates, [], []⟩
def d_law_v_gift : He.DefD := ⟨("_law_v_gift", none), "_law_v_gift", "_law_v_gift", defArgs s_law_v_gift, defBody s_law_v_gift, defScope s_law_v_gift, [], []⟩
def d_law_v_ledger : He.DefD := ⟨("_law_v_ledger", none), "_law_v_ledger", "_law_v_ledger", defArgs s_law_v_ledger, defBody s_law_v_ledger, defScope s_law_v_ledger, [], []⟩
def d_law_v_orders : He.DefD := ⟨("_law_v_orders", none), "_law_v_orders", "_law_v_orders", defArgs s_law_v_orders, defBody s_law_v_orders, defScope s_law_v_orders, [], []⟩
def d_law_v_all : He.DefD := ⟨("_law_v_all", none), "_law_v_all", "_law_v_all", defArgs s_law_v_all, defBody s_law_v_all, defScope s_law_v_all, [], []⟩
def d_law_v_handed : He.DefD := ⟨("_law_v_handed", none), "_law_v_handed", "_law_v_handed", defArgs s_law_v_handed, defBody s_law_v_handed, defScope s_law_v_handed, [], []⟩
def d_law_v_near : He.DefD := ⟨("_law_v_near", none), "_law_v_near", "_law_v_near", defArgs s_law_v_near, defBody s_law_v_near, defScope s_law_v_near, [], []⟩
def d_law_small_right : He.DefD := ⟨("_law_small_right", none), "_law_small_right", "_law_small_right", defArgs s_law_small_right, defBody s_law_small_right, defScope s_law_small_right, [], []⟩
def d_law_back_right : He.DefD := ⟨("_law_back_right", none), "_law_back_right", "_law_back_right", defArgs s_law_back_right, defBody s_law_back_right, defScope s_law_back_right, [], []⟩
def d_law : He.DefD := ⟨("law", none), "law", "law", defArgs s_law, defBody s_law, defScope s_law, [], []⟩
def d_Inward_init : He.DefD := ⟨("Inward", some "__init__"), "__init__", "Inward.__init__", defArgs s_Inward_init, defBody s_Inward_init, defScope s_Inward_init, [], []⟩
def d_Inward_behind : He.DefD := ⟨("Inward", some "behind"), "behind", "Inward.behind", defArgs s_Inward_behind, defBody s_Inward_behind, defScope s_Inward_behind, [], []⟩
def d_Inward_pairs : He.DefD := ⟨("Inward", some "pairs"), "pairs", "Inward.pairs", defArgs s_Inward_pairs, defBody s_Inward_pairs, defScope s_Inward_pairs, [], []⟩
def d_Inward_go_through : He.DefD := ⟨("Inward", some "go_through"), "go_through", "Inward.go_through", defArgs s_Inward_go_through, defBody s_Inward_go_through, defScope s_Inward_go_through, [], []⟩
def d_Inward_in_order : He.DefD := ⟨("Inward", some "in_order"), "in_order", "Inward.in_order", defArgs s_Inward_in_order, defBody s_Inward_in_order, defScope s_Inward_in_order, [], []⟩
def d_Village_init : He.DefD := ⟨("Village", some "__init__"), "__init__", "Village.__init__", defArgs s_Village_init, defBody s_Village_init, defScope s_Village_init, [], []⟩
def fnA : List He.DefD := [d_is_list, d_is_whole, d_is_number, d_is_positive, d_is_name, d_is_one_of, d_first_odd, d_rim_order, d_checked_people, d_is_pair_of, d_checked_ties, d_checked_news, d_check_village, d_are_numbers, d_check_ledger, d_worked_back, d_slates_of_ledger, d_ledger_break, d_law_cell, d_law_source, d_law_draw, d_law_pick, d_law_mixed, d_law_same]
def fnB : List He.DefD := [d_law_loose, d_law_v_names, d_law_v_ties, d_law_v_drawn, d_law_v_great, d_law_v_made, d_law_v_friends, d_law_v_slates, d_law_v_gift, d_law_v_ledger, d_law_v_orders, d_law_v_all, d_law_v_handed, d_law_v_near, d_law_small_right, d_law_back_right, d_law, d_Inward_init, d_Inward_behind, d_Inward_pairs, d_Inward_go_through, d_Inward_in_order, d_Village_init]
def fn : List He.DefD := fnA ++ fnB
def faA : List He.Fa := [.glo "is_list", .glo "is_whole", .glo "is_number", .glo "is_positive", .glo "is_name", .glo "is_one_of", .glo "first_odd", .glo "rim_order", .glo "checked_people", .glo "is_pair_of", .glo "checked_ties", .glo "checked_news", .glo "check_village", .glo "are_numbers", .glo "check_ledger", .glo "worked_back", .glo "slates_of_ledger", .glo "ledger_break", .glo "_law_cell", .glo "_law_source", .glo "_law_draw", .glo "_law_pick", .glo "_law_mixed", .glo "_law_same"]
def faB : List He.Fa := [.glo "_law_loose", .glo "_law_v_names", .glo "_law_v_ties", .glo "_law_v_drawn", .glo "_law_v_great", .glo "_law_v_made", .glo "_law_v_friends", .glo "_law_v_slates", .glo "_law_v_gift", .glo "_law_v_ledger", .glo "_law_v_orders", .glo "_law_v_all", .glo "_law_v_handed", .glo "_law_v_near", .glo "_law_small_right", .glo "_law_back_right", .glo "law", .glo "Inward", .glo "Village"]
def faC : List He.Fa := [.free "isinstance", .free "list", .free "tuple", .free "int", .free "bool", .free "str", .free "len", .free "all", .free "enumerate", .free "sorted", .free "dict", .free "zip", .free "range", .free "sum", .free "abs", .free "max", .free "repr", .str "LETTERS" "abcdefghijklmnopqrstuvwxyz", .str "FIGURES" "0123456789", .cls "Village", .cls "Inward", .mkr "Village", .mkr "Inward", .noat "Village" "names", .noat "Village" "own_ties", .noat "Village" "own_news", .noat "Village" "own_friends", .noat "Village" "ranks", .noat "Inward" "village", .noat "Inward" "given", .noat "Inward" "gave", .noat "Inward" "slates", .meth "Inward" "behind", .meth "Inward" "pairs", .meth "Inward" "go_through", .meth "Inward" "in_order"]
def fa : List He.Fa := faA ++ (faB ++ faC)
def tf : List He.Defn := [("rim_order", none), ("Inward", some "behind")]
def exB (K : PySem.W.Frag) : Bool := decide ((He.cT K ("rim_order", none)).2 ≠ (He.cT K ("Inward", some "behind")).2) && (He.eqO (PySem.W.findIn K (.ref (He.ga K "Village")) "__class__") (some (some (.builtin "object.__class__"))) &&
  (He.eqO (PySem.W.specialIn K (.builtin "object.__class__") "__get__") (some (some (.builtin "getset_descriptor.__get__"))) && (decide (PySem.W.takesIn K (.builtin "object.__class__") = some true) && (decide (PySem.W.mroIn K (He.ga K "Village") (.type "object") = some true) &&
  decide (PySem.W.kitOne K (.ref (He.ga K "Village")) (.ref (He.ga K "Village")) = some true)))))
def looseA : List PySem.Str := ["is_list", "is_whole", "is_number", "is_positive", "is_name", "is_one_of", "first_odd", "rim_order", "checked_people", "is_pair_of", "checked_ties", "checked_news", "check_village", "are_numbers", "check_ledger", "worked_back", "slates_of_ledger", "ledger_break", "_law_cell", "_law_source", "_law_draw", "_law_pick", "_law_mixed", "_law_same", "_law_loose", "_law_v_names", "_law_v_ties", "_law_v_drawn"]
def looseB : List PySem.Str := ["_law_v_great", "_law_v_made", "_law_v_friends", "_law_v_slates", "_law_v_gift", "_law_v_ledger", "_law_v_orders", "_law_v_all", "_law_v_handed", "_law_v_near", "_law_small_right", "_law_back_right", "__name__", "LETTERS", "FIGURES", "HeardError", "BadPeople", "BadTies", "BadNews", "BadVillage", "NoPerson", "NotFriends", "BadLedger", "Inward", "Village"]
def loose : List PySem.Str := looseA ++ looseB
abbrev R : PySem.W.OpenRow := PySem.W.OpenLaw.row PySem.Challenge.rw_heardsince_k12_whole_numbers_alone_tell
abbrev hk : PySem.W.Hook := He.hookX 5 fa fn [] tf exB
def ob (s : PySem.W.SharedT) : He.AlX := He.obsX 5 fa fn [] tf exB (HandSHeadRun.getT s)
theorem ob_eq (s : PySem.W.SharedT) : ob s = hk.obs s.abs := He.obsX_eq (HandSHeadRun.getT_eq s)
theorem run (w : World) : HandSHeadRun.RunEq R (PySem.W.view R.prog [58]) hk ob 40000 loose w := by
  intro os
  kernel_rfl
end K12

set_option maxHeartbeats 4000000
namespace K12
open PySem PySem.Spec PyProof.Rows L2 LamX NdefX
/-- where a def stands, by its qualified name -/
def eA (K : PySem.W.Frag) (x : Str) : Addr :=
  if x = "Inward.__init__" then He.ma K (He.ga K "Inward") "__init__" else
  if x = "Inward.behind" then He.ma K (He.ga K "Inward") "behind" else
  if x = "Inward.pairs" then He.ma K (He.ga K "Inward") "pairs" else
  if x = "Inward.go_through" then He.ma K (He.ga K "Inward") "go_through" else
  if x = "Inward.in_order" then He.ma K (He.ga K "Inward") "in_order" else
  if x = "Village.__init__" then He.ma K (He.ga K "Village") "__init__" else
  He.ga K x
theorem eA_glo {K : PySem.W.Frag} {x : Str} (h0 : x ≠ "Inward.__init__") (h1 : x ≠ "Inward.behind") (h2 : x ≠ "Inward.pairs") (h3 : x ≠ "Inward.go_through") (h4 : x ≠ "Inward.in_order") (h5 : x ≠ "Village.__init__") : eA K x = He.ga K x := by
  unfold eA
  rw [if_neg h0, if_neg h1, if_neg h2, if_neg h3, if_neg h4, if_neg h5]
def eD (K : PySem.W.Frag) (d0 : FuncData) (x : Str) : FuncData := match K.lookup (eA K x) with
  | some ⟨_, _, .func fd, _⟩ => fd
  | _ => d0
def evOf (P : Program) (w : World) (K : PySem.W.Frag) (mg : Str → Option Value) (base : Heap) (d0 : FuncData) : Ev :=
  ⟨P, w, K, mg, base, eA K, eD K d0, He.ga K "Village", He.ga K "Inward", (He.cT K ("rim_order", none)).1, (He.cT K ("rim_order", none)).2, (He.cT K ("Inward", some "behind")).1, (He.cT K ("Inward", some "behind")).2⟩
section
variable {P : Program} {w : World} {K : PySem.W.Frag} {mg : Str → Option Value} {base : Heap} {d0 fd : FuncData}
theorem eD_eq {x n q : Str} {p : Arguments} {b : List Stmt} {sc : Scope} {a : Addr} (ea : eA K x = a) (F : FunD K n q p b sc [] [] a fd) : eD K d0 x = fd := by
  obtain ⟨oc, od, dV, kV, doc, pm, an, cdv, ct, osl, hfd, lk, _, _, _⟩ := F.ex
  unfold eD
  rw [ea, lk]
theorem code_is {n q : Str} {p : Arguments} {b : List Stmt} {sc : Scope} {z : He.Defn} (F : FunD K n q p b sc [] [] (He.fAd K z) fd) : fd.code = .ref (He.codeOf K z) := by
  obtain ⟨oc, od, dV, kV, doc, pm, an, cdv, ct, osl, hfd, lk, hc, _, _⟩ := F.ex
  obtain ⟨c, rfl⟩ := He.codeIn_ref hc
  have e : fd.code = .ref c := by rw [hfd]
  rw [He.codeOf_eq lk e]
  exact e
theorem defQ {x f q : Str} {st : Stmt} {ps : List Str} {z : He.Defn} (ea : eA K x = He.fAd K z) (h : ∃ fd, FunD K f q (defArgs st) (defBody st) (defScope st) [] [] (He.fAd K z) fd)
    (hb : ∀ (kV doc pm : Value) (an : Option Addr) (cdv ct : Value) (us : List Value), us.length = ps.length → bindArgs (PySem.W.fnOf f q (defArgs st) (defBody st) (defScope st) .none kV doc pm an cdv ct) ⟨us, []⟩ = pure (ps.zip us)) : DefQ (evOf P w K mg base d0) x f q st ps := by
  obtain ⟨fd, F⟩ := h
  have e1 : eD K d0 x = fd := eD_eq ea F
  refine ⟨?_, ?_⟩
  · show FunD K f q _ _ _ [] [] (eA K x) (eD K d0 x)
    rw [ea, e1]; exact F
  · show Binds K (eD K d0 x) ps []
    rw [e1]; exact F.bindsN hb
theorem codeQ {x f q : Str} {p : Arguments} {b : List Stmt} {sc : Scope} {z : He.Defn} (ea : eA K x = He.fAd K z) (h : ∃ fd, FunD K f q p b sc [] [] (He.fAd K z) fd) : (eD K d0 x).code = .ref (He.codeOf K z) := by
  obtain ⟨fd, F⟩ := h
  rw [eD_eq ea F]
  exact code_is F
theorem eA_is_list : eA K "is_list" = He.fAd K ("is_list", none) := eA_glo (by decide) (by decide) (by decide) (by decide) (by decide) (by decide)
theorem eA_is_whole : eA K "is_whole" = He.fAd K ("is_whole", none) := eA_glo (by decide) (by decide) (by decide) (by decide) (by decide) (by decide)
theorem eA_is_number : eA K "is_number" = He.fAd K ("is_number", none) := eA_glo (by decide) (by decide) (by decide) (by decide) (by decide) (by decide)
theorem eA_is_positive : eA K "is_positive" = He.fAd K ("is_positive", none) := eA_glo (by decide) (by decide) (by decide) (by decide) (by decide) (by decide)
theorem eA_is_name : eA K "is_name" = He.fAd K ("is_name", none) := eA_glo (by decide) (by decide) (by decide) (by decide) (by decide) (by decide)
theorem eA_is_one_of : eA K "is_one_of" = He.fAd K ("is_one_of", none) := eA_glo (by decide) (by decide) (by decide) (by decide) (by decide) (by decide)
theorem eA_first_odd : eA K "first_odd" = He.fAd K ("first_odd", none) := eA_glo (by decide) (by decide) (by decide) (by decide) (by decide) (by decide)
theorem eA_rim_order : eA K "rim_order" = He.fAd K ("rim_order", none) := eA_glo (by decide) (by decide) (by decide) (by decide) (by decide) (by decide)
theorem eA_checked_people : eA K "checked_people" = He.fAd K ("checked_people", none) := eA_glo (by decide) (by decide) (by decide) (by decide) (by decide) (by decide)
theorem eA_is_pair_of : eA K "is_pair_of" = He.fAd K ("is_pair_of", none) := eA_glo (by decide) (by decide) (by decide) (by decide) (by decide) (by decide)
theorem eA_checked_ties : eA K "checked_ties" = He.fAd K ("checked_ties", none) := eA_glo (by decide) (by decide) (by decide) (by decide) (by decide) (by decide)
theorem eA_checked_news : eA K "checked_news" = He.fAd K ("checked_news", none) := eA_glo (by decide) (by decide) (by decide) (by decide) (by decide) (by decide)
theorem eA_check_village : eA K "check_village" = He.fAd K ("check_village", none) := eA_glo (by decide) (by decide) (by decide) (by decide) (by decide) (by decide)
theorem eA_are_numbers : eA K "are_numbers" = He.fAd K ("are_numbers", none) := eA_glo (by decide) (by decide) (by decide) (by decide) (by decide) (by decide)
theorem eA_check_ledger : eA K "check_ledger" = He.fAd K ("check_ledger", none) := eA_glo (by decide) (by decide) (by decide) (by decide) (by decide) (by decide)
theorem eA_worked_back : eA K "worked_back" = He.fAd K ("worked_back", none) := eA_glo (by decide) (by decide) (by decide) (by decide) (by decide) (by decide)
theorem eA_slates_of_ledger : eA K "slates_of_ledger" = He.fAd K ("slates_of_ledger", none) := eA_glo (by decide) (by decide) (by decide) (by decide) (by decide) (by decide)
theorem eA_ledger_break : eA K "ledger_break" = He.fAd K ("ledger_break", none) := eA_glo (by decide) (by decide) (by decide) (by decide) (by decide) (by decide)
theorem eA_law_cell : eA K "_law_cell" = He.fAd K ("_law_cell", none) := eA_glo (by decide) (by decide) (by decide) (by decide) (by decide) (by decide)
theorem eA_law_source : eA K "_law_source" = He.fAd K ("_law_source", none) := eA_glo (by decide) (by decide) (by decide) (by decide) (by decide) (by decide)
theorem eA_law_draw : eA K "_law_draw" = He.fAd K ("_law_draw", none) := eA_glo (by decide) (by decide) (by decide) (by decide) (by decide) (by decide)
theorem eA_law_pick : eA K "_law_pick" = He.fAd K ("_law_pick", none) := eA_glo (by decide) (by decide) (by decide) (by decide) (by decide) (by decide)
theorem eA_law_mixed : eA K "_law_mixed" = He.fAd K ("_law_mixed", none) := eA_glo (by decide) (by decide) (by decide) (by decide) (by decide) (by decide)
theorem eA_law_same : eA K "_law_same" = He.fAd K ("_law_same", none) := eA_glo (by decide) (by decide) (by decide) (by decide) (by decide) (by decide)
theorem eA_law_loose : eA K "_law_loose" = He.fAd K ("_law_loose", none) := eA_glo (by decide) (by decide) (by decide) (by decide) (by decide) (by decide)
theorem eA_law_v_names : eA K "_law_v_names" = He.fAd K ("_law_v_names", none) := eA_glo (by decide) (by decide) (by decide) (by decide) (by decide) (by decide)
theorem eA_law_v_ties : eA K "_law_v_ties" = He.fAd K ("_law_v_ties", none) := eA_glo (by decide) (by decide) (by decide) (by decide) (by decide) (by decide)
theorem eA_law_v_drawn : eA K "_law_v_drawn" = He.fAd K ("_law_v_drawn", none) := eA_glo (by decide) (by decide) (by decide) (by decide) (by decide) (by decide)
theorem eA_law_v_great : eA K "_law_v_great" = He.fAd K ("_law_v_great", none) := eA_glo (by decide) (by decide) (by decide) (by decide) (by decide) (by decide)
theorem eA_law_v_made : eA K "_law_v_made" = He.fAd K ("_law_v_made", none) := eA_glo (by decide) (by decide) (by decide) (by decide) (by decide) (by decide)
theorem eA_law_v_friends : eA K "_law_v_friends" = He.fAd K ("_law_v_friends", none) := eA_glo (by decide) (by decide) (by decide) (by decide) (by decide) (by decide)
theorem eA_law_v_slates : eA K "_law_v_slates" = He.fAd K ("_law_v_slates", none) := eA_glo (by decide) (by decide) (by decide) (by decide) (by decide) (by decide)
theorem eA_law_v_gift : eA K "_law_v_gift" = He.fAd K ("_law_v_gift", none) := eA_glo (by decide) (by decide) (by decide) (by decide) (by decide) (by decide)
theorem eA_law_v_ledger : eA K "_law_v_ledger" = He.fAd K ("_law_v_ledger", none) := eA_glo (by decide) (by decide) (by decide) (by decide) (by decide) (by decide)
theorem eA_law_v_orders : eA K "_law_v_orders" = He.fAd K ("_law_v_orders", none) := eA_glo (by decide) (by decide) (by decide) (by decide) (by decide) (by decide)
theorem eA_law_v_all : eA K "_law_v_all" = He.fAd K ("_law_v_all", none) := eA_glo (by decide) (by decide) (by decide) (by decide) (by decide) (by decide)
theorem eA_law_v_handed : eA K "_law_v_handed" = He.fAd K ("_law_v_handed", none) := eA_glo (by decide) (by decide) (by decide) (by decide) (by decide) (by decide)
theorem eA_law_v_near : eA K "_law_v_near" = He.fAd K ("_law_v_near", none) := eA_glo (by decide) (by decide) (by decide) (by decide) (by decide) (by decide)
theorem eA_law_small_right : eA K "_law_small_right" = He.fAd K ("_law_small_right", none) := eA_glo (by decide) (by decide) (by decide) (by decide) (by decide) (by decide)
theorem eA_law_back_right : eA K "_law_back_right" = He.fAd K ("_law_back_right", none) := eA_glo (by decide) (by decide) (by decide) (by decide) (by decide) (by decide)
theorem eA_law : eA K "law" = He.fAd K ("law", none) := eA_glo (by decide) (by decide) (by decide) (by decide) (by decide) (by decide)
theorem eA_Inward_init : eA K "Inward.__init__" = He.fAd K ("Inward", some "__init__") := by
  unfold eA
  rw [if_pos rfl]
  rfl
theorem eA_Inward_behind : eA K "Inward.behind" = He.fAd K ("Inward", some "behind") := by
  unfold eA
  rw [if_neg (by decide), if_pos rfl]
  rfl
theorem eA_Inward_pairs : eA K "Inward.pairs" = He.fAd K ("Inward", some "pairs") := by
  unfold eA
  rw [if_neg (by decide), if_neg (by decide), if_pos rfl]
  rfl
theorem eA_Inward_go_through : eA K "Inward.go_through" = He.fAd K ("Inward", some "go_through") := by
  unfold eA
  rw [if_neg (by decide), if_neg (by decide), if_neg (by decide), if_pos rfl]
  rfl
theorem eA_Inward_in_order : eA K "Inward.in_order" = He.fAd K ("Inward", some "in_order") := by
  unfold eA
  rw [if_neg (by decide), if_neg (by decide), if_neg (by decide), if_neg (by decide), if_pos rfl]
  rfl
theorem eA_Village_init : eA K "Village.__init__" = He.fAd K ("Village", some "__init__") := by
  unfold eA
  rw [if_neg (by decide), if_neg (by decide), if_neg (by decide), if_neg (by decide), if_neg (by decide), if_pos rfl]
  rfl
theorem tx {h : Heap} (X : K.In base) (G : base.Ns mainGlobals mg) (c : He.SaysX fa fn [] tf exB w h K) (tb : ∀ p ∈ tf.map (He.cT K), TabB base mg p.1 p.2) : Tx (evOf P w K mg base d0) := by
  have d := c.t.d
  obtain ⟨x1, x2⟩ := He.ba c.more
  obtain ⟨x2, x3⟩ := He.ba x2
  obtain ⟨x3, x4⟩ := He.ba x3
  obtain ⟨x4, x5⟩ := He.ba x4
  obtain ⟨x5, x6⟩ := He.ba x5
  exact {
    n_isinstance := He.free_ok X G (d.fact 43 (f := .free "isinstance") rfl),
    n_list := He.free_ok X G (d.fact 44 (f := .free "list") rfl),
    n_tuple := He.free_ok X G (d.fact 45 (f := .free "tuple") rfl),
    n_int := He.free_ok X G (d.fact 46 (f := .free "int") rfl),
    n_bool := He.free_ok X G (d.fact 47 (f := .free "bool") rfl),
    n_str := He.free_ok X G (d.fact 48 (f := .free "str") rfl),
    n_len := He.free_ok X G (d.fact 49 (f := .free "len") rfl),
    n_all := He.free_ok X G (d.fact 50 (f := .free "all") rfl),
    n_enumerate := He.free_ok X G (d.fact 51 (f := .free "enumerate") rfl),
    n_sorted := He.free_ok X G (d.fact 52 (f := .free "sorted") rfl),
    n_dict := He.free_ok X G (d.fact 53 (f := .free "dict") rfl),
    n_zip := He.free_ok X G (d.fact 54 (f := .free "zip") rfl),
    n_range := He.free_ok X G (d.fact 55 (f := .free "range") rfl),
    n_sum := He.free_ok X G (d.fact 56 (f := .free "sum") rfl),
    n_abs := He.free_ok X G (d.fact 57 (f := .free "abs") rfl),
    n_max := He.free_ok X G (d.fact 58 (f := .free "max") rfl),
    n_repr := He.free_ok X G (d.fact 59 (f := .free "repr") rfl),
    letters := He.str_ok X G (d.fact 60 (f := .str "LETTERS" "abcdefghijklmnopqrstuvwxyz") rfl),
    figures := He.str_ok X G (d.fact 61 (f := .str "FIGURES" "0123456789") rfl),
    f_is_list := { toDefQ := defQ eA_is_list (d.def_ 0 (d := d_is_list) rfl) (fun _ _ _ _ _ _ us hl => match us, hl with | [_], _ => rfl), mg := (He.glo_ok X G (d.fact 0 (f := .glo "is_list") rfl)).trans (congrArg (fun a => some (Value.ref a)) (eA_is_list (K := K)).symm) },
    f_is_whole := { toDefQ := defQ eA_is_whole (d.def_ 1 (d := d_is_whole) rfl) (fun _ _ _ _ _ _ us hl => match us, hl with | [_], _ => rfl), mg := (He.glo_ok X G (d.fact 1 (f := .glo "is_whole") rfl)).trans (congrArg (fun a => some (Value.ref a)) (eA_is_whole (K := K)).symm) },
    f_is_number := { toDefQ := defQ eA_is_number (d.def_ 2 (d := d_is_number) rfl) (fun _ _ _ _ _ _ us hl => match us, hl with | [_], _ => rfl), mg := (He.glo_ok X G (d.fact 2 (f := .glo "is_number") rfl)).trans (congrArg (fun a => some (Value.ref a)) (eA_is_number (K := K)).symm) },
    f_is_positive := { toDefQ := defQ eA_is_positive (d.def_ 3 (d := d_is_positive) rfl) (fun _ _ _ _ _ _ us hl => match us, hl with | [_], _ => rfl), mg := (He.glo_ok X G (d.fact 3 (f := .glo "is_positive") rfl)).trans (congrArg (fun a => some (Value.ref a)) (eA_is_positive (K := K)).symm) },
    f_is_name := { toDefQ := defQ eA_is_name (d.def_ 4 (d := d_is_name) rfl) (fun _ _ _ _ _ _ us hl => match us, hl with | [_], _ => rfl), mg := (He.glo_ok X G (d.fact 4 (f := .glo "is_name") rfl)).trans (congrArg (fun a => some (Value.ref a)) (eA_is_name (K := K)).symm) },
    f_is_one_of := { toDefQ := defQ eA_is_one_of (d.def_ 5 (d := d_is_one_of) rfl) (fun _ _ _ _ _ _ us hl => match us, hl with | [_, _], _ => rfl), mg := (He.glo_ok X G (d.fact 5 (f := .glo "is_one_of") rfl)).trans (congrArg (fun a => some (Value.ref a)) (eA_is_one_of (K := K)).symm) },
    f_first_odd := { toDefQ := defQ eA_first_odd (d.def_ 6 (d := d_first_odd) rfl) (fun _ _ _ _ _ _ us hl => match us, hl with | [_, _], _ => rfl), mg := (He.glo_ok X G (d.fact 6 (f := .glo "first_odd") rfl)).trans (congrArg (fun a => some (Value.ref a)) (eA_first_odd (K := K)).symm) },
    f_rim_order := { toDefQ := defQ eA_rim_order (d.def_ 7 (d := d_rim_order) rfl) (fun _ _ _ _ _ _ us hl => match us, hl with | [_], _ => rfl), mg := (He.glo_ok X G (d.fact 7 (f := .glo "rim_order") rfl)).trans (congrArg (fun a => some (Value.ref a)) (eA_rim_order (K := K)).symm) },
    f_checked_people := { toDefQ := defQ eA_checked_people (d.def_ 8 (d := d_checked_people) rfl) (fun _ _ _ _ _ _ us hl => match us, hl with | [_], _ => rfl), mg := (He.glo_ok X G (d.fact 8 (f := .glo "checked_people") rfl)).trans (congrArg (fun a => some (Value.ref a)) (eA_checked_people (K := K)).symm) },
    f_is_pair_of := { toDefQ := defQ eA_is_pair_of (d.def_ 9 (d := d_is_pair_of) rfl) (fun _ _ _ _ _ _ us hl => match us, hl with | [_, _], _ => rfl), mg := (He.glo_ok X G (d.fact 9 (f := .glo "is_pair_of") rfl)).trans (congrArg (fun a => some (Value.ref a)) (eA_is_pair_of (K := K)).symm) },
    f_checked_ties := { toDefQ := defQ eA_checked_ties (d.def_ 10 (d := d_checked_ties) rfl) (fun _ _ _ _ _ _ us hl => match us, hl with | [_, _], _ => rfl), mg := (He.glo_ok X G (d.fact 10 (f := .glo "checked_ties") rfl)).trans (congrArg (fun a => some (Value.ref a)) (eA_checked_ties (K := K)).symm) },
    f_checked_news := { toDefQ := defQ eA_checked_news (d.def_ 11 (d := d_checked_news) rfl) (fun _ _ _ _ _ _ us hl => match us, hl with | [_, _], _ => rfl), mg := (He.glo_ok X G (d.fact 11 (f := .glo "checked_news") rfl)).trans (congrArg (fun a => some (Value.ref a)) (eA_checked_news (K := K)).symm) },
    f_check_village := { toDefQ := defQ eA_check_village (d.def_ 12 (d := d_check_village) rfl) (fun _ _ _ _ _ _ us hl => match us, hl with | [_], _ => rfl), mg := (He.glo_ok X G (d.fact 12 (f := .glo "check_village") rfl)).trans (congrArg (fun a => some (Value.ref a)) (eA_check_village (K := K)).symm) },
    f_are_numbers := { toDefQ := defQ eA_are_numbers (d.def_ 13 (d := d_are_numbers) rfl) (fun _ _ _ _ _ _ us hl => match us, hl with | [_, _], _ => rfl), mg := (He.glo_ok X G (d.fact 13 (f := .glo "are_numbers") rfl)).trans (congrArg (fun a => some (Value.ref a)) (eA_are_numbers (K := K)).symm) },
    f_check_ledger := { toDefQ := defQ eA_check_ledger (d.def_ 14 (d := d_check_ledger) rfl) (fun _ _ _ _ _ _ us hl => match us, hl with | [_, _], _ => rfl), mg := (He.glo_ok X G (d.fact 14 (f := .glo "check_ledger") rfl)).trans (congrArg (fun a => some (Value.ref a)) (eA_check_ledger (K := K)).symm) },
    f_worked_back := { toDefQ := defQ eA_worked_back (d.def_ 15 (d := d_worked_back) rfl) (fun _ _ _ _ _ _ us hl => match us, hl with | [_, _, _], _ => rfl), mg := (He.glo_ok X G (d.fact 15 (f := .glo "worked_back") rfl)).trans (congrArg (fun a => some (Value.ref a)) (eA_worked_back (K := K)).symm) },
    f_slates_of_ledger := { toDefQ := defQ eA_slates_of_ledger (d.def_ 16 (d := d_slates_of_ledger) rfl) (fun _ _ _ _ _ _ us hl => match us, hl with | [_, _], _ => rfl), mg := (He.glo_ok X G (d.fact 16 (f := .glo "slates_of_ledger") rfl)).trans (congrArg (fun a => some (Value.ref a)) (eA_slates_of_ledger (K := K)).symm) },
    f_ledger_break := { toDefQ := defQ eA_ledger_break (d.def_ 17 (d := d_ledger_break) rfl) (fun _ _ _ _ _ _ us hl => match us, hl with | [_, _], _ => rfl), mg := (He.glo_ok X G (d.fact 17 (f := .glo "ledger_break") rfl)).trans (congrArg (fun a => some (Value.ref a)) (eA_ledger_break (K := K)).symm) },
    f_law_cell := { toDefQ := defQ eA_law_cell (d.def_ 18 (d := d_law_cell) rfl) (fun _ _ _ _ _ _ us hl => match us, hl with | [_, _], _ => rfl), mg := (He.glo_ok X G (d.fact 18 (f := .glo "_law_cell") rfl)).trans (congrArg (fun a => some (Value.ref a)) (eA_law_cell (K := K)).symm) },
    f_law_source := { toDefQ := defQ eA_law_source (d.def_ 19 (d := d_law_source) rfl) (fun _ _ _ _ _ _ us hl => match us, hl with | [_, _], _ => rfl), mg := (He.glo_ok X G (d.fact 19 (f := .glo "_law_source") rfl)).trans (congrArg (fun a => some (Value.ref a)) (eA_law_source (K := K)).symm) },
    f_law_draw := { toDefQ := defQ eA_law_draw (d.def_ 20 (d := d_law_draw) rfl) (fun _ _ _ _ _ _ us hl => match us, hl with | [_, _], _ => rfl), mg := (He.glo_ok X G (d.fact 20 (f := .glo "_law_draw") rfl)).trans (congrArg (fun a => some (Value.ref a)) (eA_law_draw (K := K)).symm) },
    f_law_pick := { toDefQ := defQ eA_law_pick (d.def_ 21 (d := d_law_pick) rfl) (fun _ _ _ _ _ _ us hl => match us, hl with | [_, _], _ => rfl), mg := (He.glo_ok X G (d.fact 21 (f := .glo "_law_pick") rfl)).trans (congrArg (fun a => some (Value.ref a)) (eA_law_pick (K := K)).symm) },
    f_law_mixed := { toDefQ := defQ eA_law_mixed (d.def_ 22 (d := d_law_mixed) rfl) (fun _ _ _ _ _ _ us hl => match us, hl with | [_, _], _ => rfl), mg := (He.glo_ok X G (d.fact 22 (f := .glo "_law_mixed") rfl)).trans (congrArg (fun a => some (Value.ref a)) (eA_law_mixed (K := K)).symm) },
    f_law_same := { toDefQ := defQ eA_law_same (d.def_ 23 (d := d_law_same) rfl) (fun _ _ _ _ _ _ us hl => match us, hl with | [_, _], _ => rfl), mg := (He.glo_ok X G (d.fact 23 (f := .glo "_law_same") rfl)).trans (congrArg (fun a => some (Value.ref a)) (eA_law_same (K := K)).symm) },
    f_law_loose := { toDefQ := defQ eA_law_loose (d.def_ 24 (d := d_law_loose) rfl) (fun _ _ _ _ _ _ us hl => match us, hl with | [_, _], _ => rfl), mg := (He.glo_ok X G (d.fact 24 (f := .glo "_law_loose") rfl)).trans (congrArg (fun a => some (Value.ref a)) (eA_law_loose (K := K)).symm) },
    f_law_v_names := { toDefQ := defQ eA_law_v_names (d.def_ 25 (d := d_law_v_names) rfl) (fun _ _ _ _ _ _ us hl => match us, hl with | [_, _], _ => rfl), mg := (He.glo_ok X G (d.fact 25 (f := .glo "_law_v_names") rfl)).trans (congrArg (fun a => some (Value.ref a)) (eA_law_v_names (K := K)).symm) },
    f_law_v_ties := { toDefQ := defQ eA_law_v_ties (d.def_ 26 (d := d_law_v_ties) rfl) (fun _ _ _ _ _ _ us hl => match us, hl with | [_, _], _ => rfl), mg := (He.glo_ok X G (d.fact 26 (f := .glo "_law_v_ties") rfl)).trans (congrArg (fun a => some (Value.ref a)) (eA_law_v_ties (K := K)).symm) },
    f_law_v_drawn := { toDefQ := defQ eA_law_v_drawn (d.def_ 27 (d := d_law_v_drawn) rfl) (fun _ _ _ _ _ _ us hl => match us, hl with | [_, _, _], _ => rfl), mg := (He.glo_ok X G (d.fact 27 (f := .glo "_law_v_drawn") rfl)).trans (congrArg (fun a => some (Value.ref a)) (eA_law_v_drawn (K := K)).symm) },
    f_law_v_great := { toDefQ := defQ eA_law_v_great (d.def_ 28 (d := d_law_v_great) rfl) (fun _ _ _ _ _ _ us hl => match us, hl with | [_, _], _ => rfl), mg := (He.glo_ok X G (d.fact 28 (f := .glo "_law_v_great") rfl)).trans (congrArg (fun a => some (Value.ref a)) (eA_law_v_great (K := K)).symm) },
    f_law_v_made := { toDefQ := defQ eA_law_v_made (d.def_ 29 (d := d_law_v_made) rfl) (fun _ _ _ _ _ _ us hl => match us, hl with | [_, _], _ => rfl), mg := (He.glo_ok X G (d.fact 29 (f := .glo "_law_v_made") rfl)).trans (congrArg (fun a => some (Value.ref a)) (eA_law_v_made (K := K)).symm) },
    f_law_v_friends := { toDefQ := defQ eA_law_v_friends (d.def_ 30 (d := d_law_v_friends) rfl) (fun _ _ _ _ _ _ us hl => match us, hl with | [_, _], _ => rfl), mg := (He.glo_ok X G (d.fact 30 (f := .glo "_law_v_friends") rfl)).trans (congrArg (fun a => some (Value.ref a)) (eA_law_v_friends (K := K)).symm) },
    f_law_v_slates := { toDefQ := defQ eA_law_v_slates (d.def_ 31 (d := d_law_v_slates) rfl) (fun _ _ _ _ _ _ us hl => match us, hl with | [_, _], _ => rfl), mg := (He.glo_ok X G (d.fact 31 (f := .glo "_law_v_slates") rfl)).trans (congrArg (fun a => some (Value.ref a)) (eA_law_v_slates (K := K)).symm) },
    f_law_v_gift := { toDefQ := defQ eA_law_v_gift (d.def_ 32 (d := d_law_v_gift) rfl) (fun _ _ _ _ _ _ us hl => match us, hl with | [_, _, _, _, _], _ => rfl), mg := (He.glo_ok X G (d.fact 32 (f := .glo "_law_v_gift") rfl)).trans (congrArg (fun a => some (Value.ref a)) (eA_law_v_gift (K := K)).symm) },
    f_law_v_ledger := { toDefQ := defQ eA_law_v_ledger (d.def_ 33 (d := d_law_v_ledger) rfl) (fun _ _ _ _ _ _ us hl => match us, hl with | [_, _], _ => rfl), mg := (He.glo_ok X G (d.fact 33 (f := .glo "_law_v_ledger") rfl)).trans (congrArg (fun a => some (Value.ref a)) (eA_law_v_ledger (K := K)).symm) },
    f_law_v_orders := { toDefQ := defQ eA_law_v_orders (d.def_ 34 (d := d_law_v_orders) rfl) (fun _ _ _ _ _ _ us hl => match us, hl with | [_], _ => rfl), mg := (He.glo_ok X G (d.fact 34 (f := .glo "_law_v_orders") rfl)).trans (congrArg (fun a => some (Value.ref a)) (eA_law_v_orders (K := K)).symm) },
    f_law_v_all := { toDefQ := defQ eA_law_v_all (d.def_ 35 (d := d_law_v_all) rfl) (fun _ _ _ _ _ _ us hl => match us, hl with | [_], _ => rfl), mg := (He.glo_ok X G (d.fact 35 (f := .glo "_law_v_all") rfl)).trans (congrArg (fun a => some (Value.ref a)) (eA_law_v_all (K := K)).symm) },
    f_law_v_handed := { toDefQ := defQ eA_law_v_handed (d.def_ 36 (d := d_law_v_handed) rfl) (fun _ _ _ _ _ _ us hl => match us, hl with | [_, _], _ => rfl), mg := (He.glo_ok X G (d.fact 36 (f := .glo "_law_v_handed") rfl)).trans (congrArg (fun a => some (Value.ref a)) (eA_law_v_handed (K := K)).symm) },
    f_law_v_near := { toDefQ := defQ eA_law_v_near (d.def_ 37 (d := d_law_v_near) rfl) (fun _ _ _ _ _ _ us hl => match us, hl with | [_, _, _], _ => rfl), mg := (He.glo_ok X G (d.fact 37 (f := .glo "_law_v_near") rfl)).trans (congrArg (fun a => some (Value.ref a)) (eA_law_v_near (K := K)).symm) },
    f_law_small_right := { toDefQ := defQ eA_law_small_right (d.def_ 38 (d := d_law_small_right) rfl) (fun _ _ _ _ _ _ us hl => match us, hl with | [_], _ => rfl), mg := (He.glo_ok X G (d.fact 38 (f := .glo "_law_small_right") rfl)).trans (congrArg (fun a => some (Value.ref a)) (eA_law_small_right (K := K)).symm) },
    f_law_back_right := { toDefQ := defQ eA_law_back_right (d.def_ 39 (d := d_law_back_right) rfl) (fun _ _ _ _ _ _ us hl => match us, hl with | [_, _], _ => rfl), mg := (He.glo_ok X G (d.fact 39 (f := .glo "_law_back_right") rfl)).trans (congrArg (fun a => some (Value.ref a)) (eA_law_back_right (K := K)).symm) },
    f_law := { toDefQ := defQ eA_law (d.def_ 40 (d := d_law) rfl) (fun _ _ _ _ _ _ us hl => match us, hl with | [_], _ => rfl), mg := (He.glo_ok X G (d.fact 40 (f := .glo "law") rfl)).trans (congrArg (fun a => some (Value.ref a)) (eA_law (K := K)).symm) },
    f_Inward_init := defQ eA_Inward_init (d.def_ 41 (d := d_Inward_init) rfl) (fun _ _ _ _ _ _ us hl => match us, hl with | [_, _], _ => rfl),
    f_Inward_behind := defQ eA_Inward_behind (d.def_ 42 (d := d_Inward_behind) rfl) (fun _ _ _ _ _ _ us hl => match us, hl with | [_, _, _], _ => rfl),
    f_Inward_pairs := defQ eA_Inward_pairs (d.def_ 43 (d := d_Inward_pairs) rfl) (fun _ _ _ _ _ _ us hl => match us, hl with | [_, _, _], _ => rfl),
    f_Inward_go_through := defQ eA_Inward_go_through (d.def_ 44 (d := d_Inward_go_through) rfl) (fun _ _ _ _ _ _ us hl => match us, hl with | [_, _, _, _, _], _ => rfl),
    f_Inward_in_order := defQ eA_Inward_in_order (d.def_ 45 (d := d_Inward_in_order) rfl) (fun _ _ _ _ _ _ us hl => match us, hl with | [_], _ => rfl),
    f_Village_init := defQ eA_Village_init (d.def_ 46 (d := d_Village_init) rfl) (fun _ _ _ _ _ _ us hl => match us, hl with | [_, _, _, _], _ => rfl),
    mgV := He.glo_ok X G (d.fact 42 (f := .glo "Village") rfl),
    mgI := He.glo_ok X G (d.fact 41 (f := .glo "Inward") rfl),
    clV := He.cls_ok (d.fact 62 (f := .cls "Village") rfl),
    clI := He.cls_ok (d.fact 63 (f := .cls "Inward") rfl),
    mkV := (by show Mk K (He.ga K "Village") (eA K "Village.__init__"); rw [eA_Village_init]; exact He.mkr_ok (d.fact 64 (f := .mkr "Village") rfl)),
    mkI := (by show Mk K (He.ga K "Inward") (eA K "Inward.__init__"); rw [eA_Inward_init]; exact He.mkr_ok (d.fact 65 (f := .mkr "Inward") rfl)),
    insV := ⟨He.cls_ok (d.fact 62 (f := .cls "Village") rfl), He.eqO_ok x2, He.eqO_ok x3, of_decide_eq_true x4, of_decide_eq_true x5, of_decide_eq_true x6⟩,
    code1 := codeQ eA_rim_order (d.def_ 7 (d := d_rim_order) rfl),
    code2 := codeQ eA_Inward_behind (d.def_ 42 (d := d_Inward_behind) rfl),
    tab1 := tb _ (List.mem_map.mpr ⟨("rim_order", none), by simp [tf], rfl⟩),
    tab2 := tb _ (List.mem_map.mpr ⟨("Inward", some "behind"), by simp [tf], rfl⟩),
    neP := of_decide_eq_true x1,
    v_names := He.noat_ok (d.fact 66 (f := .noat "Village" "names") rfl),
    v_own_ties := He.noat_ok (d.fact 67 (f := .noat "Village" "own_ties") rfl),
    v_own_news := He.noat_ok (d.fact 68 (f := .noat "Village" "own_news") rfl),
    v_own_friends := He.noat_ok (d.fact 69 (f := .noat "Village" "own_friends") rfl),
    v_ranks := He.noat_ok (d.fact 70 (f := .noat "Village" "ranks") rfl),
    i_village := He.noat_ok (d.fact 71 (f := .noat "Inward" "village") rfl),
    i_given := He.noat_ok (d.fact 72 (f := .noat "Inward" "given") rfl),
    i_gave := He.noat_ok (d.fact 73 (f := .noat "Inward" "gave") rfl),
    i_slates := He.noat_ok (d.fact 74 (f := .noat "Inward" "slates") rfl),
    m_behind := (by show Meth K (He.ga K "Inward") "behind" (eA K "Inward.behind"); rw [eA_Inward_behind]; exact He.meth_ok (d.fact 75 (f := .meth "Inward" "behind") rfl)),
    m_pairs := (by show Meth K (He.ga K "Inward") "pairs" (eA K "Inward.pairs"); rw [eA_Inward_pairs]; exact He.meth_ok (d.fact 76 (f := .meth "Inward" "pairs") rfl)),
    m_go_through := (by show Meth K (He.ga K "Inward") "go_through" (eA K "Inward.go_through"); rw [eA_Inward_go_through]; exact He.meth_ok (d.fact 77 (f := .meth "Inward" "go_through") rfl)),
    m_in_order := (by show Meth K (He.ga K "Inward") "in_order" (eA K "Inward.in_order"); rw [eA_Inward_in_order]; exact He.meth_ok (d.fact 78 (f := .meth "Inward" "in_order") rfl)) }
theorem law_at {h : Heap} {fa : Addr} (X : K.In h) (G : h.Ns mainGlobals mg) (c : He.SaysX K12.fa fn [] tf exB w h K) (hmg : mg ("law" : Str) = some (.ref fa)) : LawAtS PySem.Challenge.rw_heardsince_k12_whole_numbers_alone_tell w K CX0 124 63 "_law_script" mg fa h := by
  obtain ⟨fd, F⟩ := c.t.d.def_ 40 (d := d_law) rfl
  have e := hmg.symm.trans (He.glo_ok X G (c.t.d.fact 40 (f := .glo "law") rfl))
  cases e
  refine ⟨fd, tf.map (He.cT K), fun vs H Q _ => ∃ a ns G, vs = [.ref a] ∧ SqL K H a (iv ns) ∧ Wd [((He.cT K ("rim_order", none)).2, qRim), ((He.cT K ("Inward", some "behind")).2, qBeh)] G H ∧ ∀ H', Q (.bl true) H', ?_, ?_, ?_, ?_, ?_, ?_⟩
  · intro p hp
    obtain ⟨z, hz, rfl⟩ := List.mem_map.mp hp
    exact c.empty z hz
  · intro p hp
    obtain ⟨z, hz, rfl⟩ := List.mem_map.mp hp
    exact c.out z hz
  · intro p hp
    obtain ⟨z, hz, rfl⟩ := List.mem_map.mp hp
    exact PySem.W.codeHd_of_K X (c.hd z hz)
  · intro s u
    exact F.bindsA (ps := ["_law_script"]) (fun _ _ _ _ _ _ us hl => match us, hl with | [_], _ => rfl) s [u] rfl
  · intro H a ns _ _ hH hS
    refine ⟨a, ns, fun _ => none, rfl, hS, ⟨(fun _ _ h => nomatch h), (fun _ _ h => nomatch h), fun p hp => ?_⟩, fun _ => rfl⟩
    rcases List.mem_cons.mp hp with rfl | hp
    · exact TabS.nil (hH _ (List.mem_map.mpr ⟨("rim_order", none), by simp [tf], rfl⟩))
    · rw [List.mem_singleton.mp hp]
      exact TabS.nil (hH _ (List.mem_map.mpr ⟨("Inward", some "behind"), by simp [tf], rfl⟩))
  · intro base hb hg tb
    have q := ok_law (tx (P := PySem.Challenge.rw_heardsince_k12_whole_numbers_alone_tell.prog) (d0 := fd) hb hg c tb)
    have e1 : eA K "law" = He.fAd K ("law", none) := eA_law
    have e2 : eD K fd "law" = fd := eD_eq e1 F
    have q2 : FnOk _ w K mg base CX0 124 (eA K "law") (eD K fd "law") ["_law_script"] _ := q
    rw [e1, e2] at q2
    exact q2
end
end K12
open PySem PySem.W PySem.Calls PyProof.Rows
theorem PySem.Challenge.cw_heardsince_k12_whole_numbers_alone_tell_holds : PySem.Challenge.rw_heardsince_k12_whole_numbers_alone_tell.Holds := by
  w_on; o_law
  refine HandSHeadRun.head_any (r := OpenLaw.row PySem.Challenge.rw_heardsince_k12_whole_numbers_alone_tell) (q := view (OpenLaw.row PySem.Challenge.rw_heardsince_k12_whole_numbers_alone_tell).prog [58]) (H := K12.hk) (ob := K12.ob) (M := 40000) (loose := K12.loose) (d := HandSHeadRun.topDef (OpenLaw.row PySem.Challenge.rw_heardsince_k12_whole_numbers_alone_tell).prog 58) (kwd := []) K12.ob_eq
    (by kernel_rfl) (fun s => by kernel_rfl) K12.run (by kernel_rfl) (by kernel_rfl) (by kernel_rfl) (by rfl) (by first | assumption | decide +kernel) (by decide +kernel) ⟨rfl, rfl, rfl, rfl, rfl, by decide +kernel⟩ ?hw ?hc
  case hw => w_witness2
  case hc =>
    refine LamX.walk_ofTsE (l := PySem.Challenge.rw_heardsince_k12_whole_numbers_alone_tell) (n := 63) (k := 124) (x := "_law_script") (CX := fun _ => L2.CX0) rfl (by decide) (by kernel_rfl) ⟨rfl, by decide, by decide⟩ ?F (fun _ _ _ _ _ z => z)
    intro w mg fa h Y G hmg0
    obtain ⟨K, KX, c⟩ := Y
    have hmg : mg ("law" : PySem.Str) = some (.ref fa) := by
      have e : (HandSHeadRun.topDef (OpenLaw.row PySem.Challenge.rw_heardsince_k12_whole_numbers_alone_tell).prog 58).name = ("law" : PySem.Str) := by kernel_rfl
      rw [← e]
      exact hmg0
    refine ⟨K, KX, ?_⟩
    exact K12.law_at KX G c hmg

